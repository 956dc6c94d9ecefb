/- Part 28 of the proof; the last part says what is proved. -/
import Derived.Test.YtkogeiacmmckkaaGreatDoorFlowReads27
set_option linter.all false
section
open Go Go.Abs Go.Proofs Go.Argus
namespace Go.Proofs.Tryz.K
set_option maxRecDepth 10000
theorem k27 {x:Ins}:PCall Tryz.prog 27 [.agg (encIns x)] (I (writesR x)):=by
  have htr:∀ a∈[D.agg (encIns x)],Tr a:=.cons (.agg (trs_ins x)) .nil
  refine pcall_of mixed ok27 (by rw [nt27];rfl) htr (Tr.s _) ?_
  rw [rs27,sk27]
  refine w_seq_region_g ?_
  refine ao_a (e_boxA (cs:=encIns _) rfl) (by repeat' (first | exact trivial | exact rfl | refine And.intro ?_ ?_)) (by first | rfl | exact one_code hp1 hq1 | exact oneW _ | exact one_S hd1) ?_
  refine ao_p (e_assign (v:=.s (.int _ _)) rfl) (by repeat' (first | exact trivial | exact rfl | refine And.intro ?_ ?_)) trivial ?_
  refine ao_end (w_ghost (ghost_fr [(0,encIns x,45)] ⟨rfl,trivial⟩ (l:=[(1,.pt (encIns x))]) ⟨rfl,trivial⟩) (w_assoc (w_seq_region ?_)))
  (first | refine ao_p (e_faddr rfl f45_0) (by repeat' (first | exact trivial | exact rfl | refine And.intro ?_ ?_)) (p_pos c5) ?_ | refine ao_p (e_faddrR rfl rfl f45_0) (by repeat' (first | exact trivial | exact rfl | refine And.intro ?_ ?_)) (p_pos c5) ?_)
  (first | refine ao_p (e_load rfl a5) (by repeat' (first | exact trivial | exact rfl | refine And.intro ?_ ?_)) (p_load t5 c5) ?_ | refine ao_p (e_loadR rfl rfl kd a5) (by repeat' (first | exact trivial | exact rfl | refine And.intro ?_ ?_)) (p_loadR t5 c5 kd) ?_ | refine ao_p (e_loadR rfl rfl kd' a5) (by repeat' (first | exact trivial | exact rfl | refine And.intro ?_ ?_)) (p_loadR t5 c5 kd') ?_ | refine ao_p (e_loadR rfl rfl rfl a5) (by repeat' (first | exact trivial | exact rfl | refine And.intro ?_ ?_)) (p_loadR t5 c5 rfl) ?_)
  refine ao_end (w_seq_blk ?_)
  refine w_cut_g (fun s=>Ghost Tryz.prog s ⟨envL [(1,.pt (encIns x)),(4,U8 x.op),(5,B (isIn writesL1 x.op))],fun _=>none,1⟩) (w_seq_region ?_) fun s hg=>⟨_,hg,?_⟩
  · (first | refine ao_p (e_eqlK rfl rfl keql) (by repeat' (first | exact trivial | exact rfl | refine And.intro ?_ ?_)) rfl ?_ | refine ao_p (e_eqlK rfl rfl keql') (by repeat' (first | exact trivial | exact rfl | refine And.intro ?_ ?_)) rfl ?_ | refine ao_p (e_eql rfl rfl) (by repeat' (first | exact trivial | exact rfl | refine And.intro ?_ ?_)) rfl ?_)
    refine ao_p (e_assign (v:=.s (.bool _)) rfl) (by repeat' (first | exact trivial | exact rfl | refine And.intro ?_ ?_)) trivial ?_
    refine ao_end (w_if rfl (fun h=>w_skipJ ?_) fun e1=>w_seq_region ?_)
    · have h:x.op=1:=by simpa using h
      refine ghost_of ⟨rfl,rfl,?_,trivial⟩
      show D.s (.bool (x.op==1))=_
      rw [h];rfl
    (first | refine ao_p (e_eqlK rfl rfl keql) (by repeat' (first | exact trivial | exact rfl | refine And.intro ?_ ?_)) rfl ?_ | refine ao_p (e_eqlK rfl rfl keql') (by repeat' (first | exact trivial | exact rfl | refine And.intro ?_ ?_)) rfl ?_ | refine ao_p (e_eql rfl rfl) (by repeat' (first | exact trivial | exact rfl | refine And.intro ?_ ?_)) rfl ?_)
    refine ao_p (e_assign (v:=.s (.bool _)) rfl) (by repeat' (first | exact trivial | exact rfl | refine And.intro ?_ ?_)) trivial ?_
    refine ao_end (w_if rfl (fun h=>w_skipJ ?_) fun e2=>w_seq_region ?_)
    · have h:x.op=2:=by simpa using h
      refine ghost_of ⟨rfl,rfl,?_,trivial⟩
      show D.s (.bool (x.op==2))=_
      rw [h];rfl
    (first | refine ao_p (e_eqlK rfl rfl keql) (by repeat' (first | exact trivial | exact rfl | refine And.intro ?_ ?_)) rfl ?_ | refine ao_p (e_eqlK rfl rfl keql') (by repeat' (first | exact trivial | exact rfl | refine And.intro ?_ ?_)) rfl ?_ | refine ao_p (e_eql rfl rfl) (by repeat' (first | exact trivial | exact rfl | refine And.intro ?_ ?_)) rfl ?_)
    refine ao_p (e_assign (v:=.s (.bool _)) rfl) (by repeat' (first | exact trivial | exact rfl | refine And.intro ?_ ?_)) trivial ?_
    refine ao_end (w_if rfl (fun h=>w_skipJ ?_) fun e3=>w_seq_region ?_)
    · have h:x.op=3:=by simpa using h
      refine ghost_of ⟨rfl,rfl,?_,trivial⟩
      show D.s (.bool (x.op==3))=_
      rw [h];rfl
    (first | refine ao_p (e_eqlK rfl rfl keql) (by repeat' (first | exact trivial | exact rfl | refine And.intro ?_ ?_)) rfl ?_ | refine ao_p (e_eqlK rfl rfl keql') (by repeat' (first | exact trivial | exact rfl | refine And.intro ?_ ?_)) rfl ?_ | refine ao_p (e_eql rfl rfl) (by repeat' (first | exact trivial | exact rfl | refine And.intro ?_ ?_)) rfl ?_)
    refine ao_p (e_assign (v:=.s (.bool _)) rfl) (by repeat' (first | exact trivial | exact rfl | refine And.intro ?_ ?_)) trivial ?_
    refine ao_end (w_if rfl (fun h=>w_skipJ ?_) fun e4=>w_seq_region ?_)
    · have h:x.op=4:=by simpa using h
      refine ghost_of ⟨rfl,rfl,?_,trivial⟩
      show D.s (.bool (x.op==4))=_
      rw [h];rfl
    (first | refine ao_p (e_eqlK rfl rfl keql) (by repeat' (first | exact trivial | exact rfl | refine And.intro ?_ ?_)) rfl ?_ | refine ao_p (e_eqlK rfl rfl keql') (by repeat' (first | exact trivial | exact rfl | refine And.intro ?_ ?_)) rfl ?_ | refine ao_p (e_eql rfl rfl) (by repeat' (first | exact trivial | exact rfl | refine And.intro ?_ ?_)) rfl ?_)
    refine ao_p (e_assign (v:=.s (.bool _)) rfl) (by repeat' (first | exact trivial | exact rfl | refine And.intro ?_ ?_)) trivial ?_
    refine ao_end (w_if rfl (fun h=>w_skipJ ?_) fun e5=>w_seq_region ?_)
    · have h:x.op=5:=by simpa using h
      refine ghost_of ⟨rfl,rfl,?_,trivial⟩
      show D.s (.bool (x.op==5))=_
      rw [h];rfl
    (first | refine ao_p (e_eqlK rfl rfl keql) (by repeat' (first | exact trivial | exact rfl | refine And.intro ?_ ?_)) rfl ?_ | refine ao_p (e_eqlK rfl rfl keql') (by repeat' (first | exact trivial | exact rfl | refine And.intro ?_ ?_)) rfl ?_ | refine ao_p (e_eql rfl rfl) (by repeat' (first | exact trivial | exact rfl | refine And.intro ?_ ?_)) rfl ?_)
    refine ao_p (e_assign (v:=.s (.bool _)) rfl) (by repeat' (first | exact trivial | exact rfl | refine And.intro ?_ ?_)) trivial ?_
    refine ao_end (w_if rfl (fun h=>w_skipJ ?_) fun e6=>w_seq_region ?_)
    · have h:x.op=6:=by simpa using h
      refine ghost_of ⟨rfl,rfl,?_,trivial⟩
      show D.s (.bool (x.op==6))=_
      rw [h];rfl
    (first | refine ao_p (e_eqlK rfl rfl keql) (by repeat' (first | exact trivial | exact rfl | refine And.intro ?_ ?_)) rfl ?_ | refine ao_p (e_eqlK rfl rfl keql') (by repeat' (first | exact trivial | exact rfl | refine And.intro ?_ ?_)) rfl ?_ | refine ao_p (e_eql rfl rfl) (by repeat' (first | exact trivial | exact rfl | refine And.intro ?_ ?_)) rfl ?_)
    refine ao_p (e_assign (v:=.s (.bool _)) rfl) (by repeat' (first | exact trivial | exact rfl | refine And.intro ?_ ?_)) trivial ?_
    refine ao_end (w_if rfl (fun h=>w_skipJ ?_) fun e7=>w_seq_region ?_)
    · have h:x.op=7:=by simpa using h
      refine ghost_of ⟨rfl,rfl,?_,trivial⟩
      show D.s (.bool (x.op==7))=_
      rw [h];rfl
    (first | refine ao_p (e_eqlK rfl rfl keql) (by repeat' (first | exact trivial | exact rfl | refine And.intro ?_ ?_)) rfl ?_ | refine ao_p (e_eqlK rfl rfl keql') (by repeat' (first | exact trivial | exact rfl | refine And.intro ?_ ?_)) rfl ?_ | refine ao_p (e_eql rfl rfl) (by repeat' (first | exact trivial | exact rfl | refine And.intro ?_ ?_)) rfl ?_)
    refine ao_p (e_assign (v:=.s (.bool _)) rfl) (by repeat' (first | exact trivial | exact rfl | refine And.intro ?_ ?_)) trivial ?_
    refine ao_end (w_if rfl (fun h=>w_skipJ ?_) fun e8=>w_seq_region ?_)
    · have h:x.op=8:=by simpa using h
      refine ghost_of ⟨rfl,rfl,?_,trivial⟩
      show D.s (.bool (x.op==8))=_
      rw [h];rfl
    (first | refine ao_p (e_eqlK rfl rfl keql) (by repeat' (first | exact trivial | exact rfl | refine And.intro ?_ ?_)) rfl ?_ | refine ao_p (e_eqlK rfl rfl keql') (by repeat' (first | exact trivial | exact rfl | refine And.intro ?_ ?_)) rfl ?_ | refine ao_p (e_eql rfl rfl) (by repeat' (first | exact trivial | exact rfl | refine And.intro ?_ ?_)) rfl ?_)
    refine ao_p (e_assign (v:=.s (.bool _)) rfl) (by repeat' (first | exact trivial | exact rfl | refine And.intro ?_ ?_)) trivial ?_
    refine ao_end (w_if rfl (fun h=>w_skipJ ?_) fun e9=>w_seq_region ?_)
    · have h:x.op=9:=by simpa using h
      refine ghost_of ⟨rfl,rfl,?_,trivial⟩
      show D.s (.bool (x.op==9))=_
      rw [h];rfl
    (first | refine ao_p (e_eqlK rfl rfl keql) (by repeat' (first | exact trivial | exact rfl | refine And.intro ?_ ?_)) rfl ?_ | refine ao_p (e_eqlK rfl rfl keql') (by repeat' (first | exact trivial | exact rfl | refine And.intro ?_ ?_)) rfl ?_ | refine ao_p (e_eql rfl rfl) (by repeat' (first | exact trivial | exact rfl | refine And.intro ?_ ?_)) rfl ?_)
    refine ao_p (e_assign (v:=.s (.bool _)) rfl) (by repeat' (first | exact trivial | exact rfl | refine And.intro ?_ ?_)) trivial ?_
    refine ao_end (w_if rfl (fun h=>w_skipJ ?_) fun e10=>w_seq_region ?_)
    · have h:x.op=10:=by simpa using h
      refine ghost_of ⟨rfl,rfl,?_,trivial⟩
      show D.s (.bool (x.op==10))=_
      rw [h];rfl
    (first | refine ao_p (e_eqlK rfl rfl keql) (by repeat' (first | exact trivial | exact rfl | refine And.intro ?_ ?_)) rfl ?_ | refine ao_p (e_eqlK rfl rfl keql') (by repeat' (first | exact trivial | exact rfl | refine And.intro ?_ ?_)) rfl ?_ | refine ao_p (e_eql rfl rfl) (by repeat' (first | exact trivial | exact rfl | refine And.intro ?_ ?_)) rfl ?_)
    refine ao_p (e_assign (v:=.s (.bool _)) rfl) (by repeat' (first | exact trivial | exact rfl | refine And.intro ?_ ?_)) trivial ?_
    refine ao_end (w_if rfl (fun h=>w_skipJ ?_) fun e11=>w_seq_region ?_)
    · have h:x.op=11:=by simpa using h
      refine ghost_of ⟨rfl,rfl,?_,trivial⟩
      show D.s (.bool (x.op==11))=_
      rw [h];rfl
    (first | refine ao_p (e_eqlK rfl rfl keql) (by repeat' (first | exact trivial | exact rfl | refine And.intro ?_ ?_)) rfl ?_ | refine ao_p (e_eqlK rfl rfl keql') (by repeat' (first | exact trivial | exact rfl | refine And.intro ?_ ?_)) rfl ?_ | refine ao_p (e_eql rfl rfl) (by repeat' (first | exact trivial | exact rfl | refine And.intro ?_ ?_)) rfl ?_)
    refine ao_p (e_assign (v:=.s (.bool _)) rfl) (by repeat' (first | exact trivial | exact rfl | refine And.intro ?_ ?_)) trivial ?_
    refine ao_end (w_if rfl (fun h=>w_skipJ ?_) fun e13=>w_seq_region ?_)
    · have h:x.op=13:=by simpa using h
      refine ghost_of ⟨rfl,rfl,?_,trivial⟩
      show D.s (.bool (x.op==13))=_
      rw [h];rfl
    (first | refine ao_p (e_eqlK rfl rfl keql) (by repeat' (first | exact trivial | exact rfl | refine And.intro ?_ ?_)) rfl ?_ | refine ao_p (e_eqlK rfl rfl keql') (by repeat' (first | exact trivial | exact rfl | refine And.intro ?_ ?_)) rfl ?_ | refine ao_p (e_eql rfl rfl) (by repeat' (first | exact trivial | exact rfl | refine And.intro ?_ ?_)) rfl ?_)
    refine ao_p (e_assign (v:=.s (.bool _)) rfl) (by repeat' (first | exact trivial | exact rfl | refine And.intro ?_ ?_)) trivial ?_
    refine ao_end (w_if rfl (fun h=>w_skipJ ?_) fun e14=>w_seq_region ?_)
    · have h:x.op=14:=by simpa using h
      refine ghost_of ⟨rfl,rfl,?_,trivial⟩
      show D.s (.bool (x.op==14))=_
      rw [h];rfl
    (first | refine ao_p (e_eqlK rfl rfl keql) (by repeat' (first | exact trivial | exact rfl | refine And.intro ?_ ?_)) rfl ?_ | refine ao_p (e_eqlK rfl rfl keql') (by repeat' (first | exact trivial | exact rfl | refine And.intro ?_ ?_)) rfl ?_ | refine ao_p (e_eql rfl rfl) (by repeat' (first | exact trivial | exact rfl | refine And.intro ?_ ?_)) rfl ?_)
    refine ao_p (e_assign (v:=.s (.bool _)) rfl) (by repeat' (first | exact trivial | exact rfl | refine And.intro ?_ ?_)) trivial ?_
    refine ao_end (w_if rfl (fun h=>w_skipJ ?_) fun e17=>w_regJ ?_)
    · have h:x.op=17:=by simpa using h
      refine ghost_of ⟨rfl,rfl,?_,trivial⟩
      show D.s (.bool (x.op==17))=_
      rw [h];rfl
    (first | refine ao_p (e_eqlK rfl rfl keql) (by repeat' (first | exact trivial | exact rfl | refine And.intro ?_ ?_)) rfl ?_ | refine ao_p (e_eqlK rfl rfl keql') (by repeat' (first | exact trivial | exact rfl | refine And.intro ?_ ?_)) rfl ?_ | refine ao_p (e_eql rfl rfl) (by repeat' (first | exact trivial | exact rfl | refine And.intro ?_ ?_)) rfl ?_)
    refine ao_p (e_assign (v:=.s (.bool _)) rfl) (by repeat' (first | exact trivial | exact rfl | refine And.intro ?_ ?_)) trivial ?_
    refine ao_end ?_
    refine ghost_of ⟨rfl,rfl,?_,trivial⟩
    show D.s (.bool (x.op==19))=_
    simp [isIn,writesL1,e1,e2,e3,e4,e5,e6,e7,e8,e9,e10,e11,e13,e14,e17]
  refine w_if rfl (fun h1=>?_) fun h1=>?_
  · refine w_seq_region ?_
    (first | refine ao_p (e_faddr rfl f45_1) (by repeat' (first | exact trivial | exact rfl | refine And.intro ?_ ?_)) (p_pos c3) ?_ | refine ao_p (e_faddrR rfl rfl f45_1) (by repeat' (first | exact trivial | exact rfl | refine And.intro ?_ ?_)) (p_pos c3) ?_)
    (first | refine ao_p (e_load rfl a3) (by repeat' (first | exact trivial | exact rfl | refine And.intro ?_ ?_)) (p_load t3 c3) ?_ | refine ao_p (e_loadR rfl rfl kd a3) (by repeat' (first | exact trivial | exact rfl | refine And.intro ?_ ?_)) (p_loadR t3 c3 kd) ?_ | refine ao_p (e_loadR rfl rfl kd' a3) (by repeat' (first | exact trivial | exact rfl | refine And.intro ?_ ?_)) (p_loadR t3 c3 kd') ?_ | refine ao_p (e_loadR rfl rfl rfl a3) (by repeat' (first | exact trivial | exact rfl | refine And.intro ?_ ?_)) (p_loadR t3 c3 rfl) ?_)
    refine ao_p (e_assign (v:=.s (.int _ _)) rfl) (by repeat' (first | exact trivial | exact rfl | refine And.intro ?_ ?_)) trivial ?_
    refine ao_end (w_ret (j_block (j_seq (q_ret1 (d:=I x.to) rfl ?_))))
    simp [writesR,h1]
  refine w_cut_g (fun s=>Ghost Tryz.prog s ⟨envL [(1,.pt (encIns x)),(4,U8 x.op),(23,B (isIn writesL2 x.op))],fun _=>none,1⟩) (w_seq_region ?_) fun s hg=>⟨_,hg,?_⟩
  · (first | refine ao_p (e_eqlK rfl rfl keql) (by repeat' (first | exact trivial | exact rfl | refine And.intro ?_ ?_)) rfl ?_ | refine ao_p (e_eqlK rfl rfl keql') (by repeat' (first | exact trivial | exact rfl | refine And.intro ?_ ?_)) rfl ?_ | refine ao_p (e_eql rfl rfl) (by repeat' (first | exact trivial | exact rfl | refine And.intro ?_ ?_)) rfl ?_)
    refine ao_p (e_assign (v:=.s (.bool _)) rfl) (by repeat' (first | exact trivial | exact rfl | refine And.intro ?_ ?_)) trivial ?_
    refine ao_end (w_if rfl (fun h=>w_skipJ ?_) fun e30=>w_seq_region ?_)
    · have h:x.op=30:=by simpa using h
      refine ghost_of ⟨rfl,rfl,?_,trivial⟩
      show D.s (.bool (x.op==30))=_
      rw [h];rfl
    (first | refine ao_p (e_eqlK rfl rfl keql) (by repeat' (first | exact trivial | exact rfl | refine And.intro ?_ ?_)) rfl ?_ | refine ao_p (e_eqlK rfl rfl keql') (by repeat' (first | exact trivial | exact rfl | refine And.intro ?_ ?_)) rfl ?_ | refine ao_p (e_eql rfl rfl) (by repeat' (first | exact trivial | exact rfl | refine And.intro ?_ ?_)) rfl ?_)
    refine ao_p (e_assign (v:=.s (.bool _)) rfl) (by repeat' (first | exact trivial | exact rfl | refine And.intro ?_ ?_)) trivial ?_
    refine ao_end (w_if rfl (fun h=>w_skipJ ?_) fun e31=>w_seq_region ?_)
    · have h:x.op=31:=by simpa using h
      refine ghost_of ⟨rfl,rfl,?_,trivial⟩
      show D.s (.bool (x.op==31))=_
      rw [h];rfl
    (first | refine ao_p (e_eqlK rfl rfl keql) (by repeat' (first | exact trivial | exact rfl | refine And.intro ?_ ?_)) rfl ?_ | refine ao_p (e_eqlK rfl rfl keql') (by repeat' (first | exact trivial | exact rfl | refine And.intro ?_ ?_)) rfl ?_ | refine ao_p (e_eql rfl rfl) (by repeat' (first | exact trivial | exact rfl | refine And.intro ?_ ?_)) rfl ?_)
    refine ao_p (e_assign (v:=.s (.bool _)) rfl) (by repeat' (first | exact trivial | exact rfl | refine And.intro ?_ ?_)) trivial ?_
    refine ao_end (w_if rfl (fun h=>w_skipJ ?_) fun e32=>w_seq_region ?_)
    · have h:x.op=32:=by simpa using h
      refine ghost_of ⟨rfl,rfl,?_,trivial⟩
      show D.s (.bool (x.op==32))=_
      rw [h];rfl
    (first | refine ao_p (e_eqlK rfl rfl keql) (by repeat' (first | exact trivial | exact rfl | refine And.intro ?_ ?_)) rfl ?_ | refine ao_p (e_eqlK rfl rfl keql') (by repeat' (first | exact trivial | exact rfl | refine And.intro ?_ ?_)) rfl ?_ | refine ao_p (e_eql rfl rfl) (by repeat' (first | exact trivial | exact rfl | refine And.intro ?_ ?_)) rfl ?_)
    refine ao_p (e_assign (v:=.s (.bool _)) rfl) (by repeat' (first | exact trivial | exact rfl | refine And.intro ?_ ?_)) trivial ?_
    refine ao_end (w_if rfl (fun h=>w_skipJ ?_) fun e33=>w_seq_region ?_)
    · have h:x.op=33:=by simpa using h
      refine ghost_of ⟨rfl,rfl,?_,trivial⟩
      show D.s (.bool (x.op==33))=_
      rw [h];rfl
    (first | refine ao_p (e_eqlK rfl rfl keql) (by repeat' (first | exact trivial | exact rfl | refine And.intro ?_ ?_)) rfl ?_ | refine ao_p (e_eqlK rfl rfl keql') (by repeat' (first | exact trivial | exact rfl | refine And.intro ?_ ?_)) rfl ?_ | refine ao_p (e_eql rfl rfl) (by repeat' (first | exact trivial | exact rfl | refine And.intro ?_ ?_)) rfl ?_)
    refine ao_p (e_assign (v:=.s (.bool _)) rfl) (by repeat' (first | exact trivial | exact rfl | refine And.intro ?_ ?_)) trivial ?_
    refine ao_end (w_if rfl (fun h=>w_skipJ ?_) fun e23=>w_seq_region ?_)
    · have h:x.op=34:=by simpa using h
      refine ghost_of ⟨rfl,rfl,?_,trivial⟩
      show D.s (.bool (x.op==34))=_
      rw [h];rfl
    (first | refine ao_p (e_eqlK rfl rfl keql) (by repeat' (first | exact trivial | exact rfl | refine And.intro ?_ ?_)) rfl ?_ | refine ao_p (e_eqlK rfl rfl keql') (by repeat' (first | exact trivial | exact rfl | refine And.intro ?_ ?_)) rfl ?_ | refine ao_p (e_eql rfl rfl) (by repeat' (first | exact trivial | exact rfl | refine And.intro ?_ ?_)) rfl ?_)
    refine ao_p (e_assign (v:=.s (.bool _)) rfl) (by repeat' (first | exact trivial | exact rfl | refine And.intro ?_ ?_)) trivial ?_
    refine ao_end (w_if rfl (fun h=>w_skipJ ?_) fun e36=>w_regJ ?_)
    · have h:x.op=36:=by simpa using h
      refine ghost_of ⟨rfl,rfl,?_,trivial⟩
      show D.s (.bool (x.op==36))=_
      rw [h];rfl
    (first | refine ao_p (e_eqlK rfl rfl keql) (by repeat' (first | exact trivial | exact rfl | refine And.intro ?_ ?_)) rfl ?_ | refine ao_p (e_eqlK rfl rfl keql') (by repeat' (first | exact trivial | exact rfl | refine And.intro ?_ ?_)) rfl ?_ | refine ao_p (e_eql rfl rfl) (by repeat' (first | exact trivial | exact rfl | refine And.intro ?_ ?_)) rfl ?_)
    refine ao_p (e_assign (v:=.s (.bool _)) rfl) (by repeat' (first | exact trivial | exact rfl | refine And.intro ?_ ?_)) trivial ?_
    refine ao_end ?_
    refine ghost_of ⟨rfl,rfl,?_,trivial⟩
    show D.s (.bool (x.op==37))=_
    simp [isIn,writesL2,e30,e31,e32,e33,e23,e36]
  refine w_if rfl (fun h2=>?_) fun h2=>?_
  · refine w_seq_region ?_
    (first | refine ao_p (e_faddr rfl f45_1) (by repeat' (first | exact trivial | exact rfl | refine And.intro ?_ ?_)) (p_pos c3) ?_ | refine ao_p (e_faddrR rfl rfl f45_1) (by repeat' (first | exact trivial | exact rfl | refine And.intro ?_ ?_)) (p_pos c3) ?_)
    (first | refine ao_p (e_load rfl a3) (by repeat' (first | exact trivial | exact rfl | refine And.intro ?_ ?_)) (p_load t3 c3) ?_ | refine ao_p (e_loadR rfl rfl kd a3) (by repeat' (first | exact trivial | exact rfl | refine And.intro ?_ ?_)) (p_loadR t3 c3 kd) ?_ | refine ao_p (e_loadR rfl rfl kd' a3) (by repeat' (first | exact trivial | exact rfl | refine And.intro ?_ ?_)) (p_loadR t3 c3 kd') ?_ | refine ao_p (e_loadR rfl rfl rfl a3) (by repeat' (first | exact trivial | exact rfl | refine And.intro ?_ ?_)) (p_loadR t3 c3 rfl) ?_)
    refine ao_p (e_assign (v:=.s (.int _ _)) rfl) (by repeat' (first | exact trivial | exact rfl | refine And.intro ?_ ?_)) trivial ?_
    refine ao_end (w_ret (j_block (j_seq (q_ret1 (d:=I x.to) rfl ?_))))
    simp [writesR,h2]
  refine w_endB (w_seq_region ?_)
  refine ao_p (e_assign (v:=.s (.int _ _)) rfl) (by repeat' (first | exact trivial | exact rfl | refine And.intro ?_ ?_)) trivial ?_
  refine ao_end (q_ret1 (d:=I (-1)) rfl ?_)
  simp [writesR,h1,h2]
theorem k31 {x:Argus.End}:PCall Tryz.prog 31 [.agg (encEnd x)] (I (writesEnd x)):=by
  have htr:∀ a∈[D.agg (encEnd x)],Tr a:=.cons (.agg (trs_end x)) .nil
  have k27:=k27 (x:=x.ins)
  refine pcall_of mixed ok31 (by rw [nt31];rfl) htr (Tr.s _) ?_
  rw [rs31,sk31]
  refine w_seq_region_g ?_
  refine ao_a (e_boxA (cs:=encEnd _) rfl) (by repeat' (first | exact trivial | exact rfl | refine And.intro ?_ ?_)) (by first | rfl | exact one_code hp1 hq1 | exact oneW _ | exact one_S hd1) ?_
  refine ao_p (e_assign (v:=.s (.int _ _)) rfl) (by repeat' (first | exact trivial | exact rfl | refine And.intro ?_ ?_)) trivial ?_
  refine ao_end (w_ghost (ghost_fr [(0,encEnd x,48)] ⟨rfl,trivial⟩ (l:=[(1,.pt (encEnd x))]) ⟨rfl,trivial⟩) (w_assoc (w_seq_region ?_)))
  (first | refine ao_p (e_faddr rfl f48_0) (by repeat' (first | exact trivial | exact rfl | refine And.intro ?_ ?_)) (p_pos c5) ?_ | refine ao_p (e_faddrR rfl rfl f48_0) (by repeat' (first | exact trivial | exact rfl | refine And.intro ?_ ?_)) (p_pos c5) ?_)
  (first | refine ao_p (e_load rfl a5) (by repeat' (first | exact trivial | exact rfl | refine And.intro ?_ ?_)) (p_load t5 c5) ?_ | refine ao_p (e_loadR rfl rfl kd a5) (by repeat' (first | exact trivial | exact rfl | refine And.intro ?_ ?_)) (p_loadR t5 c5 kd) ?_ | refine ao_p (e_loadR rfl rfl kd' a5) (by repeat' (first | exact trivial | exact rfl | refine And.intro ?_ ?_)) (p_loadR t5 c5 kd') ?_ | refine ao_p (e_loadR rfl rfl rfl a5) (by repeat' (first | exact trivial | exact rfl | refine And.intro ?_ ?_)) (p_loadR t5 c5 rfl) ?_)
  refine ao_end (w_seq_blk (w_seq_region ?_))
  (first | refine ao_p (e_eqlK rfl rfl keql) (by repeat' (first | exact trivial | exact rfl | refine And.intro ?_ ?_)) rfl ?_ | refine ao_p (e_eqlK rfl rfl keql') (by repeat' (first | exact trivial | exact rfl | refine And.intro ?_ ?_)) rfl ?_ | refine ao_p (e_eql rfl rfl) (by repeat' (first | exact trivial | exact rfl | refine And.intro ?_ ?_)) rfl ?_)
  refine ao_p (e_assign (v:=.s (.bool _)) rfl) (by repeat' (first | exact trivial | exact rfl | refine And.intro ?_ ?_)) trivial ?_
  refine ao_end (w_if rfl (fun h1=>?_) fun h1=>?_)
  · have h1:x.kind=5:=by simpa using h1
    refine w_seq_region ?_
    (first | refine ao_p (e_faddr rfl f48_6) (by repeat' (first | exact trivial | exact rfl | refine And.intro ?_ ?_)) (p_pos c45) ?_ | refine ao_p (e_faddrR rfl rfl f48_6) (by repeat' (first | exact trivial | exact rfl | refine And.intro ?_ ?_)) (p_pos c45) ?_)
    (first | refine ao_p (e_loadA (vs:=encIns _) rfl a45 c45 rfl) (by repeat' (first | exact trivial | exact rfl | refine And.intro ?_ ?_)) (p_loadA t45 c45 (by simp)) ?_ | refine ao_p (e_loadRA (vs:=encIns _) rfl rfl a45 c45 rfl) (by repeat' (first | exact trivial | exact rfl | refine And.intro ?_ ?_)) (p_loadRA t45 c45 (by first | (simp;done) | omega | exact Nat.le_of_ble_eq_true rfl)) ?_ | refine ao_p (e_loadRA rfl rfl a45 c45 rfl) (by repeat' (first | exact trivial | exact rfl | refine And.intro ?_ ?_)) (p_loadRA t45 c45 (by first | (simp;done) | omega | exact Nat.le_of_ble_eq_true rfl)) ?_)
    (first | refine ao_pc k27 rfl (by repeat' (first | exact trivial | exact rfl | refine And.intro ?_ ?_)) ?_ | refine ao_sc k27 rfl (ks27 rfl) rfl (by repeat' (first | exact trivial | exact rfl | refine And.intro ?_ ?_)) ?_)
    refine ao_p (e_assign (v:=.s (.int _ _)) rfl) (by repeat' (first | exact trivial | exact rfl | refine And.intro ?_ ?_)) trivial ?_
    refine ao_end (w_ret (j_block (j_seq (q_ret1 (d:=I (writesR x.ins)) rfl ?_))))
    simp [writesEnd,h1]
  have h1:¬ x.kind=5:=by simpa using h1
  refine w_cut_g (fun s=>Ghost Tryz.prog s ⟨envL [(1,.pt (encEnd x)),(4,U8 x.kind),(10,B (isIn [6,7] x.kind))],fun _=>none,1⟩) (w_seq_region ?_) fun s hg=>⟨_,hg,?_⟩
  · (first | refine ao_p (e_eqlK rfl rfl keql) (by repeat' (first | exact trivial | exact rfl | refine And.intro ?_ ?_)) rfl ?_ | refine ao_p (e_eqlK rfl rfl keql') (by repeat' (first | exact trivial | exact rfl | refine And.intro ?_ ?_)) rfl ?_ | refine ao_p (e_eql rfl rfl) (by repeat' (first | exact trivial | exact rfl | refine And.intro ?_ ?_)) rfl ?_)
    refine ao_p (e_assign (v:=.s (.bool _)) rfl) (by repeat' (first | exact trivial | exact rfl | refine And.intro ?_ ?_)) trivial ?_
    refine ao_end (w_if rfl (fun h=>w_skipJ ?_) fun e6=>w_regJ ?_)
    · have h:x.kind=6:=by simpa using h
      refine ghost_of ⟨rfl,rfl,?_,trivial⟩
      show D.s (.bool (x.kind==6))=_
      rw [h];rfl
    (first | refine ao_p (e_eqlK rfl rfl keql) (by repeat' (first | exact trivial | exact rfl | refine And.intro ?_ ?_)) rfl ?_ | refine ao_p (e_eqlK rfl rfl keql') (by repeat' (first | exact trivial | exact rfl | refine And.intro ?_ ?_)) rfl ?_ | refine ao_p (e_eql rfl rfl) (by repeat' (first | exact trivial | exact rfl | refine And.intro ?_ ?_)) rfl ?_)
    refine ao_p (e_assign (v:=.s (.bool _)) rfl) (by repeat' (first | exact trivial | exact rfl | refine And.intro ?_ ?_)) trivial ?_
    refine ao_end ?_
    refine ghost_of ⟨rfl,rfl,?_,trivial⟩
    show D.s (.bool (x.kind==7))=_
    simp [isIn,e6]
  refine w_if rfl (fun h2=>?_) fun h2=>?_
  · refine w_seq_region ?_
    (first | refine ao_p (e_faddr rfl f48_1) (by repeat' (first | exact trivial | exact rfl | refine And.intro ?_ ?_)) (p_pos c3) ?_ | refine ao_p (e_faddrR rfl rfl f48_1) (by repeat' (first | exact trivial | exact rfl | refine And.intro ?_ ?_)) (p_pos c3) ?_)
    (first | refine ao_p (e_load rfl a3) (by repeat' (first | exact trivial | exact rfl | refine And.intro ?_ ?_)) (p_load t3 c3) ?_ | refine ao_p (e_loadR rfl rfl kd a3) (by repeat' (first | exact trivial | exact rfl | refine And.intro ?_ ?_)) (p_loadR t3 c3 kd) ?_ | refine ao_p (e_loadR rfl rfl kd' a3) (by repeat' (first | exact trivial | exact rfl | refine And.intro ?_ ?_)) (p_loadR t3 c3 kd') ?_ | refine ao_p (e_loadR rfl rfl rfl a3) (by repeat' (first | exact trivial | exact rfl | refine And.intro ?_ ?_)) (p_loadR t3 c3 rfl) ?_)
    refine ao_p (e_assign (v:=.s (.int _ _)) rfl) (by repeat' (first | exact trivial | exact rfl | refine And.intro ?_ ?_)) trivial ?_
    refine ao_end (w_ret (j_block (j_seq (q_ret1 (d:=I x.a) rfl ?_))))
    simp [writesEnd,h1,h2]
  refine w_seq_region ?_
  (first | refine ao_p (e_eqlK rfl rfl keql) (by repeat' (first | exact trivial | exact rfl | refine And.intro ?_ ?_)) rfl ?_ | refine ao_p (e_eqlK rfl rfl keql') (by repeat' (first | exact trivial | exact rfl | refine And.intro ?_ ?_)) rfl ?_ | refine ao_p (e_eql rfl rfl) (by repeat' (first | exact trivial | exact rfl | refine And.intro ?_ ?_)) rfl ?_)
  refine ao_p (e_assign (v:=.s (.bool _)) rfl) (by repeat' (first | exact trivial | exact rfl | refine And.intro ?_ ?_)) trivial ?_
  refine ao_end (w_if rfl (fun h3=>?_) fun h3=>?_)
  · have h3:x.kind=8:=by simpa using h3
    refine w_seq_region ?_
    (first | refine ao_p (e_faddr rfl f48_2) (by repeat' (first | exact trivial | exact rfl | refine And.intro ?_ ?_)) (p_pos c3) ?_ | refine ao_p (e_faddrR rfl rfl f48_2) (by repeat' (first | exact trivial | exact rfl | refine And.intro ?_ ?_)) (p_pos c3) ?_)
    (first | refine ao_p (e_load rfl a3) (by repeat' (first | exact trivial | exact rfl | refine And.intro ?_ ?_)) (p_load t3 c3) ?_ | refine ao_p (e_loadR rfl rfl kd a3) (by repeat' (first | exact trivial | exact rfl | refine And.intro ?_ ?_)) (p_loadR t3 c3 kd) ?_ | refine ao_p (e_loadR rfl rfl kd' a3) (by repeat' (first | exact trivial | exact rfl | refine And.intro ?_ ?_)) (p_loadR t3 c3 kd') ?_ | refine ao_p (e_loadR rfl rfl rfl a3) (by repeat' (first | exact trivial | exact rfl | refine And.intro ?_ ?_)) (p_loadR t3 c3 rfl) ?_)
    refine ao_p (e_assign (v:=.s (.int _ _)) rfl) (by repeat' (first | exact trivial | exact rfl | refine And.intro ?_ ?_)) trivial ?_
    refine ao_end (w_ret (j_block (j_seq (q_ret1 (d:=I x.b) rfl ?_))))
    simp [writesEnd,h2,h3]
    simp [isIn]
  have h3:¬ x.kind=8:=by simpa using h3
  refine w_endB (w_seq_region ?_)
  refine ao_p (e_assign (v:=.s (.int _ _)) rfl) (by repeat' (first | exact trivial | exact rfl | refine And.intro ?_ ?_)) trivial ?_
  refine ao_end (q_ret1 (d:=I (-1)) rfl ?_)
  simp [writesEnd,h1,h2,h3]
theorem k88 {l:List Int} (hl:l.length≤100000):PCall Tryz.prog 88 [encInts l] (encInts l):=by
  have htr:∀ a∈[encInts l],Tr a:=.cons (tr_ints _) .nil
  refine pcall_of mixed ok88 (by rw [nt88];rfl) htr (tr_ints _) ?_
  rw [rs88,sk88]
  have kapp:(l.map I).take (l.length*1)=l.map I:=List.take_of_length_le (by simp)
  have last:AW Tryz.prog noY true (.seq (.region 3 r88_3 false) .ret) (retQ Tryz.prog [.tmp 2] fun d x=>d=encInts l) ⟨envL [(0,encInts l)],fun _=>none,0⟩:=by
    refine w_seq_region_g ?_
    (first | refine ao_a (e_buildSl (cs:=[]) e35 c3 z3 rfl rfl) (by repeat' (first | exact trivial | exact rfl | refine And.intro ?_ ?_)) ⟨rfl,by decide,sl35,by decide⟩ ?_ | refine ao_a (e_buildSl e35 c3 z3 rfl rfl) (by repeat' (first | exact trivial | exact rfl | refine And.intro ?_ ?_)) ⟨rfl,by decide,sl35,by decide⟩ ?_)
    (first | refine ao_p (e_move (v:=.sl _ _) rfl) (by repeat' (first | exact trivial | exact rfl | refine And.intro ?_ ?_)) trivial ?_ | refine ao_p (e_move (v:=.rs _ _ _) rfl) (by repeat' (first | exact trivial | exact rfl | refine And.intro ?_ ?_)) trivial ?_ | refine ao_p (e_move (v:=.z) rfl) (by repeat' (first | exact trivial | exact rfl | refine And.intro ?_ ?_)) trivial ?_)
    (first | refine an_a (n_appSc rfl e35 c3 (cells_rs rfl rfl).ok (by first | rfl | trivial | (simp;done) | (simp;omega) | exact Nat.le_of_ble_eq_true rfl) sl35 (by first | rfl | (simp;done) | omega) (by decide) (by decide) (by unfold maxLen;first | omega | (simp;omega)) (by rw [b3];first | omega | (simp;omega))) (by repeat' (first | exact trivial | exact rfl | refine And.intro ?_ ?_)) ?_ | refine ao_m (e_appR rfl rfl rfl e35 c3 (cells_sl kapp) rfl) (by repeat' (first | exact trivial | exact rfl | refine And.intro ?_ ?_)) ⟨sl35,rfl,(by first | omega | exact Nat.le_of_ble_eq_true rfl | (simp;done) | (simp;omega)),(by decide),(by first | rfl | (simp;done) | (simp;omega)),(by unfold maxLen;first | omega | (simp;omega)),(by rw [b3];first | omega | (simp;omega)),(by first | (simp;done) | (simp;omega))⟩ ?_ | refine ao_m (e_appR rfl rfl rfl e35 c3 (cells_rs rfl rfl) rfl) (by repeat' (first | exact trivial | exact rfl | refine And.intro ?_ ?_)) ⟨sl35,rfl,(by first | omega | exact Nat.le_of_ble_eq_true rfl | (simp;done) | (simp;omega)),(by decide),(by first | rfl | (simp;done) | (simp;omega)),(by unfold maxLen;first | omega | (simp;omega)),(by rw [b3];first | omega | (simp;omega)),(by first | (simp;done) | (simp;omega))⟩ ?_ | refine ao_a (e_appZ rfl rfl e35 c3 (cells_sl kapp)) (by repeat' (first | exact trivial | exact rfl | refine And.intro ?_ ?_)) ⟨sl35,(by first | omega | exact Nat.le_of_ble_eq_true rfl | (simp;done) | (simp;omega)),(by decide),(by unfold maxLen;first | omega | (simp;omega)),(by rw [b3];first | omega | (simp;omega))⟩ ?_ | refine ao_a (e_appZ rfl rfl e35 c3 (cells_rs rfl rfl)) (by repeat' (first | exact trivial | exact rfl | refine And.intro ?_ ?_)) ⟨sl35,(by first | omega | exact Nat.le_of_ble_eq_true rfl | (simp;done) | (simp;omega)),(by decide),(by unfold maxLen;first | omega | (simp;omega)),(by rw [b3];first | omega | (simp;omega))⟩ ?_)
    (first | refine ao_p (e_assign (v:=.sl _ _) rfl) (by repeat' (first | exact trivial | exact rfl | refine And.intro ?_ ?_)) trivial ?_ | refine ao_p (e_assign (v:=.rs _ _ _) rfl) (by repeat' (first | exact trivial | exact rfl | refine And.intro ?_ ?_)) trivial ?_ | refine ao_p (e_assign (v:=.z) rfl) (by repeat' (first | exact trivial | exact rfl | refine And.intro ?_ ?_)) trivial ?_)
    refine ao_end (w_ghost (ghost_fr [(1,l.map I,3)] ⟨rfl,trivial⟩ (l:=[(2,encInts l)]) ⟨?_,trivial⟩) (q_ret1 rfl rfl))
    show frE _ [(1,l.map I,3)] (.rs 1 0 (0+l.length))=.sl (l.map I) l.length
    rw [Nat.zero_add]
    exact fr_rs c3 (List.take_of_length_le (by simp))
  refine w_seq_region ?_
  (first | refine ao_p (e_assign (v:=.sl _ _) rfl) (by repeat' (first | exact trivial | exact rfl | refine And.intro ?_ ?_)) trivial ?_ | refine ao_p (e_assign (v:=.rs _ _ _) rfl) (by repeat' (first | exact trivial | exact rfl | refine And.intro ?_ ?_)) trivial ?_ | refine ao_p (e_assign (v:=.z) rfl) (by repeat' (first | exact trivial | exact rfl | refine And.intro ?_ ?_)) trivial ?_)
  refine ao_end ?_
  refine w_cut_g (fun s=>Ghost Tryz.prog s ⟨envL [(0,encInts l)],fun _=>none,0⟩) (w_seq_region ?_) fun s hg=>⟨_,hg,last⟩
  cases l with
  | nil=>
    (first | refine ao_p (e_move (v:=.sl _ _) rfl) (by repeat' (first | exact trivial | exact rfl | refine And.intro ?_ ?_)) trivial ?_ | refine ao_p (e_move (v:=.rs _ _ _) rfl) (by repeat' (first | exact trivial | exact rfl | refine And.intro ?_ ?_)) trivial ?_ | refine ao_p (e_move (v:=.z) rfl) (by repeat' (first | exact trivial | exact rfl | refine And.intro ?_ ?_)) trivial ?_)
    (first | refine ao_p (e_nilF rfl khn) (by repeat' (first | exact trivial | exact rfl | refine And.intro ?_ ?_)) sl35 ?_ | refine ao_p (e_nilU rfl) (by repeat' (first | exact trivial | exact rfl | refine And.intro ?_ ?_)) sl35 ?_)
    refine ao_end (w_if_ub rfl (w_seq_region_g ?_) (w_skipJ (ghost_of ⟨rfl,trivial⟩)))
    (first | refine ao_p (e_assign (v:=.sl _ _) rfl) (by repeat' (first | exact trivial | exact rfl | refine And.intro ?_ ?_)) trivial ?_ | refine ao_p (e_assign (v:=.rs _ _ _) rfl) (by repeat' (first | exact trivial | exact rfl | refine And.intro ?_ ?_)) trivial ?_ | refine ao_p (e_assign (v:=.z) rfl) (by repeat' (first | exact trivial | exact rfl | refine And.intro ?_ ?_)) trivial ?_)
    exact ao_end (w_ghost (ghost_nil (n0:=2) rfl) (w_ret (j_seq (q_ret1 rfl rfl))))
  | cons a l=>
    have khn:(a::l).length≠0:=by simp
    (first | refine ao_p (e_move (v:=.sl _ _) rfl) (by repeat' (first | exact trivial | exact rfl | refine And.intro ?_ ?_)) trivial ?_ | refine ao_p (e_move (v:=.rs _ _ _) rfl) (by repeat' (first | exact trivial | exact rfl | refine And.intro ?_ ?_)) trivial ?_ | refine ao_p (e_move (v:=.z) rfl) (by repeat' (first | exact trivial | exact rfl | refine And.intro ?_ ?_)) trivial ?_)
    (first | refine ao_p (e_nilF rfl khn) (by repeat' (first | exact trivial | exact rfl | refine And.intro ?_ ?_)) sl35 ?_ | refine ao_p (e_nilU rfl) (by repeat' (first | exact trivial | exact rfl | refine And.intro ?_ ?_)) sl35 ?_)
    exact ao_end (w_if rfl (fun h=>(by cases h)) fun h=>w_skipJ (ghost_of ⟨rfl,trivial⟩))
theorem k25 {x:Ins} (hx:x.op=10∨x.op=38→x.args.length≤1000):PCall Tryz.prog 25 [.agg (encIns x)] (encInts (readsR x)):=by
  have htr:∀ a∈[D.agg (encIns x)],Tr a:=.cons (.agg (trs_ins x)) .nil
  refine pcall_of mixed ok25 (by rw [nt25];rfl) htr (tr_ints _) ?_
  rw [rs25,sk25]
  refine w_seq_region_g ?_
  refine ao_a (e_boxA (cs:=encIns _) rfl) (by repeat' (first | exact trivial | exact rfl | refine And.intro ?_ ?_)) (by first | rfl | exact one_code hp1 hq1 | exact oneW _ | exact one_S hd1) ?_
  (first | refine ao_p (e_assign (v:=.sl _ _) rfl) (by repeat' (first | exact trivial | exact rfl | refine And.intro ?_ ?_)) trivial ?_ | refine ao_p (e_assign (v:=.rs _ _ _) rfl) (by repeat' (first | exact trivial | exact rfl | refine And.intro ?_ ?_)) trivial ?_ | refine ao_p (e_assign (v:=.z) rfl) (by repeat' (first | exact trivial | exact rfl | refine And.intro ?_ ?_)) trivial ?_)
  refine ao_end (w_ghost (ghost_fr [(0,encIns x,45)] ⟨rfl,trivial⟩ (l:=[(1,.pt (encIns x))]) ⟨rfl,trivial⟩) (w_assoc (w_seq_region ?_)))
  (first | refine ao_p (e_faddr rfl f45_0) (by repeat' (first | exact trivial | exact rfl | refine And.intro ?_ ?_)) (p_pos c5) ?_ | refine ao_p (e_faddrR rfl rfl f45_0) (by repeat' (first | exact trivial | exact rfl | refine And.intro ?_ ?_)) (p_pos c5) ?_)
  (first | refine ao_p (e_load rfl a5) (by repeat' (first | exact trivial | exact rfl | refine And.intro ?_ ?_)) (p_load t5 c5) ?_ | refine ao_p (e_loadR rfl rfl kd a5) (by repeat' (first | exact trivial | exact rfl | refine And.intro ?_ ?_)) (p_loadR t5 c5 kd) ?_ | refine ao_p (e_loadR rfl rfl kd' a5) (by repeat' (first | exact trivial | exact rfl | refine And.intro ?_ ?_)) (p_loadR t5 c5 kd') ?_ | refine ao_p (e_loadR rfl rfl rfl a5) (by repeat' (first | exact trivial | exact rfl | refine And.intro ?_ ?_)) (p_loadR t5 c5 rfl) ?_)
  refine ao_end (w_seq_blk ?_)
  refine w_cut_g (fun s=>Ghost Tryz.prog s ⟨envL [(1,.pt (encIns x)),(4,U8 x.op),(5,B (isIn readsL1 x.op))],fun _=>none,1⟩) (w_seq_region ?_) fun s hg=>⟨_,hg,?_⟩
  · (first | refine ao_p (e_eqlK rfl rfl keql) (by repeat' (first | exact trivial | exact rfl | refine And.intro ?_ ?_)) rfl ?_ | refine ao_p (e_eqlK rfl rfl keql') (by repeat' (first | exact trivial | exact rfl | refine And.intro ?_ ?_)) rfl ?_ | refine ao_p (e_eql rfl rfl) (by repeat' (first | exact trivial | exact rfl | refine And.intro ?_ ?_)) rfl ?_)
    refine ao_p (e_assign (v:=.s (.bool _)) rfl) (by repeat' (first | exact trivial | exact rfl | refine And.intro ?_ ?_)) trivial ?_
    refine ao_end (w_if rfl (fun h=>w_skipJ ?_) fun e2=>w_seq_region ?_)
    · have h:x.op=2:=by simpa using h
      refine ghost_of ⟨rfl,rfl,?_,trivial⟩
      show D.s (.bool (x.op==2))=_
      rw [h];rfl
    (first | refine ao_p (e_eqlK rfl rfl keql) (by repeat' (first | exact trivial | exact rfl | refine And.intro ?_ ?_)) rfl ?_ | refine ao_p (e_eqlK rfl rfl keql') (by repeat' (first | exact trivial | exact rfl | refine And.intro ?_ ?_)) rfl ?_ | refine ao_p (e_eql rfl rfl) (by repeat' (first | exact trivial | exact rfl | refine And.intro ?_ ?_)) rfl ?_)
    refine ao_p (e_assign (v:=.s (.bool _)) rfl) (by repeat' (first | exact trivial | exact rfl | refine And.intro ?_ ?_)) trivial ?_
    refine ao_end (w_if rfl (fun h=>w_skipJ ?_) fun e8=>w_seq_region ?_)
    · have h:x.op=8:=by simpa using h
      refine ghost_of ⟨rfl,rfl,?_,trivial⟩
      show D.s (.bool (x.op==8))=_
      rw [h];rfl
    (first | refine ao_p (e_eqlK rfl rfl keql) (by repeat' (first | exact trivial | exact rfl | refine And.intro ?_ ?_)) rfl ?_ | refine ao_p (e_eqlK rfl rfl keql') (by repeat' (first | exact trivial | exact rfl | refine And.intro ?_ ?_)) rfl ?_ | refine ao_p (e_eql rfl rfl) (by repeat' (first | exact trivial | exact rfl | refine And.intro ?_ ?_)) rfl ?_)
    refine ao_p (e_assign (v:=.s (.bool _)) rfl) (by repeat' (first | exact trivial | exact rfl | refine And.intro ?_ ?_)) trivial ?_
    refine ao_end (w_if rfl (fun h=>w_skipJ ?_) fun e11=>w_seq_region ?_)
    · have h:x.op=11:=by simpa using h
      refine ghost_of ⟨rfl,rfl,?_,trivial⟩
      show D.s (.bool (x.op==11))=_
      rw [h];rfl
    (first | refine ao_p (e_eqlK rfl rfl keql) (by repeat' (first | exact trivial | exact rfl | refine And.intro ?_ ?_)) rfl ?_ | refine ao_p (e_eqlK rfl rfl keql') (by repeat' (first | exact trivial | exact rfl | refine And.intro ?_ ?_)) rfl ?_ | refine ao_p (e_eql rfl rfl) (by repeat' (first | exact trivial | exact rfl | refine And.intro ?_ ?_)) rfl ?_)
    refine ao_p (e_assign (v:=.s (.bool _)) rfl) (by repeat' (first | exact trivial | exact rfl | refine And.intro ?_ ?_)) trivial ?_
    refine ao_end (w_if rfl (fun h=>w_skipJ ?_) fun e13=>w_seq_region ?_)
    · have h:x.op=13:=by simpa using h
      refine ghost_of ⟨rfl,rfl,?_,trivial⟩
      show D.s (.bool (x.op==13))=_
      rw [h];rfl
    (first | refine ao_p (e_eqlK rfl rfl keql) (by repeat' (first | exact trivial | exact rfl | refine And.intro ?_ ?_)) rfl ?_ | refine ao_p (e_eqlK rfl rfl keql') (by repeat' (first | exact trivial | exact rfl | refine And.intro ?_ ?_)) rfl ?_ | refine ao_p (e_eql rfl rfl) (by repeat' (first | exact trivial | exact rfl | refine And.intro ?_ ?_)) rfl ?_)
    refine ao_p (e_assign (v:=.s (.bool _)) rfl) (by repeat' (first | exact trivial | exact rfl | refine And.intro ?_ ?_)) trivial ?_
    refine ao_end (w_if rfl (fun h=>w_skipJ ?_) fun e14=>w_seq_region ?_)
    · have h:x.op=14:=by simpa using h
      refine ghost_of ⟨rfl,rfl,?_,trivial⟩
      show D.s (.bool (x.op==14))=_
      rw [h];rfl
    (first | refine ao_p (e_eqlK rfl rfl keql) (by repeat' (first | exact trivial | exact rfl | refine And.intro ?_ ?_)) rfl ?_ | refine ao_p (e_eqlK rfl rfl keql') (by repeat' (first | exact trivial | exact rfl | refine And.intro ?_ ?_)) rfl ?_ | refine ao_p (e_eql rfl rfl) (by repeat' (first | exact trivial | exact rfl | refine And.intro ?_ ?_)) rfl ?_)
    refine ao_p (e_assign (v:=.s (.bool _)) rfl) (by repeat' (first | exact trivial | exact rfl | refine And.intro ?_ ?_)) trivial ?_
    refine ao_end (w_if rfl (fun h=>w_skipJ ?_) fun e15=>w_seq_region ?_)
    · have h:x.op=15:=by simpa using h
      refine ghost_of ⟨rfl,rfl,?_,trivial⟩
      show D.s (.bool (x.op==15))=_
      rw [h];rfl
    (first | refine ao_p (e_eqlK rfl rfl keql) (by repeat' (first | exact trivial | exact rfl | refine And.intro ?_ ?_)) rfl ?_ | refine ao_p (e_eqlK rfl rfl keql') (by repeat' (first | exact trivial | exact rfl | refine And.intro ?_ ?_)) rfl ?_ | refine ao_p (e_eql rfl rfl) (by repeat' (first | exact trivial | exact rfl | refine And.intro ?_ ?_)) rfl ?_)
    refine ao_p (e_assign (v:=.s (.bool _)) rfl) (by repeat' (first | exact trivial | exact rfl | refine And.intro ?_ ?_)) trivial ?_
    refine ao_end (w_if rfl (fun h=>w_skipJ ?_) fun e16=>w_seq_region ?_)
    · have h:x.op=16:=by simpa using h
      refine ghost_of ⟨rfl,rfl,?_,trivial⟩
      show D.s (.bool (x.op==16))=_
      rw [h];rfl
    (first | refine ao_p (e_eqlK rfl rfl keql) (by repeat' (first | exact trivial | exact rfl | refine And.intro ?_ ?_)) rfl ?_ | refine ao_p (e_eqlK rfl rfl keql') (by repeat' (first | exact trivial | exact rfl | refine And.intro ?_ ?_)) rfl ?_ | refine ao_p (e_eql rfl rfl) (by repeat' (first | exact trivial | exact rfl | refine And.intro ?_ ?_)) rfl ?_)
    refine ao_p (e_assign (v:=.s (.bool _)) rfl) (by repeat' (first | exact trivial | exact rfl | refine And.intro ?_ ?_)) trivial ?_
    refine ao_end (w_if rfl (fun h=>w_skipJ ?_) fun e18=>w_regJ ?_)
    · have h:x.op=18:=by simpa using h
      refine ghost_of ⟨rfl,rfl,?_,trivial⟩
      show D.s (.bool (x.op==18))=_
      rw [h];rfl
    (first | refine ao_p (e_eqlK rfl rfl keql) (by repeat' (first | exact trivial | exact rfl | refine And.intro ?_ ?_)) rfl ?_ | refine ao_p (e_eqlK rfl rfl keql') (by repeat' (first | exact trivial | exact rfl | refine And.intro ?_ ?_)) rfl ?_ | refine ao_p (e_eql rfl rfl) (by repeat' (first | exact trivial | exact rfl | refine And.intro ?_ ?_)) rfl ?_)
    refine ao_p (e_assign (v:=.s (.bool _)) rfl) (by repeat' (first | exact trivial | exact rfl | refine And.intro ?_ ?_)) trivial ?_
    refine ao_end ?_
    refine ghost_of ⟨rfl,rfl,?_,trivial⟩
    show D.s (.bool (x.op==36))=_
    simp [isIn,readsL1,e2,e8,e11,e13,e14,e15,e16,e18]
  refine w_if rfl (fun h1=>?_) fun h1=>?_
  · refine w_seq_region_g ?_
    (first | refine ao_p (e_faddr rfl f45_2) (by repeat' (first | exact trivial | exact rfl | refine And.intro ?_ ?_)) (p_pos c3) ?_ | refine ao_p (e_faddrR rfl rfl f45_2) (by repeat' (first | exact trivial | exact rfl | refine And.intro ?_ ?_)) (p_pos c3) ?_)
    (first | refine ao_p (e_load rfl a3) (by repeat' (first | exact trivial | exact rfl | refine And.intro ?_ ?_)) (p_load t3 c3) ?_ | refine ao_p (e_loadR rfl rfl kd a3) (by repeat' (first | exact trivial | exact rfl | refine And.intro ?_ ?_)) (p_loadR t3 c3 kd) ?_ | refine ao_p (e_loadR rfl rfl kd' a3) (by repeat' (first | exact trivial | exact rfl | refine And.intro ?_ ?_)) (p_loadR t3 c3 kd') ?_ | refine ao_p (e_loadR rfl rfl rfl a3) (by repeat' (first | exact trivial | exact rfl | refine And.intro ?_ ?_)) (p_loadR t3 c3 rfl) ?_)
    (first | refine ao_a (e_buildSl (cs:=[_]) e35 c3 z3 rfl rfl) (by repeat' (first | exact trivial | exact rfl | refine And.intro ?_ ?_)) ⟨rfl,by decide,sl35,by decide⟩ ?_ | refine ao_a (e_buildSl e35 c3 z3 rfl rfl) (by repeat' (first | exact trivial | exact rfl | refine And.intro ?_ ?_)) ⟨rfl,by decide,sl35,by decide⟩ ?_)
    (first | refine ao_p (e_assign (v:=.sl _ _) rfl) (by repeat' (first | exact trivial | exact rfl | refine And.intro ?_ ?_)) trivial ?_ | refine ao_p (e_assign (v:=.rs _ _ _) rfl) (by repeat' (first | exact trivial | exact rfl | refine And.intro ?_ ?_)) trivial ?_ | refine ao_p (e_assign (v:=.z) rfl) (by repeat' (first | exact trivial | exact rfl | refine And.intro ?_ ?_)) trivial ?_)
    refine ao_end (w_ghost (ghost_fr [(1,([x.a]).map I,3)] ⟨rfl,trivial⟩ (l:=[(2,encInts ([x.a]))]) ⟨fr_rs c3 rfl,trivial⟩) (w_ret (j_block (j_seq (q_ret1 (d:=encInts ([x.a])) rfl ?_)))))
    exact congrArg encInts (by unfold readsR;rw [if_pos h1])
  refine w_cut_g (fun s=>Ghost Tryz.prog s ⟨envL [(1,.pt (encIns x)),(4,U8 x.op),(18,B (isIn readsL2 x.op))],fun _=>none,1⟩) (w_seq_region ?_) fun s hg=>⟨_,hg,?_⟩
  · (first | refine ao_p (e_eqlK rfl rfl keql) (by repeat' (first | exact trivial | exact rfl | refine And.intro ?_ ?_)) rfl ?_ | refine ao_p (e_eqlK rfl rfl keql') (by repeat' (first | exact trivial | exact rfl | refine And.intro ?_ ?_)) rfl ?_ | refine ao_p (e_eql rfl rfl) (by repeat' (first | exact trivial | exact rfl | refine And.intro ?_ ?_)) rfl ?_)
    refine ao_p (e_assign (v:=.s (.bool _)) rfl) (by repeat' (first | exact trivial | exact rfl | refine And.intro ?_ ?_)) trivial ?_
    refine ao_end (w_if rfl (fun h=>w_skipJ ?_) fun e3=>w_seq_region ?_)
    · have h:x.op=3:=by simpa using h
      refine ghost_of ⟨rfl,rfl,?_,trivial⟩
      show D.s (.bool (x.op==3))=_
      rw [h];rfl
    (first | refine ao_p (e_eqlK rfl rfl keql) (by repeat' (first | exact trivial | exact rfl | refine And.intro ?_ ?_)) rfl ?_ | refine ao_p (e_eqlK rfl rfl keql') (by repeat' (first | exact trivial | exact rfl | refine And.intro ?_ ?_)) rfl ?_ | refine ao_p (e_eql rfl rfl) (by repeat' (first | exact trivial | exact rfl | refine And.intro ?_ ?_)) rfl ?_)
    refine ao_p (e_assign (v:=.s (.bool _)) rfl) (by repeat' (first | exact trivial | exact rfl | refine And.intro ?_ ?_)) trivial ?_
    refine ao_end (w_if rfl (fun h=>w_skipJ ?_) fun e4=>w_seq_region ?_)
    · have h:x.op=4:=by simpa using h
      refine ghost_of ⟨rfl,rfl,?_,trivial⟩
      show D.s (.bool (x.op==4))=_
      rw [h];rfl
    (first | refine ao_p (e_eqlK rfl rfl keql) (by repeat' (first | exact trivial | exact rfl | refine And.intro ?_ ?_)) rfl ?_ | refine ao_p (e_eqlK rfl rfl keql') (by repeat' (first | exact trivial | exact rfl | refine And.intro ?_ ?_)) rfl ?_ | refine ao_p (e_eql rfl rfl) (by repeat' (first | exact trivial | exact rfl | refine And.intro ?_ ?_)) rfl ?_)
    refine ao_p (e_assign (v:=.s (.bool _)) rfl) (by repeat' (first | exact trivial | exact rfl | refine And.intro ?_ ?_)) trivial ?_
    refine ao_end (w_if rfl (fun h=>w_skipJ ?_) fun e5=>w_seq_region ?_)
    · have h:x.op=5:=by simpa using h
      refine ghost_of ⟨rfl,rfl,?_,trivial⟩
      show D.s (.bool (x.op==5))=_
      rw [h];rfl
    (first | refine ao_p (e_eqlK rfl rfl keql) (by repeat' (first | exact trivial | exact rfl | refine And.intro ?_ ?_)) rfl ?_ | refine ao_p (e_eqlK rfl rfl keql') (by repeat' (first | exact trivial | exact rfl | refine And.intro ?_ ?_)) rfl ?_ | refine ao_p (e_eql rfl rfl) (by repeat' (first | exact trivial | exact rfl | refine And.intro ?_ ?_)) rfl ?_)
    refine ao_p (e_assign (v:=.s (.bool _)) rfl) (by repeat' (first | exact trivial | exact rfl | refine And.intro ?_ ?_)) trivial ?_
    refine ao_end (w_if rfl (fun h=>w_skipJ ?_) fun e6=>w_seq_region ?_)
    · have h:x.op=6:=by simpa using h
      refine ghost_of ⟨rfl,rfl,?_,trivial⟩
      show D.s (.bool (x.op==6))=_
      rw [h];rfl
    (first | refine ao_p (e_eqlK rfl rfl keql) (by repeat' (first | exact trivial | exact rfl | refine And.intro ?_ ?_)) rfl ?_ | refine ao_p (e_eqlK rfl rfl keql') (by repeat' (first | exact trivial | exact rfl | refine And.intro ?_ ?_)) rfl ?_ | refine ao_p (e_eql rfl rfl) (by repeat' (first | exact trivial | exact rfl | refine And.intro ?_ ?_)) rfl ?_)
    refine ao_p (e_assign (v:=.s (.bool _)) rfl) (by repeat' (first | exact trivial | exact rfl | refine And.intro ?_ ?_)) trivial ?_
    refine ao_end (w_if rfl (fun h=>w_skipJ ?_) fun e7=>w_seq_region ?_)
    · have h:x.op=7:=by simpa using h
      refine ghost_of ⟨rfl,rfl,?_,trivial⟩
      show D.s (.bool (x.op==7))=_
      rw [h];rfl
    (first | refine ao_p (e_eqlK rfl rfl keql) (by repeat' (first | exact trivial | exact rfl | refine And.intro ?_ ?_)) rfl ?_ | refine ao_p (e_eqlK rfl rfl keql') (by repeat' (first | exact trivial | exact rfl | refine And.intro ?_ ?_)) rfl ?_ | refine ao_p (e_eql rfl rfl) (by repeat' (first | exact trivial | exact rfl | refine And.intro ?_ ?_)) rfl ?_)
    refine ao_p (e_assign (v:=.s (.bool _)) rfl) (by repeat' (first | exact trivial | exact rfl | refine And.intro ?_ ?_)) trivial ?_
    refine ao_end (w_if rfl (fun h=>w_skipJ ?_) fun e12=>w_seq_region ?_)
    · have h:x.op=12:=by simpa using h
      refine ghost_of ⟨rfl,rfl,?_,trivial⟩
      show D.s (.bool (x.op==12))=_
      rw [h];rfl
    (first | refine ao_p (e_eqlK rfl rfl keql) (by repeat' (first | exact trivial | exact rfl | refine And.intro ?_ ?_)) rfl ?_ | refine ao_p (e_eqlK rfl rfl keql') (by repeat' (first | exact trivial | exact rfl | refine And.intro ?_ ?_)) rfl ?_ | refine ao_p (e_eql rfl rfl) (by repeat' (first | exact trivial | exact rfl | refine And.intro ?_ ?_)) rfl ?_)
    refine ao_p (e_assign (v:=.s (.bool _)) rfl) (by repeat' (first | exact trivial | exact rfl | refine And.intro ?_ ?_)) trivial ?_
    refine ao_end (w_if rfl (fun h=>w_skipJ ?_) fun e30=>w_seq_region ?_)
    · have h:x.op=30:=by simpa using h
      refine ghost_of ⟨rfl,rfl,?_,trivial⟩
      show D.s (.bool (x.op==30))=_
      rw [h];rfl
    (first | refine ao_p (e_eqlK rfl rfl keql) (by repeat' (first | exact trivial | exact rfl | refine And.intro ?_ ?_)) rfl ?_ | refine ao_p (e_eqlK rfl rfl keql') (by repeat' (first | exact trivial | exact rfl | refine And.intro ?_ ?_)) rfl ?_ | refine ao_p (e_eql rfl rfl) (by repeat' (first | exact trivial | exact rfl | refine And.intro ?_ ?_)) rfl ?_)
    refine ao_p (e_assign (v:=.s (.bool _)) rfl) (by repeat' (first | exact trivial | exact rfl | refine And.intro ?_ ?_)) trivial ?_
    refine ao_end (w_if rfl (fun h=>w_skipJ ?_) fun e31=>w_seq_region ?_)
    · have h:x.op=31:=by simpa using h
      refine ghost_of ⟨rfl,rfl,?_,trivial⟩
      show D.s (.bool (x.op==31))=_
      rw [h];rfl
    (first | refine ao_p (e_eqlK rfl rfl keql) (by repeat' (first | exact trivial | exact rfl | refine And.intro ?_ ?_)) rfl ?_ | refine ao_p (e_eqlK rfl rfl keql') (by repeat' (first | exact trivial | exact rfl | refine And.intro ?_ ?_)) rfl ?_ | refine ao_p (e_eql rfl rfl) (by repeat' (first | exact trivial | exact rfl | refine And.intro ?_ ?_)) rfl ?_)
    refine ao_p (e_assign (v:=.s (.bool _)) rfl) (by repeat' (first | exact trivial | exact rfl | refine And.intro ?_ ?_)) trivial ?_
    refine ao_end (w_if rfl (fun h=>w_skipJ ?_) fun e32=>w_seq_region ?_)
    · have h:x.op=32:=by simpa using h
      refine ghost_of ⟨rfl,rfl,?_,trivial⟩
      show D.s (.bool (x.op==32))=_
      rw [h];rfl
    (first | refine ao_p (e_eqlK rfl rfl keql) (by repeat' (first | exact trivial | exact rfl | refine And.intro ?_ ?_)) rfl ?_ | refine ao_p (e_eqlK rfl rfl keql') (by repeat' (first | exact trivial | exact rfl | refine And.intro ?_ ?_)) rfl ?_ | refine ao_p (e_eql rfl rfl) (by repeat' (first | exact trivial | exact rfl | refine And.intro ?_ ?_)) rfl ?_)
    refine ao_p (e_assign (v:=.s (.bool _)) rfl) (by repeat' (first | exact trivial | exact rfl | refine And.intro ?_ ?_)) trivial ?_
    refine ao_end (w_if rfl (fun h=>w_skipJ ?_) fun e33=>w_seq_region ?_)
    · have h:x.op=33:=by simpa using h
      refine ghost_of ⟨rfl,rfl,?_,trivial⟩
      show D.s (.bool (x.op==33))=_
      rw [h];rfl
    (first | refine ao_p (e_eqlK rfl rfl keql) (by repeat' (first | exact trivial | exact rfl | refine And.intro ?_ ?_)) rfl ?_ | refine ao_p (e_eqlK rfl rfl keql') (by repeat' (first | exact trivial | exact rfl | refine And.intro ?_ ?_)) rfl ?_ | refine ao_p (e_eql rfl rfl) (by repeat' (first | exact trivial | exact rfl | refine And.intro ?_ ?_)) rfl ?_)
    refine ao_p (e_assign (v:=.s (.bool _)) rfl) (by repeat' (first | exact trivial | exact rfl | refine And.intro ?_ ?_)) trivial ?_
    refine ao_end (w_if rfl (fun h=>w_skipJ ?_) fun e23=>w_seq_region ?_)
    · have h:x.op=34:=by simpa using h
      refine ghost_of ⟨rfl,rfl,?_,trivial⟩
      show D.s (.bool (x.op==34))=_
      rw [h];rfl
    (first | refine ao_p (e_eqlK rfl rfl keql) (by repeat' (first | exact trivial | exact rfl | refine And.intro ?_ ?_)) rfl ?_ | refine ao_p (e_eqlK rfl rfl keql') (by repeat' (first | exact trivial | exact rfl | refine And.intro ?_ ?_)) rfl ?_ | refine ao_p (e_eql rfl rfl) (by repeat' (first | exact trivial | exact rfl | refine And.intro ?_ ?_)) rfl ?_)
    refine ao_p (e_assign (v:=.s (.bool _)) rfl) (by repeat' (first | exact trivial | exact rfl | refine And.intro ?_ ?_)) trivial ?_
    refine ao_end (w_if rfl (fun h=>w_skipJ ?_) fun e35=>w_regJ ?_)
    · have h:x.op=35:=by simpa using h
      refine ghost_of ⟨rfl,rfl,?_,trivial⟩
      show D.s (.bool (x.op==35))=_
      rw [h];rfl
    (first | refine ao_p (e_eqlK rfl rfl keql) (by repeat' (first | exact trivial | exact rfl | refine And.intro ?_ ?_)) rfl ?_ | refine ao_p (e_eqlK rfl rfl keql') (by repeat' (first | exact trivial | exact rfl | refine And.intro ?_ ?_)) rfl ?_ | refine ao_p (e_eql rfl rfl) (by repeat' (first | exact trivial | exact rfl | refine And.intro ?_ ?_)) rfl ?_)
    refine ao_p (e_assign (v:=.s (.bool _)) rfl) (by repeat' (first | exact trivial | exact rfl | refine And.intro ?_ ?_)) trivial ?_
    refine ao_end ?_
    refine ghost_of ⟨rfl,rfl,?_,trivial⟩
    show D.s (.bool (x.op==37))=_
    simp [isIn,readsL2,e3,e4,e5,e6,e7,e12,e30,e31,e32,e33,e23,e35]
  refine w_if rfl (fun h2=>?_) fun h2=>?_
  · refine w_seq_region_g ?_
    (first | refine ao_p (e_faddr rfl f45_2) (by repeat' (first | exact trivial | exact rfl | refine And.intro ?_ ?_)) (p_pos c3) ?_ | refine ao_p (e_faddrR rfl rfl f45_2) (by repeat' (first | exact trivial | exact rfl | refine And.intro ?_ ?_)) (p_pos c3) ?_)
    (first | refine ao_p (e_load rfl a3) (by repeat' (first | exact trivial | exact rfl | refine And.intro ?_ ?_)) (p_load t3 c3) ?_ | refine ao_p (e_loadR rfl rfl kd a3) (by repeat' (first | exact trivial | exact rfl | refine And.intro ?_ ?_)) (p_loadR t3 c3 kd) ?_ | refine ao_p (e_loadR rfl rfl kd' a3) (by repeat' (first | exact trivial | exact rfl | refine And.intro ?_ ?_)) (p_loadR t3 c3 kd') ?_ | refine ao_p (e_loadR rfl rfl rfl a3) (by repeat' (first | exact trivial | exact rfl | refine And.intro ?_ ?_)) (p_loadR t3 c3 rfl) ?_)
    (first | refine ao_p (e_faddr rfl f45_3) (by repeat' (first | exact trivial | exact rfl | refine And.intro ?_ ?_)) (p_pos c3) ?_ | refine ao_p (e_faddrR rfl rfl f45_3) (by repeat' (first | exact trivial | exact rfl | refine And.intro ?_ ?_)) (p_pos c3) ?_)
    (first | refine ao_p (e_load rfl a3) (by repeat' (first | exact trivial | exact rfl | refine And.intro ?_ ?_)) (p_load t3 c3) ?_ | refine ao_p (e_loadR rfl rfl kd a3) (by repeat' (first | exact trivial | exact rfl | refine And.intro ?_ ?_)) (p_loadR t3 c3 kd) ?_ | refine ao_p (e_loadR rfl rfl kd' a3) (by repeat' (first | exact trivial | exact rfl | refine And.intro ?_ ?_)) (p_loadR t3 c3 kd') ?_ | refine ao_p (e_loadR rfl rfl rfl a3) (by repeat' (first | exact trivial | exact rfl | refine And.intro ?_ ?_)) (p_loadR t3 c3 rfl) ?_)
    (first | refine ao_a (e_buildSl (cs:=[_,_]) e35 c3 z3 rfl rfl) (by repeat' (first | exact trivial | exact rfl | refine And.intro ?_ ?_)) ⟨rfl,by decide,sl35,by decide⟩ ?_ | refine ao_a (e_buildSl e35 c3 z3 rfl rfl) (by repeat' (first | exact trivial | exact rfl | refine And.intro ?_ ?_)) ⟨rfl,by decide,sl35,by decide⟩ ?_)
    (first | refine ao_p (e_assign (v:=.sl _ _) rfl) (by repeat' (first | exact trivial | exact rfl | refine And.intro ?_ ?_)) trivial ?_ | refine ao_p (e_assign (v:=.rs _ _ _) rfl) (by repeat' (first | exact trivial | exact rfl | refine And.intro ?_ ?_)) trivial ?_ | refine ao_p (e_assign (v:=.z) rfl) (by repeat' (first | exact trivial | exact rfl | refine And.intro ?_ ?_)) trivial ?_)
    refine ao_end (w_ghost (ghost_fr [(1,([x.a,x.b]).map I,3)] ⟨rfl,trivial⟩ (l:=[(2,encInts ([x.a,x.b]))]) ⟨fr_rs c3 rfl,trivial⟩) (w_ret (j_block (j_seq (q_ret1 (d:=encInts ([x.a,x.b])) rfl ?_)))))
    exact congrArg encInts (by unfold readsR;rw [if_neg (by simp [h1]),if_pos h2])
  refine w_seq_region ?_
  (first | refine ao_p (e_eqlK rfl rfl keql) (by repeat' (first | exact trivial | exact rfl | refine And.intro ?_ ?_)) rfl ?_ | refine ao_p (e_eqlK rfl rfl keql') (by repeat' (first | exact trivial | exact rfl | refine And.intro ?_ ?_)) rfl ?_ | refine ao_p (e_eql rfl rfl) (by repeat' (first | exact trivial | exact rfl | refine And.intro ?_ ?_)) rfl ?_)
  refine ao_p (e_assign (v:=.s (.bool _)) rfl) (by repeat' (first | exact trivial | exact rfl | refine And.intro ?_ ?_)) trivial ?_
  refine ao_end (w_if rfl (fun h3=>?_) fun h3=>?_)
  · have h3:x.op=10:=by simpa using h3
    have k88:=k88 (l:=x.args) (by have:=hx (.inl h3);omega)
    refine w_seq_region ?_
    (first | refine ao_p (e_faddr rfl f45_5) (by repeat' (first | exact trivial | exact rfl | refine And.intro ?_ ?_)) (p_pos c35) ?_ | refine ao_p (e_faddrR rfl rfl f45_5) (by repeat' (first | exact trivial | exact rfl | refine And.intro ?_ ?_)) (p_pos c35) ?_)
    (first | refine ao_p (e_load rfl a35) (by repeat' (first | exact trivial | exact rfl | refine And.intro ?_ ?_)) (p_load t35 c35) ?_ | refine ao_p (e_loadR rfl rfl kd a35) (by repeat' (first | exact trivial | exact rfl | refine And.intro ?_ ?_)) (p_loadR t35 c35 kd) ?_ | refine ao_p (e_loadR rfl rfl kd' a35) (by repeat' (first | exact trivial | exact rfl | refine And.intro ?_ ?_)) (p_loadR t35 c35 kd') ?_ | refine ao_p (e_loadR rfl rfl rfl a35) (by repeat' (first | exact trivial | exact rfl | refine And.intro ?_ ?_)) (p_loadR t35 c35 rfl) ?_)
    (first | refine ao_pc k88 rfl (by repeat' (first | exact trivial | exact rfl | refine And.intro ?_ ?_)) ?_ | refine ao_sc k88 rfl (ks88 rfl) rfl (by repeat' (first | exact trivial | exact rfl | refine And.intro ?_ ?_)) ?_)
    (first | refine ao_p (e_assign (v:=.sl _ _) rfl) (by repeat' (first | exact trivial | exact rfl | refine And.intro ?_ ?_)) trivial ?_ | refine ao_p (e_assign (v:=.rs _ _ _) rfl) (by repeat' (first | exact trivial | exact rfl | refine And.intro ?_ ?_)) trivial ?_ | refine ao_p (e_assign (v:=.z) rfl) (by repeat' (first | exact trivial | exact rfl | refine And.intro ?_ ?_)) trivial ?_)
    refine ao_end (w_ret (j_block (j_seq (q_ret1 (d:=encInts x.args) rfl ?_))))
    exact congrArg encInts (by unfold readsR;rw [if_neg (by simp [h1]),if_neg (by simp [h2]),if_pos h3])
  have h3:¬ x.op=10:=by simpa using h3
  refine w_seq_region ?_
  (first | refine ao_p (e_eqlK rfl rfl keql) (by repeat' (first | exact trivial | exact rfl | refine And.intro ?_ ?_)) rfl ?_ | refine ao_p (e_eqlK rfl rfl keql') (by repeat' (first | exact trivial | exact rfl | refine And.intro ?_ ?_)) rfl ?_ | refine ao_p (e_eql rfl rfl) (by repeat' (first | exact trivial | exact rfl | refine And.intro ?_ ?_)) rfl ?_)
  refine ao_p (e_assign (v:=.s (.bool _)) rfl) (by repeat' (first | exact trivial | exact rfl | refine And.intro ?_ ?_)) trivial ?_
  refine ao_end (w_if rfl (fun h4=>?_) fun h4=>?_)
  · have h4:x.op=38:=by simpa using h4
    have hl:=hx (.inr h4)
    have kapp:(x.args.map I).take (x.args.length*1)=x.args.map I:=List.take_of_length_le (by simp)
    refine w_seq_region_g ?_
    (first | refine ao_p (e_faddr rfl f45_2) (by repeat' (first | exact trivial | exact rfl | refine And.intro ?_ ?_)) (p_pos c3) ?_ | refine ao_p (e_faddrR rfl rfl f45_2) (by repeat' (first | exact trivial | exact rfl | refine And.intro ?_ ?_)) (p_pos c3) ?_)
    (first | refine ao_p (e_load rfl a3) (by repeat' (first | exact trivial | exact rfl | refine And.intro ?_ ?_)) (p_load t3 c3) ?_ | refine ao_p (e_loadR rfl rfl kd a3) (by repeat' (first | exact trivial | exact rfl | refine And.intro ?_ ?_)) (p_loadR t3 c3 kd) ?_ | refine ao_p (e_loadR rfl rfl kd' a3) (by repeat' (first | exact trivial | exact rfl | refine And.intro ?_ ?_)) (p_loadR t3 c3 kd') ?_ | refine ao_p (e_loadR rfl rfl rfl a3) (by repeat' (first | exact trivial | exact rfl | refine And.intro ?_ ?_)) (p_loadR t3 c3 rfl) ?_)
    (first | refine ao_p (e_faddr rfl f45_3) (by repeat' (first | exact trivial | exact rfl | refine And.intro ?_ ?_)) (p_pos c3) ?_ | refine ao_p (e_faddrR rfl rfl f45_3) (by repeat' (first | exact trivial | exact rfl | refine And.intro ?_ ?_)) (p_pos c3) ?_)
    (first | refine ao_p (e_load rfl a3) (by repeat' (first | exact trivial | exact rfl | refine And.intro ?_ ?_)) (p_load t3 c3) ?_ | refine ao_p (e_loadR rfl rfl kd a3) (by repeat' (first | exact trivial | exact rfl | refine And.intro ?_ ?_)) (p_loadR t3 c3 kd) ?_ | refine ao_p (e_loadR rfl rfl kd' a3) (by repeat' (first | exact trivial | exact rfl | refine And.intro ?_ ?_)) (p_loadR t3 c3 kd') ?_ | refine ao_p (e_loadR rfl rfl rfl a3) (by repeat' (first | exact trivial | exact rfl | refine And.intro ?_ ?_)) (p_loadR t3 c3 rfl) ?_)
    (first | refine ao_a (e_buildSl (cs:=[_,_]) e35 c3 z3 rfl rfl) (by repeat' (first | exact trivial | exact rfl | refine And.intro ?_ ?_)) ⟨rfl,by decide,sl35,by decide⟩ ?_ | refine ao_a (e_buildSl e35 c3 z3 rfl rfl) (by repeat' (first | exact trivial | exact rfl | refine And.intro ?_ ?_)) ⟨rfl,by decide,sl35,by decide⟩ ?_)
    (first | refine ao_p (e_faddr rfl f45_5) (by repeat' (first | exact trivial | exact rfl | refine And.intro ?_ ?_)) (p_pos c35) ?_ | refine ao_p (e_faddrR rfl rfl f45_5) (by repeat' (first | exact trivial | exact rfl | refine And.intro ?_ ?_)) (p_pos c35) ?_)
    (first | refine ao_p (e_load rfl a35) (by repeat' (first | exact trivial | exact rfl | refine And.intro ?_ ?_)) (p_load t35 c35) ?_ | refine ao_p (e_loadR rfl rfl kd a35) (by repeat' (first | exact trivial | exact rfl | refine And.intro ?_ ?_)) (p_loadR t35 c35 kd) ?_ | refine ao_p (e_loadR rfl rfl kd' a35) (by repeat' (first | exact trivial | exact rfl | refine And.intro ?_ ?_)) (p_loadR t35 c35 kd') ?_ | refine ao_p (e_loadR rfl rfl rfl a35) (by repeat' (first | exact trivial | exact rfl | refine And.intro ?_ ?_)) (p_loadR t35 c35 rfl) ?_)
    (first | refine an_a (n_appSc rfl e35 c3 (cells_rs rfl rfl).ok (by first | rfl | trivial | (simp;done) | (simp;omega) | exact Nat.le_of_ble_eq_true rfl) sl35 (by first | rfl | (simp;done) | omega) (by decide) (by decide) (by unfold maxLen;first | omega | (simp;omega)) (by rw [b3];first | omega | (simp;omega))) (by repeat' (first | exact trivial | exact rfl | refine And.intro ?_ ?_)) ?_ | refine ao_m (e_appR rfl rfl rfl e35 c3 (cells_sl kapp) rfl) (by repeat' (first | exact trivial | exact rfl | refine And.intro ?_ ?_)) ⟨sl35,rfl,(by first | omega | exact Nat.le_of_ble_eq_true rfl | (simp;done) | (simp;omega)),(by decide),(by first | rfl | (simp;done) | (simp;omega)),(by unfold maxLen;first | omega | (simp;omega)),(by rw [b3];first | omega | (simp;omega)),(by first | (simp;done) | (simp;omega))⟩ ?_ | refine ao_m (e_appR rfl rfl rfl e35 c3 (cells_rs rfl rfl) rfl) (by repeat' (first | exact trivial | exact rfl | refine And.intro ?_ ?_)) ⟨sl35,rfl,(by first | omega | exact Nat.le_of_ble_eq_true rfl | (simp;done) | (simp;omega)),(by decide),(by first | rfl | (simp;done) | (simp;omega)),(by unfold maxLen;first | omega | (simp;omega)),(by rw [b3];first | omega | (simp;omega)),(by first | (simp;done) | (simp;omega))⟩ ?_ | refine ao_a (e_appZ rfl rfl e35 c3 (cells_sl kapp)) (by repeat' (first | exact trivial | exact rfl | refine And.intro ?_ ?_)) ⟨sl35,(by first | omega | exact Nat.le_of_ble_eq_true rfl | (simp;done) | (simp;omega)),(by decide),(by unfold maxLen;first | omega | (simp;omega)),(by rw [b3];first | omega | (simp;omega))⟩ ?_ | refine ao_a (e_appZ rfl rfl e35 c3 (cells_rs rfl rfl)) (by repeat' (first | exact trivial | exact rfl | refine And.intro ?_ ?_)) ⟨sl35,(by first | omega | exact Nat.le_of_ble_eq_true rfl | (simp;done) | (simp;omega)),(by decide),(by unfold maxLen;first | omega | (simp;omega)),(by rw [b3];first | omega | (simp;omega))⟩ ?_)
    (first | refine ao_p (e_assign (v:=.sl _ _) rfl) (by repeat' (first | exact trivial | exact rfl | refine And.intro ?_ ?_)) trivial ?_ | refine ao_p (e_assign (v:=.rs _ _ _) rfl) (by repeat' (first | exact trivial | exact rfl | refine And.intro ?_ ?_)) trivial ?_ | refine ao_p (e_assign (v:=.z) rfl) (by repeat' (first | exact trivial | exact rfl | refine And.intro ?_ ?_)) trivial ?_)
    refine ao_end (w_ghost (ghost_fr [(2,(x.a::x.b::x.args).map I,3)] ⟨rfl,trivial⟩ (l:=[(2,encInts (x.a::x.b::x.args))]) ⟨?_,trivial⟩) (w_ret (j_block (j_seq (q_ret1 (d:=encInts (x.a::x.b::x.args)) rfl ?_)))))
    · show frE _ [(2,_,3)] (.rs 2 0 (2+x.args.length))=_
      refine (fr_rs c3 (es:=(x.a::x.b::x.args).map I) (List.take_of_length_le (by simp;omega))).trans ?_
      rw [Nat.add_comm];rfl
    · exact congrArg encInts (by unfold readsR;rw [if_neg (by simp [h1]),if_neg (by simp [h2]),if_neg h3,if_pos h4])
  have h4:¬ x.op=38:=by simpa using h4
  refine w_endB (w_seq_region_g ?_)
  (first | refine ao_p (e_assign (v:=.sl _ _) rfl) (by repeat' (first | exact trivial | exact rfl | refine And.intro ?_ ?_)) trivial ?_ | refine ao_p (e_assign (v:=.rs _ _ _) rfl) (by repeat' (first | exact trivial | exact rfl | refine And.intro ?_ ?_)) trivial ?_ | refine ao_p (e_assign (v:=.z) rfl) (by repeat' (first | exact trivial | exact rfl | refine And.intro ?_ ?_)) trivial ?_)
  refine ao_end (w_ghost (ghost_nil (n0:=2) rfl) (q_ret1 (d:=encInts []) rfl ?_))
  exact congrArg encInts (by unfold readsR;rw [if_neg (by simp [h1]),if_neg (by simp [h2]),if_neg h3,if_neg h4])
theorem k29 {x:Argus.End} (hx:x.kind=5→x.ins.op=10∨x.ins.op=38→x.ins.args.length≤1000) (hy:x.kind=6∨x.kind=7→x.args.length≤1000):PCall Tryz.prog 29 [.agg (encEnd x)] (encInts (readsEnd x)):=by
  have htr:∀ a∈[D.agg (encEnd x)],Tr a:=.cons (.agg (trs_end x)) .nil
  refine pcall_of mixed ok29 (by rw [nt29];rfl) htr (tr_ints _) ?_
  rw [rs29,sk29]
  refine w_seq_region_g ?_
  refine ao_a (e_boxA (cs:=encEnd _) rfl) (by repeat' (first | exact trivial | exact rfl | refine And.intro ?_ ?_)) (by first | rfl | exact one_code hp1 hq1 | exact oneW _ | exact one_S hd1) ?_
  (first | refine ao_p (e_assign (v:=.sl _ _) rfl) (by repeat' (first | exact trivial | exact rfl | refine And.intro ?_ ?_)) trivial ?_ | refine ao_p (e_assign (v:=.rs _ _ _) rfl) (by repeat' (first | exact trivial | exact rfl | refine And.intro ?_ ?_)) trivial ?_ | refine ao_p (e_assign (v:=.z) rfl) (by repeat' (first | exact trivial | exact rfl | refine And.intro ?_ ?_)) trivial ?_)
  refine ao_end (w_ghost (ghost_fr [(0,encEnd x,48)] ⟨rfl,trivial⟩ (l:=[(1,.pt (encEnd x))]) ⟨rfl,trivial⟩) (w_assoc (w_seq_region ?_)))
  (first | refine ao_p (e_faddr rfl f48_0) (by repeat' (first | exact trivial | exact rfl | refine And.intro ?_ ?_)) (p_pos c5) ?_ | refine ao_p (e_faddrR rfl rfl f48_0) (by repeat' (first | exact trivial | exact rfl | refine And.intro ?_ ?_)) (p_pos c5) ?_)
  (first | refine ao_p (e_load rfl a5) (by repeat' (first | exact trivial | exact rfl | refine And.intro ?_ ?_)) (p_load t5 c5) ?_ | refine ao_p (e_loadR rfl rfl kd a5) (by repeat' (first | exact trivial | exact rfl | refine And.intro ?_ ?_)) (p_loadR t5 c5 kd) ?_ | refine ao_p (e_loadR rfl rfl kd' a5) (by repeat' (first | exact trivial | exact rfl | refine And.intro ?_ ?_)) (p_loadR t5 c5 kd') ?_ | refine ao_p (e_loadR rfl rfl rfl a5) (by repeat' (first | exact trivial | exact rfl | refine And.intro ?_ ?_)) (p_loadR t5 c5 rfl) ?_)
  refine ao_end (w_seq_blk ?_)
  refine w_cut_g (fun s=>Ghost Tryz.prog s ⟨envL [(1,.pt (encEnd x)),(4,U8 x.kind),(5,B (isIn [2,8,9] x.kind))],fun _=>none,1⟩) (w_seq_region ?_) fun s hg=>⟨_,hg,?_⟩
  · (first | refine ao_p (e_eqlK rfl rfl keql) (by repeat' (first | exact trivial | exact rfl | refine And.intro ?_ ?_)) rfl ?_ | refine ao_p (e_eqlK rfl rfl keql') (by repeat' (first | exact trivial | exact rfl | refine And.intro ?_ ?_)) rfl ?_ | refine ao_p (e_eql rfl rfl) (by repeat' (first | exact trivial | exact rfl | refine And.intro ?_ ?_)) rfl ?_)
    refine ao_p (e_assign (v:=.s (.bool _)) rfl) (by repeat' (first | exact trivial | exact rfl | refine And.intro ?_ ?_)) trivial ?_
    refine ao_end (w_if rfl (fun h=>w_skipJ ?_) fun e2=>w_seq_region ?_)
    · have h:x.kind=2:=by simpa using h
      refine ghost_of ⟨rfl,rfl,?_,trivial⟩
      show D.s (.bool (x.kind==2))=_
      rw [h];rfl
    (first | refine ao_p (e_eqlK rfl rfl keql) (by repeat' (first | exact trivial | exact rfl | refine And.intro ?_ ?_)) rfl ?_ | refine ao_p (e_eqlK rfl rfl keql') (by repeat' (first | exact trivial | exact rfl | refine And.intro ?_ ?_)) rfl ?_ | refine ao_p (e_eql rfl rfl) (by repeat' (first | exact trivial | exact rfl | refine And.intro ?_ ?_)) rfl ?_)
    refine ao_p (e_assign (v:=.s (.bool _)) rfl) (by repeat' (first | exact trivial | exact rfl | refine And.intro ?_ ?_)) trivial ?_
    refine ao_end (w_if rfl (fun h=>w_skipJ ?_) fun e8=>w_regJ ?_)
    · have h:x.kind=8:=by simpa using h
      refine ghost_of ⟨rfl,rfl,?_,trivial⟩
      show D.s (.bool (x.kind==8))=_
      rw [h];rfl
    (first | refine ao_p (e_eqlK rfl rfl keql) (by repeat' (first | exact trivial | exact rfl | refine And.intro ?_ ?_)) rfl ?_ | refine ao_p (e_eqlK rfl rfl keql') (by repeat' (first | exact trivial | exact rfl | refine And.intro ?_ ?_)) rfl ?_ | refine ao_p (e_eql rfl rfl) (by repeat' (first | exact trivial | exact rfl | refine And.intro ?_ ?_)) rfl ?_)
    refine ao_p (e_assign (v:=.s (.bool _)) rfl) (by repeat' (first | exact trivial | exact rfl | refine And.intro ?_ ?_)) trivial ?_
    refine ao_end ?_
    refine ghost_of ⟨rfl,rfl,?_,trivial⟩
    show D.s (.bool (x.kind==9))=_
    simp [isIn,e2,e8]
  refine w_if rfl (fun h1=>?_) fun h1=>?_
  · refine w_seq_region_g ?_
    (first | refine ao_p (e_faddr rfl f48_1) (by repeat' (first | exact trivial | exact rfl | refine And.intro ?_ ?_)) (p_pos c3) ?_ | refine ao_p (e_faddrR rfl rfl f48_1) (by repeat' (first | exact trivial | exact rfl | refine And.intro ?_ ?_)) (p_pos c3) ?_)
    (first | refine ao_p (e_load rfl a3) (by repeat' (first | exact trivial | exact rfl | refine And.intro ?_ ?_)) (p_load t3 c3) ?_ | refine ao_p (e_loadR rfl rfl kd a3) (by repeat' (first | exact trivial | exact rfl | refine And.intro ?_ ?_)) (p_loadR t3 c3 kd) ?_ | refine ao_p (e_loadR rfl rfl kd' a3) (by repeat' (first | exact trivial | exact rfl | refine And.intro ?_ ?_)) (p_loadR t3 c3 kd') ?_ | refine ao_p (e_loadR rfl rfl rfl a3) (by repeat' (first | exact trivial | exact rfl | refine And.intro ?_ ?_)) (p_loadR t3 c3 rfl) ?_)
    (first | refine ao_a (e_buildSl (cs:=[_]) e35 c3 z3 rfl rfl) (by repeat' (first | exact trivial | exact rfl | refine And.intro ?_ ?_)) ⟨rfl,by decide,sl35,by decide⟩ ?_ | refine ao_a (e_buildSl e35 c3 z3 rfl rfl) (by repeat' (first | exact trivial | exact rfl | refine And.intro ?_ ?_)) ⟨rfl,by decide,sl35,by decide⟩ ?_)
    (first | refine ao_p (e_assign (v:=.sl _ _) rfl) (by repeat' (first | exact trivial | exact rfl | refine And.intro ?_ ?_)) trivial ?_ | refine ao_p (e_assign (v:=.rs _ _ _) rfl) (by repeat' (first | exact trivial | exact rfl | refine And.intro ?_ ?_)) trivial ?_ | refine ao_p (e_assign (v:=.z) rfl) (by repeat' (first | exact trivial | exact rfl | refine And.intro ?_ ?_)) trivial ?_)
    refine ao_end (w_ghost (ghost_fr [(1,([x.a]).map I,3)] ⟨rfl,trivial⟩ (l:=[(2,encInts ([x.a]))]) ⟨fr_rs c3 rfl,trivial⟩) (w_ret (j_block (j_seq (q_ret1 (d:=encInts ([x.a])) rfl ?_)))))
    exact congrArg encInts (by unfold readsEnd;rw [if_pos h1])
  refine w_seq_region ?_
  (first | refine ao_p (e_eqlK rfl rfl keql) (by repeat' (first | exact trivial | exact rfl | refine And.intro ?_ ?_)) rfl ?_ | refine ao_p (e_eqlK rfl rfl keql') (by repeat' (first | exact trivial | exact rfl | refine And.intro ?_ ?_)) rfl ?_ | refine ao_p (e_eql rfl rfl) (by repeat' (first | exact trivial | exact rfl | refine And.intro ?_ ?_)) rfl ?_)
  refine ao_p (e_assign (v:=.s (.bool _)) rfl) (by repeat' (first | exact trivial | exact rfl | refine And.intro ?_ ?_)) trivial ?_
  refine ao_end (w_if rfl (fun h2=>?_) fun h2=>?_)
  · have h2:x.kind=3:=by simpa using h2
    refine w_seq_region ?_
    (first | refine ao_p (e_faddr rfl f48_1) (by repeat' (first | exact trivial | exact rfl | refine And.intro ?_ ?_)) (p_pos c3) ?_ | refine ao_p (e_faddrR rfl rfl f48_1) (by repeat' (first | exact trivial | exact rfl | refine And.intro ?_ ?_)) (p_pos c3) ?_)
    (first | refine ao_p (e_load rfl a3) (by repeat' (first | exact trivial | exact rfl | refine And.intro ?_ ?_)) (p_load t3 c3) ?_ | refine ao_p (e_loadR rfl rfl kd a3) (by repeat' (first | exact trivial | exact rfl | refine And.intro ?_ ?_)) (p_loadR t3 c3 kd) ?_ | refine ao_p (e_loadR rfl rfl kd' a3) (by repeat' (first | exact trivial | exact rfl | refine And.intro ?_ ?_)) (p_loadR t3 c3 kd') ?_ | refine ao_p (e_loadR rfl rfl rfl a3) (by repeat' (first | exact trivial | exact rfl | refine And.intro ?_ ?_)) (p_loadR t3 c3 rfl) ?_)
    (first | refine ao_p (e_neqK rfl rfl kneq) (by repeat' (first | exact trivial | exact rfl | refine And.intro ?_ ?_)) rfl ?_ | refine ao_p (e_neq rfl rfl) (by repeat' (first | exact trivial | exact rfl | refine And.intro ?_ ?_)) rfl ?_)
    refine ao_end (w_if rfl (fun h3=>?_) fun h3=>?_)
    · have h3:¬ x.a= -1:=by simpa [bne,ib] using h3
      refine w_seq_region_g ?_
      (first | refine ao_p (e_faddr rfl f48_1) (by repeat' (first | exact trivial | exact rfl | refine And.intro ?_ ?_)) (p_pos c3) ?_ | refine ao_p (e_faddrR rfl rfl f48_1) (by repeat' (first | exact trivial | exact rfl | refine And.intro ?_ ?_)) (p_pos c3) ?_)
      (first | refine ao_p (e_load rfl a3) (by repeat' (first | exact trivial | exact rfl | refine And.intro ?_ ?_)) (p_load t3 c3) ?_ | refine ao_p (e_loadR rfl rfl kd a3) (by repeat' (first | exact trivial | exact rfl | refine And.intro ?_ ?_)) (p_loadR t3 c3 kd) ?_ | refine ao_p (e_loadR rfl rfl kd' a3) (by repeat' (first | exact trivial | exact rfl | refine And.intro ?_ ?_)) (p_loadR t3 c3 kd') ?_ | refine ao_p (e_loadR rfl rfl rfl a3) (by repeat' (first | exact trivial | exact rfl | refine And.intro ?_ ?_)) (p_loadR t3 c3 rfl) ?_)
      (first | refine ao_a (e_buildSl (cs:=[_]) e35 c3 z3 rfl rfl) (by repeat' (first | exact trivial | exact rfl | refine And.intro ?_ ?_)) ⟨rfl,by decide,sl35,by decide⟩ ?_ | refine ao_a (e_buildSl e35 c3 z3 rfl rfl) (by repeat' (first | exact trivial | exact rfl | refine And.intro ?_ ?_)) ⟨rfl,by decide,sl35,by decide⟩ ?_)
      (first | refine ao_p (e_assign (v:=.sl _ _) rfl) (by repeat' (first | exact trivial | exact rfl | refine And.intro ?_ ?_)) trivial ?_ | refine ao_p (e_assign (v:=.rs _ _ _) rfl) (by repeat' (first | exact trivial | exact rfl | refine And.intro ?_ ?_)) trivial ?_ | refine ao_p (e_assign (v:=.z) rfl) (by repeat' (first | exact trivial | exact rfl | refine And.intro ?_ ?_)) trivial ?_)
      refine ao_end (w_ghost (ghost_fr [(1,([x.a]).map I,3)] ⟨rfl,trivial⟩ (l:=[(2,encInts ([x.a]))]) ⟨fr_rs c3 rfl,trivial⟩) (w_ret (j_block (j_seq (q_ret1 (d:=encInts ([x.a])) rfl ?_)))))
      exact congrArg encInts (by unfold readsEnd;rw [if_neg (by simp [h1]),if_pos h2,if_pos h3])
    · have h3:x.a= -1:=by simpa [bne,ib] using h3
      refine w_endB (w_seq_region_g ?_)
      (first | refine ao_p (e_assign (v:=.sl _ _) rfl) (by repeat' (first | exact trivial | exact rfl | refine And.intro ?_ ?_)) trivial ?_ | refine ao_p (e_assign (v:=.rs _ _ _) rfl) (by repeat' (first | exact trivial | exact rfl | refine And.intro ?_ ?_)) trivial ?_ | refine ao_p (e_assign (v:=.z) rfl) (by repeat' (first | exact trivial | exact rfl | refine And.intro ?_ ?_)) trivial ?_)
      refine ao_end (w_ghost (ghost_nil (n0:=2) rfl) (q_ret1 (d:=encInts []) rfl ?_))
      exact congrArg encInts (by unfold readsEnd;rw [if_neg (by simp [h1]),if_pos h2,if_neg (by simp [h3])])
  have h2:¬ x.kind=3:=by simpa using h2
  refine w_seq_region ?_
  (first | refine ao_p (e_eqlK rfl rfl keql) (by repeat' (first | exact trivial | exact rfl | refine And.intro ?_ ?_)) rfl ?_ | refine ao_p (e_eqlK rfl rfl keql') (by repeat' (first | exact trivial | exact rfl | refine And.intro ?_ ?_)) rfl ?_ | refine ao_p (e_eql rfl rfl) (by repeat' (first | exact trivial | exact rfl | refine And.intro ?_ ?_)) rfl ?_)
  refine ao_p (e_assign (v:=.s (.bool _)) rfl) (by repeat' (first | exact trivial | exact rfl | refine And.intro ?_ ?_)) trivial ?_
  refine ao_end (w_if rfl (fun h3=>?_) fun h3=>?_)
  · have h3:x.kind=5:=by simpa using h3
    have k25:=k25 (x:=x.ins) (hx h3)
    refine w_seq_region ?_
    (first | refine ao_p (e_faddr rfl f48_6) (by repeat' (first | exact trivial | exact rfl | refine And.intro ?_ ?_)) (p_pos c45) ?_ | refine ao_p (e_faddrR rfl rfl f48_6) (by repeat' (first | exact trivial | exact rfl | refine And.intro ?_ ?_)) (p_pos c45) ?_)
    (first | refine ao_p (e_loadA (vs:=encIns _) rfl a45 c45 rfl) (by repeat' (first | exact trivial | exact rfl | refine And.intro ?_ ?_)) (p_loadA t45 c45 (by simp)) ?_ | refine ao_p (e_loadRA (vs:=encIns _) rfl rfl a45 c45 rfl) (by repeat' (first | exact trivial | exact rfl | refine And.intro ?_ ?_)) (p_loadRA t45 c45 (by first | (simp;done) | omega | exact Nat.le_of_ble_eq_true rfl)) ?_ | refine ao_p (e_loadRA rfl rfl a45 c45 rfl) (by repeat' (first | exact trivial | exact rfl | refine And.intro ?_ ?_)) (p_loadRA t45 c45 (by first | (simp;done) | omega | exact Nat.le_of_ble_eq_true rfl)) ?_)
    (first | refine ao_pc k25 rfl (by repeat' (first | exact trivial | exact rfl | refine And.intro ?_ ?_)) ?_ | refine ao_sc k25 rfl (ks25 rfl) rfl (by repeat' (first | exact trivial | exact rfl | refine And.intro ?_ ?_)) ?_)
    (first | refine ao_p (e_assign (v:=.sl _ _) rfl) (by repeat' (first | exact trivial | exact rfl | refine And.intro ?_ ?_)) trivial ?_ | refine ao_p (e_assign (v:=.rs _ _ _) rfl) (by repeat' (first | exact trivial | exact rfl | refine And.intro ?_ ?_)) trivial ?_ | refine ao_p (e_assign (v:=.z) rfl) (by repeat' (first | exact trivial | exact rfl | refine And.intro ?_ ?_)) trivial ?_)
    refine ao_end (w_ret (j_block (j_seq (q_ret1 (d:=encInts (readsR x.ins)) rfl ?_))))
    exact congrArg encInts (by unfold readsEnd;rw [if_neg (by simp [h1]),if_neg h2,if_pos h3])
  have h3:¬ x.kind=5:=by simpa using h3
  refine w_cut_g (fun s=>Ghost Tryz.prog s ⟨envL [(1,.pt (encEnd x)),(4,U8 x.kind),(25,B (isIn [6,7] x.kind))],fun _=>none,1⟩) (w_seq_region ?_) fun s hg=>⟨_,hg,?_⟩
  · (first | refine ao_p (e_eqlK rfl rfl keql) (by repeat' (first | exact trivial | exact rfl | refine And.intro ?_ ?_)) rfl ?_ | refine ao_p (e_eqlK rfl rfl keql') (by repeat' (first | exact trivial | exact rfl | refine And.intro ?_ ?_)) rfl ?_ | refine ao_p (e_eql rfl rfl) (by repeat' (first | exact trivial | exact rfl | refine And.intro ?_ ?_)) rfl ?_)
    refine ao_p (e_assign (v:=.s (.bool _)) rfl) (by repeat' (first | exact trivial | exact rfl | refine And.intro ?_ ?_)) trivial ?_
    refine ao_end (w_if rfl (fun h=>w_skipJ ?_) fun e6=>w_regJ ?_)
    · have h:x.kind=6:=by simpa using h
      refine ghost_of ⟨rfl,rfl,?_,trivial⟩
      show D.s (.bool (x.kind==6))=_
      rw [h];rfl
    (first | refine ao_p (e_eqlK rfl rfl keql) (by repeat' (first | exact trivial | exact rfl | refine And.intro ?_ ?_)) rfl ?_ | refine ao_p (e_eqlK rfl rfl keql') (by repeat' (first | exact trivial | exact rfl | refine And.intro ?_ ?_)) rfl ?_ | refine ao_p (e_eql rfl rfl) (by repeat' (first | exact trivial | exact rfl | refine And.intro ?_ ?_)) rfl ?_)
    refine ao_p (e_assign (v:=.s (.bool _)) rfl) (by repeat' (first | exact trivial | exact rfl | refine And.intro ?_ ?_)) trivial ?_
    refine ao_end ?_
    refine ghost_of ⟨rfl,rfl,?_,trivial⟩
    show D.s (.bool (x.kind==7))=_
    simp [isIn,e6]
  refine w_if rfl (fun h4=>?_) fun h4=>?_
  · have h5:x.kind=6∨x.kind=7:=by simpa [isIn] using h4
    have k88:=k88 (l:=x.args) (by have:=hy h5;omega)
    refine w_seq_region ?_
    (first | refine ao_p (e_faddr rfl f48_7) (by repeat' (first | exact trivial | exact rfl | refine And.intro ?_ ?_)) (p_pos c35) ?_ | refine ao_p (e_faddrR rfl rfl f48_7) (by repeat' (first | exact trivial | exact rfl | refine And.intro ?_ ?_)) (p_pos c35) ?_)
    (first | refine ao_p (e_load rfl a35) (by repeat' (first | exact trivial | exact rfl | refine And.intro ?_ ?_)) (p_load t35 c35) ?_ | refine ao_p (e_loadR rfl rfl kd a35) (by repeat' (first | exact trivial | exact rfl | refine And.intro ?_ ?_)) (p_loadR t35 c35 kd) ?_ | refine ao_p (e_loadR rfl rfl kd' a35) (by repeat' (first | exact trivial | exact rfl | refine And.intro ?_ ?_)) (p_loadR t35 c35 kd') ?_ | refine ao_p (e_loadR rfl rfl rfl a35) (by repeat' (first | exact trivial | exact rfl | refine And.intro ?_ ?_)) (p_loadR t35 c35 rfl) ?_)
    (first | refine ao_pc k88 rfl (by repeat' (first | exact trivial | exact rfl | refine And.intro ?_ ?_)) ?_ | refine ao_sc k88 rfl (ks88 rfl) rfl (by repeat' (first | exact trivial | exact rfl | refine And.intro ?_ ?_)) ?_)
    (first | refine ao_p (e_assign (v:=.sl _ _) rfl) (by repeat' (first | exact trivial | exact rfl | refine And.intro ?_ ?_)) trivial ?_ | refine ao_p (e_assign (v:=.rs _ _ _) rfl) (by repeat' (first | exact trivial | exact rfl | refine And.intro ?_ ?_)) trivial ?_ | refine ao_p (e_assign (v:=.z) rfl) (by repeat' (first | exact trivial | exact rfl | refine And.intro ?_ ?_)) trivial ?_)
    refine ao_end (w_ret (j_block (j_seq (q_ret1 (d:=encInts x.args) rfl ?_))))
    exact congrArg encInts (by unfold readsEnd;rw [if_neg (by simp [h1]),if_neg h2,if_neg h3,if_pos h4])
  refine w_endB (w_seq_region_g ?_)
  (first | refine ao_p (e_assign (v:=.sl _ _) rfl) (by repeat' (first | exact trivial | exact rfl | refine And.intro ?_ ?_)) trivial ?_ | refine ao_p (e_assign (v:=.rs _ _ _) rfl) (by repeat' (first | exact trivial | exact rfl | refine And.intro ?_ ?_)) trivial ?_ | refine ao_p (e_assign (v:=.z) rfl) (by repeat' (first | exact trivial | exact rfl | refine And.intro ?_ ?_)) trivial ?_)
  refine ao_end (w_ghost (ghost_nil (n0:=2) rfl) (q_ret1 (d:=encInts []) rfl ?_))
  exact congrArg encInts (by unfold readsEnd;rw [if_neg (by simp [h1]),if_neg h2,if_neg h3,if_neg (by simp [h4])])
end Go.Proofs.Tryz.K
end
