/- Part 10 of the proof; the last part says what is proved. -/
import Derived.Test.YtkogeiacmmckkaaGreatDoorFlowReads9
set_option linter.all false
namespace Go.Abs
section
variable {P:Program} {F:Nat→Prop} {β β':Pla} {w w':World} {m:Mem}
theorem lp_at {β₁:Pla} {w₁:World} {i l:Nat} {L:Loop} {k:RS} (hm:MSim P F m β w) (hi:m i=some (.lp k)) (h1:β₁ i=some (.lp l)) (hL:w₁.heap[l]? =some (.loop L)) (hs:Step β₁ w₁ β w):
    β i=some (.lp l)∧∃ st pe,w.heap[l]? =some (.loop { L with state:=st,pending:=pe })∧RS.Is { L with state:=st,pending:=pe } k:=by
  obtain ⟨p,hp,hr⟩:=hm.row i _ hi
  cases hr with
  | lp _ r L' hb hk=>
    have hβ:β i=some (.lp l):=by
      rcases hs.keep i _ h1 with h2 | h2
      · exact h2
      · rw [h2] at hp;cases hp
    rw [hβ] at hp
    cases hp
    obtain ⟨st,pe,h3⟩:=hs.lp i l h1 hβ L hL
    rw [h3] at hb
    cases hb
    exact ⟨hβ,st,pe,h3,hk⟩
theorem lp_write {i l:Nat} {L:Loop} {st:LoopState} {pe:Option Code} {r:Option Row} (hm:MSim P F m β w) (hβ:β i=some (.lp l)) (hL:w.heap[l]? =some (.loop L))
    (hr:∀ r',r=some r'→∃ k,r'=.lp k∧RS.Is { L with state:=st,pending:=pe } k):
    MSim P F (up m i r) β (w.putObj l (.loop { L with state:=st,pending:=pe }))∧Step β w β (w.putObj l (.loop { L with state:=st,pending:=pe }))∧(w.putObj l (.loop { L with state:=st,pending:=pe })).heap[l]? =some (.loop { L with state:=st,pending:=pe }):=by
  have hlt:=hm.lt i _ l hβ rfl
  have hat:(w.putObj l (.loop { L with state:=st,pending:=pe })).heap[l]? =some (.loop { L with state:=st,pending:=pe }):=World.putObj_heap_same hlt
  have hs:Step β w β (w.putObj l (.loop { L with state:=st,pending:=pe })):=⟨by simp,fun b _ hf=>⟨World.putObj_heap_other fun e=>hf i _ hβ (by rw [e];rfl),hf⟩,fun _ _ h=>.inl h,⟨rfl,rfl⟩,fun j q _ _=>by
    by_cases hq:q=l
    · subst hq
      intro L0 hL0
      rw [hL] at hL0
      cases hL0
      exact ⟨st,pe,hat⟩
    · exact skel_of (World.putObj_heap_other hq)⟩
  refine ⟨⟨fun j r' hj=>?_,hm.inj,fun j p b hp hb=>by simpa using hm.lt j p b hp hb,hm.nf,hm.fb.next (fun b hb=>by simpa using hm.fb.lt b hb) (fun _ h=>h) fun t ht hF=>World.putObj_heap_other fun e=>hm.nf i _ l hβ rfl (e▸hF)⟩,hs,hat⟩
  by_cases hji:j=i
  · subst hji
    rw [up_same] at hj
    obtain ⟨k,rfl,hk⟩:=hr r' hj
    exact ⟨_,hβ,.lp k l _ hat hk⟩
  · rw [up_ne _ _ hji] at hj
    obtain ⟨p,hp,hrow⟩:=hm.row j r' hj
    exact ⟨p,hp,hrow.step hs fun b hb=>World.putObj_heap_other fun e=>hji (hm.inj j i p _ l hp hβ (by rw [hb,e]) rfl)⟩
theorem setAllE_env:∀ (ps:List Tmp) (ds:List D) (t t':T D),setAllE t ps ds=some t'→envE t'=setAll (envE t) ps ds
  | [],ds,t,t',h=>by simp only [setAllE,Option.some.injEq] at h;subst h;rfl
  | _::_,[],t,t',h=>by simp only [setAllE,Option.some.injEq] at h;subst h;rfl
  | p::ps,d::ds,t,t',h=>by
    simp only [setAllE] at h
    split at h
    · rename_i t1 h1
      rw [setAllE_env ps ds t1 t' h,getD_put h1]
      rfl
    · cases h
theorem PostE.trans {rf:Bool} {s s1 s':CSt} {a a1 a':Act} {β1:Pla} {w1:World} {e e':Exit} (h:Big s.nx β w a (stE s1) β1 w1 a1) (hd:rf=false→a1.defers=a.defers) (k:PostE P F rf s1.nx β1 w1 a1 e s' e' a' w'):PostE P F rf s.nx β w a e s' e' a' w':=by
  obtain ⟨⟨st',β',h1,h2,h3⟩,h4⟩:=k
  exact ⟨⟨st',β',h1,h2,h.trans h3⟩,fun e=>(h4 e).trans (hd e)⟩
structure CtxOk (P:Program) (x:Ctx):Prop where
  mix:P.follows .mixedOrders=true
  tab:TabOk P x.tab
  known:∀ f args r,x.known f args=some r→PCall P f args r
  knownA:∀ f args m nx y m' nx',x.knownA f args m nx=some (y,m',nx')→ZC P [] f args (memF m) nx y (memF m') nx'
variable {x:Ctx} {ev:Ev} {hd:Hd}
theorem ZC.any {f:FuncId} {args:List D} {nx nx':Nat} {y:D ⊕ List PanicEntry} {m':Mem} (h:ZC P [] f args m nx y m' nx'):ZC P hd f args m nx y m' nx':=
  ⟨h.1,fun F β w vs _=>h.2 F β w vs hdOk_nil⟩
theorem range_ok (hx:CtxOk P x) (hev:EvOk P ev) {g:Operand} {ps:Array Tmp} {assign body:Code} {s s':CSt} {e:Exit} {rf:Bool} (h:cRange g ps assign body P x ev hd rf s=some (e,s')) {r:Option Nat} {n:Nat} {a:Act}
    (hrf:rf=true→r=none) (hh:HdOk P F hd β w) (hlt:codeLt a.tmps.size (.rangeFunc g ps assign body)=true) (hs:Sim P F (stE s) β w a):(Code.rangeFunc g ps assign body).wpIn (Fe r) n P (PostB P F s.nx β w a (QE e s')) a w:=by
  unfold cRange at h
  cases rf with
  | false=>cases h
  | true=>
  have hr:=hrf rfl
  subst hr
  simp only [cond_true] at h
  split at h
  rotate_left
  · cases h
  rename_i f fs cs hv
  split at h
  · cases h
  rename_i m0 hm0
  simp only [codeLt,Bool.and_eq_true,List.all_eq_true,Nat.blt_eq] at hlt
  obtain ⟨hps,hlta,hltb⟩:=hlt
  obtain ⟨y,m6,nx6,hrun⟩:∃ y m6 nx6,runE P x ev ((s.nx,roundE ev hd s.nx s.env ps.toList assign body)::hd) f (fs++[.yl s.nx]++cs) m0 (s.nx+1)=some (y,m6,nx6):=by
    generalize runE P x ev ((s.nx,roundE ev hd s.nx s.env ps.toList assign body)::hd) f (fs++[.yl s.nx]++cs) m0 (s.nx+1)=z at h
    cases z with
    | none=>cases h
    | some z=>obtain ⟨y,m6,nx6⟩:=z;exact ⟨_,_,_,rfl⟩
  rw [hrun] at h
  have hz:=runE_ok hx.mix hx.tab hev hrun
  have hR:R F β w (.fn (.func f) fs cs) (a.eval g):=by
    rw [← hv,valE_opd];exact hs.e.un.opd g
  refine wpIn_rangeFunc fun fn hfn=>?_
  obtain ⟨L,hL⟩:∃ L:Loop,L={ state:=.ready,pending:=none,fn,tmps:=a.tmps,params:=ps,assign,body,defers:=w.heap.size }:=⟨_,rfl⟩
  obtain ⟨W1,hW1⟩:∃ W1,(w.alloc (.deferred (some []))).alloc (.loop L)=W1:=⟨_,rfl⟩
  obtain ⟨l,hl⟩:∃ l,l=w.heap.size+1:=⟨_,rfl⟩
  obtain ⟨us,vs,d,hul,hvl,hu,hv',hres,hinv⟩:=resolve_range (P:=P) hR hz.1 l W1
  have hn:∀ i,s.nx≤i→β i=none:=hs.n
  have hs0:Step β w β (w.alloc (.deferred (some []))):=step_ext (by simp) fun b hb=>heap_alloc_old w _ hb
  have hmm0:MSim P F (memF s.mem) β (w.alloc (.deferred (some []))):=hs.m.ext (by simp) fun b hb=>heap_alloc_old w _ hb
  have hblk:∀ b,(Pl.lp l).blk=some b→b=(w.alloc (.deferred (some []))).heap.size:=fun b hb=>by simp only [Pl.blk,Option.some.injEq] at hb;simp;omega
  have hat1:W1.heap[l]? =some (.loop L):=by
    rw [← hW1,hl]
    have:=World.alloc_heap_new (w.alloc (.deferred (some []))) (.loop L)
    rwa [World.size_alloc] at this
  have hm1:MSim P F (memF m0) (up β s.nx (some (.lp l))) W1:=by
    rw [memF_put hm0, ← hW1]
    refine hmm0.alloc (hn _ (Nat.le_refl _)) _ _ _ hblk (.lp _ l L ?_ ⟨by rw [hL],by rw [hL]⟩)
    rw [hW1];exact hat1
  have hs1:Step β w (up β s.nx (some (.lp l))) W1:=by
    rw [← hW1]
    exact hs0.trans (step_alloc hmm0 _ (hn _ (Nat.le_refl _)) _ hblk)
  have hβ1:(up β s.nx (some (.lp l))) s.nx=some (.lp l):=up_same _ _ _
  have hn1:∀ i,s.nx+1≤i→(up β s.nx (some (.lp l))) i=none:=fun i hi=>by
    rw [up_ne _ _ (show i≠s.nx by omega)]
    exact hn i (by omega)
  have hD1:W1.heap[w.heap.size]? =some (.deferred (some [])):=by
    rw [← hW1,heap_alloc_old _ _ (by simp)]
    exact World.alloc_heap_new w _
  have hDfree:Pla.free (up β s.nx (some (.lp l))) w.heap.size:=
    free_other (fun i p hp e=>by have:=hs.m.lt i p _ hp e;omega) (by rintro q hq;cases hq;simp [Pl.blk];omega)
  have hsz1:W1.heap.size=w.heap.size+2:=by rw [← hW1];simp
  have hh1:HdOk P F ((s.nx,roundE ev hd s.nx s.env ps.toList assign body)::hd) (up β s.nx (some (.lp l))) W1:=by
    intro i hf hfi
    simp only [hdAt] at hfi
    by_cases hi:s.nx=i
    rotate_left
    · have:Nat.beq s.nx i=false:=by cases hb:Nat.beq s.nx i with | false=>rfl | true=>exact absurd (Nat.eq_of_beq_eq_true hb) hi
      rw [this] at hfi
      exact (hh.step hs1) i hf hfi
    · subst hi
      rw [Nat.beq_refl] at hfi
      simp only [cond_true,Option.some.injEq] at hfi
      subst hfi
      refine ⟨l,.inl hβ1,fun args m nx b m' nx' hmi hrd=>?_⟩
      intro β2 w2 us2 hst2 hm2 hn2 hR2
      unfold roundE at hrd
      cases hlen:Nat.beq args.length ps.toList.length with
      | false=>rw [hlen] at hrd;cases hrd
      | true=>
      rw [hlen] at hrd
      have hlen':args.length=ps.size:=by simpa using hlen
      simp only [cond_true] at hrd
      split at hrd
      rotate_left
      · cases hrd
      rename_i t ht
      obtain ⟨e3,s3,hx3⟩:∃ e3 s3,ev hd false assign ⟨t,m,nx⟩=some (e3,s3):=by
        generalize ev hd false assign ⟨t,m,nx⟩=z at hrd
        cases z with
        | none=>cases hrd
        | some z=>exact ⟨z.1,z.2,rfl⟩
      rw [hx3] at hrd
      obtain ⟨hβ2,st2,pe2,hat2,hk2⟩:=lp_at hm2 (show memF m s.nx=some (.lp .ready) from hmi) hβ1 hat1 hst2
      have eL:({ L with state:=st2,pending:=pe2 }:Loop)=L:=by
        obtain ⟨k1,k2⟩:=hk2
        simp only at k1 k2
        rw [hL,k1,k2]
      rw [eL] at hat2
      have hps2:us2.size=ps.size:=by rw [hR2.1];exact hlen'
      have hy:=run_yield (P:=P) (args:=us2) hat2 (by rw [hL];exact hps2)
      simp only [hL,zip_foldl] at hy
      refine ⟨fn,_,assign,body,hy,fun n'=>?_⟩
      have hst02:=hs1.trans hst2
      have hh2:HdOk P F hd β2 w2:=hh.step hst02
      have hE2:ESim F β2 w2 (envE s.env) { tmps:=a.tmps,defers:=[] }:=fun t=>(hs.e t).step hst02
      obtain ⟨hE3,hsz3⟩:=setAll_sim ps.toList args us2.toList (envE s.env) a.tmps (by simp [hR2.1]) (fun j d v hd hv=>hR2.2 j d v hd (by simpa using hv)) (fun t ht=>hps t ht) hE2
      have hs3in:Sim P F (stE ⟨t,m,nx⟩) β2 w2 { tmps:=(ps.toList.zip us2.toList).foldl (fun tmps (t,a)=>tmps.setIfInBounds t a) a.tmps,defers:=[] }:=⟨by
        show ESim F β2 w2 (envE t) _
        rw [setAllE_env _ _ _ _ ht];exact hE3,hm2,hn2⟩
      have hass:=hev hd false assign _ e3 s3 hx3 F (some l) n' β2 w2 _ (fun h=>by cases h) hh2 (by show codeLt (Array.size _) assign=true;rw [hsz3];exact hlta) hs3in
      refine roundIn_of_wpIn trivial (wpIn_mono hass fun e a3 w3 hp=>?_)
      obtain ⟨⟨_,β3,⟨rfl,rfl⟩,hs3,hb3⟩,_⟩:=hp
      unfold roundB at hrd
      split at hrd
      rotate_left
      · cases hrd
      rename_i s3' heq
      cases heq
      split at hrd
      rotate_left
      · cases hrd
      rename_i hmi3
      split at hrd
      rotate_left
      · cases hrd
      rename_i m4 hm4
      obtain ⟨hβ3,st3,pe3,hat3,hk3⟩:=lp_at hs3.m (show memF s3.mem s.nx=some (.lp .ready) from hmi3) hβ1 hat1 (hst2.trans hb3.step)
      have eL3:({ L with state:=st3,pending:=pe3 }:Loop)=L:=by
        obtain ⟨k1,k2⟩:=hk3
        simp only at k1 k2
        rw [hL,k1,k2]
      rw [eL3] at hat3
      obtain ⟨hmb,hstb,hatb⟩:=lp_write (st:=.busy) (pe:=none) (r:=some (.lp .busy)) hs3.m hβ3 hat3 (fun r' hr'=>⟨.busy,(Option.some.inj hr').symm,rfl,rfl⟩)
      have eLb:({ L with state:=.busy }:Loop)={ L with state:=.busy,pending:=none }:=by rw [hL]
      refine ⟨_,run_beginRound hat3 (by rw [hL]),?_⟩
      rw [eLb]
      obtain ⟨e5,s5,hx5⟩:∃ e5 s5,ev hd false body ⟨s3.env,m4,s3.nx⟩=some (e5,s5):=by
        generalize ev hd false body ⟨s3.env,m4,s3.nx⟩=z at hrd
        cases z with
        | none=>cases hrd
        | some z=>exact ⟨z.1,z.2,rfl⟩
      rw [hx5] at hrd
      have hs4in:Sim P F (stE ⟨s3.env,m4,s3.nx⟩) β3 (w3.putObj l (.loop { L with state:=.busy,pending:=none })) a3:=⟨hs3.e.step hstb,by
        show MSim P F (memF m4) β3 _
        rw [memF_put hm4];exact hmb,hs3.n⟩
      have hbody:=hev hd false body _ e5 s5 hx5 F (some l) n' β3 _ a3 (fun h=>by cases h) ((hh2.step hb3.step).step hstb) (by rw [hb3.size];show codeLt (Array.size _) body=true;rw [hsz3];exact hltb) hs4in
      refine wpIn_mono hbody fun e a5 w5 hp5=>?_
      obtain ⟨⟨_,β5,⟨rfl,rfl⟩,hs5,hb5⟩,_⟩:=hp5
      have hst5:Step β2 w2 β5 w5:=(hb3.step.trans hstb).trans hb5.step
      have fin:∀ (jump:Option Code) (bb:Bool) (k:RS),bb=jump.isNone→RS.Is { L with state:=if jump.isNone then .ready else .done,pending:=jump } k→markE s.nx bb k s5=some (b,m',nx')→
       ∃ v w',(Instr.endRound l jump).run P w5=.ok v w'∧∃ v' d m2 nx2 β',Ending.returned v=.returned v'∧(d=.s (.bool b)∧m2=memF m'∧nx2=nx')∧MSim P F m2 β' w'∧(∀ i,nx2≤i→β' i=none)∧R F β' w' d v'∧Step β2 w2 β' w'∧nx≤nx2∧∀ i,i<nx→β2 i=none→β' i=none:=fun jump bb k hbb hk hmk=>by
        unfold markE at hmk
        split at hmk
        rotate_left
        · cases hmk
        rename_i hmi5
        split at hmk
        rotate_left
        · cases hmk
        rename_i m6 hm6
        simp only [Option.some.injEq,Prod.mk.injEq] at hmk
        obtain ⟨rfl,rfl,rfl⟩:=hmk
        obtain ⟨hβ5,st5,pe5,hat5,hk5⟩:=lp_at hs5.m (show memF s5.mem s.nx=some (.lp .busy) from hmi5) hβ1 hat1 (hst2.trans hst5)
        obtain ⟨hme,hste,hate⟩:=lp_write (st:=if jump.isNone then .ready else .done) (pe:=jump) (r:=some (.lp k)) hs5.m hβ5 hat5 (fun r' hr'=>⟨k,(Option.some.inj hr').symm,hk⟩)
        refine ⟨_,_,run_endRound (P:=P) jump hat5,.bool jump.isNone,.s (.bool bb),memF m6,s5.nx,β5,rfl,⟨rfl,rfl,rfl⟩,?_,hs5.n,?_,hst5.trans hste,Nat.le_trans hb3.le hb5.le,fun i hi hb=>hb5.grow i (Nat.lt_of_lt_of_le hi hb3.le) (hb3.grow i hi hb)⟩
        · rw [memF_put hm6];exact hme
        · rw [hbb];exact .s _ rfl
      unfold roundX at hrd
      cases e with
      | normal=>exact fin none true .ready rfl ⟨rfl,rfl⟩ hrd
      | ret=>exact fin (some .ret) false (.done .ret) rfl ⟨rfl,rfl⟩ hrd
      | exit id=>exact fin (some (.exit id)) false (.done (.exit id)) rfl ⟨rfl,rfl⟩ hrd
      | _=>cases hrd
  refine ⟨l,[mark w.heap.size],W1,d,W1,f,_,W1,?_,hres,fun f' _=>trivial,hinv,fun hd=>by simp at hd,fe_calls ?_⟩
  · rw [← hW1,hL,hl];exact run_enterLoop_outer _ _ _ _ _
  refine (hz.2 F _ W1 _ hh1 hm1 hn1 ?_).mono ?_
  · refine Rs.append (Rs.append ?_ ?_) ?_
    · exact ⟨by simp [hul],fun k d v hd hv=>(hu k d v hd (by simpa using hv)).step hs1⟩
    · refine ⟨rfl,fun k d v hd hv=>?_⟩
      cases k with
      | zero=>
        simp only [List.getElem?_cons_zero,Option.some.injEq] at hd
        simp only [List.getElem?_toArray,List.getElem?_cons_zero,Option.some.injEq] at hv
        subst hd;subst hv
        exact .yl _ l hβ1
      | succ k=>simp at hd
    · exact ⟨by simp [hvl],fun k d v hd hv2=>(hv' k d v hd (by simpa using hv2)).step hs1⟩
  rintro e6 w6 ⟨β6,hy6,hm6,hn6,hst6,hle6,hgr6⟩
  cases y with
  | inr ch=>cases h
  | inl dy=>
  obtain ⟨v6,rfl,_⟩:=hy6
  have fin:∀ (k:RS) (jump:Option Code) (e1:Exit),(∀ Lx:Loop,RS.Is Lx k→Lx.state≠ .busy∧Lx.pending=jump)→m6.get s.nx=some (.lp k)→endL s.nx s.env m6 nx6 e1=some (e,s')→
   ∃ w7,(Instr.endLoop l).run P w6=.ok jump w7∧PostB P F s.nx β w a (QE e s') e1 { a with defers:=[mark w.heap.size]++a.defers } w7:=fun k jump e1 hk hmi he=>by
    unfold endL at he
    split at he
    rotate_left
    · cases he
    rename_i m7 hm7
    simp only [Option.some.injEq,Prod.mk.injEq] at he
    obtain ⟨rfl,rfl⟩:=he
    obtain ⟨hβ6,st6,pe6,hat6,hk6⟩:=lp_at hm6 (show memF m6 s.nx=some (.lp k) from hmi) hβ1 hat1 hst6
    obtain ⟨hk7,hk8⟩:=hk _ hk6
    have hk8:pe6=jump:=hk8
    subst hk8
    have hrun:=run_endLoop (P:=P) hat6 hk7
    obtain ⟨hme,hste,_⟩:=lp_write (st:=.exhausted) (pe:=pe6) (r:=none) hm6 hβ6 hat6 (fun r' hr'=>by cases hr')
    have hst7:=(hs1.trans hst6).trans hste
    have hl6:w.heap.size<w6.heap.size:=by have:=hst6.size;omega
    refine ⟨_,hrun,_,β6,⟨rfl,rfl⟩,⟨fun t=>(hs.e t).step hst7,?_,hn6⟩,⟨hst7,Nat.le_trans (Nat.le_succ _) hle6,fun i hi hb=>hgr6 i (Nat.lt_succ_of_lt hi) ?_,rfl,[mark w.heap.size],rfl,w.heap.size,rfl,Nat.le_refl _,by simpa using hl6,?_,(hst6.imm _ (by omega) hDfree).2,trivial⟩⟩
    · show MSim P F (memF m7) β6 _
      rw [memF_put hm7];exact hme
    · rw [up_ne _ _ (show i≠s.nx by omega)];exact hb
    · exact (World.putObj_heap_other (by omega)).trans ((hst6.imm _ (by omega) hDfree).1.trans hD1)
  simp only [rangeX] at h
  split at h
  · rename_i hmi
    obtain ⟨w7,h1,h2⟩:=fin .ready none .normal (fun Lx hk=>⟨by rw [hk.1];simp,hk.2⟩) hmi h
    exact ⟨none,w7,h1,h2⟩
  · rename_i hmi
    obtain ⟨w7,h1,h2⟩:=fin (.done .ret) (some .ret) .ret (fun Lx hk=>⟨by rw [hk.1];simp,hk.2⟩) hmi h
    exact ⟨some .ret,w7,h1,wpIn_ret h2⟩
  · rename_i id hmi
    obtain ⟨w7,h1,h2⟩:=fin (.done (.exit id)) (some (.exit id)) (.exit id) (fun Lx hk=>⟨by rw [hk.1];simp,hk.2⟩) hmi h
    exact ⟨some (.exit id),w7,h1,wpIn_exit h2⟩
  · cases h
end
section
variable {P:Program} {F:Nat→Prop} {β:Pla} {w:World}
theorem trB_Tr:∀ {n:Nat} {d:D},trB n d=true→Tr d
  | 0,_,h=>by cases h
  | n+1,d,h=>by
    cases d with
    | rs=>cases h
    | rp=>cases h
    | mp=>cases h
    | sc=>cases h
    | yl=>cases h
    | opt c d=>exact .opt (trB_Tr h)
    | agg cs=>exact .agg fun d hd=>trB_Tr (List.all_eq_true.1 h d hd)
    | tup cs=>exact .tup fun d hd=>trB_Tr (List.all_eq_true.1 h d hd)
    | sl cs n=>exact .sl fun d hd=>trB_Tr (List.all_eq_true.1 h d hd)
    | pt cs=>exact .pt fun d hd=>trB_Tr (List.all_eq_true.1 h d hd)
    | fn f fs cs=>
      simp only [trB,Bool.and_eq_true] at h
      exact .fn (fun d hd=>trB_Tr (List.all_eq_true.1 h.1 d hd)) fun d hd=>trB_Tr (List.all_eq_true.1 h.2 d hd)
    | im es=>exact .im fun x hx=>trB_Tr (List.all_eq_true.1 h x hx)
    | s v=>exact .s v
    | ub=>exact .ub
    | u=>exact .u
    | z=>exact .z
theorem mapO_spec {α β:Type} {f:α→Option (β×List Nat)}:∀ {xs:List α} {ys:List β} {r:List Nat},mapO f xs=some (ys,r)→
    ys.length=xs.length∧(∀ (k:Nat) (y:β),ys[k]? =some y→∃ x r',xs[k]? =some x∧f x=some (y,r')∧∀ i∈r',i∈r)
  | [],ys,r,h=>by simp only [mapO,Option.some.injEq,Prod.mk.injEq] at h;obtain ⟨rfl,rfl⟩:=h;simp
  | x::xs,ys,r,h=>by
    simp only [mapO] at h
    cases hx:f x with
    | none=>rw [hx] at h;cases h
    | some y=>
      rw [hx] at h
      simp only at h
      cases hxs:mapO f xs with
      | none=>rw [hxs] at h;cases h
      | some yy=>
        rw [hxs] at h
        simp only [Option.some.injEq,Prod.mk.injEq] at h
        obtain ⟨rfl,rfl⟩:=h
        obtain ⟨h1,h2⟩:=mapO_spec (ys:=yy.1) (r:=yy.2) hxs
        refine ⟨by simp [h1],fun k z hz=>?_⟩
        cases k with
        | zero=>
          simp only [List.getElem?_cons_zero,Option.some.injEq] at hz
          subst hz
          exact ⟨x,y.2,rfl,hx,fun i hi=>by simp [hi]⟩
        | succ k=>
          obtain ⟨x',r',g1,g2,g3⟩:=h2 k z (by simpa using hz)
          exact ⟨x',r',by simpa using g1,g2,fun i hi=>by simp [g3 i hi]⟩
theorem mapO_all {α β:Type} {f:α→Option (β×List Nat)} {xs:List α} {ys:List β} {r:List Nat} (h:mapO f xs=some (ys,r)) {p:β→Prop} (hp:∀ x y r',f x=some (y,r')→p y):∀ y∈ys,p y:=fun y hy=>by
  obtain ⟨k,hk⟩:=List.getElem?_of_mem hy
  obtain ⟨x,r',_,h2,_⟩:=(mapO_spec h).2 k y hk
  exact hp x y r' h2
theorem deep_Tr {m:T Row}:∀ {n:Nat} {d d':D} {r:List Nat},deepF P m n d=some (d',r)→Tr d'
  | 0,_,_,_,h=>by cases h
  | n+1,d,d',r,h=>by
    have ih:∀ x y r',deepF P m n x=some (y,r')→Tr y:=fun x y r' h=>deep_Tr h
    have ihm:∀ (x:Value×D) (y:Value×D) r',(deepF P m n x.2).map (fun y=>((x.1,y.1),y.2))=some (y,r')→Tr y.2:=fun x y r' h=>by
      simp only [Option.map_eq_some_iff,Prod.mk.injEq] at h
      obtain ⟨z,hz,rfl,_⟩:=h
      exact deep_Tr (r:=z.2) hz
    cases d with
    | sc=>cases h
    | yl=>cases h
    | mp i=>
      simp only [deepF] at h
      split at h
      · simp only [Option.map_eq_some_iff,Prod.mk.injEq] at h
        obtain ⟨x,hx,rfl,_⟩:=h
        exact .im (mapO_all (ys:=x.1) (r:=x.2) hx ihm)
      · cases h
    | im es=>
      simp only [deepF,Option.map_eq_some_iff,Prod.mk.injEq] at h
      obtain ⟨x,hx,rfl,_⟩:=h
      exact .im (mapO_all (ys:=x.1) (r:=x.2) hx ihm)
    | rs i off k=>
      simp only [deepF] at h
      split at h
      · simp only [Option.map_eq_some_iff,Prod.mk.injEq] at h
        obtain ⟨x,hx,rfl,_⟩:=h
        exact .sl (mapO_all (ys:=x.1) (r:=x.2) hx ih)
      · cases h
    | rp i off=>
      simp only [deepF] at h
      split at h
      · simp only [Option.map_eq_some_iff,Prod.mk.injEq] at h
        obtain ⟨x,hx,rfl,_⟩:=h
        exact .pt (mapO_all (ys:=x.1) (r:=x.2) hx ih)
      · cases h
    | opt c d=>
      cases c with
      | true=>
        simp only [deepF,Option.map_eq_some_iff,Prod.mk.injEq] at h
        obtain ⟨x,hx,rfl,_⟩:=h
        exact .opt (deep_Tr (r:=x.2) hx)
      | false=>simp only [deepF,Option.some.injEq,Prod.mk.injEq] at h;obtain ⟨rfl,_⟩:=h;exact .opt .u
    | agg cs=>
      simp only [deepF,Option.map_eq_some_iff,Prod.mk.injEq] at h
      obtain ⟨x,hx,rfl,_⟩:=h
      exact .agg (mapO_all (ys:=x.1) (r:=x.2) hx ih)
    | tup cs=>
      simp only [deepF,Option.map_eq_some_iff,Prod.mk.injEq] at h
      obtain ⟨x,hx,rfl,_⟩:=h
      exact .tup (mapO_all (ys:=x.1) (r:=x.2) hx ih)
    | sl cs k=>
      simp only [deepF,Option.map_eq_some_iff,Prod.mk.injEq] at h
      obtain ⟨x,hx,rfl,_⟩:=h
      exact .sl (mapO_all (ys:=x.1) (r:=x.2) hx ih)
    | pt cs=>
      simp only [deepF,Option.map_eq_some_iff,Prod.mk.injEq] at h
      obtain ⟨x,hx,rfl,_⟩:=h
      exact .pt (mapO_all (ys:=x.1) (r:=x.2) hx ih)
    | fn f fs cs=>
      simp only [deepF] at h
      cases hx:mapO (deepF P m n) fs with
      | none=>rw [hx] at h;cases h
      | some x=>
        rw [hx] at h
        simp only [Option.map_eq_some_iff,Prod.mk.injEq] at h
        obtain ⟨y,hy,rfl,_⟩:=h
        exact .fn (mapO_all (ys:=x.1) (r:=x.2) hx ih) (mapO_all (ys:=y.1) (r:=y.2) hy ih)
    | s v=>simp only [deepF,Option.some.injEq,Prod.mk.injEq] at h;obtain ⟨rfl,_⟩:=h;exact .s v
    | ub=>simp only [deepF,Option.some.injEq,Prod.mk.injEq] at h;obtain ⟨rfl,_⟩:=h;exact .ub
    | u=>simp only [deepF,Option.some.injEq,Prod.mk.injEq] at h;obtain ⟨rfl,_⟩:=h;exact .u
    | z=>simp only [deepF,Option.some.injEq,Prod.mk.injEq] at h;obtain ⟨rfl,_⟩:=h;exact .z
def Looks (P:Program) (F:Nat→Prop) (β:Pla) (w:World) (m:T Row) (rds:List Nat):Prop:=∀ i∈rds,∀ r,m.get i=some r→∃ p,β i=some p∧RowR P F β w r p∧∀ b,p.blk=some b→¬ F b
theorem noRows_free (b:Nat):noRows.free b:=fun i p hp=>by cases hp
theorem deep_R {m:T Row}:∀ {n:Nat} {d d':D} {r:List Nat},deepF P m n d=some (d',r)→Looks P F β w m r→∀ {v:Value},R F β w d v→R F noRows w d' v
  | 0,_,_,_,h,_,_,_=>by cases h
  | n+1,d,d',r,h,hl,v,hv=>by
    have many:∀ {xs ys:List D} {r':List Nat},mapO (deepF P m n) xs=some (ys,r')→(∀ i∈r',i∈r)→ys.length=xs.length∧∀ (k:Nat) (d:D) (u:Value),ys[k]? =some d→(∀ d0,xs[k]? =some d0→R F β w d0 u)→R F noRows w d u:=fun h hr=>by
      obtain ⟨h1,h2⟩:=mapO_spec h
      refine ⟨h1,fun k d u hd hu=>?_⟩
      obtain ⟨x,r2,g1,g2,g3⟩:=h2 k d hd
      exact deep_R g2 (fun i hi=>hl i (hr i (g3 i hi))) (hu x g1)
    have look:∀ {i:Nat} {cs:List D} {e:TypeId},i∈r→m.get i=some (.cells cs e)→∃ p,β i=some p∧RowR P F β w (.cells cs e) p∧∀ b,p.blk=some b→¬ F b:=fun hi hm=>hl _ hi _ hm
    have ents:∀ {es ys:List (Value×D)} {r':List Nat} {ms:Array MapEntry},mapO (fun x=>(deepF P m n x.2).map fun y=>((x.1,y.1),y.2)) es=some (ys,r')→(∀ i∈r',i∈r)→ms.size=es.length→(es.map (·.1)).Nodup→
     (∀ (k:Nat) (x:Value×D) (m:MapEntry),es[k]? =some x→ms[k]? =some m→m.key=x.1∧R F β w x.2 m.val)→
     ms.size=ys.length∧(ys.map (·.1)).Nodup∧(∀ (k:Nat) (x:Value×D) (m:MapEntry),ys[k]? =some x→ms[k]? =some m→m.key=x.1)∧∀ (k:Nat) (x:Value×D) (m:MapEntry),ys[k]? =some x→ms[k]? =some m→R F noRows w x.2 m.val:=fun {es ys r' ms} h hr hsz hnd hh=>by
      obtain ⟨h1,h2⟩:=mapO_spec h
      have key:∀ (k:Nat) (y:Value×D),ys[k]? =some y→∃ x r2,es[k]? =some x∧y.1=x.1∧deepF P m n x.2=some (y.2,r2)∧∀ i∈r2,i∈r':=fun k y hy=>by
        obtain ⟨x,r2,g1,g2,g3⟩:=h2 k y hy
        simp only [Option.map_eq_some_iff,Prod.mk.injEq] at g2
        obtain ⟨z,hz,rfl,rfl⟩:=g2
        exact ⟨x,z.2,g1,rfl,hz,g3⟩
      have keys:ys.map (·.1)=es.map (·.1):=by
        refine List.ext_getElem? fun k=>?_
        simp only [List.getElem?_map]
        cases hy:ys[k]? with
        | some y=>
          obtain ⟨x,_,g1,g2,_⟩:=key k y hy
          simp [g1,g2]
        | none=>
          have:es[k]? =none:=by
            rw [List.getElem?_eq_none_iff] at hy ⊢
            omega
          simp [this]
      refine ⟨by rw [h1];exact hsz,by rw [keys];exact hnd,fun k y mm hy hmm=>?_,fun k y mm hy hmm=>?_⟩
      · obtain ⟨x,r2,g1,g2,_⟩:=key k y hy
        rw [g2];exact (hh k x mm g1 hmm).1
      · obtain ⟨x,r2,g1,_,g3,g4⟩:=key k y hy
        exact deep_R g3 (fun i hi=>hl i (hr i (g4 i hi))) (hh k x mm g1 hmm).2
    cases d with
    | sc=>cases h
    | yl=>cases h
    | mp i=>
      simp only [deepF] at h
      split at h
      · rename_i es hm
        simp only [Option.map_eq_some_iff,Prod.mk.injEq] at h
        obtain ⟨x,hx,rfl,rfl⟩:=h
        obtain ⟨p,hp,hrow,hnf⟩:=hl i (List.mem_cons_self ..) _ hm
        cases hv with
        | mpd _ _ h1 _=>rw [h1] at hp;cases hp;exact absurd rfl hrow.live
        | mp _ b h1=>
          rw [h1] at hp
          cases hp
          cases hrow with
          | map _ _ ms clock g1 g2 g3 g4=>
            obtain ⟨k1,k2,k3,k4⟩:=ents (ys:=x.1) (r':=x.2) hx (fun i hi=>List.mem_cons_of_mem _ hi) g2 g3 g4
            exact .im x.1 b ms clock (hnf b rfl) (noRows_free b) g1 k1 k2 k3 k4
      · cases h
    | im es=>
      simp only [deepF,Option.map_eq_some_iff,Prod.mk.injEq] at h
      obtain ⟨x,hx,rfl,rfl⟩:=h
      cases hv with
      | im _ b ms clock hf hb hc g2 g3 g4 g5=>
        obtain ⟨k1,k2,k3,k4⟩:=ents (ys:=x.1) (r':=x.2) hx (fun _ h=>h) g2 g3 (fun k x m hx hm=>⟨g4 k x m hx hm,g5 k x m hx hm⟩)
        exact .im x.1 b ms clock hf (noRows_free b) hc k1 k2 k3 k4
    | rs i off k=>
      simp only [deepF] at h
      split at h
      · rename_i cs e hm
        simp only [Option.map_eq_some_iff,Prod.mk.injEq] at h
        obtain ⟨x,hx,rfl,rfl⟩:=h
        obtain ⟨p,hp,hrow,hnf⟩:=look (List.mem_cons_self ..) hm
        obtain ⟨g1,g2⟩:=many (ys:=x.1) (r':=x.2) hx (fun i hi=>List.mem_cons_of_mem _ hi)
        have nil:(cs.drop off).take (k*P.cellsOf e)=[]→x.1=[]:=fun e=>by
          rw [e] at g1
          exact List.eq_nil_of_length_eq_zero (by simpa using g1)
        cases hv with
        | rsd _ _ _ _ h1 _=>
          rw [h1] at hp
          cases hp
          exact absurd rfl hrow.live
        | rsn _ a h1=>
          rw [h1] at hp
          cases hp
          cases hrow
          rw [nil (by simp)]
          exact .sln a 0
        | rsz _ _ a b o len room sz h1=>
          rw [nil (by simp)]
          exact .sln a 0
        | rs _ _ _ cap b o len room sz h1 hn hmax h2 h3=>
          rw [h1] at hp
          cases hp
          obtain ⟨hrd,hl,hsz,_⟩:=hrow.rd
          obtain ⟨us,u1,u2⟩:=(hrd.drop off).take (k*P.cellsOf e)
          have hlt:b<w.heap.size:=by
            cases hrow with
            | cells _ _ _ _ _ _ c hb=>exact (Array.getElem?_eq_some_iff.1 hb).1
          exact .sl x.1 k b (o+off) cap us (hnf b rfl) (noRows_free b) hlt hn hmax (fun j hj=>u1 j (by rw [← g1];exact hj)) fun j d hd=>g2 j d _ hd fun d0 hd0=>u2 j d0 hd0
      · cases h
    | rp i off=>
      simp only [deepF] at h
      split at h
      · rename_i cs e hm
        simp only [Option.map_eq_some_iff,Prod.mk.injEq] at h
        obtain ⟨x,hx,rfl,rfl⟩:=h
        obtain ⟨p,hp,hrow,hnf⟩:=look (List.mem_cons_self ..) hm
        obtain ⟨g1,g2⟩:=many (ys:=x.1) (r':=x.2) hx (fun i hi=>List.mem_cons_of_mem _ hi)
        cases hv with
        | rpd _ _ _ h1 _=>
          rw [h1] at hp
          cases hp
          exact absurd rfl hrow.live
        | rp _ _ b o len room sz h1=>
          rw [h1] at hp
          cases hp
          obtain ⟨hrd,hl,hsz,_⟩:=hrow.rd
          obtain ⟨us,u1,u2⟩:=hrd.drop off
          have hlt:b<w.heap.size:=by
            cases hrow with
            | cells _ _ _ _ _ _ c hb=>exact (Array.getElem?_eq_some_iff.1 hb).1
          exact .pt x.1 b (o+off) us (hnf b rfl) (noRows_free b) hlt (fun j hj=>u1 j (by rw [← g1];exact hj)) fun j d hd=>g2 j d _ hd fun d0 hd0=>u2 j d0 hd0
      · cases h
    | opt c d=>
      cases hv with
      | opt _ _ _ h1 h2=>
      cases c with
      | true=>
        simp only [deepF,Option.map_eq_some_iff,Prod.mk.injEq] at h
        obtain ⟨x,hx,rfl,rfl⟩:=h
        exact .opt true _ v (fun _=>deep_R (r:=x.2) hx hl (h1 rfl)) (by simp)
      | false=>simp only [deepF,Option.some.injEq,Prod.mk.injEq] at h;obtain ⟨rfl,_⟩:=h;exact .opt false _ v (by simp) h2
    | agg cs=>
      simp only [deepF,Option.map_eq_some_iff,Prod.mk.injEq] at h
      obtain ⟨x,hx,rfl,rfl⟩:=h
      obtain ⟨vs,rfl,hvl,hh⟩:=hv.agg_inv
      obtain ⟨g1,g2⟩:=many (ys:=x.1) (r':=x.2) hx (fun _ h=>h)
      exact .agg _ vs (by rw [g1];exact hvl) fun k d u hd hu=>g2 k d u hd fun d0 hd0=>hh k d0 u hd0 hu
    | tup cs=>
      simp only [deepF,Option.map_eq_some_iff,Prod.mk.injEq] at h
      obtain ⟨x,hx,rfl,rfl⟩:=h
      obtain ⟨vs,rfl,hvl,hh⟩:=hv.tup_inv
      obtain ⟨g1,g2⟩:=many (ys:=x.1) (r':=x.2) hx (fun _ h=>h)
      exact .tup _ vs (by rw [g1];exact hvl) fun k d u hd hu=>g2 k d u hd fun d0 hd0=>hh k d0 u hd0 hu
    | sl cs k=>
      simp only [deepF,Option.map_eq_some_iff,Prod.mk.injEq] at h
      obtain ⟨x,hx,rfl,rfl⟩:=h
      obtain ⟨g1,g2⟩:=many (ys:=x.1) (r':=x.2) hx (fun _ h=>h)
      cases hv with
      | sln a cap=>
        have:x.1=[]:=List.eq_nil_of_length_eq_zero (by simpa using g1)
        rw [this];exact .sln a cap
      | sl _ _ b o cap us hf hb hlt hcap hmax hc hh=>
        exact .sl _ k b o cap us hf (noRows_free b) hlt hcap hmax (fun j hj=>hc j (by rw [← g1];exact hj)) fun j d hd=>g2 j d _ hd fun d0 hd0=>hh j d0 hd0
    | pt cs=>
      simp only [deepF,Option.map_eq_some_iff,Prod.mk.injEq] at h
      obtain ⟨x,hx,rfl,rfl⟩:=h
      obtain ⟨g1,g2⟩:=many (ys:=x.1) (r':=x.2) hx (fun _ h=>h)
      cases hv with
      | pt _ b o us hf hb hlt hc hh=>
        exact .pt _ b o us hf (noRows_free b) hlt (fun j hj=>hc j (by rw [← g1];exact hj)) fun j d hd=>g2 j d _ hd fun d0 hd0=>hh j d0 hd0
    | fn f fs cs=>
      simp only [deepF] at h
      cases hx:mapO (deepF P m n) fs with
      | none=>rw [hx] at h;cases h
      | some x=>
        rw [hx] at h
        simp only [Option.map_eq_some_iff,Prod.mk.injEq] at h
        obtain ⟨y,hy,rfl,rfl⟩:=h
        obtain ⟨g1,g2⟩:=many (ys:=x.1) (r':=x.2) hx (fun _ h=>List.mem_append_left _ h)
        obtain ⟨k1,k2⟩:=many (ys:=y.1) (r':=y.2) hy (fun _ h=>List.mem_append_right _ h)
        cases hv with
        | fn _ _ _ us vs hul hvl h1 h2=>
          exact .fn f _ _ us vs (by rw [g1];exact hul) (by rw [k1];exact hvl) (fun k d u hd hu=>g2 k d u hd fun d0 hd0=>h1 k d0 u hd0 hu) fun k d u hd hu=>k2 k d u hd fun d0 hd0=>h2 k d0 u hd0 hu
    | s v=>simp only [deepF,Option.some.injEq,Prod.mk.injEq] at h;obtain ⟨rfl,_⟩:=h;obtain ⟨rfl,h⟩:=hv.s_inv;exact .s _ h
    | ub=>simp only [deepF,Option.some.injEq,Prod.mk.injEq] at h;obtain ⟨rfl,_⟩:=h;obtain ⟨b,rfl⟩:=hv.ub_inv;exact .ub b
    | u=>simp only [deepF,Option.some.injEq,Prod.mk.injEq] at h;obtain ⟨rfl,_⟩:=h;exact .u v
    | z=>simp only [deepF,Option.some.injEq,Prod.mk.injEq] at h;obtain ⟨rfl,_⟩:=h;rw [hv.z_eq];exact .z
theorem sns_of_mapO {m:T Row} {n:Nat} {rds:List Nat}:∀ {as bs:List D} {r:List Nat},mapO (deepF P m n) as=some (bs,r)→(∀ i∈r,i∈rds)→Sns P rds (memF m) as bs
  | [],bs,r,h,_=>by
    simp only [mapO,Option.some.injEq,Prod.mk.injEq] at h
    obtain ⟨rfl,_⟩:=h
    trivial
  | a::as,bs,r,h,hr=>by
    simp only [mapO] at h
    split at h
    · cases h
    · rename_i y hy
      split at h
      · cases h
      · rename_i ys hys
        simp only [Option.some.injEq,Prod.mk.injEq] at h
        obtain ⟨rfl,rfl⟩:=h
        exact ⟨fun F β w v hl hv=>deep_R (r:=y.2) hy (fun i hi=>hl i (hr i (List.mem_append_left _ hi))) hv,sns_of_mapO (r:=ys.2) hys fun i hi=>hr i (List.mem_append_right _ hi)⟩
theorem memF_leaf:memF .leaf=fun _=>none:=by funext j;exact getP_leaf _
theorem pcall_zc {f:FuncId} {args:List D} {d r:D} {m':T Row} {n nx':Nat} {rds:List Nat} (hz:ZC P [] f args (memF .leaf) 0 (.inl d) (memF m') nx') (ht:∀ a∈args,Tr a) (hd:deepF P m' n d=some (r,rds)):PCall P f args r:=
  ⟨hz.1,ht,fun F w vs hF hR=>(hz.2 F noRows w vs hdOk_nil (memF_leaf▸msim_none hF) (fun _ _=>rfl) hR).mono fun e w' ⟨β',⟨v,he,hv⟩,hm,hn,hst,_⟩=>
    ⟨v,he,deep_R hd (fun i hi r hr=>by obtain ⟨p,hp,hrow⟩:=hm.row i r hr;exact ⟨p,hp,hrow,fun b hb=>hm.nf i p b hp hb⟩) hv,kept_of_step hst⟩⟩
variable {x:Ctx} {ev:Ev}
def PureOk (P:Program) (f:FuncId) (args:List D):D ⊕ (List D×Nat×TypeId)→Prop
  | .inl r=>PCall P f args r
  | .inr (es,k,t)=>OCall P f args es k t
theorem pureR_ok {f:FuncId} {args:List D} {y0:D ⊕ List PanicEntry} {m':T Row} {nx':Nat} {y:D ⊕ (List D×Nat×TypeId)} (h:pureR P (some (y0,m',nx'))=some y) (hz:ZC P [] f args (memF .leaf) 0 y0 (memF m') nx') (ht:∀ a∈args,Tr a):PureOk P f args y:=by
  cases y0 with
  | inr ch=>cases h
  | inl d=>
    have deep:∀ {d},deepR P m' d=some y→ZC P [] f args (memF .leaf) 0 (.inl d) (memF m') nx'→PureOk P f args y:=fun {d} hd hz=>by
      unfold deepR at hd
      split at hd
      · rename_i r rds hd1
        cases hd
        exact pcall_zc hz ht hd1
      · cases hd
    unfold pureR at h
    split at h
    · rename_i i k m2 nx2 heq
      cases heq
      split at h
      · rename_i es t hmi
        cases hall:es.all (trB depth) with
        | false=>rw [hall] at h;exact deep h hz
        | true=>
          rw [hall] at h
          cases h
          exact ocall_mk hz.1 ht (fun a ha=>trB_Tr (List.all_eq_true.1 hall a ha)) fun F w vs hF hR=>(hz.2 F noRows w vs hdOk_nil (memF_leaf▸msim_none hF) (fun _ _=>rfl) hR).mono fun e w' ⟨β',⟨v,he,hv⟩,hm,hn,hst,_⟩=>⟨v,i,_,β',he,hmi,hv,hm,hst⟩
      · cases h
    · rename_i heq
      cases heq
      exact deep h hz
    · cases h
theorem pureE_ok (hx:CtxOk P x) (hev:EvOk P ev) {f:FuncId} {args:List D} {y:D ⊕ (List D×Nat×TypeId)} (h:pureE P x ev f args=some y) (ht:∀ a∈args,Tr a):PureOk P f args y:=by
  unfold pureE at h
  cases hr:runE P x ev [] f args .leaf 0 with
  | none=>rw [hr] at h;cases h
  | some z=>
    obtain ⟨y0,m',nx'⟩:=z
    rw [hr] at h
    exact pureR_ok h (runE_ok hx.mix hx.tab hev hr) ht
theorem noRef_ok:∀ {n:Nat} {d:D},noRef n d=true→NoRef d
  | 0,d,h=>by cases h
  | n+1,d,h=>fun F F' β β' w w' v hv=>by
    have many:∀ {cs:List D},cs.all (noRef n)=true→∀ {vs:List Value},(∀ (k:Nat) (d:D) (u:Value),cs[k]? =some d→vs[k]? =some u→R F β w d u)→∀ (k:Nat) (d:D) (u:Value),cs[k]? =some d→vs[k]? =some u→R F' β' w' d u:=
      fun hc _ hh k d u hd hu=>noRef_ok (List.all_eq_true.1 hc d (List.mem_of_getElem? hd)) F F' β β' w w' u (hh k d u hd hu)
    unfold noRef at h
    split at h
    · rw [hv.s_inv.1];exact .s _ hv.s_inv.2
    · obtain ⟨b,rfl⟩:=hv.ub_inv;exact .ub b
    · rw [hv.z_eq];exact .z
    · obtain ⟨vs,rfl,hl,hh⟩:=hv.agg_inv
      exact .agg _ vs hl (many h hh)
    · obtain ⟨vs,rfl,hl,hh⟩:=hv.tup_inv
      exact .tup _ vs hl (many h hh)
    · cases h
theorem callT_ok {hd:Hd} (hx:CtxOk P x) (hev:EvOk P ev):CallTOk P hd (callT P x ev hd):=fun f args m nx y m' nx' h=>by
  unfold callT at h
  split at h
  · rename_i r hr
    cases h
    have hp:=hx.known _ _ _ hr
    exact ⟨hp.1,fun F β w vs _ hm hnx hR=>(call_pure hm hp hR).mono fun e w' ⟨v,h1,h2,h3,h4⟩=>⟨β,⟨v,h1,h2⟩,h3,hnx,h4,Nat.le_refl _,fun _ _ h=>h⟩⟩
  · split at h
    · rename_i r hr
      cases h
      exact (hx.knownA _ _ _ _ _ _ _ hr).any
    · split at h
      · rename_i r hr
        cases h
        cases hi:inL f x.deep with
        | false=>rw [hi] at hr;cases hr
        | true=>
        rw [hi] at hr
        simp only [cond_true] at hr
        unfold deepK at hr
        split at hr
        rotate_left
        · cases hr
        rename_i args' rds hdeep
        split at hr
        rotate_left
        · cases hr
        rename_i r' hk
        cases hn:noRef depth r' with
        | false=>rw [hn] at hr;cases hr
        | true=>
          rw [hn] at hr
          cases hr
          have hp:=hx.known _ _ _ hk
          exact ⟨hp.1,fun F β w vs _ hm hnx hR=>(call_snap hm (sns_of_mapO hdeep fun _ h=>h) (fun _ _ _=>rfl) hp (noRef_ok hn) hR).mono fun e w' ⟨v,h1,h2,h3,h4⟩=>⟨β,⟨v,h1,h2⟩,h3,hnx,h4,Nat.le_refl _,fun _ _ h=>h⟩⟩
      · exact runE_ok hx.mix hx.tab hev h
theorem callP_ok (hx:CtxOk P x) (hev:EvOk P ev):CallPOk P (callP P x ev):=fun f args m nx p h o st hg hm hn ha hc=>by
  have hw:Wants #[] o st true:=wants_none hg
  have pl:∀ r,PCall P f args r→p=⟨r,[],[],0⟩→p.Ok P #[] o st∧∀ i∈p.wr,st.mem i≠none∨(nx≤i∧i<nx+p.new):=fun r hr hp=>by
    subst hp
    exact ⟨ok_pure hw ha hc hr,by simp [Plan.wr]⟩
  unfold callP at h
  split at h
  · rename_i r hr
    cases h
    exact pl r (hx.known _ _ _ hr) rfl
  · cases hall:args.all (trB depth) with
    | true=>
      rw [hall] at h
      simp only [cond_true] at h
      have ht:∀ a∈args,Tr a:=fun a ha=>trB_Tr (List.all_eq_true.1 hall a ha)
      cases hp:pureE P x ev f args with
      | none=>rw [hp] at h;cases h
      | some y=>
        rw [hp] at h
        have h1:=pureE_ok hx hev hp ht
        cases y with
        | inl r=>cases h;exact pl r h1 rfl
        | inr y=>
          obtain ⟨es,k,t⟩:=y
          cases h
          subst hn
          exact ⟨ok_own hw ha hc h1,by simp [Plan.wr]⟩
    | false=>
      rw [hall] at h
      simp only [cond_false] at h
      split at h
      · cases h
      · rename_i args' rds hdeep
        have hsn:Sns P rds st.mem args args':=by rw [hm];exact sns_of_mapO hdeep fun _ h=>h
        have snap:∀ r,PCall P f args' r→planS rds (some (.inl r))=some p→p.Ok P #[] o st∧∀ i∈p.wr,st.mem i≠none∨(nx≤i∧i<nx+p.new):=fun r hr hp=>by
          simp only [planS] at hp
          cases hs:r.scal with
          | false=>rw [hs] at hp;cases hp
          | true=>
            rw [hs] at hp
            cases hp
            exact ⟨ok_snap hw ha hc hsn hr hs,by simp [Plan.wr]⟩
        split at h
        · rename_i r hr
          exact snap r (hx.known _ _ _ hr) h
        · cases hp:pureE P x ev f args' with
          | none=>rw [hp] at h;cases h
          | some y=>
            rw [hp] at h
            cases y with
            | inl r=>exact snap r (pureE_ok hx hev hp (mapO_all hdeep fun x y r' h=>deep_Tr h)) h
            | inr y=>cases h
theorem evC_ok (hx:CtxOk P x):∀ n,EvOk P (evC P x n):=by
  intro n
  induction n using Nat.strongRecOn with
  | _ n ih=>
  cases n with
  | zero=>intro hd rf c s e s' h;cases h
  | succ n=>
    have hn:=ih n (Nat.lt_succ_self n)
    intro hd rf c s e s' h F r k β w a hrf hh hlt hs
    replace h:codeF c P x (evC P x n) hd rf s=some (e,s'):=h
    have self:∀ {e0},some (e0,s)=some (e,s')→PostE P F rf s.nx β w a e s' e0 a w:=fun {e0} h=>by
      cases h
      exact ⟨⟨_,β,⟨rfl,rfl⟩,hs,(Since.refl (stE s) β w a).big⟩,fun _=>rfl⟩
    have andThen:∀ {c1 c2:Code} {Q:Exit→Act→World→Prop},codeLt a.tmps.size c1=true→thenE (evC P x n) hd rf c2 (evC P x n hd rf c1 s)=some (e,s')→(∀ e1 s1 a1 w1 β1,evC P x n hd rf c1 s=some (e1,s1)→Sim P F (stE s1) β1 w1 a1→Big s.nx β w a (stE s1) β1 w1 a1→(rf=false→a1.defers=a.defers)→
     (e1=.normal→evC P x n hd rf c2 s1=some (e,s')→Q .normal a1 w1)∧(e1≠ .normal→e1=e→s1=s'→Q e1 a1 w1))→c1.wpIn (Fe r) k P Q a w:=fun {c1 c2 Q} hl ht hk=>by
      cases h1:evC P x n hd rf c1 s with
      | none=>rw [h1] at ht;cases ht
      | some es=>
        obtain ⟨e1,s1⟩:=es
        rw [h1] at ht
        refine wpIn_mono (hn hd rf c1 s e1 s1 h1 F r k β w a hrf hh hl hs) fun e2 a2 w2 hp=>?_
        obtain ⟨⟨_,β2,⟨rfl,rfl⟩,hs2,hb2⟩,hd2⟩:=hp
        have:=hk e2 s1 a2 w2 β2 h1 hs2 hb2 hd2
        cases e2 with
        | normal=>exact this.1 rfl ht
        | _=>cases ht;exact this.2 (by simp) rfl rfl
    cases c with
    | skip=>exact wpIn_skip (self h)
    | ret=>exact wpIn_ret (self h)
    | exit id=>exact wpIn_exit (self h)
    | label l=>exact wpIn_label (self h)
    | region id ops dr=>
      have hl:opsLt a.tmps.size ops=true:=hlt
      refine wpIn_mono (Q:=Post P F s.nx β w a (QE e s')) ?_ fun e1 a1 w1 ⟨st',β',h1,h2,h3⟩=>⟨⟨st',β',h1,h2,h3.big⟩,fun _=>h3.defers⟩
      cases dr with
      | false=>
        refine wpIn_region ?_
        exact opsT_run (callT_ok hx hn) hh hl h hs (Since.refl (stE s) β w a)
      | true=>exact region_E hx.mix (callT_ok hx hn) (callP_ok hx hn) hl h hh hs
    | seq c1 c2=>
      simp only [codeLt,Bool.and_eq_true] at hlt
      refine wpIn_seq (andThen hlt.1 h fun e1 s1 a1 w1 β1 _ hs1 hb1 hd1=>⟨fun he h2=>?_,fun he h2 h3=>?_⟩)
      · refine wpIn_mono (hn hd rf c2 s1 e s' h2 F r k β1 w1 a1 hrf (hh.step hb1.step) (by rw [hb1.size];exact hlt.2) hs1) fun e2 a2 w2 hp=>PostE.trans hb1 hd1 hp
      · subst h2;subst h3
        have hq:PostE P F rf s.nx β w a e1 s1 e1 a1 w1:=⟨⟨_,β1,⟨rfl,rfl⟩,hs1,hb1⟩,hd1⟩
        cases e1 with
        | normal=>exact absurd rfl he
        | _=>exact hq
    | loop b=>
      refine wpIn_loop_rel (fun j a1 w1=>∃ s1 β1,j≤n+1∧evC P x j hd rf (.loop b) s1=some (e,s')∧Sim P F (stE s1) β1 w1 a1∧Big s.nx β w a (stE s1) β1 w1 a1∧(rf=false→a1.defers=a.defers)) (j₀:=n+1) ⟨s,β,Nat.le_refl _,h,hs,(Since.refl (stE s) β w a).big,fun _=>rfl⟩ ?_
      rintro j a1 w1 ⟨s1,β1,hj,h1,hs1,hb1,hd1⟩
      cases j with
      | zero=>cases h1
      | succ j=>
        replace h1:thenE (evC P x j) hd rf (.loop b) (evC P x j hd rf b s1)=some (e,s'):=h1
        cases h2:evC P x j hd rf b s1 with
        | none=>rw [h2] at h1;cases h1
        | some es=>
          obtain ⟨e2,s2⟩:=es
          rw [h2] at h1
          refine wpIn_mono (ih j (by omega) hd rf b s1 e2 s2 h2 F r k β1 w1 a1 hrf (hh.step hb1.step) (by rw [hb1.size];exact hlt) hs1) fun e3 a3 w3 hp=>?_
          obtain ⟨⟨_,β3,⟨rfl,rfl⟩,hs3,hb3⟩,hd3⟩:=hp
          cases e3 with
          | normal=>exact ⟨j,Nat.lt_succ_self j,s2,β3,by omega,h1,hs3,hb1.trans hb3,fun e=>(hd3 e).trans (hd1 e)⟩
          | _=>cases h1;exact ⟨⟨_,β3,⟨rfl,rfl⟩,hs3,hb1.trans hb3⟩,fun e=>(hd3 e).trans (hd1 e)⟩
    | cond c c1 c2=>
      simp only [codeLt,Bool.and_eq_true] at hlt
      replace h:(match valE s.env c with
        | .s (.bool true)=>evC P x n hd rf c1 s
        | .s (.bool false)=>evC P x n hd rf c2 s
        | _=>none)=some (e,s'):=h
      have hR:R F β w (valE s.env c) (a.eval c):=by rw [valE_opd];exact hs.e.un.opd c
      split at h
      · rename_i hv
        rw [hv] at hR
        exact wpIn_cond_split hR.s_inv.1 (fun _=>hn hd rf c1 s e s' h F r k β w a hrf hh hlt.1 hs) fun h=>by cases h
      · rename_i hv
        rw [hv] at hR
        exact wpIn_cond_split hR.s_inv.1 (fun h=>by cases h) fun _=>hn hd rf c2 s e s' h F r k β w a hrf hh hlt.2 hs
      · cases h
    | scope b=>
      replace h:noGo (evC P x n hd rf b s)=some (e,s'):=h
      cases h1:evC P x n hd rf b s with
      | none=>rw [h1] at h;cases h
      | some es=>
        obtain ⟨e1,s1⟩:=es
        rw [h1] at h
        refine wpIn_scope (wpIn_mono (hn hd rf b s e1 s1 h1 F r k β w a hrf hh hlt hs) fun e2 a2 w2 hp=>?_)
        obtain ⟨⟨_,β2,⟨rfl,rfl⟩,hs2,hb2⟩,hd2⟩:=hp
        cases e2 with
        | goto l=>cases h
        | _=>cases h;exact ⟨⟨_,β2,⟨rfl,rfl⟩,hs2,hb2⟩,hd2⟩
    | block id b=>
      replace h:inBlk id (evC P x n hd rf b s)=some (e,s'):=h
      cases h1:evC P x n hd rf b s with
      | none=>rw [h1] at h;cases h
      | some es=>
        obtain ⟨e1,s1⟩:=es
        rw [h1] at h
        refine wpIn_block (wpIn_mono (hn hd rf b s e1 s1 h1 F r k β w a hrf hh hlt hs) fun e2 a2 w2 hp=>?_)
        obtain ⟨⟨_,β2,⟨rfl,rfl⟩,hs2,hb2⟩,hd2⟩:=hp
        cases e2 with
        | exit i=>
          simp only [inBlk] at h
          simp only [Exit.inBlock]
          by_cases hi:i=id
          · rw [if_pos hi]
            subst hi
            rw [Nat.beq_refl] at h
            cases h
            exact ⟨⟨_,β2,⟨rfl,rfl⟩,hs2,hb2⟩,hd2⟩
          · rw [if_neg hi]
            have:Nat.beq i id=false:=by cases hb:Nat.beq i id with | false=>rfl | true=>exact absurd (Nat.eq_of_beq_eq_true hb) hi
            rw [this] at h
            cases h
            exact ⟨⟨_,β2,⟨rfl,rfl⟩,hs2,hb2⟩,hd2⟩
        | _=>cases h;exact ⟨⟨_,β2,⟨rfl,rfl⟩,hs2,hb2⟩,hd2⟩
    | rangeFunc g ps assign body=>
      refine wpIn_mono (range_ok hx hn h hrf hh hlt hs) fun _ _ _ hp=>⟨hp,fun e=>?_⟩
      subst e
      cases h
    | _=>cases h
theorem pcall_ev (hx:CtxOk P x) (n:Nat) {f:FuncId} {args:List D} {r:D} (h:pureE P x (evC P x n) f args=some (.inl r)) (ht:args.all (trB depth)=true):PCall P f args r:=
  pureE_ok hx (evC_ok hx n) h fun a ha=>trB_Tr (List.all_eq_true.1 ht a ha)
theorem ocall_ev (hx:CtxOk P x) (n:Nat) {f:FuncId} {args es:List D} {k:Nat} {t:TypeId} (h:pureE P x (evC P x n) f args=some (.inr (es,k,t))) (ht:args.all (trB depth)=true):OCall P f args es k t:=
  pureE_ok hx (evC_ok hx n) h fun a ha=>trB_Tr (List.all_eq_true.1 ht a ha)
theorem zc_ev (hx:CtxOk P x) (n:Nat) {f:FuncId} {args:List D} {m m':T Row} {nx nx':Nat} {y:D ⊕ List PanicEntry} (h:runE P x (evC P x n) [] f args m nx=some (y,m',nx')):ZC P [] f args (memF m) nx y (memF m') nx':=
  runE_ok hx.mix hx.tab (evC_ok hx n) h
end
section
variable {P:Program} {ops:Array Oper} {Q:Exit→St→Prop} {F:Nat→Prop} {N₀:Nat} {β₀:Pla} {w₀:World} {a₀:Act}
def Plan.OkH (P:Program) (ops:Array Oper) (o:Oper) (st:St) (p:Plan):Prop:=
  ∀ (F:Nat→Prop) (β:Pla) (w:World) (a:Act) (env:Env),(∀ t∈o.looksAt ops,env t=st.env t)→ESim F β w env a→MSim P F st.mem β w→(∀ i,st.nx≤i→β i=none)→
    ∀ (r:Option Nat) (n:Nat) (QX:Exit→Act→World→Prop) (K:Act→World→Prop),
      (∀ v w' β',R F β' w' p.val v→MSim P F (upds st.mem p.ups) β' w'→Step β w β' w'→(∀ i,β i=none→(i<st.nx∨st.nx+p.new≤i)→β' i=none)→K (a.put o.dst v) w')→
      runOp r n P ops QX o K a w
def FL (F:Nat→Prop) (ob:Option Nat):Nat→Prop:=fun x=>F x∨some x=ob
def Lt (P:Program) (F:Nat→Prop) (t:Nat) (ty:TypeId) (w₀ w:World) (a:Act) (ob:Option Nat):Prop:=∀ b,ob=some b→w₀.heap.size≤b∧¬ F b∧b<w.heap.size∧a.tmps.getD t undef=.pointer (some ⟨b,0,none⟩)∧
  ∃ z:Value,zeroP P ty=z.cells.toList.map toD1∧(∀ u∈z.cells.toList,(toD1 u).one=true)∧w.heap[b]? =some (.cells z.cells ty (0,0))
theorem fl_none {m:Mem} {β:Pla} {w:World} {env:Env} {a:Act} (he:ESim F β w env a) (hm:MSim P F m β w):ESim (FL F none) β w env a∧MSim P (FL F none) m β w:=by
  have h:∀ b,FL F none b→F b:=fun b hb=>hb.elim id fun e=>by cases e
  exact ⟨fun t=>(he t).weak h,hm.weak h fun t ht=>.inl (hm.fb.tab t ht).1⟩
theorem bind_row {m:Mem} {β:Pla} {w:World} {nx b:Nat} {ty:TypeId} {z:Value} (hm:MSim P (FL F (some b)) m β w) (hF:FB F w) (hn:β nx=none) (hFb:¬ F b) (hlt:b<w.heap.size) (hz:zeroP P ty=z.cells.toList.map toD1) (h1:∀ u∈z.cells.toList,(toD1 u).one=true) (hb:w.heap[b]? =some (.cells z.cells ty (0,0))):
    ∃ p,MSim P F (up m nx (some (.cells (zeroP P ty) ty))) (up β nx (some p)) w∧R F (up β nx (some p)) w (.rp nx 0) (.pointer (some ⟨b,0,none⟩))∧p.blk=some b∧∀ {d:D} {v:Value},R (FL F (some b)) β w d v→R F (up β nx (some p)) w d v:=by
  obtain ⟨p,hp⟩:∃ p,p=Pl.cells b 0 (zeroP P ty).length (zeroP P ty).length (P.cellsOf ty):=⟨_,rfl⟩
  have hpb:p.blk=some b:=by rw [hp];rfl
  have himm:∀ b',b'<w.heap.size→¬ FL F (some b) b'→β.free b'→SameB w w b'∧Pla.free (up β nx (some p)) b'∧¬ F b':=fun b' _ hf hfree=>⟨SameB.refl w b',free_other hfree (fun q hq e=>by cases hq;rw [hpb] at e;cases e;exact hf (.inr rfl)),fun e=>hf (.inl e)⟩
  have hkeep:∀ i q,(∀ r,q≠ .raw r)→β i=some q→(up β nx (some p)) i=some q∨(up β nx (some p)) i=some .dead:=fun i q _ hq=>.inl (by rw [up_ne _ _ (fun e=>by rw [e,hn] at hq;cases hq)];exact hq)
  have lift:∀ {d:D} {v:Value},R (FL F (some b)) β w d v→R F (up β nx (some p)) w d v:=fun h=>h.gen (Nat.le_refl _) himm hkeep
  have hnb:∀ i q b',β i=some q→q.blk=some b'→b'≠b:=fun i q b' hq e e'=>hm.nf i q b' hq e (.inr (by rw [e']))
  have look:∀ i q,(up β nx (some p)) i=some q→(i=nx∧q=p)∨(i≠nx∧β i=some q):=fun i q hq=>by
    by_cases hi:i=nx
    · subst hi;rw [up_same] at hq;cases hq;exact .inl ⟨rfl,rfl⟩
    · rw [up_ne _ _ hi] at hq;exact .inr ⟨hi,hq⟩
  obtain ⟨c1,c2⟩:=zero_R (F:=F) (β:=up β nx (some p)) (w:=w) hz h1
  refine ⟨p,⟨fun i r hi=>?_,fun i j q q' b' hq hq' e e'=>?_,fun i q b' hq e=>?_,fun i q b' hq e=>?_,hF⟩,?_,hpb,lift⟩
  · by_cases hin:i=nx
    · subst hin
      rw [up_same] at hi
      cases hi
      refine ⟨p,up_same _ _ _,?_⟩
      rw [hp]
      refine .cells _ ty b 0 _ _ z.cells hb (by simp at c1 ⊢;omega) (Nat.le_refl _) rfl fun k d hk=>?_
      have hk':k<(zeroP P ty).length:=(List.getElem?_eq_some_iff.1 hk).1
      have hkc:k<z.cells.size:=by simpa using (c1▸hk':k<z.cells.toList.length)
      obtain ⟨g1,g2⟩:=c2 k d z.cells[k] hk (by simp [hkc])
      rw [← hp]
      exact ⟨z.cells[k],by rw [Nat.zero_add];simp [hkc],g1,g2⟩
    · rw [up_ne _ _ hin] at hi
      obtain ⟨q,hq,hr⟩:=hm.row i r hi
      exact ⟨q,by rw [up_ne _ _ hin];exact hq,hr.gen (Nat.le_refl _) (fun b' h1 h2 h3=>himm b' h1 h2 h3) hkeep fun _ _=>rfl⟩
  · rcases look i q hq with ⟨rfl,rfl⟩ | ⟨hi,h1⟩<;>rcases look j q' hq' with ⟨rfl,rfl⟩ | ⟨hj,h2⟩
    · rfl
    · rw [hpb] at e;cases e;exact absurd rfl (hnb j q' _ h2 e')
    · rw [hpb] at e';cases e';exact absurd rfl (hnb i q _ h1 e)
    · exact hm.inj i j q q' b' h1 h2 e e'
  · rcases look i q hq with ⟨rfl,rfl⟩ | ⟨hi,h1⟩
    · rw [hpb] at e;cases e;exact hlt
    · exact hm.lt i q b' h1 e
  · rcases look i q hq with ⟨rfl,rfl⟩ | ⟨hi,h1⟩
    · rw [hpb] at e;cases e;exact hFb
    · exact fun hf=>hm.nf i q b' h1 e (.inl hf)
  · rw [hp];exact .rp nx 0 b 0 _ _ _ (up_same _ _ _)
theorem alloc_runOp {o:Oper} {ty:TypeId} {t:Nat} {w:World} {a:Act} {r:Option Nat} {n:Nat} {QX:Exit→Act→World→Prop} {K:Act→World→Prop} (ho:o.op=.alloc ty) (hd:o.dst=some t) (hg:o.guard=none) (hty:tyOk P ty=true)
    (hK:∀ z:Value,zeroP P ty=z.cells.toList.map toD1→(∀ u∈z.cells.toList,(toD1 u).one=true)→K (a.put (some t) (.pointer (some ⟨w.heap.size,0,none⟩))) (w.alloc (.cells z.cells ty))):runOp r n P ops QX o K a w:=by
  obtain ⟨z,hz,_,h3,h4⟩:=run_zeroValue' (P:=P) w hty
  have hw:Region.wanted o (yielded ops a.tmps)=true:=by simp [Region.wanted,hg]
  have hrun:(execOp a.eval o).run P w=.ok (.value (.pointer (some ⟨w.heap.size,0,none⟩))) (w.alloc (.cells z.cells ty)):=by
    unfold execOp
    rw [ho]
    simp [Instr.alloc,hz,newVar_run]
  unfold runOp
  rw [hw,if_pos rfl]
  refine ⟨fun _ _=>trivial,?_⟩
  rw [sem_at (fun c hc=>by rw [ho] at hc;cases hc),hrun]
  show K (a.put o.dst _) _
  rw [hd]
  exact hK z h3 h4
structure PairOk (p q:Plan) (hp hq:Bool):Prop where
  ww:∀ x∈p.wr,x∉q.wr
  wr:∀ x∈p.wr,x∉q.rd
  rw:∀ x∈q.wr,x∉p.rd
  hp:hp=true→q.ups=[]∧q.new=0
  hq:hq=true→p.ups=[]∧p.new=0
theorem draw_h {oo:Nat→Oper} {pp:Nat→Plan} {st₀:St} {hv:Nat→Bool} {p nl t:Nat} {ty:TypeId} (r:Option Nat) (n:Nat) (hoo:∀ j o,ops[j]? =some o→oo j=o) (hlt:opsLt a₀.tmps.size ops=true) (hsz:ops.size=p+2)
    (hed:∀ (i:Nat) (o:Oper),ops[i]? =some o→∀ e∈o.after,Region.binds .any e=true→e.on<i)
    (hla:(oo p).op=.alloc ty) (hld:(oo p).dst=some t) (hlg:(oo p).guard=none) (hty:tyOk P ty=true) (hdj:∀ j,j<p→(oo j).dst≠some t) (h0:st₀.env t=.u)
    (hfull:∀ i,i<p+1→((befs ops.toList []).getD (p+1) 0).testBit i=true) (hnl:nl≤p)
    (hok:∀ j,j<nl→(pp j).Ok P ops (oo j) (sTx oo pp st₀ j)∨(hv j=true∧(pp j).OkH P ops (oo j) (sTx oo pp st₀ j)))
    (hun:∀ i j,i<j→j<nl→((befs ops.toList []).getD j 0).testBit i=false→(oo i).apart ops (oo j)=true∧PairOk (pp i) (pp j) (hv i) (hv j))
    (hsuf:nl=p→∀ β w a,Sim P F ⟨up (sTx oo pp st₀ p).env t (.rp (sTx oo pp st₀ p).nx 0),up (sTx oo pp st₀ p).mem (sTx oo pp st₀ p).nx (some (.cells (zeroP P ty) ty)),(sTx oo pp st₀ p).nx+1⟩ β w a→
      Since N₀ β₀ w₀ a₀ ⟨up (sTx oo pp st₀ p).env t (.rp (sTx oo pp st₀ p).nx 0),up (sTx oo pp st₀ p).mem (sTx oo pp st₀ p).nx (some (.cells (zeroP P ty) ty)),(sTx oo pp st₀ p).nx+1⟩ β w a→
      ∀ K:Act→World→Prop,(∀ a' w',Post P F N₀ β₀ w₀ a₀ Q .normal a' w'→K a' w')→runOp r n P ops (Post P F N₀ β₀ w₀ a₀ Q) (oo (p+1)) K a w)
    (hpan:nl<p→nl+1=p∧(∀ i,i<nl→((befs ops.toList []).getD nl 0).testBit i=true)∧∃ ch mP nxP,Q (.panic ch) ⟨(sTx oo pp st₀ nl).env,mP,nxP⟩∧
      ∀ (F:Nat→Prop) (β:Pla) (w:World) (a:Act),Sim P F (sTx oo pp st₀ nl) β w a→∀ (QX:Exit→Act→World→Prop) (K:Act→World→Prop),
        (∀ β' w',MSim P F mP β' w'→(∀ i,nxP≤i→β' i=none)→Step β w β' w'→(sTx oo pp st₀ nl).nx≤nxP→(∀ i,i<(sTx oo pp st₀ nl).nx→β i=none→β' i=none)→QX (.panic ch) a w')→runOp r n P ops QX (oo nl) K a w)
    (hN:N₀≤st₀.nx) (hFB:FB F w₀):
    ∀ (fuel:Nat) (listed:Array Bool) (β:Pla) (w:World) (a:Act),listed.size=ops.size→listed.toList.countP (fun b=> !b)≤fuel→listed.getD (p+1) false=false→(nl<p→listed.getD nl false=false)→
      (∀ j,listed.getD j false=true→∀ o,ops[j]? =some o→∀ e∈o.after,Region.binds .any e=true→listed.getD e.on false=true)→
      (∃ ob:Option Nat,(listed.getD p false=true→ob.isSome=true)∧(listed.getD p false=false→ob=none)∧Lt P F t ty w₀ w a ob∧DS P (FL F ob) oo pp st₀ nl N₀ β₀ w₀ a₀ (fun j=>listed.getD j false) β w a)→
      wpAnyIn (Fe r) n P .any ops (Post P F N₀ β₀ w₀ a₀ Q) fuel listed a w:=by
  have hend:∀ listed:Array Bool,listed.size=ops.size→Region.ready .any ops listed=[]→∀ k,k<ops.size→listed.getD k false=true:=by
    intro listed hsz hr k
    induction k using Nat.strongRecOn with
    | _ k ih=>
      intro hk
      cases hl:listed.getD k false with
      | true=>rfl
      | false=>
        exfalso
        have:k∈Region.ready .any ops listed:=by
          rw [mem_ready]
          refine ⟨?_,ops[k],by simp [hk],fun e he hb=>?_⟩
          · have hk':k<listed.size:=by omega
            simpa [hk'] using hl
          · have h1:=hed k ops[k] (by simp [hk]) e he hb
            exact ih e.on h1 (by omega)
        rw [hr] at this
        cases this
  have henvt:∀ (S:Nat→Bool),(stF oo pp st₀ S nl).env t=.u:=fun S=>by
    rw [← h0,stF_env oo pp st₀ (T:=fun _=>false) nl (fun j hj _=>hdj j (by omega))]
    have:∀ m,stF oo pp st₀ (fun _=>false) m=st₀:=fun m=>by
      induction m with
      | zero=>rfl
      | succ m ih=>simp only [stF,Bool.false_eq_true,if_false];exact ih
    rw [this]
  intro fuel
  induction fuel with
  | zero=>
    intro listed β w a hsz' hc hll _ _ _
    exfalso
    have hx:p+1<listed.size:=by omega
    have h1:listed[p+1]=false:=by simpa [hx] using hll
    have h2:0<listed.toList.countP (fun b=> !b):=List.countP_pos_iff.2 ⟨listed[p+1],by simp,by simp [h1]⟩
    omega
  | succ fuel ih=>
    rintro listed β w a hsz' hc hll hlp hcl ⟨ob,hob1,hob2,hLt,hds⟩
    refine ⟨fun hr=>?_,fun k hk=>?_⟩
    · rw [hend listed hsz' hr (p+1) (by omega)] at hll
      cases hll
    rw [mem_ready] at hk
    obtain ⟨hk1,o,ho,hpre⟩:=hk
    have hkn:k<ops.size:=(Array.getElem?_eq_some_iff.1 ho).1
    have hkl:k<listed.size:=by omega
    have hkf:listed[k]=false:=by simpa [hkl] using hk1
    have hkS:listed.getD k false=false:=by simp [hkl,hkf]
    have eo:oo k=o:=hoo k o ho
    have hbits:(∀ i,i<k→((befs ops.toList []).getD k 0).testBit i=true)→∀ j,j<k→listed.getD j false=true:=by
      intro q2 j hj
      have hb:=q2 j hj
      have h1:=befs_get ops.toList [] k o (by simpa using ho)
      simp only [List.length_nil,Nat.zero_add] at h1
      rw [h1] at hb
      rcases befOf_bit _ j _ 0 hb with h2 | ⟨e,he,hbe,h2⟩
      · simp at h2
      · have hSe:=hpre e (by simpa using he) hbe
        rcases h2 with rfl | h2
        · exact hSe
        · have hlt:=hed k o ho e (by simpa using he) hbe
          have h3:((befs ops.toList []).getD e.on 0).testBit j=true:=by simpa [List.getElem?_take,hlt] using h2
          exact bit_listed (S:=fun j=>listed.getD j false) hcl j e.on hSe h3
    have hcount:listed.toList.countP (fun b=> !b)≤fuel+1:=hc
    have hcount':(listed.setIfInBounds k true).toList.countP (fun b=> !b)≤fuel:=by
      have:(listed.setIfInBounds k true).toList=listed.toList.set k true:=by simp
      rw [this,List.countP_set (by simpa using hkl)]
      have h2:0<listed.toList.countP (fun b=> !b):=List.countP_pos_iff.2 ⟨listed[k],by simp,by simp [hkf]⟩
      have h3:listed.toList[k]'(by simpa using hkl)=false:=by simpa using hkf
      rw [h3]
      simp only [Bool.not_false,if_true,Bool.not_true,Bool.false_eq_true,if_false]
      omega
    have hcl':∀ j,(listed.setIfInBounds k true).getD j false=true→∀ o,ops[j]? =some o→∀ e∈o.after,Region.binds .any e=true→(listed.setIfInBounds k true).getD e.on false=true:=by
      intro j hj o' ho' e he hb
      by_cases hjk:j=k
      · subst hjk
        rw [ho] at ho';cases ho'
        exact getD_set_true (hpre e he hb)
      · rw [getD_set_ne false (Ne.symm hjk)] at hj
        exact getD_set_true (hcl j hj o' ho' e he hb)
    refine runOp_wpOpIn ho ?_
    rw [← eo]
    by_cases hkp1:k=p+1
    ·
      subst hkp1
      have hall:=hbits hfull
      have hnp:nl=p:=by
        rcases Nat.lt_or_ge nl p with h | h
        · have h1:=hlp h
          rw [hall nl (by omega)] at h1;cases h1
        · omega
      have hS:stF oo pp st₀ (fun j=>listed.getD j false) nl=sTx oo pp st₀ p:=by rw [← hnp];exact stF_same oo pp st₀ _ fun j hj=>hall j (by omega)
      have h1:=hds.e
      have h2:=hds.m
      rw [hS] at h1 h2
      obtain ⟨b,rfl⟩:=Option.isSome_iff_exists.1 (hob1 (hall p (by omega)))
      obtain ⟨g1,g2,g3,g4,z,g5,g6,g7⟩:=hLt b rfl
      have hnone:∀ i,(sTx oo pp st₀ p).nx≤i→β i=none:=fun i hi=>hds.free i (Nat.le_trans (sTx_nx_le oo pp st₀ (Nat.zero_le _)) hi) fun j hj _ h3=>by
        have:=sTx_nx_le oo pp st₀ (show j+1≤p by omega)
        rw [sTx_succ,nxt_nx] at this
        omega
      have hFw:FB F w:=⟨fun b hb=>h2.fb.lt b (.inl hb),fun t ht=>⟨(hFB.tab t ht).1,(h2.fb.tab t ht).2⟩⟩
      obtain ⟨pl,k1,k2,k3,k4⟩:=bind_row h2 hFw (hnone _ (Nat.le_refl _)) g2 g3 g5 g6 g7
      refine hsuf hnp (up β (sTx oo pp st₀ p).nx (some pl)) w a ⟨fun u=>?_,k1,fun i hi=>?_⟩ ⟨?_,?_,fun i hi hb=>?_,hds.size,hds.defers⟩ _ ?_
      rotate_left 5
      · intro a' w' hp
        have hr:Region.ready .any ops (listed.setIfInBounds (p+1) true)=[]:=by
          cases hrr:Region.ready .any ops (listed.setIfInBounds (p+1) true) with
          | nil=>rfl
          | cons x xs=>
            exfalso
            have hx:x∈Region.ready .any ops (listed.setIfInBounds (p+1) true):=by rw [hrr];simp
            rw [mem_ready] at hx
            obtain ⟨g1,o',ho',_⟩:=hx
            have hxs:x<ops.size:=(Array.getElem?_eq_some_iff.1 ho').1
            by_cases hxk:x=p+1
            · subst hxk
              simp [hkl] at g1
            · have h3:=hall x (by omega)
              rw [getD_set_ne true (Ne.symm hxk)] at g1
              have hxl:x<listed.size:=by omega
              simp [hxl] at g1 h3
              rw [g1] at h3;cases h3
        cases fuel with
        | zero=>exact ⟨hr,hp⟩
        | succ fuel=>exact ⟨fun _=>hp,fun i hi=>by rw [hr] at hi;cases hi⟩
      · show R F _ w ((up (sTx oo pp st₀ p).env t (.rp (sTx oo pp st₀ p).nx 0)) u) _
        by_cases hu:u=t
        · subst hu
          rw [up_same,g4];exact k2
        · rw [up_ne _ _ hu];exact k4 (h1 u)
      · have hi':(sTx oo pp st₀ p).nx+1≤i:=hi
        rw [up_ne _ _ (by omega)];exact hnone i (by omega)
      · refine ⟨hds.step.size,fun b' hb' hf'=>?_,fun i q hq=>?_,hds.step.out,fun i q hq hq'=>?_⟩
        · obtain ⟨q1,q2⟩:=hds.step.imm b' hb' hf'
          exact ⟨q1,free_other q2 fun q hq e=>by cases hq;rw [k3] at e;cases e;omega⟩
        · rcases hds.step.keep i q hq with q1 | q1
          · exact .inl (by rw [up_ne _ _ (fun e=>by rw [e,hnone _ (Nat.le_refl _)] at q1;cases q1)];exact q1)
          · exact .inr (by rw [up_ne _ _ (fun e=>by rw [e,hnone _ (Nat.le_refl _)] at q1;cases q1)];exact q1)
        · have hne:i≠(sTx oo pp st₀ p).nx:=fun e=>by
            rcases hds.step.keep i _ hq with q1 | q1<;>(rw [e,hnone _ (Nat.le_refl _)] at q1;cases q1)
          rw [up_ne _ _ hne] at hq'
          exact hds.step.lp i q hq hq'
      · have h5:=sTx_nx_le oo pp st₀ (Nat.zero_le p)
        show N₀≤(sTx oo pp st₀ p).nx+1
        have h6:(sTx oo pp st₀ 0).nx=st₀.nx:=rfl
        omega
      · have h5:=sTx_nx_le oo pp st₀ (Nat.zero_le p)
        have h6:(sTx oo pp st₀ 0).nx=st₀.nx:=rfl
        rw [up_ne _ _ (by omega)];exact hds.grow i hi hb
    have hnext:(listed.setIfInBounds k true).getD (p+1) false=false:=by rw [getD_set_ne false (fun e=>hkp1 e)];exact hll
    by_cases hkp:k=p
    ·
      subst hkp
      have hobn:=hob2 hkS
      subst hobn
      refine alloc_runOp hla hld hlg hty fun z hz h1=>ih _ β _ _ (by simpa using hsz') hcount' hnext (fun h=>by rw [getD_set_ne false (by omega)];exact hlp h) hcl' ?_
      have hS':stF oo pp st₀ (fun j=>(listed.setIfInBounds k true).getD j false) nl=stF oo pp st₀ (fun j=>listed.getD j false) nl:=stF_same oo pp st₀ _ fun j hj=>getD_set_ne false (by omega)
      have hstep:Step β w β (w.alloc (.cells z.cells ty)):=step_ext (by simp) fun b hb=>heap_alloc_old w _ hb
      have hnew:∀ b',b'<w.heap.size→b'≠w.heap.size:=fun b' h=>by omega
      have hfl:∀ b',b'<w.heap.size→¬ FL F none b'→¬ FL F (some w.heap.size) b':=fun b' h h2 h3=>by
        rcases h3 with h3 | h3
        · exact h2 (.inl h3)
        · cases h3;omega
      have hRs:∀ {d:D} {v:Value},R (FL F none) β w d v→R (FL F (some w.heap.size)) β (w.alloc (.cells z.cells ty)) d v:=fun h=>h.gen (by simp) (fun b' hb hf hfree=>⟨same_of (heap_alloc_old w _ hb),hfree,hfl b' hb hf⟩) fun _ _ _ h=>.inl h
      refine ⟨some w.heap.size,fun _=>rfl,fun h=>?_,fun b hb=>?_,⟨fun u=>?_,?_,fun i hi hno=>hds.free i hi fun j hj hS=>hno j hj (getD_set_true hS),hds.step.trans hstep,hds.grow,by rw [put_size];exact hds.size,by rw [put_defers];exact hds.defers⟩⟩
      · have:(listed.setIfInBounds k true).getD k false=true:=by simp [hkl]
        rw [this] at h;cases h
      · cases hb
        refine ⟨hds.step.size,fun e=>by have:=hds.m.fb.lt _ (.inl e);omega,by simp,?_,z,hz,h1,heap_alloc_new w _⟩
        have hlt':=opsLt_spec hlt ho t (by rw [← eo];exact hld)
        simp [Act.put,Array.getD_eq_getD_getElem?,hds.size,hlt']
      · rw [hS']
        by_cases hu:u=t
        · subst hu;rw [henvt];exact .u _
        · have h2:=hRs (hds.e u)
          have:(a.put (some t) (.pointer (some ⟨w.heap.size,0,none⟩))).tmps.getD u undef=a.tmps.getD u undef:=by
            simp only [Act.put,Array.getD_eq_getD_getElem?]
            rw [Array.getElem?_setIfInBounds_ne (Ne.symm hu)]
          rw [this];exact h2
      · rw [hS']
        refine ⟨fun i rr hi=>?_,hds.m.inj,fun i q b hq e=>?_,fun i q b hq e hf=>?_,hds.m.fb.next (fun b hb=>?_) (fun b hb=>?_) fun tt htt hF=>heap_alloc_old w _ (hds.m.fb.lt _ hF)⟩
        · obtain ⟨q,hq,hr⟩:=hds.m.row i rr hi
          exact ⟨q,hq,hr.gen (by simp) (fun b' hb hf hfree=>⟨same_of (heap_alloc_old w _ hb),hfree,hfl b' hb hf⟩) (fun _ _ _ h=>.inl h) fun b hb=>heap_alloc_old w _ (hds.m.lt i q b hq hb)⟩
        · have:=hds.m.lt i q b hq e;simp;omega
        · have h2:=hds.m.lt i q b hq e
          exact hfl b h2 (hds.m.nf i q b hq e) hf
        · rcases hb with hb | hb
          · have:=hds.m.fb.lt b (.inl hb);simp;omega
          · cases hb;simp
        · rcases hb with hb | hb
          · exact .inl hb
          · cases hb
    by_cases hknl:k=nl
    ·
      have hlt':nl<p:=by omega
      obtain ⟨q1,q2,ch,mP,nxP,q3,q5⟩:=hpan hlt'
      rw [← hknl] at q2
      have hall:=hbits q2
      have hS:stF oo pp st₀ (fun j=>listed.getD j false) nl=sTx oo pp st₀ nl:=stF_same oo pp st₀ _ fun j hj=>hall j (by omega)
      have h1:=hds.e
      have h2:=hds.m
      rw [hS] at h1 h2
      have hnone:∀ i,(sTx oo pp st₀ nl).nx≤i→β i=none:=fun i hi=>hds.free i (Nat.le_trans (sTx_nx_le oo pp st₀ (Nat.zero_le _)) hi) fun j hj _ h3=>by
        have:=sTx_nx_le oo pp st₀ (show j+1≤nl by omega)
        rw [sTx_succ,nxt_nx] at this
        omega
      have h5:=sTx_nx_le oo pp st₀ (Nat.zero_le nl)
      have h6:(sTx oo pp st₀ 0).nx=st₀.nx:=rfl
      rw [hknl]
      refine q5 (FL F ob) β w a ⟨h1,h2,hnone⟩ _ _ fun β' w' g1 g2 g3 q4 g4=>⟨_,β',q3,⟨fun u=>((h1 u).step g3).weak fun b hb=>.inl hb,g1.weak (fun b hb=>.inl hb) fun tt htt=>(hFB.tab tt htt).1,g2⟩,⟨hds.step.trans g3,?_,fun i hi hb=>g4 i (by omega) (hds.grow i hi hb),hds.size,hds.defers⟩⟩
      show N₀≤nxP
      omega
    have hkm:k<nl:=by omega
    have hun1:∀ j,j<k→listed.getD j false=false→((befs ops.toList []).getD k 0).testBit j=false:=by
      intro j hjk hj
      cases hb:((befs ops.toList []).getD k 0).testBit j with
      | false=>rfl
      | true=>
        exfalso
        have h1:=befs_get ops.toList [] k o (by simpa using ho)
        simp only [List.length_nil,Nat.zero_add] at h1
        rw [h1] at hb
        rcases befOf_bit _ j _ 0 hb with h2 | ⟨e,he,hbe,h2⟩
        · simp at h2
        · have hSe:=hpre e (by simpa using he) hbe
          rcases h2 with rfl | h2
          · rw [hj] at hSe;cases hSe
          · have hlt:=hed k o ho e (by simpa using he) hbe
            have h3:((befs ops.toList []).getD e.on 0).testBit j=true:=by simpa [List.getElem?_take,hlt] using h2
            have:=bit_listed (S:=fun j=>listed.getD j false) hcl j e.on hSe h3
            rw [hj] at this;cases this
    have hun2:∀ j,k<j→listed.getD j false=true→((befs ops.toList []).getD j 0).testBit k=false:=by
      intro j hkj hj
      cases hb:((befs ops.toList []).getD j 0).testBit k with
      | false=>rfl
      | true=>
        exfalso
        have:=bit_listed (S:=fun j=>listed.getD j false) hcl k j hj hb
        rw [hkS] at this;cases this
    have hdiff:∀ j,j<nl→listed.getD j false≠decide (j<k)→(j<k∧listed.getD j false=false)∨(k<j∧listed.getD j false=true):=by
      intro j hj hne
      rcases Nat.lt_trichotomy j k with h | h | h
      · left;refine ⟨h,?_⟩
        simpa [h] using hne
      · subst h;simp [hkS] at hne
      · right;refine ⟨h,?_⟩
        have:¬ j<k:=by omega
        simpa [this] using hne
    have hSk:=stF_lt oo pp st₀ k nl (by omega)
    have hlook:∀ u∈(oo k).looksAt ops,(stF oo pp st₀ (fun j=>listed.getD j false) nl).env u=(sTx oo pp st₀ k).env u:=fun u hu=>by
      rw [← hSk]
      refine stF_env oo pp st₀ _ fun j hj hne=>?_
      rcases hdiff j hj hne with ⟨h1,h2⟩ | ⟨h1,h2⟩
      · have:=(Oper.apart_spec (hun j k h1 hkm (hun1 j h1 h2)).1).1
        exact fun hd=>this u hd hu
      · have:=(Oper.apart_spec (hun k j h1 hj (hun2 j h1 h2)).1).2.2
        exact fun hd=>this u hd hu
    have fin:∀ v w' β',R (FL F ob) β' w' (pp k).val v→MSim P (FL F ob) (upds (stF oo pp st₀ (fun j=>listed.getD j false) nl).mem (pp k).ups) β' w'→Step β w β' w'→
     (∀ i,β i=none→(i<(sTx oo pp st₀ k).nx∨(sTx oo pp st₀ k).nx+(pp k).new≤i)→β' i=none)→wpAnyIn (Fe r) n P .any ops (Post P F N₀ β₀ w₀ a₀ Q) fuel (listed.setIfInBounds k true) (a.put (oo k).dst v) w':=by
      intro v w' β' g1 g2 g3 g4
      have hS':(fun j=>(listed.setIfInBounds k true).getD j false)=(fun j=>if j=k then true else listed.getD j false):=by
        funext j
        by_cases hj:j=k
        · subst hj;simp [hkl]
        · rw [if_neg hj,getD_set_ne false (Ne.symm hj)]
      obtain ⟨ae,am⟩:=stF_add oo pp st₀ (S:=fun j=>listed.getD j false) (k:=k) hkS nl hkm fun j hkj hj hSj=>
        ⟨(Oper.apart_spec (hun k j hkj hj (hun2 j hkj hSj)).1).2.1,(hun k j hkj hj (hun2 j hkj hSj)).2.ww⟩
      refine ih _ β' w' _ (by simpa using hsz') hcount' hnext (fun h=>by rw [getD_set_ne false hknl];exact hlp h) hcl' ⟨ob,fun h=>hob1 (by rw [getD_set_ne false hkp] at h;exact h),fun h=>hob2 (by rw [getD_set_ne false hkp] at h;exact h),fun b hb=>?_,?_⟩
      · obtain ⟨l1,l2,l3,l4,z,l5,l6,l7⟩:=hLt b hb
        have hbf:β.free b:=fun i q hq e=>hds.m.nf i q b hq e (.inr hb.symm)
        refine ⟨l1,l2,Nat.lt_of_lt_of_le l3 g3.size,?_,z,l5,l6,(g3.imm b l3 hbf).1.trans l7⟩
        have hne:=hdj k (by omega)
        cases hdst:(oo k).dst with
        | none=>exact l4
        | some u=>
          have hu:u≠t:=fun e=>hne (by rw [hdst,e])
          simp only [Act.put,Array.getD_eq_getD_getElem?] at l4 ⊢
          rw [Array.getElem?_setIfInBounds_ne hu]
          exact l4
      · rw [hS']
        refine ⟨?_,by rw [am];exact g2,fun i hi hn=>?_,hds.step.trans g3,fun i hi hn=>?_,by rw [put_size];exact hds.size,by rw [put_defers];exact hds.defers⟩
        · rw [ae]
          have hd:∀ t,(oo k).dst=some t→t<a.tmps.size:=fun t ht=>by rw [hds.size];rw [eo] at ht;exact opsLt_spec hlt ho t ht
          have he:=hds.e.step g3
          cases hdst:(oo k).dst with
          | none=>exact he
          | some u=>exact he.put (some u) _ v g1 fun t ht=>hd t (by rw [hdst];exact ht)
        · have hk2:=hn k hkm (by simp)
          refine g4 i (hds.free i hi fun j hj hS h3=>hn j hj ?_ h3) ?_
          · show (if j=k then true else listed.getD j false)=true
            split
            · rfl
            · exact hS
          · omega
        · refine g4 i (hds.grow i hi hn) (.inl ?_)
          have h5:=sTx_nx_le oo pp st₀ (Nat.zero_le k)
          have h6:(sTx oo pp st₀ 0).nx=st₀.nx:=rfl
          omega
    rcases hok k hkm with hOk | ⟨hH,hOk⟩
    · refine hOk (FL F ob) β w a (stF oo pp st₀ (fun j=>listed.getD j false) nl).mem (stF oo pp st₀ (fun j=>listed.getD j false) nl).env (sTx oo pp st₀ nl).nx hlook hds.e hds.m ?_ ?_ ?_ r n _ _ fin
      · intro i hi hne
        rw [← hSk]
        refine stF_mem oo pp st₀ _ fun j hj hne' hw=>?_
        rcases hdiff j hj hne' with ⟨h1,h2⟩ | ⟨h1,h2⟩
        · exact (hun j k h1 hkm (hun1 j h1 h2)).2.wr i hw hi
        · exact (hun k j h1 hj (hun2 j h1 h2)).2.rw i hw hi
      · intro i h1 h2
        refine hds.free i (Nat.le_trans (sTx_nx_le oo pp st₀ (Nat.zero_le _)) h1) fun j hj hS h3=>?_
        rcases Nat.lt_trichotomy j k with h | h | h
        · have:=sTx_nx_le oo pp st₀ (show j+1≤k by omega)
          rw [sTx_succ,nxt_nx] at this
          omega
        · subst h;simp only [hkS] at hS;cases hS
        · have:=sTx_nx_le oo pp st₀ (show k+1≤j by omega)
          rw [sTx_succ,nxt_nx] at this
          omega
      · intro i hi
        refine hds.free i (Nat.le_trans (sTx_nx_le oo pp st₀ (Nat.zero_le _)) hi) fun j hj _ h3=>?_
        have:=sTx_nx_le oo pp st₀ (show j+1≤nl by omega)
        rw [sTx_succ,nxt_nx] at this
        omega
    · have hmem:(stF oo pp st₀ (fun j=>listed.getD j false) nl).mem=(sTx oo pp st₀ k).mem:=by
        funext i
        rw [← hSk]
        refine stF_mem oo pp st₀ _ fun j hj hne' hw=>?_
        rcases hdiff j hj hne' with ⟨h1,h2⟩ | ⟨h1,h2⟩
        · have:=((hun j k h1 hkm (hun1 j h1 h2)).2.hq hH).1
          simp [Plan.wr,this] at hw
        · have:=((hun k j h1 hj (hun2 j h1 h2)).2.hp hH).1
          simp [Plan.wr,this] at hw
      have hm:=hds.m
      rw [hmem] at hm fin
      refine hOk (FL F ob) β w a (stF oo pp st₀ (fun j=>listed.getD j false) nl).env hlook hds.e hm (fun i hi=>?_) r n _ _ fin
      refine hds.free i (Nat.le_trans (sTx_nx_le oo pp st₀ (Nat.zero_le _)) hi) fun j hj hS h3=>?_
      rcases Nat.lt_trichotomy j k with h | h | h
      · have:=sTx_nx_le oo pp st₀ (show j+1≤k by omega)
        rw [sTx_succ,nxt_nx] at this
        omega
      · subst h;simp only [hkS] at hS;cases hS
      · have:=((hun k j h hj (hun2 j h hS)).2.hp hH).2
        omega
end
end Go.Abs
