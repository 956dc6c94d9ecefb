/- Part 7 of the proof; the last part says what is proved. -/
import Derived.Test.YtkogeiacmmckkaaGreatDoorFlowReads6
import Derived.IntWalk
import Derived.RangeFuncLeaves
set_option linter.all false
namespace Go.Abs
section
variable {P:Program} {F:Nat→Prop} {fn:Func}
def resF (tmps:Array Value):ResultVar→Sem Value
  | .tmp t=>pure (tmps.getD t undef)
  | .cell x t=>do loadVar t (← asAddr (tmps.getD x undef))
theorem results_eq (fn:Func) (tmps:Array Value):results fn tmps=(do
    let vs ← fn.results.mapM (resF tmps)
    pure (if h:vs.size=1 then vs[0] else .tuple vs)):=by
  unfold results
  congr 1
theorem run_res {st:St} {β:Pla} {w:World} {a:Act} (hs:Sim P F st β w a) {r:ResultVar} {p:Prop} {d:D} (h:resD P st r=some (p,d)) (hp:p):
    ∃ v,(resF a.tmps r).run P w=.ok v w∧R F β w d v:=by
  unfold resD at h
  split at h
  · cases h
    exact ⟨_,by simp [resF],hs.e _⟩
  · rename_i x t
    have hx:=hs.e x
    split at h
    · rename_i i off hx'
      rw [hx'] at hx
      split at h
      · rename_i cs e hm
        cases h
        obtain ⟨b,o,room,sz,hβ,hv,hrow⟩:=hx.rp_inv hs.m hm
        obtain ⟨u,hu,hr⟩:=run_load_rd (P:=P) hp.1 (hrow.rd.1.drop off) (by simp;omega)
        refine ⟨u,?_,hr⟩
        simp only [resF,hv,Sem.run_bind]
        simp [asAddr,hu]
      · cases h
    · rename_i cs hx'
      rw [hx'] at hx
      cases h
      obtain ⟨b,o,hv,_,_,_,hrd⟩:=hx.pt_inv
      obtain ⟨u,hu,hr⟩:=run_load_rd (P:=P) hp.1 hrd hp.2
      refine ⟨u,?_,hr⟩
      simp only [resF,hv,Sem.run_bind]
      simp [asAddr,hu]
    · cases h
theorem run_resL {st:St} {β:Pla} {w:World} {a:Act} (hs:Sim P F st β w a) {K:List D→Prop}:∀ (rs:List ResultVar) (acc:List D),retL P st rs acc K→
    ∃ vs ds,(rs.mapM (resF a.tmps)).run P w=.ok vs w∧vs.length=ds.length∧K (acc++ds)∧
      ∀ (k:Nat) (d:D) (v:Value),ds[k]? =some d→vs[k]? =some v→R F β w d v
  | [],acc,h=>⟨[],[],by simp,rfl,by simpa [retL] using h,by simp⟩
  | r::rs,acc,h=>by
    simp only [retL] at h
    split at h
    · rename_i p d hr
      obtain ⟨v,h1,h2⟩:=run_res hs hr h.1
      obtain ⟨vs,ds,h3,h4,h5,h6⟩:=run_resL hs rs _ h.2
      refine ⟨v::vs,d::ds,?_,by simp [h4],by simpa using h5,fun k d' v' hd hv=>?_⟩
      · rw [List.mapM_cons]
        simp only [Sem.run_bind]
        rw [h1]
        simp only [Result.andThen_ok,Sem.run_bind]
        rw [h3]
        simp
      · cases k with
        | zero=>simp at hd hv;subst hd;subst hv;exact h2
        | succ k=>exact h6 k d' v' (by simpa using hd) (by simpa using hv)
    · exact h.elim
theorem run_results {st:St} {β:Pla} {w:World} {a:Act} (hs:Sim P F st β w a) {K:D→Prop} (h:retL P st fn.results.toList [] fun ds=>K (one1 ds)):
    ∃ v d,(results fn a.tmps).run P w=.ok v w∧K d∧R F β w d v:=by
  obtain ⟨vs,ds,h1,h2,h3,h4⟩:=run_resL hs _ _ h
  simp only [List.nil_append] at h3
  refine ⟨if h:vs.toArray.size=1 then vs.toArray[0] else .tuple vs.toArray,one1 ds,?_,h3,?_⟩
  · rw [results_eq,Array.mapM_eq_mapM_toList]
    simp only [Sem.run_bind,map_eq_pure_bind,bind_assoc]
    rw [h1]
    simp
  · split
    · rename_i hsz
      simp only [List.size_toArray] at hsz
      obtain ⟨v,rfl⟩:=List.length_eq_one_iff.1 hsz
      obtain ⟨d,rfl⟩:=List.length_eq_one_iff.1 (show ds.length=1 by simpa using h2.symm)
      exact h4 0 d v rfl rfl
    · rename_i hsz
      simp only [List.size_toArray] at hsz
      have:one1 ds=.tup ds:=by
        unfold one1
        split
        · rename_i d
          simp at h2
          exact absurd h2 hsz
        · rfl
      rw [this]
      exact .tup ds vs h2 h4
theorem cell_deferred {w:World} {b:Nat} {x:Option (List Deferred)} (h:w.heap[b]? =some (.deferred x)) (o:Nat):w.cell? ⟨b,o,none⟩=none:=by
  simp [World.cell?,h]
theorem R.putD_aux {w:World} {b:Nat} {x:Option (List Deferred)} (hb:w.heap[b]? =some (.deferred x)) (o:Obj) (b':Nat):SameB w (w.putObj b o) b':=by
  refine ⟨fun k u hu=>?_,fun ms c hm=>?_⟩
  · have hne:b'≠b:=fun e=>by rw [e,cell_deferred hb] at hu;cases hu
    exact (cell_of_heap (World.putObj_heap_other hne)).trans hu
  · have hne:b'≠b:=fun e=>by rw [e,hb] at hm;cases hm
    exact (World.putObj_heap_other hne).trans hm
theorem Sim.putD {st:St} {β:Pla} {w:World} {a:Act} {b:Nat} {x:Option (List Deferred)} (hb:w.heap[b]? =some (.deferred x)) (hf:β.free b) (o:Obj) (h:Sim P F st β w a):Sim P F st β (w.putObj b o) a:=
  ⟨fun t=>(h.e t).gen (by simp) (fun b' _ h1 h2=>⟨R.putD_aux hb o b',h2,h1⟩) fun _ _ _ h=>.inl h,⟨fun i r hi=>by
    obtain ⟨p,hp,hr⟩:=h.m.row i r hi
    exact ⟨p,hp,hr.gen (by simp) (fun b' _ h1 h2=>⟨R.putD_aux hb o b',h2,h1⟩) (fun _ _ _ h=>.inl h) fun c hc=>World.putObj_heap_other fun e=>hf i p hp (e▸hc)⟩,
    h.m.inj,fun i p c hp hc=>by simpa using h.m.lt i p c hp hc,h.m.nf,h.m.fb.next (fun c hc=>by simpa using h.m.fb.lt c hc) (fun _ h=>h) fun t ht _=>World.putObj_heap_other fun e=>tabs_nd (h.m.fb.tab t ht).2 x (by rw [e];exact hb)⟩,h.n⟩
theorem Marks.put {β:Pla} {w:World} {lo b:Nat} (o:Obj):∀ {ds:List Deferred} {hi:Nat},hi≤b→Marks β w lo ds hi→Marks β (w.putObj b o) lo ds hi
  | [],_,_,_=>trivial
  | _::_,_,hle,⟨c,h1,h2,h3,h4,h5,h6⟩=>⟨c,h1,h2,h3,(World.putObj_heap_other (by omega)).trans h4,h5,Marks.put o (by omega) h6⟩
theorem leaves_marks {n:Nat} {tmps:Array Value} {R:Ending→World→Prop} {st:St} {β₀ β:Pla} {w₀:World} {a:Act} {u:FrameMode} (hu:u≠ .run):∀ (ds:List Deferred) (hi:Nat) (w:World),Marks β w w₀.heap.size ds hi→Sim P F st β w a→Step β₀ w₀ β w→
    (∀ w',Sim P F st β w' a→Step β₀ w₀ β w'→LeavesIn (Fe none) n P fn tmps R [] u w')→LeavesInM (Fe none) n P fn tmps R ds u w
  | [],_,w,_,hs,hst,K=>K w hs hst
  | d::ds,hi,w,⟨b,h1,h2,h3,h4,h5,h6⟩,hs,hst,K=>by
    subst h1
    refine ⟨hu,.inl ⟨b,_,rfl,run_takeDeferred h4,leaves_marks hu ds b _ (h6.put _ (Nat.le_refl _)) (hs.putD h4 h5 _) ?_ K⟩⟩
    refine ⟨by simpa using hst.size,fun c hc hf=>?_,hst.keep,hst.out.trans ⟨rfl,rfl⟩,fun i r hp hp'=>(hst.lp i r hp hp').trans (skel_of (World.putObj_heap_other fun e=>h5 i _ hp' (by simp [Pl.blk,e])))⟩
    obtain ⟨g1,g2⟩:=hst.imm c hc hf
    exact ⟨(World.putObj_heap_other (by omega)).trans g1,g2⟩
def Leave (P:Program) (fn:Func) (R:Ending→World→Prop) (a:Act) (w:World):Exit→Prop
  | .normal | .ret=>∃ v,(results fn a.tmps).run P w=.ok v w∧R (.returned v) w
  | .panic ch=>R (.panicked ch) w
  | _=>False
theorem enter_sim {args:List D} (hn:args.length≤fn.ntmps) {m:Mem} {nx:Nat} {β:Pla} {w:World} {vs:Array Value} (hm:MSim P F m β w) (hnx:∀ i,nx≤i→β i=none) (hR:Rs F β w args vs):
    (vs++Array.replicate (fn.ntmps - vs.size) undef).size=fn.ntmps∧Sim P F ⟨envOf args,m,nx⟩ β w { tmps:=vs++Array.replicate (fn.ntmps - vs.size) undef,defers:=[] }:=by
  have hsz:(vs++Array.replicate (fn.ntmps - vs.size) undef).size=fn.ntmps:=by
    simp only [Array.size_append,Array.size_replicate,hR.1]
    omega
  let a₀:Act:={ tmps:=vs++Array.replicate (fn.ntmps - vs.size) undef,defers:=[] }
  have hE:ESim F β w (envOf args) a₀:=fun t=>by
    unfold envOf
    rcases Nat.lt_or_ge t args.length with hlt | hge
    · have h1:args.getD t .u=args[t]:=by simp [hlt]
      have h2:a₀.tmps.getD t undef=vs[t]'(by rw [hR.1];exact hlt):=by
        show (vs++Array.replicate (fn.ntmps - vs.size) undef).getD t undef=_
        have h3:t<vs.size:=by rw [hR.1];exact hlt
        simp [Array.getD_eq_getD_getElem?,Array.getElem?_append_left h3,h3]
      rw [h1,h2]
      exact hR.2 t _ _ (by simp [hlt]) (by simp [hR.1,hlt])
    · have h1:args.getD t .u=.u:=by simp [hge]
      rw [h1];exact .u _
  exact ⟨hsz,hE,hm,hnx⟩
theorem calls_enter {f:FuncId} {c:Code} (hf:P.funcs[f]? =some fn) (hb:fn.body=some c) {args:List D} (hn:args.length≤fn.ntmps) {m:Mem} {nx:Nat} {R:Ending→World→Prop}
    {β:Pla} {w:World} {vs:Array Value} (hm:MSim P F m β w) (hnx:∀ i,nx≤i→β i=none) (hR:Rs F β w args vs)
    (h:∀ a:Act,a.tmps=vs++Array.replicate (fn.ntmps - vs.size) undef→a.tmps.size=fn.ntmps→a.defers=[]→Sim P F ⟨envOf args,m,nx⟩ β w a→c.wpIn (Fe none) 0 P (bodyPostM (Fe none) 0 P fn R) a w):Calls P f vs w R:=by
  refine (callsIn_wide (n:=0)).1 (callsIn_of_wp_marks hf hb trivial ?_)
  exact h _ rfl (enter_sim hn hm hnx hR).1 rfl (enter_sim hn hm hnx hR).2
theorem calls_wp {f:FuncId} {c:Code} (hf:P.funcs[f]? =some fn) (hb:fn.body=some c) {args:List D} (hn:args.length≤fn.ntmps) {m:Mem} {nx:Nat} {Q:Exit→St→Prop} {R:Ending→World→Prop}
    {β:Pla} {w:World} {vs:Array Value} (hm:MSim P F m β w) (hnx:∀ i,nx≤i→β i=none) (hR:Rs F β w args vs)
    (h:∀ a:Act,a.tmps.size=fn.ntmps→Sim P F ⟨envOf args,m,nx⟩ β w a→c.wpIn (Fe none) 0 P (PostB P F nx β w a Q) a w)
    (hend:∀ e st' β' w' a',Q e st'→Sim P F st' β' w' a'→Step β w β' w'→nx≤st'.nx→(∀ i,i<nx→β i=none→β' i=none)→Leave P fn R a' w' e):Calls P f vs w R:=by
  refine calls_enter hf hb hn hm hnx hR fun a _ ha hd hs=>wpIn_mono (h a ha hs) fun e a' w' hp=>?_
  obtain ⟨st',β',hq,hs',hsi'⟩:=hp
  obtain ⟨ds,h1,h2⟩:=hsi'.defers
  rw [hd,List.append_nil] at h1
  have hl:=fun w'' (hs'':Sim P F st' β' w'' a') (hst'':Step β w β' w'')=>hend e st' β' w'' a' hq hs'' hst'' hsi'.le hsi'.grow
  have hend':∀ {u:FrameMode},u≠ .run→(∀ w'',Sim P F st' β' w'' a'→Step β w β' w''→LeavesIn (Fe none) 0 P fn a'.tmps R [] u w'')→LeavesInM (Fe none) 0 P fn a'.tmps R a'.defers u w':=fun hu hk=>by
    rw [h1];exact leaves_marks hu ds _ w' h2 hs' hsi'.step hk
  cases e with
  | normal=>exact hend' (by simp) hl
  | ret=>exact hend' (by simp) hl
  | panic ch=>exact hend' (by simp) hl
  | exit=>exact hl w' hs' hsi'.step
  | goto=>exact hl w' hs' hsi'.step
  | outgrown=>exact (hl w' hs' hsi'.step).elim
theorem calls_aw (hmix:P.follows .mixedOrders=true) {Y:YSpec} {f:FuncId} {c:Code} (hf:P.funcs[f]? =some fn) (hb:fn.body=some c) (hlt:codeLt fn.ntmps c=true) {args:List D} (hn:Nat.ble args.length fn.ntmps=true) {m:Mem} {nx:Nat} {K:D→St→Prop}
    (h:AW P Y true c (retQ P fn.results.toList K) ⟨envOf args,m,nx⟩) {β:Pla} {w:World} {vs:Array Value} (hY:∀ l args m nx K,Y l args m nx K→YCall P F β w l args m nx K) (hm:MSim P F m β w) (hnx:∀ i,nx≤i→β i=none) (hR:Rs F β w args vs):
    Calls P f vs w fun e w'=>∃ v d st' β',e=.returned v∧K d st'∧R F β' w' d v∧MSim P F st'.mem β' w'∧(∀ i,st'.nx≤i→β' i=none)∧Step β w β' w'∧nx≤st'.nx∧∀ i,i<nx→β i=none→β' i=none:=by
  refine calls_wp hf hb (by simpa using hn) hm hnx hR (fun a ha hs=>aw_sound hmix c F none 0 Y true nx β w a (fun _=>rfl) hY (by rw [ha];exact hlt) _ _ β w a h hs (Since.refl ⟨envOf args,m,nx⟩ β w a).big) fun e st' β' w' a' hq hs hst hle hgr=>?_
  have hend:(retL P st' fn.results.toList [] fun ds=>K (one1 ds) st')→∃ v,(results fn a'.tmps).run P w'=.ok v w'∧∃ v' d st' β',Ending.returned v=.returned v'∧K d st'∧R F β' w' d v'∧MSim P F st'.mem β' w'∧(∀ i,st'.nx≤i→β' i=none)∧Step β w β' w'∧nx≤st'.nx∧∀ i,i<nx→β i=none→β' i=none:=fun hq=>by
    obtain ⟨v,d,g1,g2,g3⟩:=run_results (K:=fun d=>K d st') hs hq
    exact ⟨v,g1,v,d,st',β',rfl,g2,g3,hs.m,hs.n,hst,hle,hgr⟩
  cases e with
  | normal=>exact hend hq
  | ret=>exact hend hq
  | _=>exact hq.elim
theorem msim_none {w:World} (hF:FB F w):MSim P F (fun _=>none) noRows w:=
  ⟨fun i r h=>(by cases h),fun i j p q b h=>(by cases h),fun i p b h=>(by cases h),fun i p b h=>(by cases h),hF⟩
theorem kept_of_step {β':Pla} {w w':World} (h:Step noRows w β' w'):Kept w w':=
  ⟨h.size,fun b hb=>(h.imm b hb fun i p hp=>by cases hp).1,h.out⟩
theorem Tr.clean {d:D} (h:Tr d) {β:Pla} {w:World} {v:Value} (hv:R F β w d v):R F noRows w d v:=
  (h F β w v hv).lift fun b hb=>⟨fun e=>hb (.inl e),fun i p hp=>by cases hp⟩
structure FnOk (P:Program) (f:FuncId) (fn:Func) (c:Code):Prop where
  hf:P.funcs[f]? =some fn
  hb:fn.body=some c
  hlt:codeLt fn.ntmps c=true
  he:enterOk P f=true
theorem acall_of (hmix:P.follows .mixedOrders=true) {f:FuncId} {c:Code} (hf:FnOk P f fn c) {args:List D} (hn:Nat.ble args.length fn.ntmps=true) {m:Mem} {nx:Nat} {Post:D→Mem→Nat→Prop}
    (h:AW P noY true c (retQ P fn.results.toList fun d st=>Post d st.mem st.nx) ⟨envOf args,m,nx⟩):ACalls P f args m nx Post:=
  ⟨hf.he,fun F β w vs hm hnx hR=>(calls_aw hmix hf.hf hf.hb hf.hlt hn h (fun _ _ _ _ _ h=>h.elim) hm hnx hR).mono fun e w' ⟨v,d,st',β',h1,h2,h3,h4,h5,h6,h7,h8⟩=>⟨v,d,st'.mem,st'.nx,β',h1,h2,h4,h5,h3,h6,h7,h8⟩⟩
theorem pcall_of (hmix:P.follows .mixedOrders=true) {f:FuncId} {c:Code} (hf:FnOk P f fn c) {args:List D} (hn:Nat.ble args.length fn.ntmps=true) (ht:∀ a∈args,Tr a) {r:D} (hr:Tr r)
    (h:AW P noY true c (retQ P fn.results.toList fun d _=>d=r) ⟨envOf args,fun _=>none,0⟩):PCall P f args r:=
  ⟨hf.he,ht,fun F w vs hF hR=>(calls_aw hmix hf.hf hf.hb hf.hlt hn h (fun _ _ _ _ _ h=>h.elim) (msim_none hF) (fun _ _=>rfl) hR).mono fun e w' hp=>by
    obtain ⟨v,d,st',β',h1,rfl,h3,h4,h5,h6,h7,h8⟩:=hp
    exact ⟨v,h1,hr.clean h3,kept_of_step h6⟩⟩
theorem ocall_mk {f:FuncId} {args:List D} (he:enterOk P f=true) (ht:∀ a∈args,Tr a) {es:List D} (hes:∀ a∈es,Tr a) {k:Nat} {t:TypeId}
    (h:∀ F w vs,FB F w→Rs F noRows w args vs→Calls P f vs w fun e w'=>∃ v i m β',e=.returned v∧m i=some (.cells es t)∧R F β' w' (.rs i 0 k) v∧MSim P F m β' w'∧Step noRows w β' w'):OCall P f args es k t:=
  ⟨he,ht,fun F w vs hF hR=>(h F w vs hF hR).mono fun e w' hp=>by
    obtain ⟨v,i,m',β',h1,hi,h3,h4,h6⟩:=hp
    obtain ⟨p,hp,hrow⟩:=h4.row i _ hi
    refine ⟨v,p,h1,?_,fun b hb=>⟨?_,h4.lt i p b hp hb⟩,?_,?_,kept_of_step h6⟩
    · rintro rfl;cases hrow
    · rcases Nat.lt_or_ge b w.heap.size with hlt | hge
      · exact absurd hb ((h6.imm b hlt fun i p hp=>by cases hp).2 i p hp)
      · exact hge
    · have lift:∀ d∈es,∀ u,R F β' w' d u→R (fun x=>F x∨p.blk=some x) noRows w' d u:=fun d hd u hu=>
        (hes d hd F β' w' u hu).lift fun b hb=>⟨fun e=>hb (by
          rcases e with e | e
          · exact .inl e
          · exact .inr fun hfree=>hfree i p hp e),fun i p hp=>by cases hp⟩
      cases hrow with
      | nil _=>exact .nil _
      | cells _ _ b o room sz c q1 q2 q3 q4 q5=>
        refine .cells es t b o room sz c q1 q2 q3 q4 fun j d hd=>?_
        obtain ⟨u,u1,u2,u3⟩:=q5 j d hd
        exact ⟨u,u1,lift d (List.mem_of_getElem? hd) u u2,u3⟩
    · cases h3 with
      | rsd _ _ _ _ g0 _=>rw [g0] at hp;cases hp;cases hrow
      | rsn _ a g0=>rw [g0] at hp;cases hp;exact .rsn 0 a (up_same _ _ _)
      | rsz _ _ a b o len room sz g0=>rw [g0] at hp;cases hp;exact .rsz 0 0 a b o len room sz (up_same _ _ _)
      | rs _ _ _ cap b o len room sz g0 g1 g2 g3 g4=>rw [g0] at hp;cases hp;exact .rs 0 0 k cap b o len room sz (up_same _ _ _) g1 g2 g3 g4⟩
theorem ocall_of  (hmix:P.follows .mixedOrders=true) {f:FuncId} {c:Code} (hf:FnOk P f fn c) {args:List D} (hn:Nat.ble args.length fn.ntmps=true) (ht:∀ a∈args,Tr a) {es:List D} (hes:∀ a∈es,Tr a) {k:Nat} {t:TypeId}
    (h:AW P noY true c (retQ P fn.results.toList fun d st=>∃ i,d=.rs i 0 k∧st.mem i=some (.cells es t)) ⟨envOf args,fun _=>none,0⟩):OCall P f args es k t:=
  ocall_mk hf.he ht hes fun F w vs hF hR=>(calls_aw hmix hf.hf hf.hb hf.hlt hn h (fun _ _ _ _ _ h=>h.elim) (msim_none hF) (fun _ _=>rfl) hR).mono fun e w' ⟨v,d,st',β',h1,⟨i,hd,hi⟩,h3,h4,_,h6,_⟩=>⟨v,i,st'.mem,β',h1,hi,hd▸h3,h4,h6⟩
def seqY (l₀:Nat) (xs:List (List D)) (I:Nat→Mem→Nat→Prop) (Stop:Mem→Nat→Prop):YSpec:=fun l args m nx Post=>
  l=l₀∧∃ k,xs[k]? =some args∧I k m nx∧∀ d m' nx',SeqPost I Stop k d m' nx'→Post d m' nx'
theorem YCall.mono {β:Pla} {w:World} {l:Nat} {args:List D} {m:Mem} {nx:Nat} {K K':D→Mem→Nat→Prop} (hk:∀ d m nx,K d m nx→K' d m nx) (h:YCall P F β w l args m nx K):YCall P F β w l args m nx K':=
  fun β' w' us h1 h2 h3 h4=>by
    obtain ⟨f,tmps,assign,body,g1,g2⟩:=h β' w' us h1 h2 h3 h4
    exact ⟨f,tmps,assign,body,g1,fun n=>RoundIn.mono (F:=Fence.wide) (g2 n) fun e w' ⟨v,d,m',nx',β',q1,q2,q3⟩=>⟨v,d,m',nx',β',q1,hk _ _ _ q2,q3⟩⟩
theorem seq_of (hmix:P.follows .mixedOrders=true) {f:FuncId} {c:Code} (hf:FnOk P f fn c) {fs cs:List D} (hn:Nat.ble (fs.length+1+cs.length) fn.ntmps=true) {xs:List (List D)}
    (h:∀ (l:Nat) (I:Nat→Mem→Nat→Prop) (Stop:Mem→Nat→Prop) (m:Mem) (nx:Nat),(∀ k,Closed (I k))→Closed Stop→I 0 m nx→
     AW P (seqY l xs I Stop) true c (retQ P fn.results.toList fun _ st=>I xs.length st.mem st.nx∨Stop st.mem st.nx) ⟨envOf (fs++[.fn (.yield l) [] []]++cs),m,nx⟩):SeqA P f fs cs xs:=
  ⟨hf.he,fun F l I Stop m nx β w vs hI hStop hm hnx hR hy h0=>
    (calls_aw hmix hf.hf hf.hb hf.hlt (by simpa [Nat.add_assoc,Nat.add_comm,Nat.add_left_comm] using hn) (h l I Stop m nx hI hStop h0) (fun l' args m' nx' K hK=>by
      obtain ⟨rfl,k,h1,h2,h3⟩:=hK
      exact (hy k args m' nx' h1 h2).mono h3) hm hnx hR).mono fun e w' ⟨v,d,st',β',h1,h2,h3,h4,h5,h6,h7,h8⟩=>⟨v,d,st'.mem,st'.nx,β',h1,h2,h4,h5,h3,h6,h7,h8⟩⟩
end
section
variable {P:Program} {Y:YSpec} {rf:Bool} {Q:Exit→St→Prop} {st:St}
theorem AW_seq_k {a b:Code} (h:∀ K:St→Prop,(∀ st,(∃ st'',Ghost P st st''∧AW P Y rf b Q st'')→K st)→AW P Y rf a (seqQ K Q) st):AW P Y rf (.seq a b) Q st:=h _ (fun _ h=>h)
theorem AW_region (id ops):AW P Y rf (.region id ops false) Q st=AOps P Y ops false [] Q ops.toList st []:=rfl
theorem AW_draw (id ops):AW P Y rf (.region id ops true) Q st=match drawInfo ops with
    | some cf=>DrawOk P Y ops cf Q st
    | none=>False:=rfl
theorem AW_block (id b):AW P Y rf (.block id b) Q st=AW P Y rf b (blockQ id Q) st:=rfl
theorem AW_skip:AW P Y rf .skip Q st=Q .normal st:=rfl
theorem AW_ret:AW P Y rf .ret Q st=Q .ret st:=rfl
theorem AW_exit (id):AW P Y rf (.exit id) Q st=Q (.exit id) st:=rfl
theorem AW_cond (c a b):AW P Y rf (.cond c a b) Q st=((opd st.env c).ask∧match (opd st.env c).core with
    | .s (.bool t)=>(t=true→AW P Y rf a Q st)∧(t=false→AW P Y rf b Q st)
    | .ub=>AW P Y rf a Q st∧AW P Y rf b Q st
    | _=>False):=rfl
theorem AW_loop {b:Code} (I:St→Prop) (μ:St→Nat) (h0:I st) (h:∀ st',I st'→AW P Y rf b (seqQ (fun st''=>∃ st3,Ghost P st'' st3∧I st3∧μ st3<μ st') Q) st'):AW P Y rf (.loop b) Q st:=⟨I,μ,h0,h⟩
theorem ACalls.mono {f:FuncId} {args:List D} {m:Mem} {nx:Nat} {Post Post':D→Mem→Nat→Prop} (h:ACalls P f args m nx Post) (hp:∀ d m' nx',Post d m' nx'→Post' d m' nx'):ACalls P f args m nx Post':=
  ⟨h.1,fun F β w vs hm hn hR=>(h.2 F β w vs hm hn hR).mono fun e w' ⟨v,d,m',nx',β',h1,h2,h3⟩=>⟨v,d,m',nx',β',h1,hp _ _ _ h2,h3⟩⟩
theorem CallOp.mono {dr:Bool} {f:FuncId} {args:List D} {K K':D→Mem→Nat→List Nat→List Nat→Prop} (hk:∀ d m nx rd wr,K d m nx rd wr→K' d m nx rd wr) (h:CallOp P dr st f args K):CallOp P dr st f args K':=by
  rcases h with ⟨r,h1,h2⟩ | ⟨args',rds,r,h1,h2,h3,h4⟩ | ⟨es,n,t,h1,h2⟩ | ⟨h1,h2⟩ | ⟨r,ups,rds,h1,h2,h3⟩ | ⟨es,n,t,ups,rds,h1,h2,h3,h4⟩
  · exact .inl ⟨r,h1,hk _ _ _ _ _ h2⟩
  · exact .inr (.inl ⟨args',rds,r,h1,h2,h3,hk _ _ _ _ _ h4⟩)
  · exact .inr (.inr (.inl ⟨es,n,t,h1,hk _ _ _ _ _ h2⟩))
  · exact .inr (.inr (.inr (.inl ⟨h1,h2.mono fun d m nx h=>hk _ _ _ _ _ h⟩)))
  · exact .inr (.inr (.inr (.inr (.inl ⟨r,ups,rds,h1,h2,hk _ _ _ _ _ h3⟩))))
  · exact .inr (.inr (.inr (.inr (.inr ⟨es,n,t,ups,rds,h1,h2,h3,hk _ _ _ _ _ h4⟩))))
class YMono (Y:YSpec):Prop where
  mono:∀ l args m nx K K',(∀ d m nx,K d m nx→K' d m nx)→Y l args m nx K→Y l args m nx K'
instance:YMono noY:=⟨fun _ _ _ _ _ _ _ h=>h⟩
instance {l:Nat} {xs:List (List D)} {I:Nat→Mem→Nat→Prop} {Stop:Mem→Nat→Prop}:YMono (seqY l xs I Stop):=⟨fun _ _ _ _ _ _ hk ⟨h1,k,h2,h3,h4⟩=>⟨h1,k,h2,h3,fun d m nx h=>hk _ _ _ (h4 d m nx h)⟩⟩
theorem AOp.mono [YMono Y] {ops:Array Oper} {dr:Bool} {o:Oper} {K K':St→List Nat→List Nat→Prop} (hk:∀ st rd wr,K st rd wr→K' st rd wr) (h:AOp P Y ops dr o st K):AOp P Y ops dr o st K':=by
  unfold AOp at h ⊢
  split at h
  · refine ⟨h.1,?_⟩
    have h:=h.2
    split at h
    · exact h.mono fun _ _ _ _ _ h=>hk _ _ _ h
    · split at h
      · exact ⟨h.1,YMono.mono _ _ _ _ _ _ (fun _ _ _ h=>hk _ _ _ h) h.2⟩
      · split at h
        · exact ⟨h.1,hk _ _ _ h.2⟩
        · exact h
  · split at h
    · exact h
    · split at h
      · rcases h with ⟨r,h1,h2⟩ | ⟨h1,h2⟩
        · exact .inl ⟨r,h1,hk _ _ _ h2⟩
        · exact .inr ⟨fun hc=>⟨(h1 hc).1,(h1 hc).2.mono fun _ _ _ _ _ h=>hk _ _ _ h⟩,fun hc=>hk _ _ _ (h2 hc)⟩
      · split at h
        · exact ⟨fun hc=>⟨(h.1 hc).1,(h.1 hc).2.1,YMono.mono _ _ _ _ _ _ (fun _ _ _ h=>hk _ _ _ h) (h.1 hc).2.2⟩,fun hc=>hk _ _ _ (h.2 hc)⟩
        split at h
        · split at h
          · rename_i hc
            rw [if_pos hc]
            exact ⟨h.1,hk _ _ _ h.2⟩
          · rename_i hc
            rw [if_neg hc]
            exact ⟨fun hc=>⟨(h.1 hc).1,(h.1 hc).2.1,hk _ _ _ (h.1 hc).2.2⟩,fun hc=>hk _ _ _ (h.2 hc)⟩
        · exact ⟨h.1,hk _ _ _ h.2⟩
theorem AOps.mono [YMono Y] {ops:Array Oper} {dr:Bool} {cf:List (Nat×Nat)} {Q Q':Exit→St→Prop} (hq:∀ st,Q .normal st→Q' .normal st):∀ (l:List Oper) (st:St) (tr:Tra),AOps P Y ops dr cf Q l st tr→AOps P Y ops dr cf Q' l st tr
  | [],st,tr,h=>⟨h.1,hq _ h.2⟩
  | o::l,st,tr,h=>h.elim (fun h=>.inl (AOp.mono (fun st' rd wr h=>AOps.mono hq l st' _ h) h)) fun ⟨h1,h2,e,h3,h4⟩=>.inr ⟨h1,h2,e,h3,AOps.mono hq l _ _ h4⟩
theorem AW_mono:∀ (c:Code) {Y:YSpec} [YMono Y] {rf:Bool} {Q Q':Exit→St→Prop} {st:St},(∀ e st,Q e st→Q' e st)→AW P Y rf c Q st→AW P Y rf c Q' st:=by
  intro c
  induction c with
  | skip=>intro Y _ rf;exact fun hq h=>hq _ _ h
  | ret=>intro Y _ rf;exact fun hq h=>hq _ _ h
  | exit id=>intro Y _ rf;exact fun hq h=>hq _ _ h
  | region id ops draw=>
    intro Y _ rf Q Q' st hq h
    cases draw with
    | false=>exact AOps.mono (hq .normal) _ _ _ h
    | true=>
      simp only [AW] at h ⊢
      split at h
      · exact h.elim (fun h=>.inl (AOps.mono (hq .normal) _ _ _ h)) fun h=>.inr ⟨h.1,AOps.mono (fun st hs=>⟨hs.1,AOps.mono (hq .normal) _ _ _ hs.2⟩) _ _ _ h.2⟩
      · exact h
  | seq a b iha ihb=>
    intro Y _ rf Q Q' st hq h
    refine iha (fun e st' h=>?_) h
    cases e with
    | normal=>obtain ⟨st'',hg,hb⟩:=h;exact ⟨st'',hg,ihb hq hb⟩
    | _=>exact hq _ _ h
  | cond c a b iha ihb=>
    intro Y _ rf Q Q' st hq h
    refine ⟨h.1,?_⟩
    have h:=h.2
    split at h
    · exact ⟨fun ht=>iha hq (h.1 ht),fun ht=>ihb hq (h.2 ht)⟩
    · exact ⟨iha hq h.1,ihb hq h.2⟩
    · exact h
  | block id b ih=>
    intro Y _ rf Q Q' st hq h
    refine ih (fun e st' h=>?_) h
    cases e with
    | exit i=>
      simp only [blockQ] at h ⊢
      split at h
      · rename_i hi;rw [if_pos hi];exact hq _ _ h
      · rename_i hi;rw [if_neg hi];exact hq _ _ h
    | _=>exact hq _ _ h
  | scope b ih=>
    intro Y _ rf Q Q' st hq h
    refine ih (fun e st' h=>?_) h
    cases e with
    | goto l=>exact h
    | _=>exact hq _ _ h
  | loop b ih=>
    intro Y _ rf Q Q' st hq h
    obtain ⟨I,μ,h0,h1⟩:=h
    refine ⟨I,μ,h0,fun st' hi=>ih (fun e st'' h=>?_) (h1 st' hi)⟩
    cases e with
    | normal=>exact h
    | _=>exact hq _ _ h
  | label l=>intro Y _ rf;exact fun hq h=>hq _ _ h
  | rangeFunc g ps assign body iha ihb=>
    intro Y _ rf Q Q' st hq h
    obtain ⟨hrft,hask,f,fs,cs,xs,I,hcore,hseq,hxlen,hI0,hround,hdone⟩:=h
    refine ⟨hrft,hask,f,fs,cs,xs,I,hcore,hseq,hxlen,hI0,fun k m nx x hx hI=>iha (fun e s h=>?_) (hround k m nx x hx hI),fun m nx h=>hq _ _ (hdone m nx h)⟩
    cases e with
    | normal=>
      refine ihb (fun e s h=>?_) h
      cases e with
      | normal=>exact h
      | ret=>exact hq _ _ h
      | exit id=>exact hq _ _ h
      | _=>exact h
    | _=>exact h
  | _=>intro Y _ rf;exact fun _ h=>h.elim
theorem least {p:Nat→Prop}:∀ j,p j→∃ i,p i∧∀ k,p k→i≤k:=by
  intro j
  induction j using Nat.strongRecOn with
  | _ j ih=>
    intro hj
    by_cases h:∃ k,k<j∧p k
    · obtain ⟨k,hk,hp⟩:=h
      exact ih k hk hp
    · exact ⟨j,hj,fun k hk=>Nat.le_of_not_lt fun hlt=>h ⟨k,hlt,hk⟩⟩
open Classical in
theorem AW_while [YMono Y] {b:Code} (J:Nat→St→Prop) {j₀:Nat} (h0:J j₀ st) (h:∀ j st',J j st'→AW P Y rf b (seqQ (fun st''=>∃ st3,Ghost P st'' st3∧∃ j',j'<j∧J j' st3) Q) st'):AW P Y rf (.loop b) Q st:=by
  have hex:∀ st,(∃ j,J j st)→∃ i,J i st∧∀ k,J k st→i≤k:=fun st ⟨j,hj⟩=>least j hj
  let μ:St→Nat:=fun st=>if h:∃ j,J j st then Classical.choose (hex st h) else 0
  have hμ:∀ st,(hj:∃ j,J j st)→J (μ st) st∧∀ k,J k st→μ st≤k:=fun st hj=>by
    have:μ st=Classical.choose (hex st hj):=by simp only [μ];rw [dif_pos hj]
    rw [this]
    exact Classical.choose_spec (hex st hj)
  refine AW_loop (fun st=>∃ j,J j st) μ ⟨j₀,h0⟩ fun st' hj=>AW_mono b (fun e st'' hq=>?_) (h (μ st') st' (hμ st' hj).1)
  cases e with
  | normal=>
    obtain ⟨st3,hg,j',hlt,hj'⟩:=hq
    exact ⟨st3,hg,⟨j',hj'⟩,Nat.lt_of_le_of_lt ((hμ st3 ⟨j',hj'⟩).2 j' hj') hlt⟩
  | _=>exact hq
theorem AW_count [YMono Y] {b:Code} (n:Nat) (I:Nat→St→Prop) (h0:I 0 st) (h:∀ k st',k≤n→I k st'→AW P Y rf b (seqQ (fun st''=>∃ st3,Ghost P st'' st3∧k<n∧I (k+1) st3) Q) st'):AW P Y rf (.loop b) Q st:=by
  refine AW_while (fun j st=>∃ k,k≤n∧j=n - k∧I k st) (j₀:=n) ⟨0,Nat.zero_le _,rfl,h0⟩ ?_
  rintro j st' ⟨k,hk,rfl,hI⟩
  refine AW_mono b (fun e st'' hq=>?_) (h k st' hk hI)
  cases e with
  | normal=>
    obtain ⟨st3,hg,hlt,hI'⟩:=hq
    exact ⟨st3,hg,n - (k+1),by omega,k+1,hlt,rfl,hI'⟩
  | _=>exact hq
end
section
variable {P:Program} {F:Nat→Prop} {β:Pla} {w:World}
theorem Tr.opt {c:Bool} {d:D} (h:Tr d):Tr (.opt c d):=fun F β w v hv=>by
  cases hv with
  | opt _ _ _ h1 h2=>exact .opt c d v (fun hc=>h F β w v (h1 hc)) h2
theorem Tr.agg {cs:List D} (h:∀ d∈cs,Tr d):Tr (.agg cs):=fun F β w v hv=>by
  obtain ⟨vs,rfl,hl,hh⟩:=hv.agg_inv
  exact .agg cs vs hl fun k d u hd hu=>h d (List.mem_of_getElem? hd) F β w u (hh k d u hd hu)
theorem Tr.tup {cs:List D} (h:∀ d∈cs,Tr d):Tr (.tup cs):=fun F β w v hv=>by
  obtain ⟨vs,rfl,hl,hh⟩:=hv.tup_inv
  exact .tup cs vs hl fun k d u hd hu=>h d (List.mem_of_getElem? hd) F β w u (hh k d u hd hu)
theorem Tr.sl {cs:List D} {n:Nat} (h:∀ d∈cs,Tr d):Tr (.sl cs n):=fun F β w v hv=>by
  cases hv with
  | sln a cap=>exact .sln a cap
  | sl _ _ b o cap us hf hb hlt hcap hmax hc hh=>
    exact .sl cs n b o cap us (fun e=>e.elim hf fun e=>e hb) (fun i p hp=>by cases hp) hlt hcap hmax hc fun k d hd=>h d (List.mem_of_getElem? hd) F β w _ (hh k d hd)
theorem Tr.pt {cs:List D} (h:∀ d∈cs,Tr d):Tr (.pt cs):=fun F β w v hv=>by
  cases hv with
  | pt _ b o us hf hb hlt hc hh=>
    exact .pt cs b o us (fun e=>e.elim hf fun e=>e hb) (fun i p hp=>by cases hp) hlt hc fun k d hd=>h d (List.mem_of_getElem? hd) F β w _ (hh k d hd)
theorem Tr.fn {f:Fn} {fs cs:List D} (h:∀ d∈fs,Tr d) (h':∀ d∈cs,Tr d):Tr (.fn f fs cs):=fun F β w v hv=>by
  cases hv with
  | fn _ _ _ us vs hl hl' h1 h2=>
    exact .fn f fs cs us vs hl hl' (fun k d u hd hu=>h d (List.mem_of_getElem? hd) F β w u (h1 k d u hd hu)) fun k d u hd hu=>h' d (List.mem_of_getElem? hd) F β w u (h2 k d u hd hu)
theorem Tr.im {es:List (Value×D)} (h:∀ x∈es,Tr x.2):Tr (.im es):=fun F β w v hv=>by
  cases hv with
  | im _ r ms clock hf hb hc hl hnd hk hh=>
    exact .im es r ms clock (fun e=>e.elim hf fun e=>e hb) (fun i p hp=>by cases hp) hc hl hnd hk fun k x m hx hm=>h x (List.mem_of_getElem? hx) F β w _ (hh k x m hx hm)
theorem Tr.s (x:Value):Tr (.s x):=fun F β w v hv=>by
  obtain ⟨rfl,h⟩:=hv.s_inv;exact .s _ h
theorem Tr.ub:Tr .ub:=fun F β w v hv=>by
  obtain ⟨b,rfl⟩:=hv.ub_inv;exact .ub b
theorem Tr.u:Tr .u:=fun F β w v _=>.u v
theorem Tr.z:Tr .z:=fun F β w v hv=>by
  rw [hv.z_eq];exact .z
theorem Tr.nil:∀ a∈([]:List D),Tr a:=fun _ h=>by cases h
theorem Tr.cons {d:D} {l:List D} (h:Tr d) (hl:∀ a∈l,Tr a):∀ a∈d::l,Tr a:=fun a ha=>by
  cases ha with
  | head=>exact h
  | tail _ ha=>exact hl a ha
theorem Tr.map {α:Type} {f:α→D} {l:List α} (h:∀ x,Tr (f x)):∀ a∈l.map f,Tr a:=fun a ha=>by
  obtain ⟨x,_,rfl⟩:=List.mem_map.1 ha;exact h x
theorem Tr.flat {α:Type} {f:α→List D} {l:List α} (h:∀ x,∀ a∈f x,Tr a):∀ a∈l.flatMap f,Tr a:=fun a ha=>by
  obtain ⟨x,_,hx⟩:=List.mem_flatMap.1 ha;exact h x a hx
end
def envL:List (Nat×D)→Env
  | [],_=>.u
  | (t,d)::l,j=>if j=t then d else envL l j
def EnvHas:List (Nat×D)→Env→Prop
  | [],_=>True
  | (t,d)::l,env=>env t=d∧EnvHas l env
theorem envL_of:∀ {l:List (Nat×D)} {env:Env},EnvHas l env→∀ t,envL l t=env t∨envL l t=.u
  | [],_,_,_=>.inr rfl
  | (k,d)::l,env,h,t=>by
    simp only [envL]
    by_cases ht:t=k
    · subst ht;rw [if_pos rfl];exact .inl h.1.symm
    · rw [if_neg ht];exact envL_of h.2 t
def AskL (env:Env):List Operand→Prop
  | []=>True
  | x::xs=>(opd env x).ask∧AskL env xs
theorem askL_all {env:Env}:∀ {l:List Operand},AskL env l→∀ x∈l,(opd env x).ask
  | [],_,x,h=>by cases h
  | y::l,h,x,hx=>by
    cases hx with
    | head=>exact h.1
    | tail _ hx=>exact askL_all h.2 x hx
theorem askL_asks {env:Env} {o:Op} (h:AskL env o.operands.toList):asks env o:=by
  have:=askL_all h
  unfold asks
  cases o<;>first | exact this | exact this _ (by simp [Op.operands])
section
variable {P:Program} {Y:YSpec} {rf:Bool}
structure Ef (P:Program) (op:Op) (env:Env) (m:Mem) (nx:Nat) (e:Eff):Prop where
  ok:aop P op (rho env op) m nx=some e
  nc:callD (rho env op) op=none
  ny:yieldD (rho env op) op=none
variable {ops:Array Oper} {dr:Bool} {cf:List (Nat×Nat)} {Q:Exit→St→Prop} {rest:List Oper} {env:Env} {m:Mem} {nx:Nat} {tr:Tra} {t:Nat} {op:Op} {ty:TypeId} {pos:String} {after:Array Edge}
  {pre:Prop} {v:D} {rd:List Nat}
theorem ao_any {d:Option Nat} {e:Eff} (he:Ef P op env m nx e) (ha:asks env op) (hp:e.pre) (K:AOps P Y ops dr cf Q rest (St.put ⟨env,upds m e.ups,nx+e.new⟩ d e.val) (tr++[(e.rd,e.ups.map (·.1))])):
    AOps P Y ops dr cf Q (⟨d,op,ty,pos,after,none⟩::rest) ⟨env,m,nx⟩ tr:=by
  simp only [AOps]
  refine .inl ?_
  simp only [AOp]
  rw [he.nc,he.ny,he.ok]
  exact ⟨ha,hp,K⟩
theorem ao_p (he:Ef P op env m nx ⟨pre,v,[],rd,0⟩) (ha:AskL env op.operands.toList) (hp:pre) (K:AOps P Y ops dr cf Q rest ⟨up env t v,m,nx⟩ (tr++[(rd,[])])):
    AOps P Y ops dr cf Q (⟨some t,op,ty,pos,after,none⟩::rest) ⟨env,m,nx⟩ tr:=ao_any he (askL_asks ha) hp K
theorem pick_ef {c a b:Operand} {g:Bool} (hc:(opd env c).core=.s (.bool g)):Ef P (.pick c a b) env m nx ⟨(g=true→(opd env a).ask∧(opd env a).core.bool?.isSome=true)∧(g=false→(opd env b).ask∧(opd env b).core.bool?.isSome=true),
    .s (.bool (if g then (opd env a).core.bool?.getD false else (opd env b).core.bool?.getD false)),[],[],0⟩:=⟨by simp only [aop,rho,hc,D.bool?],rfl,rfl⟩
theorem ao_pick {c a b:Operand} {g x y:Bool} (hc:opd env c=.s (.bool g)) (ha:(opd env a).core=.s (.bool x)) (hb:(opd env b).core=.s (.bool y)) (h1:g=true→(opd env a).ask) (h2:g=false→(opd env b).ask)
    (K:AOps P Y ops dr cf Q rest ⟨up env t (.s (.bool (if g then x else y))),m,nx⟩ (tr++[([],[])])):
    AOps P Y ops dr cf Q (⟨some t,.pick c a b,ty,pos,after,none⟩::rest) ⟨env,m,nx⟩ tr:=by
  refine ao_any (pick_ef (g:=g) (by rw [hc];rfl)) (by simp only [asks,hc,D.ask]) ⟨fun h=>⟨h1 h,by rw [ha];rfl⟩,fun h=>⟨h2 h,by rw [hb];rfl⟩⟩ ?_
  simp only [ha,hb,D.bool?,Option.getD_some]
  exact K
theorem ao_pickT {c a b:Operand} {x:Bool} (hc:opd env c=.s (.bool true)) (ha:(opd env a).core=.s (.bool x)) (h1:(opd env a).ask)
    (K:AOps P Y ops dr cf Q rest ⟨up env t (.s (.bool x)),m,nx⟩ (tr++[([],[])])):
    AOps P Y ops dr cf Q (⟨some t,.pick c a b,ty,pos,after,none⟩::rest) ⟨env,m,nx⟩ tr:=by
  refine ao_any (pick_ef (g:=true) (by rw [hc];rfl)) (by simp only [asks,hc,D.ask]) ⟨fun _=>⟨h1,by rw [ha];rfl⟩,fun h=>by cases h⟩ ?_
  simp only [ha,D.bool?,Option.getD_some,if_true]
  exact K
theorem ao_pickF {c a b:Operand} {y:Bool} (hc:opd env c=.s (.bool false)) (hb:(opd env b).core=.s (.bool y)) (h2:(opd env b).ask)
    (K:AOps P Y ops dr cf Q rest ⟨up env t (.s (.bool y)),m,nx⟩ (tr++[([],[])])):
    AOps P Y ops dr cf Q (⟨some t,.pick c a b,ty,pos,after,none⟩::rest) ⟨env,m,nx⟩ tr:=by
  refine ao_any (pick_ef (g:=false) (by rw [hc];rfl)) (by simp only [asks,hc,D.ask]) ⟨fun h=>(by cases h),fun _=>⟨h2,by rw [hb];rfl⟩⟩ ?_
  simp only [hb,D.bool?,Option.getD_some,Bool.false_eq_true,if_false]
  exact K
theorem ao_w {i:Nat} {row:Option Row} (he:Ef P op env m nx ⟨pre,v,[(i,row)],rd,0⟩) (ha:AskL env op.operands.toList) (hp:pre) (K:AOps P Y ops dr cf Q rest ⟨env,up m i row,nx⟩ (tr++[(rd,[i])])):
    AOps P Y ops dr cf Q (⟨none,op,ty,pos,after,none⟩::rest) ⟨env,m,nx⟩ tr:=ao_any he (askL_asks ha) hp K
theorem ao_wt {i:Nat} {row:Option Row} (he:Ef P op env m nx ⟨pre,v,[(i,row)],rd,0⟩) (ha:AskL env op.operands.toList) (hp:pre) (K:AOps P Y ops dr cf Q rest ⟨up env t v,up m i row,nx⟩ (tr++[(rd,[i])])):
    AOps P Y ops dr cf Q (⟨some t,op,ty,pos,after,none⟩::rest) ⟨env,m,nx⟩ tr:=ao_any he (askL_asks ha) hp K
theorem ao_a {row:Row} (he:Ef P op env m nx ⟨pre,v,[(nx,some row)],rd,1⟩) (ha:AskL env op.operands.toList) (hp:pre) (K:AOps P Y ops dr cf Q rest ⟨up env t v,up m nx (some row),nx+1⟩ (tr++[(rd,[nx])])):
    AOps P Y ops dr cf Q (⟨some t,op,ty,pos,after,none⟩::rest) ⟨env,m,nx⟩ tr:=ao_any he (askL_asks ha) hp K
theorem ao_m {i:Nat} {row:Row} (he:Ef P op env m nx ⟨pre,v,[(i,none),(nx,some row)],rd,1⟩) (ha:AskL env op.operands.toList) (hp:pre) (K:AOps P Y ops dr cf Q rest ⟨up env t v,up (up m i none) nx (some row),nx+1⟩ (tr++[(rd,[i,nx])])):
    AOps P Y ops dr cf Q (⟨some t,op,ty,pos,after,none⟩::rest) ⟨env,m,nx⟩ tr:=ao_any he (askL_asks ha) hp K
theorem ao_g {j:Nat} {b c:Bool} {u:Nat} (hj:(ops[j]?).bind (·.dst)=some u) (hg:guardC (env u) b=some c) (he:Ef P op env m nx ⟨pre,v,[],rd,0⟩) (ha:c=true→AskL env op.operands.toList∧pre)
    (K:AOps P Y ops dr cf Q rest ⟨up env t (.opt c v),m,nx⟩ (tr++[(rd,[])])):AOps P Y ops dr cf Q (⟨some t,op,ty,pos,after,some (j,b)⟩::rest) ⟨env,m,nx⟩ tr:=by
  simp only [AOps]
  refine .inl ?_
  simp only [AOp]
  rw [hj]
  simp only [Option.bind_some]
  rw [hg,he.nc,he.ny,he.ok]
  exact ⟨fun hc=>⟨askL_asks (ha hc).1,(ha hc).2⟩,K⟩
theorem ao_gpick {j:Nat} {b0 c0:Bool} {u:Nat} (hj:(ops[j]?).bind (·.dst)=some u) (hg:guardC (env u) b0=some c0) {c a b:Operand} {g x y:Bool} (hc:(opd env c).core=.s (.bool g)) (ha:(opd env a).core=.s (.bool x)) (hb:(opd env b).core=.s (.bool y))
    (h0:c0=true→(opd env c).ask) (h1:c0=true→g=true→(opd env a).ask) (h2:c0=true→g=false→(opd env b).ask)
    (K:AOps P Y ops dr cf Q rest ⟨up env t (.opt c0 (.s (.bool (if g then x else y)))),m,nx⟩ (tr++[([],[])])):
    AOps P Y ops dr cf Q (⟨some t,.pick c a b,ty,pos,after,some (j,b0)⟩::rest) ⟨env,m,nx⟩ tr:=by
  have he:=pick_ef (P:=P) (env:=env) (m:=m) (nx:=nx) (a:=a) (b:=b) hc
  simp only [ha,hb,D.bool?,Option.getD_some,Option.isSome_some,and_true] at he
  simp only [AOps]
  refine .inl ?_
  simp only [AOp]
  rw [hj]
  simp only [Option.bind_some]
  rw [hg,he.nc,he.ny,he.ok]
  exact ⟨fun hc=>⟨by simp only [asks];exact h0 hc,h1 hc,h2 hc⟩,K⟩
theorem ao_gt {j:Nat} {b:Bool} {u:Nat} {d:Option Nat} {e:Eff} (hj:(ops[j]?).bind (·.dst)=some u) (hg:guardC (env u) b=some true) (he:Ef P op env m nx e) (ha:AskL env op.operands.toList) (hp:e.pre)
    (K:e.ups=[]→e.new=0→AOps P Y ops dr cf Q rest (St.put ⟨env,m,nx⟩ d (.opt true e.val)) (tr++[(e.rd,[])]))
    (K':AOps P Y ops dr cf Q rest (St.put ⟨env,upds m e.ups,nx+e.new⟩ d e.val) (tr++[(e.rd,e.ups.map (·.1))])):AOps P Y ops dr cf Q (⟨d,op,ty,pos,after,some (j,b)⟩::rest) ⟨env,m,nx⟩ tr:=by
  simp only [AOps]
  refine .inl ?_
  simp only [AOp]
  rw [hj]
  simp only [Option.bind_some]
  rw [hg,he.nc,he.ny,he.ok]
  simp only
  split
  · rename_i h
    simp only [Bool.and_eq_true,List.isEmpty_iff,beq_iff_eq] at h
    exact ⟨fun _=>⟨askL_asks ha,hp⟩,K h.1 h.2⟩
  · exact ⟨fun _=>⟨askL_asks ha,hp,K'⟩,by simp⟩
theorem ao_gtp {j:Nat} {b:Bool} {u:Nat} (hj:(ops[j]?).bind (·.dst)=some u) (hg:guardC (env u) b=some true) (he:Ef P op env m nx ⟨pre,v,[],rd,0⟩) (ha:AskL env op.operands.toList) (hp:pre)
    (K:AOps P Y ops dr cf Q rest ⟨up env t (.opt true v),m,nx⟩ (tr++[(rd,[])])):AOps P Y ops dr cf Q (⟨some t,op,ty,pos,after,some (j,b)⟩::rest) ⟨env,m,nx⟩ tr:=ao_g hj hg he (fun _=>⟨ha,hp⟩) K
theorem ao_gf {j:Nat} {b:Bool} {u:Nat} {d:Option Nat} (hj:(ops[j]?).bind (·.dst)=some u) (hg:guardC (env u) b=some false)
    (K:∀ (x:D) rd,AOps P Y ops dr cf Q rest (St.put ⟨env,m,nx⟩ d (.opt false x)) (tr++[(rd,[])])):AOps P Y ops dr cf Q (⟨d,op,ty,pos,after,some (j,b)⟩::rest) ⟨env,m,nx⟩ tr:=by
  simp only [AOps]
  refine .inl ?_
  simp only [AOp]
  rw [hj]
  simp only [Option.bind_some]
  rw [hg]
  simp only
  split
  · exact .inr ⟨by simp,fun _=>K .u []⟩
  · split
    · exact ⟨by simp,fun _=>K .u []⟩
    · split
      · split
        · exact ⟨by simp,K _ _⟩
        · exact ⟨by simp,fun _=>K .u []⟩
      · exact ⟨trivial,K .u []⟩
theorem ao_gft {j:Nat} {b:Bool} {u t:Nat} (hj:(ops[j]?).bind (·.dst)=some u) (hg:guardC (env u) b=some false)
    (K:∀ (x:D) rd,AOps P Y ops dr cf Q rest ⟨up env t (.opt false x),m,nx⟩ (tr++[(rd,[])])):AOps P Y ops dr cf Q (⟨some t,op,ty,pos,after,some (j,b)⟩::rest) ⟨env,m,nx⟩ tr:=ao_gf hj hg K
theorem ao_call {f:FuncId} {args:List D} {d:Option Nat} (hc:callD (rho env op) op=some (f,args)) (ha:AskL env op.operands.toList) (h:CallOp P dr ⟨env,m,nx⟩ f args fun r m nx rd wr=>AOps P Y ops dr cf Q rest (St.put ⟨env,m,nx⟩ d r) (tr++[(rd,wr)])):
    AOps P Y ops dr cf Q (⟨d,op,ty,pos,after,none⟩::rest) ⟨env,m,nx⟩ tr:=by
  simp only [AOps]
  refine .inl ?_
  simp only [AOp]
  rw [hc]
  exact ⟨askL_asks ha,h⟩
theorem ao_pc {f:FuncId} {args:List D} {r:D} (h:PCall P f args r) (hc:callD (rho env op) op=some (f,args)) (ha:AskL env op.operands.toList) (K:AOps P Y ops dr cf Q rest ⟨up env t r,m,nx⟩ (tr++[([],[])])):
    AOps P Y ops dr cf Q (⟨some t,op,ty,pos,after,none⟩::rest) ⟨env,m,nx⟩ tr:=ao_call hc ha (.inl ⟨r,h,K⟩)
theorem ao_oc {f:FuncId} {args es:List D} {n:Nat} {ty':TypeId} (h:OCall P f args es n ty') (hc:callD (rho env op) op=some (f,args)) (ha:AskL env op.operands.toList) (K:AOps P Y ops dr cf Q rest ⟨up env t (.rs nx 0 n),up m nx (some (.cells es ty')),nx+1⟩ (tr++[([],[nx])])):
    AOps P Y ops dr cf Q (⟨some t,op,ty,pos,after,none⟩::rest) ⟨env,m,nx⟩ tr:=ao_call hc ha (.inr (.inr (.inl ⟨es,n,ty',h,K⟩)))
theorem ao_ac {f:FuncId} {args:List D} {d:Option Nat} {Post:D→Mem→Nat→Prop} (h:ACalls P f args m nx Post) (hc:callD (rho env op) op=some (f,args)) (ha:AskL env op.operands.toList)
    (K:∀ r m' nx',Post r m' nx'→AOps P Y ops false cf Q rest (St.put ⟨env,m',nx'⟩ d r) (tr++[([],[])])):
    AOps P Y ops false cf Q (⟨d,op,ty,pos,after,none⟩::rest) ⟨env,m,nx⟩ tr:=ao_call hc ha (.inr (.inr (.inr (.inl ⟨rfl,h.mono K⟩))))
theorem ao_sc {f:FuncId} {args args':List D} {r:D} {rds:List Nat} (h:PCall P f args' r) (hs:r.scal=true) (hsn:Sns P rds m args args') (hc:callD (rho env op) op=some (f,args)) (ha:AskL env op.operands.toList)
    (K:AOps P Y ops dr cf Q rest ⟨up env t r,m,nx⟩ (tr++[(rds,[])])):AOps P Y ops dr cf Q (⟨some t,op,ty,pos,after,none⟩::rest) ⟨env,m,nx⟩ tr:=ao_call hc ha (.inr (.inl ⟨args',rds,r,hsn,h,hs,K⟩))
theorem ao_gpc {j:Nat} {b c:Bool} {u:Nat} {f:FuncId} {args:List D} {r:D} (hj:(ops[j]?).bind (·.dst)=some u) (hg:guardC (env u) b=some c) (hc:callD (rho env op) op=some (f,args)) (h:c=true→AskL env op.operands.toList∧PCall P f args r)
    (K:AOps P Y ops dr cf Q rest ⟨up env t (.opt c r),m,nx⟩ (tr++[([],[])])):AOps P Y ops dr cf Q (⟨some t,op,ty,pos,after,some (j,b)⟩::rest) ⟨env,m,nx⟩ tr:=by
  simp only [AOps]
  refine .inl ?_
  simp only [AOp]
  rw [hj]
  simp only [Option.bind_some]
  rw [hg,hc]
  exact .inl ⟨r,fun hct=>⟨askL_asks (h hct).1,(h hct).2⟩,K⟩
theorem ao_gcall {j:Nat} {b:Bool} {u:Nat} {d:Option Nat} {f:FuncId} {args:List D} (hj:(ops[j]?).bind (·.dst)=some u) (hg:guardC (env u) b=some true) (hc:callD (rho env op) op=some (f,args)) (ha:AskL env op.operands.toList)
    (h:CallOp P dr ⟨env,m,nx⟩ f args fun r m nx rd wr=>AOps P Y ops dr cf Q rest (St.put ⟨env,m,nx⟩ d r) (tr++[(rd,wr)])):AOps P Y ops dr cf Q (⟨d,op,ty,pos,after,some (j,b)⟩::rest) ⟨env,m,nx⟩ tr:=by
  simp only [AOps]
  refine .inl ?_
  simp only [AOp]
  rw [hj]
  simp only [Option.bind_some]
  rw [hg,hc]
  exact .inr ⟨fun _=>⟨askL_asks ha,h⟩,by simp⟩
theorem ao_y {l:Nat} {args:List D} {d:Option Nat} (hc:callD (rho env op) op=none) (hy:yieldD (rho env op) op=some (l,args)) (ha:AskL env op.operands.toList) (h:Y l args m nx fun r m' nx'=>AOps P Y ops false cf Q rest (St.put ⟨env,m',nx'⟩ d r) (tr++[([],[])])):
    AOps P Y ops false cf Q (⟨d,op,ty,pos,after,none⟩::rest) ⟨env,m,nx⟩ tr:=by
  simp only [AOps]
  refine .inl ?_
  simp only [AOp]
  rw [hc,hy]
  exact ⟨askL_asks ha,trivial,h⟩
theorem ao_gy {j:Nat} {b:Bool} {u:Nat} {l:Nat} {args:List D} {d:Option Nat} (hj:(ops[j]?).bind (·.dst)=some u) (hg:guardC (env u) b=some true) (hc:callD (rho env op) op=none) (hy:yieldD (rho env op) op=some (l,args)) (ha:AskL env op.operands.toList)
    (h:Y l args m nx fun r m' nx'=>AOps P Y ops false cf Q rest (St.put ⟨env,m',nx'⟩ d r) (tr++[([],[])])):AOps P Y ops false cf Q (⟨d,op,ty,pos,after,some (j,b)⟩::rest) ⟨env,m,nx⟩ tr:=by
  simp only [AOps]
  refine .inl ?_
  simp only [AOp]
  rw [hj]
  simp only [Option.bind_some]
  rw [hg,hc,hy]
  exact ⟨fun _=>⟨askL_asks ha,trivial,h⟩,by simp⟩
def endQ (K:St→Prop):Exit→St→Prop
  | .normal,st=>K st
  | _,_=>True
theorem ao_end {K:St→Prop} {st:St} (h:K st):AOps P Y ops dr [] (endQ K) [] st tr:=⟨by simp,h⟩
theorem ao_endc {K:St→Prop} {st:St} (hc:∀ q∈cf,apartT tr q.1 q.2) (h:K st):AOps P Y ops dr cf (endQ K) [] st tr:=⟨hc,h⟩
variable {st:St} {a b c:Code}
theorem AOps.endq {cf:List (Nat×Nat)} {K:St→Prop} {Q:Exit→St→Prop} [YMono Y] {l:List Oper} (h:AOps P Y ops dr cf (endQ K) l st tr) (hk:∀ st,K st→Q .normal st):AOps P Y ops dr cf Q l st tr:=
  AOps.mono (Q:=endQ K) (fun st h=>hk st h) l st tr h
theorem w_region [YMono Y] {id:Nat} (h:AOps P Y ops false [] (endQ fun st=>Q .normal st) ops.toList st []):AW P Y rf (.region id ops false) Q st:=AOps.endq h fun _ h=>h
theorem w_draw [YMono Y] {id:Nat} (hi:drawInfo ops=some cf) (h:AOps P Y ops true cf (endQ fun st=>Q .normal st) ops.toList st []):AW P Y rf (.region id ops true) Q st:=by
  show match drawInfo ops with
    | some cf=>DrawOk P Y ops cf Q st
    | none=>False
  rw [hi]
  exact .inl (AOps.endq h fun _ h=>h)
theorem w_drawL [YMono Y] {id:Nat} (hi:drawInfo ops=some cf) (hl:lastB ops=true) (h:AOps P noY ops true cf (endQ fun st=>AOps P noY ops false [] (endQ fun st=>Q .normal st) (ops.toList.drop (ops.size - 1)) st []) (ops.toList.take (ops.size - 1)) st []):AW P Y rf (.region id ops true) Q st:=by
  show match drawInfo ops with
    | some cf=>DrawOk P Y ops cf Q st
    | none=>False
  rw [hi]
  exact .inr ⟨hl,AOps.endq h fun _ h=>⟨rfl,AOps.endq h fun _ h=>h⟩⟩
theorem w_seq_drawL [YMono Y] {id:Nat} (hi:drawInfo ops=some cf) (hl:lastB ops=true) (h:AOps P noY ops true cf (endQ fun st=>AOps P noY ops false [] (endQ fun st=>AW P Y rf b Q st) (ops.toList.drop (ops.size - 1)) st []) (ops.toList.take (ops.size - 1)) st []):AW P Y rf (.seq (.region id ops true) b) Q st:=
  w_drawL (rf:=rf) (id:=id) hi hl (AOps.endq h fun _ h=>AOps.endq h fun st h=>⟨st,.refl st,h⟩)
theorem w_seq_drawL_g [YMono Y] {id:Nat} (hi:drawInfo ops=some cf) (hl:lastB ops=true) (h:AOps P noY ops true cf (endQ fun st=>AOps P noY ops false [] (endQ fun st=>∃ st',Ghost P st st'∧AW P Y rf b Q st') (ops.toList.drop (ops.size - 1)) st []) (ops.toList.take (ops.size - 1)) st []):AW P Y rf (.seq (.region id ops true) b) Q st:=
  w_drawL (rf:=rf) (id:=id) hi hl (AOps.endq h fun _ h=>AOps.endq h fun st h=>h)
theorem w_seq_region [YMono Y] {id:Nat} (h:AOps P Y ops false [] (endQ fun st=>AW P Y rf b Q st) ops.toList st []):AW P Y rf (.seq (.region id ops false) b) Q st:=
  w_region (rf:=rf) (id:=id) (AOps.endq h fun st h=>⟨st,.refl st,h⟩)
theorem w_seq_draw [YMono Y] {id:Nat} (hi:drawInfo ops=some cf) (h:AOps P Y ops true cf (endQ fun st=>AW P Y rf b Q st) ops.toList st []):AW P Y rf (.seq (.region id ops true) b) Q st:=
  w_draw (rf:=rf) (id:=id) hi (AOps.endq h fun st h=>⟨st,.refl st,h⟩)
theorem w_ghost {st':St} (hg:Ghost P st st') (h:AW P Y rf b Q st'):∃ st'',Ghost P st st''∧AW P Y rf b Q st'':=⟨st',hg,h⟩
theorem w_seq_region_g [YMono Y] {id:Nat} (h:AOps P Y ops false [] (endQ fun st=>∃ st',Ghost P st st'∧AW P Y rf b Q st') ops.toList st []):AW P Y rf (.seq (.region id ops false) b) Q st:=
  w_region (rf:=rf) (id:=id) (AOps.endq h fun _ h=>h)
theorem w_seq_draw_g [YMono Y] {id:Nat} (hi:drawInfo ops=some cf) (h:AOps P Y ops true cf (endQ fun st=>∃ st',Ghost P st st'∧AW P Y rf b Q st') ops.toList st []):AW P Y rf (.seq (.region id ops true) b) Q st:=
  w_draw (rf:=rf) (id:=id) hi (AOps.endq h fun _ h=>h)
theorem w_cut [YMono Y] (J:St→Prop) (h:AW P Y rf a (seqQ J Q) st) (k:∀ st,J st→AW P Y rf b Q st):AW P Y rf (.seq a b) Q st:=
  AW_mono a (fun e st h=>by
    cases e with
    | normal=>exact ⟨st,.refl st,k st h⟩
    | _=>exact h) h
theorem w_cut_g [YMono Y] (J:St→Prop) (h:AW P Y rf a (seqQ J Q) st) (k:∀ st,J st→∃ st',Ghost P st st'∧AW P Y rf b Q st'):AW P Y rf (.seq a b) Q st:=
  AW_mono a (fun e st h=>by
    cases e with
    | normal=>exact k st h
    | _=>exact h) h
theorem w_seq_skip [YMono Y] (h:AW P Y rf b Q st):AW P Y rf (.seq .skip b) Q st:=⟨st,.refl st,h⟩
theorem w_seq_ret (h:Q .ret st):AW P Y rf (.seq .ret b) Q st:=h
theorem w_seq_exit {id:Nat} (h:Q (.exit id) st):AW P Y rf (.seq (.exit id) b) Q st:=h
theorem w_seq_label {l:Nat} (h:AW P Y rf b Q st):AW P Y rf (.seq (.label l) b) Q st:=⟨st,.refl st,h⟩
theorem w_assoc [YMono Y] (h:AW P Y rf (.seq a (.seq b c)) Q st):AW P Y rf (.seq (.seq a b) c) Q st:=by
  refine AW_mono a (fun e st h=>?_) h
  cases e with
  | normal=>
    obtain ⟨st',hg,h⟩:=h
    refine ⟨st',hg,AW_mono b (fun e st h=>?_) h⟩
    cases e<;>exact h
  | _=>exact h
theorem w_if {c:Operand} {x y:Code} {g:Bool} (hc:opd st.env c=.s (.bool g)) (ht:g=true→AW P Y rf x Q st) (hf:g=false→AW P Y rf y Q st):AW P Y rf (.cond c x y) Q st:=by
  rw [AW_cond]
  rw [hc]
  exact ⟨trivial,ht,hf⟩
theorem w_seq_if {c:Operand} {x y:Code} {g:Bool} (hc:opd st.env c=.s (.bool g)) (ht:g=true→AW P Y rf (.seq x b) Q st) (hf:g=false→AW P Y rf (.seq y b) Q st):AW P Y rf (.seq (.cond c x y) b) Q st:=w_if hc ht hf
theorem w_if_ub {c:Operand} {x y:Code} (hc:opd st.env c=.ub) (ht:AW P Y rf x Q st) (hf:AW P Y rf y Q st):AW P Y rf (.cond c x y) Q st:=by
  rw [AW_cond]
  rw [hc]
  exact ⟨trivial,ht,hf⟩
theorem w_block {id:Nat} (h:AW P Y rf b (blockQ id Q) st):AW P Y rf (.block id b) Q st:=h
theorem w_seq_block [YMono Y] {id:Nat} (J:St→Prop) (h:AW P Y rf a (blockQ id (seqQ J Q)) st) (k:∀ st,J st→AW P Y rf b Q st):AW P Y rf (.seq (.block id a) b) Q st:=w_cut J (w_block h) k
theorem w_seq_block_g [YMono Y] {id:Nat} (J:St→Prop) (h:AW P Y rf a (blockQ id (seqQ J Q)) st) (k:∀ st,J st→∃ st',Ghost P st st'∧AW P Y rf b Q st'):AW P Y rf (.seq (.block id a) b) Q st:=w_cut_g J (w_block h) k
theorem w_loop [YMono Y] {α:Type} (S:α→St) (μ:α→Nat) (x₀:α) (h0:st=S x₀) (h:∀ x,AW P Y rf b (seqQ (fun st'=>∃ st'' x',Ghost P st' st''∧st''=S x'∧μ x'<μ x) Q) (S x)):AW P Y rf (.loop b) Q st:=by
  refine AW_while (fun j st=>∃ x,st=S x∧μ x=j) (j₀:=μ x₀) ⟨x₀,h0,rfl⟩ ?_
  rintro j st ⟨x,rfl,rfl⟩
  refine AW_mono b (fun e st' hq=>?_) (h x)
  cases e with
  | normal=>
    obtain ⟨st'',x',h1,h2,h3⟩:=hq
    exact ⟨st'',h1,μ x',h3,x',h2,rfl⟩
  | _=>exact hq
theorem w_loopJ [YMono Y] {α:Type} (S:α→St) (J:α→Prop) (μ:α→Nat) (x₀:α) (h0:st=S x₀) (hJ:J x₀) (h:∀ x,J x→AW P Y rf b (seqQ (fun st'=>∃ st'' x',Ghost P st' st''∧st''=S x'∧J x'∧μ x'<μ x) Q) (S x)):AW P Y rf (.loop b) Q st:=by
  refine AW_while (fun j st=>∃ x,st=S x∧J x∧μ x=j) (j₀:=μ x₀) ⟨x₀,h0,hJ,rfl⟩ ?_
  rintro j st ⟨x,rfl,hx,rfl⟩
  refine AW_mono b (fun e st' hq=>?_) (h x hx)
  cases e with
  | normal=>
    obtain ⟨st'',x',h1,h2,h3,h4⟩:=hq
    exact ⟨st'',h1,μ x',h4,x',h2,h3,rfl⟩
  | _=>exact hq
end
section
variable {P:Program} {env:Env} {m:Mem} {nx:Nat} {t:TypeId} {x y a:Operand} {d v:D} {k:IntKind} {n n':Int} {p q:TypeId}
theorem rho_of {o:Op} (h:∀ c a b,o≠ .pick c a b) (x:Operand):rho env o x=(opd env x).core:=by
  cases o<;>first | rfl | exact absurd rfl (h _ _ _)
theorem e_move (hx:(opd env x).core=v):Ef P (.move x) env m nx ⟨True,v,[],[],0⟩:=⟨by simp only [aop,rho,hx],rfl,rfl⟩
theorem e_assign (hx:(opd env x).core=v):Ef P (.assign x) env m nx ⟨True,v,[],[],0⟩:=⟨by simp only [aop,rho,hx],rfl,rfl⟩
theorem nilD_s (op:BinOp) (v:Value) (y:Operand):nilD P m op t (.s v) y=none:=by
  unfold nilD
  split<;>first | rfl | (rename_i h;cases h)
theorem binD_s {op:BinOp} {v w:Value} (h:∀ a b,v=.bool a→w=.bool b→False):binD P op t (.s v) (.s w)=(binV op v w).map fun r=>(r.1,.s r.2):=by
  cases v<;>cases w<;>first | rfl | exact (h _ _ rfl rfl).elim
theorem e_bin {op:BinOp} {v w u:Value} {pre:Prop} (hx:(opd env x).core=.s v) (hy:(opd env y).core=.s w) (hn:∀ a b,v=.bool a→w=.bool b→False) (hb:binV op v w=some (pre,u)):Ef P (.binOp op t x y p) env m nx ⟨pre,.s u,[],[],0⟩:=
  ⟨by simp only [aop,rho,hx,hy,nilD_s,binD_s hn,hb,Option.map_some],rfl,rfl⟩
section ints
variable (hx:(opd env x).core=.s (.int k n)) (hy:(opd env y).core=.s (.int k n'))
include hx hy
theorem e_lss:Ef P (.binOp .lss t x y p) env m nx ⟨k=k,.s (.bool (decide (n<n'))),[],[],0⟩:=e_bin hx hy (by simp) rfl
theorem e_leq:Ef P (.binOp .leq t x y p) env m nx ⟨k=k,.s (.bool (decide (n≤n'))),[],[],0⟩:=e_bin hx hy (by simp) rfl
theorem e_gtr:Ef P (.binOp .gtr t x y p) env m nx ⟨k=k,.s (.bool (decide (n'<n))),[],[],0⟩:=e_bin hx hy (by simp) rfl
theorem e_geq:Ef P (.binOp .geq t x y p) env m nx ⟨k=k,.s (.bool (decide (n'≤n))),[],[],0⟩:=e_bin hx hy (by simp) rfl
theorem e_eql:Ef P (.binOp .eql t x y p) env m nx ⟨k=k,.s (.bool (n==n')),[],[],0⟩:=e_bin hx hy (by simp) rfl
theorem e_neq:Ef P (.binOp .neq t x y p) env m nx ⟨k=k,.s (.bool (n !=n')),[],[],0⟩:=e_bin hx hy (by simp) rfl
theorem e_addw:Ef P (.binOp .add t x y p) env m nx ⟨k=k,.s (.int k (k.wrap (n+n'))),[],[],0⟩:=e_bin hx hy (by simp) rfl
theorem e_subw:Ef P (.binOp .sub t x y p) env m nx ⟨k=k,.s (.int k (k.wrap (n - n'))),[],[],0⟩:=e_bin hx hy (by simp) rfl
theorem e_mulw:Ef P (.binOp .mul t x y p) env m nx ⟨k=k,.s (.int k (k.wrap (n*n'))),[],[],0⟩:=e_bin hx hy (by simp) rfl
theorem e_quow:Ef P (.binOp .quo t x y p) env m nx ⟨k=k∧n'≠0,.s (.int k (k.wrap (n.tdiv n'))),[],[],0⟩:=e_bin hx hy (by simp) rfl
theorem e_rem:Ef P (.binOp .rem t x y p) env m nx ⟨k=k∧n'≠0,.s (.int k (n.tmod n')),[],[],0⟩:=e_bin hx hy (by simp) rfl
theorem e_and:Ef P (.binOp .and t x y p) env m nx ⟨k=k,.s (.int k (intBitsV .and k n n')),[],[],0⟩:=e_bin hx hy (by simp) rfl
theorem e_or:Ef P (.binOp .or t x y p) env m nx ⟨k=k,.s (.int k (intBitsV .or k n n')),[],[],0⟩:=e_bin hx hy (by simp) rfl
theorem e_xor:Ef P (.binOp .xor t x y p) env m nx ⟨k=k,.s (.int k (intBitsV .xor k n n')),[],[],0⟩:=e_bin hx hy (by simp) rfl
theorem e_andNot:Ef P (.binOp .andNot t x y p) env m nx ⟨k=k,.s (.int k (intBitsV .andNot k n n')),[],[],0⟩:=e_bin hx hy (by simp) rfl
end ints
theorem e_shl {k':IntKind} (hx:(opd env x).core=.s (.int k n)) (hy:(opd env y).core=.s (.int k' n')):Ef P (.binOp .shl t x y p) env m nx ⟨0≤n',.s (.int k (k.wrap (n*2 ^ (min n'.toNat k.bits)))),[],[],0⟩:=e_bin hx hy (by simp) rfl
theorem e_shr {k':IntKind} (hx:(opd env x).core=.s (.int k n)) (hy:(opd env y).core=.s (.int k' n')):Ef P (.binOp .shr t x y p) env m nx ⟨0≤n',.s (.int k (n.fdiv (2 ^ (min n'.toNat k.bits)))),[],[],0⟩:=e_bin hx hy (by simp) rfl
theorem i64_in (n:Int) (h: -9223372036854775808≤n∧n≤9223372036854775807):IntKind.i64.wrap n=n:=Go.IntWalk.i64_in n h
theorem e_add (hx:(opd env x).core=.s (.int .i64 n)) (hy:(opd env y).core=.s (.int .i64 n')) (hb: -9223372036854775808≤n+n'∧n+n'≤9223372036854775807):Ef P (.binOp .add t x y p) env m nx ⟨IntKind.i64=IntKind.i64,.s (.int .i64 (n+n')),[],[],0⟩:=by
  have:=e_addw (P:=P) (m:=m) (nx:=nx) (t:=t) (p:=p) hx hy
  rwa [i64_in _ hb] at this
theorem e_sub (hx:(opd env x).core=.s (.int .i64 n)) (hy:(opd env y).core=.s (.int .i64 n')) (hb: -9223372036854775808≤n - n'∧n - n'≤9223372036854775807):Ef P (.binOp .sub t x y p) env m nx ⟨IntKind.i64=IntKind.i64,.s (.int .i64 (n - n')),[],[],0⟩:=by
  have:=e_subw (P:=P) (m:=m) (nx:=nx) (t:=t) (p:=p) hx hy
  rwa [i64_in _ hb] at this
section strings
variable {s s':ByteArray} (hx:(opd env x).core=.s (.string s)) (hy:(opd env y).core=.s (.string s'))
include hx hy
theorem e_seql:Ef P (.binOp .eql t x y p) env m nx ⟨True,.s (.bool (s.toList==s'.toList)),[],[],0⟩:=e_bin hx hy (by simp) rfl
theorem e_sneq:Ef P (.binOp .neq t x y p) env m nx ⟨True,.s (.bool !(s.toList==s'.toList)),[],[],0⟩:=e_bin hx hy (by simp) rfl
theorem e_slss:Ef P (.binOp .lss t x y p) env m nx ⟨True,.s (.bool (Op.bytesLess s.toList s'.toList)),[],[],0⟩:=e_bin hx hy (by simp) rfl
theorem e_sgeq:Ef P (.binOp .geq t x y p) env m nx ⟨True,.s (.bool !(Op.bytesLess s.toList s'.toList)),[],[],0⟩:=e_bin hx hy (by simp) rfl
end strings
theorem e_beql {b b':Bool} (hx:(opd env x).core=.s (.bool b)) (hy:(opd env y).core=.s (.bool b')):Ef P (.binOp .eql t x y p) env m nx ⟨boT P t=true,.s (.bool (b==b')),[],[],0⟩:=
  ⟨by simp only [aop,rho,hx,hy,nilD_s,binD,Option.map_some],rfl,rfl⟩
theorem e_bneq {b b':Bool} (hx:(opd env x).core=.s (.bool b)) (hy:(opd env y).core=.s (.bool b')):Ef P (.binOp .neq t x y p) env m nx ⟨boT P t=true,.s (.bool !(b==b')),[],[],0⟩:=
  ⟨by simp only [aop,rho,hx,hy,nilD_s,binD,Option.map_some],rfl,rfl⟩
theorem e_not {b:Bool} (hx:(opd env x).core=.s (.bool b)):Ef P (.unOp .not t x) env m nx ⟨True,.s (.bool !b),[],[],0⟩:=⟨by simp only [aop,rho,hx,unV,Option.map_some],rfl,rfl⟩
theorem e_xorU (hx:(opd env x).core=.s (.int k n)):Ef P (.unOp .xor t x) env m nx ⟨True,.s (.int k (intBitsV .xor k (if k.signed then -1 else k.max) n)),[],[],0⟩:=⟨by simp only [aop,rho,hx,unV,Option.map_some],rfl,rfl⟩
theorem e_alloc {z:List D} (hz:zeroP P t=z):Ef P (.alloc t) env m nx ⟨tyOk P t=true,.rp nx 0,[(nx,some (.cells z t))],[],1⟩:=⟨by simp only [aop,hz],rfl,rfl⟩
theorem e_box {cs:List D} (hx:(opd env x).core=d) (hc:d.cells=cs):Ef P (.box t x) env m nx ⟨cs.all D.one=true,.rp nx 0,[(nx,some (.cells cs t))],[],1⟩:=⟨by simp only [aop,rho,hx,hc],rfl,rfl⟩
theorem e_box1 (hx:(opd env x).core=d) (hc:d.cells=[d]):Ef P (.box t x) env m nx ⟨[d].all D.one=true,.rp nx 0,[(nx,some (.cells [d] t))],[],1⟩:=e_box hx hc
theorem e_boxA {cs:List D} (hx:(opd env x).core=.agg cs):Ef P (.box t x) env m nx ⟨cs.all D.one=true,.rp nx 0,[(nx,some (.cells cs t))],[],1⟩:=e_box hx rfl
theorem e_load {cs:List D} (hx:(opd env x).core=.pt (v::cs)) (ha:aggP P t=false):Ef P (.load t x) env m nx ⟨tyOk P t=true∧P.cellsOf t≤(v::cs).length,v,[],[],0⟩:=⟨by simp [aop,rho,hx,takeV,ha],rfl,rfl⟩
theorem e_loadA {cs vs:List D} {n:Nat} (hx:(opd env x).core=.pt cs) (ha:aggP P t=true) (hc:P.cellsOf t=n) (hv:cs.take n=vs):Ef P (.load t x) env m nx ⟨tyOk P t=true∧P.cellsOf t≤cs.length,.agg vs,[],[],0⟩:=⟨by simp [aop,rho,hx,takeV,ha,hc,hv],rfl,rfl⟩
theorem e_loadR {i off:Nat} {cs cs':List D} {e:TypeId} (hx:(opd env x).core=.rp i off) (hm:m i=some (.cells cs e)) (hd:cs.drop off=v::cs') (ha:aggP P t=false):Ef P (.load t x) env m nx ⟨tyOk P t=true∧off+P.cellsOf t≤cs.length,v,[],[i],0⟩:=⟨by simp [aop,rho,hx,hm,takeV,ha,hd],rfl,rfl⟩
theorem e_loadRA {i off:Nat} {cs vs:List D} {e:TypeId} {n:Nat} (hx:(opd env x).core=.rp i off) (hm:m i=some (.cells cs e)) (ha:aggP P t=true) (hc:P.cellsOf t=n) (hv:(cs.drop off).take n=vs):Ef P (.load t x) env m nx ⟨tyOk P t=true∧off+P.cellsOf t≤cs.length,.agg vs,[],[i],0⟩:=⟨by simp [aop,rho,hx,hm,takeV,ha,hc,hv],rfl,rfl⟩
theorem e_store {i off:Nat} {cs cs' vs:List D} {e:TypeId} (hx:(opd env x).core=.rp i off) (hy:(opd env y).core=d) (hm:m i=some (.cells cs e)) (hv:d.cells=vs) (hs:splice cs off vs=cs'):
    Ef P (.store t x y) env m nx ⟨tyOk P t=true∧vs.length=P.cellsOf t∧off+P.cellsOf t≤cs.length∧vs.all D.one=true,.tup [],[(i,some (.cells cs' e))],[i],0⟩:=⟨by simp only [aop,rho,hx,hy,hm,hv,hs],rfl,rfl⟩
theorem e_store1 {i off:Nat} {cs cs':List D} {e:TypeId} (hx:(opd env x).core=.rp i off) (hy:(opd env y).core=d) (hm:m i=some (.cells cs e)) (hv:d.cells=[d]) (hs:cs.set off d=cs'):
    Ef P (.store t x y) env m nx ⟨tyOk P t=true∧[d].length=P.cellsOf t∧off+P.cellsOf t≤cs.length∧[d].all D.one=true,.tup [],[(i,some (.cells cs' e))],[i],0⟩:=e_store hx hy hm hv hs
theorem e_storeA {i off:Nat} {cs cs' vs:List D} {e:TypeId} (hx:(opd env x).core=.rp i off) (hy:(opd env y).core=.agg vs) (hm:m i=some (.cells cs e)) (hs:splice cs off vs=cs'):
    Ef P (.store t x y) env m nx ⟨tyOk P t=true∧vs.length=P.cellsOf t∧off+P.cellsOf t≤cs.length∧vs.all D.one=true,.tup [],[(i,some (.cells cs' e))],[i],0⟩:=e_store hx hy hm rfl hs
theorem e_faddr {cs:List D} {j off:Nat} {ft:TypeId} (hx:(opd env x).core=.pt cs) (hf:fieldP P t j=some (off,ft)):Ef P (.fieldAddr t x j) env m nx ⟨0<P.cellsOf ft,.pt (cs.drop off),[],[],0⟩:=⟨by simp only [aop,rho,hx,hf],rfl,rfl⟩
theorem e_faddrR {i o:Nat} {j off:Nat} {ft:TypeId} {r:Row} (hx:(opd env x).core=.rp i o) (hm:m i=some r) (hf:fieldP P t j=some (off,ft)):Ef P (.fieldAddr t x j) env m nx ⟨0<P.cellsOf ft,.rp i (o+off),[],[i],0⟩:=⟨by simp only [aop,rho,hx,hf,hm],rfl,rfl⟩
theorem e_field {cs cs':List D} {j off:Nat} {ft:TypeId} (hx:(opd env x).core=.agg cs) (hf:fieldP P t j=some (off,ft)) (ha:aggP P ft=false) (hd:cs.drop off=v::cs'):Ef P (.field t x j) env m nx ⟨tyOk P ft=true∧off+P.cellsOf ft≤cs.length,v,[],[],0⟩:=⟨by simp [aop,rho,hx,hf,takeV,ha,hd],rfl,rfl⟩
theorem e_fieldA {cs vs:List D} {j off n:Nat} {ft:TypeId} (hx:(opd env x).core=.agg cs) (hf:fieldP P t j=some (off,ft)) (ha:aggP P ft=true) (hc:P.cellsOf ft=n) (hd:(cs.drop off).take n=vs):Ef P (.field t x j) env m nx ⟨tyOk P ft=true∧off+P.cellsOf ft≤cs.length,.agg vs,[],[],0⟩:=⟨by simp [aop,rho,hx,hf,takeV,ha,hc,hd],rfl,rfl⟩
theorem e_nilP {cs:List D} (hx:(opd env x).core=.pt cs):Ef P (.nilCheck x) env m nx ⟨True,.pt cs,[],[],0⟩:=⟨by simp only [aop,rho,hx],rfl,rfl⟩
theorem e_nilR {i o:Nat} {r:Row} (hx:(opd env x).core=.rp i o) (hm:m i=some r):Ef P (.nilCheck x) env m nx ⟨True,.rp i o,[],[i],0⟩:=⟨by simp only [aop,rho,hx,hm],rfl,rfl⟩
theorem e_idx {es cs:List D} {l sz:Nat} {e:TypeId} (hx:(opd env x).core=.sl es l) (hy:(opd env y).core=.s (.int k n)) (he:elemP P t=e) (hs:P.cellsOf e=sz) (hd:es.drop (n.toNat*sz)=cs):
    Ef P (.indexAddr t x y) env m nx ⟨slT P t=true∧0≤n∧n<l∧(n.toNat+1)*sz≤es.length,.pt cs,[],[],0⟩:=⟨by simp only [aop,rho,hx,hy,he,hs,hd],rfl,rfl⟩
theorem e_idxR {j off l sz:Nat} {e:TypeId} {r:Row} (hx:(opd env x).core=.rs j off l) (hy:(opd env y).core=.s (.int k n)) (hm:m j=some r) (he:elemP P t=e) (hs:P.cellsOf e=sz):
    Ef P (.indexAddr t x y) env m nx ⟨slT P t=true∧0≤n∧n<l,.rp j (off+n.toNat*sz),[],[j],0⟩:=⟨by simp only [aop,rho,hx,hy,hm,he,hs],rfl,rfl⟩
theorem e_idxP {j off sz l:Nat} {e:TypeId} {r:Row} (hx:(opd env x).core=.rp j off) (hy:(opd env y).core=.s (.int k n)) (hm:m j=some r) (he:elemP P t=e) (hs:P.cellsOf e=sz) (hl:lenP P t=l):
    Ef P (.indexAddr t x y) env m nx ⟨arT P t=true∧0≤n∧n<l,.rp j (off+n.toNat*sz),[],[j],0⟩:=⟨by simp only [aop,rho,hx,hy,hm,he,hs,hl],rfl,rfl⟩
section builtins
theorem e_blt {b:Builtin} {ts:Array TypeId} {args:Array Operand} {as:List D} {e:Eff} (hs:ts.size=args.size) (ha:args.toList.map (fun x=>(opd env x).core)=as) (hb:builtinD P m nx b ts as=some e):Ef P (.call { callee:=.builtin b,args:=args,argTypes:=ts }) env m nx e:=
  ⟨by simp only [aop];rw [if_pos hs];simp only [rho];rw [ha,hb],rfl,rfl⟩
theorem e_len {es:List D} {l:Nat} (hx:(opd env x).core=.sl es l):Ef P (.call { callee:=.builtin .len,args:= #[x],argTypes:= #[t] }) env m nx ⟨slT P t=true,.s (.int .i64 l),[],[],0⟩:=e_blt (as:=[.sl es l]) rfl (by simp [hx]) rfl
theorem e_lenR {i off l:Nat} {r:Row} (hx:(opd env x).core=.rs i off l) (hm:m i=some r):Ef P (.call { callee:=.builtin .len,args:= #[x],argTypes:= #[t] }) env m nx ⟨slT P t=true,.s (.int .i64 l),[],[i],0⟩:=e_blt (as:=[.rs i off l]) rfl (by simp [hx]) (by simp [builtinD,lenD,hm])
theorem e_lenZ (hx:(opd env x).core=.z):Ef P (.call { callee:=.builtin .len,args:= #[x],argTypes:= #[t] }) env m nx ⟨slT P t=true,.s (.int .i64 0),[],[],0⟩:=e_blt (as:=[.z]) rfl (by simp [hx]) rfl
theorem e_lenS {b:ByteArray} (hx:(opd env x).core=.s (.string b)):Ef P (.call { callee:=.builtin .len,args:= #[x],argTypes:= #[t] }) env m nx ⟨stT P t=true,.s (.int .i64 b.size),[],[],0⟩:=e_blt (as:=[.s (.string b)]) rfl (by simp [hx]) rfl
theorem e_lenA {cs:List D} {l:Nat} (hx:(opd env x).core=.agg cs) (hl:lenP P t=l):Ef P (.call { callee:=.builtin .len,args:= #[x],argTypes:= #[t] }) env m nx ⟨arT P t=true,.s (.int .i64 l),[],[],0⟩:=e_blt (as:=[.agg cs]) rfl (by simp [hx]) (by simp [builtinD,lenD,hl])
theorem e_min {k:IntKind} (hx:(opd env x).core=.s (.int k n)) (hy:(opd env y).core=.s (.int k n')):Ef P (.call { callee:=.builtin .min,args:= #[x,y],argTypes:= #[t,t] }) env m nx ⟨k=k,.s (.int k (if n'<n then n' else n)),[],[],0⟩:=e_blt (as:=[.s (.int k n),.s (.int k n')]) rfl (by simp [hx,hy]) rfl
structure Cells (m:Mem) (sz:Nat) (d:D) (p:Prop) (rd:List Nat) (k:Nat) (news:List D):Prop where
  ok:sliceCells m sz d=some (p,rd,k,news)
theorem cells_sl {es news:List D} {k sz:Nat} (h:es.take (k*sz)=news):Cells m sz (.sl es k) (k*sz≤es.length) [] k news:=⟨by simp [sliceCells,h]⟩
theorem cells_z {sz:Nat}:Cells m sz .z True [] 0 []:=⟨rfl⟩
theorem cells_rs {i off k sz:Nat} {cs news:List D} {e:TypeId} (hm:m i=some (.cells cs e)) (h:(cs.drop off).take (k*sz)=news):Cells m sz (.rs i off k) (off+k*sz≤cs.length) [i] k news:=⟨by simp [sliceCells,hm,h]⟩
theorem e_appZ {p:Prop} {rd:List Nat} {c sz:Nat} {news:List D} {e:TypeId} (hx:(opd env x).core=.z) (hy:(opd env y).core=d) (he:elemP P t=e) (hs:P.cellsOf e=sz) (hc:Cells m sz d p rd c news):
    Ef P (.call { callee:=.builtin .append,args:= #[x,y],argTypes:= #[t,t] }) env m nx ⟨slT P t=true∧p∧0<sz∧c≤maxLen∧c*P.bytesOf e≤140737488355328,.rs nx 0 c,[(nx,some (.cells news e))],rd,1⟩:=by
  refine e_blt (as:=[.z,d]) rfl (by simp [hx,hy]) ?_
  simp only [builtinD]
  rw [if_pos (by simp)]
  simp only [appendD,Array.getD_eq_getD_getElem?,List.getElem?_toArray,List.getElem?_cons_zero,Option.getD_some,he,hs,hc.ok]
theorem e_appR {p:Prop} {rd:List Nat} {c sz i off l:Nat} {cs cs' news:List D} {e:TypeId} (hx:(opd env x).core=.rs i off l) (hm:m i=some (.cells cs e)) (hy:(opd env y).core=d) (he:elemP P t=e) (hs:P.cellsOf e=sz) (hc:Cells m sz d p rd c news) (hn:cs.drop off++news=cs'):
    Ef P (.call { callee:=.builtin .append,args:= #[x,y],argTypes:= #[t,t] }) env m nx ⟨slT P t=true∧e=e∧p∧0<sz∧off+l*sz=cs.length∧l+c≤maxLen∧(l+c)*P.bytesOf e≤140737488355328∧i∉rd,.rs nx 0 (l+c),[(i,none),(nx,some (.cells cs' e))],i::rd,1⟩:=by
  refine e_blt (as:=[.rs i off l,d]) rfl (by simp [hx,hy]) ?_
  simp only [builtinD]
  rw [if_pos (by simp)]
  simp only [appendD,Array.getD_eq_getD_getElem?,List.getElem?_toArray,List.getElem?_cons_zero,Option.getD_some,he,hs,hc.ok,hm,hn]
end builtins
theorem e_idxS {b:ByteArray} (hx:(opd env x).core=.s (.string b)) (hy:(opd env y).core=.s (.int k n)):Ef P (.index t x y) env m nx ⟨stT P t=true∧0≤n∧n<b.size,.s (.int .u8 (b.data.toList.getD n.toNat 0).toNat),[],[],0⟩:=⟨by simp only [aop,rho,hx,hy],rfl,rfl⟩
theorem e_idxA {cs:List D} {l sz:Nat} {e:TypeId} (hx:(opd env x).core=.agg cs) (hy:(opd env y).core=.s (.int k n)) (he:elemP P t=e) (hs:P.cellsOf e=sz) (hl:lenP P t=l) (hv:takeV P e (cs.drop (n.toNat*sz))=v):
    Ef P (.index t x y) env m nx ⟨arT P t=true∧0≤n∧n<l∧(n.toNat+1)*sz≤cs.length,v,[],[],0⟩:=⟨by simp only [aop,rho,hx,hy,he,hs,hl,hv],rfl,rfl⟩
theorem e_extract {cs cs':List D} {j:Nat} (hx:(opd env x).core=.tup cs) (hd:cs.drop j=v::cs'):Ef P (.extract x j) env m nx ⟨j<cs.length,v,[],[],0⟩:=by
  have h:cs[j]? =some v:=by
    have:(cs.drop j)[0]? =some v:=by rw [hd];rfl
    simpa using this
  exact ⟨by simp [aop,rho,hx,h],rfl,rfl⟩
theorem e_build {ps:Array (Nat×Operand)} {fs:Array Field} {cs z:List D} {qs:List (Nat×D)} (hu:P.underlying t=some (.struct fs)) (hz:zeroP P t=z) (hq:(ps.toList.map fun q=>(q.1,(opd env q.2).core))=qs)
    (hf:fillD (fun i=>(fs[i]?).map fun f=>(f.offset,P.cellsOf f.type)) z qs=some cs):Ef P (.build t ps) env m nx ⟨tyOk P t=true∧fs.toList.all (fun f=>(P.info? f.type).isSome)=true,.agg cs,[],[],0⟩:=
  ⟨by simp only [aop,rho,hu,hz,hq,hf,Option.map_some],rfl,rfl⟩
theorem e_build2 {ps:Array (Nat×Operand)} {fs:Array Field} {pls:List (Nat×Nat)} {cs z:List D} {qs:List (Nat×D)} (hu:P.underlying t=some (.struct fs)) (hp:(fs.toList.map fun (f:Field)=>(f.offset,P.cellsOf f.type))=pls) (hz:zeroP P t=z) (hq:(ps.toList.map fun q=>(q.1,(opd env q.2).core))=qs)
    (hf:fillD (fun i=>pls[i]?) z qs=some cs):Ef P (.build t ps) env m nx ⟨tyOk P t=true∧fs.toList.all (fun f=>(P.info? f.type).isSome)=true,.agg cs,[],[],0⟩:=by
  refine e_build hu hz hq ?_
  have:(fun (i:Nat)=>(fs[i]?).map fun (f:Field)=>(f.offset,P.cellsOf f.type))=fun (i:Nat)=>pls[i]? :=by
    funext i
    rw [← hp]
    simp
  rw [this];exact hf
theorem e_buildSl {ps:Array (Nat×Operand)} {l sz:Nat} {e:TypeId} {cs z:List D} {qs:List (Nat×D)} (he:elemP P t=e) (hs:P.cellsOf e=sz) (hz:zeroP P e=z) (hq:(ps.toList.map fun q=>(q.1,(opd env q.2).core))=qs)
    (hf:fillD (fun i=>some (i*sz,sz)) (replD l z) qs=some cs):Ef P (.buildSlice t l ps) env m nx ⟨cs.all D.one=true∧l*sz≤2 ^ 24∧slT P t=true∧l≤maxLen,.rs nx 0 l,[(nx,some (.cells cs e))],[],1⟩:=
  ⟨by simp only [aop,rho,he,hs,hz,hq,hf,Option.map_some],rfl,rfl⟩
theorem e_func {f:Fn} {fs cs:Array Operand} {fd cd:List D} (hf:fs.toList.map (fun x=>(opd env x).core)=fd) (hc:cs.toList.map (fun x=>(opd env x).core)=cd):Ef P (.makeFunc f fs cs) env m nx ⟨True,.fn f fd cd,[],[],0⟩:=⟨by simp only [aop,rho,hf,hc],rfl,rfl⟩
theorem e_map:Ef P (.makeMap t none) env m nx ⟨True,.mp nx,[(nx,some (.map []))],[],1⟩:=⟨by simp only [aop],rfl,rfl⟩
theorem e_makeSl {e:TypeId} {z:List D} (hx:(opd env x).core=.s (.int .i64 n)) (hy:(opd env y).core=.s (.int .i64 n')) (he:elemP P t=e) (hz:zeroP P e=z):
    Ef P (.makeSlice t x y) env m nx ⟨0≤n∧n=n'∧n≤9223372036854775807∧P.bytesOf e*n≤281474976710656∧slT P t=true,.rs nx 0 n.toNat,[(nx,some (.cells (replD n.toNat z) e))],[],1⟩:=⟨by simp only [aop,rho,hx,hy,he,hz],rfl,rfl⟩
theorem e_conv {src:TypeId} {k':IntKind} (hx:(opd env x).core=.s (.int k n)) (hu:P.underlying t=some (.int k')):Ef P (.convert src t x) env m nx ⟨tyOk P src=true,.s (.int k' (k'.wrap n)),[],[],0⟩:=⟨by simp only [aop,rho,hx,hu],rfl,rfl⟩
theorem e_bytes {src e:TypeId} {b:ByteArray} (hx:(opd env x).core=.s (.string b)) (hu:P.underlying t=some (.slice e)) (he:P.underlying e=some (.int .u8)):
    Ef P (.convert src t x) env m nx ⟨stT P src=true∧b.size≤maxLen,.sl (b.data.toList.map fun c=>.s (.int .u8 c.toNat)) b.size,[],[],0⟩:=⟨by simp only [aop,rho,hx,hu,he],rfl,rfl⟩
def strBytes (b:ByteArray):List Int:=b.data.toList.map fun c=>(c.toNat:Int)
theorem strBytes_length (b:ByteArray):(strBytes b).length=b.size:=by unfold strBytes;rw [List.length_map];rfl
theorem e_bytesB {src e:TypeId} {b:ByteArray} (hx:(opd env x).core=.s (.string b)) (hu:P.underlying t=some (.slice e)) (he:P.underlying e=some (.int .u8)):
    Ef P (.convert src t x) env m nx ⟨stT P src=true∧b.size≤maxLen,.sl ((strBytes b).map fun n=>.s (.int .u8 n)) (strBytes b).length,[],[],0⟩:=by
  have:=e_bytes (P:=P) (env:=env) (m:=m) (nx:=nx) (t:=t) (src:=src) hx hu he
  have h:(strBytes b).map (fun n=>D.s (.int .u8 n))=b.data.toList.map (fun c=>D.s (.int .u8 c.toNat)):=by rw [strBytes,List.map_map];rfl
  rw [strBytes_length,h]
  exact this
theorem e_slice {es es':List D} {l:Nat} {lo hi:Option Operand} {a b:Int} {e:TypeId} {sz:Nat} (hx:(opd env x).core=.sl es l) (he:elemP P t=e) (hs:P.cellsOf e=sz)
    (ha:bndD (lo.map fun x=>(opd env x).core) 0=some a) (hb:bndD (hi.map fun x=>(opd env x).core) l=some b) (hd:(es.drop (a.toNat*sz)).take ((b - a).toNat*sz)=es'):
    Ef P (.slice t x lo hi none) env m nx ⟨slT P t=true∧0≤a∧a≤b∧b≤l,.sl es' (b - a).toNat,[],[],0⟩:=by
  refine ⟨?_,rfl,rfl⟩
  show sliceD P m t (opd env x).core (lo.map fun x=>(opd env x).core) (hi.map fun x=>(opd env x).core) (Option.map (fun x=>(opd env x).core) none)=_
  rw [hx]
  simp only [sliceD,Option.map_none,ha,hb,he,hs,hd]
theorem e_sliceR {i off l:Nat} {cs:List D} {lo hi:Option Operand} {a b:Int} {e:TypeId} {sz:Nat} (hx:(opd env x).core=.rs i off l) (hm:m i=some (.cells cs e)) (he:elemP P t=e) (hs:P.cellsOf e=sz)
    (ha:bndD (lo.map fun x=>(opd env x).core) 0=some a) (hb:bndD (hi.map fun x=>(opd env x).core) l=some b):
    Ef P (.slice t x lo hi none) env m nx ⟨(slT P t=true∧sz=sz)∧0≤a∧a≤b∧b≤l,.rs i (off+a.toNat*sz) (b - a).toNat,[],[i],0⟩:=by
  refine ⟨?_,rfl,rfl⟩
  show sliceD P m t (opd env x).core (lo.map fun x=>(opd env x).core) (hi.map fun x=>(opd env x).core) (Option.map (fun x=>(opd env x).core) none)=_
  rw [hx]
  simp only [sliceD,hm,Option.map_none,ha,hb,he,hs]
theorem e_slice3 {es es':List D} {l:Nat} {lo hi:Option Operand} {z:Operand} {a b c:Int} {e:TypeId} {sz:Nat} (hx:(opd env x).core=.sl es l) (he:elemP P t=e) (hs:P.cellsOf e=sz)
    (ha:bndD (lo.map fun x=>(opd env x).core) 0=some a) (hb:bndD (hi.map fun x=>(opd env x).core) l=some b) (hz:(opd env z).core.int? =some c) (hd:(es.drop (a.toNat*sz)).take ((b - a).toNat*sz)=es'):
    Ef P (.slice t x lo hi (some z)) env m nx ⟨slT P t=true∧hi.isSome=true∧0≤a∧a≤b∧b≤c∧c≤l,.sl es' (b - a).toNat,[],[],0⟩:=by
  refine ⟨?_,rfl,rfl⟩
  show sliceD P m t (opd env x).core (lo.map fun x=>(opd env x).core) (hi.map fun x=>(opd env x).core) (Option.map (fun x=>(opd env x).core) (some z))=_
  rw [hx]
  simp only [sliceD,Option.map_some,ha,hb,hz,he,hs,hd,Option.isSome_map]
theorem e_lookup {i:Nat} {es:List (Value×D)} {key:Value} {ok:Bool} {kt:TypeId} (hx:(opd env x).core=.mp i) (hm:m i=some (.map es)) (hk:keyV (opd env y).core=some key) (ht:mkeyP P t=kt) (hg:gotD P t ok (lookD key es)=v):
    Ef P (.lookup t x y ok) env m nx ⟨mapT P t=true∧keyP P kt key=true∧es.all (fun e=>keyP P kt e.1)=true,v,[],[i],0⟩:=by
  refine ⟨?_,rfl,rfl⟩
  show lookupD P m t (opd env x).core (opd env y).core ok=_
  simp only [lookupD,hk,hx,hm,ht,hg]
theorem e_lookupI {es:List (Value×D)} {key:Value} {ok:Bool} {kt:TypeId} (hx:(opd env x).core=.im es) (hk:keyV (opd env y).core=some key) (ht:mkeyP P t=kt) (hg:gotD P t ok (lookD key es)=v):
    Ef P (.lookup t x y ok) env m nx ⟨mapT P t=true∧keyP P kt key=true∧es.all (fun e=>keyP P kt e.1)=true,v,[],[],0⟩:=by
  refine ⟨?_,rfl,rfl⟩
  show lookupD P m t (opd env x).core (opd env y).core ok=_
  simp only [lookupD,hk,hx,ht,hg]
theorem e_mput {i:Nat} {es:List (Value×D)} {key:Value} {z:Operand} {kt:TypeId} (hx:(opd env x).core=.mp i) (hm:m i=some (.map es)) (hk:keyV (opd env y).core=some key) (hz:(opd env z).core=v) (ht:mkeyP P t=kt):
    Ef P (.mapUpdate t x y z) env m nx ⟨mapT P t=true∧keyP P kt key=true∧es.all (fun e=>keyP P kt e.1)=true,.tup [],[(i,some (.map (putD key v es)))],[i],0⟩:=by
  refine ⟨?_,rfl,rfl⟩
  show mapPutD P m t (opd env x).core (opd env y).core (opd env z).core=_
  simp only [mapPutD,hk,hx,hm,ht,hz]
end
theorem drop_map {α:Type} {f:α→D}:∀ {l:List α} {k:Nat} {x:α},l[k]? =some x→(l.map f).drop k=f x::(l.drop (k+1)).map f
  | [],k,x,h=>by simp at h
  | a::l,0,x,h=>by simp at h;subst h;rfl
  | a::l,k+1,x,h=>by simpa using drop_map (f:=f) (l:=l) (k:=k) (by simpa using h)
theorem drop_flat {α:Type} {f:α→List D} {sz:Nat} (hs:∀ x,(f x).length=sz):∀ {l:List α} {k:Nat} {x:α},l[k]? =some x→(l.flatMap f).drop (k*sz)=f x++(l.drop (k+1)).flatMap f
  | [],k,x,h=>by simp at h
  | a::l,0,x,h=>by simp at h;subst h;simp
  | a::l,k+1,x,h=>by
    have h1:(k+1)*sz=(f a).length+k*sz:=by rw [hs];rw [Nat.add_mul];omega
    simp only [List.flatMap_cons,h1,List.drop_append,List.drop_succ_cons]
    rw [List.drop_of_length_le (by omega)]
    have:(f a).length+k*sz - (f a).length=k*sz:=by omega
    rw [this]
    simpa using drop_flat hs (l:=l) (k:=k) (by simpa using h)
theorem flat_length {α:Type} {f:α→List D} {sz:Nat} (hs:∀ x,(f x).length=sz):∀ (l:List α),(l.flatMap f).length=l.length*sz
  | []=>by simp
  | a::l=>by simp only [List.flatMap_cons,List.length_append,hs,flat_length hs l,List.length_cons,Nat.add_mul];omega
section
variable {P:Program} {env:Env} {m:Mem} {nx:Nat} {t e:TypeId} {x y:Operand} {k:IntKind}
theorem e_idx1 {α:Type} {f:α→D} {l:List α} {i n:Nat} {z:α} (hx:(opd env x).core=.sl (l.map f) n) (hy:(opd env y).core=.s (.int k i)) (he:elemP P t=e) (hs:P.cellsOf e=1) (hz:l[i]? =some z):
    Ef P (.indexAddr t x y) env m nx ⟨slT P t=true∧0≤(i:Int)∧(i:Int)<n∧((i:Int).toNat+1)*1≤(l.map f).length,.pt (f z::(l.drop (i+1)).map f),[],[],0⟩:=
  e_idx hx hy he hs (by rw [Int.toNat_natCast,Nat.mul_one];exact drop_map hz)
theorem p_idx1 {α:Type} {f:α→D} {l:List α} {i:Nat} {z:α} (ht:slT P t=true) (hz:l[i]? =some z):slT P t=true∧0≤(i:Int)∧(i:Int)<l.length∧((i:Int).toNat+1)*1≤(l.map f).length:=by
  have:=(List.getElem?_eq_some_iff.1 hz).1
  exact ⟨ht,by omega,by omega,by simp;omega⟩
theorem e_idxF {α:Type} {f:α→List D} {sz:Nat} {l:List α} {i n:Nat} {z:α} (hx:(opd env x).core=.sl (l.flatMap f) n) (hy:(opd env y).core=.s (.int k i)) (he:elemP P t=e) (hs:P.cellsOf e=sz) (hl:∀ x,(f x).length=sz) (hz:l[i]? =some z):
    Ef P (.indexAddr t x y) env m nx ⟨slT P t=true∧0≤(i:Int)∧(i:Int)<n∧((i:Int).toNat+1)*sz≤(l.flatMap f).length,.pt (f z++(l.drop (i+1)).flatMap f),[],[],0⟩:=
  e_idx hx hy he hs (by rw [Int.toNat_natCast];exact drop_flat hl hz)
theorem p_idxF {α:Type} {f:α→List D} {sz:Nat} {l:List α} {i:Nat} {z:α} (ht:slT P t=true) (hl:∀ x,(f x).length=sz) (hz:l[i]? =some z):slT P t=true∧0≤(i:Int)∧(i:Int)<l.length∧((i:Int).toNat+1)*sz≤(l.flatMap f).length:=by
  have:=(List.getElem?_eq_some_iff.1 hz).1
  refine ⟨ht,by omega,by omega,?_⟩
  rw [flat_length hl,Int.toNat_natCast]
  exact Nat.mul_le_mul_right _ this
theorem p_load {v:D} {cs:List D} (ht:tyOk P t=true) (hc:P.cellsOf t=1):tyOk P t=true∧P.cellsOf t≤(v::cs).length:=⟨ht,by rw [hc];simp⟩
theorem p_loadR {v:D} {cs cs':List D} {off:Nat} (ht:tyOk P t=true) (hc:P.cellsOf t=1) (hd:cs.drop off=v::cs'):tyOk P t=true∧off+P.cellsOf t≤cs.length:=by
  refine ⟨ht,?_⟩
  have:(cs.drop off).length=cs'.length+1:=by rw [hd];rfl
  rw [List.length_drop] at this
  omega
theorem p_loadA {n:Nat} {cs:List D} (ht:tyOk P t=true) (hc:P.cellsOf t=n) (hl:n≤cs.length):tyOk P t=true∧P.cellsOf t≤cs.length:=⟨ht,by rw [hc];exact hl⟩
theorem p_loadRA {n off:Nat} {cs:List D} (ht:tyOk P t=true) (hc:P.cellsOf t=n) (hl:off+n≤cs.length):tyOk P t=true∧off+P.cellsOf t≤cs.length:=⟨ht,by rw [hc];exact hl⟩
theorem p_pos {n:Nat} (hc:P.cellsOf t=n+1):0<P.cellsOf t:=by omega
theorem p_store {n off:Nat} {cs vs:List D} (ht:tyOk P t=true) (hc:P.cellsOf t=n) (hv:vs.length=n∧off+n≤cs.length) (ho:vs.all D.one=true):tyOk P t=true∧vs.length=P.cellsOf t∧off+P.cellsOf t≤cs.length∧vs.all D.one=true:=
  ⟨ht,by rw [hc];exact hv.1,by rw [hc];exact hv.2,ho⟩
end
section
variable {P:Program} {K:D→St→Prop} {st:St}
theorem q_ret0 (h:K (.tup []) st):retQ P [] K .ret st:=h
theorem q_end0 (h:K (.tup []) st):retQ P [] K .normal st:=h
theorem q_ret1 {t:Nat} {d:D} (hd:st.env t=d) (h:K d st):retQ P [.tmp t] K .ret st:=⟨trivial,by subst hd;exact h⟩
theorem q_end1 {t:Nat} {d:D} (hd:st.env t=d) (h:K d st):retQ P [.tmp t] K .normal st:=⟨trivial,by subst hd;exact h⟩
theorem q_ret2 {t u:Nat} {d e:D} (hd:st.env t=d) (he:st.env u=e) (h:K (.tup [d,e]) st):retQ P [.tmp t,.tmp u] K .ret st:=⟨trivial,trivial,by subst hd;subst he;exact h⟩
theorem q_ret3 {t u w:Nat} {d e f:D} (hd:st.env t=d) (he:st.env u=e) (hf:st.env w=f) (h:K (.tup [d,e,f]) st):retQ P [.tmp t,.tmp u,.tmp w] K .ret st:=⟨trivial,trivial,trivial,by subst hd;subst he;subst hf;exact h⟩
theorem resD_cellA {a i off n:Nat} {ty e:TypeId} {cs vs:List D} (ha:st.env a=.rp i off) (hm:st.mem i=some (.cells cs e)) (hg:aggP P ty=true) (hc:P.cellsOf ty=n) (hv:(cs.drop off).take n=vs) (ht:tyOk P ty=true) (hl:off+n≤cs.length):
    ∃ p,resD P st (.cell a ty)=some (p,.agg vs)∧p:=⟨tyOk P ty=true∧off+n≤cs.length,by simp only [resD,ha,hm,takeV,hg,if_true,hc,hv],ht,hl⟩
theorem resD_cell1 {a i off:Nat} {ty e:TypeId} {cs cs':List D} {v:D} (ha:st.env a=.rp i off) (hm:st.mem i=some (.cells cs e)) (hg:aggP P ty=false) (hc:P.cellsOf ty=1) (hv:cs.drop off=v::cs') (ht:tyOk P ty=true):
    ∃ p,resD P st (.cell a ty)=some (p,v)∧p:=by
  have hl:off+1≤cs.length:=by
    have:(cs.drop off).length=cs'.length+1:=by rw [hv];rfl
    rw [List.length_drop] at this;omega
  exact ⟨tyOk P ty=true∧off+1≤cs.length,by simp only [resD,ha,hm,takeV,hg,Bool.false_eq_true,if_false,hc,hv,List.headD_cons],ht,hl⟩
theorem q_cell {a:Nat} {ty:TypeId} {d:D} (hr:∃ p,resD P st (.cell a ty)=some (p,d)∧p) (h:K d st):retQ P [.cell a ty] K .ret st:=by
  obtain ⟨p,h1,h2⟩:=hr
  simp only [retQ,retL,h1]
  exact ⟨h2,h⟩
theorem q_cell_tmp {a t:Nat} {ty:TypeId} {d e:D} (hr:∃ p,resD P st (.cell a ty)=some (p,d)∧p) (he:st.env t=e) (h:K (.tup [d,e]) st):retQ P [.cell a ty,.tmp t] K .ret st:=by
  obtain ⟨p,h1,h2⟩:=hr
  simp only [retQ,retL,h1]
  exact ⟨h2,trivial,by subst he;exact h⟩
end
end Go.Abs
