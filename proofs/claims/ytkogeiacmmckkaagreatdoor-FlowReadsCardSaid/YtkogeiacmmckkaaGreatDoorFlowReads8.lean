/- Part 8 of the proof; the last part says what is proved. -/
import Derived.Test.YtkogeiacmmckkaaGreatDoorFlowReads7
set_option linter.all false
namespace Go.Abs
section
variable {P:Program} {Y:YSpec} {rf:Bool} {Q:Exit→St→Prop} {st:St}
theorem ghost_of {l:List (Nat×D)} {env:Env} {m:Mem} {nx:Nat} (h:EnvHas l env):Ghost P ⟨env,m,nx⟩ ⟨envL l,m,nx⟩:=.forget env _ m nx (envL_of h)
def FrOk (P:Program):List (Nat×List D×TypeId)→Mem→Prop
  | [],_=>True
  | (i,cs,e)::fs,m=>m i=some (.cells cs e)∧FrOk P fs (fun j=>if j=i then none else (m j).map (Row.sub (fz0 i cs (P.cellsOf e))))
def frE (P:Program):List (Nat×List D×TypeId)→D→D
  | [],d=>d
  | (i,cs,e)::fs,d=>frE P fs (sub (fz0 i cs (P.cellsOf e)) d)
theorem ghost_frs:∀ {fs:List (Nat×List D×TypeId)} {env:Env} {m:Mem} {nx:Nat},FrOk P fs m→∃ m',Ghost P ⟨env,m,nx⟩ ⟨fun t=>frE P fs (env t),m',nx⟩
  | [],env,m,nx,_=>⟨m,.refl _⟩
  | (i,cs,e)::fs,env,m,nx,⟨h1,h2⟩=>by
    obtain ⟨m',h⟩:=ghost_frs (env:=fun t=>sub (fz0 i cs (P.cellsOf e)) (env t)) (nx:=nx) h2
    exact ⟨m',(Ghost.freeze env m nx i cs e h1).trans h⟩
theorem ghost_fr {env:Env} {m:Mem} {nx:Nat} (fs:List (Nat×List D×TypeId)) (hf:FrOk P fs m) {l:List (Nat×D)} (hl:EnvHas l fun t=>frE P fs (env t)):Ghost P ⟨env,m,nx⟩ ⟨envL l,fun _=>none,nx⟩:=by
  obtain ⟨m',h⟩:=ghost_frs (env:=env) (nx:=nx) hf
  exact h.trans ((Ghost.forget _ _ _ _ (envL_of hl)).trans (Ghost.drop _ _ _ _ fun _=>.inr rfl))
def bodyQ (id2 id:Nat) (next:St→Prop) (Q:Exit→St→Prop):Exit→St→Prop
  | .normal,s=>next s
  | .exit i,s=>if i=id2 then next s else if i=id then Q .normal s else Q (.exit i) s
  | e,s=>Q e s
def NextS (P:Program) {α:Type} (S:α→St) (J:α→Prop) (μ:α→Nat) (x:α) (s:St):Prop:=∃ x',Ghost P s (S x')∧J x'∧μ x'<μ x
theorem next_of {α:Type} {S:α→St} {J:α→Prop} {μ:α→Nat} {x:α} {s:St} (x':α) (hg:Ghost P s (S x')) (hJ:J x') (hμ:μ x'<μ x):NextS P S J μ x s:=⟨x',hg,hJ,hμ⟩
theorem w_loopS [YMono Y] {b:Code} {α:Type} (S:α→St) (J:α→Prop) (μ:α→Nat) (x₀:α) (hg:Ghost P st (S x₀)) (hJ:J x₀) (h:∀ x,J x→AW P Y rf b (seqQ (NextS P S J μ x) Q) (S x)) {a:Code} (ha:∀ st,Q .normal st→Q .normal st):
    ∃ st',Ghost P st st'∧AW P Y rf (.loop b) Q st':=
  ⟨S x₀,hg,w_loopJ S J μ x₀ rfl hJ fun x hx=>AW_mono b (fun e st' hq=>by
   cases e with
   | normal=>
     obtain ⟨x',h1,h2,h3⟩:=hq
     exact ⟨S x',x',h1,rfl,h2,h3⟩
   | _=>exact hq) (h x hx)⟩
variable {id id2 t i1 i2 i3 i4:Nat} {rc ri:Array Oper} {body rest:Code} {α:Type}
theorem body_of [YMono Y] {ri:Array Oper} {next:St→Prop} {s:St} (h:AW P Y rf body (bodyQ id2 id (fun s=>AOps P Y ri false [] (endQ next) ri.toList s []) Q) s):
    AW P Y rf (.seq (.block id2 body) (.region i3 ri false)) (seqQ next (blockQ id Q)) s:=by
  refine AW_mono body (fun e s h=>?_) h
  have hr:∀ s,AOps P Y ri false [] (endQ next) ri.toList s []→∃ s',Ghost P s s'∧AW P Y rf (.region i3 ri false) (seqQ next (blockQ id Q)) s':=fun s h=>⟨s,.refl s,w_region (rf:=rf) (id:=i3) (AOps.endq h fun _ h=>h)⟩
  cases e with
  | normal=>exact hr s h
  | exit i=>
    simp only [bodyQ] at h
    simp only [blockQ]
    split at h
    · rename_i hi;rw [if_pos hi];exact hr s h
    · rename_i hi;rw [if_neg hi];simp only [seqQ,blockQ];exact h
  | _=>exact h
theorem w_range [YMono Y] (S:α→St) (J:α→Prop) (μ:α→Nat) (x₀:α) (hg:Ghost P st (S x₀)) (hJ:J x₀)
    (h:∀ x,J x→AOps P Y rc false [] (endQ fun s=>∃ g,opd s.env (.tmp t)=.s (.bool g)∧(g=true→AW P Y rf body (bodyQ id2 id (fun s=>AOps P Y ri false [] (endQ (NextS P S J μ x)) ri.toList s []) Q) s)∧(g=false→Q .normal s)) rc.toList (S x) []):
    ∃ st',Ghost P st st'∧AW P Y rf (.block id (.loop (.seq (.region i1 rc false) (.seq (.cond (.tmp t) .skip (.exit id)) (.seq (.block id2 body) (.region i3 ri false)))))) Q st':=by
  refine w_loopS (Q:=blockQ id Q) S J μ x₀ hg hJ (fun x hx=>?_) (a:=.skip) fun _ h=>h
  refine w_region (rf:=rf) (id:=i1) (AOps.endq (h x hx) fun s hs=>?_)
  obtain ⟨g,h1,h2,h3⟩:=hs
  refine ⟨s,.refl s,w_seq_if h1 (fun hgt=>?_) fun hgf=>?_⟩
  · exact w_seq_skip (body_of (h2 hgt))
  · refine w_seq_exit ?_
    simp only [seqQ,blockQ,if_true]
    exact h3 hgf
theorem w_for [YMono Y] (S:α→St) (J:α→Prop) (μ:α→Nat) (x₀:α) (hg:Ghost P st (S x₀)) (hJ:J x₀)
    (h:∀ x,J x→AOps P Y rc false [] (endQ fun s=>∃ g,opd s.env (.tmp t)=.s (.bool g)∧(g=true→AW P Y rf body (bodyQ id2 id (fun s=>AOps P Y ri false [] (endQ (NextS P S J μ x)) ri.toList s []) Q) s)∧(g=false→Q .normal s)) rc.toList (S x) []):
    ∃ st',Ghost P st st'∧AW P Y rf (.block id (.loop (.seq (.seq (.region i1 rc false) (.cond (.tmp t) .skip (.exit id))) (.seq (.block id2 body) (.region i3 ri false))))) Q st':=by
  refine w_loopS (Q:=blockQ id Q) S J μ x₀ hg hJ (fun x hx=>?_) (a:=.skip) fun _ h=>h
  refine w_assoc (w_region (rf:=rf) (id:=i1) (AOps.endq (h x hx) fun s hs=>?_))
  obtain ⟨g,h1,h2,h3⟩:=hs
  refine ⟨s,.refl s,w_seq_if h1 (fun hgt=>?_) fun hgf=>?_⟩
  · exact w_seq_skip (body_of (h2 hgt))
  · refine w_seq_exit ?_
    simp only [seqQ,blockQ,if_true]
    exact h3 hgf
theorem block_of [YMono Y] {next:St→Prop} {s:St} (h:AW P Y rf body (bodyQ id2 id next Q) s):AW P Y rf (.block id2 body) (seqQ next (blockQ id Q)) s:=by
  refine AW_mono body (fun e s h=>?_) h
  cases e with
  | exit i=>
    simp only [bodyQ] at h
    simp only [blockQ]
    split at h
    · rename_i hi;rw [if_pos hi];exact h
    · rename_i hi;rw [if_neg hi];simp only [seqQ,blockQ];exact h
  | _=>exact h
theorem w_while [YMono Y] (S:α→St) (J:α→Prop) (μ:α→Nat) (x₀:α) (hg:Ghost P st (S x₀)) (hJ:J x₀)
    (h:∀ x,J x→AOps P Y rc false [] (endQ fun s=>∃ g,opd s.env (.tmp t)=.s (.bool g)∧(g=true→AW P Y rf body (bodyQ id2 id (NextS P S J μ x) Q) s)∧(g=false→Q .normal s)) rc.toList (S x) []):
    ∃ st',Ghost P st st'∧AW P Y rf (.block id (.loop (.seq (.seq (.region i1 rc false) (.cond (.tmp t) .skip (.exit id))) (.block id2 body)))) Q st':=by
  refine w_loopS (Q:=blockQ id Q) S J μ x₀ hg hJ (fun x hx=>?_) (a:=.skip) fun _ h=>h
  refine w_assoc (w_region (rf:=rf) (id:=i1) (AOps.endq (h x hx) fun s hs=>?_))
  obtain ⟨g,h1,h2,h3⟩:=hs
  refine ⟨s,.refl s,w_seq_if h1 (fun hgt=>?_) fun hgf=>?_⟩
  · exact w_seq_skip (block_of (h2 hgt))
  · refine w_seq_exit ?_
    simp only [seqQ,blockQ,if_true]
    exact h3 hgf
theorem w_end {s:St} (h:Q .normal s):AW P Y rf .skip Q s:=h
theorem w_ret {s:St} (h:Q .ret s):AW P Y rf .ret Q s:=h
theorem w_exit {s:St} {i:Nat} (h:Q (.exit i) s):AW P Y rf (.exit i) Q s:=h
theorem j_body {next:St→Prop} {s:St} (h:Q .ret s):bodyQ id2 id next Q .ret s:=h
theorem j_seq {K:St→Prop} {s:St} (h:Q .ret s):seqQ K Q .ret s:=h
theorem j_block {s:St} (h:Q .ret s):blockQ id Q .ret s:=h
theorem j_scope {s:St} (h:Q .ret s):scopeQ Q .ret s:=h
theorem j_next {next:St→Prop} {s:St} (h:next s):bodyQ id2 id next Q (.exit id2) s:=by simp only [bodyQ,if_true];exact h
theorem j_break {next:St→Prop} {s:St} (hne:id≠id2) (h:Q .normal s):bodyQ id2 id next Q (.exit id) s:=by simp only [bodyQ,if_neg hne,if_true];exact h
theorem j_out {i:Nat} {next:St→Prop} {s:St} (h2:i≠id2) (h1:i≠id) (h:Q (.exit i) s):bodyQ id2 id next Q (.exit i) s:=by simp only [bodyQ,if_neg h2,if_neg h1];exact h
theorem j_seqx {K:St→Prop} {i:Nat} {s:St} (h:Q (.exit i) s):seqQ K Q (.exit i) s:=h
theorem w_seq_blk [YMono Y] {a:Code} (h:AW P Y rf a (blockQ id (seqQ (fun st=>AW P Y rf rest Q st) Q)) st):AW P Y rf (.seq (.block id a) rest) Q st:=w_cut (fun st=>AW P Y rf rest Q st) (w_block h) fun _ h=>h
theorem w_endB {s:St} (h:AW P Y rf rest Q s):AW P Y rf .skip (blockQ id (seqQ (fun st=>AW P Y rf rest Q st) Q)) s:=h
theorem w_regB [YMono Y] {r:Array Oper} {i:Nat} {s:St} (h:AOps P Y r false [] (endQ fun st=>AW P Y rf rest Q st) r.toList s []):AW P Y rf (.region i r false) (blockQ id (seqQ (fun st=>AW P Y rf rest Q st) Q)) s:=w_region (rf:=rf) (id:=i) (AOps.endq h fun _ h=>h)
theorem w_seqN [YMono Y] {a:Code} (h:AW P Y rf a (seqQ (fun st=>AW P Y rf rest Q st) Q) st):AW P Y rf (.seq a rest) Q st:=w_cut _ h fun _ h=>h
theorem w_regJ [YMono Y] {r:Array Oper} {i:Nat} {J:St→Prop} (h:AOps P Y r false [] (endQ J) r.toList st []):AW P Y rf (.region i r false) (seqQ J Q) st:=w_region (rf:=rf) (id:=i) (AOps.endq h fun _ h=>h)
theorem w_regBJ [YMono Y] {r:Array Oper} {i:Nat} {J:St→Prop} (h:AOps P Y r false [] (endQ J) r.toList st []):AW P Y rf (.region i r false) (blockQ id (seqQ J Q)) st:=w_region (rf:=rf) (id:=i) (AOps.endq h fun _ h=>h)
theorem w_skipJ {J:St→Prop} (h:J st):AW P Y rf .skip (seqQ J Q) st:=h
theorem w_skipBJ {J:St→Prop} (h:J st):AW P Y rf .skip (blockQ id (seqQ J Q)) st:=h
theorem w_then [YMono Y] {a:Code} (R:St→Prop) (h:∃ st',Ghost P st st'∧AW P Y rf a (seqQ R Q) st') (k:∀ s,R s→∃ s',Ghost P s s'∧AW P Y rf rest Q s'):∃ st',Ghost P st st'∧AW P Y rf (.seq a rest) Q st':=by
  obtain ⟨st',hg,h⟩:=h
  exact ⟨st',hg,w_cut_g R h k⟩
end
def Real (d:D):Prop:=∃ F β w v,R F β w d v
theorem Real.sl {es:List D} {n:Nat} (h:Real (.sl es n)):n≤maxLen∧∀ d∈es,Real d:=by
  obtain ⟨F,β,w,v,h⟩:=h
  cases h with
  | sln=>simp [maxLen]
  | sl _ _ b o cap us hf hb hlt hcap hmax hc hh=>
    refine ⟨Nat.le_trans hcap hmax,fun d hd=>?_⟩
    obtain ⟨k,hk⟩:=List.getElem?_of_mem hd
    exact ⟨F,β,w,_,hh k d hk⟩
theorem Real.agg {cs:List D} (h:Real (.agg cs)):∀ d∈cs,Real d:=by
  obtain ⟨F,β,w,v,h⟩:=h
  obtain ⟨vs,rfl,hl,hh⟩:=h.agg_inv
  intro d hd
  obtain ⟨k,hk⟩:=List.getElem?_of_mem hd
  have:k<vs.length:=by rw [hl];exact (List.getElem?_eq_some_iff.1 hk).1
  exact ⟨F,β,w,_,hh k d vs[k] hk (by simp [this])⟩
theorem Real.pt {cs:List D} (h:Real (.pt cs)):∀ d∈cs,Real d:=by
  obtain ⟨F,β,w,v,h⟩:=h
  cases h with
  | pt _ b o us hf hb hlt hc hh=>
    intro d hd
    obtain ⟨k,hk⟩:=List.getElem?_of_mem hd
    exact ⟨F,β,w,_,hh k d hk⟩
theorem Real.fn {f:Fn} {fs cs:List D} (h:Real (.fn f fs cs)):(∀ d∈fs,Real d)∧∀ d∈cs,Real d:=by
  obtain ⟨F,β,w,v,h⟩:=h
  cases h with
  | fn _ _ _ us vs hl hl' h1 h2=>
    refine ⟨fun d hd=>?_,fun d hd=>?_⟩
    · obtain ⟨k,hk⟩:=List.getElem?_of_mem hd
      have:k<us.length:=by rw [hl];exact (List.getElem?_eq_some_iff.1 hk).1
      exact ⟨F,β,w,_,h1 k d us[k] hk (by simp [this])⟩
    · obtain ⟨k,hk⟩:=List.getElem?_of_mem hd
      have:k<vs.length:=by rw [hl'];exact (List.getElem?_eq_some_iff.1 hk).1
      exact ⟨F,β,w,_,h2 k d vs[k] hk (by simp [this])⟩
theorem rs_real {F:Nat→Prop} {β:Pla} {w:World} {args:List D} {vs:Array Value} (h:Rs F β w args vs):∀ a∈args,Real a:=fun a ha=>by
  obtain ⟨k,hk⟩:=List.getElem?_of_mem ha
  have:k<vs.size:=by rw [h.1];exact (List.getElem?_eq_some_iff.1 hk).1
  exact ⟨F,β,w,vs[k],h.2 k a _ hk (by simp [this])⟩
theorem pcall_real {P:Program} {f:FuncId} {args:List D} {r:D} (he:enterOk P f=true) (ht:∀ a∈args,Tr a) (h:(∀ a∈args,Real a)→PCall P f args r):PCall P f args r:=
  ⟨he,ht,fun F w vs hF hR=>(h (rs_real hR)).2.2 F w vs hF hR⟩
theorem ocall_real {P:Program} {f:FuncId} {args es:List D} {n:Nat} {t:TypeId} (he:enterOk P f=true) (ht:∀ a∈args,Tr a) (h:(∀ a∈args,Real a)→OCall P f args es n t):OCall P f args es n t:=
  ⟨he,ht,fun F w vs hF hR=>(h (rs_real hR)).2.2 F w vs hF hR⟩
theorem acalls_real {P:Program} {f:FuncId} {args:List D} {m:Mem} {nx:Nat} {Post:D→Mem→Nat→Prop} (he:enterOk P f=true) (h:(∀ a∈args,Real a)→ACalls P f args m nx Post):ACalls P f args m nx Post:=
  ⟨he,fun F β w vs hm hn hR=>(h (rs_real hR)).2 F β w vs hm hn hR⟩
section
variable {P:Program} {m:Mem} {rds:List Nat}
theorem sn_tr {a:D} (h:Tr a):Sn P rds m a a:=fun _ _ _ _ _ hv=>h.clean hv
theorem sn_rs {i off n:Nat} {cs es:List D} {e:TypeId} (hm:m i=some (.cells cs e)) (hi:i∈rds) (hes:(cs.drop off).take (n*P.cellsOf e)=es) (ht:∀ a∈es,Tr a):Sn P rds m (.rs i off n) (.sl es n):=fun F β w v hl hv=>by
  subst hes
  obtain ⟨p,hp,hr,hnf⟩:=hl i hi _ hm
  cases hv with
  | rsd _ _ _ _ h1 _=>rw [h1] at hp;cases hp;cases hr
  | rsn _ a h1=>
    rw [h1] at hp
    cases hp
    cases hr
    simp only [List.drop_nil,List.take_nil]
    exact .sln a 0
  | rsz _ _ a b o len room sz h1=>
    simp only [Nat.zero_mul,List.take_zero]
    exact .sln a 0
  | rs _ _ _ cap b o len room sz h1 hn hmax h2 h3=>
    rw [h1] at hp
    cases hp
    have hlt:b<w.heap.size:=by
      cases hr with
      | cells _ _ _ _ _ _ c hb _ _ _ _=>exact (Array.getElem?_eq_some_iff.1 hb).1
    obtain ⟨hrd,hl,hsz,_⟩:=hr.rd
    obtain ⟨us,u1,u2⟩:=(hrd.drop off).take (n*P.cellsOf e)
    exact .sl _ n b (o+off) cap us (hnf b rfl) (fun k q hq=>by cases hq) hlt hn hmax u1 fun k d hk=>(ht d (List.mem_of_getElem? hk)).clean (u2 k d hk)
theorem sn_rp {i off:Nat} {cs es:List D} {e:TypeId} (hm:m i=some (.cells cs e)) (hi:i∈rds) (hes:cs.drop off=es) (ht:∀ a∈es,Tr a):Sn P rds m (.rp i off) (.pt es):=fun F β w v hl hv=>by
  subst hes
  obtain ⟨p,hp,hr,hnf⟩:=hl i hi _ hm
  cases hv with
  | rpd _ _ _ h1 _=>rw [h1] at hp;cases hp;cases hr
  | rp _ _ b o len room sz h1=>
    rw [h1] at hp
    cases hp
    have hlt:b<w.heap.size:=by
      cases hr with
      | cells _ _ _ _ _ _ c hb _ _ _ _=>exact (Array.getElem?_eq_some_iff.1 hb).1
    obtain ⟨hrd,hl,hsz,_⟩:=hr.rd
    obtain ⟨us,u1,u2⟩:=hrd.drop off
    exact .pt _ b (o+off) us (hnf b rfl) (fun k q hq=>by cases hq) hlt u1 fun k d hk=>(ht d (List.mem_of_getElem? hk)).clean (u2 k d hk)
variable {Y:YSpec} {rf:Bool} {ops:Array Oper} {dr:Bool} {cf:List (Nat×Nat)} {Q:Exit→St→Prop} {rest:List Oper} {env:Env} {nx:Nat} {tr:Tra} {t:Nat} {op:Op} {ty:TypeId} {pos:String} {after:Array Edge}
  {pre:Prop} {v:D} {rd:List Nat}
theorem ao_gta {j:Nat} {b:Bool} {u:Nat} {row:Row} (hj:(ops[j]?).bind (·.dst)=some u) (hg:guardC (env u) b=some true) (he:Ef P op env m nx ⟨pre,v,[(nx,some row)],rd,1⟩) (ha:AskL env op.operands.toList) (hp:pre)
    (K:AOps P Y ops dr cf Q rest ⟨up env t v,up m nx (some row),nx+1⟩ (tr++[(rd,[nx])])):AOps P Y ops dr cf Q (⟨some t,op,ty,pos,after,some (j,b)⟩::rest) ⟨env,m,nx⟩ tr:=
  ao_gt hj hg he ha hp (fun h=>by cases h) K
theorem ao_gsc {j:Nat} {b:Bool} {u:Nat} {f:FuncId} {args args':List D} {r:D} {rds:List Nat} (h:PCall P f args' r) (hs:r.scal=true) (hj:(ops[j]?).bind (·.dst)=some u) (hg:guardC (env u) b=some true) (hc:callD (rho env op) op=some (f,args)) (hsn:Sns P rds m args args') (ha:AskL env op.operands.toList)
    (K:AOps P Y ops dr cf Q rest ⟨up env t r,m,nx⟩ (tr++[(rds,[])])):AOps P Y ops dr cf Q (⟨some t,op,ty,pos,after,some (j,b)⟩::rest) ⟨env,m,nx⟩ tr:=
  ao_gcall hj hg hc ha (.inr (.inl ⟨args',rds,r,hsn,h,hs,K⟩))
end
section
variable {P:Program} {Y:YSpec} {rf:Bool} {ops:Array Oper} {dr:Bool} {cf:List (Nat×Nat)} {Q:Exit→St→Prop} {rest:List Oper} {env:Env} {m:Mem} {nx:Nat} {tr:Tra} {t:Nat} {ty:TypeId} {pos:String} {after:Array Edge}
theorem ao_gpickT {j:Nat} {b0 c0:Bool} {u:Nat} (hj:(ops[j]?).bind (·.dst)=some u) (hg:guardC (env u) b0=some c0) {c a b:Operand} {x:Bool} (hc:(opd env c).core=.s (.bool true)) (ha:(opd env a).core=.s (.bool x))
    (h0:c0=true→(opd env c).ask) (h1:c0=true→(opd env a).ask) (K:AOps P Y ops dr cf Q rest ⟨up env t (.opt c0 (.s (.bool x))),m,nx⟩ (tr++[([],[])])):
    AOps P Y ops dr cf Q (⟨some t,.pick c a b,ty,pos,after,some (j,b0)⟩::rest) ⟨env,m,nx⟩ tr:=by
  have he:=pick_ef (P:=P) (env:=env) (m:=m) (nx:=nx) (a:=a) (b:=b) hc
  simp only [ha,D.bool?,Option.getD_some,if_true] at he
  simp only [AOps]
  refine .inl ?_
  simp only [AOp]
  rw [hj]
  simp only [Option.bind_some]
  rw [hg,he.nc,he.ny,he.ok]
  exact ⟨fun hc=>⟨by simp only [asks];exact h0 hc,fun _=>⟨h1 hc,rfl⟩,fun h=>by cases h⟩,K⟩
theorem ao_gpickF {j:Nat} {b0 c0:Bool} {u:Nat} (hj:(ops[j]?).bind (·.dst)=some u) (hg:guardC (env u) b0=some c0) {c a b:Operand} {y:Bool} (hc:(opd env c).core=.s (.bool false)) (hb:(opd env b).core=.s (.bool y))
    (h0:c0=true→(opd env c).ask) (h1:c0=true→(opd env b).ask) (K:AOps P Y ops dr cf Q rest ⟨up env t (.opt c0 (.s (.bool y))),m,nx⟩ (tr++[([],[])])):
    AOps P Y ops dr cf Q (⟨some t,.pick c a b,ty,pos,after,some (j,b0)⟩::rest) ⟨env,m,nx⟩ tr:=by
  have he:=pick_ef (P:=P) (env:=env) (m:=m) (nx:=nx) (a:=a) (b:=b) hc
  simp only [hb,D.bool?,Option.getD_some,Bool.false_eq_true,if_false] at he
  simp only [AOps]
  refine .inl ?_
  simp only [AOp]
  rw [hj]
  simp only [Option.bind_some]
  rw [hg,he.nc,he.ny,he.ok]
  exact ⟨fun hc=>⟨by simp only [asks];exact h0 hc,fun h=>(by cases h),fun _=>⟨h1 hc,rfl⟩⟩,K⟩
variable {id:Nat} {st:St}
theorem w_regBJd [YMono Y] {i:Nat} {J:St→Prop} (hi:drawInfo ops=some cf) (h:AOps P Y ops true cf (endQ J) ops.toList st []):AW P Y rf (.region i ops true) (blockQ id (seqQ J Q)) st:=w_draw (rf:=rf) (id:=i) hi (AOps.endq h fun _ h=>h)
theorem w_regJd [YMono Y] {i:Nat} {J:St→Prop} (hi:drawInfo ops=some cf) (h:AOps P Y ops true cf (endQ J) ops.toList st []):AW P Y rf (.region i ops true) (seqQ J Q) st:=w_draw (rf:=rf) (id:=i) hi (AOps.endq h fun _ h=>h)
theorem mem_keep {r:Option Row} {i:Nat} (h:m i=r):∀ j,up (fun _=>none) i r j=m j∨up (fun _=>none) i r j=none:=fun j=>by
  by_cases hj:j=i
  · subst hj;left;rw [up_same,h]
  · right;rw [up_ne _ _ hj]
theorem w_drawB [YMono Y] {i id2:Nat} {next:St→Prop} (hi:drawInfo ops=some cf) (h:AOps P Y ops true cf (endQ next) ops.toList st []):AW P Y rf (.region i ops true) (bodyQ id2 id next Q) st:=w_draw (rf:=rf) (id:=i) hi (AOps.endq h fun _ h=>h)
theorem w_regB2 [YMono Y] {i id2:Nat} {next:St→Prop} (h:AOps P Y ops false [] (endQ next) ops.toList st []):AW P Y rf (.region i ops false) (bodyQ id2 id next Q) st:=w_region (rf:=rf) (id:=i) (AOps.endq h fun _ h=>h)
def memL:List (Nat×Row)→Mem
  | [],_=>none
  | (i,r)::l,j=>if j=i then some r else memL l j
def MemHas:List (Nat×Row)→Mem→Prop
  | [],_=>True
  | (i,r)::l,m=>m i=some r∧MemHas l m
theorem memL_of:∀ {l:List (Nat×Row)} {m:Mem},MemHas l m→∀ i,memL l i=m i∨memL l i=none
  | [],_,_,_=>.inr rfl
  | (k,r)::l,m,h,i=>by
    simp only [memL]
    by_cases hi:i=k
    · subst hi;rw [if_pos rfl];exact .inl h.1.symm
    · rw [if_neg hi];exact memL_of h.2 i
theorem ghost_st {l:List (Nat×D)} {ml:List (Nat×Row)} {m:Mem} {nx:Nat} (h:EnvHas l env) (hm:MemHas ml m):Ghost P ⟨env,m,nx⟩ ⟨envL l,memL ml,nx⟩:=(Ghost.forget env _ m nx (envL_of h)).trans (.drop _ _ _ _ (memL_of hm))
end
theorem mskip {α:Type} {f:Nat→α} {k j:Nat} {v r:α} (h:j≠k) (hf:f j=r):up f k v j=r:=(up_ne f v h).trans hf
theorem fz_rp {i off sz:Nat} {cs:List D}:sub (fz0 i cs sz) (.rp i off)=.pt (cs.drop off):=by simp [sub,sub1,fz0]
theorem fz_rs {i off n sz:Nat} {cs:List D}:sub (fz0 i cs sz) (.rs i off n)=.sl ((cs.drop off).take (n*sz)) n:=by simp [sub,sub1,fz0]
theorem fz_rp_ne {i j off sz:Nat} {cs:List D} (h:j≠i):sub (fz0 i cs sz) (.rp j off)=.rp j off:=by simp [sub,sub1,fz0,h]
theorem fz_rs_ne {i j off n sz:Nat} {cs:List D} (h:j≠i):sub (fz0 i cs sz) (.rs j off n)=.rs j off n:=by simp [sub,sub1,fz0,h]
theorem flat_take {α:Type} {f:α→List D} {sz:Nat} (hs:∀ x,(f x).length=sz):∀ (l:List α) (k:Nat),(l.flatMap f).take (k*sz)=(l.take k).flatMap f
  | [],k=>by simp
  | x::l,0=>by simp
  | x::l,k+1=>by
    rw [List.flatMap_cons,List.take_succ_cons,List.flatMap_cons, ← flat_take hs l k,show (k+1)*sz=(f x).length+k*sz by rw [hs x,Nat.add_mul];omega,List.take_length_add_append]
theorem sl_take {α:Type} {f:α→List D} {sz k:Nat} {l:List α} (hs:∀ x,(f x).length=sz) (hk:k≤l.length):
    D.sl (((l.flatMap f).drop ((0:Int).toNat*sz)).take (((k:Int) - 0).toNat*sz)) ((k:Int) - 0).toNat=D.sl ((l.take k).flatMap f) (l.take k).length:=by
  have h1:((k:Int) - 0).toNat=k:=by omega
  have h2:(0:Int).toNat*sz=0:=by simp
  rw [h1,h2,List.drop_zero,flat_take hs,List.length_take,Nat.min_eq_left hk]
section
variable {P:Program} {env:Env} {m:Mem} {nx:Nat} {x y z:Operand} {t:TypeId} {v:D}
theorem e_insert {i:Nat} {es:List (Value×D)} {key:Value} {kt:TypeId} (hx:(opd env x).core=.mp i) (hm:m i=some (.map es)) (hk:keyV (opd env y).core=some key) (hz:(opd env z).core=v) (ht:mkeyP P t=kt):
    Ef P (.insert t x y z) env m nx ⟨mapT P t=true∧keyP P kt key=true∧es.all (fun e=>keyP P kt e.1)=true,.tup [],[(i,some (.map (putD key v es)))],[i],0⟩:=by
  refine ⟨?_,rfl,rfl⟩
  show mapPutD P m t (opd env x).core (opd env y).core (opd env z).core=_
  simp only [mapPutD,hk,hx,hm,ht,hz]
variable {n n':Int} {k:IntKind} {c:Bool} {p:TypeId} {n0:Nat}
theorem e_gtrK (hx:(opd env x).core=.s (.int k n)) (hy:(opd env y).core=.s (.int k n')) (hd:decide (n'<n)=c):Ef P (.binOp .gtr t x y p) env m nx ⟨k=k,.s (.bool c),[],[],0⟩:=by subst hd;exact e_gtr hx hy
theorem e_lssK (hx:(opd env x).core=.s (.int k n)) (hy:(opd env y).core=.s (.int k n')) (hd:decide (n<n')=c):Ef P (.binOp .lss t x y p) env m nx ⟨k=k,.s (.bool c),[],[],0⟩:=by subst hd;exact e_lss hx hy
theorem e_leqK (hx:(opd env x).core=.s (.int k n)) (hy:(opd env y).core=.s (.int k n')) (hd:decide (n≤n')=c):Ef P (.binOp .leq t x y p) env m nx ⟨k=k,.s (.bool c),[],[],0⟩:=by subst hd;exact e_leq hx hy
theorem e_eqlK (hx:(opd env x).core=.s (.int k n)) (hy:(opd env y).core=.s (.int k n')) (hd:(n==n')=c):Ef P (.binOp .eql t x y p) env m nx ⟨k=k,.s (.bool c),[],[],0⟩:=by subst hd;exact e_eql hx hy
theorem e_neqK (hx:(opd env x).core=.s (.int k n)) (hy:(opd env y).core=.s (.int k n')) (hd:(n !=n')=c):Ef P (.binOp .neq t x y p) env m nx ⟨k=k,.s (.bool c),[],[],0⟩:=by subst hd;exact e_neq hx hy
theorem e_quoK (hx:(opd env x).core=.s (.int k n)) (hy:(opd env y).core=.s (.int k n')) {r:Int} (hd:k.wrap (n.tdiv n')=r):Ef P (.binOp .quo t x y p) env m nx ⟨k=k∧n'≠0,.s (.int k r),[],[],0⟩:=by subst hd;exact e_quow hx hy
theorem e_remK (hx:(opd env x).core=.s (.int k n)) (hy:(opd env y).core=.s (.int k n')) {r:Int} (hd:n.tmod n'=r):Ef P (.binOp .rem t x y p) env m nx ⟨k=k∧n'≠0,.s (.int k r),[],[],0⟩:=by subst hd;exact e_rem hx hy
theorem e_geqK (hx:(opd env x).core=.s (.int k n)) (hy:(opd env y).core=.s (.int k n')) (hd:decide (n'≤n)=c):Ef P (.binOp .geq t x y p) env m nx ⟨k=k,.s (.bool c),[],[],0⟩:=by subst hd;exact e_geq hx hy
theorem e_idxPi {j i l:Nat} {e:TypeId} {r:Row} (hx:(opd env x).core=.rp j 0) (hy:(opd env y).core=.s (.int k (i:Int))) (hm:m j=some r) (he:elemP P t=e) (hs:P.cellsOf e=1) (hl:lenP P t=l):
    Ef P (.indexAddr t x y) env m nx ⟨arT P t=true∧i<l,.rp j i,[],[j],0⟩:=by
  have h:=e_idxP (P:=P) (env:=env) (m:=m) (nx:=nx) (t:=t) hx hy hm he hs hl
  have h1:0+((i:Int)).toNat*1=i:=by simp
  have h2:(arT P t=true∧(0:Int)≤(i:Int)∧(i:Int)<l)=(arT P t=true∧i<l):=by
    apply propext;constructor
    · rintro ⟨a,_,b⟩;exact ⟨a,by omega⟩
    · rintro ⟨a,b⟩;exact ⟨a,by omega,by omega⟩
  rw [h1,h2] at h
  exact h
theorem takeW {l:List D} {n:Nat} (h:l.length=n):(l.drop 0).take n=l:=by rw [List.drop_zero,List.take_of_length_le (by omega)]
theorem takeW2 {l:List D} {n:Nat} (h:l.length=n):l.take n=l:=List.take_of_length_le (by omega)
theorem spliceW {z l:List D} (hz:z.length=20) (hl:l.length=20):splice z 0 l=l:=by
  unfold splice
  split
  · simp at hl
  · rw [List.take_zero,List.nil_append,List.drop_eq_nil_of_le (by omega),List.append_nil]
theorem e_nilU {es:List D} (hx:(opd env x).core=.sl es 0):Ef P (.binOp .eql t x (.const (.slice none 0 0)) p) env m nx ⟨slT P t=true,.ub,[],[],0⟩:=⟨by simp only [aop,rho,hx,nilD,if_true],rfl,rfl⟩
theorem e_nilF {es:List D} {l:Nat} (hx:(opd env x).core=.sl es l) (hl:l≠0):Ef P (.binOp .eql t x (.const (.slice none 0 0)) p) env m nx ⟨slT P t=true,.s (.bool false),[],[],0⟩:=⟨by simp only [aop,rho,hx,nilD,if_neg hl],rfl,rfl⟩
theorem fr_rs {i off n sz:Nat} {cs es:List D} {e:TypeId} (hs:P.cellsOf e=sz) (h:(cs.drop off).take (n*sz)=es):frE P [(i,cs,e)] (.rs i off n)=.sl es n:=by subst hs h;exact fz_rs
theorem ghost_nil (h:env n0=.z):Ghost P ⟨env,m,nx⟩ ⟨envL [(n0,.sl [] 0)],fun _=>none,nx+1⟩:=by
  have h1:=Ghost.nilrow (P:=P) env m nx n0 0 h
  have h2:=ghost_fr (P:=P) (env:=up env n0 (.rs nx 0 0)) (m:=up m nx (some (.cells [] 0))) (nx:=nx+1) [(nx,[],0)] ⟨up_same _ _ _,trivial⟩ (l:=[(n0,.sl [] 0)]) ⟨(congrArg _ (up_same _ _ _)).trans (fr_rs (sz:=P.cellsOf 0) rfl (by simp)),trivial⟩
  exact h1.trans h2
theorem sn_z {rds:List Nat}:Sn P rds m .z (.sl [] 0):=fun F β w v _ hv=>by
  obtain ⟨x,rfl⟩:=hv.z_inv
  exact .sln x 0
theorem sn_agg {rds:List Nat} {as bs:List D} (h:Sns P rds m as bs):Sn P rds m (.agg as) (.agg bs):=fun F β w v hl hv=>by
  obtain ⟨vs,rfl,hn,hh⟩:=hv.agg_inv
  obtain ⟨h1,h2⟩:=sns_R hl h
  refine .agg _ vs (by omega) fun k d u hd hu=>?_
  have hk:k<as.length:=by rw [h1];exact (List.getElem?_eq_some_iff.1 hd).1
  exact h2 k as[k] d (by simp [hk]) hd u (hh k as[k] u (by simp [hk]) hu)
theorem ghost_to {l:List (Nat×D)} {m':Mem} (h:EnvHas l env) (hm:∀ i,m' i=m i∨m' i=none):Ghost P ⟨env,m,nx⟩ ⟨envL l,m',nx⟩:=(Ghost.forget env _ m nx (envL_of h)).trans (.drop _ _ _ _ hm)
def FmOk:List (Nat×List (Value×D))→Mem→Prop
  | [],_=>True
  | (i,es)::fs,m=>m i=some (.map es)∧FmOk fs (fun j=>if j=i then none else (m j).map (Row.sub (fm0 i es)))
def fmE:List (Nat×List (Value×D))→D→D
  | [],d=>d
  | (i,es)::fs,d=>fmE fs (sub (fm0 i es) d)
theorem ghost_fms:∀ {fs:List (Nat×List (Value×D))} {env:Env} {m:Mem} {nx:Nat},FmOk fs m→∃ m',Ghost P ⟨env,m,nx⟩ ⟨fun t=>fmE fs (env t),m',nx⟩
  | [],env,m,nx,_=>⟨m,.refl _⟩
  | (i,es)::fs,env,m,nx,⟨h1,h2⟩=>by
    obtain ⟨m',h⟩:=ghost_fms (env:=fun t=>sub (fm0 i es) (env t)) (nx:=nx) h2
    exact ⟨m',(Ghost.freezeM env m nx i es h1).trans h⟩
theorem ghost_fm (fs:List (Nat×List (Value×D))) (hf:FmOk fs m) {l:List (Nat×D)} (hl:EnvHas l fun t=>fmE fs (env t)):Ghost P ⟨env,m,nx⟩ ⟨envL l,fun _=>none,nx⟩:=by
  obtain ⟨m',h⟩:=ghost_fms (P:=P) (env:=env) (nx:=nx) hf
  exact h.trans ((Ghost.forget _ _ _ _ (envL_of hl)).trans (Ghost.drop _ _ _ _ fun _=>.inr rfl))
end
end Go.Abs
namespace Go.Argus
open Go.Abs
abbrev I (n:Int):D:=.s (.int .i64 n)
abbrev U8 (n:Int):D:=.s (.int .u8 n)
abbrev B (b:Bool):D:=.s (.bool b)
abbrev S (s:ByteArray):D:=.s (.string s)
abbrev encInts (l:List Int):D:=.sl (l.map I) l.length
abbrev encBytes (l:List Int):D:=.sl (l.map U8) l.length
abbrev encStrs (l:List ByteArray):D:=.sl (l.map S) l.length
structure Ins where
  op:Int
  to:Int
  a:Int
  b:Int
  n:Int
  args:List Int
structure When where
  name:ByteArray
  to:Int
structure End where
  kind:Int
  a:Int
  b:Int
  to:Int
  els:Int
  name:ByteArray
  ins:Ins
  args:List Int
  whens:List When
  others:Int
structure Block where
  ins:List Ins
  fin:End
structure Flow where
  name:ByteArray
  iter:Bool
  args:Int
  result:Int
  regs:List Int
  slots:List Int
  signals:List ByteArray
  blocks:List Block
def encIns (x:Ins):List D:=[U8 x.op,I x.to,I x.a,I x.b,I x.n,encInts x.args]
def encWhen (w:When):List D:=[S w.name,I w.to]
def encWhens (l:List When):D:=.sl (l.flatMap encWhen) l.length
def encInss (l:List Ins):D:=.sl (l.flatMap encIns) l.length
def encEnd (x:End):List D:=[U8 x.kind,I x.a,I x.b,I x.to,I x.els,S x.name,U8 x.ins.op,I x.ins.to,I x.ins.a,I x.ins.b,I x.ins.n,encInts x.ins.args,encInts x.args,encWhens x.whens,I x.others]
def encBlock (b:Block):List D:=encInss b.ins::encEnd b.fin
def encBlocks (l:List Block):D:=.sl (l.flatMap encBlock) l.length
def encFlow (f:Flow):List D:=[S f.name,B f.iter,I f.args,U8 f.result,encBytes f.regs,encBytes f.slots,encStrs f.signals,encBlocks f.blocks]
def encCode (p q:D) (f:Flow):List D:=[S f.name,B f.iter,I f.args,U8 f.result,encBytes f.regs,encBytes f.slots,encStrs f.signals,encBlocks f.blocks,p,q]
@[simp] theorem len_encCode (p q : D) (x : Flow) : (encCode p q x).length = 10 := rfl
@[simp] theorem len_encIns (x : Ins) : (encIns x).length = 6 := rfl
@[simp] theorem len_encWhen (x : When) : (encWhen x).length = 2 := rfl
@[simp] theorem len_encEnd (x : End) : (encEnd x).length = 15 := rfl
@[simp] theorem len_encBlock (x : Block) : (encBlock x).length = 16 := rfl
@[simp] theorem len_encFlow (x : Flow) : (encFlow x).length = 8 := rfl
theorem len_enc45 (x:Ins):(encIns x).length=6:=rfl
theorem len_enc82 (x:When):(encWhen x).length=2:=rfl
theorem len_enc48 (x:End):(encEnd x).length=15:=rfl
theorem len_enc69 (x:Block):(encBlock x).length=16:=rfl
theorem len_enc26 (x:Flow):(encFlow x).length=8:=rfl
def idxF {α:Type} (p:α→Bool) (l:List α):Int:=match l.findIdx? p with
  | some i=>i
  | none=> -1
theorem idxF_some {α:Type} {p:α→Bool} {l:List α} {k:Nat} {x:α} (hx:l[k]? =some x) (hp:p x=true) (h:∀ j y,j<k→l[j]? =some y→p y=false):idxF p l=k:=by
  have:l.findIdx? p=some k:=by
    rw [List.findIdx?_eq_some_iff_getElem]
    obtain ⟨hk,he⟩:=List.getElem?_eq_some_iff.1 hx
    refine ⟨hk,by rw [he];exact hp,fun j hj=>?_⟩
    have:=h j l[j] hj (by simp [show j<l.length by omega])
    simp [this]
  simp [idxF,this]
theorem idxF_none {α:Type} {p:α→Bool} {l:List α} (h:∀ (j:Nat) y,l[j]? =some y→p y=false):idxF p l= -1:=by
  have:l.findIdx? p=none:=by
    rw [List.findIdx?_eq_none_iff]
    intro x hx
    obtain ⟨j,hj⟩:=List.getElem?_of_mem hx
    exact h j x hj
  simp [idxF,this]
theorem idxF_any {α:Type} (p:α→Bool) (l:List α):decide (0≤idxF p l)=l.any p:=by
  unfold idxF
  cases h:l.findIdx? p with
  | none=>
    rw [List.findIdx?_eq_none_iff] at h
    have:l.any p=false:=List.any_eq_false.2 fun x hx=>by simp [h x hx]
    simp [this]
  | some i=>
    obtain ⟨hi,hp,_⟩:=List.findIdx?_eq_some_iff_getElem.1 h
    have:l.any p=true:=List.any_eq_true.2 ⟨l[i],by simp,hp⟩
    simp [this]
theorem tr_ints (l:List Int):Tr (encInts l):=.sl (.map fun _=>.s _)
theorem tr_bytes (l:List Int):Tr (encBytes l):=.sl (.map fun _=>.s _)
theorem tr_strs (l:List ByteArray):Tr (encStrs l):=.sl (.map fun _=>.s _)
theorem trs_ins (x:Ins):∀ a∈encIns x,Tr a:=.cons (.s _) (.cons (.s _) (.cons (.s _) (.cons (.s _) (.cons (.s _) (.cons (tr_ints _) .nil)))))
theorem trs_when (x:When):∀ a∈encWhen x,Tr a:=.cons (.s _) (.cons (.s _) .nil)
theorem tr_whens (l:List When):Tr (encWhens l):=.sl (.flat trs_when)
theorem tr_inss (l:List Ins):Tr (encInss l):=.sl (.flat trs_ins)
theorem trs_end (x:End):∀ a∈encEnd x,Tr a:=.cons (.s _) (.cons (.s _) (.cons (.s _) (.cons (.s _) (.cons (.s _) (.cons (.s _) (.cons (.s _) (.cons (.s _) (.cons (.s _) (.cons (.s _) (.cons (.s _) (.cons (tr_ints _) (.cons (tr_ints _) (.cons (tr_whens _) (.cons (.s _) .nil))))))))))))))
theorem trs_block (x:Block):∀ a∈encBlock x,Tr a:=.cons (tr_inss _) (trs_end _)
theorem tr_blocks (l:List Block):Tr (encBlocks l):=.sl (.flat trs_block)
theorem trs_flow (x:Flow):∀ a∈encFlow x,Tr a:=.cons (.s _) (.cons (.s _) (.cons (.s _) (.cons (.s _) (.cons (tr_bytes _) (.cons (tr_bytes _) (.cons (tr_strs _) (.cons (tr_blocks _) .nil)))))))
theorem trs_code {p q:D} (hp:Tr p) (hq:Tr q) (x:Flow):∀ a∈encCode p q x,Tr a:=.cons (.s _) (.cons (.s _) (.cons (.s _) (.cons (.s _) (.cons (tr_bytes _) (.cons (tr_bytes _) (.cons (tr_strs _) (.cons (tr_blocks _) (.cons hp (.cons hq .nil)))))))))
theorem tr_code {p q:D} (hp:Tr p) (hq:Tr q) (x:Flow):Tr (.agg (encCode p q x)):=.agg (trs_code hp hq x)
theorem one_code {p q:D} {f:Flow} (h1:p.one=true) (h2:q.one=true):(encCode p q f).all D.one=true:=by
  simp only [encCode,List.all_cons,List.all_nil,h1,h2];rfl
abbrev U64 (n:Int):D:=.s (.int .u64 n)
abbrev encW (w:List Int):D:=.agg (w.map U64)
theorem oneW (w:List Int):(w.map U64).all D.one=true:=List.all_eq_true.2 fun x hx=>by obtain ⟨y,_,rfl⟩:=List.mem_map.1 hx;rfl
theorem oneW_set {w:List Int} {i:Nat} {x:Int}:((w.map U64).set i (U64 x)).all D.one=true:=by rw [← List.map_set];exact oneW _
theorem tr_w (w:List Int):Tr (encW w):=.agg (.map fun _=>.s _)
def andU (a b:Int):Int:=intBitsV .and .u64 a b
def orU (a b:Int):Int:=intBitsV .or .u64 a b
def withW (w:List Int) (m:Nat):List Int:=w.set (m / 64) (orU (w.getD (m / 64) 0) (IntKind.u64.wrap (1*2 ^ (min (m % 64) 64))))
def hasW (w:List Int) (m:Nat):Bool:=andU ((w.getD (m / 64) 0).fdiv (2 ^ (min (m % 64) 64))) 1==1
def withI (w:List Int) (n:Int):List Int:=if 0≤n then withW w n.toNat else w
def meetK (w v:List Int):Nat→List Int
  | 0=>w
  | k+1=>(meetK w v k).set k (andU ((meetK w v k).getD k 0) (v.getD k 0))
def meetW (w v:List Int):List Int:=meetK w v 20
@[simp] theorem len_meetK (w v : List Int) : ∀ k, (meetK w v k).length = w.length
 | 0=>rfl
 | k+1=>by simp [meetK,len_meetK w v k]
@[simp] theorem len_withW (w : List Int) (m : Nat) : (withW w m).length = w.length := by simp [withW]
@[simp] theorem len_withI (w : List Int) (n : Int) : (withI w n).length = w.length := by unfold withI; split <;> simp
@[simp] theorem len_meetW (w v : List Int) : (meetW w v).length = w.length := len_meetK w v 20
theorem wrap_i64 {n:Nat} (h:n<2 ^ 62):IntKind.i64.wrap (n:Int)=n:=by
  unfold IntKind.wrap
  simp [IntKind.signed,IntKind.bits]
  omega
theorem quo64 {m:Nat} (h:m<2 ^ 62):IntKind.i64.wrap ((m:Int).tdiv 64)=((m / 64:Nat):Int):=by
  rw [show (m:Int).tdiv 64=((m / 64:Nat):Int) from by rw [Int.tdiv_eq_ediv_of_nonneg (by omega)];omega]
  exact wrap_i64 (by omega)
theorem rem64 (m:Nat):(m:Int).tmod 64=((m % 64:Nat):Int):=by rw [Int.tmod_eq_emod_of_nonneg (by omega)];omega
theorem ib (a b:Int):(a==b)=decide (a=b):=rfl
def inR (n a b:Int):Bool:=decide (a≤n)&&decide (n≤b)
def flowByte (b:Int):Bool:=decide (b<33)||decide (126<b)
def isFlow (s:ByteArray):Bool:=inR s.size 1 120&& !(strBytes s).any flowByte
def nameByte (b:Int):Bool:=(decide (b<97)||decide (122<b))&&(decide (b<48)||decide (57<b))
def isName (s:ByteArray):Bool:=inR s.size 1 12&& !(strBytes s).any nameByte
def kindByte (most k:Int):Bool:=decide (k<1)||decide (most<k)
def kindsOk (l:List Int) (most:Int):Bool:= !l.any (kindByte most)
def kindR (l:List Int) (r:Int):Int:=if 0≤r then l.getD r.toNat 0 else 0
theorem kindR_in {l:List Int} {i:Nat} {x:Int} (h:l[i]? =some x):kindR l i=x:=by
  simp [kindR,List.getD_eq_getElem?_getD,h]
theorem kindR_out {l:List Int} {r:Int} (h:¬ (0≤r∧r<l.length)):kindR l r=0:=by
  unfold kindR
  split
  · rename_i h0
    have:l.length≤r.toNat:=by omega
    simp [List.getD_eq_getElem?_getD,List.getElem?_eq_none this]
  · rfl
theorem inR_true {n a b:Int}:inR n a b=true↔a≤n∧n≤b:=by simp [inR]
theorem inR_false {n a b:Int}:inR n a b=false↔¬ (a≤n∧n≤b):=by
  rw [← Bool.not_eq_true,inR_true]
def valueR (l:List Int) (r:Int):Bool:=kindR l r==1||kindR l r==2
def valuesR (l rs:List Int):Bool:=rs.all (valueR l)
def slotR (l slots:List Int) (r n:Int):Bool:=inR n 0 (slots.length - 1)&&(kindR l r==kindR slots n)
def fieldR (l:List Int) (r want of:Int):Bool:=
  if want=0 then r==0 else if want=1 then kindR l r==1 else if want=2 then kindR l r==2 else if want=3 then valueR l r
  else kindR l r !=0&&kindR l r==of
structure Shape where
  to:Int
  a:Int
  b:Int
  args:Int
  low:Int
  high:Int
def encShape (s:Shape):List D:=[I s.to,I s.a,I s.b,I s.args,I s.low,I s.high]
@[simp] theorem len_encShape (x : Shape) : (encShape x).length = 6 := rfl
theorem trs_shape (x:Shape):∀ a∈encShape x,Tr a:=.cons (.s _) (.cons (.s _) (.cons (.s _) (.cons (.s _) (.cons (.s _) (.cons (.s _) .nil)))))
def shapedOf (l:List Int) (x:Ins) (s:Shape):Int:=if s.to=0∨s.to=1 then kindR l x.a else kindR l x.to
def shapedArgs (l:List Int) (x:Ins) (s:Shape):Bool:=if s.args=5 then inR x.args.length 1 6&&valuesR l x.args else if s.args=6 then decide ((x.args.length:Int)=1)&&valuesR l x.args else decide ((x.args.length:Int)=0)
def shapedR (l:List Int) (x:Ins) (s:Shape):Bool:=
  fieldR l x.to s.to 0&&(fieldR l x.a s.a (shapedOf l x s)&&(fieldR l x.b s.b (shapedOf l x s)&&(shapedArgs l x s&&inR x.n s.low s.high)))
def imOf (l:List (Int×Shape)):List (Value×D):=l.map fun x=>(.int .u8 x.1,.agg (encShape x.2))
def noShape:Shape:=⟨0,0,0,0,0,0⟩
def shapeAt (l:List (Int×Shape)) (op:Int):Option Shape:=(l.find? fun x=>x.1==op).map (·.2)
def plainT:List (Int×Shape):=[(1,⟨1,0,0,0, -1000000000,1000000000⟩),(2,⟨3,4,0,0,0,0⟩),(3,⟨1,1,1,0,0,0⟩),(4,⟨1,1,1,0,0,0⟩),(5,⟨1,3,4,0,0,0⟩),(6,⟨1,1,1,0,0,0⟩),(7,⟨1,1,1,0,0,0⟩),(8,⟨1,1,0,0,0,0⟩),
  (9,⟨2,0,0,0,0,1⟩),(10,⟨2,0,0,5,0,5⟩),(11,⟨3,2,0,0,0,5⟩),(12,⟨0,2,3,0,0,5⟩),(13,⟨1,2,0,0,0,0⟩),(14,⟨1,2,0,0,0,0⟩),(15,⟨0,1,0,0,0,0⟩)]
def triesT:List (Int×Shape):=[(30,⟨1,1,1,0,0,0⟩),(31,⟨1,1,1,0,0,0⟩),(32,⟨1,1,1,0,0,0⟩),(33,⟨1,1,1,0,0,0⟩),(34,⟨1,1,1,0,0,0⟩),(35,⟨0,2,3,0,0,0⟩),(36,⟨3,2,0,0,0,0⟩),(37,⟨3,2,1,0,0,0⟩),(38,⟨0,2,1,6,0,0⟩)]
theorem tr_im (l:List (Int×Shape)):Tr (.im (imOf l)):=.im fun x hx=>by
  obtain ⟨y,_,rfl⟩:=List.mem_map.1 hx
  exact .agg (trs_shape _)
theorem look_im (op:Int):∀ l:List (Int×Shape),(lookD (.int .u8 op) (imOf l)).map (·.2)=(shapeAt l op).map fun s=>.agg (encShape s)
  | []=>rfl
  | (o,s)::l=>by
    have ih:=look_im op l
    unfold imOf at ih ⊢
    simp only [List.map_cons,lookD,veq,veq1,shapeAt,List.find?_cons] at ih ⊢
    by_cases h:o=op
    · subst h;simp
    · have hb:(o==op)=false:=by simpa using h
      simp only [hb,beq_self_eq_true,Bool.and_false,Bool.false_eq_true,if_false,Option.map_map] at ih ⊢
      exact ih
theorem got_im {P:Program} {t:TypeId} {z0:D} (hz:zeroD P (melP P t)=z0) (op:Int) (l:List (Int×Shape)) (hz':z0=.agg (encShape noShape)):gotD P t true (lookD (.int .u8 op) (imOf l))=.tup [.agg (encShape ((shapeAt l op).getD noShape)),.s (.bool (shapeAt l op).isSome)]:=by
  have h:=look_im op l
  cases h1:lookD (.int .u8 op) (imOf l) with
  | none=>
    rw [h1] at h
    have:shapeAt l op=none:=by simpa using h.symm
    simp only [gotD,this,hz,hz',Option.getD_none,Option.isSome_none,if_true]
  | some x=>
    rw [h1] at h
    cases h2:shapeAt l op with
    | none=>rw [h2] at h;simp at h
    | some s=>
      rw [h2] at h
      obtain ⟨i,d⟩:=x
      simp only [Option.map_some,Option.some.injEq] at h
      subst h
      simp [gotD]
theorem keys_im {P:Program} {kt:TypeId} (hk:P.underlying kt=some (.int .u8)) (l:List (Int×Shape)):(imOf l).all (fun e=>keyP P kt e.1)=true:=by
  refine List.all_eq_true.2 fun x hx=>?_
  obtain ⟨y,_,rfl⟩:=List.mem_map.1 hx
  simp [keyP,hk]
def eqb (a b:Int):Bool:=decide (a=b)
def noArgs (x:Ins):Bool:=decide ((x.args.length:Int)=0)
def rightB (f:Flow) (b:Int) (x:Ins) (phis:Bool) (ahead:Int):Bool:=
  if x.op=16 then eqb x.to 0&&(eqb (kindR f.regs x.a) 3&&(eqb x.b 0&&(eqb x.n 0&&noArgs x)))
  else if x.op=17 then eqb x.a 0&&(eqb x.b 0&&(noArgs x&&slotR f.regs f.slots x.to x.n))
  else if x.op=18 then eqb x.to 0&&(eqb x.b 0&&(noArgs x&&slotR f.regs f.slots x.a x.n))
  else if x.op=19 then phis&&(decide (0<b)&&(valueR f.regs x.to&&(eqb x.a 0&&(eqb x.b 0&&(eqb x.n 0&&(eqb x.args.length ahead&& !x.args.any fun r=> !eqb (kindR f.regs r) (kindR f.regs x.to)))))))
  else (shapeAt plainT x.op).isSome&&shapedR f.regs x ((shapeAt plainT x.op).getD noShape)
def noInsB (x:Ins):Bool:=decide (x.op=0)&&(decide (x.to=0)&&(decide (x.a=0)&&(decide (x.b=0)&&(decide (x.n=0)&&decide ((x.args.length:Int)=0)))))
def bareB (x:End):Bool:=decide (x.kind=0)&&(decide (x.a=0)&&(decide (x.b=0)&&(decide (x.to=0)&&(decide (x.els=0)&&(x.name.toList==[]&&(decide (x.others= -1)&&(decide ((x.args.length:Int)=0)&&(decide ((x.whens.length:Int)=0)&&noInsB x.ins))))))))
def blockR (f:Flow) (n:Int):Bool:=inR n 0 (f.blocks.length - 1)
def whenB (f:Flow) (ws:List When) (i:Nat) (w:When):Bool:=isName w.name&&(blockR f w.to&& !(ws.take i).any fun v=>v.name.toList==w.name.toList)
def whensB (f:Flow) (ws:List When):Bool:=ws.zipIdx.all fun x=>whenB f ws x.2 x.1
theorem whensB_true {f:Flow} {ws:List When} (h:∀ (i:Nat) w,ws[i]? =some w→whenB f ws i w=true):whensB f ws=true:=by
  refine List.all_eq_true.2 fun x hx=>?_
  obtain ⟨h1,h2⟩:=List.mem_zipIdx' hx
  exact h x.2 x.1 (by rw [h2];simp [h1])
theorem whensB_false {f:Flow} {ws:List When} {i:Nat} {w:When} (hw:ws[i]? =some w) (h:whenB f ws i w=false):whensB f ws=false:=by
  refine Bool.eq_false_iff.2 fun ht=>?_
  have hx:(w,i)∈ws.zipIdx:=List.mem_zipIdx_iff_getElem?.2 hw
  have:=List.all_eq_true.1 ht _ hx
  rw [h] at this
  cases this
def handlesB (f:Flow) (x:End):Bool:=whensB f x.whens&&(decide ((x.whens.length:Int)≤7)&&(decide (x.others= -1)||blockR f x.others))
def noIns0:Ins:=⟨0,0,0,0,0,[]⟩
def endOk (f:Flow) (x:End):Bool×End:=
  let r:End:={ x with kind:=0 }
  if x.kind=1 then (blockR f x.to,{ r with to:=0 })
  else if x.kind=2 then (eqb (kindR f.regs x.a) 1&&(blockR f x.to&&blockR f x.els),{ r with a:=0,to:=0,els:=0 })
  else if x.kind=3 then (if f.result≠0∧f.iter=false then eqb (kindR f.regs x.a) f.result else eqb x.a (-1),{ r with a:=0 })
  else if x.kind=4 then (isName x.name,{ r with name:=.empty })
  else if x.kind=5 then ((shapeAt triesT x.ins.op).isSome&&(shapedR f.regs x.ins ((shapeAt triesT x.ins.op).getD noShape)&&(blockR f x.to&&handlesB f x)),{ r with ins:=noIns0,to:=0,whens:=[],others:= -1 })
  else if x.kind=6 then (isFlow x.name&&(decide ((x.args.length:Int)≤6)&&(valuesR f.regs x.args&&((eqb x.a (-1)||valueR f.regs x.a)&&(blockR f x.to&&handlesB f x)))),{ r with name:=.empty,args:=[],a:=0,to:=0,whens:=[],others:= -1 })
  else if x.kind=7 then (isFlow x.name&&(decide ((x.args.length:Int)≤6)&&(valuesR f.regs x.args&&(eqb (kindR f.regs x.a) 3&&blockR f x.to))),{ r with name:=.empty,args:=[],a:=0,to:=0 })
  else if x.kind=8 then (eqb (kindR f.regs x.a) 3&&(valueR f.regs x.b&&(blockR f x.to&&(blockR f x.els&&handlesB f x))),{ r with a:=0,b:=0,to:=0,els:=0,whens:=[],others:= -1 })
  else if x.kind=9 then (f.iter&&(eqb (kindR f.regs x.a) f.result&&blockR f x.to),{ r with a:=0,to:=0 })
  else (false,r)
def isIn (l:List Int) (n:Int):Bool:=l.any fun c=>n==c
def slotPlace (n:Int):Int:=1200+n
def writesL1:List Int:=[1,2,3,4,5,6,7,8,9,10,11,13,14,17,19]
def writesL2:List Int:=[30,31,32,33,34,36,37]
def writesR (x:Ins):Int:=if isIn writesL1 x.op then x.to else if isIn writesL2 x.op then x.to else -1
def writesEnd (x:End):Int:=if x.kind=5 then writesR x.ins else if isIn [6,7] x.kind then x.a else if x.kind=8 then x.b else -1
def readsL1:List Int:=[2,8,11,13,14,15,16,18,36]
def readsL2:List Int:=[3,4,5,6,7,12,30,31,32,33,34,35,37]
def readsR (x:Ins):List Int:=if isIn readsL1 x.op then [x.a] else if isIn readsL2 x.op then [x.a,x.b] else if x.op=10 then x.args else if x.op=38 then x.a::x.b::x.args else []
def readsEnd (x:End):List Int:=if isIn [2,8,9] x.kind then [x.a] else if x.kind=3 then (if x.a≠ -1 then [x.a] else []) else if x.kind=5 then readsR x.ins else if isIn [6,7] x.kind then x.args else []
def endedB (f:Flow) (x:End):Bool:=(endOk f x).1&&bareB (endOk f x).2
end Go.Argus
namespace Go.Abs
inductive T (α:Type) where
  | leaf
  | node (v:Option α) (l r:T α)
noncomputable def bitsF:Nat→Nat→List Bool
  | 0,_=>[]
  | f+1,i=>bif Nat.beq i 0 then [] else bif Nat.beq (i % 2) 1 then true::bitsF f (i / 2) else false::bitsF f (i / 2 - 1)
noncomputable def bits (i:Nat):List Bool:=bitsF 20 i
noncomputable def getP {α:Type} (p:List Bool):T α→Option α:=List.rec (motive:=fun _=>T α→Option α) (fun t=>T.rec (motive:=fun _=>Option α) none (fun v _ _ _ _=>v) t)
  (fun b _ ih t=>T.rec (motive:=fun _=>Option α) none (fun _ l r _ _=>Bool.rec (ih r) (ih l) b) t) p
noncomputable def setP {α:Type} (v:Option α) (p:List Bool):T α→T α:=List.rec (motive:=fun _=>T α→T α) (fun t=>T.rec (motive:=fun _=>T α) (.node v .leaf .leaf) (fun _ l r _ _=>.node v l r) t)
  (fun b _ ih t=>T.rec (motive:=fun _=>T α) (Bool.rec (.node none .leaf (ih .leaf)) (.node none (ih .leaf) .leaf) b) (fun u l r _ _=>Bool.rec (.node u l (ih r)) (.node u (ih l) r) b) t) p
noncomputable def T.get {α:Type} (t:T α) (i:Nat):Option α:=getP (bits i) t
noncomputable def T.put {α:Type} (t:T α) (i:Nat) (v:Option α):Option (T α):=bif Nat.blt i 1000000 then some (setP v (bits i) t) else none
structure CSt where
  env:T D
  mem:T Row
  nx:Nat
noncomputable def unD:D→D
  | .opt _ _=>.u
  | d=>d
noncomputable def getD (t:T D) (i:Nat):D:=match t.get i with
  | some d=>d
  | none=>.u
noncomputable def valE (t:T D):Operand→D
  | .tmp i=>unD (getD t i)
  | .const v=>toD v
  | .global _=>.u
  | .func f=>.fn (.func f) [] []
abbrev OpK:=Program→(Operand→D)→T Row→Nat→Option Plan
noncomputable def okP (b:Bool) (d:D):Option Plan:=bif b then some ⟨d,[],[],0⟩ else none
noncomputable def rdP (b:Bool) (d:D) (i:Nat):Option Plan:=bif b then some ⟨d,[],[i],0⟩ else none
noncomputable def newP (b:Bool) (nx:Nat) (d:D) (r:Row) (rd:List Nat):Option Plan:=bif b then some ⟨d,[(nx,some r)],rd,1⟩ else none
noncomputable def wrP (b:Bool) (i:Nat) (r:Row):Option Plan:=bif b then some ⟨.tup [],[(i,some r)],[i],0⟩ else none
noncomputable def hasN (n:Nat):List D→Bool:=Nat.rec (fun _=>true) (fun _ ih l=>List.rec false (fun _ t _=>ih t) l) n
noncomputable def lenN (n:Nat):List D→Bool:=Nat.rec (fun l=>List.rec true (fun _ _ _=>false) l) (fun _ ih l=>List.rec false (fun _ t _=>ih t) l) n
noncomputable def dropR (n:Nat):List D→List D:=Nat.rec (fun l=>l) (fun _ ih l=>List.rec [] (fun _ t _=>ih t) l) n
noncomputable def takeR (n:Nat):List D→List D:=Nat.rec (fun _=>[]) (fun _ ih l=>List.rec [] (fun a t _=>a::ih t) l) n
noncomputable def dropS (l:List D) (n:Nat):List D:=dropR n l
noncomputable def takeQ (P:Program) (t:TypeId) (cs:List D):D:=bif aggP P t then .agg (takeR (P.cellsOf t) cs) else List.rec .u (fun d _ _=>d) cs
noncomputable def kMove (x:Operand):OpK:=fun _ ρ _ _=>some ⟨ρ x,[],[],0⟩
noncomputable def kPick (c a b:Operand):OpK:=fun _ ρ _ _=>match ρ c with
  | .s (.bool true)=>match ρ a with
    | .s (.bool v)=>some ⟨.s (.bool v),[],[],0⟩
    | _=>none
  | .s (.bool false)=>match ρ b with
    | .s (.bool v)=>some ⟨.s (.bool v),[],[],0⟩
    | _=>none
  | _=>none
noncomputable def kAlloc (t:TypeId):OpK:=fun P _ _ nx=>bif bldT t then match zeroP P t with
    | [.s (.pointer none),.z]=>newP (tyOk P t) nx (.rp nx 0) (.bs false .z t) []
    | _=>none
  else newP (tyOk P t) nx (.rp nx 0) (.cells (zeroP P t) t) []
noncomputable def kBox (t:TypeId) (x:Operand):OpK:=fun P ρ _ nx=>bif bldT t then match (ρ x).cells with
    | [.s (.pointer none),d]=>newP (d.one&&Nat.beq (P.cellsOf t) 2) nx (.rp nx 0) (.bs false d t) []
    | _=>none
  else newP ((ρ x).cells.all D.one) nx (.rp nx 0) (.cells (ρ x).cells t) []
noncomputable def fillB (place:Nat→Option (Nat×Nat)) (cells:List D):List (Nat×D)→Option (List D)
  | []=>some cells
  | (i,d)::rest=>match place i with
    | none=>none
    | some (off,size)=>bif (lenN size d.cells&&hasN (off+size) cells)&&d.cells.all D.one then fillB place (splice cells off d.cells) rest else none
noncomputable def parts (ρ:Operand→D):List (Nat×Operand)→List (Nat×D)
  | []=>[]
  | (i,x)::l=>(i,ρ x)::parts ρ l
noncomputable def placeS (P:Program) (fs:Array Field) (i:Nat):Option (Nat×Nat):=match fs[i]? with
  | some f=>some (f.offset,P.cellsOf f.type)
  | none=>none
noncomputable def aggOf (b:Bool):Option (List D)→Option Plan
  | some cs=>okP b (.agg cs)
  | none=>none
noncomputable def fieldsOk (P:Program) (fs:Array Field):Bool:=fs.toList.all fun f=>(P.info? f.type).isSome
noncomputable def kBuild (t:TypeId) (ps:Array (Nat×Operand)):OpK:=fun P ρ _ _=>match P.underlying t with
  | some (.struct fs)=>aggOf (tyOk P t&&fieldsOk P fs) (fillB (placeS P fs) (zeroP P t) (parts ρ ps.toList))
  | some (.array _ e)=>aggOf (tyOk P t&&tyOk P e) (fillB (fun i=>some (i*P.cellsOf e,P.cellsOf e)) (zeroP P t) (parts ρ ps.toList))
  | _=>none
noncomputable def newSl (b:Bool) (nx n:Nat) (e:TypeId):Option (List D)→Option Plan
  | some cs=>newP (b&&cs.all D.one) nx (.rs nx 0 n) (.cells cs e) []
  | none=>none
noncomputable def kBuildSlice (t:TypeId) (n:Nat) (ps:Array (Nat×Operand)):OpK:=fun P ρ _ nx=>
  newSl (slT P t&&(Nat.ble (n*P.cellsOf (elemP P t)) 16777216&&Nat.ble n maxLen)) nx n (elemP P t) (fillB (fun i=>some (i*P.cellsOf (elemP P t),P.cellsOf (elemP P t))) (replD n (zeroP P (elemP P t))) (parts ρ ps.toList))
noncomputable def kLoad (t:TypeId) (a:Operand):OpK:=fun P ρ m _=>match ρ a with
  | .pt cs=>okP (tyOk P t&&hasN (P.cellsOf t) cs) (takeQ P t cs)
  | .rp i off=>match m.get i with
    | some (.cells cs _)=>rdP (tyOk P t&&hasN (off+P.cellsOf t) cs) (takeQ P t (dropS cs off)) i
    | some (.bs _ x _)=>rdP (Nat.beq off 1&&(tyOk P t&& !aggP P t)) x i
    | _=>none
  | _=>none
noncomputable def kStore (t:TypeId) (a x:Operand):OpK:=fun P ρ m _=>match ρ a with
  | .rp i off=>match m.get i with
    | some (.cells cs e)=>wrP ((tyOk P t&&lenN (P.cellsOf t) (ρ x).cells)&&(hasN (off+P.cellsOf t) cs&&(ρ x).cells.all D.one)) i (.cells (splice cs off (ρ x).cells) e)
    | some (.bs u _ T)=>wrP (Nat.beq off 1&&(tyOk P t&&(!aggP P t&&(ρ x).one))) i (.bs u (ρ x) T)
    | _=>none
  | _=>none
noncomputable def kNilCheck (x:Operand):OpK:=fun _ ρ m _=>match ρ x with
  | .pt cs=>some ⟨.pt cs,[],[],0⟩
  | .rp i off=>match m.get i with
    | some _=>some ⟨.rp i off,[],[i],0⟩
    | none=>none
  | _=>none
noncomputable def inK:IntKind→Int→Bool
  | .i64,.ofNat n=>Nat.ble n 9223372036854775807
  | .i64,.negSucc n=>Nat.ble n 9223372036854775807
  | .u8,.ofNat n=>Nat.ble n 255
  | .u64,.ofNat n=>Nat.ble n 18446744073709551615
  | _,_=>false
noncomputable def wrapF (k:IntKind) (n:Int):Int:=bif inK k n then n else k.wrap n
noncomputable def ltI:Int→Int→Bool
  | .ofNat a,.ofNat b=>Nat.blt a b
  | .negSucc _,.ofNat _=>true
  | .ofNat _,.negSucc _=>false
  | .negSucc a,.negSucc b=>Nat.blt b a
noncomputable def eqI:Int→Int→Bool
  | .ofNat a,.ofNat b=>Nat.beq a b
  | .negSucc a,.negSucc b=>Nat.beq a b
  | _,_=>false
noncomputable def sameI:IntKind→IntKind→Bool
  | .i64,.i64 | .u8,.u8 | .u64,.u64 | .i32,.i32 | .u32,.u32 | .i8,.i8 | .i16,.i16 | .u16,.u16=>true
  | _,_=>false
noncomputable def sI (b:Bool) (k:IntKind) (n:Int):Option Plan:=okP b (.s (.int k n))
noncomputable def sB (b:Bool) (v:Bool):Option Plan:=okP b (.s (.bool v))
noncomputable def kInt:BinOp→IntKind→IntKind→Int→Int→Option Plan
  | .add=>fun k k' a b=>sI (sameI k k') k (wrapF k (a+b))
  | .sub=>fun k k' a b=>sI (sameI k k') k (wrapF k (a - b))
  | .mul=>fun k k' a b=>sI (sameI k k') k (wrapF k (a*b))
  | .quo=>fun k k' a b=>sI (sameI k k'&& !eqI b 0) k (wrapF k (a.tdiv b))
  | .rem=>fun k k' a b=>sI (sameI k k'&& !eqI b 0) k (a.tmod b)
  | .shl=>fun k _ a b=>sI (!ltI b 0) k (k.wrap (a*2 ^ (min b.toNat k.bits)))
  | .shr=>fun k _ a b=>sI (!ltI b 0) k (a.fdiv (2 ^ (min b.toNat k.bits)))
  | .and=>fun k k' a b=>sI (sameI k k') k (intBitsV .and k a b)
  | .or=>fun k k' a b=>sI (sameI k k') k (intBitsV .or k a b)
  | .xor=>fun k k' a b=>sI (sameI k k') k (intBitsV .xor k a b)
  | .andNot=>fun k k' a b=>sI (sameI k k') k (intBitsV .andNot k a b)
  | .eql=>fun k k' a b=>sB (sameI k k') (eqI a b)
  | .neq=>fun k k' a b=>sB (sameI k k') (!eqI a b)
  | .lss=>fun k k' a b=>sB (sameI k k') (ltI a b)
  | .leq=>fun k k' a b=>sB (sameI k k') (!ltI b a)
  | .gtr=>fun k k' a b=>sB (sameI k k') (ltI b a)
  | .geq=>fun k k' a b=>sB (sameI k k') (!ltI a b)
noncomputable def eqB:List UInt8→List UInt8→Bool
  | [],[]=>true
  | a::as,b::bs=>Nat.beq a.toNat b.toNat&&eqB as bs
  | _,_=>false
noncomputable def ltB:List UInt8→List UInt8→Bool
  | _,[]=>false
  | [],_::_=>true
  | a::as,b::bs=>Nat.blt a.toNat b.toNat||(Nat.beq a.toNat b.toNat&&ltB as bs)
noncomputable def catB (a b:ByteArray):ByteArray:=⟨⟨a.data.toList++b.data.toList⟩⟩
noncomputable def kStr:BinOp→List UInt8→List UInt8→Option Plan
  | .eql=>fun a b=>sB true (eqB a b)
  | .neq=>fun a b=>sB true (!eqB a b)
  | .lss=>fun a b=>sB true (ltB a b)
  | .geq=>fun a b=>sB true (!ltB a b)
  | .add=>fun a b=>okP (Nat.ble (a.length+b.length) maxLen) (.s (.string ⟨⟨a++b⟩⟩))
  | _=>fun _ _=>none
noncomputable def kAggEq (P:Program) (op:BinOp) (t:TypeId) (xs ys:List D):Option Plan:=match op,flatT P t,zipV xs ys with
  | .eql,some ks,some q=>okP (decide (q.1.map kindV=ks)&& !P.eqGuardType P.depth t) (.s (.bool (veqs q.1 q.2)))
  | .neq,some ks,some q=>okP (decide (q.1.map kindV=ks)&& !P.eqGuardType P.depth t) (.s (.bool !(veqs q.1 q.2)))
  | _,_,_=>none
noncomputable def kBin2 (P:Program) (op:BinOp) (t:TypeId):D→D→Option Plan
  | .s (.int k a),.s (.int k' b)=>kInt op k k' a b
  | .s (.string a),.s (.string b)=>kStr op a.data.toList b.data.toList
  | .s (.bool a),.s (.bool b)=>match op with
    | .eql=>sB (boT P t) (a==b)
    | .neq=>sB (boT P t) (!(a==b))
    | _=>none
  | .agg xs,.agg ys=>kAggEq P op t xs ys
  | _,_=>none
noncomputable def eqOp:BinOp→Option Bool
  | .eql=>some true
  | .neq=>some false
  | _=>none
noncomputable def kNilS (P:Program) (m:T Row) (t:TypeId) (b:Bool):D→Option Plan
  | .z=>sB (slT P t) b
  | .rs i _ n=>match m.get i with
    | some (.cells _ _)=>rdP (slT P t&&Nat.blt 0 n) (.s (.bool !b)) i
    | _=>none
  | .sl _ n=>bif b then okP (slT P t) (bif Nat.beq n 0 then .ub else .s (.bool false)) else none
  | _=>none
noncomputable def kNilP (P:Program) (m:T Row) (t:TypeId) (b:Bool):D→Option Plan
  | .rp i _=>match m.get i with
    | some _=>rdP (ptT P t) (.s (.bool !b)) i
    | _=>none
  | _=>none
noncomputable def kBin (op:BinOp) (t:TypeId) (x y:Operand):OpK:=fun P ρ m _=>match y with
  | .const (.slice none 0 0)=>match eqOp op with
    | some b=>kNilS P m t b (ρ x)
    | none=>none
  | .const (.pointer none)=>match eqOp op with
    | some b=>kNilP P m t b (ρ x)
    | none=>none
  | y=>kBin2 P op t (ρ x) (ρ y)
noncomputable def kUn (op:UnOp) (x:Operand):OpK:=fun _ ρ _ _=>match ρ x with
  | .s v=>match unV op v with
    | some r=>some ⟨.s r,[],[],0⟩
    | none=>none
  | _=>none
noncomputable def ints? :List D→Option (List Int)
  | []=>some []
  | .s (.int .u8 n)::ds=>match ints? ds with
    | some l=>some (n::l)
    | none=>none
  | _=>none
noncomputable def u8B (P:Program) (t:TypeId):Bool:=slT P t&&(match P.underlying (elemP P t) with | some (.int .u8)=>true | _=>false)&&Nat.beq (P.cellsOf (elemP P t)) 1
noncomputable def strP (b:Bool) (n:Nat) (rd:List Nat):Option (List Int)→Option Plan
  | some l=>bif b&&Nat.beq l.length n then some ⟨.s (.string (mkStr l)),[],rd,0⟩ else none
  | none=>none
noncomputable def kConvS (P:Program) (src:TypeId) (m:T Row):D→Option Plan
  | .sl es n=>strP (u8B P src) n [] (ints? es)
  | .rs i off n=>match m.get i with
    | some (.cells cs _)=>strP (u8B P src) n [i] (ints? (takeR n (dropS cs off)))
    | _=>none
  | .s (.int _ n)=>match P.underlying src with
    | some (.int _)=>okP (!ltI n 0&&ltI n 128) (.s (.string (mkStr [n])))
    | _=>none
  | _=>none
noncomputable def kConvB (P:Program) (src:TypeId):D→Option Plan
  | .s (.string b)=>okP (stT P src&&Nat.ble b.data.toList.length maxLen) (.sl (b.data.toList.map fun c=>.s (.int .u8 c.toNat)) b.data.toList.length)
  | _=>none
noncomputable def kConvI (P:Program) (src:TypeId) (k:IntKind):D→Option Plan
  | .s (.int _ n)=>okP (tyOk P src) (.s (.int k (wrapF k n)))
  | _=>none
noncomputable def kConv (src dst:TypeId) (x:Operand):OpK:=fun P ρ m _=>match P.underlying dst with
  | some (.int k)=>kConvI P src k (ρ x)
  | some .string=>kConvS P src m (ρ x)
  | some (.slice e)=>match P.underlying e with
    | some (.int .u8)=>kConvB P src (ρ x)
    | _=>none
  | _=>none
noncomputable def kFunc (f:Fn) (fs cs:Array Operand):OpK:=fun _ ρ _ _=>some ⟨.fn f (fs.toList.map ρ) (cs.toList.map ρ),[],[],0⟩
noncomputable def kMap (r:Option Operand):OpK:=fun _ _ _ nx=>match r with
  | none=>some ⟨.mp nx,[(nx,some (.map []))],[],1⟩
  | some _=>none
noncomputable def kMake (t:TypeId) (l c:Operand):OpK:=fun P ρ _ nx=>match ρ l,ρ c with
  | .s (.int .i64 (.ofNat n)),.s (.int .i64 (.ofNat k))=>newP ((Nat.beq n k&&Nat.ble n 9223372036854775807)&&(Nat.ble (P.bytesOf (elemP P t)*n) 281474976710656&&slT P t)) nx (.rs nx 0 n) (.cells (replD n (zeroP P (elemP P t))) (elemP P t)) []
  | _,_=>none
noncomputable def keysOk (P:Program) (t:TypeId):List (Value×D)→Bool
  | []=>true
  | e::es=>keyP P t e.1&&keysOk P t es
noncomputable def kLook (t:TypeId) (x k:Operand) (ok:Bool):OpK:=fun P ρ m _=>match keyV (ρ k),ρ x with
  | some key,.mp i=>match m.get i with
    | some (.map es)=>rdP (mapT P t&&(keyP P (mkeyP P t) key&&keysOk P (mkeyP P t) es)) (gotD P t ok (lookD key es)) i
    | _=>none
  | some key,.im es=>okP (mapT P t&&(keyP P (mkeyP P t) key&&keysOk P (mkeyP P t) es)) (gotD P t ok (lookD key es))
  | some key,.s (.map none)=>okP (mapT P t&&keyP P (mkeyP P t) key) (gotD P t ok none)
  | _,_=>none
noncomputable def kPut (t:TypeId) (x k v:Operand):OpK:=fun P ρ m _=>match keyV (ρ k),ρ x with
  | some key,.mp i=>match m.get i with
    | some (.map es)=>wrP (mapT P t&&(keyP P (mkeyP P t) key&&keysOk P (mkeyP P t) es)) i (.map (putD key (ρ v) es))
    | _=>none
  | _,_=>none
noncomputable def bndK (ρ:Operand→D) (o:Option Operand) (dflt:Nat):Option Nat:=match o with
  | none=>some dflt
  | some x=>match ρ x with
    | .s (.int _ (.ofNat n))=>some n
    | _=>none
noncomputable def kSlice3 (P:Program) (t:TypeId) (ρ:Operand→D) (x:D) (lo hi:Option Operand) (c:Operand):Option Plan:=match x,bndK ρ lo 0,hi,ρ c with
  | .sl es n,some l,some hx,.s (.int _ (.ofNat k))=>match ρ hx with
    | .s (.int _ (.ofNat h))=>bif Nat.beq l 0&&(Nat.beq h n&&Nat.beq k n)&&(lo.isNone) then okP (slT P t&&lenN (n*P.cellsOf (elemP P t)) es) (.sc es n)
      else okP (slT P t&&(Nat.ble l h&&(Nat.ble h k&&Nat.ble k n))) (.sl ((dropS es (l*P.cellsOf (elemP P t))).take ((h - l)*P.cellsOf (elemP P t))) (h - l))
    | _=>none
  | _,_,_,_=>none
noncomputable def kSlice2 (P:Program) (t:TypeId) (ρ:Operand→D) (m:T Row) (lo hi:Option Operand):D→Option Plan
  | .sl es n=>match bndK ρ lo 0,bndK ρ hi n with
    | some l,some h=>okP (slT P t&&(Nat.ble l h&&Nat.ble h n)) (.sl ((dropS es (l*P.cellsOf (elemP P t))).take ((h - l)*P.cellsOf (elemP P t))) (h - l))
    | _,_=>none
  | .rs i off n=>match m.get i,bndK ρ lo 0,bndK ρ hi n with
    | some (.cells _ e),some l,some h=>rdP (slT P t&&Nat.beq (P.cellsOf e) (P.cellsOf (elemP P t))&&(Nat.ble l h&&Nat.ble h n)) (.rs i (off+l*P.cellsOf (elemP P t)) (h - l)) i
    | _,_,_=>none
  | .s (.string b)=>match bndK ρ lo 0,bndK ρ hi b.data.toList.length with
    | some l,some h=>okP (stT P t&&(Nat.ble l h&&Nat.ble h b.data.toList.length)) (.s (.string ⟨⟨(b.data.toList.drop l).take (h - l)⟩⟩))
    | _,_=>none
  | .z=>match bndK ρ lo 0,bndK ρ hi 0 with
    | some 0,some 0=>okP (slT P t) .z
    | _,_=>none
  | _=>none
noncomputable def kSlice (t:TypeId) (x:Operand) (lo hi mx:Option Operand):OpK:=fun P ρ m _=>match mx with
  | none=>kSlice2 P t ρ m lo hi (ρ x)
  | some c=>kSlice3 P t ρ (ρ x) lo hi c
noncomputable def kFieldAddr (t:TypeId) (x:Operand) (k:Nat):OpK:=fun P ρ m _=>match fieldP P t k with
  | some (off,ft)=>match ρ x with
    | .pt cs=>okP (Nat.blt 0 (P.cellsOf ft)) (.pt (dropS cs off))
    | .rp i o=>match m.get i with
      | some _=>rdP (Nat.blt 0 (P.cellsOf ft)) (.rp i (o+off)) i
      | none=>none
    | _=>none
  | none=>none
noncomputable def kField (t:TypeId) (x:Operand) (k:Nat):OpK:=fun P ρ _ _=>match fieldP P t k,ρ x with
  | some (off,ft),.agg cs=>okP (tyOk P ft&&hasN (off+P.cellsOf ft) cs) (takeQ P ft (dropS cs off))
  | _,_=>none
noncomputable def kIndexAddr (t:TypeId) (x i:Operand):OpK:=fun P ρ m _=>match ρ x,ρ i with
  | .sl es n,.s (.int _ (.ofNat k))=>okP (slT P t&&(Nat.blt k n&&hasN ((k+1)*P.cellsOf (elemP P t)) es)) (.pt (dropS es (k*P.cellsOf (elemP P t))))
  | .rs j off n,.s (.int _ (.ofNat k))=>match m.get j with
    | some _=>rdP (slT P t&&Nat.blt k n) (.rp j (off+k*P.cellsOf (elemP P t))) j
    | none=>none
  | .rp j off,.s (.int _ (.ofNat k))=>match m.get j with
    | some _=>rdP (arT P t&&Nat.blt k (lenP P t)) (.rp j (off+k*P.cellsOf (elemP P t))) j
    | none=>none
  | _,_=>none
noncomputable def kIndex (t:TypeId) (x i:Operand):OpK:=fun P ρ _ _=>match ρ x,ρ i with
  | .s (.string b),.s (.int _ (.ofNat k))=>okP (stT P t&&Nat.blt k b.data.toList.length) (.s (.int .u8 (b.data.toList.getD k 0).toNat))
  | .agg cs,.s (.int _ (.ofNat k))=>okP (arT P t&&(Nat.blt k (lenP P t)&&hasN ((k+1)*P.cellsOf (elemP P t)) cs)) (takeQ P (elemP P t) (dropS cs (k*P.cellsOf (elemP P t))))
  | _,_=>none
noncomputable def nthD:List D→Nat→Option D
  | [],_=>none
  | d::_,0=>some d
  | _::ds,n+1=>nthD ds n
noncomputable def kExtract (x:Operand) (k:Nat):OpK:=fun _ ρ _ _=>match ρ x with
  | .tup cs=>match nthD cs k with
    | some d=>some ⟨d,[],[],0⟩
    | none=>none
  | _=>none
noncomputable def kIface (t:TypeId) (x:Operand):OpK:=fun P ρ _ _=>match keyV (ρ x) with
  | some v=>okP (plain (.iface t v)&&ifT P t) (.s (.iface t v))
  | none=>none
noncomputable def kAssert (x:Operand) (t:TypeId) (ok:Bool):OpK:=fun P ρ _ _=>bif ok then match ρ x with
    | .s v=>okP ((ifV v&&ifT P t)&&(tyOk P t&&zOk P t)) (asrtD P t v)
    | _=>none
  else none
abbrev BuK:=Program→(Operand→D)→T Row→Nat→List Operand→List TypeId→Option Plan
noncomputable def kLen:BuK:=fun P ρ m _ xs ts=>match xs,ts with
  | [x],[t]=>match ρ x with
    | .sl _ n=>okP (slT P t) (.s (.int .i64 (.ofNat n)))
    | .rs i _ n=>match m.get i with
      | some _=>rdP (slT P t) (.s (.int .i64 (.ofNat n))) i
      | none=>none
    | .z=>okP (slT P t) (.s (.int .i64 (.ofNat 0)))
    | .s (.string b)=>okP (stT P t) (.s (.int .i64 (.ofNat b.data.toList.length)))
    | .agg _=>okP (arT P t) (.s (.int .i64 (.ofNat (lenP P t))))
    | .mp i=>match m.get i with
      | some (.map es)=>rdP (mapT P t) (.s (.int .i64 (.ofNat es.length))) i
      | _=>none
    | _=>none
  | _,_=>none
noncomputable def cellsK (m:T Row) (sz:Nat):D→Option (List Nat×Nat×List D)
  | .sl es n=>bif hasN (n*sz) es then some ([],n,takeR (n*sz) es) else none
  | .z=>some ([],0,[])
  | .rs i off n=>match m.get i with
    | some (.cells cs _)=>bif hasN (off+n*sz) cs then some ([i],n,takeR (n*sz) (dropS cs off)) else none
    | _=>none
  | _=>none
noncomputable def notIn (i:Nat):List Nat→Bool
  | []=>true
  | j::l=> !Nat.beq j i&&notIn i l
noncomputable def appK (P:Program) (m:T Row) (nx:Nat) (t:TypeId) (s:D) (rd:List Nat) (k:Nat) (news:List D):Option Plan:=match s with
  | .z=>newP (slT P t&&(Nat.blt 0 (P.cellsOf (elemP P t))&&(Nat.ble k maxLen&&Nat.ble (k*P.bytesOf (elemP P t)) 140737488355328))) nx (.rs nx 0 k) (.cells news (elemP P t)) rd
  | .sc es n=>newP ((slT P t&&lenN (n*P.cellsOf (elemP P t)) es)&&((Nat.blt 0 k&&Nat.blt 0 (P.cellsOf (elemP P t)))&&(Nat.ble (n+k) maxLen&&Nat.ble ((n+k)*P.bytesOf (elemP P t)) 140737488355328))) nx (.rs nx 0 (n+k)) (.cells (es++news) (elemP P t)) rd
  | .rs i off n=>match m.get i with
    | some (.cells cs e)=>bif ((slT P t&&Nat.beq e (elemP P t))&&(Nat.blt 0 (P.cellsOf (elemP P t))&&lenN (off+n*P.cellsOf (elemP P t)) cs))&&((Nat.ble (n+k) maxLen&&Nat.ble ((n+k)*P.bytesOf (elemP P t)) 140737488355328)&&notIn i rd) then
        some ⟨.rs nx 0 (n+k),[(i,none),(nx,some (.cells (dropS cs off++news) e))],i::rd,1⟩ else none
    | _=>none
  | _=>none
noncomputable def appSK (P:Program) (m:T Row) (nx:Nat) (t u:TypeId) (s:D) (b:ByteArray):Option Plan:=match s with
  | .z=>newP ((u8B P t&&stT P u)&&(Nat.ble b.size maxLen&&Nat.ble (b.size*P.bytesOf (elemP P t)) 140737488355328)) nx (.rs nx 0 b.size) (.cells (strD b) (elemP P t)) []
  | .rs i off n=>match m.get i with
    | some (.cells cs e)=>bif (Nat.beq e (elemP P t)&&(u8B P t&&stT P u))&&(lenN (off+n) cs&&(Nat.ble (n+b.size) maxLen&&Nat.ble ((n+b.size)*P.bytesOf (elemP P t)) 140737488355328)) then
        some ⟨.rs nx 0 (n+b.size),[(i,none),(nx,some (.cells (dropS cs off++strD b) e))],[i],1⟩ else none
    | _=>none
  | _=>none
noncomputable def kAppend:BuK:=fun P ρ m nx xs ts=>match xs,ts with
  | [s,x],[t,u]=>match ρ x with
    | .s (.string b)=>appSK P m nx t u (ρ s) b
    | d=>bif Nat.beq t u then match cellsK m (P.cellsOf (elemP P t)) d with
       | some (rd,k,news)=>appK P m nx t (ρ s) rd k news
       | none=>none
      else none
  | _,_=>none
noncomputable def kMin:BuK:=fun _ ρ _ _ xs ts=>match xs,ts with
  | [x,y],[_,_]=>match ρ x,ρ y with
    | .s (.int k a),.s (.int k' b)=>sI (sameI k k') k (bif ltI b a then b else a)
    | _,_=>none
  | _,_=>none
noncomputable def kClear:BuK:=fun P ρ m _ xs ts=>match xs,ts with
  | [x],[t]=>match ρ x with
    | .rs i off n=>match m.get i with
      | some (.cells cs e)=>wrP (slT P t&&(Nat.beq e (elemP P t)&&hasN (off+n*P.cellsOf e) cs)) i (.cells (splice cs off (replD n (zeroP P e))) e)
      | _=>none
    | _=>none
  | _,_=>none
noncomputable def kDelete:BuK:=fun P ρ m _ xs ts=>match xs,ts with
  | [x,k],[t,_]=>match keyV (ρ k),ρ x with
    | some key,.mp i=>match m.get i with
      | some (.map es)=>wrP (mapT P t&&(keyP P (mkeyP P t) key&&keysOk P (mkeyP P t) es)) i (.map (delD key es))
      | _=>none
    | _,_=>none
  | _,_=>none
noncomputable def kCopy:BuK:=fun P ρ m _ xs ts=>match xs,ts with
  | [x,y],[t,u]=>match ρ x with
    | .rs i off n=>match m.get i,cellsK m (P.cellsOf (elemP P t)) (ρ y) with
      | some (.cells cs e),some (rd,k,news)=>bif (Nat.beq t u&&Nat.beq e (elemP P t))&&(slT P t&&(Nat.ble k n&&hasN (off+n*P.cellsOf (elemP P t)) cs)) then
          some ⟨.s (.int .i64 (.ofNat k)),[(i,some (.cells (splice cs off news) e))],i::rd,0⟩ else none
      | _,_=>none
    | _=>none
  | _,_=>none
noncomputable def kSData:BuK:=fun _ ρ m _ xs ts=>match xs,ts with
  | [s],[_]=>match ρ s with
    | .rs i off n=>match m.get i with
      | some _=>rdP (Nat.blt 0 n) (.rp i off) i
      | none=>none
    | _=>none
  | _,_=>none
noncomputable def kUStr:BuK:=fun P ρ m _ xs ts=>match xs,ts with
  | [p,n],[t,_]=>match ρ p,ρ n with
    | .rp i off,.s (.int _ (.ofNat k))=>match m.get i with
      | some (.cells cs e)=>match ints? (takeR k (dropS cs off)),P.underlying t with
        | some l,some (.pointer e')=>bif (Nat.beq k l.length&&Nat.beq e' e)&&((Nat.blt 0 l.length&&Nat.beq (P.cellsOf e) 1)&&(Nat.ble l.length maxLen&&l.all fun x=> !ltI x 0&&ltI x 256)) then
            some ⟨.s (.string (mkStr l)),[(i,none)],[i],0⟩ else none
        | _,_=>none
      | _=>none
    | _,_=>none
  | _,_=>none
noncomputable def noB:BuK:=fun _ _ _ _ _ _=>none
noncomputable def buK:Builtin→BuK
  | .len=>kLen
  | .append=>kAppend
  | .min=>kMin
  | .clear=>kClear
  | .delete=>kDelete
  | .copy=>kCopy
  | .unsafeSliceData=>kSData
  | .unsafeString=>kUStr
  | _=>noB
noncomputable def kBuiltin (b:Builtin) (xs:Array Operand) (ts:Array TypeId):OpK:=fun P ρ m nx=>buK b P ρ m nx xs.toList ts.toList
noncomputable def noK:OpK:=fun _ _ _ _=>none
noncomputable def kCall (c:Call):OpK:=match c.callee with
  | .builtin b=>kBuiltin b c.args c.argTypes
  | _=>noK
noncomputable def opK:Op→OpK
  | .move x=>kMove x
  | .assign x=>kMove x
  | .pick c a b=>kPick c a b
  | .alloc t=>kAlloc t
  | .box t x=>kBox t x
  | .build t ps=>kBuild t ps
  | .buildSlice t n ps=>kBuildSlice t n ps
  | .load t a=>kLoad t a
  | .store t a x=>kStore t a x
  | .nilCheck x=>kNilCheck x
  | .binOp op t x y _=>kBin op t x y
  | .unOp op _ x=>kUn op x
  | .convert src dst x=>kConv src dst x
  | .makeFunc f fs cs=>kFunc f fs cs
  | .makeMap _ r=>kMap r
  | .makeSlice t l c=>kMake t l c
  | .lookup t x k ok=>kLook t x k ok
  | .mapUpdate t x k v=>kPut t x k v
  | .insert t x k v=>kPut t x k v
  | .slice t x lo hi mx=>kSlice t x lo hi mx
  | .fieldAddr t x k=>kFieldAddr t x k
  | .field t x k=>kField t x k
  | .indexAddr t x i=>kIndexAddr t x i
  | .index t x i=>kIndex t x i
  | .extract x k=>kExtract x k
  | .makeInterface t x=>kIface t x
  | .typeAssert x _ t ok=>kAssert x t ok
  | .call c=>kCall c
  | _=>noK
abbrev Hf:=List D→T Row→Nat→Option (Bool×T Row×Nat)
abbrev Hd:=List (Nat×Hf)
noncomputable def hdAt:Hd→Nat→Option Hf
  | [],_=>none
  | (j,h)::l,i=>bif Nat.beq j i then some h else hdAt l i
abbrev Ev:=Hd→Bool→Code→CSt→Option (Exit×CSt)
abbrev Res:=(D ⊕ List PanicEntry)×T Row×Nat
abbrev CallT:=FuncId→List D→T Row→Nat→Option Res
abbrev CallP:=FuncId→List D→T Row→Nat→Option Plan
abbrev Op1:=Option (Option (List PanicEntry)×CSt)
structure Ctx where
  tab:FuncId→Option (Func×Code)
  known:FuncId→List D→Option D:=fun _ _=>none
  knownA:FuncId→List D→T Row→Nat→Option Res:=fun _ _ _ _=>none
  deep:List Nat:=[]
noncomputable def putT (t:T D):Option Nat→D→Option (T D)
  | none,_=>some t
  | some i,d=>t.put i (some d)
noncomputable def upsE (m:T Row):List (Nat×Option Row)→Option (T Row)
  | []=>some m
  | (i,r)::us=>match m.put i r with
    | some m'=>upsE m' us
    | none=>none
noncomputable def putC (c:CSt) (dst:Option Nat) (d:D) (m:T Row) (nx:Nat):Option CSt:=match putT c.env dst d with
  | some env=>some ⟨env,m,nx⟩
  | none=>none
noncomputable def putP (c:CSt) (dst:Option Nat) (p:Plan):Option CSt:=match upsE c.mem p.ups with
  | some m=>putC c dst p.val m (c.nx+p.new)
  | none=>none
noncomputable def go1:Option CSt→Op1
  | some c=>some (none,c)
  | none=>none
noncomputable def finP (c:CSt) (dst:Option Nat):Option Plan→Op1
  | some p=>go1 (putP c dst p)
  | none=>none
noncomputable def finC (c:CSt) (dst:Option Nat):Option Res→Op1
  | some (.inl d,m,nx)=>go1 (putC c dst d m nx)
  | some (.inr ch,m,nx)=>some (some ch,⟨c.env,m,nx⟩)
  | none=>none
noncomputable def finY (c:CSt) (dst:Option Nat):Option (Bool×T Row×Nat)→Op1
  | some (b,m,nx)=>go1 (putC c dst (.s (.bool b)) m nx)
  | none=>none
abbrev OpF:=Program→Hd→CallT→Option Nat→CSt→Op1
noncomputable def fK (k:OpK):OpF:=fun P _ _ dst c=>finP c dst (k P (valE c.env) c.mem c.nx)
noncomputable def fYield (i:Nat) (args:List D):OpF:=fun _ hd _ dst c=>match hdAt hd i,c.mem.get i with
  | some h,some (.lp .ready)=>finY c dst (h args c.mem c.nx)
  | _,_=>none
noncomputable def fCallV (f:Operand) (xs:Array Operand):OpF:=fun P hd call dst c=>match valE c.env f with
  | .fn (.func g) fs cs=>finC c dst (call g (fs++xs.toList.map (valE c.env)++cs) c.mem c.nx)
  | .yl i=>fYield i (xs.toList.map (valE c.env)) P hd call dst c
  | _=>none
noncomputable def fPanic (x:Operand):OpF:=fun _ _ _ _ c=>match valE c.env x with
  | .s (.iface t v)=>some (some [{ v:=.iface t v,recovered:=false }],c)
  | _=>none
noncomputable def fCall (c:Call):OpF:=match c.callee with
  | .value f=>fCallV f c.args
  | .builtin b=>fK (kBuiltin b c.args c.argTypes)
  | _=>fK noK
noncomputable def opF:Op→OpF
  | .call c=>fCall c
  | .panic x=>fPanic x
  | o=>fK (opK o)
noncomputable def guardV (ops:Array Oper) (j:Nat) (b:Bool) (c:CSt):Option Bool:=match ops[j]? with
  | some o=>match o.dst with
    | some t=>guardC (getD c.env t) b
    | none=>none
  | none=>none
noncomputable def skipC (dst:Option Nat) (c:CSt):Op1:=go1 (putC c dst skipD c.mem c.nx)
noncomputable def opT (P:Program) (hd:Hd) (call:CallT) (ops:Array Oper) (o:Oper) (c:CSt):Op1:=match o.guard with
  | none=>opF o.op P hd call o.dst c
  | some (j,b)=>match guardV ops j b c with
    | none=>none
    | some false=>skipC o.dst c
    | some true=>opF o.op P hd call o.dst c
noncomputable def opsT (P:Program) (hd:Hd) (call:CallT) (ops:Array Oper):List Oper→CSt→Option (Exit×CSt)
  | [],c=>some (.normal,c)
  | o::os,c=>match opT P hd call ops o c with
    | some (none,c')=>opsT P hd call ops os c'
    | some (some ch,c')=>some (.panic ch,c')
    | none=>none
abbrev OpG:=Program→CallP→CSt→Option Plan
noncomputable def gK (k:OpK):OpG:=fun P _ c=>k P (valE c.env) c.mem c.nx
noncomputable def gCallV (f:Operand) (xs:Array Operand):OpG:=fun _ call c=>match valE c.env f with
  | .fn (.func g) fs cs=>call g (fs++xs.toList.map (valE c.env)++cs) c.mem c.nx
  | _=>none
noncomputable def gCall (c:Call):OpG:=match c.callee with
  | .value f=>gCallV f c.args
  | .builtin b=>gK (kBuiltin b c.args c.argTypes)
  | _=>gK noK
noncomputable def opG:Op→OpG
  | .call c=>gCall c
  | o=>gK (opK o)
noncomputable def planE (P:Program) (call:CallP) (ops:Array Oper) (o:Oper) (c:CSt):Option Plan:=match o.guard with
  | none=>opG o.op P call c
  | some (j,b)=>match guardV ops j b c with
    | none=>none
    | some false=>some ⟨skipD,[],[],0⟩
    | some true=>opG o.op P call c
noncomputable def plansE (P:Program) (call:CallP) (ops:Array Oper):List Oper→CSt→Option (List Plan×CSt)
  | [],c=>some ([],c)
  | o::os,c=>match planE P call ops o c with
    | some p=>match putP c o.dst p with
      | some c'=>match plansE P call ops os c' with
        | some (ps,c'')=>some (p::ps,c'')
        | none=>none
      | none=>none
    | none=>none
noncomputable def meets (l:List Nat):List Nat→Bool
  | []=>false
  | x::xs=> !notIn x l||meets l xs
noncomputable def apartE (ps:List Plan) (q:Nat×Nat):Bool:=match ps[q.1]?,ps[q.2]? with
  | some a,some b=> !meets b.rd a.wr&&(!meets b.wr a.wr&& !meets a.rd b.wr)
  | _,_=>false
noncomputable def aparts (ps:List Plan):List (Nat×Nat)→Bool
  | []=>true
  | q::l=>apartE ps q&&aparts ps l
noncomputable def drawE (P:Program) (hd:Hd) (callt:CallT) (callp:CallP) (ops:Array Oper) (c:CSt):Option (List (Nat×Nat))→Option (Exit×CSt)
  | some cf=>match plansE P callp ops ops.toList c with
      | some (ps,c')=>bif aparts ps cf then some (.normal,c') else none
      | none=>bif lastB ops then match plansE P callp ops (ops.toList.take (ops.size - 1)) c with
          | some (ps,c')=>bif aparts ps cf then opsT P hd callt ops (ops.toList.drop (ops.size - 1)) c' else none
          | none=>none
        else none
  | none=>none
noncomputable def ofArgs:Nat→List D→T D→Option (T D)
  | _,[],t=>some t
  | k,d::ds,t=>match t.put k (some d) with
    | some t'=>ofArgs (k+1) ds t'
    | none=>none
noncomputable def setAllE:T D→List Tmp→List D→Option (T D)
  | t,p::ps,d::ds=>match t.put p (some d) with
    | some t'=>setAllE t' ps ds
    | none=>none
  | t,_,_=>some t
noncomputable def resE (P:Program) (c:CSt):ResultVar→Option D
  | .tmp t=>some (getD c.env t)
  | .cell a t=>match getD c.env a with
    | .rp i off=>match c.mem.get i with
      | some (.cells cs _)=>bif tyOk P t&&hasN (off+P.cellsOf t) cs then some (takeQ P t (dropS cs off)) else none
      | _=>none
    | .pt cs=>bif tyOk P t&&hasN (P.cellsOf t) cs then some (takeQ P t cs) else none
    | _=>none
noncomputable def retE (P:Program) (c:CSt):List ResultVar→Option (List D)
  | []=>some []
  | r::rs=>match resE P c r with
    | some d=>match retE P c rs with
      | some ds=>some (d::ds)
      | none=>none
    | none=>none
noncomputable def leaveR (P:Program) (fn:Func) (s:CSt):Option Res:=match retE P s fn.results.toList with
  | some ds=>some (.inl (one1 ds),s.mem,s.nx)
  | none=>none
noncomputable def leaveE (P:Program) (fn:Func):Option (Exit×CSt)→Option Res
  | some (.normal,s)=>leaveR P fn s
  | some (.ret,s)=>leaveR P fn s
  | some (.panic ch,s)=>some (.inr ch,s.mem,s.nx)
  | _=>none
noncomputable def runE (P:Program) (x:Ctx) (ev:Ev) (hd:Hd) (f:FuncId) (args:List D) (m:T Row) (nx:Nat):Option Res:=
  match x.tab f with
  | none=>none
  | some (fn,c)=>bif hasN args.length (List.replicate fn.ntmps .u) then
      match ofArgs 0 args .leaf with
      | none=>none
      | some t=>leaveE P fn (ev hd true c ⟨t,m,nx⟩)
    else none
noncomputable def trB:Nat→D→Bool
  | 0,_=>false
  | n+1,d=>match d with
    | .rs .. | .rp .. | .mp _ | .sc .. | .yl _=>false
    | .opt _ d=>trB n d
    | .agg cs | .tup cs | .pt cs | .sl cs _=>cs.all (trB n)
    | .fn _ fs cs=>fs.all (trB n)&&cs.all (trB n)
    | .im es=>es.all fun x=>trB n x.2
    | _=>true
noncomputable def mapO {α β:Type} (f:α→Option (β×List Nat)):List α→Option (List β×List Nat)
  | []=>some ([],[])
  | x::xs=>match f x with
    | none=>none
    | some y=>match mapO f xs with
      | none=>none
      | some ys=>some (y.1::ys.1,y.2++ys.2)
noncomputable def deepF (P:Program) (m:T Row):Nat→D→Option (D×List Nat)
  | 0,_=>none
  | n+1,d=>match d with
    | .mp i=>match m.get i with
      | some (.map es)=>(mapO (fun x=>(deepF P m n x.2).map fun y=>((x.1,y.1),y.2)) es).map fun x=>(.im x.1,i::x.2)
      | _=>none
    | .im es=>(mapO (fun x=>(deepF P m n x.2).map fun y=>((x.1,y.1),y.2)) es).map fun x=>(.im x.1,x.2)
    | .rs i off k=>match m.get i with
      | some (.cells cs e)=>(mapO (deepF P m n) ((cs.drop off).take (k*P.cellsOf e))).map fun x=>(.sl x.1 k,i::x.2)
      | _=>none
    | .rp i off=>match m.get i with
      | some (.cells cs _)=>(mapO (deepF P m n) (cs.drop off)).map fun x=>(.pt x.1,i::x.2)
      | _=>none
    | .opt true d=>(deepF P m n d).map fun x=>(.opt true x.1,x.2)
    | .opt false _=>some (.opt false .u,[])
    | .agg cs=>(mapO (deepF P m n) cs).map fun x=>(.agg x.1,x.2)
    | .tup cs=>(mapO (deepF P m n) cs).map fun x=>(.tup x.1,x.2)
    | .sl cs k=>(mapO (deepF P m n) cs).map fun x=>(.sl x.1 k,x.2)
    | .pt cs=>(mapO (deepF P m n) cs).map fun x=>(.pt x.1,x.2)
    | .fn f fs cs=>match mapO (deepF P m n) fs with
      | none=>none
      | some x=>(mapO (deepF P m n) cs).map fun y=>(.fn f x.1 y.1,x.2++y.2)
    | .s v=>some (.s v,[])
    | .ub=>some (.ub,[])
    | .u=>some (.u,[])
    | .z=>some (.z,[])
    | .sc .. | .yl _=>none
noncomputable def depth:Nat:=12
noncomputable def deepR (P:Program) (m:T Row) (d:D):Option (D ⊕ (List D×Nat×TypeId)):=match deepF P m depth d with
  | some (r,_)=>some (.inl r)
  | none=>none
noncomputable def pureR (P:Program):Option Res→Option (D ⊕ (List D×Nat×TypeId))
  | some (.inl (.rs i 0 k),m,_)=>match m.get i with
    | some (.cells es t)=>bif es.all (trB depth) then some (.inr (es,k,t)) else deepR P m (.rs i 0 k)
    | _=>none
  | some (.inl d,m,_)=>deepR P m d
  | _=>none
noncomputable def pureE (P:Program) (x:Ctx) (ev:Ev) (f:FuncId) (args:List D):Option (D ⊕ (List D×Nat×TypeId)):=pureR P (runE P x ev [] f args .leaf 0)
noncomputable def planR (nx:Nat):Option (D ⊕ (List D×Nat×TypeId))→Option Plan
  | some (.inl r)=>some ⟨r,[],[],0⟩
  | some (.inr (es,k,t))=>some ⟨.rs nx 0 k,[(nx,some (.cells es t))],[],1⟩
  | none=>none
noncomputable def planS (rds:List Nat):Option (D ⊕ (List D×Nat×TypeId))→Option Plan
  | some (.inl r)=>bif r.scal then some ⟨r,[],rds,0⟩ else none
  | _=>none
noncomputable def callP (P:Program) (x:Ctx) (ev:Ev):CallP:=fun f args m nx=>match x.known f args with
  | some r=>some ⟨r,[],[],0⟩
  | none=>bif args.all (trB depth) then planR nx (pureE P x ev f args)
    else match mapO (deepF P m depth) args with
      | none=>none
      | some (args',rds)=>match x.known f args' with
        | some r=>planS rds (some (.inl r))
        | none=>planS rds (pureE P x ev f args')
noncomputable def inL (f:Nat):List Nat→Bool
  | []=>false
  | g::l=>bif Nat.beq g f then true else inL f l
noncomputable def noRef:Nat→D→Bool
  | 0,_=>false
  | n+1,d=>match d with
    | .s _ | .ub | .z=>true
    | .agg cs | .tup cs=>cs.all (noRef n)
    | _=>false
noncomputable def deepK (x:Ctx) (f:FuncId):Option (List D×List Nat)→Option D
  | some (args,_)=>match x.known f args with
    | some r=>bif noRef depth r then some r else none
    | none=>none
  | none=>none
noncomputable def callT (P:Program) (x:Ctx) (ev:Ev) (hd:Hd):CallT:=fun f args m nx=>match x.known f args with
  | some r=>some (.inl r,m,nx)
  | none=>match x.knownA f args m nx with
    | some r=>some r
    | none=>match bif inL f x.deep then deepK x f (mapO (deepF P m depth) args) else none with
      | some r=>some (.inl r,m,nx)
      | none=>runE P x ev hd f args m nx
noncomputable def markE (il:Nat) (b:Bool) (k:RS) (s:CSt):Option (Bool×T Row×Nat):=match s.mem.get il with
  | some (.lp .busy)=>match s.mem.put il (some (.lp k)) with
    | some m=>some (b,m,s.nx)
    | none=>none
  | _=>none
noncomputable def roundX (il:Nat):Option (Exit×CSt)→Option (Bool×T Row×Nat)
  | some (.normal,s)=>markE il true .ready s
  | some (.ret,s)=>markE il false (.done .ret) s
  | some (.exit i,s)=>markE il false (.done (.exit i)) s
  | _=>none
noncomputable def roundB (ev:Ev) (hd:Hd) (il:Nat) (body:Code):Option (Exit×CSt)→Option (Bool×T Row×Nat)
  | some (.normal,s)=>match s.mem.get il with
    | some (.lp .ready)=>match s.mem.put il (some (.lp .busy)) with
      | some m=>roundX il (ev hd false body ⟨s.env,m,s.nx⟩)
      | none=>none
    | _=>none
  | _=>none
noncomputable def roundE (ev:Ev) (hd:Hd) (il:Nat) (env:T D) (ps:List Tmp) (assign body:Code):Hf:=fun args m nx=>
  bif Nat.beq args.length ps.length then match setAllE env ps args with
    | some t=>roundB ev hd il body (ev hd false assign ⟨t,m,nx⟩)
    | none=>none
  else none
noncomputable def endL (il:Nat) (env:T D) (m:T Row) (nx:Nat) (e:Exit):Option (Exit×CSt):=match m.put il none with
  | some m'=>some (e,⟨env,m',nx⟩)
  | none=>none
noncomputable def rangeX (il:Nat) (env:T D):Option Res→Option (Exit×CSt)
  | some (.inl _,m,nx)=>match m.get il with
    | some (.lp .ready)=>endL il env m nx .normal
    | some (.lp (.done .ret))=>endL il env m nx .ret
    | some (.lp (.done (.exit i)))=>endL il env m nx (.exit i)
    | _=>none
  | _=>none
abbrev CodeF:=Program→Ctx→Ev→Hd→Bool→CSt→Option (Exit×CSt)
noncomputable def cSkip:CodeF:=fun _ _ _ _ _ s=>some (.normal,s)
noncomputable def cRegion (ops:Array Oper):Bool→CodeF
  | false=>fun P x ev hd _ s=>opsT P hd (callT P x ev hd) ops ops.toList s
  | true=>fun P x ev hd _ s=>drawE P hd (callT P x ev hd) (callP P x ev) ops s (drawInfo ops)
noncomputable def thenE (ev:Ev) (hd:Hd) (rf:Bool) (b:Code):Option (Exit×CSt)→Option (Exit×CSt)
  | some (.normal,s)=>ev hd rf b s
  | r=>r
noncomputable def cSeq (a b:Code):CodeF:=fun _ _ ev hd rf s=>thenE ev hd rf b (ev hd rf a s)
noncomputable def cCond (c:Operand) (a b:Code):CodeF:=fun _ _ ev hd rf s=>match valE s.env c with
  | .s (.bool true)=>ev hd rf a s
  | .s (.bool false)=>ev hd rf b s
  | _=>none
noncomputable def inBlk (id:Nat):Option (Exit×CSt)→Option (Exit×CSt)
  | some (.exit i,s)=>bif Nat.beq i id then some (.normal,s) else some (.exit i,s)
  | r=>r
noncomputable def cBlock (id:Nat) (b:Code):CodeF:=fun _ _ ev hd rf s=>inBlk id (ev hd rf b s)
noncomputable def noGo:Option (Exit×CSt)→Option (Exit×CSt)
  | some (.goto _,_)=>none
  | r=>r
noncomputable def cScope (b:Code):CodeF:=fun _ _ ev hd rf s=>noGo (ev hd rf b s)
noncomputable def cLoop (b:Code):CodeF:=fun _ _ ev hd rf s=>thenE ev hd rf (.loop b) (ev hd rf b s)
noncomputable def cRange (g:Operand) (ps:Array Tmp) (assign body:Code):CodeF:=fun P x ev hd rf s=>bif rf then match valE s.env g with
    | .fn (.func f) fs cs=>match s.mem.put s.nx (some (.lp .ready)) with
      | none=>none
      | some m0=>rangeX s.nx s.env (runE P x ev ((s.nx,roundE ev hd s.nx s.env ps.toList assign body)::hd) f (fs++[.yl s.nx]++cs) m0 (s.nx+1))
    | _=>none
  else none
noncomputable def cExit (e:Exit):CodeF:=fun _ _ _ _ _ s=>some (e,s)
noncomputable def cNone:CodeF:=fun _ _ _ _ _ _=>none
noncomputable def codeF:Code→CodeF
  | .skip=>cSkip
  | .region _ ops dr=>cRegion ops dr
  | .seq a b=>cSeq a b
  | .cond c a b=>cCond c a b
  | .block id b=>cBlock id b
  | .scope b=>cScope b
  | .loop b=>cLoop b
  | .rangeFunc g ps assign body=>cRange g ps assign body
  | .exit id=>cExit (.exit id)
  | .label _=>cSkip
  | .ret=>cExit .ret
  | _=>cNone
noncomputable def evC (P:Program) (x:Ctx):Nat→Ev
  | 0=>fun _ _ _ _=>none
  | n+1=>fun hd rf c s=>codeF c P x (evC P x n) hd rf s
end Go.Abs
