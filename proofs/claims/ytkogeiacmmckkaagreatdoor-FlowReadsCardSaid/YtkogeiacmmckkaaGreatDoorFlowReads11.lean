/- Part 11 of the proof; the last part says what is proved. -/
import Derived.Test.YtkogeiacmmckkaaGreatDoorFlowReads10
import Derived.RecoverIn
set_option linter.all false
namespace Go.Abs
noncomputable def sameD:D→D→Bool
  | .rp i o,.rp j q=>Nat.beq i j&&Nat.beq o q
  | .rs i o k,.rs j q l=>(Nat.beq i j&&Nat.beq o q)&&Nat.beq k l
  | .mp i,.mp j=>Nat.beq i j
  | .z,.z=>true
  | .s x,.s y=>veq1 x y
  | _,_=>false
noncomputable def sameDs:List D→List D→Bool
  | [],[]=>true
  | a::as,b::bs=>sameD a b&&sameDs as bs
  | _,_=>false
noncomputable def sameR:Option Row→Option Row→Bool
  | none,none=>true
  | some (.cells cs e),some (.cells ds e')=>Nat.beq e e'&&sameDs cs ds
  | _,_=>false
noncomputable def chgL (m m':T Row):List Nat→List (Nat×Option Row)
  | []=>[]
  | i::l=>bif sameR (m.get i) (m'.get i) then chgL m m' l else (i,m'.get i)::chgL m m' l
noncomputable def hvPlan (d:D) (m m':T Row) (nx nx':Nat):Plan:=⟨d,chgL m m' (List.range nx'),[],nx' - nx⟩
noncomputable def hvCall (call:CallT) (o:Oper) (c:CSt):Option Res:=match o.guard,o.op with
  | none,.call cl=>match cl.callee with
    | .value f=>match valE c.env f with
      | .fn (.func g) fs cs=>call g (fs++cl.args.toList.map (valE c.env)++cs) c.mem c.nx
      | _=>none
    | _=>none
  | _,_=>none
abbrev HR:=Option (List (Plan×Bool)×(CSt ⊕ (List PanicEntry×CSt)))
noncomputable def consH (p:Plan×Bool):HR→HR
  | some (ps,r)=>some (p::ps,r)
  | none=>none
noncomputable def plansH (P:Program) (callp:CallP) (callt:CallT) (ops:Array Oper):List Oper→CSt→HR
  | [],c=>some ([],.inl c)
  | o::os,c=>match hvCall callt o c with
    | some (.inl d,m',nx')=>match putP c o.dst (hvPlan d c.mem m' c.nx nx') with
      | some c'=>consH (hvPlan d c.mem m' c.nx nx',true) (plansH P callp callt ops os c')
      | none=>none
    | some (.inr ch,m',nx')=>match os with
      | []=>some ([],.inr (ch,⟨c.env,m',nx'⟩))
      | _=>none
    | none=>match planE P callp ops o c with
      | some p=>match putP c o.dst p with
        | some c'=>consH (p,false) (plansH P callp callt ops os c')
        | none=>none
      | none=>none
noncomputable def noUps (p:Plan):Bool:=p.ups.isEmpty&&Nat.beq p.new 0
noncomputable def pairB (ps:List (Plan×Bool)) (q:Nat×Nat):Bool:=match ps[q.1]?,ps[q.2]? with
  | some a,some b=>((!meets b.1.wr a.1.wr&& !meets b.1.rd a.1.wr)&& !meets a.1.rd b.1.wr)&&((!a.2||noUps b.1)&&(!b.2||noUps a.1))
  | _,_=>false
noncomputable def pairsB (ps:List (Plan×Bool)):List (Nat×Nat)→Bool
  | []=>true
  | q::l=>pairB ps q&&pairsB ps l
noncomputable def endH (P:Program) (callt:CallT) (ops:Array Oper) (p t:Nat) (ty:TypeId):HR→Option (Exit×CSt)
  | some (ps,.inl c1)=>bif pairsB ps (unordered (befs ops.toList []) ps.length) then match c1.mem.put c1.nx (some (.cells (zeroP P ty) ty)) with
      | some m=>match putC c1 (some t) (.rp c1.nx 0) m (c1.nx+1) with
        | some c2=>opsT P [] callt ops (ops.toList.drop (p+1)) c2
        | none=>none
      | none=>none
    else none
  | some (ps,.inr (ch,c1))=>bif pairsB ps (unordered (befs ops.toList []) ps.length)&&(List.range ps.length).all (fun i=>((befs ops.toList []).getD ps.length 0).testBit i) then some (.panic ch,c1) else none
  | none=>none
noncomputable def drawH2 (P:Program) (callp:CallP) (callt:CallT) (ops:Array Oper) (p:Nat) (c:CSt):Op→Option Nat→Option (Nat×Bool)→Option (Exit×CSt)
  | .alloc ty,some t,none=>bif tyOk P ty&&(ops.toList.take p).all (fun o=>match o.dst with
      | some u=> !Nat.beq u t
      | none=>true) then match putC c (some t) .u c.mem c.nx with
      | some c0=>endH P callt ops p t ty (plansH P callp callt ops (ops.toList.take p) c0)
      | none=>none
    else none
  | _,_,_=>none
noncomputable def drawH (P:Program) (callp:CallP) (callt:CallT) (ops:Array Oper) (c:CSt):Option (Exit×CSt):=
  bif Nat.ble 2 ops.size&&(lastB ops&&(drawInfo ops).isSome) then match ops[ops.size - 2]? with
    | some o=>drawH2 P callp callt ops (ops.size - 2) c o.op o.dst o.guard
    | none=>none
  else none
section
variable {P:Program} {F:Nat→Prop} {ops:Array Oper} {β:Pla} {w:World} {a:Act} {c c':CSt}
theorem sameD_eq {x y:D} (h:sameD x y=true):x=y:=by
  unfold sameD at h
  split at h
  · simp only [Bool.and_eq_true,Nat.beq_eq] at h;rw [h.1,h.2]
  · simp only [Bool.and_eq_true,Nat.beq_eq] at h;rw [h.1.1,h.1.2,h.2]
  · rw [Nat.eq_of_beq_eq_true h]
  · rfl
  · rw [veq1_eq h]
  · cases h
theorem sameDs_eq:∀ {xs ys:List D},sameDs xs ys=true→xs=ys
  | [],[],_=>rfl
  | x::xs,y::ys,h=>by
    simp only [sameDs,Bool.and_eq_true] at h
    rw [sameD_eq h.1,sameDs_eq h.2]
  | [],_::_,h=>by cases h
  | _::_,[],h=>by cases h
theorem sameR_eq {x y:Option Row} (h:sameR x y=true):x=y:=by
  unfold sameR at h
  split at h
  · rfl
  · simp only [Bool.and_eq_true,Nat.beq_eq] at h
    rw [h.1,sameDs_eq h.2]
  · cases h
theorem chgL_upds {m m':T Row}:∀ (l:List Nat) (g:Mem),(∀ i,g i=m.get i∨g i=m'.get i)→∀ i,upds g (chgL m m' l) i=if i∈l then m'.get i else g i
  | [],g,h,i=>by simp [chgL,upds]
  | j::l,g,h,i=>by
    cases hs:sameR (m.get j) (m'.get j) with
    | true=>
      simp only [chgL,hs,cond_true]
      rw [chgL_upds l g h i]
      have e:=sameR_eq hs
      by_cases hl:i∈l
      · rw [if_pos hl,if_pos (List.mem_cons_of_mem _ hl)]
      · rw [if_neg hl]
        by_cases hj:i=j
        · subst hj
          rw [if_pos (List.mem_cons_self ..)]
          rcases h i with h1 | h1
          · rw [h1,e]
          · exact h1
        · rw [if_neg (fun hm=>by rcases List.mem_cons.1 hm with e | e;exact hj e;exact hl e)]
    | false=>
      simp only [chgL,hs,cond_false,upds]
      rw [chgL_upds l (up g j (m'.get j)) (fun k=>by
       rw [up_apply]
       by_cases hk:k=j
       · subst hk;rw [if_pos rfl];exact .inr rfl
       · rw [if_neg hk];exact h k) i]
      by_cases hl:i∈l
      · rw [if_pos hl,if_pos (List.mem_cons_of_mem _ hl)]
      · rw [if_neg hl,up_apply]
        by_cases hj:i=j
        · subst hj;rw [if_pos rfl,if_pos (List.mem_cons_self ..)]
        · rw [if_neg hj,if_neg (fun hm=>by rcases List.mem_cons.1 hm with e | e;exact hj e;exact hl e)]
theorem hv_run {o:Oper} {f:FuncId} {args:List D} {y:D ⊕ List PanicEntry} {m':T Row} {nx':Nat} {env:Env} (hg:o.guard=none) (hc:callD (valE c.env) o.op=some (f,args)) (hz:ZC P [] f args (memF c.mem) c.nx y (memF m') nx')
    (he:∀ t∈o.looksAt ops,env t=(stE c).env t) (hE:ESim F β w env a) (hm:MSim P F (memF c.mem) β w) (hn:∀ i,c.nx≤i→β i=none) {r:Option Nat} {n:Nat} {QX:Exit→Act→World→Prop} {K:Act→World→Prop}
    (hK:∀ e w',Ends P F β w c.nx y (memF m') nx' e w'→(∃ v,e=.returned v∧K (a.put o.dst v) w')∨∃ ch,e=.panicked ch∧QX (.panic ch) a w'):runOp r n P ops QX o K a w:=by
  have he':∀ t,Operand.tmp t∈o.op.operands→unE env t=unE (envE c.env) t:=fun t ht=>by
    show unD (env t)=unD (envE c.env t)
    rw [looks_opd (st:=stE c) he t ht];rfl
  have hw:Region.wanted o (yielded ops a.tmps)=true:=by simp [Region.wanted,hg]
  refine run_callX hw hE.un (asks_un env _) (by rw [callD_env (rho_env he'),rho_val];exact hc) hz.1 fun vs hR=>(hz.2 F β w vs hdOk_nil hm hn hR).mono fun e w' hp=>hK e w' hp
theorem okH_zc {o:Oper} {f:FuncId} {args:List D} {d:D} {m':T Row} {nx':Nat} (hg:o.guard=none) (hc:callD (valE c.env) o.op=some (f,args)) (hz:ZC P [] f args (memF c.mem) c.nx (.inl d) (memF m') nx'):Plan.OkH P ops o (stE c) (hvPlan d c.mem m' c.nx nx'):=by
  intro F β w a env he hE hm hn r n QX K hK
  refine hv_run hg hc hz he hE hm hn fun e w' ⟨β',⟨v,h1,h2⟩,h3,h4,h5,h6,h7⟩=>.inl ⟨v,h1,hK v w' β' h2 ⟨fun i rr hi=>?_,h3.inj,h3.lt,h3.nf,h3.fb⟩ h5 fun i hi hnn=>?_⟩
  · have hu:=chgL_upds (m:=c.mem) (m':=m') (List.range nx') (memF c.mem) (fun i=>.inl rfl) i
    have hi':upds (memF c.mem) (chgL c.mem m' (List.range nx')) i=some rr:=hi
    rw [hu] at hi'
    by_cases hl:i∈List.range nx'
    · rw [if_pos hl] at hi'
      exact h3.row i rr hi'
    · rw [if_neg hl] at hi'
      obtain ⟨p,hp,_⟩:=hm.row i rr hi'
      have hge:nx'≤i:=by simpa using hl
      rw [hn i (Nat.le_trans h6 hge)] at hp
      cases hp
  · rcases hnn with hnn | hnn
    · exact h7 i hnn hi
    · refine h4 i ?_
      have:c.nx+(nx' - c.nx)≤i:=hnn
      omega
variable {callp:CallP} {callt:CallT}
theorem hvCall_ok (ht:CallTOk P [] callt) {o:Oper} {y:D ⊕ List PanicEntry} {m':T Row} {nx':Nat} (h:hvCall callt o c=some (y,m',nx')):o.guard=none∧∃ f args,callD (valE c.env) o.op=some (f,args)∧ZC P [] f args (memF c.mem) c.nx y (memF m') nx':=by
  unfold hvCall at h
  split at h
  · rename_i cl hg ho
    split at h
    · rename_i f hf
      split at h
      · rename_i g fs cs hv
        exact ⟨hg,g,_,by rw [ho];exact callD_of hf hv,ht _ _ _ _ _ _ _ h⟩
      · cases h
    · cases h
  · cases h
def HTo (P:Program) (oo:Nat→Oper) (pp:Nat→Plan) (st₀:St) (N k l:Nat):CSt ⊕ (List PanicEntry×CSt)→Prop
  | .inl c1=>l=N∧stE c1=sTx oo pp st₀ (k+l)
  | .inr (ch,c1)=>l+1=N∧∃ c2 f args,stE c2=sTx oo pp st₀ (k+l)∧c1.env=c2.env∧(oo (k+l)).guard=none∧callD (valE c2.env) (oo (k+l)).op=some (f,args)∧ZC P [] f args (memF c2.mem) c2.nx (.inr ch) (memF c1.mem) c1.nx
theorem plansH_ok (hp:CallPOk P callp) (ht:CallTOk P [] callt) (oo:Nat→Oper) (pp:Nat→Plan) (hv:Nat→Bool) (st₀:St):∀ (os:List Oper) (k:Nat) (ps:List (Plan×Bool)) (c:CSt) (r:CSt ⊕ (List PanicEntry×CSt)),(∀ j o,os[j]? =some o→oo (k+j)=o)→(∀ j p,ps[j]? =some p→pp (k+j)=p.1∧hv (k+j)=p.2)→
    stE c=sTx oo pp st₀ k→plansH P callp callt ops os c=some (ps,r)→
    (∀ j,k≤j→j<k+ps.length→(pp j).Ok P ops (oo j) (sTx oo pp st₀ j)∨(hv j=true∧(pp j).OkH P ops (oo j) (sTx oo pp st₀ j)))∧
    HTo P oo pp st₀ os.length k ps.length r
  | [],k,ps,c,r,ho,hq,hst,h=>by
    simp only [plansH,Option.some.injEq,Prod.mk.injEq] at h
    obtain ⟨rfl,rfl⟩:=h
    exact ⟨fun j h1 h2=>absurd h2 (by simp;omega),rfl,hst⟩
  | o::os,k,ps,c,r,ho,hq,hst,h=>by
    have e1:oo k=o:=ho 0 o rfl
    have step:∀ {p:Plan} {b:Bool} {c1:CSt},(p.Ok P ops o (stE c)∨(b=true∧p.OkH P ops o (stE c)))→putP c o.dst p=some c1→consH (p,b) (plansH P callp callt ops os c1)=some (ps,r)→(∀ j,k≤j→j<k+ps.length→(pp j).Ok P ops (oo j) (sTx oo pp st₀ j)∨(hv j=true∧(pp j).OkH P ops (oo j) (sTx oo pp st₀ j)))∧
     HTo P oo pp st₀ (o::os).length k ps.length r:=fun {p b c1} hok hput hcons=>by
      cases hx:plansH P callp callt ops os c1 with
      | none=>rw [hx] at hcons;cases hcons
      | some z=>
        obtain ⟨qs,r'⟩:=z
        rw [hx] at hcons
        simp only [consH,Option.some.injEq,Prod.mk.injEq] at hcons
        obtain ⟨rfl,rfl⟩:=hcons
        obtain ⟨e2,e3⟩:=hq 0 (p,b) rfl
        simp only [Nat.add_zero] at e2 e3
        have hst1:stE c1=sTx oo pp st₀ (k+1):=by
          rw [sTx_succ,e1,e2, ← hst]
          exact putP_st hput
        obtain ⟨a1,a2⟩:=plansH_ok hp ht oo pp hv st₀ os (k+1) qs c1 r' (fun j x hj=>by have:=ho (j+1) x (by simpa using hj);rw [← this];congr 1;omega)
          (fun j x hj=>by have:=hq (j+1) x (by simpa using hj);rw [show k+1+j=k+(j+1) by omega];exact this) hst1 hx
        have e4:k+((p,b)::qs).length=k+1+qs.length:=by simp;omega
        refine ⟨fun j hj hj2=>?_,?_⟩
        rw [e4] at hj2
        · rcases Nat.lt_or_ge k j with hlt | hge
          · exact a1 j hlt hj2
          · have:j=k:=by omega
            subst this
            rw [e1,e2,e3, ← hst]
            exact hok
        · cases r' with
          | inl c3=>exact ⟨by simp [a2.1],by rw [e4];exact a2.2⟩
          | inr z=>exact ⟨by simp only [List.length_cons];have:=a2.1;omega,by rw [e4];exact a2.2⟩
    simp only [plansH] at h
    split at h
    · rename_i d m' nx' hh
      split at h
      · rename_i c1 hput
        obtain ⟨g1,f,args,g2,g3⟩:=hvCall_ok ht hh
        exact step (.inr ⟨rfl,okH_zc g1 g2 g3⟩) hput h
      · cases h
    · rename_i ch m' nx' hh
      split at h
      · simp only [Option.some.injEq,Prod.mk.injEq] at h
        obtain ⟨rfl,rfl⟩:=h
        obtain ⟨g1,f,args,g2,g3⟩:=hvCall_ok ht hh
        refine ⟨fun j h1 h2=>absurd h2 (by simp;omega),rfl,c,f,args,hst,rfl,?_,?_,g3⟩
        · simp only [List.length_nil,Nat.add_zero];rw [e1];exact g1
        · simp only [List.length_nil,Nat.add_zero];rw [e1];exact g2
      · cases h
    · split at h
      · rename_i p hpl
        split at h
        · rename_i c1 hput
          exact step (.inl (planE_ok hp hpl).1) hput h
        · cases h
      · cases h
theorem pairsB_spec {ps:List (Plan×Bool)}:∀ {l:List (Nat×Nat)},pairsB ps l=true→∀ q∈l,PairOk (ps.getD q.1 default).1 (ps.getD q.2 default).1 (ps.getD q.1 default).2 (ps.getD q.2 default).2
  | [],_,q,hq=>by cases hq
  | p::l,h,q,hq=>by
    simp only [pairsB,Bool.and_eq_true] at h
    rcases List.mem_cons.1 hq with rfl | hq
    · have h:=h.1
      unfold pairB at h
      split at h
      · rename_i x y hx hy
        simp only [Bool.and_eq_true,Bool.not_eq_true',Bool.or_eq_true] at h
        obtain ⟨⟨⟨h1,h2⟩,h3⟩,h4,h5⟩:=h
        have nu:∀ {p:Plan},noUps p=true→p.ups=[]∧p.new=0:=fun h=>by
          simpa [noUps] using h
        simp only [List.getD,hx,hy,Option.getD_some]
        exact ⟨meets_spec h1,meets_spec h2,meets_spec h3,fun e=>nu (h4.resolve_left (by rw [e];simp)),fun e=>nu (h5.resolve_left (by rw [e];simp))⟩
      · cases h
    · exact pairsB_spec h.2 q hq
theorem drawH_ok {r:Option Nat} {n id:Nat} {e:Exit} (hmix:P.follows .mixedOrders=true) (hp:CallPOk P callp) (ht:CallTOk P [] callt) (hlt:opsLt a.tmps.size ops=true) (h:drawH P callp callt ops c=some (e,c'))
    (hs:Sim P F (stE c) β w a):(Code.region id ops true).wpIn (Fe r) n P (Post P F c.nx β w a (QE e c')) a w:=by
  unfold drawH at h
  cases hb:(Nat.ble 2 ops.size&&(lastB ops&&(drawInfo ops).isSome)) with
  | false=>rw [hb] at h;cases h
  | true=>
  rw [hb] at h
  simp only [Bool.and_eq_true,Nat.ble_eq] at hb
  obtain ⟨hsz2,hlast,hinfo⟩:=hb
  obtain ⟨cf,hcf⟩:=Option.isSome_iff_exists.1 hinfo
  obtain ⟨hed,hta,_⟩:=drawInfo_spec hcf
  obtain ⟨_,hfull⟩:=lastB_spec hlast
  obtain ⟨p,hpz⟩:∃ p,ops.size=p+2:=⟨ops.size - 2,by omega⟩
  have ep:ops.size - 2=p:=by omega
  have eq1:ops.size - 1=p+1:=by omega
  rw [ep] at h
  rw [eq1] at hfull
  simp only [cond_true] at h
  split at h
  rotate_left
  · cases h
  rename_i ol hol
  unfold drawH2 at h
  split at h
  rotate_left
  · cases h
  rename_i ty t hop hdst hgd
  cases hck:(tyOk P ty&&(ops.toList.take p).all (fun o=>match o.dst with
      | some u=> !Nat.beq u t
      | none=>true)) with
  | false=>rw [hck] at h;cases h
  | true=>
  rw [hck] at h
  simp only [Bool.and_eq_true,List.all_eq_true] at hck
  obtain ⟨hty,hdj⟩:=hck
  simp only [cond_true] at h
  split at h
  rotate_left
  · cases h
  rename_i c0 hc0
  cases hpl:plansH P callp callt ops (ops.toList.take p) c0 with
  | none=>rw [hpl] at h;cases h
  | some z=>
  obtain ⟨ps,rr⟩:=z
  rw [hpl] at h
  have e0:=putC_st hc0
  have e0':stE c0=⟨up (envE c.env) t .u,memF c.mem,c.nx⟩:=e0
  have hs0:Sim P F (stE c0) β w a:=by
    rw [e0']
    refine ⟨fun u=>?_,hs.m,hs.n⟩
    by_cases hu:u=t
    · subst hu
      show R F β w (up (envE c.env) u .u u) _
      rw [up_same];exact .u _
    · show R F β w (up (envE c.env) t .u u) _
      rw [up_ne _ _ hu];exact hs.e u
  have hlen:(ops.toList.take p).length=p:=by simp;omega
  have hooA:∀ j o,ops[j]? =some o→ops.toList.getD j default=o:=fun j o hj=>by simp [hj]
  obtain ⟨k1,k2⟩:=plansH_ok hp ht (fun j=>ops.toList.getD j default) (fun j=>(ps.getD j default).1) (fun j=>(ps.getD j default).2) (stE c0) (ops.toList.take p) 0 ps c0 rr (fun j o hj=>by
    have hj':j<p:=by rw [← hlen];exact (List.getElem?_eq_some_iff.1 hj).1
    rw [List.getElem?_take,if_pos hj'] at hj
    simp at hj;simp [hj]) (fun j p hj=>by simp [hj]) rfl hpl
  simp only [Nat.zero_add] at k1 k2
  have hpairs:∀ {nl:Nat},nl=ps.length→nl≤p→pairsB ps (unordered (befs ops.toList []) ps.length)=true→∀ i j,i<j→j<nl→((befs ops.toList []).getD j 0).testBit i=false→(ops.toList.getD i default).apart ops (ops.toList.getD j default)=true∧PairOk (ps.getD i default).1 (ps.getD j default).1 (ps.getD i default).2 (ps.getD j default).2:=fun {nl} hnl hle hb i j hij hj hbit=>by
    refine ⟨?_,pairsB_spec hb (i,j) (mem_unordered hij (hnl▸hj) hbit)⟩
    have h1:=hta _ (mem_unordered hij (show j<ops.size by omega) hbit)
    have hi':i<ops.size:=by omega
    have hj':j<ops.size:=by omega
    simpa [tmpsApart,hi',hj'] using h1
  have hdj':∀ j,j<p→(ops.toList.getD j default).dst≠some t:=fun j hj e=>by
    have hj':j<ops.size:=by omega
    have hx:ops.toList.getD j default∈ops.toList.take p:=by
      have:(ops.toList.take p)[j]? =some (ops.toList.getD j default):=by
        rw [List.getElem?_take,if_pos hj];simp [hj']
      exact List.mem_of_getElem? this
    have:=hdj _ hx
    rw [e] at this
    simp at this
  have hstep:Step β w β { w with drawn:=w.drawn+1 }:=⟨Nat.le_refl _,fun _ _ h=>⟨rfl,h⟩,fun _ _ h=>.inl h,⟨rfl,rfl⟩,fun _ _ _ _=>skel_of rfl⟩
  have hm1:MSim P F (stE c0).mem β { w with drawn:=w.drawn+1 }:=hs0.m.ext (Nat.le_refl _) fun _ _=>rfl
  have hE1:ESim F β { w with drawn:=w.drawn+1 } (stE c0).env a:=hs0.e.step hstep
  obtain ⟨hE2,hm2⟩:=fl_none hE1 hm1
  have hst0:∀ nl,stF (fun j=>ops.toList.getD j default) (fun j=>(ps.getD j default).1) (stE c0) (fun j=>(Array.replicate ops.size false).getD j false) nl=stE c0:=fun nl=>by
    induction nl with
    | zero=>rfl
    | succ n ih=>
      have:(Array.replicate ops.size false).getD n false=false:=by simp [Array.getD_eq_getD_getElem?,Array.getElem?_replicate];split<;>rfl
      simp only [stF,this,Bool.false_eq_true,if_false]
      exact ih
  have hrep:∀ j,(Array.replicate ops.size false).getD j false=false:=fun j=>by simp [Array.getD_eq_getD_getElem?,Array.getElem?_replicate];split<;>rfl
  have hla:(ops.toList.getD p default).op=.alloc ty∧(ops.toList.getD p default).dst=some t∧(ops.toList.getD p default).guard=none:=by
    rw [hooA p ol hol];exact ⟨hop,hdst,hgd⟩
  have henv0:(stE c0).env t=.u:=by rw [e0'];exact up_same _ _ _
  have hnx0:(stE c0).nx=c.nx:=by rw [e0']
  have go:∀ {nl:Nat} (_:nl=ps.length) (_:nl≤p) (_:pairsB ps (unordered (befs ops.toList []) ps.length)=true)
   (_:nl=p→∀ β1 w1 a1,Sim P F ⟨up (sTx (fun j=>ops.toList.getD j default) (fun j=>(ps.getD j default).1) (stE c0) p).env t (.rp (sTx (fun j=>ops.toList.getD j default) (fun j=>(ps.getD j default).1) (stE c0) p).nx 0),up (sTx (fun j=>ops.toList.getD j default) (fun j=>(ps.getD j default).1) (stE c0) p).mem (sTx (fun j=>ops.toList.getD j default) (fun j=>(ps.getD j default).1) (stE c0) p).nx (some (.cells (zeroP P ty) ty)),(sTx (fun j=>ops.toList.getD j default) (fun j=>(ps.getD j default).1) (stE c0) p).nx+1⟩ β1 w1 a1→
    Since c.nx β w a ⟨up (sTx (fun j=>ops.toList.getD j default) (fun j=>(ps.getD j default).1) (stE c0) p).env t (.rp (sTx (fun j=>ops.toList.getD j default) (fun j=>(ps.getD j default).1) (stE c0) p).nx 0),up (sTx (fun j=>ops.toList.getD j default) (fun j=>(ps.getD j default).1) (stE c0) p).mem (sTx (fun j=>ops.toList.getD j default) (fun j=>(ps.getD j default).1) (stE c0) p).nx (some (.cells (zeroP P ty) ty)),(sTx (fun j=>ops.toList.getD j default) (fun j=>(ps.getD j default).1) (stE c0) p).nx+1⟩ β1 w1 a1→
    ∀ K:Act→World→Prop,(∀ a' w',Post P F c.nx β w a (QE e c') .normal a' w'→K a' w')→runOp r n P ops (Post P F c.nx β w a (QE e c')) (ops.toList.getD (p+1) default) K a1 w1)
   (_:nl<p→nl+1=p∧(∀ i,i<nl→((befs ops.toList []).getD nl 0).testBit i=true)∧∃ ch mP nxP,(QE e c') (.panic ch) ⟨(sTx (fun j=>ops.toList.getD j default) (fun j=>(ps.getD j default).1) (stE c0) nl).env,mP,nxP⟩∧
    ∀ (F:Nat→Prop) (β:Pla) (w:World) (a:Act),Sim P F (sTx (fun j=>ops.toList.getD j default) (fun j=>(ps.getD j default).1) (stE c0) nl) β w a→∀ (QX:Exit→Act→World→Prop) (K:Act→World→Prop),
      (∀ β' w',MSim P F mP β' w'→(∀ i,nxP≤i→β' i=none)→Step β w β' w'→(sTx (fun j=>ops.toList.getD j default) (fun j=>(ps.getD j default).1) (stE c0) nl).nx≤nxP→(∀ i,i<(sTx (fun j=>ops.toList.getD j default) (fun j=>(ps.getD j default).1) (stE c0) nl).nx→β i=none→β' i=none)→QX (.panic ch) a w')→runOp r n P ops QX (ops.toList.getD nl default) K a w),
   (Code.region id ops true).wpIn (Fe r) n P (Post P F c.nx β w a (QE e c')) a w:=fun {nl} hnl hle hpb hsuf hpan=>by
    refine wpIn_region_any hmix ?_
    refine draw_h (st₀:=stE c0) (oo:=fun j=>ops.toList.getD j default) (pp:=fun j=>(ps.getD j default).1) (hv:=fun j=>(ps.getD j default).2) (p:=p) (nl:=nl) (t:=t) (ty:=ty) r n hooA hlt hpz hed hla.1 hla.2.1 hla.2.2 hty hdj' henv0 hfull hle
      (fun j hj=>k1 j (Nat.zero_le _) (hnl▸hj)) (hpairs hnl hle hpb) hsuf hpan (by rw [hnx0];exact Nat.le_refl _) hs.m.fb ops.size (Array.replicate ops.size false) β _ a (by simp) ?_ (hrep _) (fun _=>hrep _) (fun j hj=>by rw [hrep] at hj;cases hj)
      ⟨none,fun h=>(by rw [hrep] at h;cases h),fun _=>rfl,fun b hb=>(by cases hb),⟨?_,?_,fun i hi _=>hs.n i (show c.nx≤i from hnx0▸hi),hstep,fun _ _ h=>h,rfl,rfl⟩⟩
    · simpa using List.countP_le_length (p:=fun b=> !b) (l:=(Array.replicate ops.size false).toList)
    · rw [hst0];exact hE2
    · rw [hst0];exact hm2
  cases rr with
  | inl c1=>
    obtain ⟨k3,k4⟩:=k2
    rw [hlen] at k3
    rw [k3,Nat.zero_add] at k4
    simp only [endH] at h
    cases hpb:pairsB ps (unordered (befs ops.toList []) ps.length) with
    | false=>rw [hpb] at h;cases h
    | true=>
    rw [hpb] at h
    simp only [cond_true] at h
    split at h
    rotate_left
    · cases h
    rename_i m hm
    split at h
    rotate_left
    · cases h
    rename_i c2 hc2
    refine go (nl:=p) k3.symm (Nat.le_refl _) hpb (fun _ β1 w1 a1 hs1 hsi1 K hK=>?_) fun h=>absurd h (Nat.lt_irrefl _)
    have e2:stE c2=⟨up (stE c1).env t (.rp (stE c1).nx 0),up (stE c1).mem (stE c1).nx (some (.cells (zeroP P ty) ty)),(stE c1).nx+1⟩:=by
      rw [putC_st hc2,memF_put hm];rfl
    rw [← k4, ← e2] at hs1 hsi1
    have hlt':p+1<ops.size:=by omega
    have hx:ops[p+1]? =some (ops.toList.getD (p+1) default):=by simp [hlt']
    have hd':ops.toList.drop (p+1)=[ops.toList.getD (p+1) default]:=by
      have hl2:p+1<ops.toList.length:=by simpa using hlt'
      rw [List.drop_eq_getElem_cons hl2,List.drop_eq_nil_of_le (by simp;omega)]
      simp [List.getD,hlt']
    rw [hd'] at h
    have hdst1:∀ u,(ops.toList.getD (p+1) default).dst=some u→u<a1.tmps.size:=fun u hu=>by rw [hsi1.size];exact opsLt_spec hlt hx u hu
    simp only [opsT] at h
    split at h
    · rename_i c3 h2
      simp only [Option.some.injEq,Prod.mk.injEq] at h
      obtain ⟨rfl,rfl⟩:=h
      exact opT_run ht h2 hdOk_nil hs1 hdst1 _ _ (fun _ β' a' w' g1 g2=>hK _ _ ⟨_,β',⟨rfl,rfl⟩,g1,hsi1.trans g2⟩) fun ch hch=>by cases hch
    · rename_i ch c3 h2
      simp only [Option.some.injEq,Prod.mk.injEq] at h
      obtain ⟨rfl,rfl⟩:=h
      exact opT_run ht h2 hdOk_nil hs1 hdst1 _ _ (fun hch=>by cases hch) fun ch' hch β' w' g1 g2=>by
        cases hch
        exact ⟨_,β',⟨rfl,rfl⟩,g1,hsi1.trans g2⟩
    · cases h
  | inr z=>
    obtain ⟨ch,c1⟩:=z
    obtain ⟨k3,c2,f,args,k4,k5,k6,k7,k8⟩:=k2
    rw [hlen] at k3
    rw [Nat.zero_add] at k4 k6 k7
    simp only [endH] at h
    cases hpb:pairsB ps (unordered (befs ops.toList []) ps.length)&&(List.range ps.length).all (fun i=>((befs ops.toList []).getD ps.length 0).testBit i) with
    | false=>rw [hpb] at h;cases h
    | true=>
    rw [hpb] at h
    simp only [cond_true,Option.some.injEq,Prod.mk.injEq] at h
    obtain ⟨rfl,rfl⟩:=h
    simp only [Bool.and_eq_true,List.all_eq_true,List.mem_range] at hpb
    have est:∀ mP nxP,(⟨(sTx (fun j=>ops.toList.getD j default) (fun j=>(ps.getD j default).1) (stE c0) ps.length).env,mP,nxP⟩:St)=⟨envE c1.env,mP,nxP⟩:=fun mP nxP=>by rw [← k4,k5];rfl
    refine go (nl:=ps.length) rfl (by omega) hpb.1 (fun h=>absurd h (by omega)) fun _=>⟨k3,hpb.2,ch,memF c1.mem,c1.nx,⟨rfl,est _ _⟩,fun F β w a hs1 QX K hq=>?_⟩
    · rw [← k4] at hs1
      refine hv_run (ops:=ops) k6 k7 k8 (fun _ _=>rfl) hs1.e hs1.m hs1.n fun e w' ⟨β',g1,g2,g3,g4,g5,g6⟩=>.inr ⟨ch,g1,hq β' w' g2 g3 g4 (by rw [← k4];exact g5) (by rw [← k4];exact g6)⟩
end
noncomputable def orH (P:Program) (callp:CallP) (callt:CallT) (ops:Array Oper) (s:CSt):Option (Exit×CSt)→Option (Exit×CSt)
  | some r=>some r
  | none=>drawH P callp callt ops s
noncomputable def spE (P:Program) (x:Ctx) (ev:Ev):Nat→Code→CSt→Option (Exit×CSt)
  | 0,_,_=>none
  | n+1,c,s=>match c with
    | .seq a b=>match spE P x ev n a s with
      | some (.normal,s')=>spE P x ev n b s'
      | r=>r
    | .region _ ops true=>orH P (callP P x ev) (callT P x ev []) ops s (drawE P [] (callT P x ev []) (callP P x ev) ops s (drawInfo ops))
    | c=>ev [] false c s
noncomputable def defOp (o:Oper):Option Operand:=match o.op,o.dst,o.guard with
  | .defer cl,none,none=>match cl.callee with
    | .value f=>bif Nat.beq cl.args.size 0 then some f else none
    | _=>none
  | _,_,_=>none
noncomputable def defReg:Code→Option (Array Oper×Operand)
  | .region _ ops false=>match ops[ops.size - 1]? with
    | some o=>match defOp o with
      | some f=>some (ops,f)
      | none=>none
    | none=>none
  | _=>none
noncomputable def dspE (P:Program) (x:Ctx) (ev:Ev):Nat→Code→CSt→Option (Exit×CSt×Option D)
  | 0,_,_=>none
  | n+1,c,s=>match c with
    | .seq a b=>match defReg a with
      | some (ops,f)=>match opsT P [] (callT P x ev []) ops (ops.toList.take (ops.size - 1)) s with
        | some (.normal,s1)=>match spE P x ev n b s1 with
          | some (e,s2)=>some (e,s2,some (valE s1.env f))
          | none=>none
        | _=>none
      | none=>match spE P x ev n a s with
        | some (.normal,s')=>dspE P x ev n b s'
        | some (e,s')=>some (e,s',none)
        | none=>none
    | _=>none
noncomputable def recOp (o:Oper):Option Nat:=match o.op,o.dst,o.guard with
  | .call cl,some t,none=>match cl.callee with
    | .builtin .recover=>some t
    | _=>none
  | _,_,_=>none
noncomputable def kopsE (P:Program):List Oper→CSt→Option CSt
  | [],c=>some c
  | o::os,c=>match o.guard with
    | none=>match opK o.op P (valE c.env) c.mem c.nx with
      | some p=>match putP c o.dst p with
        | some c'=>kopsE P os c'
        | none=>none
      | none=>none
    | some _=>none
noncomputable def cloL (P:Program) (fn:Func):Option (Exit×CSt)→Option (T Row×Nat)
  | some (.normal,s)=>match leaveR P fn s with
    | some (.inl _,m,nx)=>some (m,nx)
    | _=>none
  | some (.ret,s)=>match leaveR P fn s with
    | some (.inl _,m,nx)=>some (m,nx)
    | _=>none
  | _=>none
noncomputable def cloB (P:Program) (ev:Ev) (fn:Func) (v:Value) (m:T Row) (nx:Nat) (env:T D):Code→Option (T Row×Nat)
  | .seq (.region _ ops false) rest=>match ops.toList with
    | o::os=>match recOp o with
      | some t=>match env.put t (some (.s v)) with
        | some env1=>match kopsE P os ⟨env1,m,nx⟩ with
          | some s1=>cloL P fn (ev [] false rest s1)
          | none=>none
        | none=>none
      | none=>none
    | []=>none
  | _=>none
noncomputable def cloE (P:Program) (x:Ctx) (ev:Ev) (g:FuncId) (args:List D) (v:Value) (m:T Row) (nx:Nat):Option (T Row×Nat):=match x.tab g with
  | some (fn,c)=>bif hasN args.length (List.replicate fn.ntmps .u)&&plain v then match ofArgs 0 args .leaf with
      | some t=>cloB P ev fn v m nx t c
      | none=>none
    else none
  | none=>none
noncomputable def leaveD (P:Program) (fn:Func) (env:T D):Option (T Row×Nat)→Option Res
  | some (m,nx)=>leaveR P fn ⟨env,m,nx⟩
  | none=>none
noncomputable def endD (P:Program) (x:Ctx) (ev:Ev) (fn:Func):Option (Exit×CSt×Option D)→Option Res
  | some (e,s,none)=>leaveE P fn (some (e,s))
  | some (.normal,s,some (.fn (.func g) fs cs))=>leaveD P fn s.env (cloE P x ev g (fs++cs) .nilIface s.mem s.nx)
  | some (.ret,s,some (.fn (.func g) fs cs))=>leaveD P fn s.env (cloE P x ev g (fs++cs) .nilIface s.mem s.nx)
  | some (.panic [⟨v,false,false⟩],s,some (.fn (.func g) fs cs))=>leaveD P fn s.env (cloE P x ev g (fs++cs) v s.mem s.nx)
  | _=>none
noncomputable def runD (P:Program) (x:Ctx) (ev:Ev) (n:Nat) (f:FuncId) (args:List D) (m:T Row) (nx:Nat):Option Res:=match x.tab f with
  | none=>none
  | some (fn,c)=>bif hasN args.length (List.replicate fn.ntmps .u) then match ofArgs 0 args .leaf with
      | none=>none
      | some t=>endD P x ev fn (dspE P x ev n c ⟨t,m,nx⟩)
    else none
section
variable {P:Program} {F:Nat→Prop} {β:Pla} {w:World} {a:Act} {x:Ctx} {ev:Ev}
theorem spE_ok (hx:CtxOk P x) (hev:EvOk P ev):∀ (n:Nat) (c:Code) (s s':CSt) (e:Exit),spE P x ev n c s=some (e,s')→∀ (k:Nat) (β:Pla) (w:World) (a:Act),codeLt a.tmps.size c=true→Sim P F (stE s) β w a→c.wpIn (Fe none) k P (PostE P F false s.nx β w a e s') a w:=by
  intro n
  induction n with
  | zero=>intro c s s' e h;cases h
  | succ n ih=>
    intro c s s' e h k β w a hlt hs
    have other:ev [] false c s=some (e,s')→c.wpIn (Fe none) k P (PostE P F false s.nx β w a e s') a w:=fun h=>hev [] false c s e s' h F none k β w a (fun h=>by cases h) hdOk_nil hlt hs
    simp only [spE] at h
    split at h
    · rename_i c1 c2
      simp only [codeLt,Bool.and_eq_true] at hlt
      cases h1:spE P x ev n c1 s with
      | none=>rw [h1] at h;cases h
      | some es=>
        obtain ⟨e1,s1⟩:=es
        rw [h1] at h
        refine wpIn_seq (wpIn_mono (ih c1 s s1 e1 h1 k β w a hlt.1 hs) fun e2 a2 w2 hp=>?_)
        obtain ⟨⟨_,β2,⟨rfl,rfl⟩,hs2,hb2⟩,hd2⟩:=hp
        cases e2 with
        | normal=>exact wpIn_mono (ih c2 s1 s' e h k β2 w2 a2 (by rw [hb2.size];exact hlt.2) hs2) fun e3 a3 w3 hp3=>PostE.trans hb2 hd2 hp3
        | _=>cases h;exact ⟨⟨_,β2,⟨rfl,rfl⟩,hs2,hb2⟩,hd2⟩
    · rename_i id ops
      have fin:(Code.region id ops true).wpIn (Fe none) k P (Post P F s.nx β w a (QE e s')) a w→(Code.region id ops true).wpIn (Fe none) k P (PostE P F false s.nx β w a e s') a w:=fun h=>wpIn_mono h fun e1 a1 w1 ⟨st',β',h1,h2,h3⟩=>⟨⟨st',β',h1,h2,h3.big⟩,fun _=>h3.defers⟩
      unfold orH at h
      split at h
      · rename_i r hr
        cases h
        exact fin (region_E hx.mix (callT_ok hx hev) (callP_ok hx hev) hlt hr hdOk_nil hs)
      · exact fin (drawH_ok hx.mix (callP_ok hx hev) (callT_ok hx hev) hlt h hs)
    · exact other h
def DPost (P:Program) (F:Nat→Prop) (N:Nat) (β:Pla) (w:World) (a:Act) (e:Exit) (s':CSt) (od:Option D) (e2:Exit) (a2:Act) (w2:World):Prop:=
  e2=e∧∃ β2,Sim P F (stE s') β2 w2 a2∧Step β w β2 w2∧N≤s'.nx∧(∀ i,i<N→β i=none→β2 i=none)∧a2.tmps.size=a.tmps.size∧match od with
   | none=>a2.defers=a.defers
   | some dv=>∀ g fs cs,dv=.fn (.func g) fs cs→∃ us vs,Rs F β2 w2 fs us∧Rs F β2 w2 cs vs∧a2.defers={ target:=.fn (.func g) vs,args:=us }::a.defers
theorem Rs.step {ds:List D} {vs:Array Value} {β':Pla} {w':World} (h:Rs F β w ds vs) (hs:Step β w β' w'):Rs F β' w' ds vs:=⟨h.1,fun k d v hd hv=>(h.2 k d v hd hv).step hs⟩
theorem dspE_ok (hx:CtxOk P x) (hev:EvOk P ev):∀ (n:Nat) (c:Code) (s s':CSt) (e:Exit) (od:Option D),dspE P x ev n c s=some (e,s',od)→(∀ dv,od=some dv→∃ g fs cs,dv=.fn (.func g) fs cs)→∀ (k:Nat) (β:Pla) (w:World) (a:Act),codeLt a.tmps.size c=true→Sim P F (stE s) β w a→c.wpIn (Fe none) k P (DPost P F s.nx β w a e s' od) a w:=by
  intro n
  induction n with
  | zero=>intro c s s' e od h;cases h
  | succ n ih=>
    intro c s s' e od h hod k β w a hlt hs
    simp only [dspE] at h
    split at h
    rotate_left
    · cases h
    rename_i c1 c2
    simp only [codeLt,Bool.and_eq_true] at hlt
    split at h
    · rename_i ops f hdr
      split at h
      rotate_left
      · cases h
      rename_i s1 h1
      split at h
      rotate_left
      · cases h
      rename_i e2 s2 h2
      cases h
      obtain ⟨g,fs,cs,hg⟩:=hod _ rfl
      unfold defReg at hdr
      split at hdr
      rotate_left
      · cases hdr
      rename_i id ops'
      split at hdr
      rotate_left
      · cases hdr
      rename_i o ho
      split at hdr
      rotate_left
      · cases hdr
      rename_i f' hf'
      cases hdr
      have hpos:ops.size - 1<ops.size:=(Array.getElem?_eq_some_iff.1 ho).1
      obtain ⟨cl,q1,q2,q3,q4,q5⟩:∃ cl,o.op=.defer cl∧o.dst=none∧o.guard=none∧cl.callee=.value f∧cl.args.size=0:=by
        unfold defOp at hf'
        split at hf'
        · rename_i cl hop hdst hgd
          split at hf'
          · rename_i ff hff
            cases hsz:Nat.beq cl.args.size 0 with
            | false=>rw [hsz] at hf';cases hf'
            | true=>rw [hsz] at hf';cases hf';exact ⟨cl,hop,hdst,hgd,hff,Nat.eq_of_beq_eq_true hsz⟩
          · cases hf'
        · cases hf'
      have hlt1:opsLt a.tmps.size ops=true:=hlt.1
      have hlen:(ops.toList.take (ops.size - 1)).length=ops.size - 1:=by simp
      refine wpIn_seq (wpIn_region ?_)
      have:=opsT_runG (r:=none) (n:=k) (tl:=1) (QX:=Exit.then (c2.wpIn (Fe none) k P (DPost P F s.nx β w a e s' (some (valE s1.env f)))) (DPost P F s.nx β w a e s' (some (valE s1.env f)))) (callT_ok hx hev) (hdOk_nil (F:=F) (β:=β) (w:=w)) hlt1 (fun ch he=>by cases he) (ops.toList.take (ops.size - 1)) 0 s β w a (fun j o hj=>by
       have hj':j<ops.size - 1:=by rw [← hlen];exact (List.getElem?_eq_some_iff.1 hj).1
       rw [List.getElem?_take,if_pos hj'] at hj
       simpa using hj) h1 hs (Since.refl (stE s) β w a) fun _ β1 w1 a1 hs1 hsi1=>?_
      · rw [List.range_eq_range']
        rw [hlen,show ops.size - 1+1=ops.size by omega] at this
        exact this
      · rw [hlen,Nat.zero_add]
        simp only [List.range'_one,wpOpsIn_cons]
        refine runOp_wpOpIn ho ?_
        have hR:R F β1 w1 (valE s1.env f) (a1.eval f):=by rw [valE_opd];exact hs1.e.un.opd f
        rw [hg] at hR
        generalize hv:a1.eval f=v at hR
        cases hR with
        | fn _ _ _ us vs hl hl' hh hh'=>
          unfold runOp
          have hw:Region.wanted o (yielded ops a1.tmps)=true:=by simp [Region.wanted,q3]
          rw [hw,if_pos rfl]
          refine ⟨fun _ _=>trivial,?_⟩
          have hcl:cl.args= #[]:=Array.eq_empty_of_size_eq_zero q5
          have hrun:(o.semAt none a1.eval).run P w1=.ok (.defer { target:=.fn (.func g) vs.toArray,args:=us.toArray }) w1:=by
            rw [Oper.semAt_none]
            unfold execOp
            rw [q1]
            simp only [resolve,q4,Sem.run_bind,hv,Deferred.ofValue,Sem.run_pure,Result.andThen_ok,hcl]
            simp
          have hrun':(o.semAt (Fe none).round a1.eval).run P w1=_:=hrun
          rw [hrun',Oper.uponIn_defer,q2]
          show c2.wpIn (Fe none) k P (DPost P F s.nx β w a e s' (some (valE s1.env f))) { a1 with defers:={ target:=.fn (.func g) vs.toArray,args:=us.toArray }::a1.defers } w1
          have hs1':Sim P F (stE s1) β1 w1 { a1 with defers:={ target:=.fn (.func g) vs.toArray,args:=us.toArray }::a1.defers }:=⟨hs1.e,hs1.m,hs1.n⟩
          refine wpIn_mono (spE_ok hx hev n c2 s1 s' e h2 k β1 w1 _ (by show codeLt a1.tmps.size c2=true;rw [hsi1.size];exact hlt.2) hs1') fun e3 a3 w3 hp3=>?_
          obtain ⟨⟨_,β3,⟨rfl,rfl⟩,hs3,hb3⟩,hd3⟩:=hp3
          refine ⟨rfl,β3,hs3,hsi1.step.trans hb3.step,Nat.le_trans hsi1.le hb3.le,fun i hi hb=>hb3.grow i (Nat.lt_of_lt_of_le hi hsi1.le) (hsi1.grow i hi hb),hb3.size.trans hsi1.size,?_⟩
          intro g' fs' cs' hdv
          rw [hg] at hdv
          cases hdv
          refine ⟨us.toArray,vs.toArray,?_,?_,?_⟩
          · exact ⟨by simp [hl],fun j d v hd hv=>(hh j d v hd (by simpa using hv)).step hb3.step⟩
          · exact ⟨by simp [hl'],fun j d v hd hv=>(hh' j d v hd (by simpa using hv)).step hb3.step⟩
          · rw [hd3 rfl, ← hsi1.defers]
    · cases h1:spE P x ev n c1 s with
      | none=>rw [h1] at h;cases h
      | some es=>
        obtain ⟨e1,s1⟩:=es
        rw [h1] at h
        refine wpIn_seq (wpIn_mono (spE_ok hx hev n c1 s s1 e1 h1 k β w a hlt.1 hs) fun e2 a2 w2 hp=>?_)
        obtain ⟨⟨_,β2,⟨rfl,rfl⟩,hs2,hb2⟩,hd2⟩:=hp
        cases e2 with
        | normal=>
          refine wpIn_mono (ih c2 s1 s' e od h hod k β2 w2 a2 (by rw [hb2.size];exact hlt.2) hs2) fun e3 a3 w3 hp3=>?_
          obtain ⟨rfl,β3,g1,g2,g3,g4,g5,g6⟩:=hp3
          refine ⟨rfl,β3,g1,hb2.step.trans g2,Nat.le_trans hb2.le g3,fun i hi hb=>g4 i (Nat.lt_of_lt_of_le hi hb2.le) (hb2.grow i hi hb),g5.trans hb2.size,?_⟩
          rw [hd2 rfl] at g6
          exact g6
        | _=>cases h;exact ⟨rfl,β2,hs2,hb2.step,hb2.le,hb2.grow,hb2.size,hd2 rfl⟩
theorem planOf_opS {o:Oper} {c:CSt} {p:Plan} (h:PlanOf P o.op (valE c.env) (memF c.mem) c.nx p) (hs:Sim P F (stE c) β w a):
    ∃ nx v w' β',(execOp a.eval o).run P w=.ok nx w'∧(nx=.value v∨(nx=.skip∧v=undef))∧R F β' w' p.val v∧MSim P F (upds (memF c.mem) p.ups) β' w'∧Step β w β' w'∧∀ i,β i=none→(i<c.nx∨c.nx+p.new≤i)→β' i=none:=by
  cases h with
  | a e h hp=>exact aop_sound (m:=memF c.mem) (nx:=c.nx) hs.m (fun _=>hs.n _ (Nat.le_refl _)) (env:=unE (envE c.env)) hs.e.un (asks_un _ _) (by rw [rho_val];exact h) hp
  | n e h=>exact aopN_sound (m:=memF c.mem) (nx:=c.nx) hs.m (fun _=>hs.n _ (Nat.le_refl _)) (env:=unE (envE c.env)) hs.e.un (asks_un _ _) (by rw [rho_val];exact h)
theorem kops_run {ops:Array Oper} {c':CSt} {k:Nat} {Q:Exit→Act→List Frame→World→Prop} {cs:List Frame} {N:Nat} {β₀:Pla} {w₀:World} {a₀:Act} (hlt:opsLt a₀.tmps.size ops=true)
    (hK:∀ β w a,Sim P F (stE c') β w a→Since N β₀ w₀ a₀ (stE c') β w a→Q .normal a cs w):∀ (rest:List Oper) (j:Nat) (c:CSt) (β:Pla) (w:World) (a:Act),(∀ i o,rest[i]? =some o→ops[j+i]? =some o)→kopsE P rest c=some c'→Sim P F (stE c) β w a→Since N β₀ w₀ a₀ (stE c) β w a→
    wpOpsSIn (Fe none) k P ops Q (List.range' j rest.length) a cs w
  | [],j,c,β,w,a,hj,h,hs,hsi=>by
    simp only [kopsE,Option.some.injEq] at h
    subst h
    exact hK β w a hs hsi
  | o::rest,j,c,β,w,a,hj,h,hs,hsi=>by
    have ho:ops[j]? =some o:=hj 0 o rfl
    simp only [kopsE] at h
    split at h
    rotate_left
    · cases h
    rename_i hg
    split at h
    rotate_left
    · cases h
    rename_i p hp
    split at h
    rotate_left
    · cases h
    rename_i c1 hc1
    have hw:Region.wanted o (yielded ops a.tmps)=true:=by simp [Region.wanted,hg]
    obtain ⟨nx,v,w',β',h1,h2,h3,h4,h5,h6⟩:=planOf_opS (opK_ok hp) hs
    have hdst:∀ t,o.dst=some t→t<a.tmps.size:=fun t ht=>by rw [hsi.size];exact opsLt_spec hlt ho t ht
    have e:=putP_st hc1
    have next:=kops_run (k:=k) hlt hK rest (j+1) c1 β' w' (a.put o.dst v) (fun i o hi=>by rw [Nat.add_right_comm];exact hj (i+1) o (by simpa using hi)) h (by
      rw [e];exact Sim.put (st':=⟨envE c.env,upds (memF c.mem) p.ups,c.nx+p.new⟩) (hs.e.step h5) hdst h3 h4 fun i hi=>h6 i (hs.n i (by have:c.nx+p.new≤i:=hi;show c.nx≤i;omega)) (.inr hi)) (hsi.trans (by
      rw [e];exact since_put (st:=stE c) h5 (Nat.le_add_right _ _) fun i hi hb=>h6 i hb (.inl hi)))
    simp only [List.length_cons,List.range'_succ,wpOpsSIn,ho]
    refine ⟨fun _ _=>trivial,?_⟩
    rw [hw,if_pos rfl,h1]
    rcases h2 with rfl | ⟨rfl,rfl⟩
    · exact next
    · exact next
theorem clo_ok (hx:CtxOk P x) (hev:EvOk P ev) {g:FuncId} {args:List D} {v:Value} {m m':T Row} {nx nx':Nat} (h:cloE P x ev g args v m nx=some (m',nx')) (hm:MSim P F (memF m) β w) (hn:∀ i,nx≤i→β i=none) {vs:Array Value} (hR:Rs F β w args vs) {k:Nat} {u:FrameMode}
    (hu:(u=.returning∧v=.nilIface)∨u=.panicking [⟨v,false,false⟩]):
    enterOk P g=true∧CallsDIn (Fe none) k P g vs u w fun e u' w'=>∃ v,e=.returned v∧settle u'=.returning∧∃ β',MSim P F (memF m') β' w'∧(∀ i,nx'≤i→β' i=none)∧Step β w β' w'∧nx≤nx'∧∀ i,i<nx→β i=none→β' i=none:=by
  unfold cloE at h
  split at h
  rotate_left
  · cases h
  rename_i fn c hf
  obtain ⟨hf1,hb,hlt,he⟩:=hx.tab _ _ _ hf
  refine ⟨he,?_⟩
  cases hc:(hasN args.length (List.replicate fn.ntmps .u)&&plain v) with
  | false=>rw [hc] at h;cases h
  | true=>
  rw [hc] at h
  simp only [Bool.and_eq_true,hasN_le,List.length_replicate] at hc
  obtain ⟨hle,hpl⟩:=hc
  simp only [cond_true] at h
  split at h
  rotate_left
  · cases h
  rename_i t ht
  unfold cloB at h
  split at h
  rotate_left
  · cases h
  rename_i id ops rest
  split at h
  rotate_left
  · cases h
  rename_i o os hops
  split at h
  rotate_left
  · cases h
  rename_i tr hrec
  split at h
  rotate_left
  · cases h
  rename_i env1 henv1
  split at h
  rotate_left
  · cases h
  rename_i s1 hk1
  obtain ⟨cl,q1,q2,q3,q4⟩:∃ cl,o.op=.call cl∧o.dst=some tr∧o.guard=none∧cl.callee=.builtin .recover:=by
    unfold recOp at hrec
    split at hrec
    · rename_i cl t' hop hdst hgd
      split at hrec
      · rename_i hcl
        cases hrec
        exact ⟨cl,hop,hdst,hgd,hcl⟩
      · cases hrec
    · cases hrec
  obtain ⟨hsz,hsim⟩:=enter_sim (fn:=fn) hle hm hn hR
  have est:stE ⟨t,m,nx⟩=⟨envOf args,memF m,nx⟩:=by rw [← ofArgs_st ht];rfl
  rw [← est] at hsim
  simp only [codeLt,Bool.and_eq_true] at hlt
  refine callsDIn_of_wpSIn hf1 hb trivial fun c₀ cs0 hmode=>wpSIn_seq (wpSIn_region ?_)
  have ho:ops[0]? =some o:=by
    have:ops.toList[0]? =some o:=by rw [hops];rfl
    simpa using this
  have hosz:ops.size=os.length+1:=by rw [← Array.length_toList,hops];rfl
  have hw:∀ y,Region.wanted o y=true:=fun y=>by simp [Region.wanted,q3]
  have hrun:∀ (ρ:Operand→Value),(execOp ρ o).run P w=.ok .recover w:=fun ρ=>by
    unfold execOp
    rw [q1]
    simp [resolve,q4,invoke]
    rfl
  have env1e:=getD_put henv1
  have hdst:tr<(vs++Array.replicate (fn.ntmps - vs.size) undef).size:=by rw [hsz];exact opsLt_spec hlt.1 ho tr q2
  have go:∀ (u':FrameMode),settle u'=.returning→wpOpsSIn (Fe none) k P ops (Exit.thenS (rest.wpSIn (Fe none) k P (bodyPostS P fn c₀ cs0 fun e u' w'=>∃ v,e=.returned v∧settle u'=.returning∧∃ β',MSim P F (memF m') β' w'∧(∀ i,nx'≤i→β' i=none)∧Step β w β' w'∧nx≤nx'∧∀ i,i<nx→β i=none→β' i=none))
        (bodyPostS P fn c₀ cs0 fun e u' w'=>∃ v,e=.returned v∧settle u'=.returning∧∃ β',MSim P F (memF m') β' w'∧(∀ i,nx'≤i→β' i=none)∧Step β w β' w'∧nx≤nx'∧∀ i,i<nx→β i=none→β' i=none)) (List.range' 1 os.length)
   (Act.put { tmps:=vs++Array.replicate (fn.ntmps - vs.size) undef,defers:=[] } (some tr) v) ({ c₀ with mode:=u' }::cs0) w:=fun u' hset=>by
    refine kops_run (F:=F) (N:=nx) (β₀:=β) (w₀:=w) (a₀:=Act.put { tmps:=vs++Array.replicate (fn.ntmps - vs.size) undef,defers:=[] } (some tr) v) (by rw [put_size];show opsLt (vs++Array.replicate (fn.ntmps - vs.size) undef).size ops=true;rw [hsz];exact hlt.1) (fun β1 w1 a1 hs1 hsi1=>?_) os 1 ⟨env1,m,nx⟩ β w _ (fun i o hi=>by
      have:ops.toList[1+i]? =some o:=by rw [hops,Nat.add_comm];simpa using hi
      simpa using this) hk1 ?_ ?_
    · have hsz1:a1.tmps.size=fn.ntmps:=by rw [hsi1.size,put_size];exact hsz
      have hd1:a1.defers=[]:=by rw [hsi1.defers,put_defers]
      show rest.wpSIn (Fe none) k P _ a1 _ w1
      refine wpSIn_of_wpIn rfl ?_
      cases hx2:ev [] false rest s1 with
      | none=>rw [hx2] at h;cases h
      | some es=>
        obtain ⟨e2,s2⟩:=es
        rw [hx2] at h
        refine wpIn_mono (hev [] false rest s1 e2 s2 hx2 F none k β1 w1 a1 (fun _=>rfl) hdOk_nil (by rw [hsz1];exact hlt.2) hs1) fun e3 a3 w3 hp3=>?_
        obtain ⟨⟨_,β3,⟨rfl,rfl⟩,hs3,hb3⟩,hd3⟩:=hp3
        have hend:(match leaveR P fn s2 with
         | some (.inl _,m,nx)=>some (m,nx)
         | _=>none)=some (m',nx')→a3.defers=[]∧∃ u'',({ c₀ with mode:=u' }::cs0:List Frame)={ c₀ with mode:=u'' }::cs0∧∃ v,(results fn a3.tmps).run P w3=.ok v w3∧
         ∃ v',Ending.returned v=.returned v'∧settle u''=.returning∧∃ β',MSim P F (memF m') β' w3∧(∀ i,nx'≤i→β' i=none)∧Step β w β' w3∧nx≤nx'∧∀ i,i<nx→β i=none→β' i=none:=fun h=>by
          split at h
          rotate_left
          · cases h
          rename_i d m2 nx2 hl
          cases h
          unfold leaveR at hl
          split at hl
          rotate_left
          · cases hl
          rename_i ds hds
          cases hl
          obtain ⟨v,d,g1,_,_⟩:=run_results (fn:=fn) (K:=fun d=>d=one1 ds) hs3 (retE_ok _ ds [] hds rfl)
          exact ⟨(hd3 rfl).trans hd1,u',rfl,v,g1,v,rfl,hset,β3,hs3.m,hs3.n,hsi1.step.trans hb3.step,Nat.le_trans hsi1.le hb3.le,fun i hi hb=>hb3.grow i (Nat.lt_of_lt_of_le hi hsi1.le) (hsi1.grow i hi hb)⟩
        cases e3 with
        | normal=>exact hend h
        | ret=>exact hend h
        | _=>cases h
    · have:stE ⟨env1,m,nx⟩=St.put (stE ⟨t,m,nx⟩) (some tr) (.s v):=by
        show (⟨envE env1,memF m,nx⟩:St)=_
        rw [env1e];rfl
      rw [this]
      exact Sim.put (st':=stE ⟨t,m,nx⟩) hsim.e (fun t ht=>by cases ht;exact hdst) (.s v hpl) hsim.m hsim.n
    · exact Since.refl ⟨envE env1,memF m,nx⟩ β w _
  rw [List.range_eq_range',hosz]
  simp only [List.range'_succ,wpOpsSIn,ho]
  refine ⟨fun _ _=>trivial,?_⟩
  rw [hw,if_pos rfl,hrun,q2]
  rcases hu with ⟨rfl,rfl⟩ | rfl
  · have:recoverD (c₀::cs0)=none:=by simp [recoverD,hmode]
    simp only [this]
    have h2:=go .returning rfl
    have h3:({ c₀ with mode:=.returning }:Frame)=c₀:=by rw [← hmode]
    rw [h3] at h2
    exact h2
  · have:recoverD (c₀::cs0)=some (v,{ c₀ with mode:=.panicking [⟨v,true,false⟩] }::cs0):=by simp [recoverD,hmode]
    simp only [this]
    exact go _ rfl
theorem runD_ok (hx:CtxOk P x) (hev:EvOk P ev) (n:Nat) {f:FuncId} {args:List D} {m m':T Row} {nx nx':Nat} {y:D ⊕ List PanicEntry} (h:runD P x ev n f args m nx=some (y,m',nx')):ZC P [] f args (memF m) nx y (memF m') nx':=by
  unfold runD at h
  split at h
  · cases h
  · rename_i fn c hf
    obtain ⟨hf1,hb,hlt,he⟩:=hx.tab _ _ _ hf
    refine ⟨he,fun F β w vs hh hm hnx hR=>?_⟩
    cases hn:hasN args.length (List.replicate fn.ntmps .u) with
    | false=>rw [hn] at h;cases h
    | true=>
      rw [hn] at h
      have hn':args.length≤fn.ntmps:=by simpa [hasN_le] using hn
      simp only [cond_true] at h
      split at h
      · cases h
      · rename_i t ht
        cases hd:dspE P x ev n c ⟨t,m,nx⟩ with
        | none=>rw [hd] at h;cases h
        | some es=>
          obtain ⟨e,s,od⟩:=es
          rw [hd] at h
          have est:stE ⟨t,m,nx⟩=⟨envOf args,memF m,nx⟩:=by rw [← ofArgs_st ht];rfl
          have hod:∀ dv,od=some dv→∃ g fs cs,dv=.fn (.func g) fs cs:=fun dv hdv=>by
            subst hdv
            simp only [endD] at h
            split at h
            · rename_i heq;cases heq
            · rename_i heq;cases heq;exact ⟨_,_,_,rfl⟩
            · rename_i heq;cases heq;exact ⟨_,_,_,rfl⟩
            · rename_i heq;cases heq;exact ⟨_,_,_,rfl⟩
            · cases h
          refine calls_enter hf1 hb hn' hm hnx hR fun a hat ha had hs=>wpIn_mono (dspE_ok (F:=F) hx hev n c ⟨t,m,nx⟩ s e od hd hod 0 β w a (by rw [ha];exact hlt) (by rw [est];exact hs)) fun e2 a2 w2 hp=>?_
          obtain ⟨rfl,β2,hs2,hst2,hle2,hgr2,hsz2,hdf⟩:=hp
          rw [had] at hdf
          have ret:∀ {env:T D} {mm:T Row} {nn:Nat} {β3:Pla} {w3:World},leaveR P fn ⟨env,mm,nn⟩=some (y,m',nx')→Sim P F (stE ⟨env,mm,nn⟩) β3 w3 a2→Step β w β3 w3→nx≤nn→(∀ i,i<nx→β i=none→β3 i=none)→∃ v,(results fn a2.tmps).run P w3=.ok v w3∧Ends P F β w nx y (memF m') nx' (.returned v) w3:=fun {env mm nn β3 w3} hl hs3 hst3 hle3 hgr3=>by
            unfold leaveR at hl
            split at hl
            · rename_i ds hds
              simp only [Option.some.injEq,Prod.mk.injEq] at hl
              obtain ⟨rfl,rfl,rfl⟩:=hl
              obtain ⟨v,d,g1,rfl,g3⟩:=run_results (fn:=fn) (K:=fun d=>d=one1 ds) hs3 (retE_ok _ ds [] hds rfl)
              exact ⟨v,g1,β3,⟨v,rfl,g3⟩,hs3.m,hs3.n,hst3,hle3,hgr3⟩
            · cases hl
          cases od with
          | none=>
            have hdf:a2.defers=[]:=hdf
            simp only [endD] at h
            cases e2 with
            | normal=>
              show LeavesInM _ _ _ _ _ _ a2.defers _ _
              rw [hdf]
              exact ret h hs2 hst2 hle2 hgr2
            | ret=>
              show LeavesInM _ _ _ _ _ _ a2.defers _ _
              rw [hdf]
              exact ret h hs2 hst2 hle2 hgr2
            | panic ch=>
              show LeavesInM _ _ _ _ _ _ a2.defers _ _
              rw [hdf]
              simp only [leaveE,Option.some.injEq,Prod.mk.injEq] at h
              obtain ⟨rfl,rfl,rfl⟩:=h
              exact ⟨β2,rfl,hs2.m,hs2.n,hst2,hle2,hgr2⟩
            | _=>cases h
          | some dv=>
            obtain ⟨g,fs,cs,rfl⟩:=hod dv rfl
            obtain ⟨us,vs2,r1,r2,r3⟩:=hdf g fs cs rfl
            have clo:∀ {v:Value} {u:FrameMode},u≠ .run→((u=.returning∧v=.nilIface)∨u=.panicking [⟨v,false,false⟩])→leaveD P fn s.env (cloE P x ev g (fs++cs) v s.mem s.nx)=some (y,m',nx')→
             LeavesInM (Fe none) 0 P fn a2.tmps (Ends P F β w nx y (memF m') nx') a2.defers u w2:=fun {v u} hur hu h=>by
              cases hc:cloE P x ev g (fs++cs) v s.mem s.nx with
              | none=>rw [hc] at h;cases h
              | some z=>
                obtain ⟨m3,nx3⟩:=z
                rw [hc] at h
                obtain ⟨hge,hcall⟩:=clo_ok (F:=F) hx hev hc hs2.m hs2.n (Rs.append r1 r2) (k:=0 - 1) hu
                rw [r3]
                refine ⟨hur,.inr ⟨by simp,.func g,vs2,g,us++vs2,rfl,?_,fun _ _=>trivial,hcall.mono fun e' u' w' hp=>?_⟩⟩
                · simp only [invoke]
                  unfold callFunc
                  unfold enterOk at hge
                  simp only [Sem.run_bind,run_program,Result.andThen_ok]
                  split at hge
                  · rename_i fn' hfn'
                    simp only [Bool.and_eq_true,Bool.not_eq_true'] at hge
                    have hb':fn'.body.isNone=false:=by
                      cases hbb:fn'.body<;>simp_all
                    rw [hfn']
                    simp only [hge.1,hb',Bool.false_eq_true,if_false,Sem.run_pure]
                  · cases hge
                · obtain ⟨v',rfl,hset,β3,j1,j2,j3,j4,j5⟩:=hp
                  show LeavesInM _ _ _ _ _ _ [] (settle u') w'
                  rw [hset]
                  exact ret h ⟨fun t=>(hs2.e t).step j3,j1,j2⟩ (hst2.trans j3) (Nat.le_trans hle2 j4) fun i hi hb=>j5 i (Nat.lt_of_lt_of_le hi hle2) (hgr2 i hi hb)
            simp only [endD] at h
            cases e2 with
            | normal=>exact clo (by simp) (.inl ⟨rfl,rfl⟩) h
            | ret=>exact clo (by simp) (.inl ⟨rfl,rfl⟩) h
            | panic ch=>
              split at h
              · rename_i heq;cases heq
              · rename_i heq;cases heq
              · rename_i heq;cases heq
              · rename_i heq;cases heq;exact clo (by simp) (.inr rfl) h
              · cases h
            | _=>cases h
theorem pcall_evD (hx:CtxOk P x) (hev:EvOk P ev) (n:Nat) {f:FuncId} {args:List D} {r:D} (h:pureR P (runD P x ev n f args .leaf 0)=some (.inl r)) (ht:args.all (trB depth)=true):PCall P f args r:=by
  cases hr:runD P x ev n f args .leaf 0 with
  | none=>rw [hr] at h;cases h
  | some z=>
    obtain ⟨y,m',nx'⟩:=z
    rw [hr] at h
    exact pureR_ok h (runD_ok hx hev n hr) fun a ha=>trB_Tr (List.all_eq_true.1 ht a ha)
end
def fnB (P:Program) (f:Nat):Bool:=match P.funcs[f]? with
  | some fn=>match fn.body with
    | some c=>codeLt fn.ntmps c&&enterOk P f
    | none=>false
  | none=>false
noncomputable def bodyE:Option Func→Option (Func×Code)
  | some fn=>match fn.body with
    | some c=>some (fn,c)
    | none=>none
  | none=>none
noncomputable def tabL (P:Program) (ids:List Nat) (f:FuncId):Option (Func×Code):=bif inL f ids then bodyE P.funcs[f]? else none
theorem inL_mem {f:Nat}:∀ {l:List Nat},inL f l=true→f∈l
  | [],h=>by cases h
  | g::l,h=>by
    simp only [inL] at h
    cases hg:Nat.beq g f with
    | true=>rw [Nat.eq_of_beq_eq_true hg];exact List.mem_cons_self ..
    | false=>rw [hg] at h;exact List.mem_cons_of_mem _ (inL_mem h)
theorem tabL_ok {P:Program} {ids:List Nat} (h:ids.all (fnB P)=true):TabOk P (tabL P ids):=fun f fn c hf=>by
  unfold tabL at hf
  cases hi:inL f ids with
  | false=>rw [hi] at hf;cases hf
  | true=>
    rw [hi] at hf
    have hb:=List.all_eq_true.1 h f (inL_mem hi)
    simp only [cond_true,bodyE] at hf
    unfold fnB at hb
    split at hf
    · rename_i fn' hfn
      split at hf
      · rename_i c' hc
        cases hf
        rw [hfn] at hb
        simp only [hc,Bool.and_eq_true] at hb
        exact ⟨hfn,hc,hb.1,hb.2⟩
      · cases hf
    · cases hf
noncomputable def eqV1:Value→Value→Bool
  | .int k a,.int k' b=>sameI k k'&&eqI a b
  | .bool a,.bool b=>bif a then b else !b
  | .string a,.string b=>eqB a.data.toList b.data.toList
  | .pointer none,.pointer none=>true
  | .nilFunc,.nilFunc=>true
  | .nilIface,.nilIface=>true
  | .map none,.map none=>true
  | _,_=>false
noncomputable def eqLD (g:D→D→Bool):List D→List D→Bool
  | [],[]=>true
  | a::xs,b::bs=>g a b&&eqLD g xs bs
  | _,_=>false
noncomputable def eqDF:Nat→D→D→Bool
  | 0,_,_=>false
  | n+1,a,b=>match a,b with
    | .s x,.s y=>eqV1 x y
    | .z,.z=>true
    | .agg xs,.agg ys=>eqLD (eqDF n) xs ys
    | .tup xs,.tup ys=>eqLD (eqDF n) xs ys
    | .pt xs,.pt ys=>eqLD (eqDF n) xs ys
    | .sl xs k,.sl ys l=>Nat.beq k l&&eqLD (eqDF n) xs ys
    | _,_=>false
noncomputable def knownL:List (Nat×List D×D)→FuncId→List D→Option D
  | [],_,_=>none
  | (g,as,r)::l,f,bs=>bif Nat.beq g f&&eqLD (eqDF 8) as bs then some r else knownL l f bs
theorem eqV1_eq {a b:Value} (h:eqV1 a b=true):a=b:=by
  unfold eqV1 at h
  split at h
  · simp only [Bool.and_eq_true,eqI_eq,beq_iff_eq] at h
    rw [sameI_eq _ _ h.1,h.2]
  · rename_i a b;cases a<;>cases b<;>first | rfl | cases h
  · rename_i a b
    rw [eqB_eq,beq_iff_eq] at h
    have:a.data=b.data:=Array.toList_inj.1 h
    cases a;cases b;cases this;rfl
  all_goals first | rfl | cases h
theorem eqLD_eq {g:D→D→Bool} (hg:∀ a b,g a b=true→a=b):∀ {xs ys:List D},eqLD g xs ys=true→xs=ys
  | [],[],_=>rfl
  | a::xs,b::ys,h=>by
    simp only [eqLD,Bool.and_eq_true] at h
    rw [hg a b h.1,eqLD_eq hg h.2]
  | [],_::_,h=>by cases h
  | _::_,[],h=>by cases h
theorem eqDF_eq:∀ (n:Nat) (a b:D),eqDF n a b=true→a=b
  | 0,_,_,h=>by cases h
  | n+1,a,b,h=>by
    have ih:=fun {xs ys:List D}=>eqLD_eq (eqDF_eq n) (xs:=xs) (ys:=ys)
    simp only [eqDF] at h
    split at h
    · rw [eqV1_eq h]
    · rfl
    · rw [ih h]
    · rw [ih h]
    · rw [ih h]
    · simp only [Bool.and_eq_true] at h
      rw [Nat.eq_of_beq_eq_true h.1,ih h.2]
    · cases h
theorem knownL_ok {P:Program}:∀ {l:List (Nat×List D×D)},(∀ e∈l,PCall P e.1 e.2.1 e.2.2)→∀ f args r,knownL l f args=some r→PCall P f args r
  | [],_,f,args,r,h=>by cases h
  | (g,as,q)::l,hl,f,args,r,h=>by
    simp only [knownL] at h
    cases hc:Nat.beq g f&&eqLD (eqDF 8) as args with
    | true=>
      rw [hc] at h
      simp only [Bool.and_eq_true] at hc
      cases h
      rw [← Nat.eq_of_beq_eq_true hc.1, ← eqLD_eq (eqDF_eq 8) hc.2]
      exact hl _ (List.mem_cons_self ..)
    | false=>
      rw [hc] at h
      exact knownL_ok (fun e he=>hl e (List.mem_cons_of_mem _ he)) f args r h
end Go.Abs
