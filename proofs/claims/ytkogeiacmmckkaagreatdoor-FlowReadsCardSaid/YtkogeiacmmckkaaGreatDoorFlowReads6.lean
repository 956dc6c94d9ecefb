/- Part 6 of the proof; the last part says what is proved. -/
import Derived.Test.YtkogeiacmmckkaaGreatDoorFlowReads5
import Derived.RangeFuncRecord
import Derived.Scope
set_option linter.all false
namespace Go.Abs
section
variable {P:Program} {ops:Array Oper} {cf:List (Nat×Nat)} {Q:Exit→St→Prop}
def Planned (P:Program) (ops:Array Oper) (cf:List (Nat×Nat)) (Q:Exit→St→Prop):List Oper→List Plan→St→Tra→Prop
  | [],[],st,tr=>(∀ q∈cf,apartT tr q.1 q.2)∧Q .normal st
  | o::os,p::ps,st,tr=>p.Ok P ops o st∧p.Tidy (kindO o.op) st∧Planned P ops cf Q os ps (nxt st o p) (tr++[(p.rd,p.wr)])
  | _,_,_,_=>False
theorem planned_of {Y:YSpec}:∀ (os:List Oper) (st:St) (tr:Tra),AOps P Y ops true cf Q os st tr→∃ ps,Planned P ops cf Q os ps st tr
  | [],st,tr,h=>⟨[],h⟩
  | o::os,st,tr,h=>by
    simp only [AOps] at h
    rcases aop2_plan h with ⟨p,h1,h2,h3⟩ | ⟨h1,_⟩ | ⟨h1,_⟩
    · obtain ⟨ps,h4⟩:=planned_of os _ _ h3
      exact ⟨p::ps,h1,h2,h4⟩
    · cases h1
    · cases h1
instance:Inhabited Plan:=⟨⟨.u,[],[],0⟩⟩
theorem planned_at (oo:Nat→Oper) (pp:Nat→Plan) (st₀:St):∀ (os:List Oper) (ps:List Plan) (k:Nat) (tr:Tra),(∀ j o,os[j]? =some o→oo (k+j)=o)→(∀ j p,ps[j]? =some p→pp (k+j)=p)→tr.length=k→
    (∀ j,j<k→tr.getD j ([],[])=((pp j).rd,(pp j).wr))→Planned P ops cf Q os ps (sTx oo pp st₀ k) tr→
    (∀ j,k≤j→j<k+os.length→(pp j).Ok P ops (oo j) (sTx oo pp st₀ j)∧(pp j).Tidy (kindO (oo j).op) (sTx oo pp st₀ j))∧Q .normal (sTx oo pp st₀ (k+os.length))∧
    ∃ tr':Tra,(∀ j,j<k+os.length→tr'.getD j ([],[])=((pp j).rd,(pp j).wr))∧∀ q∈cf,apartT tr' q.1 q.2
  | [],[],k,tr,ho,hp,hl,ht,h=>⟨fun j h1 h2=>absurd h2 (by simp;omega),h.2,tr,ht,h.1⟩
  | [],_::_,_,_,_,_,_,_,h=>h.elim
  | _::_,[],_,_,_,_,_,_,h=>h.elim
  | o::os,p::ps,k,tr,ho,hp,hl,ht,h=>by
    have e1:oo k=o:=ho 0 o rfl
    have e2:pp k=p:=hp 0 p rfl
    obtain ⟨h1,h2,h3⟩:=h
    have h3':Planned P ops cf Q os ps (sTx oo pp st₀ (k+1)) (tr++[(p.rd,p.wr)]):=by rw [sTx_succ,e1,e2];exact h3
    obtain ⟨a1,a2,tr',a3,a4⟩:=planned_at oo pp st₀ os ps (k+1) _ (fun j x hj=>by have:=ho (j+1) x (by simpa using hj);rw [← this];congr 1;omega)
      (fun j x hj=>by have:=hp (j+1) x (by simpa using hj);rw [← this];congr 1;omega) (by simp [hl])
      (fun j hj=>by
        rcases Nat.lt_or_ge j k with hlt | hge
        · rw [← ht j hlt]
          simp [List.getElem?_append_left (show j<tr.length by omega)]
        · have:j=k:=by omega
          subst this
          simp [← hl,List.getElem?_append_right,e2]
          rw [hl,e2];exact ⟨rfl,rfl⟩) h3'
    have e3:k+(o::os).length=k+1+os.length:=by simp;omega
    rw [e3]
    refine ⟨fun j hj hj2=>?_,a2,tr',a3,a4⟩
    rcases Nat.lt_or_ge k j with hlt | hge
    · exact a1 j hlt hj2
    · have:j=k:=by omega
      subst this
      rw [e1,e2]
      exact ⟨h1,h2⟩
def LastOk (P:Program) (F:Nat→Prop) (ops:Array Oper) (Q:Exit→St→Prop) (N₀:Nat) (β₀:Pla) (w₀:World) (a₀:Act) (r:Option Nat) (n:Nat) (o:Oper) (st:St):Prop:=
  ∀ (β:Pla) (w:World) (a:Act),Sim P F st β w a→Since N₀ β₀ w₀ a₀ st β w a→∀ K:Act→World→Prop,(∀ a' w',Post P F N₀ β₀ w₀ a₀ Q .normal a' w'→K a' w')→runOp r n P ops (Post P F N₀ β₀ w₀ a₀ Q) o K a w
theorem drawInfo_spec (h:drawInfo ops=some cf):(∀ (i:Nat) (o:Oper),ops[i]? =some o→∀ e∈o.after,Region.binds .any e=true→e.on<i)∧
    (∀ q∈unordered (befs ops.toList []) ops.size,tmpsApart ops q.1 q.2=true)∧(∀ q∈unordered (befs ops.toList []) ops.size,mayMeet ops q.1 q.2=true→q∈cf):=by
  unfold drawInfo at h
  simp only at h
  split at h
  · rename_i hc
    simp only [Bool.and_eq_true] at hc
    cases h
    refine ⟨fun i o hi e he hb=>?_,fun q hq=>List.all_eq_true.1 hc.2 q hq,fun q hq hm=>by rw [List.mem_filter];exact ⟨hq,hm⟩⟩
    have h1:=List.all_eq_true.1 hc.1 (o,i) (by
      rw [List.mem_zipIdx_iff_getElem?]
      simpa using hi)
    have h2:=List.all_eq_true.1 h1 e (by simpa using he)
    simpa [hb] using h2
  · cases h
variable {F:Nat→Prop} {N₀:Nat} {β₀:Pla} {w₀:World} {a₀:Act}
structure DS (P:Program) (F:Nat→Prop) (oo:Nat→Oper) (pp:Nat→Plan) (st₀:St) (n:Nat) (N₀:Nat) (β₀:Pla) (w₀:World) (a₀:Act) (S:Nat→Bool) (β:Pla) (w:World) (a:Act):Prop where
  e:ESim F β w (stF oo pp st₀ S n).env a
  m:MSim P F (stF oo pp st₀ S n).mem β w
  free:∀ i,st₀.nx≤i→(∀ k,k<n→S k=true→¬ ((sTx oo pp st₀ k).nx≤i∧i<(sTx oo pp st₀ k).nx+(pp k).new))→β i=none
  step:Step β₀ w₀ β w
  grow:∀ i,i<N₀→β₀ i=none→β i=none
  size:a.tmps.size=a₀.tmps.size
  defers:a.defers=a₀.defers
theorem draw_any {oo:Nat→Oper} {pp:Nat→Plan} {st₀:St} (hi:drawInfo ops=some cf) (hoo:∀ j o,ops[j]? =some o→oo j=o) (hlt:opsLt a₀.tmps.size ops=true)
    (nl:Nat) (hnl:nl≤ops.size) (hok:∀ j,j<nl→(pp j).Ok P ops (oo j) (sTx oo pp st₀ j)∧(pp j).Tidy (kindO (oo j).op) (sTx oo pp st₀ j)) (hQ:nl=ops.size→Q .normal (sTx oo pp st₀ ops.size))
    (hL:nl<ops.size→nl+1=ops.size∧(∀ i,i<nl→((befs ops.toList []).getD nl 0).testBit i=true)∧∀ r n,LastOk P F ops Q N₀ β₀ w₀ a₀ r n (oo nl) (sTx oo pp st₀ nl))
    (htr:∃ tr':Tra,(∀ j,j<nl→tr'.getD j ([],[])=((pp j).rd,(pp j).wr))∧∀ q∈cf,apartT tr' q.1 q.2)
    (hm0:∀ i,st₀.nx≤i→st₀.mem i=none) (hN:N₀≤st₀.nx) (r:Option Nat) (n:Nat):
    ∀ (fuel:Nat) (listed:Array Bool) (β:Pla) (w:World) (a:Act),listed.size=ops.size→listed.toList.countP (fun b=> !b)≤fuel→(nl<ops.size→listed.getD nl false=false)→
      (∀ j,listed.getD j false=true→∀ o,ops[j]? =some o→∀ e∈o.after,Region.binds .any e=true→listed.getD e.on false=true)→
      DS P F oo pp st₀ ops.size N₀ β₀ w₀ a₀ (fun j=>listed.getD j false) β w a→
      wpAnyIn (Fe r) n P .any ops (Post P F N₀ β₀ w₀ a₀ Q) fuel listed a w:=by
  obtain ⟨hed,hta,hcf⟩:=drawInfo_spec hi
  obtain ⟨tr',htr1,htr2⟩:=htr
  have hmT:∀ k,k≤nl→∀ i,(sTx oo pp st₀ k).nx≤i→(sTx oo pp st₀ k).mem i=none:=by
    intro k
    induction k with
    | zero=>intro _ i hi;exact hm0 i hi
    | succ k ih=>
      intro hk i hi
      rw [sTx_succ,nxt_nx] at hi
      rw [sTx_succ,nxt_mem]
      have h1:=(hok k (by omega)).2.wr
      rw [upds_not,ih (by omega) i (by omega)]
      intro hmem
      rcases h1 i hmem with h2 | h2
      · exact h2 (ih (by omega) i (by omega))
      · omega
  have hap:∀ i j,i<j→j<ops.size→((befs ops.toList []).getD j 0).testBit i=false→
   (∀ x∈(pp i).wr,x∉(pp j).wr)∧(∀ x∈(pp i).wr,x∈(pp j).rd→(sTx oo pp st₀ j).mem x=none)∧(∀ x∈(pp j).wr,x∈(pp i).rd→(sTx oo pp st₀ i).mem x=none):=by
    intro i j hij hj hb
    have hu:=mem_unordered hij hj hb
    have hjn:j<nl:=by
      rcases Nat.lt_or_ge j nl with h | h
      · exact h
      · obtain ⟨q1,q2,_⟩:=hL (by omega)
        have:j=nl:=by omega
        subst this
        rw [q2 i hij] at hb;cases hb
    have hoi:ops[i]? =some (oo i):=by
      have:i<ops.size:=by omega
      rw [hoo i ops[i] (by simp [this])];simp [this]
    have hoj:ops[j]? =some (oo j):=by
      rw [hoo j ops[j] (by simp [hj])];simp [hj]
    obtain ⟨ti,t0i,t1i,t3i⟩:=(hok i (by omega)).2
    obtain ⟨tj,t0j,t1j,t3j⟩:=(hok j hjn).2
    by_cases hmm:mayMeet ops i j=true
    · have h1:=htr2 _ (hcf _ hu hmm)
      unfold apartT at h1
      simp only [htr1 i (by omega),htr1 j hjn] at h1
      exact ⟨fun x hx=>(h1.1 x hx).2,fun x hx hr=>absurd hr (h1.1 x hx).1,fun x hx hr=>absurd hr (h1.2 x hx)⟩
    · simp only [mayMeet,hoi,hoj,Bool.and_eq_true,Bool.or_eq_true,beq_iff_eq,bne_iff_ne,Bool.not_eq_true',ne_eq] at hmm
      have hk:∀ o:Oper,kindO o.op=0∨kindO o.op=1∨kindO o.op=2∨kindO o.op=3:=fun o=>by
        unfold kindO;split<;>simp
      have nil:∀ p:Plan,p.ups=[]→∀ x,x∉p.wr:=fun p hp x hx=>by simp [Plan.wr,hp] at hx
      rcases hk (oo j) with kj | kj | kj | kj
      · have:=t0j kj
        exact ⟨fun x _=>nil _ this.2 x,fun x _ hr=>(by rw [this.1] at hr;cases hr),fun x hx=>absurd hx (nil _ this.2 x)⟩
      · by_cases k0:kindO (oo i).op=0
        · have:=t0i k0
          exact ⟨fun x hx=>absurd hx (nil _ this.2 x),fun x hx=>absurd hx (nil _ this.2 x),fun x _ hr=>by rw [this.1] at hr;cases hr⟩
        · have k1:kindO (oo i).op=1:=by
            rcases hk (oo i) with h | h | h | h
            · exact absurd h k0
            · exact h
            · exact absurd ⟨⟨.inl kj,by omega⟩,by simp [h]⟩ hmm
            · exact absurd ⟨⟨.inl kj,by omega⟩,by simp [h]⟩ hmm
          exact ⟨fun x hx=>absurd hx (nil _ (t1i k1) x),fun x hx=>absurd hx (nil _ (t1i k1) x),fun x hx=>absurd hx (nil _ (t1j kj) x)⟩
      · by_cases k0:kindO (oo i).op=0
        · have:=t0i k0
          exact ⟨fun x hx=>absurd hx (nil _ this.2 x),fun x hx=>absurd hx (nil _ this.2 x),fun x _ hr=>by rw [this.1] at hr;cases hr⟩
        · exact absurd ⟨⟨.inr kj,by omega⟩,by simp [kj]⟩ hmm
      · have hnx:=sTx_nx_le oo pp st₀ (show i+1≤j by omega)
        rw [sTx_succ,nxt_nx] at hnx
        obtain ⟨h1,h2⟩:=t3j kj
        have hwi:∀ x∈(pp i).wr,x<(sTx oo pp st₀ j).nx:=fun x hx=>by
          rcases ti x hx with h | h
          · rcases Nat.lt_or_ge x (sTx oo pp st₀ i).nx with h' | h'
            · omega
            · exact absurd (hmT i (by omega) x h') h
          · omega
        refine ⟨fun x hx hxj=>?_,fun x _ hr=>(by rw [h1] at hr;cases hr),fun x hx _=>hmT i (by omega) x ?_⟩
        · have:=hwi x hx
          have:=h2 x hxj
          omega
        · have:=h2 x hx
          omega
  have hta':∀ i j,i<j→j<ops.size→((befs ops.toList []).getD j 0).testBit i=false→(oo i).apart ops (oo j)=true:=by
    intro i j hij hj hb
    have h1:=hta _ (mem_unordered hij hj hb)
    have hoi:ops[i]? =some (oo i):=by
      have:i<ops.size:=by omega
      rw [hoo i ops[i] (by simp [this])];simp [this]
    have hoj:ops[j]? =some (oo j):=by
      rw [hoo j ops[j] (by simp [hj])];simp [hj]
    simpa [tmpsApart,hoi,hoj] using h1
  have hend:∀ listed:Array Bool,listed.size=ops.size→Region.ready .any ops listed=[]→∀ k,k<ops.size→listed.getD k false=true:=by
    intro listed hsz hr k
    induction k using Nat.strongRecOn with
    | _ k ih=>
      intro hk
      cases hl:listed.getD k false with
      | true=>rfl
      | false=>
        exfalso
        have:k∈Region.ready .any ops listed:=by
          rw [mem_ready]
          refine ⟨?_,ops[k],by simp [hk],fun e he hb=>?_⟩
          · have hk':k<listed.size:=by omega
            simpa [hk'] using hl
          · have h1:=hed k ops[k] (by simp [hk]) e he hb
            exact ih e.on h1 (by omega)
        rw [hr] at this
        cases this
  have done:∀ (listed:Array Bool) (β:Pla) (w:World) (a:Act),listed.size=ops.size→(nl<ops.size→listed.getD nl false=false)→DS P F oo pp st₀ ops.size N₀ β₀ w₀ a₀ (fun j=>listed.getD j false) β w a→Region.ready .any ops listed=[]→
   Post P F N₀ β₀ w₀ a₀ Q .normal a w:=by
    intro listed β w a hsz hll hds hr
    have hnn:nl=ops.size:=by
      rcases Nat.lt_or_ge nl ops.size with h | h
      · have h1:=hll h
        rw [hend listed hsz hr nl h] at h1;cases h1
      · omega
    have hQ:=hQ hnn
    have e:stF oo pp st₀ (fun j=>listed.getD j false) ops.size=sTx oo pp st₀ ops.size:=stF_same oo pp st₀ _ fun j hj=>hend listed hsz hr j hj
    have h1:=hds.e
    have h2:=hds.m
    rw [e] at h1 h2
    refine ⟨sTx oo pp st₀ ops.size,β,hQ,⟨h1,h2,fun i hi=>hds.free i ?_ fun k hk _ h=>?_⟩,⟨hds.step,?_,hds.grow,hds.size,hds.defers⟩⟩
    · exact Nat.le_trans (sTx_nx_le oo pp st₀ (Nat.zero_le _)) hi
    · have:=sTx_nx_le oo pp st₀ (show k+1≤ops.size by omega)
      rw [sTx_succ,nxt_nx] at this
      omega
    · exact Nat.le_trans hN (sTx_nx_le oo pp st₀ (Nat.zero_le _))
  intro fuel
  induction fuel with
  | zero=>
    intro listed β w a hsz hc hll hcl hds
    have hr:Region.ready .any ops listed=[]:=by
      cases hrr:Region.ready .any ops listed with
      | nil=>rfl
      | cons x xs=>
        exfalso
        have hx:x∈Region.ready .any ops listed:=by rw [hrr];simp
        rw [mem_ready] at hx
        obtain ⟨h1,o,ho,_⟩:=hx
        have hxs:x<ops.size:=(Array.getElem?_eq_some_iff.1 ho).1
        have hx':x<listed.size:=by omega
        have:listed[x]=false:=by simpa [hx'] using h1
        have h2:0<listed.toList.countP (fun b=> !b):=List.countP_pos_iff.2 ⟨listed[x],by simp,by simp [this]⟩
        omega
    exact ⟨hr,done listed β w a hsz hll hds hr⟩
  | succ fuel ih=>
    intro listed β w a hsz hc hll hcl hds
    refine ⟨done listed β w a hsz hll hds,fun k hk=>?_⟩
    rw [mem_ready] at hk
    obtain ⟨hk1,o,ho,hpre⟩:=hk
    have hkn:k<ops.size:=(Array.getElem?_eq_some_iff.1 ho).1
    have hkl:k<listed.size:=by omega
    have hkf:listed[k]=false:=by simpa [hkl] using hk1
    have hkS:listed.getD k false=false:=by simp [hkl,hkf]
    have eo:oo k=o:=hoo k o ho
    by_cases hkl2:k=nl
    ·
      subst hkl2
      obtain ⟨q1,q2,q3⟩:=hL hkn
      have hall:∀ j,j<k→listed.getD j false=true:=by
        intro j hj
        have hb:=q2 j hj
        have h1:=befs_get ops.toList [] k o (by simpa using ho)
        simp only [List.length_nil,Nat.zero_add] at h1
        rw [h1] at hb
        rcases befOf_bit _ j _ 0 hb with h2 | ⟨e,he,hbe,h2⟩
        · simp at h2
        · have hSe:=hpre e (by simpa using he) hbe
          rcases h2 with rfl | h2
          · exact hSe
          · have hlt:=hed k o ho e (by simpa using he) hbe
            have h3:((befs ops.toList []).getD e.on 0).testBit j=true:=by simpa [List.getElem?_take,hlt] using h2
            exact bit_listed (S:=fun j=>listed.getD j false) hcl j e.on hSe h3
      have hSk:stF oo pp st₀ (fun j=>listed.getD j false) ops.size=sTx oo pp st₀ k:=by
        rw [← stF_lt oo pp st₀ k ops.size (by omega)]
        refine stF_same oo pp st₀ _ fun j hj=>?_
        rcases Nat.lt_or_ge j k with h | h
        · simp [hall j h,h]
        · have:j=k:=by omega
          subst this
          simp [hkS]
      refine runOp_wpOpIn ho ?_
      rw [← eo]
      have h1:=hds.e
      have h2:=hds.m
      rw [hSk] at h1 h2
      refine q3 r n β w a ⟨h1,h2,fun i hi=>hds.free i ?_ fun j hj hS h=>?_⟩ ⟨hds.step,?_,hds.grow,hds.size,hds.defers⟩ _ fun a' w' hp=>?_
      · exact Nat.le_trans (sTx_nx_le oo pp st₀ (Nat.zero_le _)) hi
      · rcases Nat.lt_or_ge j k with hlt | hge
        · have:=sTx_nx_le oo pp st₀ (show j+1≤k by omega)
          rw [sTx_succ,nxt_nx] at this
          omega
        · have:j=k:=by omega
          subst this
          simp only [hkS] at hS;cases hS
      · exact Nat.le_trans hN (sTx_nx_le oo pp st₀ (Nat.zero_le _))
      · have hr:Region.ready .any ops (listed.setIfInBounds k true)=[]:=by
          cases hrr:Region.ready .any ops (listed.setIfInBounds k true) with
          | nil=>rfl
          | cons x xs=>
            exfalso
            have hx:x∈Region.ready .any ops (listed.setIfInBounds k true):=by rw [hrr];simp
            rw [mem_ready] at hx
            obtain ⟨g1,o',ho',_⟩:=hx
            have hxs:x<ops.size:=(Array.getElem?_eq_some_iff.1 ho').1
            by_cases hxk:x=k
            · subst hxk
              simp [hkl] at g1
            · have h3:=hall x (by omega)
              rw [getD_set_ne true (Ne.symm hxk)] at g1
              have hxl:x<listed.size:=by omega
              simp [hxl] at g1 h3
              rw [g1] at h3;cases h3
        cases fuel with
        | zero=>exact ⟨hr,hp⟩
        | succ fuel=>exact ⟨fun _=>hp,fun i hi=>by rw [hr] at hi;cases hi⟩
    have hkm:k<nl:=by
      rcases Nat.lt_or_ge k nl with h | h
      · exact h
      · have:=(hL (by omega)).1
        omega
    obtain ⟨hOk,hTidy⟩:=hok k hkm
    have hun1:∀ j,j<k→listed.getD j false=false→((befs ops.toList []).getD k 0).testBit j=false:=by
      intro j hjk hj
      cases hb:((befs ops.toList []).getD k 0).testBit j with
      | false=>rfl
      | true=>
        exfalso
        have h1:=befs_get ops.toList [] k o (by simpa using ho)
        simp only [List.length_nil,Nat.zero_add] at h1
        rw [h1] at hb
        rcases befOf_bit _ j _ 0 hb with h2 | ⟨e,he,hbe,h2⟩
        · simp at h2
        · have hSe:=hpre e (by simpa using he) hbe
          rcases h2 with rfl | h2
          · rw [hj] at hSe;cases hSe
          · have hlt:=hed k o ho e (by simpa using he) hbe
            have h3:((befs ops.toList []).getD e.on 0).testBit j=true:=by simpa [List.getElem?_take,hlt] using h2
            have:=bit_listed (S:=fun j=>listed.getD j false) hcl j e.on hSe h3
            rw [hj] at this;cases this
    have hun2:∀ j,k<j→listed.getD j false=true→((befs ops.toList []).getD j 0).testBit k=false:=by
      intro j hkj hj
      cases hb:((befs ops.toList []).getD j 0).testBit k with
      | false=>rfl
      | true=>
        exfalso
        have:=bit_listed (S:=fun j=>listed.getD j false) hcl k j hj hb
        rw [hkS] at this;cases this
    have hdiff:∀ j,j<ops.size→listed.getD j false≠decide (j<k)→(j<k∧listed.getD j false=false)∨(k<j∧listed.getD j false=true):=by
      intro j hj hne
      rcases Nat.lt_trichotomy j k with h | h | h
      · left;refine ⟨h,?_⟩
        simpa [h] using hne
      · subst h;simp [hkS] at hne
      · right;refine ⟨h,?_⟩
        have:¬ j<k:=by omega
        simpa [this] using hne
    have hSk:=stF_lt oo pp st₀ k ops.size (by omega)
    refine runOp_wpOpIn ho ?_
    rw [← eo]
    refine hOk F β w a (stF oo pp st₀ (fun j=>listed.getD j false) ops.size).mem (stF oo pp st₀ (fun j=>listed.getD j false) ops.size).env (sTx oo pp st₀ ops.size).nx ?_ hds.e hds.m ?_ ?_ ?_ r n _ _ ?_
    · intro t ht
      rw [← hSk]
      refine stF_env oo pp st₀ _ fun j hj hne=>?_
      rcases hdiff j hj hne with ⟨h1,h2⟩ | ⟨h1,h2⟩
      · have:=(Oper.apart_spec (hta' j k h1 hkn (hun1 j h1 h2))).1
        exact fun hd=>this t hd ht
      · have:=(Oper.apart_spec (hta' k j h1 hj (hun2 j h1 h2))).2.2
        exact fun hd=>this t hd ht
    · intro i hi hne
      rw [← hSk] at hne ⊢
      refine stF_mem oo pp st₀ _ fun j hj hne' hw=>?_
      rw [hSk] at hne
      rcases hdiff j hj hne' with ⟨h1,h2⟩ | ⟨h1,h2⟩
      · exact hne ((hap j k h1 hkn (hun1 j h1 h2)).2.1 i hw hi)
      · exact hne ((hap k j h1 hj (hun2 j h1 h2)).2.2 i hw hi)
    · intro i h1 h2
      refine hds.free i (Nat.le_trans (sTx_nx_le oo pp st₀ (Nat.zero_le _)) h1) fun j hj hS h3=>?_
      rcases Nat.lt_trichotomy j k with h | h | h
      · have:=sTx_nx_le oo pp st₀ (show j+1≤k by omega)
        rw [sTx_succ,nxt_nx] at this
        omega
      · subst h;simp only [hkS] at hS;cases hS
      · have:=sTx_nx_le oo pp st₀ (show k+1≤j by omega)
        rw [sTx_succ,nxt_nx] at this
        omega
    · intro i hi
      refine hds.free i (Nat.le_trans (sTx_nx_le oo pp st₀ (Nat.zero_le _)) hi) fun j hj _ h3=>?_
      have:=sTx_nx_le oo pp st₀ (show j+1≤ops.size by omega)
      rw [sTx_succ,nxt_nx] at this
      omega
    · intro v w' β' g1 g2 g3 g4
      have hS':(fun j=>(listed.setIfInBounds k true).getD j false)=(fun j=>if j=k then true else listed.getD j false):=by
        funext j
        by_cases hj:j=k
        · subst hj;simp [hkl]
        · rw [if_neg hj,getD_set_ne false (Ne.symm hj)]
      obtain ⟨ae,am⟩:=stF_add oo pp st₀ (S:=fun j=>listed.getD j false) (k:=k) hkS ops.size hkn fun j hkj hj hSj=>
        ⟨(Oper.apart_spec (hta' k j hkj hj (hun2 j hkj hSj))).2.1,(hap k j hkj hj (hun2 j hkj hSj)).1⟩
      refine ih _ β' w' _ (by simpa using hsz) ?_ (fun h=>by rw [getD_set_ne false (fun e=>hkl2 e)];exact hll h) ?_ ?_
      · have:(listed.setIfInBounds k true).toList=listed.toList.set k true:=by simp
        rw [this,List.countP_set (by simpa using hkl)]
        have h2:0<listed.toList.countP (fun b=> !b):=List.countP_pos_iff.2 ⟨listed[k],by simp,by simp [hkf]⟩
        have h3:listed.toList[k]'(by simpa using hkl)=false:=by simpa using hkf
        rw [h3]
        simp only [Bool.not_false,if_true,Bool.not_true,Bool.false_eq_true,if_false]
        omega
      · intro j hj o' ho' e he hb
        by_cases hjk:j=k
        · subst hjk
          rw [ho] at ho';cases ho'
          exact getD_set_true (hpre e he hb)
        · rw [getD_set_ne false (Ne.symm hjk)] at hj
          exact getD_set_true (hcl j hj o' ho' e he hb)
      · rw [hS']
        refine ⟨?_,by rw [am];exact g2,fun i hi hn=>?_,hds.step.trans g3,fun i hi hn=>?_,by rw [put_size];exact hds.size,by rw [put_defers];exact hds.defers⟩
        · rw [ae]
          have hd:∀ t,(oo k).dst=some t→t<a.tmps.size:=fun t ht=>by rw [hds.size];rw [eo] at ht;exact opsLt_spec hlt ho t ht
          have he:=hds.e.step g3
          cases hdst:(oo k).dst with
          | none=>exact he
          | some t=>exact he.put (some t) _ _ g1 (fun u hu=>hd u (by rw [hdst];exact hu))
        · have h1:=hn k hkn (by simp)
          have h2:=hds.free i hi fun j hj hSj=>hn j hj (by by_cases hjk:j=k<;>simp [hjk,hSj])
          exact g4 i h2 (by omega)
        · exact g4 i (hds.grow i hi hn) (.inl (Nat.lt_of_lt_of_le (Nat.lt_of_lt_of_le hi hN) (sTx_nx_le oo pp st₀ (Nat.zero_le _))))
theorem last_ok {o:Oper} {st:St} {r:Option Nat} {n:Nat} {i:Nat} (ho:ops[i]? =some o) (hlt:opsLt a₀.tmps.size ops=true) (h:AOps P noY ops false [] Q [o] st []):LastOk P F ops Q N₀ β₀ w₀ a₀ r n o st:=by
  intro β w a hs hsi K hK
  have hd:∀ t,o.dst=some t→t<a.tmps.size:=fun t ht=>by rw [hsi.size];exact opsLt_spec hlt ho t ht
  simp only [AOps] at h
  rcases aop2_plan h with ⟨p,h1,_,h3⟩ | ⟨_,f,args,h1,h2,h3,h4⟩ | ⟨_,l,args,h1,h2,h3,h4⟩
  · exact step_plan h1 hs hd r n _ fun β' a' w' hs' hsi'=>hK _ _ ⟨_,β',h3.2,hs',hsi.trans hsi'⟩
  · exact step_acall h1 h2 h3 h4 hs hd r n _ fun d m' nx' β' a' w' hp hs' hsi'=>hK _ _ ⟨_,β',hp.2,hs',hsi.trans hsi'⟩
  · exact h4.elim
theorem lastB_spec (h:lastB ops=true):0<ops.size∧∀ i,i<ops.size - 1→((befs ops.toList []).getD (ops.size - 1) 0).testBit i=true:=by
  unfold lastB at h
  simp only [Bool.and_eq_true,List.all_eq_true,List.mem_range] at h
  exact ⟨by simpa using h.1,h.2⟩
theorem draw_main {st:St} {β:Pla} {w:World} {a:Act} {r:Option Nat} {n id nl:Nat} {ps:List Plan} (hmix:P.follows .mixedOrders=true) (hi:drawInfo ops=some cf) (hlt:opsLt a₀.tmps.size ops=true) (hnl:nl≤ops.size)
    (hok:∀ j,j<nl→(ps.getD j default).Ok P ops (ops.toList.getD j default) (sTx (fun j=>ops.toList.getD j default) (fun j=>ps.getD j default) st j)∧(ps.getD j default).Tidy (kindO (ops.toList.getD j default).op) (sTx (fun j=>ops.toList.getD j default) (fun j=>ps.getD j default) st j))
    (hQ:nl=ops.size→Q .normal (sTx (fun j=>ops.toList.getD j default) (fun j=>ps.getD j default) st ops.size))
    (hL:nl<ops.size→nl+1=ops.size∧(∀ i,i<nl→((befs ops.toList []).getD nl 0).testBit i=true)∧∀ r n,LastOk P F ops Q N₀ β₀ w₀ a₀ r n (ops.toList.getD nl default) (sTx (fun j=>ops.toList.getD j default) (fun j=>ps.getD j default) st nl))
    (htr:∃ tr':Tra,(∀ j,j<nl→tr'.getD j ([],[])=((ps.getD j default).rd,(ps.getD j default).wr))∧∀ q∈cf,apartT tr' q.1 q.2)
    (hs:Sim P F st β w a) (hsi:Since N₀ β₀ w₀ a₀ st β w a):(Code.region id ops true).wpIn (Fe r) n P (Post P F N₀ β₀ w₀ a₀ Q) a w:=by
  refine wpIn_region_any hmix ?_
  have hsame:stF (fun j=>ops.toList.getD j default) (fun j=>ps.getD j default) st (fun j=>(Array.replicate ops.size false).getD j false) ops.size=st:=by
    have:∀ n,stF (fun j=>ops.toList.getD j default) (fun j=>ps.getD j default) st (fun j=>(Array.replicate ops.size false).getD j false) n=st:=by
      intro n
      induction n with
      | zero=>rfl
      | succ n ih=>
        have:(Array.replicate ops.size false).getD n false=false:=by simp [Array.getD_eq_getD_getElem?,Array.getElem?_replicate];split<;>rfl
        simp only [stF,this,Bool.false_eq_true,if_false]
        exact ih
    exact this _
  have hdr:Step β w β { w with drawn:=w.drawn+1 }:=⟨Nat.le_refl _,fun _ _ h=>⟨rfl,h⟩,fun _ _ h=>.inl h,⟨rfl,rfl⟩,fun _ _ _ _=>skel_of rfl⟩
  refine draw_any (st₀:=st) (oo:=fun j=>ops.toList.getD j default) (pp:=fun j=>ps.getD j default) hi (fun j o hj=>by simp [hj]) hlt nl hnl hok hQ hL htr (fun i hi=>?_) hsi.le r n ops.size _ β _ a (by simp) ?_ (fun h=>?_) ?_ ?_
  · cases hm:st.mem i with
    | none=>rfl
    | some row=>
      obtain ⟨p,hp,_⟩:=hs.m.row i row hm
      rw [hs.n i hi] at hp
      cases hp
  · simpa using List.countP_le_length (p:=fun b=> !b) (l:=(Array.replicate ops.size false).toList)
  · simp [Array.getD_eq_getD_getElem?,Array.getElem?_replicate];split<;>rfl
  · intro j hj
    exfalso
    have:(Array.replicate ops.size false).getD j false=false:=by simp [Array.getD_eq_getD_getElem?,Array.getElem?_replicate];split<;>rfl
    rw [this] at hj;cases hj
  · refine ⟨?_,?_,fun i hi _=>hs.n i hi,hsi.step.trans hdr,hsi.grow,hsi.size,hsi.defers⟩
    · rw [hsame];exact hs.e.step hdr
    · rw [hsame];exact hs.m.ext (Nat.le_refl _) fun _ _=>rfl
theorem region_draw {Y:YSpec} {st:St} {β:Pla} {w:World} {a:Act} {r:Option Nat} {n id:Nat} (hmix:P.follows .mixedOrders=true) (hi:drawInfo ops=some cf) (hlt:opsLt a₀.tmps.size ops=true)
    (h:DrawOk P Y ops cf Q st) (hs:Sim P F st β w a) (hsi:Since N₀ β₀ w₀ a₀ st β w a):(Code.region id ops true).wpIn (Fe r) n P (Post P F N₀ β₀ w₀ a₀ Q) a w:=by
  obtain ⟨ps,nl,hnl,hok,hQ,hL,htr⟩:∃ (ps:List Plan) (nl:Nat),nl≤ops.size∧
      (∀ j,j<nl→(ps.getD j default).Ok P ops (ops.toList.getD j default) (sTx (fun j=>ops.toList.getD j default) (fun j=>ps.getD j default) st j)∧(ps.getD j default).Tidy (kindO (ops.toList.getD j default).op) (sTx (fun j=>ops.toList.getD j default) (fun j=>ps.getD j default) st j))∧
      (nl=ops.size→Q .normal (sTx (fun j=>ops.toList.getD j default) (fun j=>ps.getD j default) st ops.size))∧
      (nl<ops.size→nl+1=ops.size∧(∀ i,i<nl→((befs ops.toList []).getD nl 0).testBit i=true)∧∀ r n,LastOk P F ops Q N₀ β₀ w₀ a₀ r n (ops.toList.getD nl default) (sTx (fun j=>ops.toList.getD j default) (fun j=>ps.getD j default) st nl))∧
      ∃ tr':Tra,(∀ j,j<nl→tr'.getD j ([],[])=((ps.getD j default).rd,(ps.getD j default).wr))∧∀ q∈cf,apartT tr' q.1 q.2:=by
    rcases h with h | ⟨hl,h⟩
    · obtain ⟨ps,hps⟩:=planned_of _ _ _ h
      have hpa:=planned_at (fun j=>ops.toList.getD j default) (fun j=>ps.getD j default) st ops.toList ps 0 [] (fun j o hj=>by simp at hj;simp [hj]) (fun j p hj=>by simp [hj]) rfl (by simp) hps
      simp only [Nat.zero_add,Array.length_toList] at hpa
      obtain ⟨h1,h2,h3⟩:=hpa
      exact ⟨ps,ops.size,Nat.le_refl _,fun j hj=>h1 j (Nat.zero_le _) hj,fun _=>h2,fun h=>absurd h (Nat.lt_irrefl _),h3⟩
    · obtain ⟨hp,hb⟩:=lastB_spec hl
      obtain ⟨ps,hps⟩:=planned_of _ _ _ h
      have hlen:(ops.toList.take (ops.size - 1)).length=ops.size - 1:=by simp
      have hpa:=planned_at (fun j=>ops.toList.getD j default) (fun j=>ps.getD j default) st (ops.toList.take (ops.size - 1)) ps 0 [] (fun j o hj=>by
        have hj':j<ops.size - 1:=by rw [← hlen];exact (List.getElem?_eq_some_iff.1 hj).1
        rw [List.getElem?_take,if_pos hj'] at hj
        simp at hj;simp [hj]) (fun j p hj=>by simp [hj]) rfl (by simp) hps
      rw [hlen] at hpa
      simp only [Nat.zero_add] at hpa
      obtain ⟨h1,h2,h3⟩:=hpa
      refine ⟨ps,ops.size - 1,by omega,fun j hj=>h1 j (Nat.zero_le _) hj,fun h=>by omega,fun _=>⟨by omega,hb,fun r n=>?_⟩,h3⟩
      have hx:ops[ops.size - 1]? =some (ops.toList.getD (ops.size - 1) default):=by
        have hlt:ops.size - 1<ops.size:=by omega
        simp [hlt]
      refine last_ok hx hlt ?_
      have h4:=h2.2
      have hd:ops.toList.drop (ops.size - 1)=[ops.toList.getD (ops.size - 1) default]:=by
        have hlt:ops.size - 1<ops.toList.length:=by simp;omega
        rw [List.drop_eq_getElem_cons hlt,List.drop_eq_nil_of_le (by simp;omega)]
        have hlt':ops.size - 1<ops.size:=by omega
        simp [List.getD,hlt']
      rw [hd] at h4
      exact h4
  exact draw_main hmix hi hlt hnl hok hQ hL htr hs hsi
end
section
variable {P:Program} {F:Nat→Prop}
theorem fz0_step {β β':Pla} {w:World} {m:Mem} (hm:MSim P F m β w) {i:Nat} {cs:List D} {e:TypeId} (hrow:m i=some (.cells cs e)) (hβ:β'=up β i (some .dead)) {d:D} {v:Value} (h:R F β w d v):
    R F β' w (fz0 i cs (P.cellsOf e) d) v:=by
  have hs:Step β w β' w:=by rw [hβ];exact step_dead β w i
  have hstep:=h.step hs
  obtain ⟨p,hp,hr⟩:=hm.row i _ hrow
  unfold fz0
  split
  · rename_i j off n
    split
    · rename_i hji
      subst hji
      cases h with
      | rsd _ _ _ _ h1 _=>
        rw [h1] at hp
        cases hp
        cases hr
      | rsn _ a h1=>
        rw [h1] at hp
        cases hp
        cases hr
        simp only [List.drop_nil,List.take_nil]
        exact .sln a 0
      | rsz _ _ a b o len room sz h1=>
        simp only [Nat.zero_mul,List.take_zero]
        exact .sln a 0
      | rs _ _ _ cap b o len room sz h1 hn hmax h2 h3=>
        rw [h1] at hp
        cases hp
        have hblk:β j=some (.cells b o len room sz):=h1
        obtain ⟨hrd,hl,hsz,_⟩:=hr.rd
        have hrd':=(hrd.drop off).take (n*P.cellsOf e)
        obtain ⟨us,u1,u2⟩:=hrd'
        refine .sl _ n b (o+off) cap us (hm.nf j _ b hblk rfl) ?_ (hm.lt j _ b hblk rfl) hn hmax u1 fun k d hk=>(u2 k d hk).step hs
        rw [hβ]
        intro k q hq
        by_cases hkj:k=j
        · subst hkj
          rw [up_same] at hq
          cases hq
          simp [Pl.blk]
        · rw [up_ne _ _ hkj] at hq
          exact hm.free_other hblk rfl hq hkj
    · exact hstep
  · rename_i j off
    split
    · rename_i hji
      subst hji
      cases h with
      | rpd _ _ _ h1 _=>
        rw [h1] at hp
        cases hp
        cases hr
      | rp _ _ b o len room sz h1=>
        rw [h1] at hp
        cases hp
        obtain ⟨hrd,hl,hsz,_⟩:=hr.rd
        obtain ⟨us,u1,u2⟩:=hrd.drop off
        refine .pt _ b (o+off) us (hm.nf j _ b h1 rfl) ?_ (hm.lt j _ b h1 rfl) u1 fun k d hk=>(u2 k d hk).step hs
        rw [hβ]
        intro k q hq
        by_cases hkj:k=j
        · subst hkj
          rw [up_same] at hq
          cases hq
          simp [Pl.blk]
        · rw [up_ne _ _ hkj] at hq
          exact hm.free_other h1 rfl hq hkj
    · exact hstep
  · exact hstep
theorem fm0_step {β β':Pla} {w:World} {m:Mem} (hm:MSim P F m β w) {i:Nat} {es:List (Value×D)} (hrow:m i=some (.map es)) (hβ:β'=up β i (some .dead)) {d:D} {v:Value} (h:R F β w d v):R F β' w (fm0 i es d) v:=by
  have hs:Step β w β' w:=by rw [hβ];exact step_dead β w i
  unfold fm0
  split
  · rename_i j
    split
    · rename_i hji
      subst hji
      obtain ⟨r,ms,clock,h1,rfl,h3,h4,h5,h6⟩:=h.mp_inv hm hrow
      refine .im es r ms clock (hm.nf j _ r h1 rfl) ?_ h3 h4 h5 (fun k x m hx hm=>(h6 k x m hx hm).1) fun k x m hx hm=>(h6 k x m hx hm).2.step hs
      rw [hβ]
      intro k q hq
      by_cases hkj:k=j
      · subst hkj
        rw [up_same] at hq
        cases hq
        simp [Pl.blk]
      · rw [up_ne _ _ hkj] at hq
        exact hm.free_other h1 rfl hq hkj
    · exact h.step hs
  · exact h.step hs
section subst
variable {σ:D→D} {β β':Pla} {w:World}
theorem sub1_step (hσ:∀ {d v},R F β w d v→R F β' w (σ d) v) {d:D} {v:Value} (h:R F β w d v):R F β' w (sub1 σ d) v:=by
  unfold sub1
  split
  · rename_i ds
    obtain ⟨vs,rfl,hl,hh⟩:=h.agg_inv
    refine .agg _ vs (by simpa using hl) fun k d v hd hv=>?_
    simp only [List.getElem?_map,Option.map_eq_some_iff] at hd
    obtain ⟨d',hd',rfl⟩:=hd
    exact hσ (hh k d' v hd' hv)
  · cases h with
    | opt c d _ h1 h2=>exact .opt _ _ v (fun hc=>hσ (h1 hc)) h2
  · exact hσ h
theorem sub_step (hσ:∀ {d v},R F β w d v→R F β' w (σ d) v) {d:D} {v:Value} (h:R F β w d v):R F β' w (sub σ d) v:=by
  have map:∀ (ds:List D) (vs:List Value),(∀ (k:Nat) (d:D) (v:Value),ds[k]? =some d→vs[k]? =some v→R F β w d v)→
   ∀ (k:Nat) (d:D) (v:Value),(ds.map (sub1 σ))[k]? =some d→vs[k]? =some v→R F β' w d v:=fun ds vs hh k d v hd hv=>by
    simp only [List.getElem?_map,Option.map_eq_some_iff] at hd
    obtain ⟨d',hd',rfl⟩:=hd
    exact sub1_step hσ (hh k d' v hd' hv)
  unfold sub
  split
  · rename_i ds
    obtain ⟨vs,rfl,hl,hh⟩:=h.tup_inv
    exact .tup _ vs (by simpa using hl) (map ds vs hh)
  · rename_i f fs ds
    cases h with
    | fn _ _ _ us vs hl hl' h1 h2=>exact .fn f _ _ us vs (by simpa using hl) (by simpa using hl') (map fs us h1) (map ds vs h2)
  · exact sub1_step hσ h
theorem sub_row (hσ:∀ {d v},R F β w d v→R F β' w (σ d) v) (hs:Step β w β' w) {r:Row} {p:Pl} (h:RowR P F β w r p):RowR P F β' w (r.sub σ) p:=by
  cases h with
  | nil e'=>exact .nil e'
  | cells ds e' b o room sz c hc hr hlen hsz hh=>
    have:=RowR.cells (P:=P) (F:=F) (β:=β') (w:=w) (ds.map (Abs.sub σ)) e' b o room sz c hc hr (by simpa using hlen) hsz fun k d hk=>by
      simp only [List.getElem?_map,Option.map_eq_some_iff] at hk
      obtain ⟨d',hd',rfl⟩:=hk
      obtain ⟨v,h1,h2,h3⟩:=hh k d' hd'
      exact ⟨v,h1,sub_step hσ h2,h3⟩
    simpa [Row.sub] using this
  | map es r ms clock hc hl hnd hh=>
    refine .map _ r ms clock hc (by simpa using hl) (by simpa [List.map_map,Function.comp_def] using hnd) fun k x mm hk hmk=>?_
    simp only [List.getElem?_map,Option.map_eq_some_iff] at hk
    obtain ⟨x',hx',rfl⟩:=hk
    obtain ⟨h1,h2⟩:=hh k x' mm hx' hmk
    exact ⟨h1,sub_step hσ h2⟩
  | raw r o hc=>exact .raw r o hc
  | bs u x T b v hc hsz hx h1=>exact .bs u _ T b v hc hsz (sub_step hσ hx) h1
  | lp k r L hc hk=>exact .lp k r L hc hk
  | ren f r _ F₂ h1 h2 h=>exact (RowR.ren f r p F₂ h1 h2 h).step hs fun _ _=>rfl
end subst
theorem subst_sound {σ:D→D} {env:Env} {m:Mem} {nx i:Nat} {row:Row} (h:m i=some row) {w:World} {a:Act} {β:Pla} (hs:Sim P F ⟨env,m,nx⟩ β w a) (hσ:∀ {d v},R F β w d v→R F (up β i (some .dead)) w (σ d) v):
    ∃ β',Sim P F ⟨fun t=>sub σ (env t),fun j=>if j=i then none else (m j).map (Row.sub σ),nx⟩ β' w a∧Since nx β w a ⟨fun t=>sub σ (env t),fun j=>if j=i then none else (m j).map (Row.sub σ),nx⟩ β' w a:=by
  have hstep:=step_dead β w i
  have hm:=hs.m
  simp only at hm
  have hsub:∀ j q b,up β i (some .dead) j=some q→q.blk=some b→j≠i∧β j=some q:=fun j q b hq e=>by
    by_cases hj:j=i
    · subst hj
      rw [up_same] at hq
      cases hq
      simp [Pl.blk] at e
    · rw [up_ne _ _ hj] at hq
      exact ⟨hj,hq⟩
  have hi:∃ p,β i=some p:=by
    obtain ⟨p,hp,_⟩:=hm.row i _ h
    exact ⟨p,hp⟩
  refine ⟨up β i (some .dead),⟨fun t=>sub_step hσ (hs.e t),⟨fun j r hj=>?_,fun j k q q' b hq hq' e1 e2=>hm.inj j k q q' b (hsub j q b hq e1).2 (hsub k q' b hq' e2).2 e1 e2,
    fun j q b hq e1=>hm.lt j q b (hsub j q b hq e1).2 e1,fun j q b hq e1=>hm.nf j q b (hsub j q b hq e1).2 e1,hm.fb⟩,fun j hj=>?_⟩,⟨hstep,Nat.le_refl _,fun j hj hn=>?_,rfl,rfl⟩⟩
  · simp only at hj
    by_cases hji:j=i
    · rw [if_pos hji] at hj;cases hj
    · rw [if_neg hji] at hj
      simp only [Option.map_eq_some_iff] at hj
      obtain ⟨r',hr',rfl⟩:=hj
      obtain ⟨q,hq,hrow⟩:=hm.row j r' hr'
      exact ⟨q,by rw [up_ne _ _ hji];exact hq,sub_row hσ hstep hrow⟩
  · have hji:j≠i:=fun e1=>by
      subst e1
      obtain ⟨p,hp⟩:=hi
      rw [hs.n j hj] at hp
      cases hp
    rw [up_ne _ _ hji];exact hs.n j hj
  · have hji:j≠i:=fun e1=>by
      subst e1
      obtain ⟨p,hp⟩:=hi
      rw [hn] at hp
      cases hp
    rw [up_ne _ _ hji];exact hn
theorem weak_row {β:Pla} {w:World} {cs cs':List D} {e:TypeId} {p:Pl} (hl:cs'.length=cs.length) (hw:∀ (k:Nat) (d d':D),cs[k]? =some d→cs'[k]? =some d'→Wk d d') (h:RowR P F β w (.cells cs e) p):RowR P F β w (.cells cs' e) p:=by
  cases h with
  | nil _=>
    have:cs'=[]:=List.length_eq_zero_iff.1 (by simpa using hl)
    subst this
    exact .nil e
  | cells _ _ b o room sz c hc hr hlen hsz hh=>
    rw [← hl]
    refine .cells cs' e b o room sz c hc hr (by omega) hsz fun k d' hd'=>?_
    have hk:k<cs.length:=by rw [← hl];exact (List.getElem?_eq_some_iff.1 hd').1
    obtain ⟨v,h1,h2,h3⟩:=hh k cs[k] (by simp [hk])
    exact ⟨v,h1,hw k cs[k] d' (by simp [hk]) hd' _ _ _ _ h2,h3⟩
theorem ghost_sound {st st':St} (h:Ghost P st st') {w:World} {a:Act}:∀ {β:Pla},Sim P F st β w a→∃ β',Sim P F st' β' w a∧Since st.nx β w a st' β' w a:=by
  induction h with
  | refl st=>exact fun {β} hs=>⟨β,hs,Since.refl st β w a⟩
  | trans _ _ ih₁ ih₂=>
    intro β hs
    obtain ⟨β₁,h1,h2⟩:=ih₁ hs
    obtain ⟨β₂,h3,h4⟩:=ih₂ h1
    exact ⟨β₂,h3,h2.trans h4⟩
  | forget env env' m nx h=>
    intro β hs
    refine ⟨β,⟨fun t=>?_,hs.m,hs.n⟩,⟨Step.refl β w,Nat.le_refl _,fun _ _ h=>h,rfl,rfl⟩⟩
    rcases h t with h1 | h1
    · simp only [h1];exact hs.e t
    · simp only [h1];exact .u _
  | drop env m m' nx h=>
    intro β hs
    refine ⟨β,⟨hs.e,⟨fun i r hi=>?_,hs.m.inj,hs.m.lt,hs.m.nf,hs.m.fb⟩,hs.n⟩,⟨Step.refl β w,Nat.le_refl _,fun _ _ h=>h,rfl,rfl⟩⟩
    rcases h i with h1 | h1
    · exact hs.m.row i r (h1.symm.trans hi)
    · simp only at hi;rw [h1] at hi;cases hi
  | weak env env' m m' nx h hmm=>
    intro β hs
    refine ⟨β,⟨fun t=>h t _ _ _ _ (hs.e t),⟨fun i r hi=>?_,hs.m.inj,hs.m.lt,hs.m.nf,hs.m.fb⟩,hs.n⟩,⟨Step.refl β w,Nat.le_refl _,fun _ _ h=>h,rfl,rfl⟩⟩
    rcases hmm i with h1 | ⟨cs,cs',e,h1,h2,h3,h4⟩
    · exact hs.m.row i r (h1.symm.trans hi)
    · simp only at hi
      rw [h2] at hi
      cases hi
      obtain ⟨p,hp,hr⟩:=hs.m.row i _ h1
      exact ⟨p,hp,weak_row h3 h4 hr⟩
  | freeze env m nx i cs e h=>
    intro β hs
    exact subst_sound h hs fun hr=>fz0_step hs.m h rfl hr
  | freezeM env m nx i es h=>
    intro β hs
    exact subst_sound h hs fun hr=>fm0_step hs.m h rfl hr
  | nilrow env m nx t e h=>
    intro β hs
    have hm:=hs.m
    have hn:β nx=none:=hs.n nx (Nat.le_refl _)
    simp only at hm
    have hsub:∀ j q b,up β nx (some .nil) j=some q→q.blk=some b→j≠nx∧β j=some q:=fun j q b hq e=>by
      by_cases hj:j=nx
      · subst hj
        rw [up_same] at hq
        cases hq
        simp [Pl.blk] at e
      · rw [up_ne _ _ hj] at hq
        exact ⟨hj,hq⟩
    have hstep:Step β w (up β nx (some .nil)) w:=by
      refine ⟨Nat.le_refl _,fun b _ hf=>⟨rfl,fun j q hq e1=>?_⟩,fun j q hq=>.inl ?_,⟨rfl,rfl⟩,fun _ _ _ _=>skel_of rfl⟩
      · exact hf j q (hsub j q b hq e1).2 e1
      · rw [up_ne _ _ (fun e1=>by rw [e1,hn] at hq;cases hq)];exact hq
    refine ⟨up β nx (some .nil),⟨fun u=>?_,⟨fun j r hj=>?_,fun j k q q' b hq hq' e1 e2=>hm.inj j k q q' b (hsub j q b hq e1).2 (hsub k q' b hq' e2).2 e1 e2,
      fun j q b hq e1=>hm.lt j q b (hsub j q b hq e1).2 e1,fun j q b hq e1=>hm.nf j q b (hsub j q b hq e1).2 e1,hm.fb⟩,fun j hj=>?_⟩,⟨hstep,Nat.le_succ _,fun j hj hb=>?_,rfl,rfl⟩⟩
    · by_cases hu:u=t
      · subst hu
        have h1:=hs.e u
        simp only at h1
        rw [h] at h1
        obtain ⟨x,hx⟩:=h1.z_inv
        simp only [up_same,hx]
        exact .rsn nx x (up_same _ _ _)
      · simp only [up_ne _ _ hu]
        exact (hs.e u).step hstep
    · simp only at hj
      by_cases hji:j=nx
      · subst hji
        rw [up_same] at hj
        cases hj
        exact ⟨.nil,up_same _ _ _,.nil e⟩
      · rw [up_ne _ _ hji] at hj
        obtain ⟨q,hq,hrow⟩:=hm.row j r hj
        exact ⟨q,by rw [up_ne _ _ hji];exact hq,hrow.step hstep fun _ _=>rfl⟩
    · simp only at hj
      rw [up_ne _ _ (show j≠nx by omega)]
      exact hs.n j (by simp only;omega)
    · simp only at hj
      rw [up_ne _ _ (show j≠nx by omega)]
      exact hb
def codeLt (N:Nat):Code→Bool
  | .region _ ops _=>opsLt N ops
  | .seq a b=>codeLt N a&&codeLt N b
  | .cond _ a b=>codeLt N a&&codeLt N b
  | .block _ b=>codeLt N b
  | .loop b=>codeLt N b
  | .scope b=>codeLt N b
  | .rangeFunc _ ps a b=>(ps.toList.all fun t=>Nat.blt t N)&&(codeLt N a&&codeLt N b)
  | _=>true
theorem wpIn_loop_rel {Fc:Fence} {n:Nat} {Q:Exit→Act→World→Prop} {c:Code} (J:Nat→Act→World→Prop) {j₀:Nat} {a:Act} {w:World} (h₀:J j₀ a w)
    (round:∀ j a w,J j a w→c.wpIn Fc n P (Exit.then (fun a' w'=>∃ j',j'<j∧J j' a' w') Q) a w):(Code.loop c).wpIn Fc n P Q a w:=by
  intro b k cs hro hb hr
  have key:∀ j a w,J j a w→
   ∃ e a' w',Q e a' w'∧ArrivesIn (Machine.fenced P Fc) P (lone (b.atR a (.code c::.inLoop c::k)) cs w) b k cs e a' w':=by
    intro j
    induction j using Nat.strongRecOn with
    | _ j ih=>
      intro a w hI
      obtain ⟨e,a₁,w₁,hq,harr⟩:=round j a w hI b (.inLoop c::k) cs hro hb hr
      cases e with
      | normal=>
        obtain ⟨j',hlt,hI₁⟩:=hq
        obtain ⟨e₂,a₂,w₂,hq₂,harr₂⟩:=ih j' hlt a₁ w₁ hI₁
        exact ⟨e₂,a₂,w₂,hq₂,.of_steps (StepsIn.trans harr (.one (fenced_calm hb hr rfl) stepR_inLoop)) harr₂⟩
      | exit id=>exact ⟨_,a₁,w₁,hq,.pass (x:=.inLoop c) rfl (fun _ _=>.inl (by simp)) harr⟩
      | goto l=>exact ⟨_,a₁,w₁,hq,.pass (x:=.inLoop c) rfl (fun _ _=>.inl (by simp)) harr⟩
      | ret=>exact ⟨_,a₁,w₁,hq,.pass (x:=.inLoop c) rfl (fun _ _=>.inl (by simp)) harr⟩
      | panic ch=>exact ⟨_,a₁,w₁,hq,.pass (x:=.inLoop c) rfl (fun _ _=>.inl (by simp)) harr⟩
      | outgrown=>exact ⟨_,a₁,w₁,hq,.pass (x:=.inLoop c) rfl (fun _ _=>.inl (by simp)) harr⟩
  obtain ⟨e,a',w',hq,harr⟩:=key _ a w h₀
  exact ⟨e,a',w',hq,.of_steps (.one (fenced_calm hb hr rfl) stepR_loop) harr⟩
def mark (b:Nat):Deferred:={ target:=.collected b,args:= #[] }
def Marks (β:Pla) (w:World) (lo:Nat):List Deferred→Nat→Prop
  | [],_=>True
  | d::ds,hi=>∃ b,d=mark b∧lo≤b∧b<hi∧w.heap[b]? =some (.deferred (some []))∧β.free b∧Marks β w lo ds b
theorem Marks.step {β β':Pla} {w w':World} (hs:Step β w β' w') {lo:Nat}:∀ {ds:List Deferred} {hi:Nat},hi≤w.heap.size→Marks β w lo ds hi→Marks β' w' lo ds hi
  | [],_,_,_=>trivial
  | d::ds,hi,hle,⟨b,h1,h2,h3,h4,h5,h6⟩=>by
    obtain ⟨g1,g2⟩:=hs.imm b (by omega) h5
    exact ⟨b,h1,h2,h3,g1.trans h4,g2,Marks.step hs (by omega) h6⟩
theorem Marks.mono {β:Pla} {w:World} {lo hi hi':Nat} (h:hi≤hi'):∀ {ds:List Deferred},Marks β w lo ds hi→Marks β w lo ds hi'
  | [],_=>trivial
  | _::_,⟨b,h1,h2,h3,h4⟩=>⟨b,h1,h2,by omega,h4⟩
theorem Marks.append {β:Pla} {w:World} {lo mid:Nat} (hlm:lo≤mid) {ds':List Deferred}:∀ {ds:List Deferred} {hi:Nat},mid≤hi→Marks β w mid ds hi→Marks β w lo ds' mid→Marks β w lo (ds++ds') hi
  | [],_,hle,_,h'=>Marks.mono hle h'
  | _::_,_,_,⟨b,h1,h2,h3,h4,h5,h6⟩,h'=>⟨b,h1,by omega,h3,h4,h5,Marks.append hlm h2 h6 h'⟩
structure Big (N:Nat) (β:Pla) (w:World) (a:Act) (st':St) (β':Pla) (w':World) (a':Act):Prop where
  step:Step β w β' w'
  le:N≤st'.nx
  grow:∀ i,i<N→β i=none→β' i=none
  size:a'.tmps.size=a.tmps.size
  defers:∃ ds,a'.defers=ds++a.defers∧Marks β' w' w.heap.size ds w'.heap.size
theorem Since.big {N:Nat} {β β':Pla} {w w':World} {a a':Act} {st':St} (h:Since N β w a st' β' w' a'):Big N β w a st' β' w' a':=
  ⟨h.step,h.le,h.grow,h.size,[],h.defers,trivial⟩
theorem Big.trans {N:Nat} {β β₁ β₂:Pla} {w w₁ w₂:World} {a a₁ a₂:Act} {st₁ st₂:St} (h:Big N β w a st₁ β₁ w₁ a₁) (k:Big st₁.nx β₁ w₁ a₁ st₂ β₂ w₂ a₂):Big N β w a st₂ β₂ w₂ a₂:=by
  obtain ⟨ds,e1,h1⟩:=h.defers
  obtain ⟨ds',e2,h2⟩:=k.defers
  exact ⟨h.step.trans k.step,Nat.le_trans h.le k.le,fun i hi hn=>k.grow i (Nat.lt_of_lt_of_le hi h.le) (h.grow i hi hn),k.size.trans h.size,ds'++ds,by rw [e2,e1,List.append_assoc],
    Marks.append h.step.size k.step.size h2 (h1.step k.step (Nat.le_refl _))⟩
theorem Big.since {N:Nat} {β β₁ β₂:Pla} {w w₁ w₂:World} {a a₁ a₂:Act} {st₁ st₂:St} (h:Big N β w a st₁ β₁ w₁ a₁) (k:Since st₁.nx β₁ w₁ a₁ st₂ β₂ w₂ a₂):Big N β w a st₂ β₂ w₂ a₂:=h.trans k.big
def PostB (P:Program) (F:Nat→Prop) (N:Nat) (β:Pla) (w:World) (a:Act) (Q:Exit→St→Prop) (e:Exit) (a':Act) (w':World):Prop:=
  ∃ st' β',Q e st'∧Sim P F st' β' w' a'∧Big N β w a st' β' w' a'
theorem YCall.base {βb:Pla} {wb:World} {β:Pla} {w:World} (hs:Step βb wb β w) {l:Nat} {args:List D} {m:Mem} {nx:Nat} {K:D→Mem→Nat→Prop} (h:YCall P F βb wb l args m nx K):YCall P F β w l args m nx K:=
  fun β' w' us hs'=>h β' w' us (hs.trans hs')
theorem free_other {β:Pla} {i:Nat} {p:Option Pl} {b:Nat} (h:β.free b) (hp:∀ q,p=some q→q.blk≠some b):Pla.free (up β i p) b:=fun j q hq=>by
  by_cases hj:j=i
  · subst hj;rw [up_same] at hq;exact hp q hq
  · rw [up_ne _ _ hj] at hq;exact h j q hq
theorem R.putF {β:Pla} {w:World} {l:Nat} (hF:F l) (o:Obj) {d:D} {v:Value} (h:R F β w d v):R F β (w.putObj l o) d v:=
  h.gen (by simp) (fun b _ hb hf=>⟨same_of (World.putObj_heap_other fun e=>hb (e▸hF)),hf,hb⟩) fun _ _ _ h=>.inl h
theorem RowR.putF {β:Pla} {w:World} {l:Nat} (hF:F l) (o:Obj) {r:Row} {p:Pl} (hp:∀ b,p.blk=some b→b≠l) (h:RowR P F β w r p):RowR P F β (w.putObj l o) r p:=
  h.gen (by simp) (fun b _ hb hf=>⟨same_of (World.putObj_heap_other fun e=>hb (e▸hF)),hf,hb⟩) (fun _ _ _ h=>.inl h) fun b hb=>World.putObj_heap_other (hp b hb)
theorem MSim.putF {m:Mem} {β:Pla} {w:World} {l:Nat} (hF:F l) (hT:∀ t∈tabs,t.1≠l) (o:Obj) (h:MSim P F m β w):MSim P F m β (w.putObj l o):=
  ⟨fun i r hi=>by
    obtain ⟨p,hp,hr⟩:=h.row i r hi
    exact ⟨p,hp,hr.putF hF o fun b hb e=>h.nf i p b hp hb (e▸hF)⟩,h.inj,fun i p b hp hb=>by simpa using h.lt i p b hp hb,h.nf,h.fb.next (fun b hb=>by simpa using h.fb.lt b hb) (fun _ h=>h) fun t ht _=>World.putObj_heap_other fun e=>hT t ht e⟩
theorem Sim.putF {st:St} {β:Pla} {w:World} {a:Act} {l:Nat} (hF:F l) (hT:∀ t∈tabs,t.1≠l) (o:Obj) (h:Sim P F st β w a):Sim P F st β (w.putObj l o) a:=
  ⟨fun t=>(h.e t).putF hF o,h.m.putF hF hT o,h.n⟩
theorem R.weak {F':Nat→Prop} (hF:∀ b,F' b→F b) {β:Pla} {w:World} {d:D} {v:Value} (h:R F β w d v):R F' β w d v:=
  h.gen (Nat.le_refl _) (fun b _ hb hf=>⟨SameB.refl w b,hf,fun e=>hb (hF b e)⟩) fun _ _ _ h=>.inl h
theorem MSim.weak {F':Nat→Prop} (hF:∀ b,F' b→F b) (hT:∀ t∈tabs,F' t.1) {m:Mem} {β:Pla} {w:World} (h:MSim P F m β w):MSim P F' m β w:=
  ⟨fun i r hi=>by
    obtain ⟨p,hp,hr⟩:=h.row i r hi
    exact ⟨p,hp,hr.gen (Nat.le_refl _) (fun b _ hb hf=>⟨SameB.refl w b,hf,fun e=>hb (hF b e)⟩) (fun _ _ _ h=>.inl h) fun _ _=>rfl⟩,h.inj,h.lt,fun i p b hp hb e=>h.nf i p b hp hb (hF b e),⟨fun b hb=>h.fb.lt b (hF b hb),fun t ht=>⟨hT t ht,(h.fb.tab t ht).2⟩⟩⟩
theorem not_free {β:Pla} {b:Nat} (h:¬ β.free b):∃ i p,β i=some p∧p.blk=some b:=by
  unfold Pla.free at h
  simp only [Classical.not_forall] at h
  obtain ⟨i,p,hp,hb⟩:=h
  exact ⟨i,p,hp,Decidable.not_not.1 hb⟩
structure View (il n₀:Nat) (f:Nat→Option Nat) (mc:Mem) (nc:Nat) (m:Mem) (nx:Nat):Prop where
  low:n₀≤nc
  lt:il<nx
  id:∀ i,i<n₀→f i=some i
  dom:∀ i,i<nc→∃ j,f i=some j∧j<nx∧j≠il
  out:∀ i,nc≤i→f i=none
  inj:∀ i i' j,f i=some j→f i'=some j→i=i'
  rows:∀ i r,mc i=some r→∃ j,f i=some j∧m j=some (r.renB f)
theorem View.dom' {il n₀:Nat} {f:Nat→Option Nat} {mc:Mem} {nc:Nat} {m:Mem} {nx:Nat} (h:View il n₀ f mc nc m nx) {i j:Nat} (hf:f i=some j):i<nc∧j<nx∧j≠il:=by
  rcases Nat.lt_or_ge i nc with hlt | hge
  · obtain ⟨j',h1,h2,h3⟩:=h.dom i hlt
    rw [hf] at h1;cases h1
    exact ⟨hlt,h2,h3⟩
  · rw [h.out i hge] at hf;cases hf
theorem View.ext {il n₀:Nat} {f:Nat→Option Nat} {mc:Mem} {nc:Nat} {m m':Mem} {nx nx':Nat} (h:View il n₀ f mc nc m nx) (hle:nx≤nx') (he:∀ i,i<nx→m' i=m i):View il n₀ f mc nc m' nx':=
  ⟨h.low,Nat.lt_of_lt_of_le h.lt hle,h.id,fun i hi=>by
    obtain ⟨j,h1,h2,h3⟩:=h.dom i hi
    exact ⟨j,h1,by omega,h3⟩,h.out,h.inj,fun i r hi=>by
    obtain ⟨j,h1,h2⟩:=h.rows i r hi
    exact ⟨j,h1,(he j (h.dom' h1).2.1).trans h2⟩⟩
theorem hidden_lt {f:Nat→Option Nat} {m:Mem} {β:Pla} {w:World} (hm:MSim P F m β w) {b:Nat} (h:hidden F β f b):b<w.heap.size:=by
  rcases h with h | ⟨h,_⟩
  · exact hm.fb.lt b h
  · obtain ⟨i,p,hp,hb⟩:=not_free h
    exact hm.lt i p b hp hb
theorem View.enter {il n₀:Nat} {f:Nat→Option Nat} {mc:Mem} {nc:Nat} {m:Mem} {nx:Nat} (h:View il n₀ f mc nc m nx) {β:Pla} {w:World} (hm:MSim P F m β w):
    MSim P (hidden F β f) mc (β.via f) w∧∀ i,nc≤i→(β.via f) i=none:=by
  have look:∀ i p,(β.via f) i=some p→∃ j,f i=some j∧β j=some p:=fun i p hp=>Option.bind_eq_some_iff.1 hp
  refine ⟨⟨fun i r hi=>?_,fun i i' p q b hp hq e e'=>?_,fun i p b hp e=>?_,fun i p b hp e hF=>?_,hm.fb.next (fun b hb=>hidden_lt hm hb) (fun _ h=>.inl h) fun _ _ _=>rfl⟩,fun i hi=>?_⟩
  · obtain ⟨j,h1,h2⟩:=h.rows i r hi
    obtain ⟨p,hp,hr⟩:=hm.row j _ h2
    exact ⟨p,by simp [Pla.via,h1,hp],hr.seen⟩
  · obtain ⟨j,h1,h2⟩:=look i p hp
    obtain ⟨j',h3,h4⟩:=look i' q hq
    have:=hm.inj j j' p q b h2 h4 e e'
    subst this
    exact h.inj i i' j h1 h3
  · obtain ⟨j,h1,h2⟩:=look i p hp
    exact hm.lt j p b h2 e
  · obtain ⟨j,h1,h2⟩:=look i p hp
    rcases hF with hF | ⟨_,hF⟩
    · exact hm.nf j p b h2 e hF
    · exact hF i p hp e
  · simp [Pla.via,h.out i hi]
theorem MSim.rawAt {m:Mem} {β:Pla} {w:World} {i l:Nat} {o:Obj} (h:MSim P F m β w) (hm:m i=some (.raw l o)):β i=some (.raw l)∧w.heap[l]? =some o∧¬ F l∧l<w.heap.size:=by
  obtain ⟨p,hp,hr⟩:=h.row i _ hm
  cases hr with
  | raw _ _ hc=>exact ⟨hp,hc,h.nf i _ l hp rfl,h.lt i _ l hp rfl⟩
theorem View.foreign {il n₀:Nat} {f:Nat→Option Nat} {mc:Mem} {nc:Nat} {m:Mem} {nx:Nat} (h:View il n₀ f mc nc m nx) {β:Pla} {w:World} (hm:MSim P F m β w) {j:Nat} {p:Pl} {b:Nat} (hj:∀ i,f i≠some j) (hp:β j=some p) (hb:p.blk=some b):
    (β.via f).free b∧hidden F β f b:=by
  have hfree:(β.via f).free b:=fun i q hq e=>by
    obtain ⟨j',h1,h2⟩:=Option.bind_eq_some_iff.1 hq
    exact hj i (hm.inj j' j q p b h2 hp e hb▸h1)
  exact ⟨hfree,.inr ⟨fun e=>e j p hp hb,hfree⟩⟩
structure StepX (l:Nat) (β:Pla) (w:World) (β':Pla) (w':World):Prop where
  size:w.heap.size≤w'.heap.size
  imm:∀ b,b<w.heap.size→b≠l→β.free b→w'.heap[b]? =w.heap[b]? ∧β'.free b
  keep:∀ i p,β i=some p→β' i=some p∨β' i=some .dead
  out:Out w w'
  lp:∀ i r,r≠l→β i=some (.lp r)→β' i=some (.lp r)→Skel w w' r
theorem Step.x {β β':Pla} {w w':World} (h:Step β w β' w') (l:Nat):StepX l β w β' w':=⟨h.size,fun b hb _=>h.imm b hb,h.keep,h.out,fun i r _=>h.lp i r⟩
theorem StepX.trans {l:Nat} {β₁ β₂ β₃:Pla} {w₁ w₂ w₃:World} (h:StepX l β₁ w₁ β₂ w₂) (k:StepX l β₂ w₂ β₃ w₃):StepX l β₁ w₁ β₃ w₃:=by
  refine ⟨Nat.le_trans h.size k.size,fun b hb hne hf=>?_,fun i p hp=>?_,h.out.trans k.out,fun i r hr hp hp'=>?_⟩
  rotate_left 2
  · rcases h.keep i _ hp with h1 | h1
    · exact (h.lp i r hr hp h1).trans (k.lp i r hr h1 hp')
    · rcases k.keep i _ h1 with h2 | h2<;>(rw [h2] at hp';cases hp')
  · obtain ⟨h1,h2⟩:=h.imm b hb hne hf
    obtain ⟨k1,k2⟩:=k.imm b (Nat.lt_of_lt_of_le hb h.size) hne h2
    exact ⟨k1.trans h1,k2⟩
  · rcases h.keep i p hp with h1 | h1
    · exact k.keep i p h1
    · right
      rcases k.keep i _ h1 with h2 | h2<;>exact h2
theorem StepX.put (l:Nat) (β:Pla) (w:World) (o:Obj):StepX l β w β (w.putObj l o):=⟨by simp,fun b _ hne hf=>⟨World.putObj_heap_other hne,hf⟩,fun _ _ h=>.inl h,⟨rfl,rfl⟩,fun _ _ hr _ _=>skel_of (World.putObj_heap_other hr)⟩
theorem find_spec {n j:Nat} {f:Nat→Option Nat} (hinj:∀ i i' j,f i=some j→f i'=some j→i=i'):
    (∀ i,(List.range n).find? (fun i=>f i==some j)=some i→f i=some j∧i<n)∧(∀ i,i<n→f i=some j→(List.range n).find? (fun i=>f i==some j)=some i):=by
  refine ⟨fun i hi=>⟨by simpa using List.find?_some hi,by simpa using List.mem_of_find?_eq_some hi⟩,fun i hi hf=>?_⟩
  cases h:(List.range n).find? (fun i=>f i==some j) with
  | none=>
    have:=List.find?_eq_none.1 h i (by simpa using hi)
    simp [hf] at this
  | some k=>rw [hinj i k j hf (by simpa using List.find?_some h)]
theorem View.leave {il n₀:Nat} {f:Nat→Option Nat} {mc:Mem} {nc:Nat} {m:Mem} {nx:Nat} (h:View il n₀ f mc nc m nx) {β:Pla} {w:World} (hm:MSim P F m β w) (hn:∀ i,nx≤i→β i=none) {l:Nat} {o o':Obj} (hl:m il=some (.raw l o))
    {m':Mem} {nc':Nat} {β':Pla} {w':World} (hm':MSim P (hidden F β f) m' β' w') (hs:StepX l (β.via f) w β' w') (hn':∀ i,nc'≤i→β' i=none) (hle:nc≤nc') (hg:∀ i,i<nc→(β.via f) i=none→β' i=none) (ho:w'.heap[l]? =some o'):
    ∃ f' m'' nx'' β'',View il n₀ f' m' nc' m'' nx''∧m'' il=some (.raw l o')∧MSim P F m'' β'' w'∧(∀ i,nx''≤i→β'' i=none)∧Step β w β'' w'∧nx≤nx''∧∀ i,i<nx→β i=none→β'' i=none:=by
  obtain ⟨hβl,hol,hFl,hlt⟩:=hm.rawAt hl
  let f':Nat→Option Nat:=fun i=>if i<nc then f i else if i<nc' then some (nx+(i - nc)) else none
  have f'old:∀ i,i<nc→f' i=f i:=fun i hi=>by simp [f',hi]
  have f'new:∀ i,nc≤i→i<nc'→f' i=some (nx+(i - nc)):=fun i h1 h2=>by simp [f',h2,Nat.not_lt.2 h1]
  have f'out:∀ i,nc'≤i→f' i=none:=fun i h1=>by simp [f',Nat.not_lt.2 h1,Nat.not_lt.2 (Nat.le_trans hle h1)]
  have f'cases:∀ i j,f' i=some j→(f i=some j∧i<nc∧j<nx)∨(nc≤i∧i<nc'∧j=nx+(i - nc)):=fun i j hf=>by
    rcases Nat.lt_or_ge i nc with h1 | h1
    · rw [f'old i h1] at hf;exact .inl ⟨hf,h.dom' hf |>.1,(h.dom' hf).2.1⟩
    · rcases Nat.lt_or_ge i nc' with h2 | h2
      · rw [f'new i h1 h2] at hf;cases hf;exact .inr ⟨h1,h2,rfl⟩
      · rw [f'out i h2] at hf;cases hf
  have f'inj:∀ i i' j,f' i=some j→f' i'=some j→i=i':=fun i i' j h1 h2=>by
    rcases f'cases i j h1 with ⟨a1,a2,a3⟩ | ⟨a1,a2,a3⟩<;>rcases f'cases i' j h2 with ⟨b1,b2,b3⟩ | ⟨b1,b2,b3⟩
    · exact h.inj i i' j a1 b1
    · omega
    · omega
    · omega
  let inv:Nat→Option Nat:=fun j=>(List.range nc').find? fun i=>f' i==some j
  have invs:∀ i j,inv j=some i→f' i=some j:=fun i j hi=>((find_spec f'inj).1 i hi).1
  have invf:∀ i j,f' i=some j→inv j=some i:=fun i j hf=>(find_spec f'inj).2 i (by rcases f'cases i j hf with h1 | h1<;>omega) hf
  have invn:∀ j,inv j=none→∀ i,f i≠some j:=fun j hj i hf=>by
    have:=invf i j (by rw [f'old i (h.dom' hf).1];exact hf)
    rw [hj] at this;cases this
  let β'':Pla:=fun j=>match inv j with | some i=>β' i | none=>β j
  let m'':Mem:=fun j=>match inv j with | some i=>(m' i).map (Row.renB f') | none=>if j=il then some (.raw l o') else m j
  have βs:∀ i j,f' i=some j→β'' j=β' i:=fun i j hf=>by simp [β'',invf i j hf]
  have βn:∀ j,inv j=none→β'' j=β j:=fun j hj=>by simp [β'',hj]
  have ilnone:inv il=none:=by
    cases hi:inv il with
    | none=>rfl
    | some i=>
      rcases f'cases i il (invs i il hi) with ⟨a1,a2,a3⟩ | ⟨a1,a2,a3⟩
      · exact absurd rfl (h.dom' a1).2.2
      · have:=h.lt;omega
  have via:β''.via f'=β':=by
    funext i
    simp only [Pla.via]
    cases hf:f' i with
    | some j=>exact βs i j hf
    | none=>
      rcases Nat.lt_or_ge i nc' with h1 | h1
      · rcases Nat.lt_or_ge i nc with h2 | h2
        · obtain ⟨j,h3,_⟩:=h.dom i h2
          rw [f'old i h2,h3] at hf;cases hf
        · rw [f'new i h2 h1] at hf;cases hf
      · exact (hn' i h1).symm
  have look:∀ j p,β'' j=some p→(∃ i,inv j=some i∧f' i=some j∧β' i=some p)∨(inv j=none∧β j=some p):=fun j p hp=>by
    cases hi:inv j with
    | some i=>exact .inl ⟨i,rfl,invs i j hi,by rw [← βs i j (invs i j hi)];exact hp⟩
    | none=>exact .inr ⟨rfl,by rw [← βn j hi];exact hp⟩
  have lblk:∀ b,β.free b→b≠l:=fun b hb e=>hb il _ hβl (e▸rfl)
  have imm:∀ b,b<w.heap.size→β.free b→w'.heap[b]? =w.heap[b]? ∧β''.free b:=fun b hb hf=>by
    obtain ⟨h1,h2⟩:=hs.imm b hb (lblk b hf) (Pla.free_via hf f)
    refine ⟨h1,fun j p hp=>?_⟩
    rcases look j p hp with ⟨i,_,_,h4⟩ | ⟨_,h4⟩
    · exact h2 i p h4
    · exact hf j p h4
  have keep:∀ j p,β j=some p→β'' j=some p∨β'' j=some .dead:=fun j p hp=>by
    cases hi:inv j with
    | none=>exact .inl ((βn j hi).trans hp)
    | some i=>
      have hf:=invs i j hi
      rw [βs i j hf]
      rcases f'cases i j hf with ⟨a1,a2,a3⟩ | ⟨a1,a2,a3⟩
      · exact hs.keep i p (by simp [Pla.via,a1,hp])
      · rw [hn j (by omega)] at hp;cases hp
  have own:∀ j p b,inv j=none→β j=some p→p.blk=some b→hidden F β f b∧(b≠l→b<w.heap.size∧w'.heap[b]? =w.heap[b]?):=fun j p b hj hp hb=>by
    obtain ⟨h1,h2⟩:=h.foreign hm (invn j hj) hp hb
    exact ⟨h2,fun hne=>⟨hm.lt j p b hp hb,(hs.imm b (hm.lt j p b hp hb) hne h1).1⟩⟩
  have lps:∀ j r,β j=some (.lp r)→β'' j=some (.lp r)→Skel w w' r:=fun j r hp hp'=>by
    have hne:r≠l:=fun e=>by
      have:=hm.inj j il _ _ l hp hβl (by simp [Pl.blk,e]) rfl
      subst this
      rw [hβl] at hp;cases hp
    cases hi:inv j with
    | none=>exact skel_of ((own j _ r hi hp rfl).2 hne).2
    | some i=>
      have hf:=invs i j hi
      rcases f'cases i j hf with ⟨a1,a2,a3⟩ | ⟨a1,a2,a3⟩
      · exact hs.lp i r hne (by simp [Pla.via,a1,hp]) (by rw [← βs i j hf];exact hp')
      · rw [hn j (by omega)] at hp;cases hp
  refine ⟨f',m'',nx+(nc' - nc),β'',⟨Nat.le_trans h.low hle,by have:=h.lt;omega,fun i hi=>?_,fun i hi=>?_,f'out,f'inj,fun i r hi=>?_⟩,?_,⟨fun j r hj=>?_,fun i j p q b hp hq e e'=>?_,fun j p b hp e=>?_,fun j p b hp e hF=>?_,?_⟩,fun i hi=>?_,⟨hs.size,imm,keep,hs.out,lps⟩,by omega,fun i hi hb=>?_⟩
  · rw [f'old i (Nat.lt_of_lt_of_le hi h.low)];exact h.id i hi
  · rcases Nat.lt_or_ge i nc with h1 | h1
    · obtain ⟨j,h2,h3,h4⟩:=h.dom i h1
      exact ⟨j,by rw [f'old i h1];exact h2,by omega,h4⟩
    · exact ⟨_,f'new i h1 hi,by omega,by have:=h.lt;omega⟩
  · obtain ⟨p,hp,_⟩:=hm'.row i r hi
    have:∃ j,f' i=some j:=by
      rw [← via] at hp
      obtain ⟨j,h1,_⟩:=Option.bind_eq_some_iff.1 hp
      exact ⟨j,h1⟩
    obtain ⟨j,hj⟩:=this
    exact ⟨j,hj,by simp [m'',invf i j hj,hi]⟩
  · simp [m'',ilnone]
  · cases hi:inv j with
    | some i=>
      simp only [m'',hi,Option.map_eq_some_iff] at hj
      obtain ⟨r0,hr0,rfl⟩:=hj
      obtain ⟨p,hp,hr⟩:=hm'.row i r0 hr0
      refine ⟨p,(βs i j (invs i j hi)).trans hp,RowR.hide (F':=hidden F β f) (by rw [via];exact hr) (fun b hb=>.inl hb) fun b g1 g2=>?_⟩
      obtain ⟨k,q,hq,hqb⟩:=not_free g1
      rcases look k q hq with ⟨i',_,_,h4⟩ | ⟨h3,h4⟩
      · exact absurd hqb (g2 i' q (by rw [via];exact h4))
      · exact (own k q b h3 h4 hqb).1
    | none=>
      simp only [m'',hi] at hj
      split at hj
      · rename_i e
        subst e
        cases hj
        exact ⟨.raw l,(βn j hi).trans hβl,.raw l o' ho⟩
      · rename_i hne
        obtain ⟨p,hp,hr⟩:=hm.row j r hj
        refine ⟨p,(βn j hi).trans hp,hr.gen hs.size (fun b hb g1 g2=>⟨same_of (imm b hb g2).1,(imm b hb g2).2,g1⟩) (fun i p _=>keep i p) fun b hb=>?_⟩
        exact ((own j p b hi hp hb).2 fun e=>hne (hm.inj j il p _ b hp hβl hb (e▸rfl))).2
  · rcases look i p hp with ⟨i',a1,a2,a3⟩ | ⟨a1,a2⟩<;>rcases look j q hq with ⟨j',b1,b2,b3⟩ | ⟨b1,b2⟩
    · have:=hm'.inj i' j' p q b a3 b3 e e'
      subst this
      rw [a2] at b2;cases b2;rfl
    · exact absurd (own j q b b1 b2 e').1 (hm'.nf i' p b a3 e)
    · exact absurd (own i p b a1 a2 e).1 (hm'.nf j' q b b3 e')
    · exact hm.inj i j p q b a2 b2 e e'
  · rcases look j p hp with ⟨i',a1,a2,a3⟩ | ⟨a1,a2⟩
    · exact hm'.lt i' p b a3 e
    · exact Nat.lt_of_lt_of_le (hm.lt j p b a2 e) hs.size
  · rcases look j p hp with ⟨i',a1,a2,a3⟩ | ⟨a1,a2⟩
    · exact hm'.nf i' p b a3 e (.inl hF)
    · exact hm.nf j p b a2 e hF
  · exact hm.fb.next (fun b hb=>Nat.lt_of_lt_of_le (hm.fb.lt b hb) hs.size) (fun _ h=>h) fun t _ hF=>(imm _ (hm.fb.lt _ hF) fun i p hp e=>hm.nf i p _ hp e hF).1
  · cases hi':inv i with
    | none=>exact (βn i hi').trans (hn i (by omega))
    | some i0=>
      rcases f'cases i0 i (invs i0 i hi') with ⟨a1,a2,a3⟩ | ⟨a1,a2,a3⟩<;>omega
  · cases hi':inv i with
    | none=>exact (βn i hi').trans hb
    | some i0=>
      have hf:=invs i0 i hi'
      rw [βs i0 i hf]
      rcases f'cases i0 i hf with ⟨a1,a2,a3⟩ | ⟨a1,a2,a3⟩
      · exact hg i0 a2 (by simp [Pla.via,a1,hb])
      · omega
theorem setAll_sim {β:Pla} {w:World}:∀ (ts:List Tmp) (ds:List D) (vs:List Value) (env:Env) (tmps:Array Value),vs.length=ds.length→(∀ (k:Nat) (d:D) (v:Value),ds[k]? =some d→vs[k]? =some v→R F β w d v)→
    (∀ t,t∈ts→t<tmps.size)→ESim F β w env { tmps:=tmps,defers:=[] }→
    ESim F β w (setAll env ts ds) { tmps:=(ts.zip vs).foldl (fun tmps (t,a)=>tmps.setIfInBounds t a) tmps,defers:=[] }∧((ts.zip vs).foldl (fun tmps (t,a)=>tmps.setIfInBounds t a) tmps).size=tmps.size
  | [],_,_,env,tmps,_,_,_,h=>by simpa [setAll] using h
  | _::_,[],[],env,tmps,_,_,_,h=>by simpa [setAll] using h
  | _::_,[],_::_,_,_,hl,_,_,_=>by simp at hl
  | _::_,_::_,[],_,_,hl,_,_,_=>by simp at hl
  | t::ts,d::ds,v::vs,env,tmps,hl,hR,hlt,h=>by
    have h1:ESim F β w (up env t d) { tmps:=tmps.setIfInBounds t v,defers:=[] }:=by
      have:=h.put (some t) d v (hR 0 d v rfl rfl) (fun u hu=>by cases hu;exact hlt t (by simp))
      simpa [Act.put,up] using this
    have:=setAll_sim ts ds vs (up env t d) (tmps.setIfInBounds t v) (by simpa using hl) (fun k d v hd hv=>hR (k+1) d v (by simpa using hd) (by simpa using hv)) (fun u hu=>by simpa using hlt u (by simp [hu])) h1
    simp only [setAll,List.zip_cons_cons,List.foldl_cons]
    exact ⟨this.1,by rw [this.2];simp⟩
theorem stepR_scope {c:Code} {b:Frame} {a:Act} {k:List Item} {cs:List Frame} {w:World}:step P (lone (b.atR a (.code (.scope c)::k)) cs w)=.next (lone (b.atR a (.code c::.inScope c::k)) cs w):=
  step_lone_go (by simp [stepG,stepG.exec,Frame.atR])
theorem stepR_inScope {c:Code} {b:Frame} {a:Act} {k:List Item} {cs:List Frame} {w:World}:step P (lone (b.atR a (.inScope c::k)) cs w)=.next (lone (b.atR a k) cs w):=
  step_lone_go (by simp [stepG,stepG.exec,Frame.atR])
theorem arrives_scope {I:Machine→Prop} {m:Machine} {b:Frame} {c:Code} {k:List Item} {cs:List Frame} {e:Exit} {a:Act} {w:World}
    (hn:e≠ .normal) (hg:∀ l,e≠ .goto l) (h:ArrivesIn I P m b (.inScope c::k) cs e a w):ArrivesIn I P m b k cs e a w:=by
  cases e with
  | normal=>exact absurd rfl hn
  | exit id=>exact ⟨fun k' hk=>h.1 k' (by simp [exitTo,hk]),fun hr hk=>h.2 hr (by simp [exitTo,hk])⟩
  | goto l=>exact absurd rfl (hg l)
  | ret=>exact h
  | panic chain=>exact h
  | outgrown=>exact h
theorem wpIn_scope {Fc:Fence} {n:Nat} {Q:Exit→Act→World→Prop} {a:Act} {w:World} {c:Code} (h:c.wpIn Fc n P (Exit.noGoto Q) a w):(Code.scope c).wpIn Fc n P Q a w:=by
  intro b k cs hro hb hr
  have h0:(lone (b.atR a (.code (.scope c)::k)) cs w).fenced P Fc:=fenced_calm hb hr rfl
  obtain ⟨e,a₁,w₁,hq,harr⟩:=h b (.inScope c::k) cs hro hb hr
  cases e with
  | normal=>exact ⟨.normal,a₁,w₁,hq,.head h0 stepR_scope (StepsIn.trans harr (.one (fenced_calm hb hr rfl) stepR_inScope))⟩
  | goto l=>exact hq.elim
  | exit id=>exact ⟨.exit id,a₁,w₁,hq,.of_steps (.one h0 stepR_scope) (arrives_scope (c:=c) (by simp) (by simp) harr)⟩
  | ret=>exact ⟨.ret,a₁,w₁,hq,.of_steps (.one h0 stepR_scope) (arrives_scope (c:=c) (by simp) (by simp) harr)⟩
  | panic ch=>exact ⟨.panic ch,a₁,w₁,hq,.of_steps (.one h0 stepR_scope) (arrives_scope (c:=c) (by simp) (by simp) harr)⟩
  | outgrown=>exact ⟨.outgrown,a₁,w₁,hq,.of_steps (.one h0 stepR_scope) (arrives_scope (c:=c) (by simp) (by simp) harr)⟩
def Jump (env:Env) (Q:Exit→St→Prop):Code→Mem→Nat→Prop
  | .ret,m,nx=>Q .ret ⟨env,m,nx⟩
  | .exit id,m,nx=>Q (.exit id) ⟨env,m,nx⟩
  | _,_,_=>False
def Beside (il l:Nat) (n₀:Nat) (o:Obj) (I:Mem→Nat→Prop) (m:Mem) (nx:Nat):Prop:=∃ f mc nc,View il n₀ f mc nc m nx∧m il=some (.raw l o)∧I mc nc
theorem Beside.closed {il l n₀:Nat} {o:Obj} {I:Mem→Nat→Prop}:Closed (Beside il l n₀ o I):=by
  rintro m nx m' nx' ⟨f,mc,nc,h1,h2,h3⟩ hle he
  exact ⟨f,mc,nc,h1.ext hle he,(he il h1.lt).trans h2,h3⟩
theorem zip_foldl (ps:Array Tmp) (us:Array Value) (tmps:Array Value):
    (ps.zip us).foldl (fun tmps (t,a)=>tmps.setIfInBounds t a) tmps=(ps.toList.zip us.toList).foldl (fun tmps (t,a)=>tmps.setIfInBounds t a) tmps:=by
  rw [← Array.foldl_toList]
  simp
theorem resolve_range {β:Pla} {w:World} {a:Act} {g:Operand} {f:FuncId} {fs cs:List D} (hR:R F β w (.fn (.func f) fs cs) (a.eval g)) (he:enterOk P f=true) (l:Nat) (w':World):
    ∃ (us vs:List Value) (d:Deferred),us.length=fs.length∧vs.length=cs.length∧(∀ (k:Nat) (d:D) (v:Value),fs[k]? =some d→us[k]? =some v→R F β w d v)∧(∀ (k:Nat) (d:D) (v:Value),cs[k]? =some d→vs[k]? =some v→R F β w d v)∧
      (resolve a.eval (rangeCall g l) 0).run P w'=.ok d w'∧(invoke d.target d.args).run P w'=.ok (.enter f (us.toArray++ #[.func (.yield l) #[] #[]]++vs.toArray)) w':=by
  generalize hv:a.eval g=v at hR
  cases hR with
  | fn _ _ _ us vs hl hl' hh hh'=>
  refine ⟨us,vs,{ target:=.fn (.func f) vs.toArray,args:=us.toArray++ #[.func (.yield l) #[] #[]] },hl,hl',hh,hh',?_,?_⟩
  · simp only [resolve,hv,Sem.run_bind,Deferred.ofValue]
    simp [go_sem]
  · simp only [invoke]
    unfold callFunc
    unfold enterOk at he
    simp only [Sem.run_bind,run_program,Result.andThen_ok]
    split at he
    · rename_i fn hfn
      simp only [Bool.and_eq_true,Bool.not_eq_true'] at he
      have hb:fn.body.isNone=false:=by
        cases hbb:fn.body<;>simp_all
      rw [hfn]
      simp only [he.1,hb,Bool.false_eq_true,if_false,Sem.run_pure]
    · cases he
theorem Rs.append {β:Pla} {w:World} {as bs:List D} {xs ys:Array Value} (h:Rs F β w as xs) (k:Rs F β w bs ys):Rs F β w (as++bs) (xs++ys):=by
  refine ⟨by simp [h.1,k.1],fun j d v hd hv=>?_⟩
  rcases Nat.lt_or_ge j as.length with hj | hj
  · rw [List.getElem?_append_left hj] at hd
    rw [Array.getElem?_append_left (by rw [h.1];exact hj)] at hv
    exact h.2 j d v hd hv
  · rw [List.getElem?_append_right hj] at hd
    rw [Array.getElem?_append_right (by rw [h.1];exact hj),h.1] at hv
    exact k.2 _ d v hd hv
theorem aw_sound (hmix:P.follows .mixedOrders=true):∀ (c:Code) (F:Nat→Prop) (r:Option Nat) (n:Nat) (Y:YSpec) (rf:Bool) (N₀:Nat) (β₀:Pla) (w₀:World) (a₀:Act),(rf=true→r=none)→
    (∀ l args m nx K,Y l args m nx K→YCall P F β₀ w₀ l args m nx K)→codeLt a₀.tmps.size c=true→∀ (Q:Exit→St→Prop) (st:St) (β:Pla) (w:World) (a:Act),
    AW P Y rf c Q st→Sim P F st β w a→Big N₀ β₀ w₀ a₀ st β w a→c.wpIn (Fe r) n P (PostB P F N₀ β₀ w₀ a₀ Q) a w:=by
  intro c
  induction c with
  | skip=>exact fun F r n Y rf N₀ β₀ w₀ a₀ hrf hY _ Q st β w a h hs hsi=>wpIn_skip ⟨st,β,h,hs,hsi⟩
  | ret=>exact fun F r n Y rf N₀ β₀ w₀ a₀ hrf hY _ Q st β w a h hs hsi=>wpIn_ret ⟨st,β,h,hs,hsi⟩
  | exit id=>exact fun F r n Y rf N₀ β₀ w₀ a₀ hrf hY _ Q st β w a h hs hsi=>wpIn_exit ⟨st,β,h,hs,hsi⟩
  | label l=>exact fun F r n Y rf N₀ β₀ w₀ a₀ hrf hY _ Q st β w a h hs hsi=>wpIn_label ⟨st,β,h,hs,hsi⟩
  | region id ops draw=>
    intro F r n Y rf N₀ β₀ w₀ a₀ hrf hY hlt Q st β w a h hs hsi
    have hlt':opsLt a.tmps.size ops=true:=by rw [hsi.size];exact hlt
    cases draw with
    | false=>
      refine wpIn_mono (region_text (N:=st.nx) (β₀:=β) (w₀:=w) (a₀:=a) (fun l args m nx K hy=>(hY l args m nx K hy).base hsi.step) hlt' h hs (Since.refl st β w a)) fun e a' w' hp=>?_
      obtain ⟨st',β',hq,hs',hsi'⟩:=hp
      exact ⟨st',β',hq,hs',hsi.since hsi'⟩
    | true=>
      simp only [AW] at h
      split at h
      · rename_i cf hcf
        refine wpIn_mono (region_draw (N₀:=st.nx) (β₀:=β) (w₀:=w) (a₀:=a) hmix hcf hlt' h hs (Since.refl st β w a)) fun e a' w' hp=>?_
        obtain ⟨st',β',hq,hs',hsi'⟩:=hp
        exact ⟨st',β',hq,hs',hsi.since hsi'⟩
      · exact h.elim
  | seq x y ihx ihy=>
    intro F r n Y rf N₀ β₀ w₀ a₀ hrf hY hlt Q st β w a h hs hsi
    simp only [codeLt,Bool.and_eq_true] at hlt
    refine wpIn_seq (wpIn_mono (ihx F r n Y rf N₀ β₀ w₀ a₀ hrf hY hlt.1 _ st β w a h hs hsi) fun e a' w' hp=>?_)
    obtain ⟨st',β',hq,hs',hsi'⟩:=hp
    cases e with
    | normal=>
      obtain ⟨st'',hg,hy⟩:=hq
      obtain ⟨β'',hs'',hsi''⟩:=ghost_sound hg hs'
      exact ihy F r n Y rf N₀ β₀ w₀ a₀ hrf hY hlt.2 Q st'' β'' w' a' hy hs'' (hsi'.since hsi'')
    | _=>exact ⟨st',β',hq,hs',hsi'⟩
  | cond c x y ihx ihy=>
    intro F r n Y rf N₀ β₀ w₀ a₀ hrf hY hlt Q st β w a h hs hsi
    simp only [codeLt,Bool.and_eq_true] at hlt
    obtain ⟨ha,h⟩:=h
    have hR:=(hs.e.opd c).core_of _ ha
    split at h
    · rename_i t ht
      rw [ht] at hR
      exact wpIn_cond_split hR.s_inv.1 (fun e=>ihx F r n Y rf N₀ β₀ w₀ a₀ hrf hY hlt.1 Q st β w a (h.1 e) hs hsi) fun e=>ihy F r n Y rf N₀ β₀ w₀ a₀ hrf hY hlt.2 Q st β w a (h.2 e) hs hsi
    · rename_i ht
      rw [ht] at hR
      obtain ⟨b,hb⟩:=hR.ub_inv
      exact wpIn_cond_split hb (fun _=>ihx F r n Y rf N₀ β₀ w₀ a₀ hrf hY hlt.1 Q st β w a h.1 hs hsi) fun _=>ihy F r n Y rf N₀ β₀ w₀ a₀ hrf hY hlt.2 Q st β w a h.2 hs hsi
    · exact h.elim
  | scope b ih=>
    intro F r n Y rf N₀ β₀ w₀ a₀ hrf hY hlt Q st β w a h hs hsi
    refine wpIn_scope (wpIn_mono (ih F r n Y rf N₀ β₀ w₀ a₀ hrf hY hlt _ st β w a h hs hsi) fun e a' w' hp=>?_)
    obtain ⟨st',β',hq,hs',hsi'⟩:=hp
    cases e with
    | goto l=>exact hq.elim
    | _=>exact ⟨st',β',hq,hs',hsi'⟩
  | block id b ih=>
    intro F r n Y rf N₀ β₀ w₀ a₀ hrf hY hlt Q st β w a h hs hsi
    refine wpIn_block (wpIn_mono (ih F r n Y rf N₀ β₀ w₀ a₀ hrf hY hlt _ st β w a h hs hsi) fun e a' w' hp=>?_)
    obtain ⟨st',β',hq,hs',hsi'⟩:=hp
    cases e with
    | exit i=>
      simp only [blockQ] at hq
      simp only [Exit.inBlock]
      split at hq
      · rename_i hi
        rw [if_pos hi]
        exact ⟨st',β',hq,hs',hsi'⟩
      · rename_i hi
        rw [if_neg hi]
        exact ⟨st',β',hq,hs',hsi'⟩
    | _=>exact ⟨st',β',hq,hs',hsi'⟩
  | loop b ih=>
    intro F r n Y rf N₀ β₀ w₀ a₀ hrf hY hlt Q st β w a h hs hsi
    obtain ⟨I,μ,hI,hround⟩:=h
    refine wpIn_loop_rel (fun j a w=>∃ st β,I st∧μ st=j∧Sim P F st β w a∧Big N₀ β₀ w₀ a₀ st β w a) ⟨st,β,hI,rfl,hs,hsi⟩ ?_
    rintro j a w ⟨st,β,hI,hμ,hs,hsi⟩
    refine wpIn_mono (ih F r n Y rf N₀ β₀ w₀ a₀ hrf hY hlt _ st β w a (hround st hI) hs hsi) fun e a' w' hp=>?_
    obtain ⟨st',β',hq,hs',hsi'⟩:=hp
    cases e with
    | normal=>
      obtain ⟨st3,hg,hI3,hlt3⟩:=hq
      obtain ⟨β'',hs'',hsi''⟩:=ghost_sound hg hs'
      exact ⟨μ st3,by omega,st3,β'',hI3,rfl,hs'',hsi'.since hsi''⟩
    | _=>exact ⟨st',β',hq,hs',hsi'⟩
  | rangeFunc g ps assign body iha ihb=>
    intro F r n Y rf N₀ β₀ w₀ a₀ hrf hY hlt Q st β w a h hs hsi
    obtain ⟨env,mem,nx⟩:=st
    obtain ⟨hrft,hask,f,fs,cs,xs,I,hcore,hseq,hxlen,hI0,hround,hdone⟩:=h
    simp only at hask hcore hI0 hround hdone
    have hr:=hrf hrft
    subst hr
    simp only [codeLt,Bool.and_eq_true,List.all_eq_true,Nat.blt_eq] at hlt
    obtain ⟨hps,hlta,hltb⟩:=hlt
    have hsz:a.tmps.size=a₀.tmps.size:=hsi.size
    have hR:=(hs.e.opd g).core_of _ hask
    simp only [hcore] at hR
    refine wpIn_rangeFunc fun fn hfn=>?_
    obtain ⟨rec,hrec⟩:∃ rec:LoopState→Option Code→Loop,rec=fun st pe=>{ state:=st,pending:=pe,fn,tmps:=a.tmps,params:=ps,assign,body,defers:=w.heap.size }:=⟨_,rfl⟩
    obtain ⟨W1,hW1⟩:∃ W1,(w.alloc (.deferred (some []))).alloc (.loop (rec .ready none))=W1:=⟨_,rfl⟩
    obtain ⟨us,vs,d,hul,hvl,hu,hv,hres,hinv⟩:=resolve_range (P:=P) hR hseq.1 (w.heap.size+1) W1
    have hn:∀ i,nx≤i→β i=none:=hs.n
    have hTl:∀ t∈tabs,t.1≠w.heap.size+1:=fun t ht e=>by have:=hs.m.fb.lt _ (hs.m.fb.tab t ht).1;omega
    have hFl:¬ F (w.heap.size+1):=fun e=>by have:=hs.m.fb.lt _ e;omega
    let f₀:Nat→Option Nat:=fun i=>if i<nx then some i else none
    have via0:β.via f₀=β:=by
      funext i
      simp only [Pla.via,f₀]
      split
      · rfl
      · exact (hn i (by omega)).symm
    have hmr:MSim P F (fun i=>(mem i).map (Row.renB f₀)) β w:=⟨fun i r hi=>by
     simp only [Option.map_eq_some_iff] at hi
     obtain ⟨r0,h1,rfl⟩:=hi
     obtain ⟨p,hp,hr⟩:=hs.m.row i r0 h1
     exact ⟨p,hp,RowR.hide (F':=F) (by rw [via0];exact hr) (fun _ h=>h) fun b g1 g2=>absurd (via0▸g2) g1⟩,hs.m.inj,hs.m.lt,hs.m.nf,hs.m.fb⟩
    have hs0:Step β w β (w.alloc (.deferred (some []))):=step_ext (by simp) fun b hb=>heap_alloc_old w _ hb
    have hm0:MSim P F (fun i=>(mem i).map (Row.renB f₀)) β (w.alloc (.deferred (some []))):=hmr.ext (by simp) fun b hb=>heap_alloc_old w _ hb
    have hm1:MSim P F (up (fun i=>(mem i).map (Row.renB f₀)) nx (some (.raw (w.heap.size+1) (.loop (rec .ready none))))) (up β nx (some (.raw (w.heap.size+1)))) W1:=by
      rw [← hW1]
      refine hm0.alloc (hn nx (Nat.le_refl _)) _ _ _ (fun b hb=>by simp only [Pl.blk,Option.some.injEq] at hb;simp;omega) (.raw _ _ ?_)
      have:=World.alloc_heap_new (w.alloc (.deferred (some []))) (.loop (rec .ready none))
      rwa [World.size_alloc] at this
    have hs1:Step β w (up β nx (some (.raw (w.heap.size+1)))) W1:=by
      rw [← hW1]
      exact hs0.trans (step_alloc hm0 _ (hn nx (Nat.le_refl _)) _ (fun b hb=>by simp only [Pl.blk,Option.some.injEq] at hb;simp;omega))
    have hD1:W1.heap[w.heap.size]? =some (.deferred (some [])):=by
      rw [← hW1]
      rw [heap_alloc_old _ _ (by simp)]
      exact World.alloc_heap_new w _
    have hDfree:Pla.free (up β nx (some (.raw (w.heap.size+1)))) w.heap.size:=
      free_other (fun i p hp e=>by have:=hs.m.lt i p _ hp e;omega) (by rintro q hq;cases hq;simp [Pl.blk])
    have hsz1:W1.heap.size=w.heap.size+2:=by rw [← hW1];simp
    have memNone:∀ i,nx≤i→mem i=none:=fun i hi=>by
      cases hm:mem i with
      | none=>rfl
      | some row=>
        obtain ⟨p,hp,_⟩:=hs.m.row i row hm
        rw [hn i hi] at hp
        cases hp
    have own:∀ {f:Nat→Option Nat} {mc:Mem} {nc:Nat} {m:Mem} {nx2:Nat} {β2:Pla} {w2:World},View nx nx f mc nc m nx2→Step (up β nx (some (.raw (w.heap.size+1)))) W1 β2 w2→
     ∀ {d:D} {v:Value},R F β w d v→R (hidden F β2 f) (β2.via f) w2 d v:=fun {_ _ _ _ _ _ _} hview hst {d v} h=>by
      have hst':=hs1.trans hst
      refine h.gen hst'.size (fun b hb hf hfree=>?_) fun i p _ hp=>?_
      · obtain ⟨g1,g2⟩:=hst'.imm b hb hfree
        exact ⟨same_of g1,Pla.free_via g2 _,fun e=>e.elim hf fun e=>e.1 g2⟩
      · have hi:i<nx:=by
          rcases Nat.lt_or_ge i nx with h1 | h1
          · exact h1
          · rw [hn i h1] at hp;cases hp
        simp only [Pla.via,hview.id i hi,Option.bind_some]
        exact hst'.keep i p hp
    refine ⟨w.heap.size+1,[mark w.heap.size],W1,d,W1,f,_,W1,?_,hres,fun f' _=>trivial,hinv,fun hd=>by simp at hd,fe_calls ?_⟩
    · rw [← hW1,hrec];exact run_enterLoop_outer _ _ _ _ _
    refine (hseq.2 F (w.heap.size+1) (fun k=>Beside nx (w.heap.size+1) nx (.loop (rec .ready none)) (I k)) (fun m k=>∃ c,Beside nx (w.heap.size+1) nx (.loop (rec .done (some c))) (Jump env Q c) m k)
      (up (fun i=>(mem i).map (Row.renB f₀)) nx (some (.raw (w.heap.size+1) (.loop (rec .ready none))))) (nx+1) (up β nx (some (.raw (w.heap.size+1)))) W1 _ (fun k=>Beside.closed) ?_ hm1 ?_ ?_ ?_ ?_).mono ?_
    · rintro m k m' k' ⟨c,hc⟩ hle he
      exact ⟨c,Beside.closed m k m' k' hc hle he⟩
    · intro i hi
      rw [up_ne _ _ (show i≠nx by omega)]
      exact hn i (by omega)
    · refine Rs.append (Rs.append ?_ ?_) ?_
      · exact ⟨by simp [hul],fun k d v hd hv=>(hu k d v hd (by simpa using hv)).step hs1⟩
      · refine ⟨rfl,fun k d v hd hv=>?_⟩
        cases k with
        | zero=>
          simp only [List.getElem?_cons_zero,Option.some.injEq] at hd
          simp only [List.getElem?_toArray,List.getElem?_cons_zero,Option.some.injEq] at hv
          subst hd;subst hv
          exact .fn _ [] [] [] [] rfl rfl (by simp) (by simp)
        | succ k=>simp at hd
      · exact ⟨by simp [hvl],fun k d v hd hv'=>(hv k d v hd (by simpa using hv')).step hs1⟩
    · rintro k x m k' hx ⟨g,mc,nc,hview,hil,hIk⟩ β2 w2 us2 hst2 hm2 hn2 hR2
      obtain ⟨hβi,hheap,_,hlsz⟩:=hm2.rawAt hil
      have hps2:us2.size=ps.size:=by rw [hR2.1];exact (hxlen x (List.mem_of_getElem? hx)).1
      have hy:=run_yield (P:=P) (args:=us2) hheap (by rw [hrec];exact hps2)
      simp only [hrec,zip_foldl] at hy
      refine ⟨fn,_,assign,body,hy,fun n'=>?_⟩
      obtain ⟨hmc,hnc⟩:=hview.enter hm2
      have hlF:hidden F β2 g (w.heap.size+1):=(hview.foreign hm2 (fun i e=>(hview.dom' e).2.2 rfl) hβi rfl).2
      have hlfree:(β2.via g).free (w.heap.size+1):=(hview.foreign hm2 (fun i e=>(hview.dom' e).2.2 rfl) hβi rfl).1
      have hE2:ESim (hidden F β2 g) (β2.via g) w2 env { tmps:=a.tmps,defers:=[] }:=fun t=>own hview hst2 (hs.e t)
      obtain ⟨hE3,hsz3⟩:=setAll_sim ps.toList x us2.toList env a.tmps (by simp [hR2.1]) (fun j d v hd hv=>
        ((hxlen x (List.mem_of_getElem? hx)).2 d (List.mem_of_getElem? hd) F β2 w2 v (hR2.2 j d v hd (by simpa using hv))).gen (Nat.le_refl _)
          (fun b _ hb _=>⟨SameB.refl _ b,Pla.free_via (owned_free hb).2 _,fun e=>e.elim (owned_free hb).1 fun e=>e.1 (owned_free hb).2⟩) (fun i p _ hp=>by cases hp)) (fun t ht=>by rw [hsz];exact hps t ht) hE2
      have hass:=iha (hidden F β2 g) (some (w.heap.size+1)) n' noY false nc (β2.via g) w2
        { tmps:=(ps.toList.zip us2.toList).foldl (fun tmps (t,a)=>tmps.setIfInBounds t a) a.tmps,defers:=[] } (by simp) (fun _ _ _ _ _ h=>h.elim) (by show codeLt (Array.size _) assign=true;rw [hsz3,hsz];exact hlta) _ ⟨setAll env ps.toList x,mc,nc⟩ (β2.via g) w2 _
        (hround k mc nc x hx hIk) ⟨hE3,hmc,hnc⟩ (Since.refl ⟨setAll env ps.toList x,mc,nc⟩ _ _ _).big
      refine roundIn_of_wpIn trivial (wpIn_mono hass fun e a3 w3 hp=>?_)
      obtain ⟨st3,β3,hq3,hs3,hb3⟩:=hp
      cases e with
      | normal=>
        have hlsz3:w.heap.size+1<w3.heap.size:=Nat.lt_of_lt_of_le hlsz hb3.step.size
        have heap3:w3.heap[w.heap.size+1]? =some (.loop (rec .ready none)):=(hb3.step.imm _ hlsz hlfree).1.trans hheap
        refine ⟨_,run_beginRound heap3 (by rw [hrec]),?_⟩
        have hs3b:=hs3.putF (l:=w.heap.size+1) hlF hTl (.loop { rec .ready none with state:=.busy })
        have hbody:=ihb (hidden F β2 g) (some (w.heap.size+1)) n' noY false st3.nx β3 _ a3 (by simp) (fun _ _ _ _ _ h=>h.elim) (by rw [hb3.size];show codeLt (Array.size _) body=true;rw [hsz3,hsz];exact hltb) _ st3 β3 _ a3 hq3 hs3b (Since.refl st3 _ _ _).big
        refine wpIn_mono hbody fun e a4 w4 hp4=>?_
        obtain ⟨st4,β4,hq4,hs4,hb4⟩:=hp4
        have hlsz4:w.heap.size+1<w4.heap.size:=Nat.lt_of_lt_of_le (by simpa using hlsz3) hb4.step.size
        have heap4:w4.heap[w.heap.size+1]? =some (.loop { rec .ready none with state:=.busy }):=
          (hb4.step.imm _ (by simpa using hlsz3) (hb3.step.imm _ hlsz hlfree).2).1.trans (World.putObj_heap_same hlsz3)
        have fin:∀ (jump:Option Code) (K:D→Mem→Nat→Prop),(∀ f' m'' nx'',View nx nx f' st4.mem st4.nx m'' nx''→m'' nx=some (.raw (w.heap.size+1) (.loop (rec (if jump.isNone then .ready else .done) jump)))→K (.s (.bool jump.isNone)) m'' nx'')→
         ∃ v w',(Instr.endRound (w.heap.size+1) jump).run P w4=.ok v w'∧∃ v' d m' nx' β',Ending.returned v=.returned v'∧K d m' nx'∧MSim P F m' β' w'∧(∀ i,nx'≤i→β' i=none)∧R F β' w' d v'∧Step β2 w2 β' w'∧k'≤nx'∧∀ i,i<k'→β2 i=none→β' i=none:=fun jump K hK=>by
          have hrun:=run_endRound (P:=P) jump heap4
          have e1:∀ s p,({ ({ rec .ready none with state:=.busy }:Loop) with state:=s,pending:=p }:Loop)=rec s p:=fun s p=>by rw [hrec]
          rw [e1] at hrun
          obtain ⟨f',m'',nx'',β'',v1,v2,v3,v4,v5,v6,v7⟩:=hview.leave hm2 hn2 hil (o':=.loop (rec (if jump.isNone then .ready else .done) jump)) (hs4.m.putF hlF hTl _)
            (((hb3.step.x _).trans (StepX.put _ β3 w3 _)).trans ((hb4.step.x _).trans (StepX.put _ β4 w4 _))) hs4.n (Nat.le_trans hb3.le hb4.le) (fun i hi hb=>hb4.grow i (Nat.lt_of_lt_of_le hi hb3.le) (hb3.grow i hi hb)) (World.putObj_heap_same hlsz4)
          exact ⟨_,_,hrun,.bool jump.isNone,_,m'',nx'',β'',rfl,hK f' m'' nx'' v1 v2,v3,v4,.s _ rfl,v5,v6,v7⟩
        cases e with
        | normal=>exact fin none _ fun f' m'' nx'' v1 v2=>.inl ⟨rfl,f',_,_,v1,v2,hq4⟩
        | ret=>exact fin (some .ret) _ fun f' m'' nx'' v1 v2=>.inr ⟨rfl,.ret,f',_,_,v1,v2,hq4⟩
        | exit id=>exact fin (some (.exit id)) _ fun f' m'' nx'' v1 v2=>.inr ⟨rfl,.exit id,f',_,_,v1,v2,hq4⟩
        | _=>exact hq4.elim
      | _=>exact hq3.elim
    · refine ⟨f₀,mem,nx,⟨Nat.le_refl _,by omega,fun i hi=>by simp [f₀,hi],fun i hi=>⟨i,by simp [f₀,hi],by omega,by omega⟩,fun i hi=>by simp [f₀,Nat.not_lt.2 hi],fun i i' j h1 h2=>?_,fun i r hi=>?_⟩,up_same _ _ _,hI0⟩
      · simp only [f₀,Option.ite_none_right_eq_some,Option.some.injEq] at h1 h2
        omega
      · have hlt:i<nx:=by
          rcases Nat.lt_or_ge i nx with h1 | h1
          · exact h1
          · rw [memNone i h1] at hi;cases hi
        exact ⟨i,by simp [f₀,hlt],by rw [up_ne _ _ (show i≠nx by omega),hi];rfl⟩
    · rintro e w6 ⟨v,d6,m6,nx6,β6,rfl,hdis,hm6,hn6,_,hst6,hle6,hgr6⟩
      have fin:∀ {g:Nat→Option Nat} {mc:Mem} {nc:Nat} (o':Obj),View nx nx g mc nc m6 nx6→
       Sim P F ⟨env,mc,nc⟩ (β6.via g) (w6.putObj (w.heap.size+1) o') { a with defers:=[mark w.heap.size]++a.defers }∧
       Big N₀ β₀ w₀ a₀ ⟨env,mc,nc⟩ (β6.via g) (w6.putObj (w.heap.size+1) o') { a with defers:=[mark w.heap.size]++a.defers }:=fun {g mc nc} o' hview=>by
        obtain ⟨hmc,hnc⟩:=hview.enter hm6
        have hlF:hidden F β6 g (w.heap.size+1):=by
          have hβ:β6 nx=some (.raw (w.heap.size+1))∨β6 nx=some .dead:=hst6.keep nx _ (up_same _ _ _)
          rcases hβ with hβ | hβ
          · exact (hview.foreign hm6 (fun i e=>(hview.dom' e).2.2 rfl) hβ rfl).2
          · exfalso
            rcases hdis with ⟨f',mc',nc',_,hil',_⟩ | ⟨c,f',mc',nc',_,hil',_⟩
            · rw [(hm6.rawAt hil').1] at hβ;cases hβ
            · rw [(hm6.rawAt hil').1] at hβ;cases hβ
        refine ⟨⟨fun t=>((own hview hst6 (hs.e t)).putF hlF o').weak fun b hb=>.inl hb,(hmc.putF hlF hTl o').weak (fun b hb=>.inl hb) fun t ht=>(hs.m.fb.tab t ht).1,hnc⟩,hsi.trans ⟨⟨?_,fun b hb hf=>?_,fun i p hp=>?_,(hs1.out.trans hst6.out).trans ⟨rfl,rfl⟩,fun i r hp hp'=>?_⟩,hview.low,fun i hi hb=>?_,rfl,[mark w.heap.size],rfl,?_⟩⟩
        · have:=hst6.size
          simp;omega
        · obtain ⟨g1,g2⟩:=hs1.imm b hb hf
          obtain ⟨g3,g4⟩:=hst6.imm b (by omega) g2
          exact ⟨(World.putObj_heap_other (by omega)).trans (g3.trans g1),Pla.free_via g4 _⟩
        · have hi:i<nx:=by
            rcases Nat.lt_or_ge i nx with h1 | h1
            · exact h1
            · rw [hn i h1] at hp;cases hp
          simp only [Pla.via,hview.id i hi,Option.bind_some]
          exact (hs1.trans hst6).keep i p hp
        · have hi:i<nx:=by
            rcases Nat.lt_or_ge i nx with h1 | h1
            · exact h1
            · rw [hn i h1] at hp;cases hp
          simp only [Pla.via,hview.id i hi,Option.bind_some] at hp'
          have:=hs.m.lt i _ r hp rfl
          exact ((hs1.trans hst6).lp i r hp hp').trans (skel_of (World.putObj_heap_other (by omega)))
        · have hi:i<nx:=hi
          simp only [Pla.via,hview.id i hi,Option.bind_some]
          exact hgr6 i (by omega) (by rw [up_ne _ _ (by omega)];exact hb)
        · refine ⟨w.heap.size,rfl,Nat.le_refl _,?_,?_,?_,trivial⟩
          · have:=hst6.size
            simp;omega
          · exact (World.putObj_heap_other (by omega)).trans ((hst6.imm _ (by omega) hDfree).1.trans hD1)
          · exact Pla.free_via (hst6.imm _ (by omega) hDfree).2 _
      rcases hdis with ⟨g,mc,nc,hview,hil,hI⟩ | ⟨c,g,mc,nc,hview,hil,hj⟩
      · have hrun:(Instr.endLoop (w.heap.size+1)).run P w6=.ok none (w6.putObj (w.heap.size+1) (.loop (rec .exhausted none))):=by
          have:=run_endLoop (P:=P) (hm6.rawAt hil).2.1 (by rw [hrec];simp)
          rw [hrec] at this ⊢
          exact this
        obtain ⟨g1,g2⟩:=fin (.loop (rec .exhausted none)) hview
        exact ⟨none,_,hrun,⟨env,mc,nc⟩,_,hdone mc nc hI,g1,g2⟩
      · have hrun:(Instr.endLoop (w.heap.size+1)).run P w6=.ok (some c) (w6.putObj (w.heap.size+1) (.loop (rec .exhausted (some c)))):=by
          have:=run_endLoop (P:=P) (hm6.rawAt hil).2.1 (by rw [hrec];simp)
          rw [hrec] at this ⊢
          exact this
        obtain ⟨g1,g2⟩:=fin (.loop (rec .exhausted (some c))) hview
        refine ⟨some c,_,hrun,?_⟩
        cases c with
        | ret=>exact wpIn_ret ⟨⟨env,mc,nc⟩,_,hj,g1,g2⟩
        | exit id=>exact wpIn_exit ⟨⟨env,mc,nc⟩,_,hj,g1,g2⟩
        | _=>exact hj.elim
  | _=>intro F r n Y rf N₀ β₀ w₀ a₀ hrf hY hlt Q st β w a h;exact h.elim
end
end Go.Abs
