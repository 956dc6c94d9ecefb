/- Part 4 of the proof; the last part says what is proved. -/
import Derived.Test.YtkogeiacmmckkaaGreatDoorFlowReads3
import Derived.Below
import Derived.Carry
import Derived.ChangeOld
import Derived.MakeChecks
import Derived.OpenShut
import Derived.OrdersIn
import Derived.ProofKit
set_option linter.all false
namespace Go.Abs
section
variable {P:Program}
theorem aop_env {o:Op} {ρ ρ':Operand→D} (h:∀ x∈o.operands,ρ' x=ρ x) (m:Mem) (nx:Nat):aop P o ρ' m nx=aop P o ρ m nx:=by
  have pairs:∀ ps:Array (Nat×Operand),(∀ x∈ps.map (·.2),ρ' x=ρ x)→
   (ps.toList.map fun q=>(q.1,ρ' q.2))=(ps.toList.map fun q=>(q.1,ρ q.2)):=fun ps hp=>
    List.map_congr_left fun p hm=>by
      obtain ⟨i,x⟩:=p
      simp only [hp x (Array.mem_map.2 ⟨(i,x),by simpa using hm,rfl⟩)]
  have args:∀ xs:Array Operand,(∀ x∈xs,ρ' x=ρ x)→xs.toList.map ρ'=xs.toList.map ρ:=fun xs hx=>
    List.map_congr_left fun x hm=>hx x (by simpa using hm)
  cases o with
  | call c=>
    simp only [aop]
    cases hc:c.callee with
    | builtin b=>simp only [args c.args fun x hx=>h x (by simp [Op.operands,Call.operands,hc,hx])]
    | _=>rfl
  | build t ps=>simp only [aop,pairs ps fun x hx=>h x (by simpa [Op.operands] using hx)]
  | buildSlice t n ps=>simp only [aop,pairs ps fun x hx=>h x (by simpa [Op.operands] using hx)]
  | makeFunc f fs cs=>simp only [aop,args fs fun x hx=>h x (by simp [Op.operands,hx]),args cs fun x hx=>h x (by simp [Op.operands,hx])]
  | slice t x lo hi mx=>
    have e1:lo.map ρ'=lo.map ρ:=by cases lo<;>simp_all [Op.operands]
    have e2:hi.map ρ'=hi.map ρ:=by cases hi<;>simp_all [Op.operands]
    have e3:mx.map ρ'=mx.map ρ:=by cases mx<;>simp_all [Op.operands]
    simp only [aop,e1,e2,e3,h x (by simp [Op.operands])]
  | makeMap t r=>cases r<;>simp_all [aop,Op.operands]
  | _=>first | rfl | (simp only [Op.operands] at h;simp only [aop];simp_all)
theorem callD_env {o:Op} {ρ ρ':Operand→D} (h:∀ x∈o.operands,ρ' x=ρ x):callD ρ' o=callD ρ o:=by
  cases o with
  | call c=>
    simp only [callD]
    cases hc:c.callee with
    | value f=>
      have e1:c.args.toList.map ρ'=c.args.toList.map ρ:=List.map_congr_left fun x hm=>h x (by simp [Op.operands,Call.operands,hc];exact .inr (by simpa using hm))
      have e2:ρ' f=ρ f:=h f (by simp [Op.operands,Call.operands,hc])
      simp only [e1,e2]
    | _=>rfl
  | _=>rfl
theorem opd_env {env env':Env} {x:Operand} (h:∀ t,x=.tmp t→env' t=env t):opd env' x=opd env x:=by
  cases x<;>simp_all [opd]
theorem rho_env {env env':Env} {o:Op} (h:∀ t,Operand.tmp t∈o.operands→env' t=env t):∀ x∈o.operands,rho env' o x=rho env o x:=fun x hx=>by
  have:=opd_env (env:=env) (env':=env') (x:=x) fun t ht=>h t (ht▸hx)
  unfold rho
  cases o<;>simp [this]
theorem asks_env {env env':Env} {o:Op} (h:∀ t,Operand.tmp t∈o.operands→env' t=env t):asks env' o=asks env o:=by
  have hh:∀ x∈o.operands,opd env' x=opd env x:=fun x hx=>opd_env fun t ht=>h t (ht▸hx)
  have hl:(∀ x∈o.operands.toList,(opd env' x).ask)=(∀ x∈o.operands.toList,(opd env x).ask):=by
    apply propext
    constructor
    · intro hq x hx;rw [← hh x (by simpa using hx)];exact hq x hx
    · intro hq x hx;rw [hh x (by simpa using hx)];exact hq x hx
  unfold asks
  split
  · rw [hh _ (by simp [Op.operands])]
  · exact hl
theorem sliceCells_mem {m m':Mem} {sz:Nat} {d:D} {p:Prop} {rd:List Nat} {n:Nat} {cs:List D} (h:sliceCells m sz d=some (p,rd,n,cs)) (hr:∀ i∈rd,m' i=m i):sliceCells m' sz d=some (p,rd,n,cs):=by
  unfold sliceCells at*
  split at h
  · simpa using h
  · simpa using h
  · rename_i i off n'
    split at h
    · rename_i cs' e hm
      simp only [Option.some.injEq,Prod.mk.injEq] at h
      obtain ⟨rfl,rfl,rfl,rfl⟩:=h
      rw [hr i (by simp),hm]
    · cases h
  · cases h
theorem lookupD_mem {m m':Mem} {t:TypeId} {x k:D} {ok:Bool} {e:Eff} (h:lookupD P m t x k ok=some e) (hr:∀ i∈e.rd,m' i=m i):lookupD P m' t x k ok=some e:=by
  unfold lookupD at*
  split at h
  · split at h
    · rename_i hm
      cases h
      rw [hr _ (by simp),hm]
    · cases h
  · exact h
  · exact h
  · cases h
theorem mapPutD_mem {m m':Mem} {t:TypeId} {x k v:D} {e:Eff} (h:mapPutD P m t x k v=some e) (hr:∀ i∈e.rd,m' i=m i):mapPutD P m' t x k v=some e:=by
  unfold mapPutD at*
  split at h
  · split at h
    · rename_i hm
      cases h
      rw [hr _ (by simp),hm]
    · cases h
  · cases h
theorem mapDelD_mem {m m':Mem} {t:TypeId} {x k:D} {e:Eff} (h:mapDelD P m t x k=some e) (hr:∀ i∈e.rd,m' i=m i):mapDelD P m' t x k=some e:=by
  unfold mapDelD at*
  split at h
  · split at h
    · rename_i hm
      cases h
      rw [hr _ (by simp),hm]
    · cases h
  · cases h
theorem aop_mem {o:Op} {ρ:Operand→D} {m m':Mem} {nx:Nat} {e:Eff} (h:aop P o ρ m nx=some e) (hr:∀ i∈e.rd,m' i=m i):aop P o ρ m' nx=some e:=by
  cases o with
  | call c=>
    simp only [aop] at h ⊢
    split at h
    · rename_i b hb
      split at h
      · rename_i hts
        rw [if_pos hts]
        unfold builtinD at h ⊢
        split at h
        · unfold lenD at h ⊢
          split at h<;>try exact h
          split at h
          · rename_i hm
            cases h
            rw [hr _ (by simp),hm]
          · cases h
        · split at h
          · unfold appendD at h ⊢
            simp only at h ⊢
            split at h
            · cases h
            · rename_i hc
              split at h
              · cases h
                rw [sliceCells_mem hc hr]
                simp_all
              · split at h
                · rename_i hm
                  cases h
                  rw [sliceCells_mem hc fun i hi=>hr i (by simp [hi])]
                  rw [hr _ (by simp),hm]
                  simp_all
                · cases h
              · cases h
          · cases h
        · exact h
        · split at h
          · rename_i hm
            cases h
            rw [hr _ (by simp),hm]
          · cases h
        · exact mapDelD_mem h hr
        · cases h
      · cases h
    · cases h
  | lookup t x k ok=>exact lookupD_mem h hr
  | mapUpdate t x k v=>exact mapPutD_mem h hr
  | insert t x k v=>exact mapPutD_mem h hr
  | slice t x lo hi mx=>
    simp only [aop] at h ⊢
    unfold sliceD at h ⊢
    split at h
    · exact h
    · split at h
      · rename_i hm
        split at h
        · cases h
          rw [hr _ (by simp),hm]
        · cases h
      · cases h
    · exact h
    · cases h
  | binOp op t x y _=>
    simp only [aop] at h ⊢
    split at h
    · rename_i e' he
      simp only [Option.some.injEq] at h
      subst h
      have:nilD P m' op t (ρ x) y=some e':=by
        unfold nilD at he ⊢
        split at he
        · exact he
        · split at he
          · rename_i hm
            cases he
            rw [hr _ (by simp),hm]
          · cases he
        · split at he
          · rename_i hm
            cases he
            rw [hr _ (by simp),hm]
          · cases he
        · cases he
      rw [this]
    · rename_i he
      by_cases hrp:∃ i off,ρ x=.rp i off
      · obtain ⟨i,off,e1⟩:=hrp
        rw [e1] at h
        simp [binD] at h
      · have:nilD P m' op t (ρ x) y=none:=by
          unfold nilD at he ⊢
          split at he
          · cases he
          · rename_i i off e1
            exact absurd ⟨_,_,e1⟩ hrp
          · rename_i i off e1
            exact absurd ⟨_,_,e1⟩ hrp
          · simp_all
        rw [this];exact h
  | _=>
    first
    | exact h
    | (simp only [aop] at h ⊢
       repeat' split at h
       all_goals first
         | (cases h;done)
         | exact h
         | (cases h;simp_all;done)
         | (simp_all;done))
end
end Go.Abs
namespace Go.Abs
open Go.ChangeShapes Go.WideShapes
inductive Sh
  | int (k:IntKind)
  | bool
  | str
  | sl (s:Sh)
  | unit
  | pair (a b:Sh)
def Sh.val:Sh→Type
  | .int _=>Int
  | .bool=>Bool
  | .str=>ByteArray
  | .sl s=>List s.val
  | .unit=>Unit
  | .pair a b=>a.val×b.val
def Sh.size:Sh→Nat
  | .unit=>0
  | .pair a b=>a.size+b.size
  | _=>1
def Sh.enc:(s:Sh)→s.val→List D
  | .int k,n=>[.s (.int k n)]
  | .bool,b=>[.s (.bool b)]
  | .str,b=>[.s (.string b)]
  | .sl s,l=>[.sl (List.flatMap s.enc l) (List.length l)]
  | .unit,_=>[]
  | .pair a b,x=>a.enc x.1++b.enc x.2
def Sh.noU:Sh→Bool
  | .int .u64=>false
  | .sl s=>s.noU
  | .pair a b=>a.noU&&b.noU
  | _=>true
def Sh.arg:(s:Sh)→s.val→D
  | .int k,n=>.s (.int k n)
  | .bool,b=>.s (.bool b)
  | .str,b=>.s (.string b)
  | .sl s,l=>.sl (List.flatMap s.enc l) (List.length l)
  | .unit,_=>.agg []
  | .pair a b,x=>.agg (a.enc x.1++b.enc x.2)
def Sh.ok:(s:Sh)→s.val→Prop
  | .int k,n=>(Lit.int k n).wf=true
  | .bool,_=>True
  | .str,b=>ByteArray.size b≤maxLen
  | .sl s,l=>∀ x:s.val,List.Mem x l→s.ok x
  | .unit,_=>True
  | .pair a b,x=>a.ok x.1∧b.ok x.2
theorem Sh.enc_length:∀ (s:Sh) (x:s.val),(s.enc x).length=s.size
  | .int _,_ | .bool,_ | .str,_ | .sl _,_ | .unit,_=>rfl
  | .pair a b,x=>by simp [Sh.enc,Sh.size,Sh.enc_length a,Sh.enc_length b]
section
variable (P:Program)
def shFs (sh:TypeId→Option Sh):Nat→List Field→Option Sh
  | _,[]=>some .unit
  | off,f::fs=>if f.offset=off then match sh f.type,shFs sh (off+P.cellsOf f.type) fs with
      | some a,some b=>some (.pair a b)
      | _,_=>none
    else none
def shT:Nat→TypeId→Option Sh
  | 0,_=>none
  | n+1,t=>match P.underlying t with
    | some .bool=>if P.cellsOf t=1 then some .bool else none
    | some (.int k)=>if P.cellsOf t=1 then some (.int k) else none
    | some .string=>if P.cellsOf t=1 then some .str else none
    | some (.slice e)=>if P.cellsOf t=1∧0<P.cellsOf e then (shT n e).map .sl else none
    | some (.struct fs)=>match shFs P (shT n) 0 fs.toList with
      | some s=>if s.size=P.cellsOf t then some s else none
      | none=>none
    | _=>none
end
section
variable {P:Program} {H:Type} {ec:TypeId×Value→H} {w:World} {base:Nat} {spare:Nat→Bool} {held:Bool} {F:Nat→Prop}
def Holds (F:Nat→Prop) (w:World) (ds:List D) (cs:List Value):Prop:=ds.length=cs.length∧∀ (k:Nat) (d:D) (u:Value),ds[k]? =some d→cs[k]? =some u→R F noRows w d u∧u.oneCell'=true
theorem Holds.app {ds ds':List D} {cs cs':List Value} (h:Holds F w ds cs) (h':Holds F w ds' cs'):Holds F w (ds++ds') (cs++cs'):=by
  refine ⟨by simp [h.1,h'.1],fun k d u hd hu=>?_⟩
  by_cases hk:k<ds.length
  · rw [List.getElem?_append_left hk] at hd
    rw [List.getElem?_append_left (by have:=h.1;omega)] at hu
    exact h.2 k d u hd hu
  · rw [List.getElem?_append_right (by omega)] at hd
    rw [List.getElem?_append_right (by have:=h.1;omega), ← h.1] at hu
    exact h'.2 (k - ds.length) d u hd hu
theorem Holds.one {d:D} {u:Value} (h:R F noRows w d u) (h':u.oneCell'=true):Holds F w [d] [u]:=⟨rfl,fun k d' u' hd hu=>by
  cases k with
  | zero=>simp at hd hu;subst hd hu;exact ⟨h,h'⟩
  | succ k=>simp at hd⟩
theorem Holds.nil:Holds F w [] []:=⟨rfl,by simp⟩
theorem shFs_nil {sh:TypeId→Option Sh} {off:Nat} {s:Sh} (h:shFs P sh off []=some s):s=.unit:=by
  simp only [shFs,Option.some.injEq] at h
  exact h.symm
theorem shFs_cons {sh:TypeId→Option Sh} {off:Nat} {f:Field} {fs:List Field} {s:Sh} (h:shFs P sh off (f::fs)=some s):
    f.offset=off∧∃ a b,sh f.type=some a∧shFs P sh (off+P.cellsOf f.type) fs=some b∧s=.pair a b:=by
  simp only [shFs] at h
  split at h
  · rename_i hoff
    split at h
    · rename_i a b ha hb
      simp only [Option.some.injEq] at h
      exact ⟨hoff,a,b,ha,hb,h.symm⟩
    · cases h
  · cases h
theorem shT_size:∀ (n:Nat) (t:TypeId) (s:Sh),shT P n t=some s→s.size=P.cellsOf t
  | 0,_,_,h=>by cases h
  | n+1,t,s,h=>by
    unfold shT at h
    split at h
    · split at h
      · rename_i h1;simp only [Option.some.injEq] at h;subst h;exact h1.symm
      · cases h
    · split at h
      · rename_i h1;simp only [Option.some.injEq] at h;subst h;exact h1.symm
      · cases h
    · split at h
      · rename_i h1;simp only [Option.some.injEq] at h;subst h;exact h1.symm
      · cases h
    · split at h
      · rename_i h1
        simp only [Option.map_eq_some_iff] at h
        obtain ⟨a,_,rfl⟩:=h
        exact h1.1.symm
      · cases h
    · split at h
      · split at h
        · rename_i h1;simp only [Option.some.injEq] at h;subst h;exact h1
        · cases h
      · cases h
    · cases h
def Reads (P:Program) (F:Nat→Prop) (w:World) (sh:TypeId→Option Sh) (rd:TypeId→List Value→Option (DataW H×List MemPlace)):Prop:=
  ∀ t s cs x,sh t=some s→s.noU=true→cs.length=P.cellsOf t→rd t cs=some x→∃ v:s.val,s.ok v∧Holds F w (s.enc v) cs
theorem enc_no:∀ (s:Sh) (x:s.val),s.noU=true→∀ d∈s.enc x,∀ n:Int,¬ R F noRows w d (.int .u64 n)
  | .int k,x,h,d,hd,n,hr=>by
    simp only [Sh.enc,List.mem_singleton] at hd
    subst hd
    cases hr
    cases h
  | .bool,x,h,d,hd,n,hr=>by
    simp only [Sh.enc,List.mem_singleton] at hd
    subst hd
    cases hr
  | .str,x,h,d,hd,n,hr=>by
    simp only [Sh.enc,List.mem_singleton] at hd
    subst hd
    cases hr
  | .sl s,x,h,d,hd,n,hr=>by
    simp only [Sh.enc,List.mem_singleton] at hd
    generalize List.flatMap s.enc x=es at hd
    generalize List.length x=k at hd
    subst hd
    cases hr
  | .unit,x,h,d,hd,n,hr=>by simp [Sh.enc] at hd
  | .pair a b,x,h,d,hd,n,hr=>by
    simp only [Sh.noU,Bool.and_eq_true] at h
    simp only [Sh.enc,List.mem_append] at hd
    rcases hd with hd | hd
    · exact enc_no a x.1 h.1 d hd n hr
    · exact enc_no b x.2 h.2 d hd n hr
def OnlyU (F:Nat→Prop) (w:World):Prop:=∀ b o u,F b→w.cell? ⟨b,o,none⟩=some u→∃ n,u=.int .u64 n
theorem reads_fs {sh:TypeId→Option Sh} {rd:TypeId→List Value→Option (DataW H×List MemPlace)} (hz:∀ t s,sh t=some s→s.size=P.cellsOf t) (h:Reads P F w sh rd) {cs:List Value}:∀ (fs:List Field) (off:Nat) (s:Sh),shFs P sh off fs=some s→s.noU=true→off+s.size≤cs.length→
    (∀ f∈fs,∃ x,rd f.type ((cs.drop f.offset).take (P.cellsOf f.type))=some x)→∃ v:s.val,s.ok v∧Holds F w (s.enc v) ((cs.drop off).take s.size)
  | [],off,s,hs,_,_,_=>by
    obtain rfl:=shFs_nil hs
    exact ⟨(),trivial,by simp [Sh.enc,Sh.size,Holds]⟩
  | f::fs,off,s,hs,hn,hl,hr=>by
    obtain ⟨hoff,a,b,ha,hb,rfl⟩:=shFs_cons hs
    simp only [Sh.noU,Bool.and_eq_true] at hn
    obtain ⟨x,hx⟩:=hr f (by simp)
    have hl':off+(a.size+b.size)≤cs.length:=hl
    have hsz:=hz _ _ ha
    rw [hoff] at hx
    obtain ⟨v,hvo,hv⟩:=h f.type a _ x ha hn.1 (by simp only [List.length_take,List.length_drop];omega) hx
    rw [← hsz] at hb hv
    obtain ⟨v',hvo',hv'⟩:=reads_fs hz h fs (off+a.size) b hb hn.2 (by omega) fun g hg=>hr g (by simp [hg])
    refine ⟨(v,v'),⟨hvo,hvo'⟩,?_⟩
    have:=hv.app hv'
    show Holds F w (a.enc v++b.enc v') ((cs.drop off).take (a.size+b.size))
    rw [List.take_add,List.drop_drop]
    exact this
theorem cells_get {a:Addr} {n:Nat} {cs:List Value} (h:w.cells? base a n=some cs):cs.length=n∧∀ k,k<n→w.cell? (a.add k)=cs[k]? ∧k<cs.length:=by
  unfold World.cells? at h
  split at h
  · have hl:cs.length=n:=by simpa using mapM_some_length h
    exact ⟨hl,fun k hk=>⟨mapM_some_get h k k (by simp [hk]),by omega⟩⟩
  · cases h
theorem choose_list {α β:Type} {p:Nat→α→β→Prop}:∀ (n:Nat) (l:Nat→α),(∀ i,i<n→∃ y,p i (l i) y)→∃ ys:List β,ys.length=n∧∀ i (h:i<n) y,ys[i]? =some y→p i (l i) y
  | 0,_,_=>⟨[],rfl,fun i h=>by omega⟩
  | n+1,l,h=>by
    obtain ⟨ys,h1,h2⟩:=choose_list n l fun i hi=>h i (by omega)
    obtain ⟨y,hy⟩:=h n (by omega)
    refine ⟨ys++[y],by simp [h1],fun i hi z hz=>?_⟩
    by_cases hin:i<n
    · rw [List.getElem?_append_left (by omega)] at hz
      exact h2 i hin z hz
    · have:i=n:=by omega
      subst this
      rw [List.getElem?_append_right (by omega)] at hz
      simp [h1] at hz
      subst hz
      exact hy
theorem flat_get {α:Type} {f:α→List D} {sz:Nat} (hs:∀ x,(f x).length=sz):∀ (l:List α) (i j:Nat),j<sz→(l.flatMap f)[i*sz+j]? =(l[i]?).bind fun x=>(f x)[j]?
  | [],i,j,_=>by simp
  | x::l,0,j,h=>by simp [List.getElem?_append_left (show j<(f x).length by rw [hs];exact h)]
  | x::l,i+1,j,h=>by
    rw [List.flatMap_cons,List.getElem?_append_right (by rw [hs,Nat.add_mul];omega)]
    have:(i+1)*sz+j - (f x).length=i*sz+j:=by rw [hs,Nat.add_mul];omega
    rw [this,flat_get hs l i j h]
    simp
theorem reads_T (hF:OnlyU F w):∀ (fuel n:Nat),Reads P F w (shT P n) (DataW.trod ec P w base spare held fuel)
  | fuel,0,t,s,cs,x,h,_,_,_=>by cases h
  | fuel,n+1,t,s,cs,x,h,hnu,hl,hr=>by
    have hsz:=shT_size _ _ _ h
    unfold shT at h
    split at h
    · rename_i ht
      split at h
      · simp only [Option.some.injEq] at h;subst h
        obtain ⟨b,rfl,_⟩:=DataW.trod_bool ht hr
        exact ⟨b,trivial,.one (.s _ rfl) rfl⟩
      · cases h
    · rename_i k ht
      split at h
      · simp only [Option.some.injEq] at h;subst h
        obtain ⟨b,rfl,_,hw⟩:=DataW.trod_int ht hr
        exact ⟨b,hw,.one (.s _ rfl) rfl⟩
      · cases h
    · rename_i ht
      split at h
      · simp only [Option.some.injEq] at h;subst h
        obtain ⟨b,rfl,_,hw⟩:=DataW.trod_string ht hr
        exact ⟨b,hw,.one (.s _ rfl) rfl⟩
      · cases h
    · rename_i e ht
      split at h
      · rename_i hc
        simp only [Option.map_eq_some_iff] at h
        obtain ⟨a,ha,rfl⟩:=h
        have haz:=shT_size _ _ _ ha
        rcases DataW.trod_slice ht hr with ⟨rfl,_⟩ | ⟨ad,len,cap,elems,rest,fl,rfl,rfl,_,hb,hlc,hm,hlen,hel,_,_⟩
        · exact ⟨([]:List a.val),(fun x h=>nomatch h),.one (by exact .sln none 0) rfl⟩
        · have hel':∀ i,i<len→∃ csi:List Value,w.cells? base (ad.add (i*P.cellsOf e)) (P.cellsOf e)=some csi∧∃ y,DataW.trod ec P w base spare held fl e csi=some y:=fun i hi=>by
            have:=hel i hi
            have hg:elems[i]? =some elems[i]:=by simp [hlen,hi]
            rw [hg,Option.bind_eq_some_iff] at this
            obtain ⟨csi,h1,h2⟩:=this
            exact ⟨csi,h1,_,h2⟩
          have hval:∀ i,i<len→∃ v:a.val,a.ok v∧∃ csi,w.cells? base (ad.add (i*P.cellsOf e)) (P.cellsOf e)=some csi∧Holds F w (a.enc v) csi:=fun i hi=>by
            obtain ⟨csi,h1,y,h2⟩:=hel' i hi
            obtain ⟨v,hvo,hv⟩:=reads_T hF fl n e a csi y ha hnu (cells_get h1).1 h2
            exact ⟨v,hvo,csi,h1,hv⟩
          obtain ⟨vs,hvl,hvs⟩:=choose_list (p:=fun (i:Nat) (_:Nat) (v:a.val)=>a.ok v∧∃ csi,w.cells? base (ad.add (i*P.cellsOf e)) (P.cellsOf e)=some csi∧Holds F w (a.enc v) csi) len (fun i=>i) hval
          have hvok:∀ x:a.val,x∈vs→a.ok x:=fun x hm=>by
            obtain ⟨i,hx⟩:=List.getElem?_of_mem hm
            exact (hvs i (by have:=(List.getElem?_eq_some_iff.1 hx).1;omega) x hx).1
          cases len with
          | zero=>
            have:vs=[]:=List.length_eq_zero_iff.1 hvl
            subst this
            exact ⟨([]:List a.val),(fun x h=>nomatch h),.one (by exact .sln _ cap) rfl⟩
          | succ l=>
            obtain ⟨csi,h0,_⟩:=hel' 0 (by omega)
            have hc0:=(cells_get h0).2 0 hc.2
            simp only [Nat.zero_mul,Addr.add,if_true] at hc0
            obtain ⟨b,o,sp⟩:=ad
            have hsome:∃ u,w.cell? ⟨b,o,sp⟩=some u:=⟨csi[0],by rw [hc0.1];simp [hc0.2]⟩
            obtain ⟨u0,hu0⟩:=hsome
            unfold World.cell? at hu0
            have hb':b<w.heap.size:=by
              cases hh:w.heap[b]? with
              | none=>rw [hh] at hu0;cases hu0
              | some x=>exact (Array.getElem?_eq_some_iff.1 hh).1
            have hsp:sp=none:=by
              cases sp with
              | none=>rfl
              | some q=>
                simp only at hu0
                split at hu0
                · simp at hu0
                · cases hu0
            subst hsp
            have hadd:∀ i j,((⟨b,o,none⟩:Addr).add i).add j=⟨b,o+(i+j),none⟩:=fun i j=>by
              unfold Addr.add
              split<;>split<;>simp_all
              omega
            have hk:∀ k d,(vs.flatMap a.enc)[k]? =some d→∃ u,w.cell? ⟨b,o+k,none⟩=some u∧R F noRows w d u∧u.oneCell'=true:=fun k d hd=>by
              have hpos:0<a.size:=by omega
              have hk1:k / a.size*a.size+k % a.size=k:=by rw [Nat.mul_comm];exact Nat.div_add_mod k a.size
              have hk2:=Nat.mod_lt k hpos
              rw [← hk1,flat_get a.enc_length _ _ _ hk2,Option.bind_eq_some_iff] at hd
              obtain ⟨x,hx,hd⟩:=hd
              have hi:k / a.size<l+1:=by
                have:=(List.getElem?_eq_some_iff.1 hx).1
                omega
              obtain ⟨_,csi,hci,hho⟩:=hvs _ hi x hx
              obtain ⟨h1,h2⟩:=(cells_get hci).2 (k % a.size) (by omega)
              rw [hadd, ← haz,hk1] at h1
              refine ⟨csi[k % a.size],by rw [h1];simp [h2],hho.2 _ d _ hd (by simp [h2])⟩
            have hnf:¬ F b:=fun hb=>by
              obtain ⟨x0,hx0⟩:∃ x0,vs[0]? =some x0:=⟨_,List.getElem?_eq_getElem (show 0<vs.length by omega)⟩
              have hpos:0<a.size:=by omega
              obtain ⟨d0,hd0⟩:∃ d0,(vs.flatMap a.enc)[0]? =some d0:=by
                have:=flat_get a.enc_length vs 0 0 hpos
                rw [Nat.zero_mul,Nat.zero_add,hx0] at this
                rw [this]
                exact ⟨_,List.getElem?_eq_getElem (by rw [a.enc_length];exact hpos)⟩
              obtain ⟨u,h1,h2,_⟩:=hk 0 d0 hd0
              obtain ⟨q,rfl⟩:=hF _ _ _ hb h1
              obtain ⟨x1,hx1,hd1⟩:=List.mem_flatMap.1 (List.mem_of_getElem? hd0)
              exact enc_no a x1 hnu d0 hd1 q h2
            refine ⟨vs,fun x h=>hvok x h,.one (by
              have hl2:(List.length vs)=l+1:=hvl
              show R _ _ _ (.sl (List.flatMap a.enc vs) (List.length vs)) _
              rw [hl2]
              refine .sl _ _ b o cap (fun k=>(w.cell? ⟨b,o+k,none⟩).getD undef) hnf (fun _ _ h=>by cases h) hb' hlc hm (fun k hkl=>?_) fun k d hd=>?_
              · obtain ⟨u,h1,_,h3⟩:=hk k _ (List.getElem?_eq_getElem hkl)
                simp [h1,h3]
              · obtain ⟨u,h1,h2,_⟩:=hk k d hd
                simpa [h1] using h2) rfl⟩
      · cases h
    · rename_i fs ht
      obtain ⟨xs,fl,rfl,_,_,hxl,hxs⟩:=DataW.trod_struct ht hr
      split at h
      · rename_i s' hs'
        split at h
        · rename_i hs
          simp only [Option.some.injEq] at h;subst h
          obtain ⟨v,hvo,hv⟩:=reads_fs (P:=P) (w:=w) (fun t s=>shT_size n t s) (reads_T hF fl n) (cs:=cs) fs.toList 0 s' hs' hnu (by omega) fun f hf=>by
            obtain ⟨i,hi,rfl⟩:=Array.getElem_of_mem (Array.mem_toList_iff.1 hf)
            have:=hxs i fs[i] (by simp [hi])
            exact ⟨xs[i],by rw [this];simp [hxl,hi]⟩
          refine ⟨v,hvo,?_⟩
          rw [List.drop_zero,List.take_of_length_le (by omega)] at hv
          exact hv
        · cases h
      · cases h
    · cases h
theorem arg_R (hF:OnlyU F w) {r:Reach} {b0:Nat} {t:TypeId} {v:Value} {d:DataW H} {ps:List MemPlace} {n:Nat} {s:Sh} (hs:shT P n t=some s) (hnu:s.noU=true) (hv:Value.okWide P w r b0 t v) (hd:DataW.Trod ec P w base spare held t v d ps):
    ∃ x:s.val,s.ok x∧R F noRows w (s.arg x) v:=by
  cases n with
  | zero=>cases hs
  | succ n=>
    obtain ⟨fuel,hf⟩:=hd
    have hz:=shT_size _ _ _ hs
    have key:v.cells.toList.length=P.cellsOf t→∃ x:s.val,s.ok x∧Holds F w (s.enc x) v.cells.toList:=fun hl=>reads_T hF fuel (n+1) t s _ _ hs hnu hl hf
    unfold shT at hs
    split at hs
    · rename_i ht
      obtain ⟨b,rfl⟩:=okWide_bool ht hv
      split at hs
      · simp only [Option.some.injEq] at hs;subst hs
        exact ⟨b,trivial,.s _ rfl⟩
      · cases hs
    · rename_i k ht
      obtain ⟨b,rfl⟩:=okWide_int ht hv
      split at hs
      · simp only [Option.some.injEq] at hs;subst hs
        obtain ⟨c,hc,_,hw⟩:=DataW.trod_int ht hf
        simp [Value.cells] at hc
        subst hc
        exact ⟨b,hw,.s _ rfl⟩
      · cases hs
    · rename_i ht
      obtain ⟨b,rfl⟩:=okWide_string ht hv
      split at hs
      · simp only [Option.some.injEq] at hs;subst hs
        obtain ⟨c,hc,_,hw⟩:=DataW.trod_string ht hf
        simp [Value.cells] at hc
        subst hc
        exact ⟨b,hw,.s _ rfl⟩
      · cases hs
    · rename_i e ht
      obtain ⟨a,len,cap,rfl⟩:=okWide_slice ht hv
      split at hs
      · rename_i h1
        simp only [Option.map_eq_some_iff] at hs
        obtain ⟨q,_,rfl⟩:=hs
        obtain ⟨x,hxo,hx⟩:=key h1.1.symm
        exact ⟨x,hxo,(hx.2 0 _ _ rfl rfl).1⟩
      · cases hs
    · rename_i fs ht
      obtain ⟨cs,rfl,hsz⟩:=okWide_struct ht hv
      obtain ⟨x,hxo,hx⟩:=key (by simpa [Value.cells] using hsz)
      refine ⟨x,hxo,?_⟩
      have ha:s.arg x=.agg (s.enc x):=by
        split at hs
        · rename_i s' hs'
          split at hs
          · simp only [Option.some.injEq] at hs;subst hs
            cases hfs:fs.toList with
            | nil=>
              rw [hfs] at hs'
              obtain rfl:=shFs_nil hs'
              rfl
            | cons f fs'=>
              rw [hfs] at hs'
              obtain ⟨_,a,b,_,_,rfl⟩:=shFs_cons hs'
              rfl
          · cases hs
        · cases hs
      rw [ha]
      have:=hx.1
      simp only [Value.cells] at this hx
      have e:cs=cs.toList.toArray:=by simp
      rw [e]
      exact .agg _ cs.toList this.symm fun k d v h1 h2=>(hx.2 k d v h1 h2).1
    · cases hs
theorem flat_one {α β:Type} (f:α→β):∀ l:List α,(l.flatMap fun x=>[f x])=l.map f
  | []=>rfl
  | x::l=>by rw [List.flatMap_cons,flat_one f l];rfl
theorem flat_congr {α β γ:Type} {f:α→List γ} {g:β→List γ} {h:α→β} (he:∀ x,f x=g (h x)):∀ l:List α,l.flatMap f=(l.map h).flatMap g
  | []=>rfl
  | x::l=>by rw [List.flatMap_cons,List.map_cons,List.flatMap_cons,he,flat_congr he l]
end
inductive ArgsOf:List Sh→List D→Prop
  | nil:ArgsOf [] []
  | cons {s:Sh} {l:List Sh} {ds:List D} (x:s.val) (hx:s.ok x) (h:ArgsOf l ds):ArgsOf (s::l) (s.arg x::ds)
def shTs (P:Program) (n:Nat):List TypeId→Option (List Sh)
  | []=>some []
  | t::ts=>match shT P n t,shTs P n ts with
    | some s,some l=>some (s::l)
    | _,_=>none
theorem shTs_cons {P:Program} {n:Nat} {t:TypeId} {ts:List TypeId} {l:List Sh} (h:shTs P n (t::ts)=some l):∃ s l',shT P n t=some s∧shTs P n ts=some l'∧l=s::l':=by
  simp only [shTs] at h
  split at h
  · rename_i s l' h1 h2
    simp only [Option.some.injEq] at h
    exact ⟨s,l',h1,h2,h.symm⟩
  · cases h
section
variable {P:Program} {H:Type} {ec:TypeId×Value→H} {w w':World} {base b0:Nat} {r:Reach} {F:Nat→Prop}
theorem args_R (hF:OnlyU F w) {n:Nat}:∀ {ts:List TypeId} {shs:List Sh} {vs:List Value} {ds:List (DataW H)} {ps:List MemPlace},shTs P n ts=some shs→shs.all Sh.noU=true→
    (∀ (j:Nat) t v,ts[j]? =some t→vs[j]? =some v→Value.okWide P w r b0 t v)→DataW.TrodAll ec P w base (fun _=>true) true ts vs ds ps→
    ∃ as,ArgsOf shs as∧as.length=vs.length∧∀ (k:Nat) (d:D) (v:Value),as[k]? =some d→vs[k]? =some v→R F noRows w d v
  | [],shs,[],[],_,hs,_,_,_=>by
    simp only [shTs,Option.some.injEq] at hs
    subst hs
    exact ⟨[],.nil,rfl,by simp⟩
  | t::ts,shs,v::vs,d::ds,ps,hs,hnu,hok,h=>by
    obtain ⟨p,q,h1,h2,_⟩:=h
    obtain ⟨s,l',g1,g2,rfl⟩:=shTs_cons hs
    simp only [List.all_cons,Bool.and_eq_true] at hnu
    obtain ⟨x,hxo,hx⟩:=arg_R hF g1 hnu.1 (hok 0 t v rfl rfl) h1
    obtain ⟨as,a1,a2,a3⟩:=args_R hF g2 hnu.2 (fun j t v hj hv=>hok (j+1) t v (by simpa using hj) (by simpa using hv)) h2
    refine ⟨s.arg x::as,.cons x hxo a1,by simp [a2],fun k d v hd hv=>?_⟩
    cases k with
    | zero=>
      simp only [List.getElem?_cons_zero,Option.some.injEq] at hd hv
      subst hd hv
      exact hx
    | succ k=>exact a3 k d v (by simpa using hd) (by simpa using hv)
  | [],_,_::_,_,_,_,_,_,h=>by simp [DataW.TrodAll] at h
  | [],_,[],_::_,_,_,_,_,h=>by simp [DataW.TrodAll] at h
  | _::_,_,[],_,_,_,_,_,h=>by simp [DataW.TrodAll] at h
  | _::_,_,_::_,[],_,_,_,_,h=>by simp [DataW.TrodAll] at h
theorem Kept.same (h:Kept w w') {p:MemPlace} (hp:p.block<w.heap.size):w.sameAt w' p:=by
  cases p with
  | cell b o=>exact Go.World.cell?_of_block (w:=w) (h.2.1 b hp)
  | map b=>exact h.2.1 b hp
theorem Kept.frame (h:Kept w w') (may:MemPlace→Prop):w.keptBut w' may:=by
  refine ⟨h.2.2.1,h.2.2.2,fun i hi=>?_⟩
  rw [h.2.1 i hi]
  split<;>simp_all
theorem trodAll_stays (hl:laidOutB P=true) (h:Kept w w'):∀ {ts:List TypeId} {vs:List Value} {ds:List (DataW H)} {ps:List MemPlace},(ts.all fun t=>P.readableRec t&&decide (t<P.types.size))=true→
    DataW.TrodAll ec P w 0 (fun _=>true) true ts vs ds ps→DataW.TrodAll ec P w' 0 (fun b=>decide (b<w.heap.size)) true ts vs ds ps
  | [],[],[],_,_,h0=>h0
  | t::ts,v::vs,d::ds,ps,ht,h0=>by
    obtain ⟨p,q,h1,h2,rfl⟩:=h0
    simp only [List.all_cons,Bool.and_eq_true,decide_eq_true_eq] at ht
    have hlt:∀ x∈p,x.block<w.heap.size:=by obtain ⟨m,hm⟩:=h1;exact DataW.trod_lt m _ _ _ hm
    exact ⟨p,q,WideElems.Trod_stays hl ht.1.1 ht.1.2 h1 (fun x hx=>h.same (hlt x hx)) (fun x hx=>by simpa using hlt x hx),trodAll_stays hl h (by simpa using ht.2) h2,rfl⟩
  | [],_::_,_,_,_,h0=>by simp [DataW.TrodAll] at h0
  | [],[],_::_,_,_,h0=>by simp [DataW.TrodAll] at h0
  | _::_,[],_,_,_,h0=>by simp [DataW.TrodAll] at h0
  | _::_,_::_,[],_,_,h0=>by simp [DataW.TrodAll] at h0
theorem trodAll_len:∀ {ts:List TypeId} {vs:List Value} {ds:List (DataW H)} {ps:List MemPlace},DataW.TrodAll ec P w 0 (fun _=>true) true ts vs ds ps→ds.length=ts.length
  | [],[],[],_,_=>rfl
  | t::ts,v::vs,d::ds,ps,h0=>by
    obtain ⟨p,q,h1,h2,rfl⟩:=h0
    simp [trodAll_len h2]
  | [],_::_,_,_,h0=>by simp [DataW.TrodAll] at h0
  | [],[],_::_,_,h0=>by simp [DataW.TrodAll] at h0
  | _::_,[],_,_,h0=>by simp [DataW.TrodAll] at h0
  | _::_,_::_,[],_,h0=>by simp [DataW.TrodAll] at h0
theorem laid_var {nm:String} {d:DataW Unit}:∀ {l:List (String×DataW Unit)} {ps:List MemPlace},DataW.LaidVars P w l ps→(nm,d)∈l→
    ∃ g t cs fuel p,P.globalNamed nm=some g∧(P.globals[g]?).map (·.type)=some t∧w.var? P nm=some cs∧DataW.trod (fun _=>()) P w 0 (fun _=>true) false fuel t cs.toList=some (d,p)∧∀ x∈MemPlace.row ⟨g,0,none⟩ cs.size,x∈ps
  | [],_,_,h=>by simp at h
  | (n,e)::r,ps,hv,h=>by
    obtain ⟨g,t,cs,fuel,p,q,h1,h2,h3,h4,h5,rfl⟩:=hv
    rcases List.mem_cons.1 h with h | h
    · cases h
      exact ⟨g,t,cs,fuel,p,h1,h2,h3,h4,fun x hx=>List.mem_append_left _ (List.mem_append_left _ hx)⟩
    · obtain ⟨g',t',cs',fuel',p',k1,k2,k3,k4,k5⟩:=laid_var h5 h
      exact ⟨g',t',cs',fuel',p',k1,k2,k3,k4,fun x hx=>List.mem_append_right _ (k5 x hx)⟩
theorem cells_u64 {e:TypeId} {m:Nat} {spare:Nat→Bool} {held:Bool} (he:P.underlying e=some (.int .u64)) (hc:P.cellsOf e=1):∀ {cs:List Value} {l:List Int} {xs:List (DataW H×List MemPlace)},cs.length=l.length→xs.map (·.1)=l.map (fun n=>DataW.lit (.int .u64 n))→
    (∀ i,i<l.length→DataW.trod ec P w base spare held m e ((cs.drop i).take 1)=xs[i]?)→cs=l.map (Value.int .u64 ·)
  | [],[],_,_,_,_=>rfl
  | c::cs,n::l,[],_,hx,_=>by simp at hx
  | c::cs,n::l,x::xs,hl,hx,h=>by
    have h0:=h 0 (by simp)
    simp only [List.drop_zero,List.take_succ_cons,List.take_zero,List.getElem?_cons_zero] at h0
    obtain ⟨b,hb,hxb,_⟩:=DataW.trod_int he h0
    simp only [List.map_cons,List.cons.injEq] at hx
    have e1:x.1=DataW.lit (.int .u64 b):=by rw [hxb]
    rw [hx.1] at e1
    simp only [DataW.lit.injEq,Lit.int.injEq,true_and] at e1
    subst e1
    simp only [List.cons.injEq,and_true] at hb
    subst hb
    rw [List.map_cons,cells_u64 he hc (cs:=cs) (l:=l) (xs:=xs) (by simpa using hl) hx.2 fun i hi=>by simpa using h (i+1) (by simpa using hi)]
  | [],_::_,_,hl,_,_=>by simp at hl
  | _::_,[],_,hl,_,_=>by simp at hl
theorem laid_table {laid:List (String×DataW Unit)} {nm:String} {g t e:Nat} {l:List Int} (h:laidMet P laid w) (hm:(nm,DataW.agg (l.map fun n=>DataW.lit (.int .u64 n)))∈laid) (hg:P.globalNamed nm=some g)
    (ht:(P.globals[g]?).map (·.type)=some t) (hu:P.underlying t=some (.array l.length e)) (hs:P.cellsOf t=l.length) (he:P.underlying e=some (.int .u64)) (hc:P.cellsOf e=1) (hne:0<l.length):
    ∃ ty,w.heap[g]? =some (.cells (l.map (Value.int .u64 ·)).toArray ty (0,0)):=by
  obtain ⟨ps,hv,_,hp⟩:=h
  obtain ⟨g',t',cs,fuel,p,h1,h2,h3,h4,h5⟩:=laid_var hv hm
  obtain rfl:g=g':=Option.some.inj (hg.symm.trans h1)
  obtain rfl:t=t':=Option.some.inj (ht.symm.trans h2)
  obtain ⟨xs,m,_,e2,e3,e4,e5⟩:=DataW.trod_array hu h4
  have hcs:cs.toList=l.map (Value.int .u64 ·):=by
    refine cells_u64 (ec:=fun _=>()) (w:=w) (base:=0) (spare:=fun _=>true) (held:=false) (m:=m) (xs:=xs) he hc (by rw [e3,hs]) ?_ fun i hi=>?_
    · simp only [Prod.mk.injEq,DataW.agg.injEq] at e2
      exact e2.1.symm
    · have:=e5 i hi
      rwa [hc,Nat.mul_one] at this
  have hsz:0<cs.size:=by
    have:cs.toList.length=l.length:=by rw [hcs];simp
    simp at this
    omega
  obtain ⟨⟨c,ty,hh⟩,_⟩:=hp g 0 (h5 _ (by
    unfold MemPlace.row
    refine List.mem_map.2 ⟨0,by simpa using hsz,?_⟩
    simp [Addr.add]))
  refine ⟨ty,?_⟩
  simp only [World.var?,hg,Option.bind_some,hh,Option.some.injEq] at h3
  subst h3
  rw [hh, ← hcs]
end
theorem law_contract {C:Checked} {f:FuncId} {fn:Func} {s:ChangeSpec} {H:Type} {ec:TypeId×Value→H} {n:Nat} {shs:List Sh} {tb:TypeId} {F:Nat→Prop}
    (hvars:s.vars=[]) (hs:∀ ds:List (DataW H),ds.length=fn.params.size→s.fn H ds={ results:=[.lit (.bool true)],args:=ds })
    (hlaid:laidOutB C.prog=true) (hread:(fn.params.toList.all fun t=>C.prog.readableRec t&&decide (t<C.prog.types.size))=true) (hres:fn.resultTypes= #[tb]) (hb:C.prog.underlying tb=some .bool)
    (hsh:shTs C.prog n fn.params.toList=some shs) (hnu:shs.all Sh.noU=true) (h:∀ as,ArgsOf shs as→PCall C.prog f as (.s (.bool true)))
    (W:World) (base:Nat) (args:Array Value) (ds gs:List (DataW H)) (before:List MemPlace) (hFB:FB F W) (hU:OnlyU F W)
    (hval:∀ (j:Nat) t v,fn.params[j]? =some t→args[j]? =some v→Value.okWide C.prog W .any base t v)
    (hW:DataW.Whole ec C.prog fn.params.toList s.vars false W args.toList ds gs before):
    Calls C.prog f args W fun e W'=>∃ v,e=.returned v∧s.post ec C.prog fn false true false false W args v W':=by
  have hW':=hW
  obtain ⟨p,q,hA,hV,rfl,hfz,hnd⟩:=hW
  rw [hvars] at hV
  have hg:gs=[]∧q=[]:=by
    cases gs with
    | nil=>exact ⟨rfl,hV⟩
    | cons g gs=>exact hV.elim
  obtain ⟨rfl,rfl⟩:=hg
  obtain ⟨as,a1,a2,a3⟩:=args_R hU hsh hnu (fun j t v hj hv=>hval j t v (by simpa using hj) (by simpa using hv)) hA
  refine ((h as a1).2.2 F W args hFB ⟨by simpa using a2.symm,fun k d v hd hv=>a3 k d v hd (by simpa using hv)⟩).mono ?_
  rintro e W' ⟨v,rfl,hv,hk⟩
  obtain ⟨rfl,_⟩:=hv.s_inv
  have hlen:ds.length=fn.params.size:=by simpa using trodAll_len hA
  refine ⟨_,rfl,ds,[],_,[],p,[],hW',?_,?_,?_,hk.frame _,fun h=>by cases h⟩
  · rw [List.append_nil,hs ds hlen,hres]
    exact ⟨[],[],⟨1,by simp [DataW.trod,Value.cells,hb]⟩,rfl,rfl⟩
  · rw [List.append_nil,hs ds hlen]
    exact trodAll_stays hlaid hk hread hA
  · rw [List.append_nil,hs ds hlen,hvars]
    rfl
end Go.Abs
namespace Go.Abs
abbrev Fe (r:Option Nat):Fence:={ fn:=fun _=>True,depth:=none,alive:=false,round:=r }
theorem fe_calls {r:Option Nat} {n:Nat} {P:Program} {f:FuncId} {args:Array Value} {w:World} {R:Ending→World→Prop} (h:Calls P f args w R):CallsIn (Fe r) n P f args w R:=
  (callsIn_wide.2 h:CallsIn Fence.wide n P f args w R)
def runOp (r:Option Nat) (n:Nat) (P:Program) (ops:Array Oper) (QX:Exit→Act→World→Prop) (o:Oper) (K:Act→World→Prop) (a:Act) (w:World):Prop:=
  if Region.wanted o (yielded ops a.tmps) then o.wpIn (Fe r) n P a w K QX else (∀ f,o.about P w a.eval=some f→(Fe r).fn f)∧K (a.put o.dst undef) w
section
variable {P:Program} {ops:Array Oper}
theorem runOp_wpOpIn {r:Option Nat} {n:Nat} {QX:Exit→Act→World→Prop} {i:Nat} {o:Oper} (hi:ops[i]? =some o) {K:Act→World→Prop} {a:Act} {w:World} (h:runOp r n P ops QX o K a w):
    wpOpIn (Fe r) n P ops QX i K a w:=by
  unfold wpOpIn
  simp only [hi]
  exact h
structure Plan where
  val:D
  ups:List (Nat×Option Row):=[]
  rd:List Nat:=[]
  new:Nat:=0
def Plan.wr (p:Plan):List Nat:=p.ups.map (·.1)
def Plan.Ok (P:Program) (ops:Array Oper) (o:Oper) (st:St) (p:Plan):Prop:=
  ∀ (F:Nat→Prop) (β:Pla) (w:World) (a:Act) (m:Mem) (env:Env) (N:Nat),(∀ t∈o.looksAt ops,env t=st.env t)→ESim F β w env a→MSim P F m β w→
    (∀ i∈p.rd,st.mem i≠none→m i=st.mem i)→(∀ i,st.nx≤i→i<st.nx+p.new→β i=none)→(∀ i,N≤i→β i=none)→
    ∀ (r:Option Nat) (n:Nat) (QX:Exit→Act→World→Prop) (K:Act→World→Prop),
      (∀ v w' β',R F β' w' p.val v→MSim P F (upds m p.ups) β' w'→Step β w β' w'→(∀ i,β i=none→(i<st.nx∨st.nx+p.new≤i)→β' i=none)→K (a.put o.dst v) w')→
      runOp r n P ops QX o K a w
structure Plan.Tidy (p:Plan) (k:Nat) (st:St):Prop where
  wr:∀ i∈p.wr,st.mem i≠none∨(st.nx≤i∧i<st.nx+p.new)
  k0:k=0→p.rd=[]∧p.ups=[]
  k1:k=1→p.ups=[]
  k3:k=3→p.rd=[]∧∀ i∈p.wr,st.nx≤i
theorem sem_at {r:Option Nat} {o:Oper} (h:∀ c,o.op≠ .defer c) (ρ:Operand→Value):o.semAt r ρ=execOp ρ o:=Oper.semAt_eq r ρ o h
theorem guard_R {F:Nat→Prop} {β:Pla} {w:World} {env:Env} {a:Act} (hE:ESim F β w env a) {j t:Nat} {b c:Bool} (ht:(ops[j]?).bind (·.dst)=some t) (hc:guardC (env t) b=some c):
    (yielded ops a.tmps j==some b)=c:=by
  have h:=hE t
  have hy:yielded ops a.tmps j=match a.tmps[t]? with | some (.bool b)=>some b | _=>none:=by
    unfold yielded
    rw [ht]
    rfl
  have hq:∀ x:Value,a.tmps.getD t undef=x→x≠undef→a.tmps[t]? =some x:=fun x hx hne=>by
    simp only [Array.getD_eq_getD_getElem?] at hx
    cases hg:a.tmps[t]? with
    | none=>rw [hg] at hx;exact absurd hx.symm hne
    | some y=>rw [hg] at hx;simpa using hx
  have hf:∀ {d:D},R F β w (.opt false d) (a.tmps.getD t undef)→c=false→(yielded ops a.tmps j==some b)=c:=fun {d} h hcf=>by
    generalize hv:a.tmps.getD t undef=v at h
    cases h with
    | opt _ _ _ h1 h2=>
      have:=h2 rfl
      rw [hy,hcf]
      simp only [Array.getD_eq_getD_getElem?] at hv
      cases hg:a.tmps[t]? with
      | none=>simp
      | some y=>
        rw [hg] at hv
        simp only [Option.getD_some] at hv
        rw [hv,this]
        simp [undef]
  unfold guardC at hc
  split at hc
  · rename_i g b' e
    rw [e] at h
    have:=h.s_inv.1
    rw [hy,hq _ this (by simp [undef])]
    simpa using hc
  · rename_i _ c1 d e
    rw [e] at h
    cases c1 with
    | false=>
      refine hf h ?_
      split at hc<;>simpa using hc.symm
    | true=>
      split at hc
      · generalize hv:a.tmps.getD t undef=v at h
        cases h with
        | opt _ _ _ h1 h2=>
          have:=(h1 rfl).s_inv.1
          rw [hy,hq _ (hv.trans this) (by simp [undef])]
          simpa using hc
      · simp at hc
  · cases hc
end
section
variable {P:Program} {ops:Array Oper} {o:Oper} {st:St}
theorem sliceCells_rd {m:Mem} {sz:Nat} {d:D} {p:Prop} {rd:List Nat} {n:Nat} {cs:List D} (h:sliceCells m sz d=some (p,rd,n,cs)):∀ i∈rd,m i≠none:=by
  unfold sliceCells at h
  split at h
  · cases h;simp
  · cases h;simp
  · split at h
    · rename_i hm
      cases h
      simp [hm]
    · cases h
  · cases h
theorem lookupD_tidy {m:Mem} {t:TypeId} {x k:D} {ok:Bool} {e:Eff} (h:lookupD P m t x k ok=some e):e.ups=[]∧e.new=0∧∀ i∈e.rd,m i≠none:=by
  unfold lookupD at h
  split at h
  · split at h
    · rename_i hm;cases h;simp [hm]
    · cases h
  · cases h;simp
  · cases h;simp
  · cases h
theorem mapPutD_tidy {m:Mem} {t:TypeId} {x k v:D} {e:Eff} (h:mapPutD P m t x k v=some e):(∀ i∈e.ups.map (·.1),m i≠none)∧∀ i∈e.rd,m i≠none:=by
  unfold mapPutD at h
  split at h
  · split at h
    · rename_i hm;cases h;simp [hm]
    · cases h
  · cases h
theorem mapDelD_tidy {m:Mem} {t:TypeId} {x k:D} {e:Eff} (h:mapDelD P m t x k=some e):(∀ i∈e.ups.map (·.1),m i≠none)∧∀ i∈e.rd,m i≠none:=by
  unfold mapDelD at h
  split at h
  · split at h
    · rename_i hm;cases h;simp [hm]
    · cases h
  · cases h
theorem aop_tidy {op:Op} {ρ:Operand→D} {m:Mem} {nx:Nat} {e:Eff} (h:aop P op ρ m nx=some e):
    (∀ i∈e.ups.map (·.1),m i≠none∨(nx≤i∧i<nx+e.new))∧(kindO op=0→e.rd=[]∧e.ups=[])∧(kindO op=1→e.ups=[])∧(kindO op=3→e.rd=[]∧∀ i∈e.ups.map (·.1),nx≤i):=by
  cases op with
  | call c=>
    have h0:(∀ i∈e.ups.map (·.1),m i≠none∨(nx≤i∧i<nx+e.new))∧(c.callee=.builtin .len→e.ups=[])∧(c.callee=.builtin .min→e.rd=[]∧e.ups=[]):=by
      simp only [aop] at h
      split at h
      · rename_i b hb
        split at h
        · unfold builtinD at h
          split at h
          · refine ⟨?_,fun _=>?_,fun hx=>(by rw [hx] at hb;cases hb)⟩<;>
            · unfold lenD at h
              split at h<;>first | (cases h;simp;done) | skip
              all_goals first | (cases h;done) | skip
              all_goals (split at h<;>first | (cases h;simp;done) | (cases h;done))
          · refine ⟨?_,fun hx=>(by rw [hx] at hb;cases hb),fun hx=>(by rw [hx] at hb;cases hb)⟩
            split at h
            · unfold appendD at h
              simp only at h
              split at h
              · cases h
              · rename_i hc
                split at h
                · cases h;simp
                · split at h
                  · rename_i hm
                    cases h
                    intro i hi
                    simp only [List.map_cons,List.map_nil,List.mem_cons,List.not_mem_nil,or_false] at hi
                    rcases hi with rfl | rfl
                    · left;simp [hm]
                    · right;simp
                  · cases h
                · cases h
            · cases h
          · cases h
            refine ⟨by simp,fun _=>rfl,fun _=>⟨rfl,rfl⟩⟩
          · refine ⟨?_,fun hx=>(by rw [hx] at hb;cases hb),fun hx=>(by rw [hx] at hb;cases hb)⟩
            split at h
            · rename_i hm
              cases h
              simp [hm]
            · cases h
          · exact ⟨fun i hi=>.inl ((mapDelD_tidy h).1 i hi),fun hx=>(by rw [hx] at hb;cases hb),fun hx=>(by rw [hx] at hb;cases hb)⟩
          · cases h
        · cases h
      · cases h
    refine ⟨h0.1,fun hk=>?_,fun hk=>?_,fun hk=>?_⟩
    · unfold kindO at hk
      split at hk<;>first | (cases hk;done) | skip
      all_goals first | (rename_i hx;injection hx with hx;subst hx;exact h0.2.2 rfl) | (simp_all;done)
    · unfold kindO at hk
      split at hk<;>first | (cases hk;done) | skip
      all_goals first | (rename_i hx;injection hx with hx;subst hx;exact h0.2.1 rfl) | (simp_all;done)
    · unfold kindO at hk
      split at hk<;>first | (cases hk;done) | skip
      all_goals simp_all
  | binOp op t x y _=>
    simp only [aop] at h
    split at h
    · rename_i e' he
      simp only [Option.some.injEq] at h
      subst h
      have h0:e'.ups=[]∧(op=.eql∨op=.neq):=by
        unfold nilD at he
        split at he
        · cases he;exact ⟨rfl,.inl rfl⟩
        · split at he
          · cases he;exact ⟨rfl,.inl rfl⟩
          · cases he
        · split at he
          · cases he;exact ⟨rfl,.inr rfl⟩
          · cases he
        · cases he
      refine ⟨by simp [h0.1],fun hk=>?_,fun _=>h0.1,fun hk=>?_⟩
      · rcases h0.2 with rfl | rfl<;>simp [kindO] at hk
      · rcases h0.2 with rfl | rfl<;>simp [kindO] at hk
    · cases hb:binD P op t (ρ x) (ρ y) with
      | none=>rw [hb] at h;cases h
      | some r=>rw [hb] at h;cases h;simp
  | lookup t x k ok=>
    have:=lookupD_tidy h
    refine ⟨by simp [this.1],fun hk=>?_,fun _=>this.1,fun hk=>?_⟩<;>simp [kindO] at hk
  | mapUpdate t x k v=>
    refine ⟨fun i hi=>.inl ((mapPutD_tidy h).1 i hi),fun hk=>?_,fun hk=>?_,fun hk=>?_⟩<;>simp [kindO] at hk
  | insert t x k v=>
    refine ⟨fun i hi=>.inl ((mapPutD_tidy h).1 i hi),fun hk=>?_,fun hk=>?_,fun hk=>?_⟩<;>simp [kindO] at hk
  | slice t x lo hi mx=>
    have h0:e.ups=[]:=by
      simp only [aop] at h
      unfold sliceD at h
      repeat' split at h
      all_goals first | (cases h;done) | (cases h;rfl)
    refine ⟨by simp [h0],fun hk=>?_,fun _=>h0,fun hk=>?_⟩<;>simp [kindO] at hk
  | _=>
    first
    | (simp only [aop] at h;cases h;simp [kindO];done)
    | (simp only [aop] at h
       repeat' split at h
       all_goals first
         | (cases h;done)
         | (cases h;simp_all [kindO];done)
         | (simp only [Option.map_eq_some_iff] at h;obtain ⟨x,hx,rfl⟩:=h;simp [kindO];done))
def Wants (ops:Array Oper) (o:Oper) (st:St) (c:Bool):Prop:=
  ∀ (F:Nat→Prop) (β:Pla) (w:World) (a:Act) (env:Env),(∀ t∈o.looksAt ops,env t=st.env t)→ESim F β w env a→Region.wanted o (yielded ops a.tmps)=c
theorem wants_none (h:o.guard=none):Wants ops o st true:=fun _ _ _ _ _ _ _=>by simp [Region.wanted,h]
theorem wants_some {j t:Nat} {b c:Bool} (h:o.guard=some (j,b)) (ht:(ops[j]?).bind (·.dst)=some t) (hc:guardC (st.env t) b=some c):Wants ops o st c:=fun F β w a env he hE=>by
  have:=he t (by simp [Oper.looksAt,h,ht])
  rw [← this] at hc
  have h1:=guard_R hE ht hc
  simpa [Region.wanted,h] using h1
theorem looks_opd {env:Env} (he:∀ t∈o.looksAt ops,env t=st.env t):∀ t,Operand.tmp t∈o.op.operands→env t=st.env t:=fun t ht=>
  he t (List.mem_append_left _ (List.mem_filterMap.2 ⟨.tmp t,by simpa using ht,rfl⟩))
theorem ok_skip (hw:Wants ops o st false) (d:D) (hd:∀ F β w,R F β w d undef):Plan.Ok P ops o st ⟨d,[],[],0⟩:=by
  intro F β w a m env N he hE hm hr hn hN r n QX K hK
  unfold runOp
  rw [hw F β w a env he hE,if_neg (by simp)]
  exact ⟨fun _ _=>trivial,hK undef w β (hd F β w) hm (Step.refl β w) fun _ h _=>h⟩
theorem ok_opt {c:Bool} {d:D} {rd:List Nat} (hw:Wants ops o st c) (h:c=true→Plan.Ok P ops o st ⟨d,[],rd,0⟩):Plan.Ok P ops o st ⟨.opt c d,[],rd,0⟩:=by
  intro F β w a m env N he hE hm hr hn hN r n QX K hK
  cases c with
  | true=>exact h rfl F β w a m env N he hE hm hr hn hN r n QX K fun v w' β' h1=>hK v w' β' (.opt true d v (fun _=>h1) (by simp))
  | false=>
    have:=ok_skip (P:=P) hw (.opt false d) fun F β w=>.opt false d undef (by simp) fun _=>rfl
    exact this F β w a m env N he hE hm (by simp) hn hN r n QX K hK
theorem run_eff {F:Nat→Prop} {m:Mem} {nx:Nat} {β:Pla} {w:World} {a:Act} {e:Eff} (hnd:∀ c,o.op≠ .defer c) (hw:Region.wanted o (yielded ops a.tmps)=true) (h:OpS P F m nx β w e (execOp a.eval o))
    {r:Option Nat} {n:Nat} {QX:Exit→Act→World→Prop} {K:Act→World→Prop}
    (hK:∀ v w' β',R F β' w' e.val v→MSim P F (upds m e.ups) β' w'→Step β w β' w'→(∀ i,β i=none→(i<nx∨nx+e.new≤i)→β' i=none)→K (a.put o.dst v) w'):
    runOp r n P ops QX o K a w:=by
  obtain ⟨nxt,v,w',β',h1,h2,h3,h4,h5,h6⟩:=h
  unfold runOp
  rw [hw,if_pos rfl]
  refine ⟨fun _ _=>trivial,?_⟩
  rw [sem_at hnd,h1]
  rcases h2 with rfl | ⟨rfl,rfl⟩
  · exact hK v w' β' h3 h4 h5 h6
  · exact hK undef w' β' h3 h4 h5 h6
theorem aop_defer {op:Op} {ρ:Operand→D} {m:Mem} {nx:Nat} {e:Eff} (h:aop P op ρ m nx=some e):∀ c,op≠ .defer c:=fun c hc=>by
  subst hc;simp [aop] at h
theorem callD_defer {op:Op} {ρ:Operand→D} {x:FuncId×List D} (h:callD ρ op=some x):∀ c,op≠ .defer c:=fun c hc=>by
  subst hc;simp [callD] at h
theorem aop_rd {op:Op} {ρ:Operand→D} {m:Mem} {nx:Nat} {e:Eff} (h:aop P op ρ m nx=some e):∀ i∈e.rd,m i≠none:=by
  cases op with
  | call c=>
    simp only [aop] at h
    split at h
    · split at h
      · unfold builtinD at h
        split at h
        · unfold lenD at h
          split at h<;>first | (cases h;simp;done) | skip
          all_goals first | (cases h;done) | skip
          all_goals (split at h<;>first | (rename_i hm;cases h;simp [hm];done) | (cases h;done))
        · split at h
          · unfold appendD at h
            simp only at h
            split at h
            · cases h
            · rename_i hc
              have h1:=sliceCells_rd hc
              split at h
              · cases h;exact h1
              · split at h
                · rename_i hm
                  cases h
                  intro i hi
                  simp only [List.mem_cons] at hi
                  rcases hi with rfl | hi
                  · simp [hm]
                  · exact h1 i hi
                · cases h
              · cases h
          · cases h
        · cases h;simp
        · split at h
          · rename_i hm
            cases h
            simp [hm]
          · cases h
        · exact (mapDelD_tidy h).2
        · cases h
      · cases h
    · cases h
  | binOp op t x y _=>
    simp only [aop] at h
    split at h
    · rename_i e' he
      simp only [Option.some.injEq] at h
      subst h
      unfold nilD at he
      split at he
      · cases he;simp
      · split at he
        · rename_i hm;cases he;simp [hm]
        · cases he
      · split at he
        · rename_i hm;cases he;simp [hm]
        · cases he
      · cases he
    · cases hb:binD P op t (ρ x) (ρ y) with
      | none=>rw [hb] at h;cases h
      | some r=>rw [hb] at h;cases h;simp
  | lookup t x k ok=>exact (lookupD_tidy h).2.2
  | mapUpdate t x k v=>exact (mapPutD_tidy h).2
  | insert t x k v=>exact (mapPutD_tidy h).2
  | slice t x lo hi mx=>
    simp only [aop] at h
    unfold sliceD at h
    repeat' split at h
    all_goals first | (cases h;done) | (cases h;simp_all;done)
  | _=>
    first
    | (simp only [aop] at h;cases h;simp;done)
    | (simp only [aop] at h
       repeat' split at h
       all_goals first
         | (cases h;done)
         | (cases h;simp_all;done)
         | (simp only [Option.map_eq_some_iff] at h;obtain ⟨x,hx,rfl⟩:=h;simp;done))
theorem aop_mem' {op:Op} {ρ:Operand→D} {m m':Mem} {nx:Nat} {e:Eff} (h:aop P op ρ m nx=some e) (hr:∀ i∈e.rd,m i≠none→m' i=m i):aop P op ρ m' nx=some e:=
  aop_mem h fun i hi=>hr i hi (aop_rd h i hi)
theorem ok_aop {e:Eff} (hw:Wants ops o st true) (ha:asks st.env o.op) (h:aop P o.op (rho st.env o.op) st.mem st.nx=some e) (hp:e.pre):Plan.Ok P ops o st ⟨e.val,e.ups,e.rd,e.new⟩:=by
  intro F β w a m env N he hE hm hr hn hN r n QX K hK
  have he':=looks_opd he
  refine run_eff (m:=m) (nx:=st.nx) (β:=β) (F:=F) (aop_defer h) (hw F β w a env he hE) (aop_sound hm (fun h1=>hn st.nx (Nat.le_refl _) (by simp [h1])) hE (by rw [asks_env he'];exact ha) ?_ hp) hK
  rw [aop_env (rho_env he')]
  exact aop_mem' h hr
theorem run_call {F:Nat→Prop} {β:Pla} {w:World} {a:Act} {env:Env} {f:FuncId} {args:List D} (hw:Region.wanted o (yielded ops a.tmps)=true) (hE:ESim F β w env a) (ha:asks env o.op)
    (h:callD (rho env o.op) o.op=some (f,args)) (he:enterOk P f=true) {r:Option Nat} {n:Nat} {QX:Exit→Act→World→Prop} {K:Act→World→Prop}
    (hK:∀ vs,Rs F β w args vs→Calls P f vs w fun e w'=>∃ v,e=.returned v∧K (a.put o.dst v) w'):runOp r n P ops QX o K a w:=by
  obtain ⟨vs,h1,h2⟩:=call_enter (F:=F) (β:=β) (w:=w) hE ha h he
  unfold runOp
  rw [hw,if_pos rfl]
  refine ⟨fun _ _=>trivial,?_⟩
  rw [sem_at (callD_defer h),h1]
  refine ⟨by simp,fe_calls ((hK vs h2).mono ?_)⟩
  rintro e w' ⟨v,rfl,hk⟩
  exact hk
theorem ok_pure {f:FuncId} {args:List D} {r:D} (hw:Wants ops o st true) (ha:asks st.env o.op) (h:callD (rho st.env o.op) o.op=some (f,args)) (hc:PCall P f args r):Plan.Ok P ops o st ⟨r,[],[],0⟩:=by
  intro F β w a m env N he hE hm hr hn hN r n QX K hK
  have he':=looks_opd he
  refine run_call (args:=args) (hw F β w a env he hE) hE (by rw [asks_env he'];exact ha) (by rw [callD_env (rho_env he')];exact h) hc.1 fun vs hR=>?_
  refine (call_pure hm hc hR).mono fun e w' ⟨v,h1,h2,h3,h4⟩=>⟨v,h1,hK v w' β h2 h3 h4 fun _ h _=>h⟩
theorem ok_snap {f:FuncId} {args args':List D} {r:D} {rds:List Nat} (hw:Wants ops o st true) (ha:asks st.env o.op) (h:callD (rho st.env o.op) o.op=some (f,args)) (hs:Sns P rds st.mem args args') (hc:PCall P f args' r) (hr:r.scal=true):
    Plan.Ok P ops o st ⟨r,[],rds,0⟩:=by
  intro F β w a m env N he hE hm hrd hn hN r n QX K hK
  have he':=looks_opd he
  refine run_call (args:=args) (hw F β w a env he hE) hE (by rw [asks_env he'];exact ha) (by rw [callD_env (rho_env he')];exact h) hc.1 fun vs hR=>?_
  refine (call_snap hm hs hrd hc (scal_noRef hr) hR).mono fun e w' ⟨v,h1,h2,h3,h4⟩=>⟨v,h1,hK v w' β h2 h3 h4 fun _ h _=>h⟩
theorem ok_own {f:FuncId} {args es:List D} {n:Nat} {t:TypeId} (hw:Wants ops o st true) (ha:asks st.env o.op) (h:callD (rho st.env o.op) o.op=some (f,args)) (hc:OCall P f args es n t):
    Plan.Ok P ops o st ⟨.rs st.nx 0 n,[(st.nx,some (.cells es t))],[],1⟩:=by
  intro F β w a m env N he hE hm hrd hn hN r n QX K hK
  have he':=looks_opd he
  refine run_call (args:=args) (hw F β w a env he hE) hE (by rw [asks_env he'];exact ha) (by rw [callD_env (rho_env he')];exact h) hc.1 fun vs hR=>?_
  refine (call_own hm (hn st.nx (Nat.le_refl _) (by simp)) hc hR).mono fun e w' ⟨v,β',h1,h2,h3,h4,h5⟩=>⟨v,h1,hK v w' β' h2 h3 h4 fun i hi hne=>?_⟩
  rw [h5 i (by simp only at hne;omega)];exact hi
theorem ok_eff {f:FuncId} {args:List D} {r:D} {ups:List (Nat×Option Row)} {rds:List Nat} (hw:Wants ops o st true) (ha:asks st.env o.op) (h:callD (rho st.env o.op) o.op=some (f,args))
    (hc:∀ m2 nx2,(∀ i∈rds,st.mem i≠none→m2 i=st.mem i)→ACalls P f args m2 nx2 fun r' m' nx'=>r'=r∧m'=upds m2 ups∧nx'=nx2):Plan.Ok P ops o st ⟨r,ups,rds,0⟩:=by
  intro F β w a m env N he hE hm hrd hn hN ro n QX K hK
  have he':=looks_opd he
  have hc:=hc m N hrd
  refine run_call (args:=args) (hw F β w a env he hE) hE (by rw [asks_env he'];exact ha) (by rw [callD_env (rho_env he')];exact h) hc.1 fun vs hR=>?_
  refine (hc.2 F β w vs hm hN hR).mono fun e w' hp=>?_
  obtain ⟨v,d,m',nx',β',h1,⟨e1,e2,e3⟩,h3,h4,h5,h6,_,h7⟩:=hp
  subst e1 e2 e3
  refine ⟨v,h1,hK v w' β' h5 h3 h6 fun i hi _=>?_⟩
  rcases Nat.lt_or_ge i nx' with h | h
  · exact h7 i h hi
  · exact h4 i h
theorem upds_app (b:List (Nat×Option Row)):∀ (a:List (Nat×Option Row)) (m:Mem),upds m (a++b)=upds (upds m a) b
  | [],_=>rfl
  | (i,r)::a,m=>upds_app b a (up m i r)
theorem upds_some {i:Nat} {r:Row}:∀ {us:List (Nat×Option Row)} {m:Mem},upds m us i=some r→(∃ x∈us,x.1=i∧x.2=some r)∨m i=some r
  | [],_,h=>.inr h
  | (j,s)::us,m,h=>by
    rcases upds_some (us:=us) (m:=up m j s) h with ⟨x,hx,e⟩ | h
    · exact .inl ⟨x,by simp [hx],e⟩
    · by_cases hj:i=j
      · subst hj;rw [up_same] at h;exact .inl ⟨(i,s),by simp,rfl,h⟩
      · rw [up_ne _ _ hj] at h;exact .inr h
theorem upds_agree {i:Nat}:∀ {us:List (Nat×Option Row)} {m m':Mem},m i=m' i→upds m us i=upds m' us i
  | [],_,_,h=>h
  | (j,s)::us,m,m',h=>upds_agree (us:=us) (by simp only [up];split<;>simp [h])
theorem upds_out {i:Nat}:∀ {us:List (Nat×Option Row)} {m:Mem},(∀ x∈us,x.1≠i)→upds m us i=m i
  | [],_,_=>rfl
  | (j,s)::us,m,h=>by
    rw [upds,upds_out (us:=us) fun x hx=>h x (by simp [hx])]
    exact up_ne _ _ fun e=>h (j,s) (by simp) e.symm
theorem scal_row {F F':Nat→Prop} {β β':Pla} {w:World} {r:Row} {p:Pl} (hr:ScalRow r) (h:RowR P F β w r p):RowR P F' β' w r p:=by
  obtain ⟨cs,e,rfl,hs⟩:=hr
  cases h with
  | nil _=>exact .nil _
  | cells _ _ b o room sz c h1 h2 h3 h4 h5=>
    refine .cells cs e b o room sz c h1 h2 h3 h4 fun k d hd=>?_
    obtain ⟨u,hu1,hu2,hu3⟩:=h5 k d hd
    exact ⟨u,hu1,scal_R (hs d (List.mem_of_getElem? hd)) hu2,hu3⟩
theorem rs_at {F F':Nat→Prop} {β β':Pla} {w:World} {i j off k:Nat} {v:Value} (hb:β' j=β i) (h:R F β w (.rs i off k) v):R F' β' w (.rs j off k) v:=by
  cases h with
  | rsd _ _ _ _ h hv=>exact .rsd j off k v (hb.trans h) hv
  | rsn _ a h=>exact .rsn j a (hb.trans h)
  | rsz _ _ a b o len room sz h=>exact .rsz j off a b o len room sz (hb.trans h)
  | rs _ _ _ cap b o len room sz h h1 h2 h3 h4=>exact .rs j off k cap b o len room sz (hb.trans h) h1 h2 h3 h4
theorem ok_frame {f:FuncId} {args es:List D} {n:Nat} {t:TypeId} {ups:List (Nat×Option Row)} {rds:List Nat} (hw:Wants ops o st true) (ha:asks st.env o.op) (h:callD (rho st.env o.op) o.op=some (f,args)) (hfr:FrameOk st.mem rds ups args)
    (hes:∀ d∈es,d.scal=true) (hc:∀ nx2,ACalls P f args (only rds st.mem) nx2 fun r' m' _=>∃ q,nx2≤q∧r'=.rs q 0 n∧m' q=some (.cells es t)∧∀ i∈rds,m' i=upds st.mem ups i):
    Plan.Ok P ops o st ⟨.rs st.nx 0 n,ups++[(st.nx,some (.cells es t))],rds,1⟩:=by
  intro F β w a m env N he hE hm hrd hn hN ro k QX K hK
  have he':=looks_opd he
  obtain ⟨f1,f2,f3⟩:=hfr
  have hag:∀ i∈rds,m i=st.mem i:=fun i hi=>by
    obtain ⟨r,hr,_⟩:=f1 i hi
    exact hrd i hi (by simp [hr])
  have hbs:∀ i∈rds,∃ p,β i=some p:=fun i hi=>by
    obtain ⟨r,hr,_⟩:=f1 i hi
    obtain ⟨p,hp,_⟩:=hm.row i r ((hag i hi).trans hr)
    exact ⟨p,hp⟩
  have hnx:β st.nx=none:=hn st.nx (Nat.le_refl _) (Nat.lt_succ_self _)
  have hnr:st.nx∉rds:=fun hx=>by
    obtain ⟨p,hp⟩:=hbs _ hx
    rw [hnx] at hp;cases hp
  have hrN:∀ i∈rds,i<N:=fun i hi=>by
    obtain ⟨p,hp⟩:=hbs i hi
    rcases Nat.lt_or_ge i N with g | g
    · exact g
    · rw [hN i g] at hp;cases hp
  have hc:=hc N
  have hon:only rds st.mem=only rds m:=by
    funext i
    unfold only
    split
    · rename_i hi;exact (hag i hi).symm
    · rfl
  rw [hon] at hc
  refine run_call (args:=args) (hw F β w a env he hE) hE (by rw [asks_env he'];exact ha) (by rw [callD_env (rho_env he')];exact h) hc.1 fun vs hR=>?_
  let β2:Pla:=fun i=>if i∈rds then β i else none
  let F2:Nat→Prop:=fun b=>F b∨∃ i p,i∉rds∧β i=some p∧p.blk=some b
  have b2:∀ {i p},β2 i=some p→i∈rds∧β i=some p:=fun {i p} hi=>by
    simp only [β2] at hi
    split at hi
    · rename_i g;exact ⟨g,hi⟩
    · cases hi
  have b2i:∀ {i},i∈rds→β2 i=β i:=fun {i} hi=>if_pos hi
  have hm2:MSim P F2 (only rds m) β2 w:=by
    refine ⟨fun i r hi=>?_,fun i j p q b hp hq e e'=>hm.inj i j p q b (b2 hp).2 (b2 hq).2 e e',fun i p b hp e=>hm.lt i p b (b2 hp).2 e,fun i p b hp e hF=>?_,hm.fb.next (fun b hF=>?_) (fun _ h=>.inl h) fun _ _ _=>rfl⟩
    · unfold only at hi
      split at hi
      · rename_i hir
        obtain ⟨p,hp,hrow⟩:=hm.row i r hi
        obtain ⟨r',hr',hs⟩:=f1 i hir
        rw [hag i hir,hr'] at hi
        cases hi
        exact ⟨p,(b2i hir).trans hp,scal_row hs hrow⟩
      · cases hi
    · rcases hF with hF | ⟨j,q,hj,hq,eq⟩
      · exact hm.nf i p b (b2 hp).2 e hF
      · have:=hm.inj i j p q b (b2 hp).2 hq e eq
        subst this
        exact hj (b2 hp).1
    · rcases hF with hF | ⟨j,q,_,hq,eq⟩
      · exact hm.fb.lt b hF
      · exact hm.lt j q b hq eq
  have hR2:Rs F2 β2 w args vs:=⟨hR.1,fun k d v hd hv=>by
    have h0:=hR.2 k d v hd hv
    rcases f3 d (List.mem_of_getElem? hd) with ht | ⟨i,off,l,hi,rfl⟩
    · refine (ht F β w v h0).lift fun b hb=>⟨fun hF=>?_,fun i p hp e=>?_⟩
      · rcases hF with hF | ⟨j,q,_,hq,eq⟩
        · exact hb (.inl hF)
        · exact hb (.inr fun hfree=>hfree j q hq eq)
      · exact hb (.inr fun hfree=>hfree i p (b2 hp).2 e)
    · exact rs_at (b2i hi) h0⟩
  refine (hc.2 F2 β2 w vs hm2 (fun i hi=>?_) hR2).mono ?_
  · simp only [β2]
    split
    · rename_i g;have:=hrN i g;omega
    · rfl
  rintro e w' ⟨v,d,m',nx',β',h1,⟨q,hq,rfl,hmq,hmr⟩,h3,h4,h5,h6,h7,h8⟩
  have hqr:q∉rds:=fun hx=>by have:=hrN q hx;omega
  have hoth:∀ i p b,i∉rds→β i=some p→p.blk=some b→β2.free b:=fun i p b hi hp e j r hj e'=>by
    have:=hm.inj i j p r b hp (b2 hj).2 e e'
    subst this
    exact hi (b2 hj).1
  let β3:Pla:=fun i=>if i=st.nx then β' q else if i∈rds then β' i else β i
  have b3n:β3 st.nx=β' q:=if_pos rfl
  have b3r:∀ {i},i∈rds→β3 i=β' i:=fun {i} hi=>by
    simp only [β3]
    rw [if_neg (show ¬ i=st.nx from fun e=>hnr (e▸hi)),if_pos hi]
  have b3o:∀ {i},i≠st.nx→i∉rds→β3 i=β i:=fun {i} h1 h2=>by
    simp only [β3]
    rw [if_neg h1,if_neg h2]
  have cls:∀ i p,β3 i=some p→(∃ j,β' j=some p∧((i=st.nx∧j=q)∨(i∈rds∧j=i)))∨(i≠st.nx∧i∉rds∧β i=some p):=fun i p hp=>by
    by_cases e1:i=st.nx
    · subst e1;exact .inl ⟨q,b3n▸hp,.inl ⟨rfl,rfl⟩⟩
    · by_cases e2:i∈rds
      · exact .inl ⟨i,(b3r e2)▸hp,.inr ⟨e2,rfl⟩⟩
      · exact .inr ⟨e1,e2,(b3o e1 e2)▸hp⟩
  have hs3:Step β w β3 w':=by
    refine ⟨h6.size,fun b hb hf=>?_,fun i p hp=>?_,h6.out,fun i r hp hp'=>?_⟩
    rotate_left 2
    · have e1:i≠st.nx:=fun e=>by rw [e,hnx] at hp;cases hp
      by_cases e2:i∈rds
      · exact h6.lp i r ((b2i e2).trans hp) ((b3r e2)▸hp')
      · exact skel_of (h6.imm r (hm.lt i _ r hp rfl) (hoth i _ r e2 hp rfl)).1
    · have hf2:β2.free b:=fun i p hp e=>hf i p (b2 hp).2 e
      obtain ⟨g1,g2⟩:=h6.imm b hb hf2
      refine ⟨g1,fun i p hp e=>?_⟩
      rcases cls i p hp with ⟨j,hj,_⟩ | ⟨_,_,hj⟩
      · exact g2 j p hj e
      · exact hf i p hj e
    · have e1:i≠st.nx:=fun e=>by rw [e,hnx] at hp;cases hp
      by_cases e2:i∈rds
      · rw [b3r e2]
        exact h6.keep i p ((b2i e2).trans hp)
      · rw [b3o e1 e2]
        exact .inl hp
  have hclash:∀ i p j r b,i∉rds→β i=some p→p.blk=some b→β' j=some r→r.blk=some b→False:=fun i p j r b hi hp e hj e'=>
    (h6.imm b (hm.lt i p b hp e) (hoth i p b hi hp e)).2 j r hj e'
  refine ⟨v,h1,hK v w' β3 (rs_at b3n h5) ?_ hs3 fun i hi hne=>?_⟩
  · rw [upds_app]
    show MSim P F (up (upds m ups) st.nx (some (.cells es t))) β3 w'
    refine ⟨fun i r hi=>?_,fun i j p r b hp hr e e'=>?_,fun i p b hp e=>?_,fun i p b hp e=>?_,hm.fb.next (fun b hF=>Nat.lt_of_lt_of_le (hm.fb.lt b hF) h6.size) (fun _ h=>h) fun t _ hF=>(h6.imm _ (hm.fb.lt _ hF) fun i p hp e=>hm.nf i p _ (b2 hp).2 e hF).1⟩
    · by_cases e1:i=st.nx
      · subst e1
        rw [up_same] at hi
        cases hi
        obtain ⟨p,hp,hrow⟩:=h3.row q _ hmq
        exact ⟨p,b3n.trans hp,scal_row ⟨es,t,rfl,hes⟩ hrow⟩
      · rw [up_ne _ _ e1] at hi
        by_cases e2:i∈rds
        · rw [upds_agree (hag i e2), ← hmr i e2] at hi
          obtain ⟨p,hp,hrow⟩:=h3.row i r hi
          have hs:ScalRow r:=by
            rw [hmr i e2] at hi
            rcases upds_some hi with ⟨x,hx,_,hxr⟩ | hi
            · exact (f2 x hx).2 r hxr
            · obtain ⟨r',hr',hs⟩:=f1 i e2
              rw [hr'] at hi;cases hi;exact hs
          exact ⟨p,(b3r e2).trans hp,scal_row hs hrow⟩
        · rw [upds_out (i:=i) fun x hx (e:x.1=i)=>e2 (e▸(f2 x hx).1)] at hi
          obtain ⟨p,hp,hrow⟩:=hm.row i r hi
          exact ⟨p,(b3o e1 e2).trans hp,hrow.step hs3 fun b e=>(h6.imm b (hm.lt i p b hp e) (hoth i p b e2 hp e)).1⟩
    · rcases cls i p hp with ⟨i',hi',ci⟩ | ⟨i1,i2,hi'⟩<;>rcases cls j r hr with ⟨j',hj',cj⟩ | ⟨j1,j2,hj'⟩
      · have:=h3.inj i' j' p r b hi' hj' e e'
        subst this
        rcases ci with ⟨rfl,rfl⟩ | ⟨ci,rfl⟩<;>rcases cj with ⟨rfl,c⟩ | ⟨cj,c⟩
        · rfl
        · subst c;exact absurd cj hqr
        · subst c;exact absurd ci hqr
        · exact c
      · exact (hclash j r i' p b j2 hj' e' hi' e).elim
      · exact (hclash i p j' r b i2 hi' e hj' e').elim
      · exact hm.inj i j p r b hi' hj' e e'
    · rcases cls i p hp with ⟨i',hi',_⟩ | ⟨_,_,hi'⟩
      · exact h3.lt i' p b hi' e
      · exact Nat.lt_of_lt_of_le (hm.lt i p b hi' e) h6.size
    · rcases cls i p hp with ⟨i',hi',_⟩ | ⟨_,_,hi'⟩
      · exact fun hF=>h3.nf i' p b hi' e (.inl hF)
      · exact hm.nf i p b hi' e
  · have e1:i≠st.nx:=by simp only at hne;omega
    have e2:i∉rds:=fun hx=>by
      obtain ⟨p,hp⟩:=hbs i hx
      rw [hi] at hp;cases hp
    rw [b3o e1 e2];exact hi
end
end Go.Abs
