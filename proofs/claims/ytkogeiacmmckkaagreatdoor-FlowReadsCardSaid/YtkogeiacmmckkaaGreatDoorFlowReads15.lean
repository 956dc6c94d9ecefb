/- Part 15 of the proof; the last part says what is proved. -/
import Derived.Test.YtkogeiacmmckkaaGreatDoorFlowReads13
import Derived.Test.YtkogeiacmmckkaaGreatDoorFlowReads14
set_option linter.all false
section
open Go Go.Abs Go.Proofs Go.Argus
namespace Go.Proofs.Tryz.K
theorem mix_ok: Tryz.prog.follows .mixedOrders=true:=by kernel_rfl
noncomputable def strsK:List D→Option (List ByteArray)
  | []=>some []
  | .s (.string b)::l=>match strsK l with
    | some bs=>some (b::bs)
    | none=>none
  | _=>none
theorem strsK_ok:∀ {cs:List D} {l:List ByteArray},strsK cs=some l→cs=l.map S
  | [],l,h=>by simp only [strsK,Option.some.injEq] at h;subst h;rfl
  | d::cs,l,h=>by
    unfold strsK at h
    split at h
    · rename_i heq;cases heq
    · rename_i b cs' heq
      cases heq
      split at h
      · rename_i bs hb
        cases h
        rw [strsK_ok hb]
        rfl
      · cases h
    · cases h
noncomputable def joinK:List D→Option D
  | [.sl cs n,.s (.string sep)]=>match strsK cs with
    | some l=>bif Nat.beq l.length n&&(Nat.ble l.length 140737488355328&&Nat.ble (Lib.join (l.map (·.data.toList)) sep.data.toList).length 140737488355328) then some (S (joinS l sep)) else none
    | none=>none
  | _=>none
theorem joinK_ok {args:List D} {r:D} (h:joinK args=some r):PCall Tryz.prog 183 args r:=by
  unfold joinK at h
  split at h
  · rename_i cs n sep
    split at h
    · rename_i l hl
      cases hc:(Nat.beq l.length n&&(Nat.ble l.length 140737488355328&&Nat.ble (Lib.join (l.map (·.data.toList)) sep.data.toList).length 140737488355328)) with
      | false=>rw [hc] at h;cases h
      | true=>
        rw [hc] at h
        cases h
        simp only [Bool.and_eq_true,Nat.ble_eq] at hc
        have:=k183 (l:=l) (sep:=sep) hc.2.1 hc.2.2
        rw [strsK_ok hl, ← Nat.eq_of_beq_eq_true hc.1]
        exact this
    · cases h
  · cases h
noncomputable def copyL (i:Nat) (m:T Row) (nx:Nat):Option Res:=match m.get i with
    | some (.bs _ x T)=>bif Nat.beq T 158||Nat.beq T 160 then match m.put i (some (.bs true x T)) with
        | some m'=>some (.inl (.tup []),m',nx)
        | none=>none
      else none
    | _=>none
noncomputable def copyK (args:List D) (m:T Row) (nx:Nat):Option Res:=match args with
  | [.rp i 0]=>copyL i m nx
  | _=>none
theorem zc_acall {P:Program} {f:FuncId} {args:List D} {m M:Mem} {nx N:Nat} {r:D} (h:ACalls P f args m nx fun d m' nx'=>d=r∧m'=M∧nx'=N):ZC P [] f args m nx (.inl r) M N:=
  ⟨h.1,fun F β w vs _ hm hn hR=>(h.2 F β w vs hm hn hR).mono fun e w' ⟨v,d,m',nx',β',he,⟨hd,hm',hn'⟩,h1,h2,h3,h4,h5,h6⟩=>by
    subst hd hm' hn'
    exact ⟨β',⟨v,he,h3⟩,h1,h2,h4,h5,h6⟩⟩
set_option maxRecDepth 100000 in
theorem copyK_ok {args:List D} {m m':T Row} {nx nx':Nat} {y:D ⊕ List PanicEntry} (h:copyK args m nx=some (y,m',nx')):ZC Tryz.prog [] 249 args (memF m) nx y (memF m') nx':=by
  unfold copyK at h
  split at h
  · rename_i i
    unfold copyL at h
    split at h
    · rename_i u x T hm
      cases hT:(Nat.beq T 158||Nat.beq T 160) with
      | false=>rw [hT] at h;cases h
      | true=>
        rw [hT] at h
        simp only [cond_true] at h
        split at h
        · rename_i m1 hm1
          cases h
          rw [memF_put hm1]
          refine zc_acall (k249 (show memF m i=some (.bs u x T) from hm) ?_)
          simp only [Bool.or_eq_true] at hT
          rcases hT with e | e
          · have e:=Nat.eq_of_beq_eq_true e;subst e;exact lies158
          · have e:=Nat.eq_of_beq_eq_true e;subst e;exact lies160
        · cases h
    · cases h
  · cases h
noncomputable def digF:Nat→Nat→Option (List UInt8)
  | 0,_=>none
  | n+1,u=>bif Nat.blt u 10 then some [UInt8.ofNat (48+u)] else match digF n (u / 10) with
    | some l=>some (l++[UInt8.ofNat (48+u % 10)])
    | none=>none
theorem digF_ok:∀ {n u:Nat} {l:List UInt8},digF n u=some l→Lib.decDigits u=l
  | 0,u,l,h=>by cases h
  | n+1,u,l,h=>by
    simp only [digF] at h
    rw [Lib.decDigits]
    cases hb:Nat.blt u 10 with
    | true=>
      rw [hb] at h
      cases h
      rw [dif_pos (by simpa using hb)]
    | false=>
      rw [hb] at h
      rw [dif_neg (fun h=>by have:Nat.blt u 10=true:=by simpa using h
                             rw [this] at hb;cases hb)]
      simp only [cond_false] at h
      split at h
      · rename_i l' hl
        cases h
        rw [digF_ok hl]
      · cases h
noncomputable def itoaL:Int→Option (List UInt8)
  | .ofNat u=>bif Nat.ble u 9223372036854775807 then digF 20 u else none
  | .negSucc u=>bif Nat.ble u 9223372036854775807 then (match digF 20 (u+1) with
    | some l=>some (45::l)
    | none=>none) else none
theorem itoaL_ok {n:Int} {l:List UInt8} (h:itoaL n=some l): -9223372036854775808≤n∧n≤9223372036854775807∧Lib.itoa n=l:=by
  cases n with
  | ofNat u=>
    simp only [itoaL] at h
    cases hb:Nat.ble u 9223372036854775807 with
    | false=>rw [hb] at h;cases h
    | true=>
      rw [hb] at h
      have hu:u≤9223372036854775807:=Nat.le_of_ble_eq_true hb
      have h1:Int.ofNat u=(u:Int):=rfl
      refine ⟨by omega,by omega,?_⟩
      unfold Lib.itoa
      rw [if_neg (by omega)]
      exact digF_ok h
  | negSucc u=>
    simp only [itoaL] at h
    cases hb:Nat.ble u 9223372036854775807 with
    | false=>rw [hb] at h;cases h
    | true=>
      rw [hb] at h
      have hu:u≤9223372036854775807:=Nat.le_of_ble_eq_true hb
      refine ⟨by omega,by omega,?_⟩
      unfold Lib.itoa
      rw [if_pos (by omega)]
      simp only [cond_true] at h
      split at h
      · rename_i l' hl
        cases h
        have:(Int.negSucc u).natAbs=u+1:=rfl
        rw [this,digF_ok hl]
      · cases h
noncomputable def itoaK:List D→Option D
  | [.s (.int .i64 n)]=>match itoaL n with
    | some l=>some (S ⟨l.toArray⟩)
    | none=>none
  | _=>none
theorem itoaK_ok {args:List D} {r:D} (h:itoaK args=some r):PCall Tryz.prog 109 args r:=by
  unfold itoaK at h
  split at h
  · rename_i n
    split at h
    · rename_i l hl
      cases h
      obtain ⟨h1,h2,h3⟩:=itoaL_ok hl
      have:=k109 h1 h2
      rw [h3] at this
      exact this
    · cases h
  · cases h
noncomputable def ctxE (kn:List (Nat×List D×D)):Ctx:={
  tab:=tabL Tryz.prog ids
  known:=fun f args=>match knownL kn f args with
    | some r=>some r
    | none=>bif Nat.beq f 183 then joinK args else bif Nat.beq f 109 then itoaK args else none
  knownA:=fun f args m nx=>bif Nat.beq f 249 then copyK args m nx else none
  deep:=[16,21,51,183] }
theorem ctx_ok {kn:List (Nat×List D×D)} (h:∀ e∈kn,PCall Tryz.prog e.1 e.2.1 e.2.2):CtxOk Tryz.prog (ctxE kn):=⟨mix_ok,tabL_ok ids_ok,fun f args r hr=>by
    simp only [ctxE] at hr
    split at hr
    · rename_i r' hk
      cases hr
      exact knownL_ok h f args _ hk
    · cases hf:Nat.beq f 183 with
      | false=>
        rw [hf] at hr
        cases hf2:Nat.beq f 109 with
        | false=>rw [hf2] at hr;cases hr
        | true=>
          rw [hf2] at hr
          rw [Nat.eq_of_beq_eq_true hf2]
          exact itoaK_ok hr
      | true=>
        rw [hf] at hr
        rw [Nat.eq_of_beq_eq_true hf]
        exact joinK_ok hr,fun f args m nx y m' nx' hr=>by
    simp only [ctxE] at hr
    cases hf:Nat.beq f 249 with
    | false=>rw [hf] at hr;cases hr
    | true=>
      rw [hf] at hr
      rw [Nat.eq_of_beq_eq_true hf]
      exact copyK_ok hr⟩
noncomputable abbrev evE (kn:List (Nat×List D×D)):Ev:=evC Tryz.prog (ctxE kn) 3000
abbrev prE (kn:List (Nat×List D×D)) (f:Nat) (args:List D) (r:D):Prop:=pureE Tryz.prog (ctxE kn) (evE kn) f args=some (.inl r)
theorem pcE {kn:List (Nat×List D×D)} (hk:∀ e∈kn,PCall Tryz.prog e.1 e.2.1 e.2.2) {f:Nat} {args:List D} {r:D} (h:prE kn f args r) (ht:args.all (trB depth)=true):PCall Tryz.prog f args r:=pcall_ev (ctx_ok hk) 3000 h ht
end Go.Proofs.Tryz.K
end
