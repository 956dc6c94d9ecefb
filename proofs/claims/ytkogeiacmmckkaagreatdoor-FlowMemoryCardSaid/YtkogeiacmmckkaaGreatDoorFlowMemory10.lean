/- Part 10. -/
import Derived.Test.YtkogeiacmmckkaaGreatDoorFlowMemory8
import Derived.Test.YtkogeiacmmckkaaGreatDoorFlowMemory9
set_option linter.all false
section
open Go Go.Abs Go.Proofs Go.Argus
namespace Go.Proofs.Tryz.K
theorem adW:prog.follows .mixedOrders=true:=kr
noncomputable def Ct:List D->Option (List ByteArray)
 |[]=>some []
 | .s (.string b)::l=>match Ct l with
  |some bs=>some (b::bs)
  |none=>none
 |_=>none
theorem Qx:∀ {cs:List D} {l:List ByteArray},Ct cs=some l->cs=l.map S
 |[],l,h=>by simp only[Ct,aH] at h;subst h;rfl
 |d::cs,l,h=>by
  unfold Ct at h;split at h
  .rename_i C;cases C
  .rename_i b cs' C;cases C;split at h
   .rename_i bs hb;cases h;rw[Qx hb];rfl
   .cases h
  .cases h
noncomputable def Lj:List D->Option D
 |[.sl cs n,.s (.string sep)]=>match Ct cs with
  |some l=>bif Nat.beq l.length n&&(Nat.ble l.length 140737488355328&&Nat.ble (Lib.join (l.map (·.data.toList)) sep.data.toList).length 140737488355328) then some (S (xV l sep)) else none
  |none=>none
 |_=>none
theorem abN{args:List D}{r:D}(h:Lj args=some r):aG prog 183 args r:=by
 unfold Lj at h;split at h
 .rename_i cs n sep;split at h
  .rename_i l hl;cases hc:(Nat.beq l.length n&&(Nat.ble l.length 140737488355328&&Nat.ble (Lib.join (l.map (·.data.toList)) sep.data.toList).length 140737488355328)) with
   |false=>rw[hc] at h;cases h
   |true=>
    rw[hc] at h;cases h;simp only[aw,Nat.ble_eq] at hc;have:=G4 (l:=l) (sep:=sep) hc.2.1 hc.2.2;rw[Qx hl, <- Nat.eq_of_beq_eq_true hc.1];exact this
  .cases h
 .cases h
noncomputable def T'(i:Nat)(m:T Row)(nx:Nat):Option ni:=match m.get i with
 |some (.bs _ x T)=>bif Nat.beq T 158||Nat.beq T 160 then match m.put i (some (.bs true x T)) with
  |some m'=>some (.inl (.aT []),m',nx)
  |none=>none
  else none
 |_=>none
noncomputable def Lk(args:List D)(m:T Row)(nx:Nat):Option ni:=match args with
 |[.rp i 0]=>T' i m nx
 |_=>none
theorem abO{P:Program}{f:FuncId}{args:List D}{m M:Mem}{nx N:Nat}{r:D}(h:dB P f args m nx fun d m' an=>d=r/\m'=M/\an=N):ZC P [] f args m nx (.inl r) M N:=
 ⟨h.1,fun F β w vs _ hm hn hR=>(h.2 F β w vs hm hn hR).mono fun e w' ⟨v,d,m',an,β',he,⟨hd,J,C⟩,h1,h2,h3,h4,h5,h6⟩=>by
  subst hd J C
  exact⟨β',⟨v,he,h3⟩,h1,h2,h4,h5,h6⟩⟩
set_option maxRecDepth 100000 in
theorem abP{args:List D}{m m':T Row}{nx an:Nat}{y:D ⊕ List PanicEntry}(h:Lk args m nx=some (y,m',an)):ZC prog [] 249 args (aQ m) nx y (aQ m') an:=by
 unfold Lk at h;split at h
 .rename_i i;unfold T' at h;split at h
  .rename_i u x T hm;cases C:(Nat.beq T 158||Nat.beq T 160) with
   |false=>rw[C] at h;cases h
   |true=>
    rw[C] at h;simp only[cond_true] at h;split at h
    .rename_i O J;cases h;rw[w9 J];refine abO (UR (show aQ m i=some (.bs u x T) from hm) ?_);simp only[Bool.or_eq_true] at C;rcases C with e|e
     .have e:=Nat.eq_of_beq_eq_true e;subst e;exact acD
     .have e:=Nat.eq_of_beq_eq_true e;subst e;exact Rp
    .cases h
  .cases h
 .cases h
noncomputable def CY:Nat->Nat->Option (List UInt8)
 |0,_=>none
 |n+1,u=>bif Nat.blt u 10 then some [UInt8.ofNat (48+u)] else match CY n (u / 10) with
  |some l=>some (l++[UInt8.ofNat (48+u % 10)])
  |none=>none
theorem JR:∀ {n u:Nat} {l:List UInt8},CY n u=some l->Lib.decDigits u=l
 |0,u,l,h=>by cases h
 |n+1,u,l,h=>by
  simp only[CY] at h;rw[Lib.decDigits];cases hb:Nat.blt u 10 with
  |true=>
   rw[hb] at h;cases h;rw[dif_pos (by simpa using hb)]
  |false=>
   rw[hb] at h
   rw[dif_neg (fun h=>by have:Nat.blt u 10=true:=by simpa using h
                         rw[this] at hb;cases hb)]
   simp only[cond_false] at h;split at h
   .rename_i C hl;cases h;rw[JR hl]
   .cases h
noncomputable def GB:Int->Option (List UInt8)
 | .ofNat u=>bif Nat.ble u 9223372036854775807 then CY 20 u else none
 | .negSucc u=>bif Nat.ble u 9223372036854775807 then(match CY 20 (u+1) with
  |some l=>some (45::l)
  |none=>none) else none
theorem abQ{n:Int}{l:List UInt8}(h:GB n=some l): -9223372036854775808<=n/\n<=9223372036854775807/\Lib.itoa n=l:=by
 cases n with
 |ofNat u=>
  simp only[GB] at h;cases hb:Nat.ble u 9223372036854775807 with
  |false=>rw[hb] at h;cases h
  |true=>
   rw[hb] at h;have hu:u<=9223372036854775807:=bf hb;have h1:Int.ofNat u=(u:Int):=rfl;refine⟨oG,oG,?_⟩;unfold Lib.itoa;rw[if_neg oG];exact JR h
 |negSucc u=>
  simp only[GB] at h;cases hb:Nat.ble u 9223372036854775807 with
  |false=>rw[hb] at h;cases h
  |true=>
   rw[hb] at h;have hu:u<=9223372036854775807:=bf hb;refine⟨oG,oG,?_⟩;unfold Lib.itoa;rw[if_pos oG];simp only[cond_true] at h;split at h
   .rename_i C hl;cases h;have:(Int.negSucc u).natAbs=u+1:=rfl;rw[this,JR hl]
   .cases h
noncomputable def Ll:List D->Option D
 |[.s (.int .i64 n)]=>match GB n with
  |some l=>some (S ⟨l.toArray⟩)
  |none=>none
 |_=>none
theorem abR{args:List D}{r:D}(h:Ll args=some r):aG prog 109 args r:=by
 unfold Ll at h;split at h
 .rename_i n;split at h
  .rename_i l hl;cases h;obtain⟨h1,h2,C⟩:=abQ hl;have:=Ms h1 h2;rw[C] at this;exact this
  .cases h
 .cases h
noncomputable def tR(C:List (Nat×List D×D)):Ctx:={
 fH:=GU prog ids
 known:=fun f args=>match FR C f args with
  |some r=>some r
  |none=>bif Nat.beq f 183 then Lj args else bif Nat.beq f 109 then Ll args else none
 B9:=fun f args m nx=>bif Nat.beq f 249 then Lk args m nx else none
 deep:=[16,21,51,183] }
theorem Kz{J:List (Nat×List D×D)}(h:∀ e∈J,aG prog e.1 e.2.1 e.2.2):oE prog (tR J):=⟨adW,Rk Sk,fun f args r hr=>by
 simp only[tR] at hr;split at hr
 .rename_i r' hk;cases hr;exact Pn h f args _ hk
 .cases hf:Nat.beq f 183 with
  |false=>
   rw[hf] at hr;cases C:Nat.beq f 109 with
   |false=>rw[C] at hr;cases hr
   |true=>
    rw[C] at hr;rw[Nat.eq_of_beq_eq_true C];exact abR hr
  |true=>
   rw[hf] at hr;rw[Nat.eq_of_beq_eq_true hf];exact abN hr,fun f args m nx y m' an hr=>by
 simp only[tR] at hr;cases hf:Nat.beq f 249 with
 |false=>rw[hf] at hr;cases hr
 |true=>
  rw[hf] at hr;rw[Nat.eq_of_beq_eq_true hf]
  exact abP hr⟩
noncomputable abbrev DU(C:List (Nat×List D×D)):Ev:=jv prog (tR C) 3000
abbrev zb(C:List (Nat×List D×D))(f:Nat)(args:List D)(r:D):Prop:=tA prog (tR C) (DU C) f args=some (.inl r)
theorem H2{C:List (Nat×List D×D)}(hk:∀ e∈C,aG prog e.1 e.2.1 e.2.2){f:Nat}{args:List D}{r:D}(h:zb C f args r)(ht:args.all (nj depth)=true):aG prog f args r:=mu (Kz hk) 3000 h ht
end Go.Proofs.Tryz.K
end
