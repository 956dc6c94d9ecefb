/- Part 11. -/
import Derived.Test.YtnagfmlifobdiaaGreatDoorShareShapes6
import Derived.Test.YtnagfmlifobdiaaGreatDoorShareShapes8
import Derived.Test.YtnagfmlifobdiaaGreatDoorShareShapes10
set_option linter.all false
section
open Go Go.Abs Go.Proofs Go.Argus
namespace Go.Proofs.Tryz.K
theorem ahS:prog.follows .mixedOrders=true:=kr
noncomputable def ER:List D->Option (List ByteArray)
 |[]=>some []
 | .s (.string b)::l=>match ER l with
  |some bs=>some (b::bs)
  |none=>none
 |_=>none
theorem TS:∀ {cs:List D} {l:List ByteArray},ER cs=some l->cs=l.map S
 |[],l,h=>by simp only[ER,aV] at h;subst h;rfl
 |d::cs,l,h=>by
  unfold ER at h;split at h
  .rename_i C;cases C
  .rename_i b cs' C;cases C;split at h
   .rename_i bs hb;cases h;rw[TS hb];rfl
   .cases h
  .cases h
noncomputable def Ol:List D->Option D
 |[.sl cs n,.s (.string sep)]=>match ER cs with
  |some l=>bif Nat.beq l.length n&&(Nat.ble l.length 140737488355328&&Nat.ble (Lib.join (l.map (·.data.toList)) sep.data.toList).length 140737488355328) then some (S (jY l sep)) else none
  |none=>none
 |_=>none
theorem afi{args:List D}{r:D}(h:Ol args=some r):az prog 199 args r:=by
 unfold Ol at h;split at h
 .rename_i cs n sep;split at h
  .rename_i l hl;cases hc:(Nat.beq l.length n&&(Nat.ble l.length 140737488355328&&Nat.ble (Lib.join (l.map (·.data.toList)) sep.data.toList).length 140737488355328)) with
   |false=>rw[hc] at h;cases h
   |true=>
    rw[hc] at h;cases h;simp only[aB,Nat.ble_eq] at hc;have:=Ju (l:=l) (sep:=sep) hc.2.1 hc.2.2;rw[TS hl, <- Nat.eq_of_beq_eq_true hc.1];exact this
  .cases h
 .cases h
noncomputable def Xv(i:Nat)(m:T Row)(nx:Nat):Option tL:=match m.get i with
 |some (.bs _ x T)=>bif Nat.beq T 183||Nat.beq T 213 then match m.put i (some (.bs true x T)) with
  |some m'=>some (.inl (.bd []),m',nx)
  |none=>none
  else none
 |_=>none
noncomputable def Om(args:List D)(m:T Row)(nx:Nat):Option tL:=match args with
 |[.rp i 0]=>Xv i m nx
 |_=>none
theorem afj{P:Program}{f:FuncId}{args:List D}{m M:Mem}{nx N:Nat}{r:D}(h:gW P f args m nx fun d m' aD=>d=r/\m'=M/\aD=N):ZC P [] f args m nx (.inl r) M N:=
 ⟨h.1,fun F β w vs _ hm hn hR=>(h.2 F β w vs hm hn hR).mono fun e w' ⟨v,d,m',aD,β',he,⟨hd,J,C⟩,h1,h2,h3,h4,h5,h6⟩=>by
  subst hd J C
  exact⟨β',⟨v,he,h3⟩,h1,h2,h4,h5,h6⟩⟩
set_option maxRecDepth 100000 in
theorem afk{args:List D}{m m':T Row}{nx aD:Nat}{y:D ⊕ List PanicEntry}(h:Om args m nx=some (y,m',aD)):ZC prog [] 160 args (bE m) nx y (bE m') aD:=by
 unfold Om at h;split at h
 .rename_i i;unfold Xv at h;split at h
  .rename_i u x T hm;cases C:(Nat.beq T 183||Nat.beq T 213) with
   |false=>rw[C] at h;cases h
   |true=>
    rw[C] at h;simp only[cond_true] at h;split at h
    .rename_i M J;cases h;rw[Br J];refine afj (X6 (show bE m i=some (.bs u x T) from hm) ?_);simp only[Bool.or_eq_true] at C;rcases C with e|e
     .have e:=Nat.eq_of_beq_eq_true e;subst e;exact agl
     .have e:=Nat.eq_of_beq_eq_true e;subst e;exact UK
    .cases h
  .cases h
 .cases h
noncomputable def Fy:Nat->Nat->Option (List UInt8)
 |0,_=>none
 |n+1,u=>bif Nat.blt u 10 then some [UInt8.ofNat (48+u)] else match Fy n (u / 10) with
  |some l=>some (l++[UInt8.ofNat (48+u % 10)])
  |none=>none
theorem MI:∀ {n u:Nat} {l:List UInt8},Fy n u=some l->Lib.decDigits u=l
 |0,u,l,h=>by cases h
 |n+1,u,l,h=>by
  simp only[Fy] at h;rw[Lib.decDigits];cases hb:Nat.blt u 10 with
  |true=>
   rw[hb] at h;cases h;rw[dif_pos (by simpa using hb)]
  |false=>
   rw[hb] at h
   rw[dif_neg (fun h=>by have:Nat.blt u 10=true:=by simpa using h
                         rw[this] at hb;cases hb)]
   simp only[cond_false] at h;split at h
   .rename_i C hl;cases h;rw[MI hl]
   .cases h
noncomputable def Jf:Int->Option (List UInt8)
 | .ofNat u=>bif Nat.ble u 9223372036854775807 then Fy 20 u else none
 | .negSucc u=>bif Nat.ble u 9223372036854775807 then(match Fy 20 (u+1) with
  |some l=>some (45::l)
  |none=>none) else none
theorem afl{n:Int}{l:List UInt8}(h:Jf n=some l): -9223372036854775808<=n/\n<=9223372036854775807/\Lib.itoa n=l:=by
 cases n with
 |ofNat u=>
  simp only[Jf] at h;cases hb:Nat.ble u 9223372036854775807 with
  |false=>rw[hb] at h;cases h
  |true=>
   rw[hb] at h;have hu:u<=9223372036854775807:=bt hb;have h1:Int.ofNat u=(u:Int):=rfl;refine⟨oG,oG,?_⟩;unfold Lib.itoa;rw[if_neg oG];exact MI h
 |negSucc u=>
  simp only[Jf] at h;cases hb:Nat.ble u 9223372036854775807 with
  |false=>rw[hb] at h;cases h
  |true=>
   rw[hb] at h;have hu:u<=9223372036854775807:=bt hb;refine⟨oG,oG,?_⟩;unfold Lib.itoa;rw[if_pos oG];simp only[cond_true] at h;split at h
   .rename_i C hl;cases h;have:(Int.negSucc u).natAbs=u+1:=rfl;rw[this,MI hl]
   .cases h
noncomputable def On:List D->Option D
 |[.s (.int .i64 n)]=>match Jf n with
  |some l=>some (S ⟨l.toArray⟩)
  |none=>none
 |_=>none
theorem afm{args:List D}{r:D}(h:On args=some r):az prog 145 args r:=by
 unfold On at h;split at h
 .rename_i n;split at h
  .rename_i l hl;cases h;obtain⟨h1,h2,C⟩:=afl hl;have:=O9 h1 h2;rw[C] at this;exact this
  .cases h
 .cases h
noncomputable def Fz(C:List (Nat×List D×D)):Ctx:={
 lH:=Jr prog ids
 known:=fun f args=>match IE C f args with
  |some r=>some r
  |none=>bif Nat.beq f 199 then Ol args else bif Nat.beq f 145 then On args else none
 Ew:=fun f args m nx=>bif Nat.beq f 160 then Om args m nx else none
 deep:=[30,63,111,199] }
theorem ahT{J:List (Nat×List D×D)}(h:∀ e∈J,az prog e.1 e.2.1 e.2.2):yk prog (Fz J):=⟨ahS,UG VV,fun f args r hr=>by
 simp only[Fz] at hr;split at hr
 .rename_i r' hk;cases hr;exact Sx h f args _ hk
 .cases hf:Nat.beq f 199 with
  |false=>
   rw[hf] at hr;cases C:Nat.beq f 145 with
   |false=>rw[C] at hr;cases hr
   |true=>
    rw[C] at hr;rw[Nat.eq_of_beq_eq_true C];exact afm hr
  |true=>
   rw[hf] at hr;rw[Nat.eq_of_beq_eq_true hf];exact afi hr,fun f args m nx y m' aD hr=>by
 simp only[Fz] at hr;cases hf:Nat.beq f 160 with
 |false=>rw[hf] at hr;cases hr
 |true=>
  rw[hf] at hr;rw[Nat.eq_of_beq_eq_true hf]
  exact afk hr⟩
noncomputable abbrev evE(C:List (Nat×List D×D)):Ev:=lu prog (Fz C) 3000
abbrev xC(C:List (Nat×List D×D))(f:Nat)(args:List D)(r:D):Prop:=wv prog (Fz C) (evE C) f args=some (.inl r)
theorem KH{C:List (Nat×List D×D)}(hk:∀ e∈C,az prog e.1 e.2.1 e.2.2){f:Nat}{args:List D}{r:D}(h:xC C f args r)(ht:args.all (rm depth)=true):az prog f args r:=oz (ahT hk) 3000 h ht
end Go.Proofs.Tryz.K
end
