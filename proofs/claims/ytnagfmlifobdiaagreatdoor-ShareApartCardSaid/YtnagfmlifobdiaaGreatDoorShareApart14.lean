/- Part 14. -/
import Derived.Test.YtnagfmlifobdiaaGreatDoorShareApart7
import Derived.Test.YtnagfmlifobdiaaGreatDoorShareApart10
set_option linter.all false
set_option maxHeartbeats 0
set_option maxRecDepth 10000
noncomputable section
section
open Go Go.Proofs List
namespace Go.Abs
open Go.Proofs.Tryz
section
def aph:prog.follows .mixedOrders=true:=kr
def Ji:List D->Option (List ByteArray)
 |[]=>some []
 | .s (.string b)::l=>match Ji l with
  |some bs=>some (b::bs)
  |none=>none
 |_=>none
def ZI:∀ {cs:List D} {l:List ByteArray},Ji cs=some l->cs=l.map S
 |[],l,h=>by simp[Ji,bg] at h;subst h;rfl
 |d::cs,l,h=>by
  unfold Ji at h;split at h
  .rename_i C;cases C
  .rename_i b cs' C;cases C;split at h
   .rename_i bs hb;cases h;rw[ZI hb];rfl
   .cases h
  .cases h
def TH:List D->Option D
 |[.sl cs n,.s (.string sep)]=>match Ji cs with
  |some l=>bif Nat.beq l.length n&&(Nat.ble l.length 140737488355328&&Nat.ble (Lib.join (l.map (·.data.toList)) sep.data.toList).length 140737488355328) then some (S (DE l sep)) else none
  |none=>none
 |_=>none
variable{args:List D}{r:D}
def amv(h:TH args=some r):aH prog 199 args r:=by
 unfold TH at h;split at h
 .rename_i cs n sep;split at h
  .rename_i l hl;cases hc:(Nat.beq l.length n&&(Nat.ble l.length 140737488355328&&Nat.ble (Lib.join (l.map (·.data.toList)) sep.data.toList).length 140737488355328)) with
   |false=>rw[hc] at h;cases h
   |true=>
    rw[hc] at h;cases h;simp only[aJ,Nat.ble_eq] at hc;have:=NS (l:=l) (sep:=sep) hc.2.1 hc.2.2;rw[ZI hl, <- Nat.eq_of_beq_eq_true hc.1];exact this
  .cases h
 .cases h
def adr(i:Nat)(m:T Row)(nx:Nat):Option xR:=match m.get i with
 |some (.bs _ x T)=>bif Nat.beq T 183||Nat.beq T 213 then match m.put i (some (.bs true x T)) with
  |some m'=>some (.inl (.bu []),m',nx)
  |none=>none
  else none
 |_=>none
def TI(args:List D)(m:T Row)(nx:Nat):Option xR:=match args with
 |[.rp i 0]=>adr i m nx
 |_=>none
def amw{P:Program}{f:FuncId}{m M:Mem}{nx N:Nat}(h:js P f args m nx λd m' nx'=>d=r/\m'=M/\nx'=N):ZC P [] f args m nx (.inl r) M N:=
 ⟨h.1,λF β w vs _ hm hn hR=>(h.2 F β w vs hm hn hR).mono λe w' ⟨v,d,m',nx',β',he,⟨hd,J,C⟩,h1,h2,h3,h4,h5,h6⟩=>by
  subst hd J C
  exact⟨β',⟨v,he,h3⟩,h1,h2,h4,h5,h6⟩⟩
set_option maxRecDepth 100000 in
def amx{m m':T Row}{nx nx':Nat}{y:D ⊕ List PanicEntry}(h:TI args m nx=some (y,m',nx')):ZC prog [] 160 args (cv m) nx y (cv m') nx':=by
 unfold TI at h;split at h
 .rename_i i;unfold adr at h;split at h
  .rename_i u x T hm;cases C:(Nat.beq T 183||Nat.beq T 213) with
   |false=>rw[C] at h;cases h
   |true=>
    rw[C] at h;simp only[cond_true] at h;split at h
    .rename_i M J;cases h;rw[Fm J];refine amw (adV (show cv m i=some (.bs u x T) from hm) ?_);simp only[Bool.or_eq_true] at C;rcases C with e|e
     .have e:=Nat.eq_of_beq_eq_true e;subst e;exact anF
     .have e:=Nat.eq_of_beq_eq_true e;subst e;exact aaE
    .cases h
  .cases h
 .cases h
def JS:Nat->Nat->Option (List UInt8)
 |0,_=>none
 |n+1,u=>bif Nat.blt u 10 then some [UInt8.ofNat (48+u)] else match JS n (u / 10) with
  |some l=>some (l++[UInt8.ofNat (48+u % 10)])
  |none=>none
def RV:∀ {n u:Nat} {l:List UInt8},JS n u=some l->Lib.decDigits u=l
 |0,u,l,h=>by cases h
 |n+1,u,l,h=>by
  simp only[JS] at h;rw[Lib.decDigits];cases hb:Nat.blt u 10 with
  |true=>
   rw[hb] at h;cases h;rw[dif_pos (by simpa using hb)]
  |false=>
   rw[hb] at h
   rw[dif_neg (fun h=>by have:Nat.blt u 10=true:=by simpa using h
                         rw[this] at hb;cases hb)]
   simp only[cond_false] at h;split at h
   .rename_i C hl;cases h;rw[RV hl]
   .cases h
def NC:Int->Option (List UInt8)
 | .ofNat u=>bif Nat.ble u 9223372036854775807 then JS 20 u else none
 | .negSucc u=>bif Nat.ble u 9223372036854775807 then(match JS 20 (u+1) with
  |some l=>some (45::l)
  |none=>none) else none
def amy{n:Int}{l:List UInt8}(h:NC n=some l): -9223372036854775808<=n/\n<=9223372036854775807/\Lib.itoa n=l:=by
 cases n with
 |ofNat u=>
  simp[NC] at h;cases hb:Nat.ble u 9223372036854775807 with
  |false=>rw[hb] at h;cases h
  |true=>
   rw[hb] at h;have hu:u<=9223372036854775807:=bL hb;have h1:Int.ofNat u=(u:Int):=rfl;refine⟨oG,oG,?_⟩;rw[Lib.itoa,ai oG];exact RV h
 |negSucc u=>
  simp[NC] at h;cases hb:Nat.ble u 9223372036854775807 with
  |false=>rw[hb] at h;cases h
  |true=>
   rw[hb] at h;have hu:u<=9223372036854775807:=bL hb;refine⟨oG,oG,?_⟩;rw[Lib.itoa,bi oG];simp[cond_true] at h;split at h
   .rename_i C hl;cases h;have:(Int.negSucc u).natAbs=u+1:=rfl;rw[this,RV hl]
   .cases h
def TJ:List D->Option D
 |[.s (.int .i64 n)]=>match NC n with
  |some l=>some (S ⟨l.toArray⟩)
  |none=>none
 |_=>none
def amz(h:TJ args=some r):aH prog 145 args r:=by
 unfold TJ at h;split at h
 .rename_i n;split at h
  .rename_i l hl;cases h;let⟨h1,h2,C⟩:=amy hl;have:=Us h1 h2;rw[C] at this;exact this
  .cases h
 .cases h
def JT(C:List (Nat×List D×D)):Ctx:={
 nR:=NO prog ids
 known:=λf args=>match MW C f args with
  |some r=>some r
  |none=>bif Nat.beq f 199 then TH args else bif Nat.beq f 145 then TJ args else none
 IJ:=λf args m nx=>bif Nat.beq f 160 then TI args m nx else none
 deep:=[30,63,111,199] }
def api{J:List (Nat×List D×D)}(h:∀ e∈J,aH prog e.1 e.2.1 e.2.2):BJ prog (JT J):=⟨aph,aaA abQ,λf args r hr=>by
 simp[JT] at hr;split at hr
 .rename_i r' hk;cases hr;exact Yc h f args _ hk
 .cases hf:Nat.beq f 199 with
  |false=>
   rw[hf] at hr;cases C:Nat.beq f 145 with
   |false=>rw[C] at hr;cases hr
   |true=>
    rw[C] at hr;rw[Nat.eq_of_beq_eq_true C];exact amz hr
  |true=>
   rw[hf] at hr;rw[Nat.eq_of_beq_eq_true hf];exact amv hr,λf args m nx y m' nx' hr=>by
 simp[JT] at hr;cases hf:Nat.beq f 160 with
 |false=>rw[hf] at hr;cases hr
 |true=>
  rw[hf] at hr;rw[Nat.eq_of_beq_eq_true hf]
  exact amx hr⟩
abbrev evE(C:List (Nat×List D×D)):Ev:=nu prog (JT C) 3000
abbrev A8(C:List (Nat×List D×D))(f:Nat)(args:List D)(r:D):Prop:=Ak prog (JT C) (evE C) f args=some (.inl r)
def Px{C:List (Nat×List D×D)}(hk:∀ e∈C,aH prog e.1 e.2.1 e.2.2){f:Nat}(h:A8 C f args r)(ht:args.all (uK depth)=true):aH prog f args r:=rk (api hk) 3000 h ht
end
end Go.Abs
end
end
