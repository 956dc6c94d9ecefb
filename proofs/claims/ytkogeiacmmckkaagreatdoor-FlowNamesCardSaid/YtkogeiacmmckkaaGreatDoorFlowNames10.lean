/- Part 10. -/
import Derived.Test.YtkogeiacmmckkaaGreatDoorFlowNames9
set_option linter.all false
set_option maxHeartbeats 0
set_option maxRecDepth 10000
noncomputable section
section
open Go Go.Proofs List
namespace Go.Abs
open Go.Proofs.Tryz
section
def ajA:prog.follows .mixedOrders=true:=kr
def Hp:List D->Option (List ByteArray)
 |[]=>some []
 | .s (.string b)::l=>match Hp l with
  |some bs=>some (b::bs)
  |none=>none
 |_=>none
def V0:∀ {cs:List D} {l:List ByteArray},Hp cs=some l->cs=l.map S
 |[],l,h=>by simp[Hp,aY] at h;subst h;rfl
 |d::cs,l,h=>by
  unfold Hp at h;split at h
  .rename_i C;cases C
  .rename_i b cs' C;cases C;split at h
   .rename_i bs hb;cases h;rw[V0 hb];rfl
   .cases h
  .cases h
def QF:List D->Option D
 |[.sl cs n,.s (.string sep)]=>match Hp cs with
  |some l=>bif Nat.beq l.length n&&(Nat.ble l.length 140737488355328&&Nat.ble (Lib.join (l.map (·.data.toList)) sep.data.toList).length 140737488355328) then some (S (ZE l sep)) else none
  |none=>none
 |_=>none
variable{args:List D}{r:D}
def ahk(h:QF args=some r):aE prog 183 args r:=by
 unfold QF at h;split at h
 .rename_i cs n sep;split at h
  .rename_i l hl;cases hc:(Nat.beq l.length n&&(Nat.ble l.length 140737488355328&&Nat.ble (Lib.join (l.map (·.data.toList)) sep.data.toList).length 140737488355328)) with
   |false=>rw[hc] at h;cases h
   |true=>
    rw[hc] at h;cases h;simp only[aH,Nat.ble_eq] at hc;have:=aqp (l:=l) (sep:=sep) hc.2.1 hc.2.2;rw[V0 hl, <- Nat.eq_of_beq_eq_true hc.1];exact this
  .cases h
 .cases h
def ZF(i:Nat)(m:T Row)(nx:Nat):Option qF:=match m.get i with
 |some (.bs _ x T)=>bif Nat.beq T 158||Nat.beq T 160 then match m.put i (some (.bs true x T)) with
  |some m'=>some (.inl (.bu []),m',nx)
  |none=>none
  else none
 |_=>none
def QG(args:List D)(m:T Row)(nx:Nat):Option qF:=match args with
 |[.rp i 0]=>ZF i m nx
 |_=>none
def ahl{P:Program}{f:FuncId}{m M:Mem}{nx N:Nat}(h:iZ P f args m nx λd m' aw=>d=r/\m'=M/\aw=N):ZC P [] f args m nx (.inl r) M N:=
 ⟨h.1,λF β w vs _ hm hn hR=>(h.2 F β w vs hm hn hR).mono λe w' ⟨v,d,m',aw,β',he,⟨hd,J,C⟩,h1,h2,h3,h4,h5,h6⟩=>by
  subst hd J C
  exact⟨β',⟨v,he,h3⟩,h1,h2,h4,h5,h6⟩⟩
set_option maxRecDepth 100000 in
def ahm{m m':T Row}{nx aw:Nat}{y:D ⊕ List PanicEntry}(h:QG args m nx=some (y,m',aw)):ZC prog [] 249 args (bt m) nx y (bt m') aw:=by
 unfold QG at h;split at h
 .rename_i i;unfold ZF at h;split at h
  .rename_i u x T hm;cases C:(Nat.beq T 158||Nat.beq T 160) with
   |false=>rw[C] at h;cases h
   |true=>
    rw[C] at h;simp only[cond_true] at h;split at h
    .rename_i O J;cases h;rw[Bk J];refine ahl (aoy (show bt m i=some (.bs u x T) from hm) ?_);simp only[Bool.or_eq_true] at C;rcases C with e|e
     .have e:=Nat.eq_of_beq_eq_true e;subst e;exact aid
     .have e:=Nat.eq_of_beq_eq_true e;subst e;exact aie
    .cases h
  .cases h
 .cases h
def H2:Nat->Nat->Option (List UInt8)
 |0,_=>none
 |n+1,u=>bif Nat.blt u 10 then some [UInt8.ofNat (48+u)] else match H2 n (u / 10) with
  |some l=>some (l++[UInt8.ofNat (48+u % 10)])
  |none=>none
def O5:∀ {n u:Nat} {l:List UInt8},H2 n u=some l->Lib.decDigits u=l
 |0,u,l,h=>by cases h
 |n+1,u,l,h=>by
  simp only[H2] at h;rw[Lib.decDigits];cases hb:Nat.blt u 10 with
  |true=>
   rw[hb] at h;cases h;rw[dif_pos (by simpa using hb)]
  |false=>
   rw[hb] at h
   rw[dif_neg (fun h=>by have:Nat.blt u 10=true:=by simpa using h
                         rw[this] at hb;cases hb)]
   simp only[cond_false] at h;split at h
   .rename_i C hl;cases h;rw[O5 hl]
   .cases h
def Lj:Int->Option (List UInt8)
 | .ofNat u=>bif Nat.ble u 9223372036854775807 then H2 20 u else none
 | .negSucc u=>bif Nat.ble u 9223372036854775807 then(match H2 20 (u+1) with
  |some l=>some (45::l)
  |none=>none) else none
def ahn{n:Int}{l:List UInt8}(h:Lj n=some l): -9223372036854775808<=n/\n<=9223372036854775807/\Lib.itoa n=l:=by
 cases n with
 |ofNat u=>
  simp[Lj] at h;cases hb:Nat.ble u 9223372036854775807 with
  |false=>rw[hb] at h;cases h
  |true=>
   rw[hb] at h;have hu:u<=9223372036854775807:=aP hb;have h1:Int.ofNat u=(u:Int):=rfl;refine⟨oG,oG,?_⟩;rw[Lib.itoa,ai oG];exact O5 h
 |negSucc u=>
  simp[Lj] at h;cases hb:Nat.ble u 9223372036854775807 with
  |false=>rw[hb] at h;cases h
  |true=>
   rw[hb] at h;have hu:u<=9223372036854775807:=aP hb;refine⟨oG,oG,?_⟩;rw[Lib.itoa,bi oG];simp[cond_true] at h;split at h
   .rename_i C hl;cases h;have:(Int.negSucc u).natAbs=u+1:=rfl;rw[this,O5 hl]
   .cases h
def QH:List D->Option D
 |[.s (.int .i64 n)]=>match Lj n with
  |some l=>some (S ⟨l.toArray⟩)
  |none=>none
 |_=>none
def aho(h:QH args=some r):aE prog 109 args r:=by
 unfold QH at h;split at h
 .rename_i n;split at h
  .rename_i l hl;cases h;let⟨h1,h2,C⟩:=ahn hl;have:=aqq h1 h2;rw[C] at this;exact this
  .cases h
 .cases h
def yM(C:List (Nat×List D×D)):Ctx:={
 jk:=LB prog ids
 known:=λf args=>match KG C f args with
  |some r=>some r
  |none=>bif Nat.beq f 183 then QF args else bif Nat.beq f 109 then QH args else none
 GX:=λf args m nx=>bif Nat.beq f 249 then QG args m nx else none
 deep:=[16,21,51,183] }
def PL{J:List (Nat×List D×D)}(h:∀ e∈J,aE prog e.1 e.2.1 e.2.2):ss prog (yM J):=⟨ajA,WL XY,λf args r hr=>by
 simp[yM] at hr;split at hr
 .rename_i r' hk;cases hr;exact UE h f args _ hk
 .cases hf:Nat.beq f 183 with
  |false=>
   rw[hf] at hr;cases C:Nat.beq f 109 with
   |false=>rw[C] at hr;cases hr
   |true=>
    rw[C] at hr;rw[Nat.eq_of_beq_eq_true C];exact aho hr
  |true=>
   rw[hf] at hr;rw[Nat.eq_of_beq_eq_true hf];exact ahk hr,λf args m nx y m' aw hr=>by
 simp[yM] at hr;cases hf:Nat.beq f 249 with
 |false=>rw[hf] at hr;cases hr
 |true=>
  rw[hf] at hr;rw[Nat.eq_of_beq_eq_true hf]
  exact ahm hr⟩
abbrev IX(C:List (Nat×List D×D)):Ev:=mi prog (yM C) 3000
abbrev Dd(C:List (Nat×List D×D))(f:Nat)(args:List D)(r:D):Prop:=yk prog (yM C) (IX C) f args=some (.inl r)
def MK{C:List (Nat×List D×D)}(hk:∀ e∈C,aE prog e.1 e.2.1 e.2.2){f:Nat}(h:Dd C f args r)(ht:args.all (qG depth)=true):aE prog f args r:=pS (PL hk) 3000 h ht
end
end Go.Abs
end
end
