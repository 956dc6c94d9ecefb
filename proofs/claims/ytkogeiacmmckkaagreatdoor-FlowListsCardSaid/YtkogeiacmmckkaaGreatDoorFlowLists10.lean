/- Part 10. -/
import Derived.Test.YtkogeiacmmckkaaGreatDoorFlowLists8
import Derived.Test.YtkogeiacmmckkaaGreatDoorFlowLists9
set_option linter.all false
section
open Go Go.Abs Go.Proofs Go.Argus
namespace Go.Proofs.Tryz.K
theorem acG:prog.follows .mixedOrders=true:=kr
noncomputable def Df:List D->Option (List ByteArray)
 |[]=>some []
 | .s (.string b)::l=>match Df l with
  |some bs=>some (b::bs)
  |none=>none
 |_=>none
theorem QG:∀ {cs:List D} {l:List ByteArray},Df cs=some l->cs=l.map S
 |[],l,h=>by simp only[Df,aK] at h;subst h;rfl
 |d::cs,l,h=>by
  unfold Df at h;split at h
  .rename_i C;cases C
  .rename_i b cs' C;cases C;split at h
   .rename_i bs hb;cases h;rw[QG hb];rfl
   .cases h
  .cases h
noncomputable def LP:List D->Option D
 |[.sl cs n,.s (.string sep)]=>match Df cs with
  |some l=>bif Nat.beq l.length n&&(Nat.ble l.length 140737488355328&&Nat.ble (Lib.join (l.map (·.data.toList)) sep.data.toList).length 140737488355328) then some (S (T8 l sep)) else none
  |none=>none
 |_=>none
theorem aaE{args:List D}{r:D}(h:LP args=some r):ax prog 183 args r:=by
 unfold LP at h;split at h
 .rename_i cs n sep;split at h
  .rename_i l hl;cases hc:(Nat.beq l.length n&&(Nat.ble l.length 140737488355328&&Nat.ble (Lib.join (l.map (·.data.toList)) sep.data.toList).length 140737488355328)) with
   |false=>rw[hc] at h;cases h
   |true=>
    rw[hc] at h;cases h;simp only[ay,Nat.ble_eq] at hc;have:=aih (l:=l) (sep:=sep) hc.2.1 hc.2.2;rw[QG hl, <- Nat.eq_of_beq_eq_true hc.1];exact this
  .cases h
 .cases h
noncomputable def T9(i:Nat)(m:T Row)(nx:Nat):Option nP:=match m.get i with
 |some (.bs _ x T)=>bif Nat.beq T 158||Nat.beq T 160 then match m.put i (some (.bs true x T)) with
  |some m'=>some (.inl (.bp []),m',nx)
  |none=>none
  else none
 |_=>none
noncomputable def LQ(args:List D)(m:T Row)(nx:Nat):Option nP:=match args with
 |[.rp i 0]=>T9 i m nx
 |_=>none
theorem aaF{P:Program}{f:FuncId}{args:List D}{m M:Mem}{nx N:Nat}{r:D}(h:ji P f args m nx fun d m' aA=>d=r/\m'=M/\aA=N):ZC P [] f args m nx (.inl r) M N:=
 ⟨h.1,fun F β w vs _ hm hn hR=>(h.2 F β w vs hm hn hR).mono fun e w' ⟨v,d,m',aA,β',he,⟨hd,J,C⟩,h1,h2,h3,h4,h5,h6⟩=>by
  subst hd J C
  exact⟨β',⟨v,he,h3⟩,h1,h2,h4,h5,h6⟩⟩
set_option maxRecDepth 100000 in
theorem aaG{args:List D}{m m':T Row}{nx aA:Nat}{y:D ⊕ List PanicEntry}(h:LQ args m nx=some (y,m',aA)):ZC prog [] 249 args (aW m) nx y (aW m') aA:=by
 unfold LQ at h;split at h
 .rename_i i;unfold T9 at h;split at h
  .rename_i u x T hm;cases C:(Nat.beq T 158||Nat.beq T 160) with
   |false=>rw[C] at h;cases h
   |true=>
    rw[C] at h;simp only[cond_true] at h;split at h
    .rename_i M J;cases h;rw[xJ J];refine aaF (agP (show aW m i=some (.bs u x T) from hm) ?_);simp only[Bool.or_eq_true] at C;rcases C with e|e
     .have e:=Nat.eq_of_beq_eq_true e;subst e;exact abw
     .have e:=Nat.eq_of_beq_eq_true e;subst e;exact abx
    .cases h
  .cases h
 .cases h
noncomputable def DM:Nat->Nat->Option (List UInt8)
 |0,_=>none
 |n+1,u=>bif Nat.blt u 10 then some [UInt8.ofNat (48+u)] else match DM n (u / 10) with
  |some l=>some (l++[UInt8.ofNat (48+u % 10)])
  |none=>none
theorem Kk:∀ {n u:Nat} {l:List UInt8},DM n u=some l->Lib.decDigits u=l
 |0,u,l,h=>by cases h
 |n+1,u,l,h=>by
  simp only[DM] at h;rw[Lib.decDigits];cases hb:Nat.blt u 10 with
  |true=>
   rw[hb] at h;cases h;rw[dif_pos (by simpa using hb)]
  |false=>
   rw[hb] at h
   rw[dif_neg (fun h=>by have:Nat.blt u 10=true:=by simpa using h
                         rw[this] at hb;cases hb)]
   simp only[cond_false] at h;split at h
   .rename_i C hl;cases h;rw[Kk hl]
   .cases h
noncomputable def G7:Int->Option (List UInt8)
 | .ofNat u=>bif Nat.ble u 9223372036854775807 then DM 20 u else none
 | .negSucc u=>bif Nat.ble u 9223372036854775807 then(match DM 20 (u+1) with
  |some l=>some (45::l)
  |none=>none) else none
theorem aaH{n:Int}{l:List UInt8}(h:G7 n=some l): -9223372036854775808<=n/\n<=9223372036854775807/\Lib.itoa n=l:=by
 cases n with
 |ofNat u=>
  simp only[G7] at h;cases hb:Nat.ble u 9223372036854775807 with
  |false=>rw[hb] at h;cases h
  |true=>
   rw[hb] at h;have hu:u<=9223372036854775807:=bg hb;have h1:Int.ofNat u=(u:Int):=rfl;refine⟨oG,oG,?_⟩;unfold Lib.itoa;rw[if_neg oG];exact Kk h
 |negSucc u=>
  simp only[G7] at h;cases hb:Nat.ble u 9223372036854775807 with
  |false=>rw[hb] at h;cases h
  |true=>
   rw[hb] at h;have hu:u<=9223372036854775807:=bg hb;refine⟨oG,oG,?_⟩;unfold Lib.itoa;rw[if_pos oG];simp only[cond_true] at h;split at h
   .rename_i C hl;cases h;have:(Int.negSucc u).natAbs=u+1:=rfl;rw[this,Kk hl]
   .cases h
noncomputable def LR:List D->Option D
 |[.s (.int .i64 n)]=>match G7 n with
  |some l=>some (S ⟨l.toArray⟩)
  |none=>none
 |_=>none
theorem aaI{args:List D}{r:D}(h:LR args=some r):ax prog 109 args r:=by
 unfold LR at h;split at h
 .rename_i n;split at h
  .rename_i l hl;cases h;obtain⟨h1,h2,C⟩:=aaH hl;have:=aii h1 h2;rw[C] at this;exact this
  .cases h
 .cases h
noncomputable def uK(C:List (Nat×List D×D)):Ctx:={
 gM:=Hn prog ids
 known:=fun f args=>match Gu C f args with
  |some r=>some r
  |none=>bif Nat.beq f 183 then LP args else bif Nat.beq f 109 then LR args else none
 CE:=fun f args m nx=>bif Nat.beq f 249 then LQ args m nx else none
 deep:=[16,21,51,183] }
theorem KX{J:List (Nat×List D×D)}(h:∀ e∈J,ax prog e.1 e.2.1 e.2.2):o7 prog (uK J):=⟨acG,Rv SE,fun f args r hr=>by
 simp only[uK] at hr;split at hr
 .rename_i r' hk;cases hr;exact Ps h f args _ hk
 .cases hf:Nat.beq f 183 with
  |false=>
   rw[hf] at hr;cases C:Nat.beq f 109 with
   |false=>rw[C] at hr;cases hr
   |true=>
    rw[C] at hr;rw[Nat.eq_of_beq_eq_true C];exact aaI hr
  |true=>
   rw[hf] at hr;rw[Nat.eq_of_beq_eq_true hf];exact aaE hr,fun f args m nx y m' aA hr=>by
 simp only[uK] at hr;cases hf:Nat.beq f 249 with
 |false=>rw[hf] at hr;cases hr
 |true=>
  rw[hf] at hr;rw[Nat.eq_of_beq_eq_true hf]
  exact aaG hr⟩
noncomputable abbrev EH(C:List (Nat×List D×D)):Ev:=jW prog (uK C) 3000
abbrev zH(C:List (Nat×List D×D))(f:Nat)(args:List D)(r:D):Prop:=uq prog (uK C) (EH C) f args=some (.inl r)
theorem Im{C:List (Nat×List D×D)}(hk:∀ e∈C,ax prog e.1 e.2.1 e.2.2){f:Nat}{args:List D}{r:D}(h:zH C f args r)(ht:args.all (nQ depth)=true):ax prog f args r:=mX (KX hk) 3000 h ht
end Go.Proofs.Tryz.K
end
