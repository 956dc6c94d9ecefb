/- Part 5 of the proof; the last part says what is proved. -/
import Derived.Test.YtkogeiacmmckkaaGreatDoorFlowReads4
import Derived.Laws.BytesArg
import Derived.Laws.Concat
import Derived.Lib.UnsafeStr
set_option linter.all false
namespace Go.Abs
section
variable {P:Program} {F:Nat→Prop} {m:Mem} {nx:Nat} {β:Pla} {w w':World}
theorem rl_bytes:∀ {l:List Int} {c:List Value},Rl F β w (bytesD l) c→c=l.map (Value.int .u8)
  | [],[],_=>rfl
  | [],_::_,h=>by have:=h.1;simp [bytesD] at this
  | _::_,[],h=>by have:=h.1;simp [bytesD] at this
  | n::l,v::c,h=>by
    have h0:=(h.2 0 _ v rfl rfl).1.s_inv.1
    have ih:=rl_bytes (l:=l) (c:=c) ⟨by have:=h.1;simp [bytesD] at this ⊢;omega,fun k d u hk hu=>h.2 (k+1) d u (by simpa [bytesD] using hk) (by simpa using hu)⟩
    rw [h0,ih];rfl
theorem mkStr_fold (l:List Int):l.foldl (fun r n=>r.push (UInt8.ofNat n.toNat)) ByteArray.empty=mkStr l:=by
  rw [foldl_push_bytes]
  simp [mkStr,ByteArray.empty,ByteArray.emptyWithCapacity]
  rfl
theorem run_str {src dst:TypeId} (hs:u8T P src) (hd:stT P dst=true) {b o cap:Nat} {l:List Int} (h:Rd F β w b o (bytesD l)):(convert src dst (.slice (some ⟨b,o,none⟩) l.length cap)).run P w=.ok (.string (mkStr l)) w:=by
  obtain ⟨c,h1,h2⟩:=h.vals
  have hc:=rl_bytes h1
  subst hc
  have hl:(loadCells ⟨b,o,none⟩ l.length).run P w=.ok (l.map (Value.int .u8)).toArray w:=by
    have:=run_loadCells_list (P:=P) w ⟨b,o,none⟩ (l.map (Value.int .u8)) h2
    simpa using this
  rw [run_convert_bytes_string w src dst _ _ _ _ (slT_spec hs.1).1 hs.2.1 (stT_spec hd),run_bytesToString w _ l.length cap l hl,mkStr_fold]
theorem run_str0 {src dst:TypeId} (hs:u8T P src) (hd:stT P dst=true) (a:Option Addr) (cap:Nat):(convert src dst (.slice a 0 cap)).run P w=.ok (.string (mkStr [])) w:=by
  rw [run_convert_bytes_string w src dst _ _ _ _ (slT_spec hs.1).1 hs.2.1 (stT_spec hd)]
  cases a with
  | none=>rfl
  | some a=>
    have hl:(loadCells a 0).run P w=.ok (([]:List Int).map (Value.int .u8)).toArray w:=by simp [loadCells,loadCellsFrom]
    rw [run_bytesToString w a 0 cap [] hl,mkStr_fold]
theorem nops_strSl (hm:MSim P F m β w) {src dst:TypeId} {l:List Int} {v:Value} (hx:R F β w (.sl (bytesD l) l.length) v) (hs:u8T P src) (hd:stT P dst=true):
    OpS P F m nx β w { pre:=True,val:=.s (.string (mkStr l)) } (do Pure.pure (Next.value (← convert src dst v))):=by
  rcases hx.sl_inv with ⟨h1,h2,a,cap,rfl⟩ | ⟨b,o,cap,rfl,_,_,_,_,_,hrd⟩
  · have hl:l=[]:=List.eq_nil_of_length_eq_zero h2
    subst hl
    exact OpS.pure hm (run_str0 hs hd a cap) (.s _ rfl)
  · exact OpS.pure hm (run_str hs hd hrd) (.s _ rfl)
theorem nops_strRs (hm:MSim P F m β w) {src dst:TypeId} {l:List Int} {i off:Nat} {cs:List D} {e:TypeId} {v:Value} (hx:R F β w (.rs i off l.length) v) (hi:m i=some (.cells cs e)) (hl:(cs.drop off).take l.length=bytesD l) (hs:u8T P src) (hd:stT P dst=true) {rd:List Nat}:
    OpS P F m nx β w { pre:=True,val:=.s (.string (mkStr l)),rd:=rd } (do Pure.pure (Next.value (← convert src dst v))):=by
  rcases hx.rs_inv hm hi with ⟨h1,h2,h3,_,a,rfl⟩ | ⟨b,o,room,_,hrow,hcase⟩
  · have hl0:l=[]:=List.eq_nil_of_length_eq_zero h3
    subst hl0
    exact OpS.pure hm (run_str0 hs hd a 0) (.s _ rfl)
  · rcases hcase with ⟨h3,a,rfl⟩ | ⟨cap,rfl,_⟩
    · have hl0:l=[]:=List.eq_nil_of_length_eq_zero h3
      subst hl0
      exact OpS.pure hm (run_str0 hs hd a 0) (.s _ rfl)
    · have hrd:=(hrow.rd.1.drop off).take l.length
      rw [hl] at hrd
      exact OpS.pure hm (run_str hs hd hrd) (.s _ rfl)
theorem nops_rune (hm:MSim P F m β w) {src dst:TypeId} {k k':IntKind} {n:Int} {v:Value} (hx:R F β w (.s (.int k n)) v) (hs:P.underlying src=some (.int k')) (hd:stT P dst=true) (h0:0≤n) (h1:n<128):
    OpS P F m nx β w { pre:=True,val:=.s (.string (mkStr [n])) } (do Pure.pure (Next.value (← convert src dst v))):=by
  obtain ⟨rfl,_⟩:=hx.s_inv
  refine OpS.pure hm (v:=.string (mkStr [n])) ?_ (.s _ rfl)
  have hv:Utf8.encode n=mkStr [n]:=by
    have h2:n.toNat<128:=by omega
    have h3:Utf8.valid n=true:=by
      unfold Utf8.valid
      simp;omega
    unfold Utf8.encode
    simp only [h3,if_true,if_pos h2]
    simp [mkStr]
  simp [convert,run_underlying hs,run_underlying (stT_spec hd),Conv.intToString,hv]
theorem nops_cut (hm:MSim P F m β w) {t:TypeId} {es:List D} {n:Nat} {k k':IntKind} {v vh vc:Value} (hx:R F β w (.sl es n) v) (hh:R F β w (.s (.int k n)) vh) (hc:R F β w (.s (.int k' n)) vc) (ht:slT P t=true) (hn:n*P.cellsOf (elemP P t)=es.length):
    OpS P F m nx β w { pre:=True,val:=.sc es n } (do Pure.pure (Next.value (← Instr.sliceAt t v none (some vh) (some vc)))):=by
  obtain ⟨rfl,_⟩:=hh.s_inv
  obtain ⟨rfl,_⟩:=hc.s_inv
  obtain ⟨hu,he⟩:=slT_spec ht
  rcases hx.sl_inv with ⟨rfl,rfl,a,cap,rfl⟩ | ⟨b,o,cap,rfl,g1,g2,g3,g4,g5,hrd⟩
  · have hb:=slice3_run (P:=P) (w:=w) 0 cap (kh:=k) (km:=k') (lo:=none) (l:=0) (h:=0) (k:=0) (.inl ⟨rfl,rfl⟩) (by omega) (by omega) (by omega) (by omega)
    refine OpS.val hm (v:=.slice a 0 0) ?_ (.sc [] 0 a (.sln a 0))
    simp [sliceAt_slice hu,Instr.slice,run_underlying hu,hb,run_sizeOf' w (tyOk_info he)]
  · have hb:=slice3_run (P:=P) (w:=w) n cap (kh:=k) (km:=k') (lo:=none) (l:=0) (h:=n) (k:=n) (.inl ⟨rfl,rfl⟩) (by omega) (by omega) (by omega) (by omega)
    refine OpS.val hm (v:=.slice (if n=0 then some ⟨b,o,none⟩ else some ⟨b,o,none⟩) n n) ?_ ?_
    · simp [sliceAt_slice hu,Instr.slice,run_underlying hu,hb,run_sizeOf' w (tyOk_info he),Addr.add_lit]
    · obtain ⟨us,r1,r2⟩:=hrd
      simp only [ite_self]
      exact .sc es n _ (.sl es n b o n us g3 g4 g5 (Nat.le_refl _) (Nat.le_trans g1 g2) r1 r2)
theorem rl_str (b:ByteArray):Rl F β w (strD b) (Lib.strCells b):=by
  refine ⟨by simp [strD,Lib.strCells],fun k d u hk hu=>?_⟩
  simp only [strD,Lib.strCells,List.getElem?_map,Option.map_eq_some_iff] at hk hu
  obtain ⟨x,h1,rfl⟩:=hk
  obtain ⟨y,h2,rfl⟩:=hu
  rw [h1] at h2
  cases h2
  exact ⟨.s _ rfl,rfl⟩
theorem src_str {t u ty:TypeId} (ht:u8T P t) (hu:stT P u=true) (b:ByteArray):Src P w t u ty (elemP P t) (.string b) b.size (Lib.strCells b):=by
  obtain ⟨hsl,hok⟩:=slT_spec ht.1
  obtain ⟨i,d,z,hi,hd,hz,_,hzs,_,hsz,hb,_⟩:=tyOk_spec hok
  have hs1:i.size=1:=hsz.trans ht.2.2
  have hlen:=Lib.strCells_length b
  have hus:=stT_spec hu
  refine ⟨by rw [hlen,ht.2.2,Nat.mul_one],fun hk a0 n cap hle=>?_,fun hk a0 n cap olds z' hz' hol hcells h0 hnc hg hmax hby=>?_,fun hk g o n cap cur hcur hroom hfit hone=>?_⟩
  · have hf:=Lib.run_firstCells_string (P:=P) w 1 b
    have hb0:b=.empty:=by rw [ByteArray.size_eq_zero_iff] at hk;exact hk
    subst hb0
    cases a0<;>simp [Builtin.append_,run_underlying hsl,run_underlying hus,sizeOf,typeInfo,hi,Builtin.lenOf,hle,Builtin.firstCells,storeCells]
  · simp only [hi,Option.bind_some] at hz'
    rw [hz] at hz'
    cases hz'
    simp only [maxLen] at hmax
    cases a0 with
    | some ad=>exact Lib.run_append_grow_string (P:=P) w t u ty _ i z hsl hus hi hz ad n cap olds (by rw [hs1,hol,ht.2.2]) (hcells ad rfl) b hg (by omega) (growslice_fits (by omega) (by rw [hb];exact hby))
    | none=>
      obtain ⟨rfl,rfl⟩:=h0 rfl
      have:olds=[]:=List.eq_nil_of_length_eq_zero (by simpa using hol)
      subst this
      have:=run_append_nil_string (P:=P) (w:=w) t u ty _ i z hsl hus hi hz b hk (by omega) (by rw [hb];simp at hby;omega)
      simp only [Nat.zero_add]
      rw [this]
      simp only [Lib.strCells]
      congr 3
      apply Array.ext'
      simp
  · have hf:=Lib.run_firstCells_string (P:=P) w 1 b
    rw [ht.2.2,Nat.mul_one] at hfit ⊢
    have hst:=run_storeCells_at P g (o+n) (elemP P t) (Lib.strCells b) 0 cur w hcur (by simpa [hlen] using hfit) (Lib.strCells_oneCell b)
    simp only [Nat.add_zero] at hst
    simp [Builtin.append_,run_underlying hsl,run_underlying hus,sizeOf,typeInfo,hi,hs1,Builtin.lenOf,hroom,hf,Addr.add_lit,hst]
theorem nops_sdata (hm:MSim P F m β w) {ts:Array TypeId} {ty:TypeId} {i off n:Nat} {r:Row} {v:Value} (hx:R F β w (.rs i off n) v) (hi:m i=some r) (hn:0<n) {rd:List Nat}:
    OpS P F m nx β w { pre:=True,val:=.rp i off,rd:=rd } (do Pure.pure (Next.value (← Builtin.unsafeSliceData_ ts ty #[v]))):=by
  obtain ⟨p,hp,hrow⟩:=hm.row i _ hi
  cases hx with
  | rsd _ _ _ _ h _=>rw [h] at hp;cases hp;exact absurd rfl hrow.live
  | rsn _ a h=>omega
  | rsz _ _ a b o len room sz h=>omega
  | rs _ _ _ cap b o len room sz h h1 h2 h3 h4=>
    exact OpS.pure hm (Lib.run_unsafeSliceData_row w ts ty _ n cap (by omega)) (.rp i off b o len room sz h)
theorem nops_lenM (hm:MSim P F m β w) {t ty:TypeId} {i:Nat} {es:List (Value×D)} {v:Value} (hx:R F β w (.mp i) v) (hi:m i=some (.map es)) (ht:mapT P t=true) {rd:List Nat}:
    OpS P F m nx β w { pre:=True,val:=.s (.int .i64 es.length),rd:=rd } (do Pure.pure (Next.value (← Builtin.len_ #[t] ty #[v]))):=by
  obtain ⟨r,ms,clock,_,rfl,hb,hl,_⟩:=hx.mp_inv hm hi
  have L:=mapT_spec ht
  refine OpS.pure hm (v:=.int .i64 ms.size) ?_ (by rw [hl];exact .s _ rfl)
  simp [Builtin.len_,run_underlying L.1,run_getObj_map w r ms clock hb,goInt]
theorem liesAt_bytes_at {e:TypeId} (hc:P.cellsOf e=1) (count off n:Nat) (hn:off+n≤count):liesAt P P.depth e count off e n=true:=by
  have hd:P.depth=(2*(P.types.size+Made.depth)+1)+1:=rfl
  rw [hd]
  simp only [liesAt,Bool.or_eq_true]
  left
  rw [hd]
  simp [rowAt,hc,hn,sameLayout,Nat.mod_one]
theorem run_ustr (pt it ty e:TypeId) (hp:P.underlying pt=some (.pointer e)) (hc:P.cellsOf e=1) (g o cells:Nat) (hsh:w.shape? g=some (e,cells)) (l:List UInt8) (h0:l≠[]) (hn:o+l.length≤cells) (h63:l.length≤9223372036854775807)
    (hcell:∀ j x,l[j]? =some x→w.cell? ((⟨g,o,none⟩:Addr).add j)=some (.int .u8 x.toNat)) (k:IntKind):
    (Builtin.unsafeString_ #[pt,it] ty #[.pointer (some ⟨g,o,none⟩),.int k l.length]).run P w=.ok (.string ⟨l.toArray⟩) (w.freeze ⟨g,o,none⟩ l.length):=by
  have hl:l.length≠0:=by simpa using h0
  have hlb:=Lib.run_loadBytes (P:=P) w l ⟨g,o,none⟩ .empty hcell
  have hlies:=liesAt_bytes_at (P:=P) hc (cells / P.cellsOf e) o l.length (by rw [hc];simpa using hn)
  have h63':¬ (9223372036854775807:Int)<(l.length:Int):=by omega
  have hdef:Builtin.unsafeString_ #[pt,it] ty #[.pointer (some ⟨g,o,none⟩),.int k l.length]=
   (do
     let n ← asInt (.int k l.length)
     if n<0 then runtimePanic (.error "unsafe.String: len out of range")
     if n>IntKind.i64.max then unsupported (.unsafePointer "String: a length above the largest int")
     if n=0 then pure (.string .empty)
     else if ← variablesAt ⟨g,o,none⟩ (← elemOf pt) n.toNat then do
       let s ← loadBytes ⟨g,o,none⟩ .empty n.toNat
       freeze ⟨g,o,none⟩ n.toNat
       pure (.string s)
     else unsupported (.unsafePointer "String: not so many bytes at ptr")):=rfl
  rw [hdef]
  have hmax:IntKind.i64.max=9223372036854775807:=rfl
  have hneg:¬ (l.length:Int)<0:=by omega
  simp [asInt,asIntOf,hmax,h63',hneg,hl,variablesAt,hsh,elemOf,run_underlying hp,hlies,hlb]
theorem freeze_other (w:World) (a:Addr) (n k:Nat) (h:k≠a.block):(w.freeze a n).heap[k]? =w.heap[k]? :=by
  unfold World.freeze
  split
  · rfl
  · simp only [Array.getElem?_modify]
    rw [if_neg (fun e=>h e.symm)]
theorem freeze_size (w:World) (a:Addr) (n:Nat):(w.freeze a n).heap.size=w.heap.size:=by
  unfold World.freeze
  split
  · rfl
  · simp
theorem freeze_out (w:World) (a:Addr) (n:Nat):Out w (w.freeze a n):=by
  unfold World.freeze
  split<;>exact ⟨rfl,rfl⟩
theorem freeze_same (w:World) (a:Addr) (n b:Nat):SameB w (w.freeze a n) b:=by
  by_cases hb:b=a.block
  · subst hb
    unfold World.freeze
    split
    · exact SameB.refl w _
    · refine ⟨fun o u hu=>?_,fun ms c hm=>?_⟩
      · simp only [World.cell?,Array.getElem?_modify,if_true] at hu ⊢
        cases hh:w.heap[a.block]? with
        | none=>rw [hh] at hu;simp at hu
        | some ob=>
          rw [hh] at hu
          cases ob<;>simp_all
      · simp only [Array.getElem?_modify,if_true,hm,Option.map_some]
  · exact same_of (freeze_other w a n b hb)
theorem dead_frozen (hm:MSim P F m β w) {i:Nat} {p:Pl} {a:Addr} (hp:β i=some p) (hb:p.blk=some a.block) (n:Nat):
    MSim P F (up m i none) (up β i (some .dead)) (w.freeze a n)∧Step β w (up β i (some .dead)) (w.freeze a n):=by
  have hs0:=step_dead β w i
  have hm0:=hm.dead i
  have hw:=freeze_size w a n
  have ho:=freeze_other w a n
  have hs:Step β w (up β i (some .dead)) (w.freeze a n):=⟨by omega,fun k hk hf=>⟨ho k fun e=>hf i p hp (e▸hb),(hs0.imm k hk hf).2⟩,hs0.keep,freeze_out w a n,fun j r hj hj'=>skel_of (ho r fun e=>by
    have:=hm.inj j i _ p a.block hj hp (by simp [Pl.blk,e]) hb
    subst this
    rw [up_same] at hj'
    cases hj')⟩
  have hne:∀ j q,up β i (some .dead) j=some q→∀ c,q.blk=some c→c≠a.block:=fun j q hq c hc e=>by
    by_cases hj:j=i
    · subst hj
      rw [up_same] at hq
      cases hq
      simp [Pl.blk] at hc
    · rw [up_ne _ _ hj] at hq
      exact hm.free_other hp hb hq hj (e▸hc)
  refine ⟨⟨fun j r hj=>?_,hm0.inj,fun j q c hq hc=>by rw [hw];exact hm0.lt j q c hq hc,hm0.nf,hm0.fb.next (fun c hc=>by rw [hw];exact hm0.fb.lt c hc) (fun _ h=>h) fun t _ hF=>ho _ fun e=>hm.nf i p _ hp hb (e▸hF)⟩,hs⟩
  obtain ⟨q,hq,hrow⟩:=hm0.row j r hj
  exact ⟨q,hq,hrow.gen (by omega) (fun c _ hF hf=>⟨freeze_same w a n c,hf,hF⟩) (fun _ _ _ h=>.inl h) fun c hc=>ho c (hne j q hq c hc)⟩
theorem nops_ustr (hm:MSim P F m β w) {t u ty e:TypeId} {l:List Int} {i off:Nat} {cs:List D} {k:IntKind} {vp vn:Value} (hp:R F β w (.rp i off) vp) (hn:R F β w (.s (.int k l.length)) vn) (hi:m i=some (.cells cs e)) (hl:(cs.drop off).take l.length=bytesD l) (h0:l≠[])
    (ht:P.underlying t=some (.pointer e)) (he:P.cellsOf e=1) (hmax:l.length≤maxLen) (hr:∀ x∈l,0≤x∧x<256) {rd:List Nat}:
    OpS P F m nx β w { pre:=True,val:=.s (.string (mkStr l)),ups:=[(i,none)],rd:=rd } (do Pure.pure (Next.value (← Builtin.unsafeString_ #[t,u] ty #[vp,vn]))):=by
  obtain ⟨rfl,_⟩:=hn.s_inv
  obtain ⟨b,o,room,sz,hβ,rfl,hrow⟩:=hp.rp_inv hm hi
  obtain ⟨c,h1,h2⟩:=((hrow.rd.1.drop off).take l.length).vals
  rw [hl] at h1
  have hc:=rl_bytes h1
  subst hc
  cases hrow with
  | cells _ _ _ _ _ _ cc hcc hroom hlen hsz hh=>
  have hll:l.length≤cs.length - off:=by
    have:=congrArg List.length hl
    simp [bytesD] at this
    omega
  have hl0:0<l.length:=List.length_pos_iff.2 h0
  have hrun:=run_ustr (P:=P) (w:=w) t u ty e ht he b (o+off) cc.size (by simp [World.shape?,hcc]) (l.map fun n=>UInt8.ofNat n.toNat) (by simpa using h0) (by simp;omega) (by simp [maxLen] at hmax ⊢;omega) (fun j x hx=>by
    simp only [List.getElem?_map,Option.map_eq_some_iff] at hx
    obtain ⟨n,hn,rfl⟩:=hx
    have hb:=hr n (List.mem_of_getElem? hn)
    rw [h2 j (.int .u8 n) (by simp [hn])]
    have:(UInt8.ofNat n.toNat).toNat=n.toNat:=by simp;omega
    rw [this,Int.toNat_of_nonneg hb.1]) k
  simp only [List.length_map] at hrun
  obtain ⟨q1,q2⟩:=dead_frozen hm (a:=⟨b,o+off,none⟩) hβ rfl l.length
  refine ⟨_,.string (mkStr l),_,_,by simp only [Sem.run_bind,hrun,Result.andThen_ok,Sem.run_pure];rfl,.inl rfl,.s _ rfl,q1,q2,fun j hj _=>?_⟩
  rw [up_ne _ _ fun e=>by rw [e,hβ] at hj;cases hj]
  exact hj
theorem new_bs (hm:MSim P F m β w) (hn:β nx=none) {t:TypeId} {x:D} {v:Value} (hs:P.cellsOf t=2) (hx:R F β w x v) (h1:v.oneCell'=true):
    MSim P F (up m nx (some (.bs false x t))) (up β nx (some (.cells w.heap.size 0 2 2 2))) (w.alloc (.cells #[.pointer none,v] t))∧Step β w (up β nx (some (.cells w.heap.size 0 2 2 2))) (w.alloc (.cells #[.pointer none,v] t)):=by
  have hst:=step_alloc hm (.cells #[.pointer none,v] t) hn (.cells w.heap.size 0 2 2 2) (fun b hb=>by simp [Pl.blk] at hb;exact hb.symm)
  exact ⟨hm.alloc hn _ _ _ (fun b hb=>by simp [Pl.blk] at hb;exact hb.symm) (.bs false x t _ v (heap_alloc_new w _) hs (hx.step hst) h1),hst⟩
theorem nops_boxB (hm:MSim P F m β w) (hn:β nx=none) {t:TypeId} {c d:D} {v:Value} (hc:c.cells=[.s (.pointer none),d]) (hd:d.one=true) (hs:P.cellsOf t=2) (hx:R F β w c v):
    OpS P F m nx β w { pre:=True,val:=.rp nx 0,ups:=[(nx,some (.bs false d t))],new:=1 } (do Pure.pure (Next.value (← Instr.box t v))):=by
  have hall:c.cells.all D.one=true:=by rw [hc];simp only [List.all_cons,List.all_nil,hd];rfl
  obtain ⟨c1,c2,c3⟩:=hx.cells hall
  rw [hc] at c1 c2
  have h0:∃ u0 u1,v.cells= #[u0,u1]:=by
    obtain ⟨l,hl⟩:∃ l,v.cells=⟨l⟩:=⟨v.cells.toList,rfl⟩
    rw [hl] at c1 ⊢
    match l,c1 with
    | [a,b],_=>exact ⟨a,b,rfl⟩
  obtain ⟨u0,u1,hv⟩:=h0
  obtain ⟨q0,_⟩:=c2 0 (.s (.pointer none)) u0 rfl (by simp [hv])
  obtain ⟨q1,q2⟩:=c2 1 d u1 rfl (by simp [hv])
  obtain ⟨rfl,_⟩:=q0.s_inv
  obtain ⟨h2,h3⟩:=new_bs hm hn hs q1 q2
  refine ⟨_,_,_,_,by simp [Instr.box,newVar_run,hv];rfl,.inl rfl,?_,h2,h3,fresh_up⟩
  exact .rp nx 0 w.heap.size 0 _ _ _ (up_same _ _ _)
theorem nops_allocB (hm:MSim P F m β w) (hn:β nx=none) {t:TypeId} (ht:tyOk P t=true) (hz:zeroP P t=[.s (.pointer none),.z]):
    OpS P F m nx β w { pre:=True,val:=.rp nx 0,ups:=[(nx,some (.bs false .z t))],new:=1 } (do Pure.pure (Next.value (← Instr.alloc t true (.tuple #[])))):=by
  obtain ⟨z,hzr,hzs,h3,h4⟩:=run_zeroValue' (P:=P) w ht
  obtain ⟨c1,c2⟩:=zero_R (F:=F) (β:=β) (w:=w) h3 h4
  rw [hz] at c1 c2
  have h0:∃ u0 u1,z.cells= #[u0,u1]:=by
    obtain ⟨l,hl⟩:∃ l,z.cells=⟨l⟩:=⟨z.cells.toList,rfl⟩
    rw [hl] at c1 ⊢
    match l,c1 with
    | [a,b],_=>exact ⟨a,b,rfl⟩
  obtain ⟨u0,u1,hv⟩:=h0
  obtain ⟨q0,_⟩:=c2 0 (.s (.pointer none)) u0 rfl (by simp [hv])
  obtain ⟨q1,q2⟩:=c2 1 .z u1 rfl (by simp [hv])
  obtain ⟨rfl,_⟩:=q0.s_inv
  have hs:P.cellsOf t=2:=by rw [← hzs,hv];rfl
  obtain ⟨h5,h6⟩:=new_bs hm hn hs q1 q2
  refine ⟨_,_,_,_,by simp [Instr.alloc,hzr,newVar_run,hv];rfl,.inl rfl,?_,h5,h6,fresh_up⟩
  exact .rp nx 0 w.heap.size 0 _ _ _ (up_same _ _ _)
theorem bs_inv (hm:MSim P F m β w) {i off:Nat} {u:Bool} {x:D} {T:TypeId} {a:Value} (ha:R F β w (.rp i off) a) (hi:m i=some (.bs u x T)):
    ∃ b v,β i=some (.cells b 0 2 2 2)∧a=.pointer (some ⟨b,0+off,none⟩)∧w.heap[b]? =some (.cells #[.pointer (if u then some ⟨b,0,none⟩ else none),v] T (0,0))∧P.cellsOf T=2∧R F β w x v∧v.oneCell'=true:=by
  obtain ⟨p,hp,hrow⟩:=hm.row i _ hi
  cases hrow with
  | bs _ _ _ b v hb hs hx h1=>
  cases ha with
  | rpd _ _ _ h _=>rw [h] at hp;cases hp
  | rp _ _ b' o len room sz h=>
    rw [h] at hp
    cases hp
    exact ⟨b,v,h,rfl,hb,hs,hx,h1⟩
theorem nops_loadB (hm:MSim P F m β w) {t:TypeId} {i:Nat} {u:Bool} {x:D} {T:TypeId} {a:Value} (ha:R F β w (.rp i 1) a) (hi:m i=some (.bs u x T)) (ht:tyOk P t=true) (hg:aggP P t=false) {rd:List Nat}:
    OpS P F m nx β w { pre:=True,val:=x,rd:=rd } (do Pure.pure (Next.value (← Instr.loadAt t a))):=by
  obtain ⟨b,v,_,rfl,hb,_,hx,h1⟩:=bs_inv hm ha hi
  refine OpS.pure hm (v:=v) ?_ hx
  have hc:w.cell? ⟨b,0+1,none⟩=some v:=by simp [World.cell?,hb]
  simp [Instr.loadAt,Instr.sureAddr,loadVar,run_isAgg' w (tyOk_und ht),hg,hc]
theorem nops_storeB (hm:MSim P F m β w) {t:TypeId} {i:Nat} {u:Bool} {x d:D} {T:TypeId} {a y:Value} (ha:R F β w (.rp i 1) a) (hy:R F β w d y) (hi:m i=some (.bs u x T)) (ht:tyOk P t=true) (hg:aggP P t=false) (hd:d.one=true) {rd:List Nat}:
    OpS P F m nx β w { pre:=True,val:=.tup [],ups:=[(i,some (.bs u d T))],rd:=rd } (do Instr.storeAt t a y;Pure.pure Next.skip):=by
  obtain ⟨b,v,hβ,rfl,hb,hs,hx,h1⟩:=bs_inv hm ha hi
  have hy1:y.oneCell'=true:=hy.one hd
  obtain ⟨_,_,_,_,_,_,hc1,_⟩:=tyOk_spec ht
  have hcells:y.cells= #[y]:=by cases y<;>first | rfl | simp [Value.oneCell'] at hy1
  have hst:=run_storeCells_at P b 1 T [y] 0 #[.pointer (if u then some ⟨b,0,none⟩ else none),v] w hb (by simp) (by simpa using hy1)
  have hrun:(storeVar t ⟨b,0+1,none⟩ y).run P w=.ok () (w.setRow b #[.pointer (if u then some ⟨b,0,none⟩ else none),y]):=by
    simp only [storeVar]
    simp only [Nat.add_zero] at hst
    simp [run_sizeOf' w (tyOk_info ht),hc1 hg,hcells,hst]
  have hheap:=setRow_heap w b #[.pointer (if u then some ⟨b,0,none⟩ else none),v] #[.pointer (if u then some ⟨b,0,none⟩ else none),y] T (0,0) hb
  have ho:∀ k,k≠b→(w.setRow b #[.pointer (if u then some ⟨b,0,none⟩ else none),y]).heap[k]? =w.heap[k]? :=fun k hk=>setRow_other w b k _ hk
  have hsz:(w.setRow b #[.pointer (if u then some ⟨b,0,none⟩ else none),y]).heap.size=w.heap.size:=by simp
  have hstep:=step_write hm hβ rfl (by omega) ho
  have hm':=hm.write hβ rfl hsz ho (.bs u d T) (.bs u d T b y hheap hs (hy.step hstep) hy1)
  exact ⟨.skip,undef,_,β,by simp [Instr.storeAt,Instr.sureAddr,hrun],.inr ⟨rfl,rfl⟩,.tup [] [] rfl (by simp),hm',hstep,fun _ h _=>h⟩
theorem nops_slZ (hm:MSim P F m β w) {t:TypeId} {x:Value} {lo hi:Option Value} {l h:Option D} (hx:R F β w .z x) (hlo:bndD l 0=some 0) (hhi:bndD h 0=some 0) (hl:∀ d,l=some d→∃ v,lo=some v∧R F β w d v) (hl0:l=none→lo=none) (hh:∀ d,h=some d→∃ v,hi=some v∧R F β w d v) (hh0:h=none→hi=none) (ht:slT P t=true):
    OpS P F m nx β w { pre:=True,val:=.z } (do Pure.pure (Next.value (← Instr.sliceAt t x lo hi none))):=by
  rw [hx.z_eq]
  obtain ⟨hu,he⟩:=slT_spec ht
  have bnd:∀ {o:Option D} {y:Option Value},bndD o 0=some 0→(∀ d,o=some d→∃ v,y=some v∧R F β w d v)→(o=none→y=none)→(y=none∧(0:Int)=0)∨∃ kk,y=some (.int kk 0):=fun {o y} h1 h2 h3=>by
    cases o with
    | none=>exact .inl ⟨h3 rfl,rfl⟩
    | some d=>
      obtain ⟨v,rfl,hv⟩:=h2 d rfl
      right
      unfold bndD at h1
      simp only [D.int?] at h1
      split at h1
      · rename_i k n
        simp only [Option.some.injEq] at h1
        subst h1
        exact ⟨k,by rw [hv.s_inv.1]⟩
      · cases h1
  have hb:=slice2_run (P:=P) (w:=w) true 0 0 (l:=0) (h:=0) (bnd hlo hl hl0) (by simpa using bnd hhi hh hh0) (by omega) (by omega) (by omega)
  refine OpS.val hm (v:=.slice none 0 0) ?_ .z
  simp [sliceAt_slice hu,Instr.slice,run_underlying hu,hb,run_sizeOf' w (tyOk_info he)]
theorem nops_mkIf (hm:MSim P F m β w) {t:TypeId} {d:D} {v u:Value} (hd:keyV d=some v) (hv:plain (.iface t v)=true) (ht:ifT P t=true) (hu:R F β w d u):
    OpS P F m nx β w { pre:=True,val:=.s (.iface t v) } (do Pure.pure (Next.value (← Instr.makeInterface t u))):=by
  rw [keyV_R hd hu]
  refine OpS.pure hm (v:=.iface t v) ?_ (.s _ hv)
  unfold ifT at ht
  cases hh:P.underlying t with
  | none=>rw [hh] at ht;cases ht
  | some x=>
    rw [hh] at ht
    cases x<;>first | (cases ht;done) | simp [Instr.makeInterface,run_underlying hh]
theorem inD_R {v:Value} {t:TypeId} (h:plain (.iface t v)=true):R F β w (inD v) v:=by
  cases v with
  | agg cs=>
    refine .agg (cs.toList.map .s) cs.toList (by simp) fun k d u hd hu=>?_
    simp only [List.getElem?_map,hu,Option.map_some,Option.some.injEq] at hd
    subst hd
    have h1:=List.all_eq_true.1 h u (List.mem_of_getElem? hu)
    exact .s u (by cases u<;>first | exact h1 | (simp [plain1] at h1;done))
  | iface=>simp [plain] at h
  | _=>exact .s _ h
theorem nops_asrt (hm:MSim P F m β w) {u t:TypeId} {v x:Value} (hx:R F β w (.s v) x) (hv:ifV v=true) (ht:ifT P t=true) (ho:tyOk P t=true) (hz:zOk P t=true):
    OpS P F m nx β w { pre:=True,val:=asrtD P t v } (do Pure.pure (Next.value (← Instr.typeAssert x u t true))):=by
  obtain ⟨rfl,hp⟩:=hx.s_inv
  obtain ⟨z,hz1,hz2⟩:=zeroD_R (F:=F) (β:=β) (w:=w) ho hz
  have tup:∀ {a b:D} {y:Value} {g:Bool},R F β w a y→R F β w (.tup [a,.s (.bool g)]) (.tuple #[y,.bool g]):=fun {a b y g} h=>
    .tup [a,.s (.bool g)] [y,.bool g] rfl fun k d u hd hu=>by
      match k with
      | 0=>simp at hd hu;subst hd;subst hu;exact h
      | 1=>simp at hd hu;subst hd;subst hu;exact .s _ rfl
      | k+2=>simp at hd
  unfold ifT at ht
  cases hh:P.underlying t with
  | none=>rw [hh] at ht;cases ht
  | some q=>
    rw [hh] at ht
    have hq:∀ want,q≠ .interface want:=fun want e=>by rw [e] at ht;cases ht
    cases x with
    | iface k y=>
      by_cases hk:k=t
      · subst hk
        refine OpS.pure hm (v:=.tuple #[y,.bool true]) ?_ (by simp only [asrtD,if_true];exact tup (b:=.u) (inD_R hp))
        simp only [Instr.typeAssert,Sem.run_bind,run_underlying hh,Result.andThen_ok]
        cases q<;>first | exact absurd rfl (hq _) | simp
      · refine OpS.pure hm (v:=.tuple #[z,.bool false]) ?_ (by simp only [asrtD,if_neg hk];exact tup (b:=.u) hz2)
        simp only [Instr.typeAssert,Sem.run_bind,run_underlying hh,Result.andThen_ok]
        cases q<;>first | exact absurd rfl (hq _) | simp [hk,hz1]
    | nilIface=>
      refine OpS.pure hm (v:=.tuple #[z,.bool false]) ?_ (by simp only [asrtD];exact tup (b:=.u) hz2)
      simp only [Instr.typeAssert,Sem.run_bind,run_underlying hh,Result.andThen_ok]
      cases q<;>first | exact absurd rfl (hq _) | simp [hz1]
    | _=>cases hv
theorem nops_copy (hm:MSim P F m β w) {t ty:TypeId} {i off n k:Nat} {cs news:List D} {y:D} {p:Prop} {rd rd':List Nat} {a b:Value} (ha:R F β w (.rs i off n) a) (hi:m i=some (.cells cs (elemP P t))) (hb:R F β w y b) (hy:sliceCells m (P.cellsOf (elemP P t)) y=some (p,rd,k,news)) (hp:p)
    (ht:slT P t=true) (hk:k≤n) (hl:off+n*P.cellsOf (elemP P t)≤cs.length):
    OpS P F m nx β w { pre:=True,val:=.s (.int .i64 k),ups:=[(i,some (.cells (splice cs off news) (elemP P t)))],rd:=rd' } (do Pure.pure (Next.value (← Builtin.copy_ #[t,t] ty #[a,b]))):=by
  obtain ⟨hu,hok⟩:=slT_spec ht
  obtain ⟨a',cap',c,rfl,hcl,hcn,hca,hcz⟩:=slice_vals hm hb hy hp (fun _ _ _ _ _ _ _=>.inr trivial)
  have hnl:news.length=k*P.cellsOf (elemP P t):=by rw [← hcl.1,hcn]
  have hmin:Nat.min k n=k:=Nat.min_eq_left hk
  have hfc:(Builtin.firstCells (P.cellsOf (elemP P t)) k (.slice a' k cap')).run P w=.ok c.toArray w:=by
    cases a' with
    | none=>rw [run_firstCells_none,(hcz rfl).1]
    | some ad=>exact run_firstCells_some (cs:=c) (hl:=hcn) (h:=hca ad rfl) ..
  have hrun:∀ (a0:Option Addr) (cap:Nat) (w':World),(∀ ad,a0=some ad→(storeCells ad c).run P w=.ok () w')→(a0=none→w'=w)→(Builtin.copy_ #[t,t] ty #[.slice a0 n cap,.slice a' k cap']).run P w=.ok (.int .i64 k) w':=fun a0 cap w' h1 h2=>by
    cases a0 with
    | none=>rw [h2 rfl];simp [Builtin.copy_,Builtin.lenOf,run_underlying hu,run_sizeOf' w (tyOk_info hok),hmin,hfc,goInt]
    | some ad=>simp [Builtin.copy_,Builtin.lenOf,run_underlying hu,run_sizeOf' w (tyOk_info hok),hmin,hfc,goInt,h1 ad rfl]
  have hmem:up m i (some (.cells cs (elemP P t)))=m:=by
    funext j
    by_cases hj:j=i
    · subst hj;rw [up_same,hi]
    · rw [up_ne _ _ hj]
  have none_case:k=0→(∀ (a0:Option Addr) (cap:Nat),a=.slice a0 n cap→OpS P F m nx β w { pre:=True,val:=.s (.int .i64 k),ups:=[(i,some (.cells (splice cs off news) (elemP P t)))],rd:=rd' } (do Pure.pure (Next.value (← Builtin.copy_ #[t,t] ty #[a,.slice a' k cap'])))):=by
    rintro rfl a0 cap rfl
    have hc0:c=[]:=List.eq_nil_of_length_eq_zero (by rw [hcn];simp)
    have hn0:news=[]:=List.eq_nil_of_length_eq_zero (by rw [hnl];simp)
    subst hc0 hn0
    refine ⟨.value (.int .i64 0),_,w,β,?_,.inl rfl,.s _ rfl,?_,Step.refl β w,fun _ h _=>h⟩
    · rw [Sem.run_bind,hrun a0 cap w (fun ad _=>by simp [storeCells]) (fun _=>rfl)]
      rfl
    · have e:splice cs off []=cs:=by simp [splice]
      simp only [upds,e,hmem]
      exact hm
  rcases ha.rs_inv hm hi with ⟨_,_,hn0,_,a0,rfl⟩ | ⟨b',o,room,hβ,hrow,hcase⟩
  · subst hn0
    exact none_case (by omega) a0 0 rfl
  · rcases hcase with ⟨hn0,a0,rfl⟩ | ⟨cap,rfl,_⟩
    · subst hn0
      exact none_case (by omega) a0 0 rfl
    · have hle:news.length≤n*P.cellsOf (elemP P t):=by rw [hnl];exact Nat.mul_le_mul_right _ hk
      obtain ⟨w',hst,hm',hs⟩:=write_cells (P:=P) hm hβ hrow (off:=off) (ds:=news) (vs:=c) hcl.1 (by omega) (fun u hu=>by
        obtain ⟨j,hj⟩:=List.getElem?_of_mem hu
        have hjl:j<news.length:=by rw [← hcl.1];exact (List.getElem?_eq_some_iff.1 hj).1
        exact (hcl.2 j news[j] u (by simp [hjl]) hj).2) fun j d u hd hu=>(hcl.2 j d u hd hu).1
      refine ⟨.value (.int .i64 k),_,w',β,?_,.inl rfl,.s _ rfl,hm',hs,fun _ h _=>h⟩
      rw [Sem.run_bind,hrun _ cap w' (fun ad had=>by cases had;exact hst) (fun h=>by cases h)]
      rfl
theorem AopN.env {ρ ρ':Operand→D} {nx:Nat} {o:Op} {e:Eff} (hr:∀ x∈o.operands,ρ' x=ρ x) (h:AopN P ρ m nx o e):AopN P ρ' m nx o e:=by
  cases h with
  | add t p x y a b hx hy h=>exact .add t p x y a b ((hr x (by simp [Op.operands])).trans hx) ((hr y (by simp [Op.operands])).trans hy) h
  | strSl src dst x l hx hs hd=>exact .strSl src dst x l ((hr x (by simp [Op.operands])).trans hx) hs hd
  | strRs src dst x l i off cs e hx hi hl hs hd=>exact .strRs src dst x l i off cs e ((hr x (by simp [Op.operands])).trans hx) hi hl hs hd
  | rune src dst x k k' n hx hs hd h0 h1=>exact .rune src dst x k k' n ((hr x (by simp [Op.operands])).trans hx) hs hd h0 h1
  | cut t x h c es n k k' hx hh hc ht hn=>exact .cut t x h c es n k k' ((hr x (by simp [Op.operands])).trans hx) ((hr h (by simp [Op.operands])).trans hh) ((hr c (by simp [Op.operands])).trans hc) ht hn
  | appSc c s x t es news n k p rd hc hs hx hp ht hn hk hz hmx hb=>
    refine .appSc c s x t es news n k p rd hc ((hr s (by rw [hc];simp [Op.operands,Call.operands])).trans hs) ?_ hp ht hn hk hz hmx hb
    rw [hr x (by rw [hc];simp [Op.operands,Call.operands])];exact hx
  | appStrZ c s x t u b hc hs hx ht hu hmx hb=>exact .appStrZ c s x t u b hc ((hr s (by rw [hc];simp [Op.operands,Call.operands])).trans hs) ((hr x (by rw [hc];simp [Op.operands,Call.operands])).trans hx) ht hu hmx hb
  | appStr c s x t u b i off n cs hc hs hx hi ht hu hf hmx hb=>exact .appStr c s x t u b i off n cs hc ((hr s (by rw [hc];simp [Op.operands,Call.operands])).trans hs) ((hr x (by rw [hc];simp [Op.operands,Call.operands])).trans hx) hi ht hu hf hmx hb
  | lenM c x t i es hc hx hi ht=>exact .lenM c x t i es hc ((hr x (by rw [hc];simp [Op.operands,Call.operands])).trans hx) hi ht
  | sdata c s t i off n r hc hs hi hn=>exact .sdata c s t i off n r hc ((hr s (by rw [hc];simp [Op.operands,Call.operands])).trans hs) hi hn
  | ustr c p n t u e l i off cs k hc hp hn hi hl h0 ht he hmx hrr=>exact .ustr c p n t u e l i off cs k hc ((hr p (by rw [hc];simp [Op.operands,Call.operands])).trans hp) ((hr n (by rw [hc];simp [Op.operands,Call.operands])).trans hn) hi hl h0 ht he hmx hrr
  | allocB t hb ht hz=>exact .allocB t hb ht hz
  | boxB t x d hb hx hd hs=>exact .boxB t x d hb (by rw [hr x (by simp [Op.operands])];exact hx) hd hs
  | slZ t x lo hi hx hlo hhi ht=>
    refine .slZ t x lo hi ((hr x (by simp [Op.operands])).trans hx) ?_ ?_ ht
    · cases lo with
      | none=>exact hlo
      | some y=>simp only [Option.map_some] at hlo ⊢;rw [hr y (by simp [Op.operands])];exact hlo
    · cases hi with
      | none=>exact hhi
      | some y=>simp only [Option.map_some] at hhi ⊢;rw [hr y (by simp [Op.operands])];exact hhi
  | nilZ b op t p x hop hx ht=>exact .nilZ b op t p x hop ((hr x (by simp [Op.operands])).trans hx) ht
  | nilR b op t p x i off n cs e hop hx hi hn ht=>exact .nilR b op t p x i off n cs e hop ((hr x (by simp [Op.operands])).trans hx) hi hn ht
  | mkIf t x v hx hv ht=>exact .mkIf t x v (by rw [hr x (by simp [Op.operands])];exact hx) hv ht
  | asrt x u t v hx hv ht ho hz=>exact .asrt x u t v ((hr x (by simp [Op.operands])).trans hx) hv ht ho hz
  | copy c x y t i off n k cs news p rd hc hx hi hy hp ht hk hl=>
    refine .copy c x y t i off n k cs news p rd hc ((hr x (by rw [hc];simp [Op.operands,Call.operands])).trans hx) hi ?_ hp ht hk hl
    rw [hr y (by rw [hc];simp [Op.operands,Call.operands])];exact hy
  | loadB t a i u x T ha hi ht hg=>exact .loadB t a i u x T ((hr a (by simp [Op.operands])).trans ha) hi ht hg
  | storeB t a y i u x T ha hi ht hg hy=>
    rw [← hr y (by simp [Op.operands])]
    exact .storeB t a y i u x T ((hr a (by simp [Op.operands])).trans ha) hi ht hg (by rw [hr y (by simp [Op.operands])];exact hy)
theorem AopN.mem {ρ:Operand→D} {m':Mem} {nx:Nat} {o:Op} {e:Eff} (h:AopN P ρ m nx o e) (hr:∀ i∈e.rd,m i≠none→m' i=m i):AopN P ρ m' nx o e:=by
  cases h with
  | add t p x y a b hx hy h=>exact .add t p x y a b hx hy h
  | strSl src dst x l hx hs hd=>exact .strSl src dst x l hx hs hd
  | strRs src dst x l i off cs e hx hi hl hs hd=>exact .strRs src dst x l i off cs e hx ((hr i (by simp) (by simp [hi])).trans hi) hl hs hd
  | rune src dst x k k' n hx hs hd h0 h1=>exact .rune src dst x k k' n hx hs hd h0 h1
  | cut t x h c es n k k' hx hh hc ht hn=>exact .cut t x h c es n k k' hx hh hc ht hn
  | appSc c s x t es news n k p rd hc hs hx hp ht hn hk hz hmx hb=>
    refine .appSc c s x t es news n k p rd hc hs ?_ hp ht hn hk hz hmx hb
    revert hx
    unfold sliceCells
    split
    · exact id
    · exact id
    · intro hx
      split at hx
      · rename_i hm0
        cases hx
        rw [hr _ (by simp) (by simp [hm0]),hm0]
      · cases hx
    · exact id
  | appStrZ c s x t u b hc hs hx ht hu hmx hb=>exact .appStrZ c s x t u b hc hs hx ht hu hmx hb
  | appStr c s x t u b i off n cs hc hs hx hi ht hu hf hmx hb=>exact .appStr c s x t u b i off n cs hc hs hx ((hr i (by simp) (by simp [hi])).trans hi) ht hu hf hmx hb
  | lenM c x t i es hc hx hi ht=>exact .lenM c x t i es hc hx ((hr i (by simp) (by simp [hi])).trans hi) ht
  | sdata c s t i off n r hc hs hi hn=>exact .sdata c s t i off n r hc hs ((hr i (by simp) (by simp [hi])).trans hi) hn
  | ustr c p n t u e l i off cs k hc hp hn hi hl h0 ht he hmx hrr=>exact .ustr c p n t u e l i off cs k hc hp hn ((hr i (by simp) (by simp [hi])).trans hi) hl h0 ht he hmx hrr
  | allocB t hb ht hz=>exact .allocB t hb ht hz
  | boxB t x d hb hx hd hs=>exact .boxB t x d hb hx hd hs
  | slZ t x lo hi hx hlo hhi ht=>exact .slZ t x lo hi hx hlo hhi ht
  | nilZ b op t p x hop hx ht=>exact .nilZ b op t p x hop hx ht
  | nilR b op t p x i off n cs e hop hx hi hn ht=>exact .nilR b op t p x i off n cs e hop hx ((hr i (by simp) (by simp [hi])).trans hi) hn ht
  | mkIf t x v hx hv ht=>exact .mkIf t x v hx hv ht
  | asrt x u t v hx hv ht ho hz=>exact .asrt x u t v hx hv ht ho hz
  | copy c x y t i off n k cs news p rd hc hx hi hy hp ht hk hl=>
    refine .copy c x y t i off n k cs news p rd hc hx ((hr i (by simp) (by simp [hi])).trans hi) ?_ hp ht hk hl
    revert hy
    unfold sliceCells
    split
    · exact id
    · exact id
    · intro hx
      split at hx
      · rename_i hm0
        cases hx
        rw [hr _ (by simp) (by simp [hm0]),hm0]
      · cases hx
    · exact id
  | loadB t a i u x T ha hi ht hg=>exact .loadB t a i u x T ha ((hr i (by simp) (by simp [hi])).trans hi) ht hg
  | storeB t a y i u x T ha hi ht hg hy=>exact .storeB t a y i u x T ha ((hr i (by simp) (by simp [hi])).trans hi) ht hg hy
theorem AopN.pre {ρ:Operand→D} {nx:Nat} {o:Op} {e:Eff} (h:AopN P ρ m nx o e):e.pre:=by cases h<;>trivial
theorem AopN.defer {ρ:Operand→D} {nx:Nat} {o:Op} {e:Eff} (h:AopN P ρ m nx o e):∀ c,o≠ .defer c:=by cases h<;>simp
theorem AopN.tidy {ρ:Operand→D} {nx:Nat} {o:Op} {e:Eff} (h:AopN P ρ m nx o e):
    (∀ i∈e.ups.map (·.1),m i≠none∨(nx≤i∧i<nx+e.new))∧(kindO o=0→e.rd=[]∧e.ups=[])∧(kindO o=1→e.ups=[])∧(kindO o=3→e.rd=[]∧∀ i∈e.ups.map (·.1),nx≤i):=by
  cases h with
  | appSc c s x t es news n k p rd hc hs hx hp ht hn hk hz hmx hb=>rw [hc];simp [kindO]
  | appStrZ c s x t u b hc hs hx ht hu hmx hb=>rw [hc];simp [kindO]
  | appStr c s x t u b i off n cs hc hs hx hi ht hu hf hmx hb=>rw [hc];simp [kindO,hi]
  | lenM c x t i es hc hx hi ht=>rw [hc];simp [kindO]
  | sdata c s t i off n r hc hs hi hn=>rw [hc];simp [kindO]
  | ustr c p n t u e l i off cs k hc hp hn hi hl h0 ht he hmx hrr=>rw [hc];simp [kindO,hi]
  | storeB t a y i u x T ha hi ht hg hy=>simp [kindO,hi]
  | nilZ b op t p x hop hx ht=>subst hop;cases b<;>simp [kindO]
  | nilR b op t p x i off n cs e hop hx hi hn ht=>subst hop;cases b<;>simp [kindO]
  | copy c x y t i off n k cs news p rd hc hx hi hy hp ht hk hl=>rw [hc];simp [kindO,hi]
  | _=>simp [kindO]
theorem aopN_sound (hm:MSim P F m β w) {o:Oper} {env:Env} {a:Act} {e:Eff} (hn:e.new=1→β nx=none) (hE:ESim F β w env a) (ha:asks env o.op) (h:AopN P (rho env o.op) m nx o.op e):OpS P F m nx β w e (execOp a.eval o):=by
  obtain ⟨dst,op,type,pos,after,guard⟩:=o
  simp only at ha h
  have hR:(∀ c x y,op≠ .pick c x y)→∀ x∈op.operands.toList,R F β w (rho env op x) (a.eval x):=fun hnp x hx=>by
    have h1:rho env op x=(opd env x).core:=by cases op<;>first | rfl | exact absurd rfl (hnp _ _ _)
    have h2:(opd env x).ask:=by cases op<;>first | exact ha x hx | exact absurd rfl (hnp _ _ _)
    rw [h1]
    exact (hE.opd x).core_of _ h2
  have call:∀ (b:Builtin) (s x:Operand) (ts:Array TypeId) (q:Sem Next),op=.call { callee:=.builtin b,args:= #[s,x],argTypes:=ts }→(∀ cs,builtin b ts type cs #[a.eval s,a.eval x]=q)→OpS P F m nx β w e q→OpS P F m nx β w e (execOp a.eval ⟨dst,op,type,pos,after,guard⟩):=by
    intro b s x ts q ho hb hq
    subst ho
    obtain ⟨n,v,w',β',h1,h2⟩:=hq
    refine ⟨n,v,w',β',?_,h2⟩
    unfold execOp
    simp only [resolve,Sem.run_bind,Sem.run_pure,Result.andThen_ok,invoke]
    have e1:(#[s,x]:Array Operand).map a.eval= #[a.eval s,a.eval x]:=by simp
    rw [e1,hb]
    exact h1
  have call1:∀ (b:Builtin) (s:Operand) (ts:Array TypeId) (q:Sem Next),op=.call { callee:=.builtin b,args:= #[s],argTypes:=ts }→(∀ cs,builtin b ts type cs #[a.eval s]=q)→OpS P F m nx β w e q→OpS P F m nx β w e (execOp a.eval ⟨dst,op,type,pos,after,guard⟩):=by
    intro b s ts q ho hb hq
    subst ho
    obtain ⟨n,v,w',β',h1,h2⟩:=hq
    refine ⟨n,v,w',β',?_,h2⟩
    unfold execOp
    simp only [resolve,Sem.run_bind,Sem.run_pure,Result.andThen_ok,invoke]
    have e1:(#[s]:Array Operand).map a.eval= #[a.eval s]:=by simp
    rw [e1,hb]
    exact h1
  cases h with
  | add t p x y b c hx hy h=>
    have qx:=hR (by simp) x (by simp [Op.operands])
    have qy:=hR (by simp) y (by simp [Op.operands])
    rw [hx] at qx
    rw [hy] at qy
    obtain ⟨e1,_⟩:=qx.s_inv
    obtain ⟨e2,_⟩:=qy.s_inv
    unfold execOp
    refine OpS.val hm (v:=.string (b++c)) ?_ (.s _ rfl)
    simp only [e1,e2,Sem.run_bind,eqGuard_plain .add t x y (.string b) (.string c) (by simp) (by simp),Result.andThen_ok,binOp_string_add,run_string_add_sum w b c (by simp [maxLen] at h;omega),Sem.run_pure]
  | strSl src dst x l hx hs hd=>
    have qx:=hR (by simp) x (by simp [Op.operands])
    rw [hx] at qx
    exact nops_strSl hm qx hs hd
  | strRs src dst x l i off cs e hx hi hl hs hd=>
    have qx:=hR (by simp) x (by simp [Op.operands])
    rw [hx] at qx
    exact nops_strRs hm qx hi hl hs hd
  | rune src dst x k k' n hx hs hd h0 h1=>
    have qx:=hR (by simp) x (by simp [Op.operands])
    rw [hx] at qx
    exact nops_rune hm qx hs hd h0 h1
  | cut t x h c es n k k' hx hh hc ht hn'=>
    have qx:=hR (by simp) x (by simp [Op.operands])
    have qh:=hR (by simp) h (by simp [Op.operands])
    have qc:=hR (by simp) c (by simp [Op.operands])
    rw [hx] at qx
    rw [hh] at qh
    rw [hc] at qc
    exact nops_cut hm qx qh qc ht hn'
  | appSc c s x t es news n k p rd hc hs hx hp ht hn' hk hz hmx hb=>
    have qs:=hR (by simp) s (by rw [hc];simp [Op.operands,Call.operands])
    have qx:=hR (by simp) x (by rw [hc];simp [Op.operands,Call.operands])
    rw [hs] at qs
    obtain ⟨cc,hcl,X⟩:=src_slice (ty:=type) hm qx hx hp ht hz
    exact call .append s x _ _ (by rw [hc]) (fun _=>rfl) ((ops_appendG hm (hn rfl) hcl X (slT_spec ht).2 hz).2.1 es n qs hk hn' hmx hb)
  | appStrZ c s x t u b hc hs hx ht hu hmx hb=>
    have qs:=hR (by simp) s (by rw [hc];simp [Op.operands,Call.operands])
    have qx:=hR (by simp) x (by rw [hc];simp [Op.operands,Call.operands])
    rw [hs] at qs
    rw [hx] at qx
    obtain ⟨e1,_⟩:=qx.s_inv
    refine call .append s x _ _ (by rw [hc]) (fun _=>rfl) ?_
    rw [e1]
    exact (ops_appendG hm (hn rfl) (rl_str b) (src_str (ty:=type) ht hu b) (slT_spec ht.1).2 (by rw [ht.2.2];omega)).1 qs hmx hb
  | appStr c s x t u b i off n cs hc hs hx hi ht hu hf hmx hb=>
    have qs:=hR (by simp) s (by rw [hc];simp [Op.operands,Call.operands])
    have qx:=hR (by simp) x (by rw [hc];simp [Op.operands,Call.operands])
    rw [hs] at qs
    rw [hx] at qx
    obtain ⟨e1,_⟩:=qx.s_inv
    refine call .append s x _ _ (by rw [hc]) (fun _=>rfl) ?_
    rw [e1]
    exact (ops_appendG hm (hn rfl) (rl_str b) (src_str (ty:=type) ht hu b) (slT_spec ht.1).2 (by rw [ht.2.2];omega)).2.2 i off n cs qs hi (by rw [ht.2.2];omega) hmx hb
  | lenM c x t i es hc hx hi ht=>
    have qx:=hR (by simp) x (by rw [hc];simp [Op.operands,Call.operands])
    rw [hx] at qx
    exact call1 .len x _ _ (by rw [hc]) (fun _=>rfl) (nops_lenM hm qx hi ht)
  | sdata c s t i off n r hc hs hi hn'=>
    have qs:=hR (by simp) s (by rw [hc];simp [Op.operands,Call.operands])
    rw [hs] at qs
    exact call1 .unsafeSliceData s _ _ (by rw [hc]) (fun _=>rfl) (nops_sdata hm qs hi hn')
  | ustr c p n t u e l i off cs k hc hp hn' hi hl h0 ht he hmx hrr=>
    have qp:=hR (by simp) p (by rw [hc];simp [Op.operands,Call.operands])
    have qn:=hR (by simp) n (by rw [hc];simp [Op.operands,Call.operands])
    rw [hp] at qp
    rw [hn'] at qn
    exact call .unsafeString p n _ _ (by rw [hc]) (fun _=>rfl) (nops_ustr hm qp qn hi hl h0 ht he hmx hrr)
  | allocB t hb ht hz=>exact nops_allocB hm (hn rfl) ht hz
  | boxB t x d hb hx hd hs=>exact nops_boxB hm (hn rfl) hx hd hs (hR (by simp) x (by simp [Op.operands]))
  | slZ t x lo hi hx hlo hhi ht=>
    have qx:=hR (by simp) x (by simp [Op.operands])
    rw [hx] at qx
    refine nops_slZ (lo:=lo.map a.eval) (hi:=hi.map a.eval) hm qx hlo hhi ?_ ?_ ?_ ?_ ht
    · intro d hd
      obtain ⟨y,rfl,rfl⟩:=Option.map_eq_some_iff.1 hd
      exact ⟨_,rfl,hR (by simp) y (by simp [Op.operands])⟩
    · intro h;cases lo<;>first | rfl | cases h
    · intro d hd
      obtain ⟨y,rfl,rfl⟩:=Option.map_eq_some_iff.1 hd
      exact ⟨_,rfl,hR (by simp) y (by simp [Op.operands])⟩
    · intro h;cases hi<;>first | rfl | cases h
  | nilZ b op t p x hop hx ht=>
    have qx:=hR (by simp) x (by simp [Op.operands])
    rw [hx] at qx
    have:=ops_nil_n (nx:=nx) (pre:=True) (rd:=[]) (ox:=x) (oy:=.const (.slice none 0 0)) (a:=none) (l:=0) (c:=0) hm ht hop
    show OpS P F m nx β w _ ((do eqGuard op t x (.const (.slice none 0 0)) (a.eval x) (.slice none 0 0);binOp op t (a.eval x) (.slice none 0 0))>>=fun r=>Pure.pure (Next.value r))
    rw [qx.z_eq]
    exact this
  | nilR b op t p x i off n cs e hop hx hi hn' ht=>
    have qx:=hR (by simp) x (by simp [Op.operands])
    rw [hx] at qx
    show OpS P F m nx β w _ ((do eqGuard op t x (.const (.slice none 0 0)) (a.eval x) (.slice none 0 0);binOp op t (a.eval x) (.slice none 0 0))>>=fun r=>Pure.pure (Next.value r))
    rcases qx.rs_inv hm hi with ⟨_,_,h3,_⟩ | ⟨b',o,room,_,hrow,⟨h3,_⟩ | ⟨cap,hv,_⟩⟩
    · omega
    · omega
    · have:=ops_nil_n (nx:=nx) (pre:=True) (rd:=[i]) (ox:=x) (oy:=.const (.slice none 0 0)) (a:=some ⟨b',o+off,none⟩) (l:=n) (c:=cap) hm ht hop
      rw [hv]
      exact this
  | mkIf t x v hx hv ht=>exact nops_mkIf hm hx hv ht (hR (by simp) x (by simp [Op.operands]))
  | asrt x u t v hx hv ht ho hz=>
    have qx:=hR (by simp) x (by simp [Op.operands])
    rw [hx] at qx
    exact nops_asrt hm qx hv ht ho hz
  | copy c x y t i off n k cs news p rd hc hx hi hy hp ht hk hl=>
    have qx:=hR (by simp) x (by rw [hc];simp [Op.operands,Call.operands])
    have qy:=hR (by simp) y (by rw [hc];simp [Op.operands,Call.operands])
    rw [hx] at qx
    exact call .copy x y _ _ (by rw [hc]) (fun _=>rfl) (nops_copy hm qx hi qy hy hp ht hk hl)
  | loadB t b i u x T hb hi ht hg=>
    have qa:=hR (by simp) b (by simp [Op.operands])
    rw [hb] at qa
    exact nops_loadB hm qa hi ht hg
  | storeB t b y i u x T hb hi ht hg hy=>
    have qa:=hR (by simp) b (by simp [Op.operands])
    have qy:=hR (by simp) y (by simp [Op.operands])
    rw [hb] at qa
    exact nops_storeB hm qa qy hi ht hg hy
end
theorem ok_aopN {P:Program} {ops:Array Oper} {o:Oper} {st:St} {e:Eff} (hw:Wants ops o st true) (ha:asks st.env o.op) (h:AopN P (rho st.env o.op) st.mem st.nx o.op e):Plan.Ok P ops o st ⟨e.val,e.ups,e.rd,e.new⟩:=by
  intro F β w a m env N he hE hm hr hn hN r n QX K hK
  have he':=looks_opd he
  refine run_eff (m:=m) (nx:=st.nx) (β:=β) (F:=F) h.defer (hw F β w a env he hE) (aopN_sound hm (fun h1=>hn st.nx (Nat.le_refl _) (by simp [h1])) hE (by rw [asks_env he'];exact ha) ?_) hK
  exact (h.env (rho_env he')).mem hr
structure Sim (P:Program) (F:Nat→Prop) (st:St) (β:Pla) (w:World) (a:Act):Prop where
  e:ESim F β w st.env a
  m:MSim P F st.mem β w
  n:∀ i,st.nx≤i→β i=none
structure Since (N:Nat) (β:Pla) (w:World) (a:Act) (st':St) (β':Pla) (w':World) (a':Act):Prop where
  step:Step β w β' w'
  le:N≤st'.nx
  grow:∀ i,i<N→β i=none→β' i=none
  size:a'.tmps.size=a.tmps.size
  defers:a'.defers=a.defers
theorem Since.trans {N:Nat} {β β₁ β₂:Pla} {w w₁ w₂:World} {a a₁ a₂:Act} {st₁ st₂:St} (h:Since N β w a st₁ β₁ w₁ a₁) (k:Since st₁.nx β₁ w₁ a₁ st₂ β₂ w₂ a₂):Since N β w a st₂ β₂ w₂ a₂:=
  ⟨h.step.trans k.step,Nat.le_trans h.le k.le,fun i hi hn=>k.grow i (Nat.lt_of_lt_of_le hi h.le) (h.grow i hi hn),k.size.trans h.size,k.defers.trans h.defers⟩
theorem Since.refl (st:St) (β:Pla) (w:World) (a:Act):Since st.nx β w a st β w a:=⟨Step.refl β w,Nat.le_refl _,fun _ _ h=>h,rfl,rfl⟩
def Post (P:Program) (F:Nat→Prop) (N:Nat) (β:Pla) (w:World) (a:Act) (Q:Exit→St→Prop) (e:Exit) (a':Act) (w':World):Prop:=
  ∃ st' β',Q e st'∧Sim P F st' β' w' a'∧Since N β w a st' β' w' a'
section
variable {P:Program} {F:Nat→Prop} {ops:Array Oper} {o:Oper} {st:St} {β:Pla} {w:World} {a:Act}
theorem put_size (a:Act) (d:Option Nat) (v:Value):(a.put d v).tmps.size=a.tmps.size:=by
  cases d<;>simp [Act.put]
theorem put_defers (a:Act) (d:Option Nat) (v:Value):(a.put d v).defers=a.defers:=by
  cases d<;>rfl
theorem st_put_env (st:St) (d:Option Nat) (x:D):(st.put d x).env=(match d with | some t=>up st.env t x | none=>st.env):=by
  cases d<;>rfl
theorem st_put_mem (st:St) (d:Option Nat) (x:D):(st.put d x).mem=st.mem:=by cases d<;>rfl
theorem st_put_nx (st:St) (d:Option Nat) (x:D):(st.put d x).nx=st.nx:=by cases d<;>rfl
theorem Sim.put {st':St} {β':Pla} {w':World} {d:Option Nat} {x:D} {v:Value} (he:ESim F β' w' st'.env a) (hd:∀ t,d=some t→t<a.tmps.size) (hv:R F β' w' x v) (hm:MSim P F st'.mem β' w') (hn:∀ i,st'.nx≤i→β' i=none):
    Sim P F (st'.put d x) β' w' (a.put d v):=by
  refine ⟨?_,by rw [st_put_mem];exact hm,by rw [st_put_nx];exact hn⟩
  cases d with
  | none=>exact he
  | some t=>exact he.put (some t) x v hv hd
theorem step_plan {p:Plan} (hp:p.Ok P ops o st) (hs:Sim P F st β w a) (hd:∀ t,o.dst=some t→t<a.tmps.size) (r:Option Nat) (n:Nat) (QX:Exit→Act→World→Prop) {K:Act→World→Prop}
    (hK:∀ β' a' w',Sim P F (St.put ⟨st.env,upds st.mem p.ups,st.nx+p.new⟩ o.dst p.val) β' w' a'→Since st.nx β w a (St.put ⟨st.env,upds st.mem p.ups,st.nx+p.new⟩ o.dst p.val) β' w' a'→K a' w'):
    runOp r n P ops QX o K a w:=by
  refine hp F β w a st.mem st.env st.nx (fun _ _=>rfl) hs.e hs.m (fun _ _ _=>rfl) (fun i h _=>hs.n i h) hs.n r n QX K fun v w' β' h1 h2 h3 h4=>?_
  refine hK β' _ w' (Sim.put (st':=⟨st.env,upds st.mem p.ups,st.nx+p.new⟩) (hs.e.step h3) hd h1 h2 fun i hi=>h4 i (hs.n i (by simp only at hi;omega)) (.inr hi)) ⟨h3,by rw [st_put_nx];simp,fun i hi hb=>h4 i hb (.inl hi),put_size _ _ _,put_defers _ _ _⟩
theorem aop_plan {Y:YSpec} {dr:Bool} {K:St→List Nat→List Nat→Prop} (h:AOp P Y ops dr o st K):
    (∃ p:Plan,p.Ok P ops o st∧p.Tidy (kindO o.op) st∧K (St.put ⟨st.env,upds st.mem p.ups,st.nx+p.new⟩ o.dst p.val) p.rd p.wr)∨
    (dr=false∧∃ f args,Wants ops o st true∧asks st.env o.op∧callD (rho st.env o.op) o.op=some (f,args)∧ACalls P f args st.mem st.nx fun r m nx=>K (St.put ⟨st.env,m,nx⟩ o.dst r) [] [])∨
    (dr=false∧∃ l args,Wants ops o st true∧asks st.env o.op∧yieldD (rho st.env o.op) o.op=some (l,args)∧Y l args st.mem st.nx fun r m nx=>K (St.put ⟨st.env,m,nx⟩ o.dst r) [] []):=by
  have kcall:∀ {x},callD (rho st.env o.op) o.op=some x→kindO o.op=2:=fun {x} hx=>by
    cases ho:o.op with
    | call c=>
      rw [ho] at hx
      simp only [callD] at hx
      split at hx
      · rename_i f hf
        unfold kindO
        split<;>first | rfl | (rename_i h1;cases h1;cases hf) | skip
        all_goals simp_all
      · cases hx
    | _=>rw [ho] at hx;simp [callD] at hx
  have tcall:∀ {x} (p:Plan),callD (rho st.env o.op) o.op=some x→(∀ i∈p.wr,st.mem i≠none∨(st.nx≤i∧i<st.nx+p.new))→p.Tidy (kindO o.op) st:=fun {x} p hx hw=>by
    have:=kcall hx
    exact ⟨hw,by omega,by omega,by omega⟩
  have call:∀ {f args},Wants ops o st true→asks st.env o.op→callD (rho st.env o.op) o.op=some (f,args)→CallOp P dr st f args (fun r m nx rd wr=>K (St.put ⟨st.env,m,nx⟩ o.dst r) rd wr)→
   (∃ p:Plan,p.Ok P ops o st∧p.Tidy (kindO o.op) st∧K (St.put ⟨st.env,upds st.mem p.ups,st.nx+p.new⟩ o.dst p.val) p.rd p.wr)∨
   (dr=false∧∃ f args,Wants ops o st true∧asks st.env o.op∧callD (rho st.env o.op) o.op=some (f,args)∧ACalls P f args st.mem st.nx fun r m nx=>K (St.put ⟨st.env,m,nx⟩ o.dst r) [] [])∨
   (dr=false∧∃ l args,Wants ops o st true∧asks st.env o.op∧yieldD (rho st.env o.op) o.op=some (l,args)∧Y l args st.mem st.nx fun r m nx=>K (St.put ⟨st.env,m,nx⟩ o.dst r) [] []):=fun {f args} hw ha hc hk=>by
    rcases hk with ⟨r,h1,h2⟩ | ⟨args',rds,r,h1,h2,h3,h4⟩ | ⟨es,n,t,h1,h2⟩ | ⟨h1,h2⟩ | ⟨r,ups,rds,h1,h2,h3⟩ | ⟨es,n,t,ups,rds,h1,h2,h3,h4⟩
    · exact .inl ⟨⟨r,[],[],0⟩,ok_pure hw ha hc h1,tcall _ hc (by simp [Plan.wr]),h2⟩
    · exact .inl ⟨⟨r,[],rds,0⟩,ok_snap hw ha hc h1 h2 h3,tcall _ hc (by simp [Plan.wr]),h4⟩
    · exact .inl ⟨⟨.rs st.nx 0 n,[(st.nx,some (.cells es t))],[],1⟩,ok_own hw ha hc h1,tcall _ hc (by simp [Plan.wr]),h2⟩
    · exact .inr (.inl ⟨h1,f,args,hw,ha,hc,h2⟩)
    · exact .inl ⟨⟨r,ups,rds,0⟩,ok_eff hw ha hc h1,tcall _ hc fun i hi=>.inl (h2 i hi).2,h3⟩
    · refine .inl ⟨⟨.rs st.nx 0 n,ups++[(st.nx,some (.cells es t))],rds,1⟩,ok_frame hw ha hc h1 h2 h3,tcall _ hc fun i hi=>?_,?_⟩
      · simp only [Plan.wr,List.map_append,List.mem_append,List.map_cons,List.map_nil,List.mem_singleton] at hi
        rcases hi with hi | rfl
        · obtain ⟨x,hx,rfl⟩:=List.mem_map.1 hi
          obtain ⟨r,hr,_⟩:=h1.1 _ (h1.2.1 x hx).1
          exact .inl (by simp [hr])
        · exact .inr ⟨Nat.le_refl _,Nat.lt_succ_self _⟩
      · show K _ _ (Plan.wr _)
        rw [upds_app,Plan.wr,List.map_append]
        exact h4
  have op:∀ {e:Eff},Wants ops o st true→asks st.env o.op→aop P o.op (rho st.env o.op) st.mem st.nx=some e→e.pre→K (St.put ⟨st.env,upds st.mem e.ups,st.nx+e.new⟩ o.dst e.val) e.rd (e.ups.map (·.1))→
   (∃ p:Plan,p.Ok P ops o st∧p.Tidy (kindO o.op) st∧K (St.put ⟨st.env,upds st.mem p.ups,st.nx+p.new⟩ o.dst p.val) p.rd p.wr):=fun {e} hw ha h hp hk=>by
    obtain ⟨t1,t2,t3,t4⟩:=aop_tidy h
    exact ⟨⟨e.val,e.ups,e.rd,e.new⟩,ok_aop hw ha h hp,⟨t1,t2,t3,t4⟩,hk⟩
  have skip:∀ {d:D},Wants ops o st false→(∀ F β w,R F β w d undef)→K (st.put o.dst d) [] []→
   (∃ p:Plan,p.Ok P ops o st∧p.Tidy (kindO o.op) st∧K (St.put ⟨st.env,upds st.mem p.ups,st.nx+p.new⟩ o.dst p.val) p.rd p.wr):=fun {d} hw hd hk=>
    ⟨⟨d,[],[],0⟩,ok_skip hw d hd,⟨by simp [Plan.wr],fun _=>⟨rfl,rfl⟩,fun _=>rfl,fun _=>⟨rfl,by simp [Plan.wr]⟩⟩,hk⟩
  have hskip:∀ (F:Nat→Prop) β w,R F β w skipD undef:=fun F β w=>.opt false .u undef (by simp) fun _=>rfl
  unfold AOp at h
  split at h
  · rename_i hg
    have hw:=wants_none (ops:=ops) (st:=st) hg
    obtain ⟨ha,h⟩:=h
    split at h
    · rename_i f args hc
      exact call hw ha hc h
    · split at h
      · rename_i l args hy
        exact .inr (.inr ⟨h.1,l,args,hw,ha,hy,h.2⟩)
      · split at h
        · rename_i e he
          exact .inl (op hw ha he h.1 h.2)
        · exact h.elim
  · rename_i j b hg
    split at h
    · exact h.elim
    · rename_i c hc
      simp only [Option.bind_eq_some_iff] at hc
      obtain ⟨t,⟨oj,hoj,hjt⟩,hc⟩:=hc
      have hw:Wants ops o st c:=wants_some hg (t:=t) (by simp [hoj,hjt]) hc
      split at h
      · rename_i f args hcall
        rcases h with ⟨r,h1,h2⟩ | ⟨h1,h2⟩
        · refine .inl ⟨⟨.opt c r,[],[],0⟩,ok_opt hw fun hct=>?_,tcall _ hcall (by simp [Plan.wr]),h2⟩
          subst hct
          exact ok_pure hw (h1 rfl).1 hcall (h1 rfl).2
        · cases c with
          | true=>exact call hw (h1 rfl).1 hcall (h1 rfl).2
          | false=>exact .inl (skip hw hskip (h2 rfl))
      · split at h
        · rename_i l args hy
          cases c with
          | true=>exact .inr (.inr ⟨(h.1 rfl).2.1,l,args,hw,(h.1 rfl).1,hy,(h.1 rfl).2.2⟩)
          | false=>exact .inl (skip hw hskip (h.2 rfl))
        · split at h
          · rename_i e he
            split at h
            · rename_i hemp
              simp only [Bool.and_eq_true,List.isEmpty_iff,beq_iff_eq] at hemp
              obtain ⟨h1,h2⟩:=h
              obtain ⟨t1,t2,t3,t4⟩:=aop_tidy he
              refine .inl ⟨⟨.opt c e.val,[],e.rd,0⟩,ok_opt hw fun hct=>?_,⟨by simp [Plan.wr],fun hk=>⟨(t2 hk).1,rfl⟩,fun _=>rfl,fun hk=>⟨(t4 hk).1,by simp [Plan.wr]⟩⟩,h2⟩
              subst hct
              have:=ok_aop hw (h1 rfl).1 he (h1 rfl).2
              rw [hemp.1,hemp.2] at this
              exact this
            · obtain ⟨h1,h2⟩:=h
              cases c with
              | true=>exact .inl (op hw (h1 rfl).1 he (h1 rfl).2.1 (h1 rfl).2.2)
              | false=>exact .inl (skip hw hskip (h2 rfl))
          · obtain ⟨rfl,h⟩:=h
            exact .inl (skip hw hskip h)
theorem goes_wants (h:goes ops o st):Wants ops o st true:=by
  rcases h with hg | ⟨j,b,hg,hc⟩
  · exact wants_none hg
  · simp only [Option.bind_eq_some_iff] at hc
    obtain ⟨t,⟨oj,hoj,hjt⟩,hc⟩:=hc
    exact wants_some hg (t:=t) (by simp [hoj,hjt]) hc
theorem aop2_plan {Y:YSpec} {dr:Bool} {K:St→List Nat→List Nat→Prop} (h:AOp P Y ops dr o st K∨AOpN P ops o st K):
    (∃ p:Plan,p.Ok P ops o st∧p.Tidy (kindO o.op) st∧K (St.put ⟨st.env,upds st.mem p.ups,st.nx+p.new⟩ o.dst p.val) p.rd p.wr)∨
    (dr=false∧∃ f args,Wants ops o st true∧asks st.env o.op∧callD (rho st.env o.op) o.op=some (f,args)∧ACalls P f args st.mem st.nx fun r m nx=>K (St.put ⟨st.env,m,nx⟩ o.dst r) [] [])∨
    (dr=false∧∃ l args,Wants ops o st true∧asks st.env o.op∧yieldD (rho st.env o.op) o.op=some (l,args)∧Y l args st.mem st.nx fun r m nx=>K (St.put ⟨st.env,m,nx⟩ o.dst r) [] []):=by
  rcases h with h | ⟨h1,h2,e,h3,h4⟩
  · exact aop_plan h
  · obtain ⟨t1,t2,t3,t4⟩:=h3.tidy
    exact .inl ⟨⟨e.val,e.ups,e.rd,e.new⟩,ok_aopN (goes_wants h1) h2 h3,⟨t1,t2,t3,t4⟩,h4⟩
theorem step_acall {f:FuncId} {args:List D} {Post:D→Mem→Nat→Prop} (hw:Wants ops o st true) (ha:asks st.env o.op) (hc:callD (rho st.env o.op) o.op=some (f,args)) (h:ACalls P f args st.mem st.nx Post)
    (hs:Sim P F st β w a) (hd:∀ t,o.dst=some t→t<a.tmps.size) (r:Option Nat) (n:Nat) (QX:Exit→Act→World→Prop) {K:Act→World→Prop}
    (hK:∀ d m' nx' β' a' w',Post d m' nx'→Sim P F (St.put ⟨st.env,m',nx'⟩ o.dst d) β' w' a'→Since st.nx β w a (St.put ⟨st.env,m',nx'⟩ o.dst d) β' w' a'→K a' w'):
    runOp r n P ops QX o K a w:=by
  refine run_call (hw F β w a st.env (fun _ _=>rfl) hs.e) hs.e ha hc h.1 fun vs hR=>?_
  refine (h.2 F β w vs hs.m hs.n hR).mono fun e w' hp=>?_
  obtain ⟨v,d,m',nx',β',h1,h2,h3,h4,h5,h6,h7,h8⟩:=hp
  refine ⟨v,h1,hK d m' nx' β' _ w' h2 (Sim.put (st':=⟨st.env,m',nx'⟩) (hs.e.step h6) hd h5 h3 h4) ⟨h6,by rw [st_put_nx];exact h7,h8,put_size _ _ _,put_defers _ _ _⟩⟩
theorem run_yieldOp {env:Env} {l:Nat} {args:List D} (hE:ESim F β w env a) (ha:asks env o.op) (h:yieldD (rho env o.op) o.op=some (l,args)):
    ∃ vs,(execOp a.eval o).run P w=(Instr.yield l vs).run P w∧Rs F β w args vs:=by
  obtain ⟨dst,op,type,pos,after,guard⟩:=o
  simp only at ha h
  cases op with
  | call c=>
    simp only [yieldD] at h
    have hR:∀ x∈(Op.call c).operands.toList,R F β w (rho env (.call c) x) (a.eval x):=fun x hx=>(hE.opd x).core_of _ (ha x hx)
    split at h
    · rename_i g hg
      split at h
      · rename_i l' hk
        simp only [Option.some.injEq,Prod.mk.injEq] at h
        obtain ⟨rfl,rfl⟩:=h
        have h1:=hR g (by simp [Op.operands,Call.operands,hg])
        rw [hk] at h1
        obtain ⟨q1,q2⟩:=list_R (F:=F) (β:=β) (w:=w) (xs:=c.args) (ρ:=rho env (.call c)) (a:=a) (fun x hx=>hR x (by simp [Op.operands,Call.operands];exact .inr hx))
        generalize hv:a.eval g=v at h1
        cases h1 with
        | fn _ _ _ us vs hl hl' hh hh'=>
        have e1:us=[]:=List.eq_nil_of_length_eq_zero (by simpa using hl)
        have e2:vs=[]:=List.eq_nil_of_length_eq_zero (by simpa using hl')
        subst e1 e2
        refine ⟨c.args.map a.eval,?_,by simp,fun j d u hd hu=>q2 j d u hd (by simpa using hu)⟩
        unfold execOp
        simp only [resolve,hg,Sem.run_bind,hv,Deferred.ofValue,Sem.run_pure,Result.andThen_ok,invoke]
        simp
      · cases h
    · cases h
  | _=>simp [yieldD] at h
theorem yieldD_defer {op:Op} {ρ:Operand→D} {x:Nat×List D} (h:yieldD ρ op=some x):∀ c,op≠ .defer c:=fun c hc=>by
  subst hc;simp [yieldD] at h
theorem step_ycall {l:Nat} {args:List D} {Post:D→Mem→Nat→Prop} (hw:Wants ops o st true) (ha:asks st.env o.op) (hc:yieldD (rho st.env o.op) o.op=some (l,args)) {βb:Pla} {wb:World} (h:YCall P F βb wb l args st.mem st.nx Post) (hb:Step βb wb β w)
    (hs:Sim P F st β w a) (hd:∀ t,o.dst=some t→t<a.tmps.size) (r:Option Nat) (n:Nat) (QX:Exit→Act→World→Prop) {K:Act→World→Prop}
    (hK:∀ d m' nx' β' a' w',Post d m' nx'→Sim P F (St.put ⟨st.env,m',nx'⟩ o.dst d) β' w' a'→Since st.nx β w a (St.put ⟨st.env,m',nx'⟩ o.dst d) β' w' a'→K a' w'):
    runOp r n P ops QX o K a w:=by
  obtain ⟨vs,h1,h2⟩:=run_yieldOp (P:=P) hs.e ha hc
  obtain ⟨f,tmps,assign,body,h3,h4⟩:=h β w vs hb hs.m hs.n h2
  unfold runOp
  rw [hw F β w a st.env (fun _ _=>rfl) hs.e,if_pos rfl]
  refine ⟨fun _ _=>trivial,?_⟩
  rw [sem_at (yieldD_defer hc),h1,h3]
  refine ⟨by simp,?_⟩
  have h5:=h4 (n - 1)
  refine RoundIn.mono (F:=Fe r) (show RoundIn (Fe r) (n - 1) P l f tmps assign body w _ from h5) fun e w' hp=>?_
  obtain ⟨v,d,m',nx',β',rfl,g2,g3,g4,g5,g6,g7,g8⟩:=hp
  exact hK d m' nx' β' _ w' g2 (Sim.put (st':=⟨st.env,m',nx'⟩) (hs.e.step g6) hd g5 g3 g4) ⟨g6,by rw [st_put_nx];exact g7,g8,put_size _ _ _,put_defers _ _ _⟩
def opsLt (N:Nat) (ops:Array Oper):Bool:=ops.toList.all fun o=>match o.dst with
  | some t=>Nat.blt t N
  | none=>true
theorem opsLt_spec {N:Nat} (h:opsLt N ops=true) {i:Nat} {o:Oper} (hi:ops[i]? =some o):∀ t,o.dst=some t→t<N:=fun t ht=>by
  have h1:=List.all_eq_true.1 h o (by simpa using Array.mem_of_getElem? hi)
  rw [ht] at h1
  simpa using h1
theorem ops_text {Y:YSpec} {r:Option Nat} {n:Nat} {cf:List (Nat×Nat)} {Q:Exit→St→Prop} {N:Nat} {β₀:Pla} {w₀:World} {a₀:Act} (hY:∀ l args m nx Post,Y l args m nx Post→YCall P F β₀ w₀ l args m nx Post) (hlt:opsLt a₀.tmps.size ops=true):
    ∀ (rest:List Oper) (k:Nat) (st:St) (tr:Tra) (β:Pla) (w:World) (a:Act),ops.toList.drop k=rest→AOps P Y ops false cf Q rest st tr→Sim P F st β w a→Since N β₀ w₀ a₀ st β w a→
      wpOpsIn (Fe r) n P ops (Post P F N β₀ w₀ a₀ Q) (List.range' k rest.length) a w:=by
  intro rest
  induction rest with
  | nil=>
    intro k st tr β w a hk h hs hsi
    simp only [List.length_nil,List.range'_zero,wpOpsIn]
    exact ⟨st,β,h.2,hs,hsi⟩
  | cons o rest ih=>
    intro k st tr β w a hk h hs hsi
    have ho:ops[k]? =some o:=by
      have:(ops.toList.drop k)[0]? =some o:=by rw [hk];rfl
      simpa using this
    have hk':ops.toList.drop (k+1)=rest:=by
      have:(ops.toList.drop k).drop 1=rest:=by rw [hk];rfl
      simpa [List.drop_drop,Nat.add_comm] using this
    simp only [List.length_cons,List.range'_succ,wpOpsIn_cons]
    refine runOp_wpOpIn ho ?_
    have hd:∀ t,o.dst=some t→t<a.tmps.size:=fun t ht=>by rw [hsi.size];exact opsLt_spec hlt ho t ht
    simp only [AOps] at h
    rcases aop2_plan h with ⟨p,h1,_,h3⟩ | ⟨_,f,args,h1,h2,h3,h4⟩ | ⟨_,l,args,h1,h2,h3,h4⟩
    · exact step_plan h1 hs hd r n _ fun β' a' w' hs' hsi'=>ih (k+1) _ _ β' w' a' hk' h3 hs' (hsi.trans hsi')
    · exact step_acall h1 h2 h3 h4 hs hd r n _ fun d m' nx' β' a' w' hp hs' hsi'=>ih (k+1) _ _ β' w' a' hk' hp hs' (hsi.trans hsi')
    · exact step_ycall h1 h2 h3 (hY _ _ _ _ _ h4) hsi.step hs hd r n _ fun d m' nx' β' a' w' hp hs' hsi'=>ih (k+1) _ _ β' w' a' hk' hp hs' (hsi.trans hsi')
theorem region_text {Y:YSpec} {r:Option Nat} {n id:Nat} {cf:List (Nat×Nat)} {Q:Exit→St→Prop} {N:Nat} {β₀:Pla} {w₀:World} {a₀:Act} (hY:∀ l args m nx Post,Y l args m nx Post→YCall P F β₀ w₀ l args m nx Post) (hlt:opsLt a₀.tmps.size ops=true)
    (h:AOps P Y ops false cf Q ops.toList st []) (hs:Sim P F st β w a) (hsi:Since N β₀ w₀ a₀ st β w a):(Code.region id ops false).wpIn (Fe r) n P (Post P F N β₀ w₀ a₀ Q) a w:=by
  refine wpIn_region ?_
  have:=ops_text hY (r:=r) (n:=n) hlt ops.toList 0 st [] β w a (by simp) h hs hsi
  rw [List.range_eq_range']
  simpa using this
end
theorem befOf_bit (acc:List Nat) (i:Nat):∀ (l:List Edge) (s:Nat),(l.foldl (fun s e=>if Region.binds .any e then s||| 2 ^ e.on||| acc.getD e.on 0 else s) s).testBit i=true→
    s.testBit i=true∨∃ e∈l,Region.binds .any e=true∧(i=e.on∨(acc.getD e.on 0).testBit i=true)
  | [],s,h=>.inl h
  | e::l,s,h=>by
    rw [List.foldl_cons] at h
    rcases befOf_bit acc i l _ h with h1 | ⟨e',he',hb⟩
    · by_cases hb:Region.binds .any e=true
      · rw [if_pos hb] at h1
        simp only [Nat.testBit_or,Bool.or_eq_true,Nat.testBit_two_pow,decide_eq_true_eq] at h1
        rcases h1 with (h1 | h1) | h1
        · exact .inl h1
        · exact .inr ⟨e,by simp,hb,.inl h1.symm⟩
        · exact .inr ⟨e,by simp,hb,.inr h1⟩
      · rw [if_neg hb] at h1
        exact .inl h1
    · exact .inr ⟨e',by simp [he'],hb⟩
theorem befs_prefix:∀ (os:List Oper) (acc:List Nat),∃ l,befs os acc=acc++l∧l.length=os.length
  | [],acc=>⟨[],by simp [befs],rfl⟩
  | o::os,acc=>by
    obtain ⟨l,h1,h2⟩:=befs_prefix os (acc++[befOf acc o])
    exact ⟨befOf acc o::l,by simp [befs,h1],by simp [h2]⟩
theorem befs_get:∀ (os:List Oper) (acc:List Nat) (k:Nat) (o:Oper),os[k]? =some o→(befs os acc).getD (acc.length+k) 0=befOf ((befs os acc).take (acc.length+k)) o
  | [],acc,k,o,h=>by simp at h
  | x::os,acc,0,o,h=>by
    simp only [List.getElem?_cons_zero,Option.some.injEq] at h
    subst h
    obtain ⟨l,h1,h2⟩:=befs_prefix os (acc++[befOf acc x])
    simp [befs,h1]
  | x::os,acc,k+1,o,h=>by
    have:=befs_get os (acc++[befOf acc x]) k o (by simpa using h)
    simp only [List.length_append,List.length_cons,List.length_nil] at this
    have e:acc.length+(k+1)=acc.length+(0+1)+k:=by omega
    rw [e]
    exact this
theorem bit_listed {ops:Array Oper} {S:Nat→Bool} (hS:∀ j,S j=true→∀ o,ops[j]? =some o→∀ e∈o.after,Region.binds .any e=true→S e.on=true) (i:Nat):
    ∀ j,S j=true→((befs ops.toList []).getD j 0).testBit i=true→S i=true:=by
  intro j
  induction j using Nat.strongRecOn with
  | _ j ih=>
    intro hj hb
    cases ho:ops[j]? with
    | none=>
      obtain ⟨l,h1,h2⟩:=befs_prefix ops.toList []
      have:(befs ops.toList []).getD j 0=0:=by
        rw [h1]
        simp only [List.nil_append]
        have:ops.size≤j:=by simpa using ho
        simp [List.getElem?_eq_none (show l.length≤j by simpa [h2] using this)]
      rw [this] at hb
      simp at hb
    | some o=>
      have h1:=befs_get ops.toList [] j o (by simpa using ho)
      simp only [List.length_nil,Nat.zero_add] at h1
      rw [h1] at hb
      rcases befOf_bit _ i _ 0 hb with h2 | ⟨e,he,hbe,h2⟩
      · simp at h2
      · have hSe:=hS j hj o ho e (by simpa using he) hbe
        rcases h2 with rfl | h2
        · exact hSe
        · rcases Nat.lt_or_ge e.on j with hlt | hge
          · refine ih e.on hlt hSe ?_
            simpa [List.getElem?_take,hlt] using h2
          · simp [List.getElem?_take,Nat.not_lt.2 hge] at h2
theorem mem_unordered {bs:List Nat} {n i j:Nat} (hij:i<j) (hj:j<n) (h:(bs.getD j 0).testBit i=false):(i,j)∈unordered bs n:=by
  unfold unordered
  rw [List.mem_flatMap]
  exact ⟨j,by simp [hj],by rw [List.mem_map];exact ⟨i,by simp only [List.mem_filter,List.mem_range];exact ⟨hij,by rw [h];rfl⟩,rfl⟩⟩
theorem upds_not {us:List (Nat×Option Row)}:∀ {m:Mem} {i:Nat},i∉us.map (·.1)→upds m us i=m i:=by
  induction us with
  | nil=>intro m i _;rfl
  | cons u us ih=>
    intro m i h
    obtain ⟨j,r⟩:=u
    simp only [List.map_cons,List.mem_cons,not_or] at h
    simp only [upds]
    rw [ih h.2,up_ne _ _ h.1]
theorem upds_congr {us:List (Nat×Option Row)}:∀ {m m':Mem} {i:Nat},(i∈us.map (·.1)∨m i=m' i)→upds m us i=upds m' us i:=by
  induction us with
  | nil=>intro m m' i h;simpa [upds] using h
  | cons u us ih=>
    intro m m' i h
    obtain ⟨j,r⟩:=u
    simp only [upds]
    refine ih ?_
    by_cases hj:i=j
    · right;subst hj;rw [up_same,up_same]
    · rcases h with h | h
      · left
        simp only [List.map_cons,List.mem_cons] at h
        exact h.resolve_left hj
      · right;rw [up_ne _ _ hj,up_ne _ _ hj,h]
theorem upds_comm {a b:List (Nat×Option Row)} (m:Mem) (h:∀ i∈a.map (·.1),i∉b.map (·.1)):upds (upds m a) b=upds (upds m b) a:=by
  funext i
  by_cases ha:i∈a.map (·.1)
  · rw [upds_not (h i ha)]
    exact upds_congr (.inl ha)
  · rw [upds_not (m:=upds m b) ha]
    exact upds_congr (.inr (upds_not ha))
def putE (env:Env) (d:Option Nat) (v:D):Env:=match d with
  | some t=>up env t v
  | none=>env
theorem putE_not {env:Env} {d:Option Nat} {v:D} {t:Nat} (h:d≠some t):putE env d v t=env t:=by
  cases d with
  | none=>rfl
  | some u=>exact up_ne _ _ fun e=>h (by rw [e])
theorem putE_congr {env env':Env} {d:Option Nat} {v:D} {t:Nat} (h:d=some t∨env t=env' t):putE env d v t=putE env' d v t:=by
  cases d with
  | none=>simpa [putE] using h
  | some u=>
    by_cases hu:t=u
    · subst hu;simp [putE,up_same]
    · simp only [putE,up_ne _ _ hu]
      rcases h with h | h
      · simp only [Option.some.injEq] at h;exact absurd h.symm hu
      · exact h
theorem putE_comm (env:Env) {d d':Option Nat} (v v':D) (h:∀ t,d=some t→d'≠some t):putE (putE env d v) d' v'=putE (putE env d' v') d v:=by
  funext t
  by_cases hd:d=some t
  · rw [putE_not (h t hd)]
    exact putE_congr (.inl hd)
  · rw [putE_not (env:=putE env d' v') hd]
    exact putE_congr (.inr (putE_not hd))
def nxt (st:St) (o:Oper) (p:Plan):St:=St.put ⟨st.env,upds st.mem p.ups,st.nx+p.new⟩ o.dst p.val
theorem nxt_env (st:St) (o:Oper) (p:Plan):(nxt st o p).env=putE st.env o.dst p.val:=by unfold nxt;rw [st_put_env];rfl
theorem nxt_mem (st:St) (o:Oper) (p:Plan):(nxt st o p).mem=upds st.mem p.ups:=st_put_mem _ _ _
theorem nxt_nx (st:St) (o:Oper) (p:Plan):(nxt st o p).nx=st.nx+p.new:=st_put_nx _ _ _
section
variable (oo:Nat→Oper) (pp:Nat→Plan) (st₀:St)
def stF (S:Nat→Bool):Nat→St
  | 0=>st₀
  | k+1=>if S k then nxt (stF S k) (oo k) (pp k) else stF S k
def sTx:Nat→St:=stF oo pp st₀ fun _=>true
theorem sTx_succ (k:Nat):sTx oo pp st₀ (k+1)=nxt (sTx oo pp st₀ k) (oo k) (pp k):=rfl
theorem stF_lt (k:Nat):∀ n,k≤n→stF oo pp st₀ (fun j=>decide (j<k)) n=sTx oo pp st₀ k:=by
  have below:∀ n,n≤k→stF oo pp st₀ (fun j=>decide (j<k)) n=sTx oo pp st₀ n:=by
    intro n
    induction n with
    | zero=>intro _;rfl
    | succ n ih=>
      intro h
      have hd:decide (n<k)=true:=by simp;omega
      rw [sTx_succ, ← ih (by omega)]
      simp only [stF,hd,if_true]
  intro n h
  induction n with
  | zero=>
    have:k=0:=by omega
    subst this
    rfl
  | succ n ih=>
    rcases Nat.lt_or_ge n k with hlt | hge
    · have:k=n+1:=by omega
      subst this
      exact below (n+1) (Nat.le_refl _)
    · have hd:decide (n<k)=false:=by simpa using hge
      simp only [stF,hd,Bool.false_eq_true,if_false]
      exact ih hge
theorem stF_env {S T:Nat→Bool} {t:Nat}:∀ n,(∀ j,j<n→S j≠T j→(oo j).dst≠some t)→(stF oo pp st₀ S n).env t=(stF oo pp st₀ T n).env t:=by
  intro n
  induction n with
  | zero=>intro _;rfl
  | succ n ih=>
    intro h
    have h1:=ih fun j hj=>h j (by omega)
    have h2:=h n (by omega)
    simp only [stF]
    cases hS:S n<;>cases hT:T n<;>simp only [Bool.false_eq_true,if_false,if_true,nxt_env]
    · exact h1
    · rw [putE_not (h2 (by simp [hS,hT]))];exact h1
    · rw [putE_not (h2 (by simp [hS,hT]))];exact h1
    · exact putE_congr (.inr h1)
theorem stF_mem {S T:Nat→Bool} {i:Nat}:∀ n,(∀ j,j<n→S j≠T j→i∉(pp j).wr)→(stF oo pp st₀ S n).mem i=(stF oo pp st₀ T n).mem i:=by
  intro n
  induction n with
  | zero=>intro _;rfl
  | succ n ih=>
    intro h
    have h1:=ih fun j hj=>h j (by omega)
    have h2:=h n (by omega)
    simp only [stF]
    cases hS:S n<;>cases hT:T n<;>simp only [Bool.false_eq_true,if_false,if_true,nxt_mem]
    · exact h1
    · rw [upds_not (h2 (by simp [hS,hT]))];exact h1
    · rw [upds_not (h2 (by simp [hS,hT]))];exact h1
    · exact upds_congr (.inr h1)
theorem stF_same {S T:Nat→Bool}:∀ n,(∀ j,j<n→S j=T j)→stF oo pp st₀ S n=stF oo pp st₀ T n:=by
  intro n
  induction n with
  | zero=>intro _;rfl
  | succ n ih=>
    intro h
    simp only [stF,ih fun j hj=>h j (by omega),h n (by omega)]
theorem stF_add {S:Nat→Bool} {k:Nat} (hk:S k=false):∀ n,k<n→(∀ j,k<j→j<n→S j=true→(∀ t,(oo k).dst=some t→(oo j).dst≠some t)∧∀ i∈(pp k).wr,i∉(pp j).wr)→
    (stF oo pp st₀ (fun j=>if j=k then true else S j) n).env=putE (stF oo pp st₀ S n).env (oo k).dst (pp k).val∧
    (stF oo pp st₀ (fun j=>if j=k then true else S j) n).mem=upds (stF oo pp st₀ S n).mem (pp k).ups:=by
  intro n
  induction n with
  | zero=>intro h;omega
  | succ n ih=>
    intro hkn h
    rcases Nat.lt_or_ge k n with hlt | hge
    · obtain ⟨h1,h2⟩:=ih hlt fun j hj hjn=>h j hj (by omega)
      have hne:n≠k:=by omega
      simp only [stF,if_neg hne]
      cases hS:S n with
      | false=>simp only [Bool.false_eq_true,if_false];exact ⟨h1,h2⟩
      | true=>
        obtain ⟨h3,h4⟩:=h n hlt (by omega) hS
        simp only [if_true,nxt_env,nxt_mem,h1,h2]
        exact ⟨putE_comm _ _ _ h3,upds_comm _ h4⟩
    · have:n=k:=by omega
      subst this
      have e:stF oo pp st₀ (fun j=>if j=n then true else S j) n=stF oo pp st₀ S n:=stF_same oo pp st₀ n fun j hj=>by simp only [if_neg (show j≠n by omega)]
      simp only [stF,if_true,hk,Bool.false_eq_true,if_false,nxt_env,nxt_mem,e]
      exact ⟨trivial,trivial⟩
theorem sTx_nx_le {j k:Nat} (h:j≤k):(sTx oo pp st₀ j).nx≤(sTx oo pp st₀ k).nx:=by
  induction k with
  | zero=>have:j=0:=by omega
          subst this;exact Nat.le_refl _
  | succ k ih=>
    rcases Nat.lt_or_ge j (k+1) with hlt | hge
    · rw [sTx_succ,nxt_nx]
      have:=ih (by omega)
      omega
    · have:j=k+1:=by omega
      subst this;exact Nat.le_refl _
end
end Go.Abs
