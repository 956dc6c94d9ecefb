/- Part 2 of the proof; the last part says what is proved. -/
import Derived.Test.YtkogeiacmmckkaaGreatDoorFlowReads1
set_option linter.all false
namespace Go.Abs
def OpS (P:Program) (F:Nat→Prop) (m:Mem) (nx:Nat) (β:Pla) (w:World) (e:Eff) (s:Sem Next):Prop:=
  ∃ n v w' β',s.run P w=.ok n w'∧(n=.value v∨(n=.skip∧v=undef))∧R F β' w' e.val v∧MSim P F (upds m e.ups) β' w'∧Step β w β' w'∧∀ i,β i=none→(i<nx∨nx+e.new≤i)→β' i=none
section
variable {P:Program} {F:Nat→Prop} {m:Mem} {nx:Nat} {β:Pla} {w:World}
theorem OpS.pure (hm:MSim P F m β w) {pre:Prop} {d:D} {rd:List Nat} {s:Sem Value} {v:Value} (hr:s.run P w=.ok v w) (h:R F β w d v):
    OpS P F m nx β w { pre:=pre,val:=d,rd:=rd } (do Pure.pure (Next.value (← s))):=
  ⟨.value v,v,w,β,by simp [hr],.inl rfl,h,hm,Step.refl β w,fun _ h _=>h⟩
def Rd (F:Nat→Prop) (β:Pla) (w:World) (b o:Nat) (cs:List D):Prop:=
  ∃ us:Nat→Value,(∀ k:Nat,k<cs.length→w.cell? ⟨b,o+k,none⟩=some (us k)∧(us k).oneCell'=true)∧∀ (k:Nat) (d:D),cs[k]? =some d→R F β w d (us k)
theorem Rd.drop {b o:Nat} {cs:List D} (h:Rd F β w b o cs) (k:Nat):Rd F β w b (o+k) (cs.drop k):=by
  obtain ⟨us,h1,h2⟩:=h
  refine ⟨fun j=>us (k+j),fun j hj=>?_,fun j d hj=>?_⟩
  · have:=h1 (k+j) (by simp at hj;omega)
    rw [← Nat.add_assoc] at this
    exact this
  · exact h2 (k+j) d (by simpa [List.getElem?_drop] using hj)
theorem Rd.take {b o:Nat} {cs:List D} (h:Rd F β w b o cs) (k:Nat):Rd F β w b o (cs.take k):=by
  obtain ⟨us,h1,h2⟩:=h
  refine ⟨us,fun j hj=>h1 j (by simp at hj;omega),fun j d hj=>h2 j d ?_⟩
  rw [List.getElem?_take] at hj
  split at hj
  · exact hj
  · cases hj
theorem RowR.rd {cs:List D} {e:TypeId} {b o len room sz:Nat} (h:RowR P F β w (.cells cs e) (.cells b o len room sz)):Rd F β w b o cs∧len=cs.length∧sz=P.cellsOf e∧len≤room:=by
  cases h with
  | cells _ _ _ _ _ _ c hc hr hlen hsz hh=>
    refine ⟨⟨fun k=>(c[o+k]?).getD undef,fun k hk=>?_,fun k d hk=>?_⟩,rfl,hsz,hlen⟩
    · have:o+k<c.size:=by omega
      obtain ⟨v,h1,_,h3⟩:=hh k cs[k] (by simp [hk])
      exact ⟨by simp [World.cell?,hc,h1],by simpa [h1] using h3⟩
    · obtain ⟨v,h1,h2,_⟩:=hh k d hk
      simpa [h1] using h2
theorem R.pt_inv {cs:List D} {v:Value} (h:R F β w (.pt cs) v):∃ b o,v=.pointer (some ⟨b,o,none⟩)∧¬ F b∧β.free b∧b<w.heap.size∧Rd F β w b o cs:=by
  cases h with | pt _ b o us h1 h2 h3 h4 h5=>exact ⟨b,o,rfl,h1,h2,h3,us,h4,h5⟩
theorem R.pt_mk {cs:List D} {b o:Nat} (h1:¬ F b) (h2:β.free b) (h3:b<w.heap.size) (h:Rd F β w b o cs):R F β w (.pt cs) (.pointer (some ⟨b,o,none⟩)):=by
  obtain ⟨us,h4,h5⟩:=h
  exact .pt cs b o us h1 h2 h3 h4 h5
theorem R.rp_inv (hm:MSim P F m β w) {i off:Nat} {cs:List D} {e:TypeId} {v:Value} (h:R F β w (.rp i off) v) (hi:m i=some (.cells cs e)):
    ∃ b o room sz,β i=some (.cells b o cs.length room sz)∧v=.pointer (some ⟨b,o+off,none⟩)∧RowR P F β w (.cells cs e) (.cells b o cs.length room sz):=by
  obtain ⟨p,hp,hrow⟩:=hm.row i _ hi
  cases h with
  | rpd _ _ _ h _=>
    rw [h] at hp
    cases hp
    cases hrow
  | rp _ _ b o len room sz h=>
    rw [h] at hp
    cases hp
    obtain ⟨_,h2,_,_⟩:=hrow.rd
    subst h2
    exact ⟨b,o,room,sz,h,rfl,hrow⟩
theorem run_load_rd {t:TypeId} (ht:tyOk P t=true) {b o:Nat} {cs:List D} (h:Rd F β w b o cs) (hl:P.cellsOf t≤cs.length):
    ∃ v,(loadVar t ⟨b,o,none⟩).run P w=.ok v w∧R F β w (takeV P t cs) v:=by
  obtain ⟨us,h1,h2⟩:=h
  obtain ⟨i,d,z,hi,hd,hz,h1c,_⟩:=tyOk_spec ht
  unfold loadVar takeV
  simp only [Sem.run_bind,run_isAgg' w (tyOk_und ht),Result.andThen_ok]
  cases ha:aggP P t with
  | true=>
    have hc:=run_loadCells (P:=P) w ⟨b,o,none⟩ (P.cellsOf t) us (fun j hj=>by rw [Addr.add_lit];exact (h1 j (by omega)).1)
    refine ⟨_,by simp [run_sizeOf' w (tyOk_info ht),hc];rfl,?_⟩
    refine .agg _ _ (by simp;omega) fun k d v hk hv=>?_
    simp only [List.getElem?_map] at hv
    rw [List.getElem?_take] at hk
    split at hk
    · rename_i hlt
      have:(List.range (P.cellsOf t))[k]? =some k:=by simp [hlt]
      rw [this] at hv
      simp at hv
      subst hv
      exact h2 k d hk
    · cases hk
  | false=>
    have h1':=h1c ha
    have h0:=(h1 0 (by omega)).1
    rw [Nat.add_zero] at h0
    refine ⟨us 0,by simp [h0],?_⟩
    cases cs with
    | nil=>simp at hl;omega
    | cons d ds=>exact h2 0 d rfl
theorem ops_load_pt (hm:MSim P F m β w) {t:TypeId} {cs:List D} {v:Value} {pre:Prop} (h:R F β w (.pt cs) v) (ht:tyOk P t=true) (hl:P.cellsOf t≤cs.length):
    OpS P F m nx β w { pre:=pre,val:=takeV P t cs } (do Pure.pure (Next.value (← Instr.loadAt t v))):=by
  obtain ⟨b,o,rfl,_,_,_,hrd⟩:=h.pt_inv
  obtain ⟨u,hu,hr⟩:=run_load_rd ht hrd hl
  exact OpS.pure hm (by simp [Instr.loadAt,Instr.sureAddr,hu]) hr
theorem ops_load_rp (hm:MSim P F m β w) {t:TypeId} {i off:Nat} {cs:List D} {e:TypeId} {v:Value} {pre:Prop} {rd:List Nat} (h:R F β w (.rp i off) v) (hi:m i=some (.cells cs e))
    (ht:tyOk P t=true) (hl:off+P.cellsOf t≤cs.length):
    OpS P F m nx β w { pre:=pre,val:=takeV P t (cs.drop off),rd:=rd } (do Pure.pure (Next.value (← Instr.loadAt t v))):=by
  obtain ⟨b,o,room,sz,hβ,rfl,hrow⟩:=h.rp_inv hm hi
  obtain ⟨u,hu,hr⟩:=run_load_rd ht (hrow.rd.1.drop off) (by simp;omega)
  exact OpS.pure hm (by simp [Instr.loadAt,Instr.sureAddr,hu]) hr
theorem splice_eq {cs:List D} {off:Nat} {xs:List D} (h:off+xs.length≤cs.length):splice cs off xs=cs.take off++xs++cs.drop (off+xs.length):=by
  unfold splice
  split
  · rename_i x
    simp at h
    rw [List.set_eq_take_append_cons_drop,if_pos (by omega)]
    simp
  · rfl
theorem splice_length {cs:List D} {off:Nat} {xs:List D} (h:off+xs.length≤cs.length):(splice cs off xs).length=cs.length:=by
  rw [splice_eq h]
  simp
  omega
theorem splice_get {cs:List D} {off:Nat} {xs:List D} (h:off+xs.length≤cs.length) (k:Nat):(splice cs off xs)[k]? =if k<off then cs[k]? else if k<off+xs.length then xs[k - off]? else cs[k]? :=by
  rw [splice_eq h]
  by_cases h1:k<off
  · rw [if_pos h1,List.append_assoc,List.getElem?_append_left (by simp;omega),List.getElem?_take,if_pos h1]
  · rw [if_neg h1]
    by_cases h2:k<off+xs.length
    · rw [if_pos h2,List.append_assoc,List.getElem?_append_right (by simp;omega),List.length_take,Nat.min_eq_left (by omega),List.getElem?_append_left (by omega)]
    · rw [if_neg h2,List.getElem?_append_right (by simp;omega),List.length_append,List.length_take,Nat.min_eq_left (by omega),List.getElem?_drop]
      congr 1
      omega
theorem vsplice_get (c:List Value) (off:Nat) (xs:List Value) (h:off+xs.length≤c.length) (k:Nat):(c.take off++xs++c.drop (off+xs.length))[k]? =if k<off then c[k]? else if k<off+xs.length then xs[k - off]? else c[k]? :=by
  by_cases h1:k<off
  · rw [if_pos h1,List.append_assoc,List.getElem?_append_left (by simp;omega),List.getElem?_take,if_pos h1]
  · rw [if_neg h1]
    by_cases h2:k<off+xs.length
    · rw [if_pos h2,List.append_assoc,List.getElem?_append_right (by simp;omega),List.length_take,Nat.min_eq_left (by omega),List.getElem?_append_left (by omega)]
    · rw [if_neg h2,List.getElem?_append_right (by simp;omega),List.length_append,List.length_take,Nat.min_eq_left (by omega),List.getElem?_drop]
      congr 1
      omega
theorem write_cells (hm:MSim P F m β w) {i off:Nat} {cs:List D} {e:TypeId} {b o room sz:Nat} (hβ:β i=some (.cells b o cs.length room sz)) (hrow:RowR P F β w (.cells cs e) (.cells b o cs.length room sz))
    {ds:List D} {vs:List Value} (hlen:vs.length=ds.length) (hoff:off+ds.length≤cs.length) (h1:∀ u∈vs,u.oneCell'=true) (hr:∀ (k:Nat) (d:D) (u:Value),ds[k]? =some d→vs[k]? =some u→R F β w d u):
    ∃ w',(storeCells ⟨b,o+off,none⟩ vs).run P w=.ok () w'∧MSim P F (up m i (some (.cells (splice cs off ds) e))) β w'∧Step β w β w':=by
  cases hrow with
  | cells _ _ _ _ _ _ c hc hroom hle hsz hh=>
  have hst:=run_storeCells_at P b (o+off) e vs 0 c w hc (by omega) h1
  simp only [Nat.add_zero] at hst
  have hheap:=setRow_heap w b c (c.toList.take (o+off)++vs++c.toList.drop (o+off+vs.length)).toArray e (0,0) hc
  have hs:Step β w β (w.setRow b (c.toList.take (o+off)++vs++c.toList.drop (o+off+vs.length)).toArray):=
    step_write hm hβ rfl (by simp) fun k hk=>setRow_other w b k _ hk
  refine ⟨_,hst,hm.write hβ rfl (by simp) (fun k hk=>setRow_other w b k _ hk) _ ?_,hs⟩
  have hl:=splice_length (cs:=cs) (off:=off) (xs:=ds) (by omega)
  have hsize:(c.toList.take (o+off)++vs++c.toList.drop (o+off+vs.length)).toArray.size=c.size:=by
    simp only [List.size_toArray,List.length_append,List.length_take,List.length_drop,Array.length_toList]
    omega
  have key:=RowR.cells (P:=P) (F:=F) (β:=β) (w:=w.setRow b (c.toList.take (o+off)++vs++c.toList.drop (o+off+vs.length)).toArray) (splice cs off ds) e b o room sz _ hheap (by rw [hsize];exact hroom) (by omega) hsz (fun k d hk=>by
    rw [splice_get (by omega)] at hk
    have hv:=vsplice_get c.toList (o+off) vs (by simp;omega) (o+k)
    simp only [List.getElem?_toArray]
    by_cases h2:k<off
    · rw [if_pos h2] at hk
      rw [if_pos (by omega)] at hv
      obtain ⟨u,hu1,hu2,hu3⟩:=hh k d hk
      exact ⟨u,by rw [hv];simpa using hu1,hu2.step hs,hu3⟩
    · rw [if_neg h2] at hk
      rw [if_neg (by omega)] at hv
      by_cases h3:k<off+ds.length
      · rw [if_pos h3] at hk
        rw [if_pos (by omega)] at hv
        have hlt:k - off<vs.length:=by omega
        refine ⟨vs[k - off],by rw [hv,show o+k - (o+off)=k - off from by omega];simp [hlt],?_,h1 _ (List.getElem_mem hlt)⟩
        exact (hr (k - off) d vs[k - off] hk (by simp [hlt])).step hs
      · rw [if_neg h3] at hk
        rw [if_neg (by omega)] at hv
        obtain ⟨u,hu1,hu2,hu3⟩:=hh k d hk
        exact ⟨u,by rw [hv];simpa using hu1,hu2.step hs,hu3⟩)
  rw [hl] at key
  exact key
theorem ops_store (hm:MSim P F m β w) {t:TypeId} {i off:Nat} {cs:List D} {e:TypeId} {a x:Value} {d:D} {pre:Prop} {rd:List Nat} (h:R F β w (.rp i off) a) (hx:R F β w d x) (hi:m i=some (.cells cs e))
    (ht:tyOk P t=true) (hlen:d.cells.length=P.cellsOf t) (hl:off+P.cellsOf t≤cs.length) (h1:d.cells.all D.one=true):
    OpS P F m nx β w { pre:=pre,val:=.tup [],ups:=[(i,some (.cells (splice cs off d.cells) e))],rd:=rd } (do Instr.storeAt t a x;Pure.pure Next.skip):=by
  obtain ⟨b,o,room,sz,hβ,rfl,hrow⟩:=h.rp_inv hm hi
  obtain ⟨c1,c2,c3⟩:=hx.cells h1
  obtain ⟨w',hst,hm',hs⟩:=write_cells (P:=P) hm hβ hrow (off:=off) (ds:=d.cells) (vs:=x.cells.toList) (by simpa using c1) (by omega) c3 (fun k d' u hk hu=>(c2 k d' u hk (by simpa using hu)).1)
  refine ⟨.skip,undef,w',β,?_,.inr ⟨rfl,rfl⟩,.tup [] [] rfl (by simp),hm',hs,fun _ h _=>h⟩
  have hsz:x.cells.size=P.cellsOf t:=by omega
  simp [Instr.storeAt,Instr.sureAddr,storeVar,run_sizeOf' w (tyOk_info ht),hsz,hst]
theorem new_row (hm:MSim P F m β w) (hn:β nx=none) {cs:List D} {c:List Value} {e:TypeId} (hl:c.length=cs.length) (h1:∀ (k:Nat) (d:D) (u:Value),cs[k]? =some d→c[k]? =some u→R F β w d u∧u.oneCell'=true) (extra:List Value):
    MSim P F (up m nx (some (.cells cs e))) (up β nx (some (.cells w.heap.size 0 cs.length (cs.length+extra.length) (P.cellsOf e)))) (w.alloc (.cells (c++extra).toArray e))∧
    Step β w (up β nx (some (.cells w.heap.size 0 cs.length (cs.length+extra.length) (P.cellsOf e)))) (w.alloc (.cells (c++extra).toArray e)):=by
  have hs:=step_alloc hm (.cells (c++extra).toArray e) hn (.cells w.heap.size 0 cs.length (cs.length+extra.length) (P.cellsOf e)) (fun b hb=>by simp [Pl.blk] at hb;exact hb.symm)
  refine ⟨hm.alloc hn _ _ _ (fun b hb=>by simp [Pl.blk] at hb;exact hb.symm) ?_,hs⟩
  refine .cells cs e w.heap.size 0 _ _ (c++extra).toArray (heap_alloc_new w _) (by simp;omega) (by omega) rfl fun k d hk=>?_
  have hk':k<cs.length:=(List.getElem?_eq_some_iff.1 hk).1
  have hkc:k<c.length:=by omega
  obtain ⟨h2,h3⟩:=h1 k d c[k] hk (by simp [hkc])
  refine ⟨c[k],?_,h2.step hs,h3⟩
  rw [Nat.zero_add,List.getElem?_toArray,List.getElem?_append_left hkc]
  simp [hkc]
theorem fresh_up {p:Pl}:∀ i,β i=none→(i<nx∨nx+1≤i)→up β nx (some p) i=none:=fun i h hi=>by
  rw [up_ne _ _ (by omega)]
  exact h
theorem newVar_run (t:TypeId) (v:Value):(newVar t v).run P w=.ok ⟨w.heap.size,0,none⟩ (w.alloc (.cells v.cells t)):=by
  simp [newVar,newRow]
theorem ops_box (hm:MSim P F m β w) (hn:β nx=none) {t:TypeId} {d:D} {v:Value} {pre:Prop} (h:R F β w d v) (h1:d.cells.all D.one=true):
    OpS P F m nx β w { pre:=pre,val:=.rp nx 0,ups:=[(nx,some (.cells d.cells t))],new:=1 } (do Pure.pure (Next.value (← Instr.box t v))):=by
  obtain ⟨c1,c2,c3⟩:=h.cells h1
  obtain ⟨h2,h3⟩:=new_row hm hn (cs:=d.cells) (c:=v.cells.toList) (e:=t) (by simpa using c1) (fun k e u hk hu=>c2 k e u hk (by simpa using hu)) []
  simp only [List.append_nil,Array.toArray_toList] at h2 h3
  refine ⟨_,_,_,_,by simp [Instr.box,newVar_run];rfl,.inl rfl,?_,h2,h3,fresh_up⟩
  exact .rp nx 0 w.heap.size 0 _ _ _ (up_same _ _ _)
theorem zero_R {z:Value} {t:TypeId} (hz:zeroP P t=z.cells.toList.map toD1) (hone:∀ u∈z.cells.toList,(toD1 u).one=true):
    z.cells.toList.length=(zeroP P t).length∧∀ (k:Nat) (d:D) (u:Value),(zeroP P t)[k]? =some d→z.cells.toList[k]? =some u→R F β w d u∧u.oneCell'=true:=by
  rw [hz]
  refine ⟨by simp,fun k d u hk hu=>?_⟩
  rw [List.getElem?_map,hu] at hk
  simp only [Option.map_some,Option.some.injEq] at hk
  subst hk
  have:=toD1_R (F:=F) (β:=β) (w:=w) u
  exact ⟨this,this.one (hone u (List.mem_of_getElem? hu))⟩
theorem ops_alloc (hm:MSim P F m β w) (hn:β nx=none) {t:TypeId} {pre:Prop} (ht:tyOk P t=true):
    OpS P F m nx β w { pre:=pre,val:=.rp nx 0,ups:=[(nx,some (.cells (zeroP P t) t))],new:=1 } (do Pure.pure (Next.value (← Instr.alloc t true (.tuple #[])))):=by
  obtain ⟨z,hz,_,h3,h4⟩:=run_zeroValue' (P:=P) w ht
  obtain ⟨c1,c2⟩:=zero_R (F:=F) (β:=β) (w:=w) h3 h4
  obtain ⟨h5,h6⟩:=new_row hm hn (cs:=zeroP P t) (c:=z.cells.toList) (e:=t) c1 c2 []
  simp only [List.append_nil,Array.toArray_toList] at h5 h6
  refine ⟨_,_,_,_,by simp [Instr.alloc,hz,newVar_run];rfl,.inl rfl,?_,h5,h6,fresh_up⟩
  exact .rp nx 0 w.heap.size 0 _ _ _ (up_same _ _ _)
end
section
variable {P:Program} {F:Nat→Prop} {m:Mem} {nx:Nat} {β:Pla} {w:World}
def Rl (F:Nat→Prop) (β:Pla) (w:World) (cs:List D) (c:List Value):Prop:=
  c.length=cs.length∧∀ (k:Nat) (d:D) (u:Value),cs[k]? =some d→c[k]? =some u→R F β w d u∧u.oneCell'=true
theorem foldl_get (off:Nat):∀ (l:List Value) (j:Nat) (cells:Array Value) (k:Nat),off+j+l.length≤cells.size→
    ((l.zipIdx j).foldl (fun cs (c,j)=>cs.setIfInBounds (off+j) c) cells)[k]? =if k<off+j then cells[k]? else if k<off+j+l.length then l[k - (off+j)]? else cells[k]?
  | [],j,cells,k,_=>by
    simp only [List.zipIdx_nil,List.foldl_nil,List.length_nil,Nat.add_zero]
    split
    · rfl
    · rfl
  | v::l,j,cells,k,h=>by
    simp only [List.zipIdx_cons,List.foldl_cons]
    simp at h
    rw [foldl_get off l (j+1) _ k (by simp;omega)]
    simp only [List.length_cons]
    by_cases h1:k<off+j
    · rw [if_pos (by omega),if_pos h1,Array.getElem?_setIfInBounds_ne (by omega)]
    · rw [if_neg h1]
      by_cases h2:k=off+j
      · subst h2
        rw [if_pos (by omega),if_pos (by omega)]
        have:off+j<cells.size:=by omega
        simp [this]
      · rw [if_neg (by omega)]
        by_cases h3:k<off+(j+1)+l.length
        · rw [if_pos h3,if_pos (by omega),show k - (off+j)=(k - (off+(j+1)))+1 from by omega]
          simp
        · rw [if_neg h3,if_neg (by omega),Array.getElem?_setIfInBounds_ne (by omega)]
theorem foldl_cells (off:Nat) (l:List Value) (cells:Array Value) (h:off+l.length≤cells.size):
    (l.zipIdx.foldl (fun cs (c,j)=>cs.setIfInBounds (off+j) c) cells).toList=cells.toList.take off++l++cells.toList.drop (off+l.length):=by
  apply List.ext_getElem?
  intro k
  rw [vsplice_get _ _ _ (by simpa using h) k]
  have:=foldl_get off l 0 cells k (by simpa using h)
  simpa using this
theorem fill_R (place:Nat→Option (Nat×Nat)):∀ (ps:List (Nat×D)) (qs:List (Nat×Value)) (cs:List D) (c:Array Value) (cs':List D),Rl F β w cs c.toList→ps.length=qs.length→
    (∀ (k:Nat) (p:Nat×D) (q:Nat×Value),ps[k]? =some p→qs[k]? =some q→p.1=q.1∧R F β w p.2 q.2)→fillD place cs ps=some cs'→∃ c',Instr.fill place c qs=some c'∧Rl F β w cs' c'.toList
  | [],[],cs,c,cs',h,_,_,hf=>by
    simp only [fillD,Option.some.injEq] at hf
    subst hf
    exact ⟨c,rfl,h⟩
  | [],_::_,_,_,_,_,hl,_,_=>by simp at hl
  | _::_,[],_,_,_,_,hl,_,_=>by simp at hl
  | (i,d)::ps,(i',v)::qs,cs,c,cs',h,hl,hp,hf=>by
    obtain ⟨h1,h2⟩:=hp 0 _ _ rfl rfl
    simp only at h1 h2
    subst h1
    simp only [fillD] at hf
    cases hpl:place i with
    | none=>simp [hpl] at hf
    | some q=>
      obtain ⟨off,size⟩:=q
      simp only [hpl] at hf
      split at hf
      · rename_i hc
        obtain ⟨hc1,hc2,hc3⟩:=hc
        obtain ⟨k1,k2,k3⟩:=h2.cells hc3
        have hcl:=h.1
        simp at hcl
        have hcond:¬ (v.cells.size≠size||off+v.cells.size>c.size)=true:=by
          simp;omega
        simp only [Instr.fill,hpl]
        rw [if_neg hcond]
        have hfold:=foldl_cells off v.cells.toList c (by simp;omega)
        have harr:v.cells.zipIdx.foldl (fun cs (c,j)=>cs.setIfInBounds (off+j) c) c=(v.cells.toList.zipIdx.foldl (fun cs (c,j)=>cs.setIfInBounds (off+j) c) c):=by
          rw [← Array.foldl_toList]
          simp
        rw [harr]
        refine fill_R place ps qs (splice cs off d.cells) _ cs' ?_ (by simpa using hl) (fun k p q hk hq=>hp (k+1) p q hk hq) hf
        rw [hfold]
        refine ⟨?_,fun k e u hk hu=>?_⟩
        · rw [splice_length (by omega)]
          simp
          omega
        · rw [splice_get (by omega)] at hk
          rw [vsplice_get _ _ _ (by simp;omega)] at hu
          simp only [Array.length_toList] at hu
          by_cases g1:k<off
          · rw [if_pos g1] at hk hu
            exact h.2 k e u hk hu
          · rw [if_neg g1] at hk hu
            by_cases g2:k<off+d.cells.length
            · rw [if_pos g2] at hk
              rw [if_pos (by omega)] at hu
              exact k2 (k - off) e u hk (by simpa using hu)
            · rw [if_neg g2] at hk
              rw [if_neg (by omega)] at hu
              exact h.2 k e u hk hu
      · cases hf
theorem repl_get (z:List D) (hz:0<z.length):∀ (n k:Nat),k<n*z.length→(replD n z)[k]? =z[k % z.length]?
  | 0,k,h=>by simp at h
  | n+1,k,h=>by
    have e:replD (n+1) z=z++replD n z:=by simp [replD,List.replicate_succ]
    rw [e]
    by_cases hk:k<z.length
    · rw [List.getElem?_append_left hk,Nat.mod_eq_of_lt hk]
    · rw [List.getElem?_append_right (by omega),repl_get z hz n (k - z.length) (by rw [Nat.add_mul] at h;omega)]
      rw [← Nat.mod_eq_sub_mod (by omega)]
theorem repl_length (n:Nat) (z:List D):(replD n z).length=n*z.length:=by
  simp [replD,List.length_flatten]
theorem zeros_R {t:TypeId} {z:Value} (hs:z.cells.size=P.cellsOf t) (hz:zeroP P t=z.cells.toList.map toD1) (hone:∀ u∈z.cells.toList,(toD1 u).one=true) (n N:Nat) (hN:N=n*P.cellsOf t) (zero:Array Value) (hzero:0<N→zero=z.cells):
    Rl F β w (replD n (zeroP P t)) ((Array.range N).map (zero[· % zero.size]!)).toList:=by
  obtain ⟨c1,c2⟩:=zero_R (F:=F) (β:=β) (w:=w) hz hone
  have hlen:(zeroP P t).length=P.cellsOf t:=by rw [← c1];simpa using hs
  refine ⟨by simp [repl_length,hlen,hN],fun k d u hk hu=>?_⟩
  have hlt:k<N:=by
    have:=(List.getElem?_eq_some_iff.1 hk).1
    rw [repl_length,hlen] at this
    omega
  have hpos:0<N:=by omega
  have hzz:=hzero hpos
  subst hzz
  have h0:0<P.cellsOf t:=by
    rcases Nat.eq_zero_or_pos (P.cellsOf t) with h | h
    · rw [h] at hN;omega
    · exact h
  rw [repl_get _ (by omega) n k (by rw [hlen];omega),hlen] at hk
  simp [hlt] at hu
  have hm:k % P.cellsOf t<z.cells.size:=by rw [hs];exact Nat.mod_lt _ h0
  refine c2 (k % P.cellsOf t) d u hk ?_
  rw [← hu,hs]
  simp [hm]
theorem ops_build_struct (hm:MSim P F m β w) {t:TypeId} {fs:Array Field} {ps:List (Nat×D)} {qs:Array (Nat×Value)} {cs':List D} {pre:Prop} (ht:tyOk P t=true) (hu:P.underlying t=some (.struct fs)) (hfs:fs.toList.all (fun f=>(P.info? f.type).isSome)=true)
    (hl:ps.length=qs.size) (hp:∀ (k:Nat) (p:Nat×D) (q:Nat×Value),ps[k]? =some p→qs[k]? =some q→p.1=q.1∧R F β w p.2 q.2)
    (hf:fillD (fun i=>(fs[i]?).map fun f=>(f.offset,P.cellsOf f.type)) (zeroP P t) ps=some cs'):
    OpS P F m nx β w { pre:=pre,val:=.agg cs' } (do Pure.pure (Next.value (← Instr.build t qs))):=by
  obtain ⟨z,hz,hzs,h3,h4⟩:=run_zeroValue' (P:=P) w ht
  obtain ⟨c1,c2⟩:=zero_R (F:=F) (β:=β) (w:=w) h3 h4
  have hplaces:(fs.mapM fun f=>(do pure (f.offset, ← sizeOf f.type):Sem (Nat×Nat))).run P w=.ok (fs.map fun f=>(f.offset,P.cellsOf f.type)) w:=by
    rw [Array.mapM_eq_mapM_toList]
    have key:∀ l:List Field,l.all (fun f=>(P.info? f.type).isSome)=true→(l.mapM fun f=>(Prod.mk f.offset<$>sizeOf f.type:Sem (Nat×Nat))).run P w=.ok (l.map fun f=>(f.offset,P.cellsOf f.type)) w:=by
      intro l
      induction l with
      | nil=>intro _;simp
      | cons f l ih=>
        intro hl
        simp only [List.all_cons,Bool.and_eq_true] at hl
        simp [List.mapM_cons,run_sizeOf' w hl.1,ih hl.2]
    simp [key fs.toList hfs, ← Array.toList_map]
  obtain ⟨c',hfill,hR⟩:=fill_R (F:=F) (β:=β) (w:=w) (fun i=>(fs.map fun f=>(f.offset,P.cellsOf f.type))[i]?) ps qs.toList (zeroP P t) z.cells cs' ⟨c1,c2⟩ (by simpa using hl) (fun k p q hk hq=>hp k p q hk (by simpa using hq)) (by
    rw [← hf]
    congr 1
    funext i
    simp [Array.getElem?_map])
  refine OpS.pure hm (v:=.agg c') ?_ ?_
  · simp only [Instr.build,Sem.run_bind,hz,Result.andThen_ok,run_underlying hu,hplaces,hfill,Sem.run_pure]
  · have:=R.agg (F:=F) (β:=β) (w:=w) cs' c'.toList hR.1 (fun k d v hk hv=>(hR.2 k d v hk hv).1)
    simpa using this
theorem ops_build_array (hm:MSim P F m β w) {t e:TypeId} {n:Nat} {ps:List (Nat×D)} {qs:Array (Nat×Value)} {cs':List D} {pre:Prop} (ht:tyOk P t=true) (hu:P.underlying t=some (.array n e)) (he:tyOk P e=true)
    (hl:ps.length=qs.size) (hp:∀ (k:Nat) (p:Nat×D) (q:Nat×Value),ps[k]? =some p→qs[k]? =some q→p.1=q.1∧R F β w p.2 q.2)
    (hf:fillD (fun i=>some (i*P.cellsOf e,P.cellsOf e)) (zeroP P t) ps=some cs'):
    OpS P F m nx β w { pre:=pre,val:=.agg cs' } (do Pure.pure (Next.value (← Instr.build t qs))):=by
  obtain ⟨z,hz,hzs,h3,h4⟩:=run_zeroValue' (P:=P) w ht
  obtain ⟨c1,c2⟩:=zero_R (F:=F) (β:=β) (w:=w) h3 h4
  obtain ⟨c',hfill,hR⟩:=fill_R (F:=F) (β:=β) (w:=w) _ ps qs.toList (zeroP P t) z.cells cs' ⟨c1,c2⟩ (by simpa using hl) (fun k p q hk hq=>hp k p q hk (by simpa using hq)) hf
  refine OpS.pure hm (v:=.agg c') ?_ ?_
  · simp only [Instr.build,Sem.run_bind,hz,Result.andThen_ok,run_underlying hu,run_sizeOf' w (tyOk_info he),hfill,Sem.run_pure]
  · have:=R.agg (F:=F) (β:=β) (w:=w) cs' c'.toList hR.1 (fun k d v hk hv=>(hR.2 k d v hk hv).1)
    simpa using this
theorem ops_buildSlice (hm:MSim P F m β w) (hn:β nx=none) {t:TypeId} {n:Nat} {ps:List (Nat×D)} {qs:Array (Nat×Value)} {cs':List D} {pre:Prop} (ht:slT P t=true) (h24:n*P.cellsOf (elemP P t)≤2 ^ 24) (hmax:n≤maxLen)
    (hl:ps.length=qs.size) (hp:∀ (k:Nat) (p:Nat×D) (q:Nat×Value),ps[k]? =some p→qs[k]? =some q→p.1=q.1∧R F β w p.2 q.2)
    (hf:fillD (fun i=>some (i*P.cellsOf (elemP P t),P.cellsOf (elemP P t))) (replD n (zeroP P (elemP P t))) ps=some cs'):
    OpS P F m nx β w { pre:=pre,val:=.rs nx 0 n,ups:=[(nx,some (.cells cs' (elemP P t)))],new:=1 } (do Pure.pure (Next.value (← Instr.buildSlice t n qs))):=by
  obtain ⟨hu,he⟩:=slT_spec ht
  obtain ⟨z,hz,hzs,h3,h4⟩:=run_zeroValue' (P:=P) w he
  have hR0:=zeros_R (F:=F) (β:=β) (w:=w) (P:=P) hzs h3 h4 n (n*P.cellsOf (elemP P t)) rfl (if n*P.cellsOf (elemP P t)=0 then #[] else z.cells) (fun h=>by rw [if_neg (by omega)])
  obtain ⟨c',hfill,hR⟩:=fill_R (F:=F) (β:=β) (w:=w) _ ps qs.toList _ _ cs' hR0 (by simpa using hl) (fun k p q hk hq=>hp k p q hk (by simpa using hq)) hf
  obtain ⟨h5,h6⟩:=new_row hm hn (cs:=cs') (c:=c'.toList) (e:=elemP P t) hR.1 hR.2 []
  simp only [List.append_nil,Array.toArray_toList,List.length_nil,Nat.add_zero] at h5 h6
  have hzr:(if n*P.cellsOf (elemP P t)=0 then Result.ok #[] w else Result.ok z.cells w)=.ok (if n*P.cellsOf (elemP P t)=0 then #[] else z.cells) w:=by
    split<;>rfl
  have hrun:(Instr.buildSlice t n qs).run P w=.ok (.slice (some ⟨w.heap.size,0,none⟩) n n) (w.alloc (.cells c' (elemP P t))):=by
    unfold Instr.buildSlice
    simp only [Sem.run_bind,run_underlying hu,Result.andThen_ok,run_sizeOf' w (tyOk_info he),Sem.run_ite,if_neg (show ¬ n*P.cellsOf (elemP P t)>2 ^ 24 by omega)]
    by_cases hz0:n*P.cellsOf (elemP P t)=0
    · simp only [hz0,↓reduceIte] at hfill ⊢
      simp only [Sem.run_bind,Sem.run_pure,Result.andThen_ok,hfill]
      simp [newRow]
    · simp only [hz0,↓reduceIte] at hfill ⊢
      simp [hfill,newRow,hz]
  have hcl:cs'.length=n*P.cellsOf (elemP P t):=by
    have hfl:∀ (place:Nat→Option (Nat×Nat)) (ps:List (Nat×D)) (cs cs':List D),fillD place cs ps=some cs'→cs'.length=cs.length:=by
      intro place ps
      induction ps with
      | nil=>intro cs cs' h;simp only [fillD,Option.some.injEq] at h;rw [h]
      | cons p ps ih=>
        intro cs cs' h
        obtain ⟨i,d⟩:=p
        simp only [fillD] at h
        split at h
        · cases h
        · split at h
          · rename_i hc
            rw [ih _ _ h,splice_length (by omega)]
          · cases h
    rw [hfl _ _ _ _ hf,repl_length,h3]
    simp [hzs]
  refine ⟨_,_,_,_,by simp only [Sem.run_bind,hrun,Result.andThen_ok,Sem.run_pure];rfl,.inl rfl,?_,h5,h6,fresh_up⟩
  exact .rs nx 0 n n w.heap.size 0 _ _ _ (up_same _ _ _) (Nat.le_refl _) hmax (by omega) (by omega)
theorem ops_makeSlice (hm:MSim P F m β w) (hn:β nx=none) {t:TypeId} {n:Int} {pre:Prop} (h0:0≤n) (h1:n≤9223372036854775807) (h2:P.bytesOf (elemP P t)*n≤281474976710656) (ht:slT P t=true):
    OpS P F m nx β w { pre:=pre,val:=.rs nx 0 n.toNat,ups:=[(nx,some (.cells (replD n.toNat (zeroP P (elemP P t))) (elemP P t)))],new:=1 } (do Pure.pure (Next.value (← Instr.makeSlice t (.int .i64 n) (.int .i64 n)))):=by
  obtain ⟨hu,he⟩:=slT_spec ht
  obtain ⟨i,d,z,hi,hd,hz,_,hzs,h3,hsz,hby,h4⟩:=tyOk_spec he
  have hz':(zeroValue (elemP P t)).run P w=.ok z w:=by simp [zeroValue,typeInfo,hi,hz]
  have hR0:=zeros_R (F:=F) (β:=β) (w:=w) (P:=P) hzs h3 h4 n.toNat (n.toNat*P.cellsOf (elemP P t)) rfl (if n.toNat*P.cellsOf (elemP P t)=0 then #[] else z.cells) (fun h=>by rw [if_neg (by omega)])
  generalize hc:((Array.range (n.toNat*P.cellsOf (elemP P t))).map ((if n.toNat*P.cellsOf (elemP P t)=0 then #[] else z.cells)[· % (if n.toNat*P.cellsOf (elemP P t)=0 then #[] else z.cells).size]!))=c at hR0
  obtain ⟨h5,h6⟩:=new_row hm hn (cs:=replD n.toNat (zeroP P (elemP P t))) (c:=c.toList) (e:=elemP P t) hR0.1 hR0.2 []
  simp only [List.append_nil,Array.toArray_toList,List.length_nil,Nat.add_zero] at h5 h6
  have hzr:(if n.toNat*P.cellsOf (elemP P t)=0 then Result.ok #[] w else Result.ok z.cells w)=.ok (if n.toNat*P.cellsOf (elemP P t)=0 then #[] else z.cells) w:=by
    split<;>rfl
  have hwrap:IntKind.i64.wrap n=n:=Go.IntWalk.i64_in n ⟨by omega,h1⟩
  have hneg:¬ n<0:=by omega
  have hbig:¬ (P.bytesOf (elemP P t):Int)*n>2 ^ 48:=by omega
  have hrun:(Instr.makeSlice t (.int .i64 n) (.int .i64 n)).run P w=.ok (.slice (some ⟨w.heap.size,0,none⟩) n.toNat n.toNat) (w.alloc (.cells c (elemP P t))):=by
    unfold Instr.makeSlice
    simp only [Sem.run_bind,run_underlying hu,Result.andThen_ok,asInt,asIntOf,Sem.run_pure,typeInfo,run_program,hi,hwrap,hby,hneg,hbig,decide_false,Bool.or_false,Bool.false_or,Bool.false_eq_true,if_false,Sem.run_ite,run_askRoom,run_sizeOf' w (tyOk_info he),
      show ¬ n>n from by omega]
    by_cases hz0:n.toNat*P.cellsOf (elemP P t)=0
    · simp only [hz0,↓reduceIte] at hc ⊢
      simp only [Sem.run_bind,Sem.run_pure,Result.andThen_ok,hc]
      simp [newRow]
    · simp only [hz0,↓reduceIte] at hc ⊢
      simp only [Sem.run_bind,Sem.run_pure,hz',Result.andThen_ok,hc]
      simp [newRow]
  have hlen:(replD n.toNat (zeroP P (elemP P t))).length=n.toNat*P.cellsOf (elemP P t):=by rw [repl_length,h3];simp [hzs]
  refine ⟨_,_,_,_,by simp only [Sem.run_bind,hrun,Result.andThen_ok,Sem.run_pure];rfl,.inl rfl,?_,h5,h6,fresh_up⟩
  exact .rs nx 0 n.toNat n.toNat w.heap.size 0 _ _ _ (up_same _ _ _) (Nat.le_refl _) (by simp only [maxLen];omega) (by omega) (by omega)
end
section
variable {P:Program} {F:Nat→Prop} {m:Mem} {nx:Nat} {β:Pla} {w:World}
theorem OpS.val (hm:MSim P F m β w) {pre:Prop} {d:D} {rd:List Nat} {s:Sem Next} {v:Value} (hr:s.run P w=.ok (.value v) w) (h:R F β w d v):OpS P F m nx β w { pre:=pre,val:=d,rd:=rd } s:=
  ⟨.value v,v,w,β,hr,.inl rfl,h,hm,Step.refl β w,fun _ h _=>h⟩
theorem eqGuard_plain (op:BinOp) (t:TypeId) (x y:Operand) (a b:Value) (h1:∀ u,a≠ .agg u) (h2:a≠ .nilIface):(eqGuard op t x y a b).run P w=.ok () w:=by
  unfold eqGuard
  generalize (!(op matches .eql | .neq))=c
  cases c
  · cases a<;>first | rfl | exact absurd rfl h2 | exact absurd rfl (h1 _)
  · rfl
theorem eqGuard_other (op:BinOp) (t:TypeId) (x y:Operand) (a b:Value) (h1:op≠ .eql) (h2:op≠ .neq):(eqGuard op t x y a b).run P w=.ok () w:=by
  cases op<;>first | rfl | exact absurd rfl h1 | exact absurd rfl h2
theorem run_equal {t:TypeId} {x y:Value} {b:Bool} (h:∀ d,(Op.equalIn (d+1) t x y).run P w=.ok b w):(Op.equal t x y).run P w=.ok b w:=h 9999
theorem run_eqlD {t:TypeId} {x y:Value} {b:Bool} (h:(Op.equal t x y).run P w=.ok b w):
    (do pure (Value.bool (← Op.equal t x y)):Sem Value).run P w=.ok (.bool b) w∧(do pure (Value.bool (!(← Op.equal t x y))):Sem Value).run P w=.ok (.bool !b) w:=by
  constructor<;>simp only [Sem.run_bind,h,Result.andThen_ok,Sem.run_pure]
theorem run_binV (op:BinOp) (t:TypeId) (x y v:Value) (p:Prop) (h:binV op x y=some (p,v)) (hp:p):(binOp op t x y).run P w=.ok v w:=by
  cases x<;>cases y<;>cases op<;>simp only [binV,Option.some.injEq,Prod.mk.injEq,reduceCtorEq] at h<;>
    (obtain ⟨rfl,rfl⟩:=h)<;>
    first
    | (subst hp;simp [binOp,Op.intArith,Op.intCmp,Op.intBits,intBitsV];done)
    | (obtain ⟨rfl,hb⟩:=hp;simp [binOp,Op.intDiv,hb];done)
    | (simp [binOp,Op.shift,show ¬ _<(0:Int) from Int.not_lt.2 hp];done)
    | (simp [binOp,Op.stringOp];done)
theorem binV_shape {op:BinOp} {x y v:Value} {p:Prop} (h:binV op x y=some (p,v)):plain v=true∧(∀ u,x≠ .agg u)∧x≠ .nilIface:=by
  cases x<;>cases y<;>cases op<;>simp only [binV,Option.some.injEq,Prod.mk.injEq,reduceCtorEq] at h<;>(obtain ⟨rfl,rfl⟩:=h)<;>simp [plain]
theorem ops_binV (hm:MSim P F m β w) (op:BinOp) (t:TypeId) (ox oy:Operand) {a b x y v:Value} {p pre:Prop} (hx:R F β w (.s a) x) (hy:R F β w (.s b) y) (h:binV op a b=some (p,v)) (hp:p):
    OpS P F m nx β w { pre:=pre,val:=.s v } ((do eqGuard op t ox oy x y;binOp op t x y)>>=fun r=>Pure.pure (Next.value r)):=by
  obtain ⟨rfl,_⟩:=hx.s_inv
  obtain ⟨rfl,_⟩:=hy.s_inv
  obtain ⟨h1,h2,h3⟩:=binV_shape h
  refine OpS.val hm (v:=v) ?_ (.s v h1)
  simp only [Sem.run_bind,eqGuard_plain op t ox oy x y h2 h3,Result.andThen_ok,run_binV op t x y v p h hp,Sem.run_pure]
theorem boT_spec {t:TypeId} (h:boT P t=true):P.underlying t=some .bool:=by
  unfold boT at h
  split at h
  · assumption
  · cases h
theorem ptT_spec {t:TypeId} (h:ptT P t=true):∃ e,P.underlying t=some (.pointer e):=by
  unfold ptT at h
  split at h
  · exact ⟨_,‹_›⟩
  · cases h
theorem run_eq_bool {t:TypeId} (h:boT P t=true) (a b:Bool):(binOp .eql t (.bool a) (.bool b)).run P w=.ok (.bool (a==b)) w∧(binOp .neq t (.bool a) (.bool b)).run P w=.ok (.bool !(a==b)) w:=by
  have hu:=boT_spec h
  exact run_eqlD (run_equal fun d=>by simp [Op.equalIn,run_underlying hu])
theorem run_eq_ptr {t:TypeId} (h:ptT P t=true) (a:Addr):(binOp .eql t (.pointer (some a)) (.pointer none)).run P w=.ok (.bool false) w∧(binOp .neq t (.pointer (some a)) (.pointer none)).run P w=.ok (.bool true) w:=by
  obtain ⟨e,hu⟩:=ptT_spec h
  exact run_eqlD (run_equal fun d=>by simp [Op.equalIn,run_underlying hu])
theorem run_eq_nil2 {t:TypeId} (h:slT P t=true) (a:Option Addr) (l c:Nat):(binOp .eql t (.slice a l c) (.slice none 0 0)).run P w=.ok (.bool a.isNone) w∧(binOp .neq t (.slice a l c) (.slice none 0 0)).run P w=.ok (.bool !a.isNone) w:=by
  obtain ⟨hu,_⟩:=slT_spec h
  exact run_eqlD (run_equal fun d=>by cases a<;>simp [Op.equalIn,run_underlying hu])
theorem run_eq_nil {t:TypeId} (h:slT P t=true) (a:Option Addr) (l c:Nat):(binOp .eql t (.slice a l c) (.slice none 0 0)).run P w=.ok (.bool a.isNone) w:=(run_eq_nil2 h a l c).1
theorem ops_nil_n (hm:MSim P F m β w) {op:BinOp} {b:Bool} {t:TypeId} {ox oy:Operand} {a:Option Addr} {l c:Nat} {pre:Prop} {rd:List Nat} (ht:slT P t=true) (h:op=if b then .eql else .neq):
    OpS P F m nx β w { pre:=pre,val:=.s (.bool (a.isNone==b)),rd:=rd } ((do eqGuard op t ox oy (.slice a l c) (.slice none 0 0);binOp op t (.slice a l c) (.slice none 0 0))>>=fun r=>Pure.pure (Next.value r)):=by
  obtain ⟨h1,h2⟩:=run_eq_nil2 (P:=P) (w:=w) ht a l c
  refine OpS.val hm (v:=.bool (a.isNone==b)) ?_ (.s _ rfl)
  simp only [Sem.run_bind,eqGuard_plain op t ox oy (.slice a l c) _ (by simp) (by simp),Result.andThen_ok]
  cases b with
  | true=>simp only [if_true] at h;subst h;rw [h1];cases a<;>rfl
  | false=>simp only [Bool.false_eq_true,if_false] at h;subst h;rw [h2];cases a<;>rfl
theorem ops_eq_bool (hm:MSim P F m β w) (op:BinOp) (t:TypeId) (ox oy:Operand) {a b:Bool} {x y:Value} {d:D} {pre:Prop} (hx:R F β w (.s (.bool a)) x) (hy:R F β w (.s (.bool b)) y) (ht:boT P t=true)
    (h:(op=.eql∧d=.s (.bool (a==b)))∨(op=.neq∧d=.s (.bool !(a==b)))):
    OpS P F m nx β w { pre:=pre,val:=d } ((do eqGuard op t ox oy x y;binOp op t x y)>>=fun r=>Pure.pure (Next.value r)):=by
  obtain ⟨rfl,_⟩:=hx.s_inv
  obtain ⟨rfl,_⟩:=hy.s_inv
  rcases h with ⟨rfl,rfl⟩ | ⟨rfl,rfl⟩
  · refine OpS.val hm (v:=.bool (a==b)) ?_ (.s _ rfl)
    simp only [Sem.run_bind,eqGuard_plain _ t ox oy (.bool a) _ (by simp) (by simp),Result.andThen_ok,(run_eq_bool ht a b).1,Sem.run_pure]
  · refine OpS.val hm (v:=.bool !(a==b)) ?_ (.s _ rfl)
    simp only [Sem.run_bind,eqGuard_plain _ t ox oy (.bool a) _ (by simp) (by simp),Result.andThen_ok,(run_eq_bool ht a b).2,Sem.run_pure]
theorem R.rp_ptr {i off:Nat} {v:Value} (h:R F β w (.rp i off) v) (hl:β i≠some .dead):∃ a,v=.pointer (some a):=by
  cases h with
  | rpd _ _ _ h _=>exact absurd h hl
  | rp=>exact ⟨_,rfl⟩
theorem ops_nil_rp (hm:MSim P F m β w) (op:BinOp) (t:TypeId) (ox oy:Operand) {i off:Nat} {x y:Value} {d:D} {pre:Prop} {rd:List Nat} {r:Row} (hx:R F β w (.rp i off) x) (hi:m i=some r) (hy:R F β w (.s (.pointer none)) y) (ht:ptT P t=true)
    (h:(op=.eql∧d=.s (.bool false))∨(op=.neq∧d=.s (.bool true))):
    OpS P F m nx β w { pre:=pre,val:=d,rd:=rd } ((do eqGuard op t ox oy x y;binOp op t x y)>>=fun r=>Pure.pure (Next.value r)):=by
  obtain ⟨p,hp,hrow⟩:=hm.row i _ hi
  obtain ⟨a,rfl⟩:=hx.rp_ptr (fun e=>by rw [e] at hp;cases hp;exact hrow.live rfl)
  obtain ⟨rfl,_⟩:=hy.s_inv
  rcases h with ⟨rfl,rfl⟩ | ⟨rfl,rfl⟩
  · refine OpS.val hm (v:=.bool false) ?_ (.s _ rfl)
    simp only [Sem.run_bind,eqGuard_plain _ t ox oy (.pointer (some a)) _ (by simp) (by simp),Result.andThen_ok,(run_eq_ptr ht a).1,Sem.run_pure]
  · refine OpS.val hm (v:=.bool true) ?_ (.s _ rfl)
    simp only [Sem.run_bind,eqGuard_plain _ t ox oy (.pointer (some a)) _ (by simp) (by simp),Result.andThen_ok,(run_eq_ptr ht a).2,Sem.run_pure]
theorem ops_nil_sl (hm:MSim P F m β w) (t:TypeId) (ox oy:Operand) {es:List D} {n:Nat} {x:Value} {pre:Prop} (hx:R F β w (.sl es n) x) (ht:slT P t=true):
    OpS P F m nx β w { pre:=pre,val:=if n=0 then .ub else .s (.bool false) } ((do eqGuard .eql t ox oy x (.slice none 0 0);binOp .eql t x (.slice none 0 0))>>=fun r=>Pure.pure (Next.value r)):=by
  have hrun:=fun a l c=>run_eq_nil (P:=P) (w:=w) ht a l c
  cases hx with
  | sln a cap=>
    refine OpS.val hm (v:=.bool a.isNone) ?_ (by simpa using R.ub _)
    simp only [Sem.run_bind,eqGuard_plain _ t ox oy (.slice a 0 cap) _ (by simp) (by simp),Result.andThen_ok,hrun,Sem.run_pure]
  | sl _ _ b o cap us h1 h2 h3 h4 h5 h6 h7=>
    refine OpS.val hm (v:=.bool false) ?_ ?_
    · simp only [Sem.run_bind,eqGuard_plain _ t ox oy (.slice (some ⟨b,o,none⟩) n cap) _ (by simp) (by simp),Result.andThen_ok,hrun,Sem.run_pure]
      rfl
    · split
      · exact .ub _
      · exact .s _ rfl
theorem ops_unV (hm:MSim P F m β w) (op:UnOp) {a x v:Value} {pre:Prop} (hx:R F β w (.s a) x) (h:unV op a=some v):
    OpS P F m nx β w { pre:=pre,val:=.s v } (do Pure.pure (Next.value (← Op.unary op x))):=by
  obtain ⟨rfl,_⟩:=hx.s_inv
  have:(Op.unary op x).run P w=.ok v w∧plain v=true:=by
    cases x<;>cases op<;>simp only [unV,Option.some.injEq,reduceCtorEq] at h<;>subst h<;>simp [Op.unary,Op.intArith,Op.intBits,intBitsV,plain]
  exact OpS.val hm (by simp [this.1]) (.s _ this.2)
theorem ops_conv_int (hm:MSim P F m β w) (src dst:TypeId) {k k':IntKind} {n:Int} {x:Value} {pre:Prop} (hx:R F β w (.s (.int k' n)) x) (hd:P.underlying dst=some (.int k)) (hs:(P.underlying src).isSome=true):
    OpS P F m nx β w { pre:=pre,val:=.s (.int k (k.wrap n)) } (do Pure.pure (Next.value (← convert src dst x))):=by
  obtain ⟨rfl,_⟩:=hx.s_inv
  obtain ⟨d,hs⟩:=Option.isSome_iff_exists.1 hs
  refine OpS.val hm (v:=.int k (k.wrap n)) ?_ (.s _ rfl)
  cases d<;>simp [convert,run_underlying hd,run_underlying hs,Conv.intToInt]
theorem cells_info {t:TypeId} (h:0<P.cellsOf t):(P.info? t).isSome=true:=by
  cases hi:P.info? t with
  | none=>simp [Program.cellsOf,hi] at h
  | some i=>rfl
theorem ops_fieldAddr_pt (hm:MSim P F m β w) {t:TypeId} {cs:List D} {x:Value} {k off:Nat} {ft:TypeId} {pre:Prop} (hx:R F β w (.pt cs) x) (hf:fieldP P t k=some (off,ft)) (h0:0<P.cellsOf ft):
    OpS P F m nx β w { pre:=pre,val:=.pt (cs.drop off) } (do Pure.pure (Next.value (← Instr.fieldAt t x k))):=by
  obtain ⟨b,o,rfl,h1,h2,h3,hrd⟩:=hx.pt_inv
  unfold fieldP at hf
  split at hf
  · rename_i fs hu
    cases hk:fs[k]? with
    | none=>simp [hk] at hf
    | some f=>
      simp [hk] at hf
      obtain ⟨rfl,rfl⟩:=hf
      refine OpS.val hm (v:=.pointer (some ⟨b,o+f.offset,none⟩)) ?_ (R.pt_mk h1 h2 h3 (hrd.drop _))
      simp [Instr.fieldAt,run_underlying hu,hk,Instr.sureAddr,fieldPlace,run_sizeOf' w (cells_info h0),Nat.ne_of_gt h0,Addr.add_lit]
  · cases hf
end
section
variable {P:Program} {F:Nat→Prop} {m:Mem} {nx:Nat} {β:Pla} {w:World}
theorem R.rp_any {i off:Nat} {v:Value} (h:R F β w (.rp i off) v) {r:Row} {p:Pl} (hp:β i=some p) (hrow:RowR P F β w r p):
    ∃ b o len room sz,β i=some (.cells b o len room sz)∧v=.pointer (some ⟨b,o+off,none⟩):=by
  cases h with
  | rpd _ _ _ h _=>rw [h] at hp;cases hp;exact absurd rfl hrow.live
  | rp _ _ b o len room sz h=>exact ⟨b,o,len,room,sz,h,rfl⟩
theorem ops_fieldAddr_rp (hm:MSim P F m β w) {t:TypeId} {i o:Nat} {x:Value} {k off:Nat} {ft:TypeId} {pre:Prop} {rd:List Nat} {r:Row} (hx:R F β w (.rp i o) x) (hi:m i=some r) (hf:fieldP P t k=some (off,ft)) (h0:0<P.cellsOf ft):
    OpS P F m nx β w { pre:=pre,val:=.rp i (o+off),rd:=rd } (do Pure.pure (Next.value (← Instr.fieldAt t x k))):=by
  obtain ⟨p,hp,hrow⟩:=hm.row i _ hi
  obtain ⟨b,bo,len,room,sz,hβ,rfl⟩:=hx.rp_any hp hrow
  unfold fieldP at hf
  split at hf
  · rename_i fs hu
    cases hk:fs[k]? with
    | none=>simp [hk] at hf
    | some f=>
      simp [hk] at hf
      obtain ⟨rfl,rfl⟩:=hf
      refine OpS.val hm (v:=.pointer (some ⟨b,bo+(o+f.offset),none⟩)) ?_ (.rp i (o+f.offset) b bo len room sz hβ)
      simp [Instr.fieldAt,run_underlying hu,hk,Instr.sureAddr,fieldPlace,run_sizeOf' w (cells_info h0),Nat.ne_of_gt h0,Addr.add_lit,Nat.add_assoc]
  · cases hf
theorem run_part {t:TypeId} (ht:tyOk P t=true) {cs:List D} {vs:List Value} {off:Nat} (hl:vs.length=cs.length) (h:∀ (k:Nat) (d:D) (u:Value),cs[k]? =some d→vs[k]? =some u→R F β w d u) (hoff:off+P.cellsOf t≤cs.length):
    ∃ v,(part t vs.toArray off).run P w=.ok v w∧R F β w (takeV P t (cs.drop off)) v:=by
  obtain ⟨i,d,z,hi,hd,hz,h1c,_⟩:=tyOk_spec ht
  unfold part takeV
  simp only [Sem.run_bind,run_isAgg' w (tyOk_und ht),Result.andThen_ok]
  cases ha:aggP P t with
  | true=>
    refine ⟨.agg ((vs.drop off).take (P.cellsOf t)).toArray,?_,?_⟩
    · simp [run_sizeOf' w (tyOk_info ht)]
    · refine .agg _ _ (by simp;omega) fun k d v hk hv=>?_
      rw [List.getElem?_take] at hk hv
      split at hk
      · rename_i hlt
        rw [if_pos hlt] at hv
        rw [List.getElem?_drop] at hk hv
        exact h _ d v hk hv
      · cases hk
  | false=>
    have:=h1c ha
    have hlt:off<vs.length:=by omega
    refine ⟨vs[off],by simp [hlt],?_⟩
    have hlt':off<cs.length:=by omega
    have e:(cs.drop off).headD .u=cs[off]:=by simp [List.headD_eq_head?_getD,List.head?_drop,hlt']
    simp only [Bool.false_eq_true,if_false,e]
    exact h off _ _ (by simp [hlt']) (by simp [hlt])
theorem ops_field (hm:MSim P F m β w) {t:TypeId} {cs:List D} {x:Value} {k off:Nat} {ft:TypeId} {pre:Prop} (hx:R F β w (.agg cs) x) (hf:fieldP P t k=some (off,ft)) (ht:tyOk P ft=true) (hoff:off+P.cellsOf ft≤cs.length):
    OpS P F m nx β w { pre:=pre,val:=takeV P ft (cs.drop off) } (do Pure.pure (Next.value (← Instr.field t x k))):=by
  obtain ⟨vs,rfl,hl,h⟩:=hx.agg_inv
  obtain ⟨v,hr,hR⟩:=run_part (P:=P) ht hl h hoff
  unfold fieldP at hf
  split at hf
  · rename_i fs hu
    cases hk:fs[k]? with
    | none=>simp [hk] at hf
    | some f=>
      simp [hk] at hf
      obtain ⟨rfl,rfl⟩:=hf
      exact OpS.val hm (v:=v) (by simp [Instr.field,run_underlying hu,hk,asAgg,hr]) hR
  · cases hf
theorem ops_extract (hm:MSim P F m β w) {cs:List D} {x:Value} {k:Nat} {pre:Prop} (hx:R F β w (.tup cs) x) (hk:k<cs.length):
    OpS P F m nx β w { pre:=pre,val:=cs.getD k .u } (do Pure.pure (Next.value (← Instr.extract x k))):=by
  obtain ⟨vs,rfl,hl,h⟩:=hx.tup_inv
  have hk':k<vs.length:=by omega
  refine OpS.val hm (v:=vs[k]) (by simp [Instr.extract,hk']) ?_
  have e:cs.getD k .u=cs[k]:=by simp [List.getD_eq_getElem?_getD,hk]
  rw [e]
  exact h k _ _ (by simp [hk]) (by simp [hk'])
theorem R.sl_inv {es:List D} {n:Nat} {v:Value} (h:R F β w (.sl es n) v):(es=[]∧n=0∧∃ a cap,v=.slice a 0 cap)∨
    ∃ b o cap,v=.slice (some ⟨b,o,none⟩) n cap∧n≤cap∧cap≤maxLen∧¬ F b∧β.free b∧b<w.heap.size∧Rd F β w b o es:=by
  cases h with
  | sln a cap=>exact .inl ⟨rfl,rfl,a,cap,rfl⟩
  | sl _ _ b o cap us h1 h2 h3 h4 h5 h6 h7=>exact .inr ⟨b,o,cap,rfl,h4,h5,h1,h2,h3,us,h6,h7⟩
theorem ops_indexAddr_sl (hm:MSim P F m β w) {t:TypeId} {es:List D} {n:Nat} {x y:Value} {kk:IntKind} {k:Int} {pre:Prop} (hx:R F β w (.sl es n) x) (hy:R F β w (.s (.int kk k)) y) (ht:slT P t=true) (h0:0≤k) (h1:k<n):
    OpS P F m nx β w { pre:=pre,val:=.pt (es.drop (k.toNat*P.cellsOf (elemP P t))) } (do Pure.pure (Next.value (← Instr.indexAt t x y))):=by
  obtain ⟨hu,he⟩:=slT_spec ht
  obtain ⟨rfl,_⟩:=hy.s_inv
  rcases hx.sl_inv with ⟨_,rfl,_⟩ | ⟨b,o,cap,rfl,h2,h3,h4,h5,h6,hrd⟩
  · omega
  · refine OpS.val hm (v:=.pointer (some ⟨b,o+k.toNat*P.cellsOf (elemP P t),none⟩)) ?_ (R.pt_mk h4 h5 h6 (hrd.drop _))
    simp [Instr.indexAt,asIntOf,run_underlying hu,h0,h1,run_sizeOf' w (tyOk_info he),Addr.add_lit]
theorem R.rs_inv {i off n:Nat} {v:Value} (h:R F β w (.rs i off n) v) {cs:List D} {e:TypeId} (hm:MSim P F m β w) (hi:m i=some (.cells cs e)):
    (cs=[]∧off=0∧n=0∧β i=some .nil∧∃ a,v=.slice a 0 0)∨
    ∃ b o room,β i=some (.cells b o cs.length room (P.cellsOf e))∧RowR P F β w (.cells cs e) (.cells b o cs.length room (P.cellsOf e))∧
      ((n=0∧∃ a,v=.slice a 0 0)∨∃ cap,v=.slice (some ⟨b,o+off,none⟩) n cap∧n≤cap∧cap≤maxLen∧cs.length≤off+cap*P.cellsOf e∧off+cap*P.cellsOf e≤room):=by
  obtain ⟨p,hp,hrow⟩:=hm.row i _ hi
  cases h with
  | rsd _ _ _ _ h _=>rw [h] at hp;cases hp;cases hrow
  | rsn _ a h=>
    rw [h] at hp
    cases hp
    cases hrow
    exact .inl ⟨rfl,rfl,rfl,h,a,rfl⟩
  | rsz _ _ a b o len room sz h=>
    rw [h] at hp
    cases hp
    obtain ⟨_,h2,h3,_⟩:=hrow.rd
    subst h2;subst h3
    exact .inr ⟨b,o,room,h,hrow,.inl ⟨rfl,a,rfl⟩⟩
  | rs _ _ _ cap b o len room sz h hn hmax h1 h2=>
    rw [h] at hp
    cases hp
    obtain ⟨_,h3,h4,_⟩:=hrow.rd
    subst h3;subst h4
    exact .inr ⟨b,o,room,h,hrow,.inr ⟨cap,rfl,hn,hmax,h1,h2⟩⟩
theorem R.rs_shape {i off n:Nat} {v:Value} (h:R F β w (.rs i off n) v) (hl:∃ p,β i=some p∧p≠ .dead):∃ a cap,v=.slice a n cap:=by
  cases h with
  | rsd _ _ _ _ h _=>obtain ⟨p,h1,h2⟩:=hl;rw [h] at h1;cases h1;exact absurd rfl h2
  | rsn _ a h=>exact ⟨a,0,rfl⟩
  | rsz _ _ a=>exact ⟨a,0,rfl⟩
  | rs=>exact ⟨_,_,rfl⟩
theorem row_live {r:Row} {p:Pl} (h:RowR P F β w r p):p≠ .dead:=h.live
theorem ops_indexAddr_rs (hm:MSim P F m β w) {t:TypeId} {i off n:Nat} {x y:Value} {kk:IntKind} {k:Int} {pre:Prop} {rd:List Nat} {r:Row} (hx:R F β w (.rs i off n) x) (hi:m i=some r) (hy:R F β w (.s (.int kk k)) y) (ht:slT P t=true) (h0:0≤k) (h1:k<n):
    OpS P F m nx β w { pre:=pre,val:=.rp i (off+k.toNat*P.cellsOf (elemP P t)),rd:=rd } (do Pure.pure (Next.value (← Instr.indexAt t x y))):=by
  obtain ⟨hu,he⟩:=slT_spec ht
  obtain ⟨rfl,_⟩:=hy.s_inv
  obtain ⟨p,hp,hrow⟩:=hm.row i _ hi
  cases hx with
  | rsd _ _ _ _ h _=>rw [h] at hp;cases hp;exact absurd rfl (row_live hrow)
  | rsn _ a h=>omega
  | rsz _ _ a b o len room sz h=>omega
  | rs _ _ _ cap b o len room sz h hn hmax g1 g2=>
    refine OpS.val hm (v:=.pointer (some ⟨b,o+(off+k.toNat*P.cellsOf (elemP P t)),none⟩)) ?_ (.rp i _ b o len room sz h)
    simp [Instr.indexAt,asIntOf,run_underlying hu,h0,h1,run_sizeOf' w (tyOk_info he),Addr.add_lit,Nat.add_assoc]
theorem ops_indexAddr_arr (hm:MSim P F m β w) {t:TypeId} {i off:Nat} {x y:Value} {kk:IntKind} {k:Int} {pre:Prop} {rd:List Nat} {r:Row} (hx:R F β w (.rp i off) x) (hi:m i=some r) (hy:R F β w (.s (.int kk k)) y) (ht:arT P t=true) (h0:0≤k) (h1:k<lenP P t):
    OpS P F m nx β w { pre:=pre,val:=.rp i (off+k.toNat*P.cellsOf (elemP P t)),rd:=rd } (do Pure.pure (Next.value (← Instr.indexAt t x y))):=by
  obtain ⟨hu,he⟩:=arT_spec ht
  obtain ⟨rfl,_⟩:=hy.s_inv
  obtain ⟨p,hp,hrow⟩:=hm.row i _ hi
  obtain ⟨b,bo,len,room,sz,hβ,rfl⟩:=hx.rp_any hp hrow
  refine OpS.val hm (v:=.pointer (some ⟨b,bo+(off+k.toNat*P.cellsOf (elemP P t)),none⟩)) ?_ (.rp i _ b bo len room sz hβ)
  simp [Instr.indexAt,asIntOf,run_underlying hu,h0,h1,run_sizeOf' w (tyOk_info he),Addr.add_lit,Nat.add_assoc,Instr.sureAddr]
theorem ops_index_str (hm:MSim P F m β w) {t:TypeId} {b:ByteArray} {x y:Value} {kk:IntKind} {k:Int} {pre:Prop} (hx:R F β w (.s (.string b)) x) (hy:R F β w (.s (.int kk k)) y) (ht:stT P t=true) (h0:0≤k) (h1:k<b.size):
    OpS P F m nx β w { pre:=pre,val:=.s (.int .u8 (b.data.toList.getD k.toNat 0).toNat) } (do Pure.pure (Next.value (← Instr.index t x y))):=by
  have hu:=stT_spec ht
  obtain ⟨rfl,_⟩:=hy.s_inv
  obtain ⟨rfl,_⟩:=hx.s_inv
  have hk:k.toNat<b.size:=by omega
  have hk':k.toNat<b.data.size:=hk
  refine OpS.val hm (v:=.int .u8 (b.data.toList.getD k.toNat 0).toNat) ?_ (.s _ rfl)
  have e:b[k.toNat]? =some (b.data.toList.getD k.toNat 0):=by
    have e1:b[k.toNat]? =some b[k.toNat]:=getElem?_pos b k.toNat hk
    rw [e1]
    congr 1
    show b.data[k.toNat]=_
    rw [List.getD_eq_getElem?_getD,Array.getElem?_toList,Array.getElem?_eq_getElem hk']
    rfl
  simp only [Instr.index,Sem.run_bind,asIntOf,Sem.run_pure,Result.andThen_ok,run_underlying hu,h0,if_true,e]
theorem ops_index_agg (hm:MSim P F m β w) {t:TypeId} {cs:List D} {x y:Value} {kk:IntKind} {k:Int} {pre:Prop} (hx:R F β w (.agg cs) x) (hy:R F β w (.s (.int kk k)) y) (ht:arT P t=true) (h0:0≤k) (h1:k<lenP P t)
    (hl':(k.toNat+1)*P.cellsOf (elemP P t)≤cs.length):
    OpS P F m nx β w { pre:=pre,val:=takeV P (elemP P t) (cs.drop (k.toNat*P.cellsOf (elemP P t))) } (do Pure.pure (Next.value (← Instr.index t x y))):=by
  obtain ⟨hu,he⟩:=arT_spec ht
  obtain ⟨rfl,_⟩:=hy.s_inv
  obtain ⟨vs,rfl,hl,h⟩:=hx.agg_inv
  obtain ⟨v,hr,hR⟩:=run_part (P:=P) he hl h (off:=k.toNat*P.cellsOf (elemP P t)) (by rw [Nat.add_mul] at hl';omega)
  exact OpS.val hm (v:=v) (by simp [Instr.index,asIntOf,run_underlying hu,h0,h1,run_sizeOf' w (tyOk_info he),hr]) hR
theorem ops_makeFunc (hm:MSim P F m β w) (f:Fn) {fs cs:List D} {us vs:List Value} {pre:Prop} (hl:us.length=fs.length) (hl':vs.length=cs.length) (h:∀ (k:Nat) (d:D) (v:Value),fs[k]? =some d→us[k]? =some v→R F β w d v)
    (h':∀ (k:Nat) (d:D) (v:Value),cs[k]? =some d→vs[k]? =some v→R F β w d v):
    OpS P F m nx β w { pre:=pre,val:=.fn f fs cs } (do Pure.pure (Next.value (← Instr.makeFunc f us.toArray vs.toArray))):=
  OpS.val hm (v:=.func f us.toArray vs.toArray) (by simp [Instr.makeFunc]) (.fn f fs cs us vs hl hl' h h')
theorem sliceBound_run (b:Int) (kk:IntKind) (y:Nat) (code:BoundsCode) (h0:0≤b) (h1:b≤y):(Instr.sliceBound (.int kk b) y code).run P w=.ok b.toNat w:=by
  simp [Instr.sliceBound,asIntOf,h0,h1]
theorem slice2_run (isSlice:Bool) (len cap:Nat) {lo hi:Option Value} {l h:Int} (hlo:(lo=none∧l=0)∨∃ kk,lo=some (.int kk l)) (hhi:(hi=none∧h=len)∨∃ kk,hi=some (.int kk h)) (h0:0≤l) (h1:l≤h) (h2:h≤cap):
    (Instr.sliceBounds isSlice len cap lo hi none).run P w=.ok (l.toNat,h.toNat,cap) w:=by
  unfold Instr.sliceBounds
  simp only [Sem.run_bind,Sem.run_pure,Result.andThen_ok]
  rcases hhi with ⟨rfl,rfl⟩ | ⟨kk,rfl⟩<;>rcases hlo with ⟨rfl,rfl⟩ | ⟨kl,rfl⟩
  · simp
  · simp [sliceBound_run (P:=P) (w:=w) l kl len _ h0 (by omega)]
  · simp [sliceBound_run (P:=P) (w:=w) h kk cap _ (by omega) (by omega)]
  · have:=sliceBound_run (P:=P) (w:=w) h kk cap (if isSlice then .sliceAcap else .sliceAlen) (by omega) (by omega)
    simp [this,sliceBound_run (P:=P) (w:=w) l kl h.toNat _ h0 (by omega)]
theorem slice3_run (len cap:Nat) {lo:Option Value} {kh km:IntKind} {l h k:Int} (hlo:(lo=none∧l=0)∨∃ kk,lo=some (.int kk l)) (h0:0≤l) (h1:l≤h) (h2:h≤k) (h3:k≤cap):
    (Instr.sliceBounds true len cap lo (some (.int kh h)) (some (.int km k))).run P w=.ok (l.toNat,h.toNat,k.toNat) w:=by
  unfold Instr.sliceBounds
  have e1:=sliceBound_run (P:=P) (w:=w) k km cap .slice3Acap (by omega) h3
  have e2:=sliceBound_run (P:=P) (w:=w) h kh k.toNat .slice3B (by omega) (by omega)
  simp only [Sem.run_bind,e1,e2,Result.andThen_ok,if_true]
  rcases hlo with ⟨rfl,rfl⟩ | ⟨kl,rfl⟩
  · simp
  · simp [sliceBound_run (P:=P) (w:=w) l kl h.toNat _ h0 (by omega)]
theorem D.int_inv {d:D} {b:Int} (h:d.int? =some b):∃ kk,d=.s (.int kk b):=by
  unfold D.int? at h
  split at h
  · cases h;exact ⟨_,rfl⟩
  · cases h
def Ro (F:Nat→Prop) (β:Pla) (w:World) (d:Option D) (v:Option Value):Prop:=
  (d=none∧v=none)∨∃ q u,d=some q∧v=some u∧R F β w q u
theorem Ro.bnd {d:Option D} {v:Option Value} {dflt b:Int} (h:Ro F β w d v) (hb:bndD d dflt=some b):(v=none∧b=dflt∧d=none)∨∃ kk,v=some (.int kk b)∧d.isSome=true:=by
  rcases h with ⟨rfl,rfl⟩ | ⟨q,u,rfl,rfl,hR⟩
  · simp [bndD] at hb
    exact .inl ⟨rfl,hb.symm,rfl⟩
  · simp only [bndD] at hb
    obtain ⟨kk,rfl⟩:=D.int_inv hb
    obtain ⟨rfl,_⟩:=hR.s_inv
    exact .inr ⟨_,rfl,rfl⟩
theorem sliceAt_slice {t e:TypeId} (hu:P.underlying t=some (.slice e)) (v:Value) (lo hi mx:Option Value):(Instr.sliceAt t v lo hi mx).run P w=(Instr.slice t v lo hi mx).run P w:=by
  simp [Instr.sliceAt,run_underlying hu]
theorem sl_slice {es:List D} {n l h sz:Nat} {a:Option Addr} {b o cap m':Nat} (h1:¬ F b) (h2:β.free b) (h3:b<w.heap.size) (hrd:Rd F β w b o es) (hlh:l≤h) (hn:h≤n) (hm:h≤m') (hcap:m'≤cap) (hmax:cap≤maxLen)
    (ha:a=(if m'=l then some ⟨b,o,none⟩ else some ⟨b,o+l*sz,none⟩)):R F β w (.sl ((es.drop (l*sz)).take ((h - l)*sz)) (h - l)) (.slice a (h - l) (m' - l)):=by
  subst ha
  by_cases hml:m'=l
  · have:h=l:=by omega
    subst this
    simp only [Nat.sub_self,Nat.zero_mul,List.take_zero]
    exact .sln _ _
  · rw [if_neg hml]
    obtain ⟨us,g1,g2⟩:=(hrd.drop (l*sz)).take ((h - l)*sz)
    exact .sl _ _ _ _ _ us h1 h2 h3 (by omega) (by omega) g1 g2
theorem ops_slice (hm:MSim P F m β w) {t:TypeId} {x:D} {v:Value} {lo hi mx:Option D} {vlo vhi vmx:Option Value} {e:Eff} (hx:R F β w x v) (hlo:Ro F β w lo vlo) (hhi:Ro F β w hi vhi) (hmx:Ro F β w mx vmx)
    (hs:sliceD P m t x lo hi mx=some e) (hp:e.pre):e.ups=[]∧e.new=0∧OpS P F m nx β w e (do Pure.pure (Next.value (← Instr.sliceAt t v vlo vhi vmx))):=by
  cases x with
  | sl es n=>
    simp only [sliceD] at hs
    cases hbl:bndD lo 0 with
    | none=>simp [hbl] at hs
    | some l=>
    cases hbh:bndD hi n with
    | none=>simp [hbl,hbh] at hs
    | some h=>
    have hlo':(vlo=none∧l=0)∨∃ kk,vlo=some (.int kk l):=by
      rcases hlo.bnd hbl with ⟨a,b,_⟩ | ⟨kk,a,_⟩
      · exact .inl ⟨a,b⟩
      · exact .inr ⟨kk,a⟩
    rcases hmx with ⟨rfl,rfl⟩ | ⟨q,u,rfl,rfl,hq⟩
    · simp only [hbl,hbh,Option.some.injEq] at hs
      subst hs
      obtain ⟨ht,h0,h1,h2⟩:=hp
      obtain ⟨hu,he⟩:=slT_spec ht
      have hhi':(vhi=none∧h=(n:Int))∨∃ kk,vhi=some (.int kk h):=by
        rcases hhi.bnd hbh with ⟨a,b,_⟩ | ⟨kk,a,_⟩
        · exact .inl ⟨a,b⟩
        · exact .inr ⟨kk,a⟩
      refine ⟨rfl,rfl,?_⟩
      rcases hx.sl_inv with ⟨rfl,rfl,a,cap,rfl⟩ | ⟨b,o,cap,rfl,g1,g2,g3,g4,g5,hrd⟩
      · have hb:=slice2_run (P:=P) (w:=w) true 0 cap hlo' (by simpa using hhi') h0 h1 (by omega)
        have hl0:l=0:=by omega
        have hh0:h=0:=by omega
        subst hl0;subst hh0
        refine OpS.val hm (v:=.slice (if cap=0 then a else a.map (·.add (0*P.cellsOf (elemP P t)))) 0 cap) ?_ (by simpa using R.sln _ _)
        simp [sliceAt_slice hu,Instr.slice,run_underlying hu,hb,run_sizeOf' w (tyOk_info he)]
      · have hb:=slice2_run (P:=P) (w:=w) true n cap hlo' hhi' h0 h1 (by omega)
        refine OpS.val hm (v:=.slice (if cap=l.toNat then some ⟨b,o,none⟩ else some ⟨b,o+l.toNat*P.cellsOf (elemP P t),none⟩) (h.toNat - l.toNat) (cap - l.toNat)) ?_ ?_
        · simp [sliceAt_slice hu,Instr.slice,run_underlying hu,hb,run_sizeOf' w (tyOk_info he),Addr.add_lit]
        · have:=sl_slice (F:=F) (β:=β) (w:=w) (es:=es) (n:=n) (l:=l.toNat) (h:=h.toNat) (sz:=P.cellsOf (elemP P t)) (cap:=cap) (m':=cap) g3 g4 g5 hrd (by omega) (by omega) (by omega) (Nat.le_refl _) g2 rfl
          rw [show (h - l).toNat=h.toNat - l.toNat from by omega]
          exact this
    · simp only [hbl,hbh] at hs
      cases hqi:q.int? with
      | none=>simp [hqi] at hs
      | some k=>
      simp only [hqi,Option.some.injEq] at hs
      subst hs
      obtain ⟨ht,hsome,h0,h1,h2,h3⟩:=hp
      obtain ⟨hu,he⟩:=slT_spec ht
      obtain ⟨km,rfl⟩:=D.int_inv hqi
      obtain ⟨rfl,_⟩:=hq.s_inv
      obtain ⟨kh,rfl⟩:∃ kk,vhi=some (.int kk h):=by
        rcases hhi.bnd hbh with ⟨_,_,c⟩ | ⟨kk,a,_⟩
        · rw [c] at hsome;cases hsome
        · exact ⟨kk,a⟩
      refine ⟨rfl,rfl,?_⟩
      rcases hx.sl_inv with ⟨rfl,rfl,a,cap,rfl⟩ | ⟨b,o,cap,rfl,g1,g2,g3,g4,g5,hrd⟩
      · have hb:=slice3_run (P:=P) (w:=w) 0 cap (kh:=kh) (km:=km) hlo' h0 h1 h2 (by omega)
        have hl0:l=0:=by omega
        have hh0:h=0:=by omega
        have hk0:k=0:=by omega
        subst hl0;subst hh0;subst hk0
        refine OpS.val hm (v:=.slice a 0 0) ?_ (by simpa using R.sln _ _)
        simp [sliceAt_slice hu,Instr.slice,run_underlying hu,hb,run_sizeOf' w (tyOk_info he)]
      · have hb:=slice3_run (P:=P) (w:=w) n cap (kh:=kh) (km:=km) hlo' h0 h1 h2 (by omega)
        refine OpS.val hm (v:=.slice (if k.toNat=l.toNat then some ⟨b,o,none⟩ else some ⟨b,o+l.toNat*P.cellsOf (elemP P t),none⟩) (h.toNat - l.toNat) (k.toNat - l.toNat)) ?_ ?_
        · simp [sliceAt_slice hu,Instr.slice,run_underlying hu,hb,run_sizeOf' w (tyOk_info he),Addr.add_lit]
        · have:=sl_slice (F:=F) (β:=β) (w:=w) (es:=es) (n:=n) (l:=l.toNat) (h:=h.toNat) (sz:=P.cellsOf (elemP P t)) (cap:=cap) (m':=k.toNat) g3 g4 g5 hrd (by omega) (by omega) (by omega) (by omega) g2 rfl
          rw [show (h - l).toNat=h.toNat - l.toNat from by omega]
          exact this
  | rs i off n=>
    simp only [sliceD] at hs
    cases hi':m i with
    | none=>simp [hi'] at hs
    | some r=>
    cases r with
    | map es=>simp [hi'] at hs
    | raw es=>simp [hi'] at hs
    | bs u x T=>simp [hi'] at hs
    | lp k=>simp [hi'] at hs
    | ren f r=>simp [hi'] at hs
    | cells cs ee=>
    cases hbl:bndD lo 0 with
    | none=>simp [hi',hbl] at hs
    | some l=>
    cases hbh:bndD hi n with
    | none=>simp [hi',hbl,hbh] at hs
    | some h=>
    rcases hmx with ⟨rfl,rfl⟩ | ⟨q,u,rfl,rfl,hq⟩
    · simp only [hi',hbl,hbh,Option.some.injEq] at hs
      subst hs
      obtain ⟨⟨ht,hsz⟩,h0,h1,h2⟩:=hp
      obtain ⟨hu,he⟩:=slT_spec ht
      have hlo':(vlo=none∧l=0)∨∃ kk,vlo=some (.int kk l):=by
        rcases hlo.bnd hbl with ⟨a,b,_⟩ | ⟨kk,a,_⟩
        · exact .inl ⟨a,b⟩
        · exact .inr ⟨kk,a⟩
      have hhi':(vhi=none∧h=(n:Int))∨∃ kk,vhi=some (.int kk h):=by
        rcases hhi.bnd hbh with ⟨a,b,_⟩ | ⟨kk,a,_⟩
        · exact .inl ⟨a,b⟩
        · exact .inr ⟨kk,a⟩
      refine ⟨rfl,rfl,?_⟩
      rcases hx.rs_inv hm hi' with ⟨_,rfl,rfl,hnil,a,rfl⟩ | ⟨b,o,room,hβ,hrow,hcase⟩
      · have hb:=slice2_run (P:=P) (w:=w) true 0 0 hlo' (by simpa using hhi') h0 h1 (by omega)
        have hl0:l=0:=by omega
        have hh0:h=0:=by omega
        subst hl0;subst hh0
        refine OpS.val hm (v:=.slice a 0 0) ?_ (by simpa using R.rsn i a hnil)
        simp [sliceAt_slice hu,Instr.slice,run_underlying hu,hb,run_sizeOf' w (tyOk_info he)]
      · rcases hcase with ⟨rfl,a,rfl⟩ | ⟨cap,rfl,g1,g2,g3,g4⟩
        · have hb:=slice2_run (P:=P) (w:=w) true 0 0 hlo' (by simpa using hhi') h0 h1 (by omega)
          have hl0:l=0:=by omega
          have hh0:h=0:=by omega
          subst hl0;subst hh0
          refine OpS.val hm (v:=.slice a 0 0) ?_ (by simpa using R.rsz i off a b o _ room _ hβ)
          simp [sliceAt_slice hu,Instr.slice,run_underlying hu,hb,run_sizeOf' w (tyOk_info he)]
        · have hb:=slice2_run (P:=P) (w:=w) true n cap hlo' hhi' h0 h1 (by omega)
          refine OpS.val hm (v:=.slice (if cap=l.toNat then some ⟨b,o+off,none⟩ else some ⟨b,o+off+l.toNat*P.cellsOf (elemP P t),none⟩) (h.toNat - l.toNat) (cap - l.toNat)) ?_ ?_
          · simp [sliceAt_slice hu,Instr.slice,run_underlying hu,hb,run_sizeOf' w (tyOk_info he),Addr.add_lit]
          · rw [show (h - l).toNat=h.toNat - l.toNat from by omega]
            by_cases hcl:cap=l.toNat
            · have:h.toNat=l.toNat:=by omega
              rw [this,hcl,Nat.sub_self]
              exact .rsz i _ _ b o _ room _ hβ
            · rw [if_neg hcl,Nat.add_assoc]
              have hmul:(cap - l.toNat)*P.cellsOf ee+l.toNat*P.cellsOf ee=cap*P.cellsOf ee:=by rw [← Nat.add_mul];congr 1;omega
              exact .rs i _ _ _ b o _ room _ hβ (by omega) (by omega) (by rw [← hsz];omega) (by rw [← hsz];omega)
    · simp only [hi',hbl,hbh,reduceCtorEq] at hs
  | s x=>
    cases x with
    | string b=>
      simp only [sliceD] at hs
      cases hbl:bndD lo 0 with
      | none=>simp [hbl] at hs
      | some l=>
      cases hbh:bndD hi b.size with
      | none=>simp [hbl,hbh] at hs
      | some h=>
      rcases hmx with ⟨rfl,rfl⟩ | ⟨q,u,rfl,rfl,hq⟩
      · simp only [hbl,hbh,Option.some.injEq] at hs
        subst hs
        obtain ⟨ht,h0,h1,h2⟩:=hp
        have hu:=stT_spec ht
        obtain ⟨rfl,_⟩:=hx.s_inv
        have hlo':(vlo=none∧l=0)∨∃ kk,vlo=some (.int kk l):=by
          rcases hlo.bnd hbl with ⟨a,b,_⟩ | ⟨kk,a,_⟩
          · exact .inl ⟨a,b⟩
          · exact .inr ⟨kk,a⟩
        have hhi':(vhi=none∧h=(b.size:Int))∨∃ kk,vhi=some (.int kk h):=by
          rcases hhi.bnd hbh with ⟨a,b,_⟩ | ⟨kk,a,_⟩
          · exact .inl ⟨a,b⟩
          · exact .inr ⟨kk,a⟩
        have hb:=slice2_run (P:=P) (w:=w) false b.size b.size hlo' hhi' h0 h1 (by omega)
        refine ⟨rfl,rfl,OpS.val hm (v:=.string (b.extract l.toNat h.toNat)) ?_ (.s _ rfl)⟩
        simp [Instr.sliceAt,Instr.slice,run_underlying hu,hb]
      · simp only [hbl,hbh,reduceCtorEq] at hs
    | _=>simp [sliceD] at hs
  | _=>simp [sliceD] at hs
end
section
variable {P:Program} {F:Nat→Prop} {m:Mem} {nx:Nat} {β:Pla} {w w':World}
theorem step_ext (hs:w.heap.size≤w'.heap.size) (h:∀ b,b<w.heap.size→w'.heap[b]? =w.heap[b]?) (hout:Out w w':=by first | exact ⟨rfl,rfl⟩ | assumption):Step β w β w':=
  ⟨hs,fun b hb hf=>⟨h b hb,hf⟩,fun _ _ hp=>.inl hp,hout,fun _ r _ _=>skel_lt (h r)⟩
theorem MSim.ext (hm:MSim P F m β w) (hs:w.heap.size≤w'.heap.size) (h:∀ b,b<w.heap.size→w'.heap[b]? =w.heap[b]?) (hout:Out w w':=by first | exact ⟨rfl,rfl⟩ | assumption):MSim P F m β w':=
  ⟨fun i r hi=>by
    obtain ⟨p,hp,hrow⟩:=hm.row i r hi
    exact ⟨p,hp,hrow.step (step_ext hs h) fun b hb=>h b (hm.lt i p b hp hb)⟩,
   hm.inj,fun i p b hp hb=>Nat.lt_of_lt_of_le (hm.lt i p b hp hb) hs,hm.nf,hm.fb.next (fun b hb=>Nat.lt_of_lt_of_le (hm.fb.lt b hb) hs) (fun _ h=>h) fun t _ hF=>h _ (hm.fb.lt _ hF)⟩
theorem MSim.drew (hm:MSim P F m β w):MSim P F m β w.drew:=hm.ext (Nat.le_refl _) (fun _ _=>rfl)
theorem step_drew:Step β w β w.drew:=step_ext (Nat.le_refl _) (fun _ _=>rfl)
theorem ops_bytes (hm:MSim P F m β w) {src dst e:TypeId} {b:ByteArray} {x:Value} {pre:Prop} (hx:R F β w (.s (.string b)) x) (hs:stT P src=true) (hd:P.underlying dst=some (.slice e)) (he:P.underlying e=some (.int .u8)) (hmax:b.size≤maxLen):
    OpS P F m nx β w { pre:=pre,val:=.sl (b.data.toList.map fun c=>.s (.int .u8 c.toNat)) b.size } (do Pure.pure (Next.value (← convert src dst x))):=by
  obtain ⟨rfl,_⟩:=hx.s_inv
  have hu:=stT_spec hs
  generalize hcap:(Question.appendCap b.size 0 e).cut (w.tape w.drawn (.appendCap b.size 0 e))=cap
  have hcap':b.size≤cap∧cap≤maxLen:=by
    have h1:=grownCap_ge w b.size 0 e
    have h2:=grownCap_le_maxLen w b.size 0 e hmax
    unfold grownCap at h1 h2
    rw [hcap] at h1 h2
    exact ⟨h1,h2⟩
  generalize hc:b.data.map (fun c=>Value.int .u8 c.toNat)++Array.replicate (cap - b.size) (Value.int .u8 0)=cells
  have hrun:(convert src dst (.string b)).run P w=.ok (.slice (some ⟨w.heap.size,0,none⟩) b.size cap) ((w.drew.alloc (.cells cells e)).freeze ⟨w.heap.size,cells.size,none⟩ 1):=by
    simp only [convert,Sem.run_bind,run_underlying hu,run_underlying hd,run_underlying he,Result.andThen_ok]
    unfold Conv.stringToBytes
    simp only [Sem.run_bind,run_choose,Question.forced,Bool.false_eq_true,if_false,Result.andThen_ok,hcap,hc]
    simp only [newRow,Sem.run_bind,run_newObj,Result.andThen_ok,Sem.run_pure,markStringish]
    simp [World.shape?,freeze,Sem.run]
    rfl
  have hsize:((w.drew.alloc (.cells cells e)).freeze ⟨w.heap.size,cells.size,none⟩ 1).heap.size=w.heap.size+1:=by simp [World.freeze]
  have hold:∀ k,k<w.heap.size→((w.drew.alloc (.cells cells e)).freeze ⟨w.heap.size,cells.size,none⟩ 1).heap[k]? =w.heap[k]? :=fun k hk=>by
    simp only [World.freeze,Nat.one_ne_zero,if_false,Array.getElem?_modify,if_neg (show ¬ w.heap.size=k by omega)]
    exact heap_alloc_old w.drew _ hk
  have hnew:∀ k:Nat,((w.drew.alloc (.cells cells e)).freeze ⟨w.heap.size,cells.size,none⟩ 1).cell? ⟨w.heap.size,k,none⟩=cells[k]? :=fun k=>by
    have:=heap_alloc_new w.drew (.cells cells e)
    simp only [World.size_drew] at this
    simp only [World.cell?,World.freeze,Nat.one_ne_zero,if_false,Array.getElem?_modify,if_true,this,Option.map_some,Option.isSome_none,Bool.false_eq_true]
  refine ⟨_,_,_,β,by simp only [Sem.run_bind,hrun,Result.andThen_ok,Sem.run_pure];rfl,.inl rfl,?_,hm.ext (by omega) hold,step_ext (by omega) hold,fun _ h _=>h⟩
  have hlen:b.data.toList.length=b.size:=by simp
  refine .sl _ _ _ _ _ (fun k=>.int .u8 (b.data.toList.getD k 0).toNat) (fun hF=>?_) (fun i p hp e=>?_) (by omega) hcap'.1 hcap'.2 (fun k hk=>?_) (fun k d hk=>?_)
  · have:=hm.fb.lt _ hF;omega
  · have:=hm.lt i p _ hp e;omega
  · rw [Nat.zero_add,hnew]
    simp at hk
    refine ⟨?_,rfl⟩
    rw [← hc,Array.getElem?_append_left (by simpa using hk)]
    simp [hk]
  · rw [List.getElem?_map] at hk
    cases hkk:b.data.toList[k]? with
    | none=>simp [hkk] at hk
    | some c=>
      simp [hkk] at hk
      subst hk
      have:b.data.toList.getD k 0=c:=by simp only [List.getD_eq_getElem?_getD,hkk,Option.getD_some]
      simp only [this]
      exact .s _ rfl
theorem ops_len (hm:MSim P F m β w) {ts:Array TypeId} {d:D} {x:Value} {e:Eff} {ty:TypeId} (hts:ts.size≠0) (hx:R F β w d x) (h:lenD P m (ts.getD 0 0) d=some e) (hp:e.pre):
    e.ups=[]∧e.new=0∧OpS P F m nx β w e (do Pure.pure (Next.value (← Builtin.len_ ts ty #[x]))):=by
  obtain ⟨t,ht0⟩:∃ t,ts[0]? =some t:=⟨ts[0]'(by omega),by simp⟩
  have ht:ts.getD 0 0=t:=by simp [Array.getD_eq_getD_getElem?,ht0]
  rw [ht] at h
  have sl:∀ {a:Option Addr} {k c:Nat},slT P t=true→x=.slice a k c→(Builtin.len_ ts ty #[x]).run P w=.ok (.int .i64 k) w:=by
    rintro a k c hs rfl
    simp [Builtin.len_,ht0,run_underlying (slT_spec hs).1,goInt]
  cases d with
  | sl es n=>
    simp only [lenD,Option.some.injEq] at h
    subst h
    refine ⟨rfl,rfl,OpS.val hm (v:=.int .i64 n) ?_ (.s _ rfl)⟩
    rcases hx.sl_inv with ⟨_,rfl,a,cap,hv⟩ | ⟨b,o,cap,hv,_⟩<;>simp only [Sem.run_bind,sl hp hv,Result.andThen_ok,Sem.run_pure]
  | z=>
    simp only [lenD,Option.some.injEq] at h
    subst h
    refine ⟨rfl,rfl,OpS.val hm (v:=.int .i64 0) ?_ (.s _ rfl)⟩
    obtain ⟨a,hv⟩:=hx.z_inv
    simp only [Sem.run_bind,sl hp hv,Result.andThen_ok,Sem.run_pure]
    rfl
  | rs i off n=>
    simp only [lenD] at h
    cases hi:m i with
    | none=>simp [hi] at h
    | some r=>
    simp only [hi,Option.some.injEq] at h
    subst h
    obtain ⟨p,hp',hrow⟩:=hm.row i _ hi
    obtain ⟨a,cap,hv⟩:=hx.rs_shape ⟨p,hp',row_live hrow⟩
    refine ⟨rfl,rfl,OpS.val hm (v:=.int .i64 n) ?_ (.s _ rfl)⟩
    simp only [Sem.run_bind,sl hp hv,Result.andThen_ok,Sem.run_pure]
  | agg cs=>
    simp only [lenD,Option.some.injEq] at h
    subst h
    refine ⟨rfl,rfl,OpS.val hm (v:=.int .i64 (lenP P t)) ?_ (.s _ rfl)⟩
    simp [Builtin.len_,ht0,run_underlying (arT_spec hp).1,goInt]
  | s v=>
    cases v with
    | string b=>
      simp only [lenD,Option.some.injEq] at h
      subst h
      obtain ⟨rfl,_⟩:=hx.s_inv
      refine ⟨rfl,rfl,OpS.val hm (v:=.int .i64 b.size) ?_ (.s _ rfl)⟩
      simp [Builtin.len_,ht0,run_underlying (stT_spec hp),goInt]
    | _=>simp [lenD] at h
  | _=>simp [lenD] at h
theorem ops_min (hm:MSim P F m β w) {ts:Array TypeId} {ty:TypeId} {k:IntKind} {a b:Int} {x y:Value} {pre:Prop} (hx:R F β w (.s (.int k a)) x) (hy:R F β w (.s (.int k b)) y):
    OpS P F m nx β w { pre:=pre,val:=.s (.int k (if b<a then b else a)) } (do Pure.pure (Next.value (← Builtin.min_ ts ty #[x,y]))):=by
  obtain ⟨rfl,_⟩:=hx.s_inv
  obtain ⟨rfl,_⟩:=hy.s_inv
  exact OpS.val hm (v:=.int k (if b<a then b else a)) (by simp [Builtin.min_,Builtin.min2]) (.s _ rfl)
theorem ops_clear (hm:MSim P F m β w) {ts:Array TypeId} {ty:TypeId} {i off n:Nat} {x:Value} {cs:List D} {e:TypeId} {pre:Prop} {rd:List Nat} (hts:ts.size≠0) (hx:R F β w (.rs i off n) x) (hi:m i=some (.cells cs e)) (ht:slT P (ts.getD 0 0)=true)
    (hl:off+n*P.cellsOf e≤cs.length) (he:e=elemP P (ts.getD 0 0)):
    OpS P F m nx β w { pre:=pre,val:=.tup [],ups:=[(i,some (.cells (splice cs off (replD n (zeroP P e))) e))],rd:=rd } (do Pure.pure (Next.value (← Builtin.clear_ ts ty #[x]))):=by
  obtain ⟨t,ht0⟩:∃ t,ts[0]? =some t:=⟨ts[0]'(by omega),by simp⟩
  have htt:ts.getD 0 0=t:=by simp [Array.getD_eq_getD_getElem?,ht0]
  rw [htt] at ht he
  obtain ⟨hu,hok⟩:=slT_spec ht
  rw [← he] at hu hok
  obtain ⟨z,hz,hzs,h3,h4⟩:=run_zeroValue' (P:=P) w hok
  have hzl:(zeroP P e).length=P.cellsOf e:=by rw [h3];simp [hzs]
  have self:splice cs off (replD 0 (zeroP P e))=cs:=by
    rw [splice_eq (by simp [replD];omega)]
    simp [replD]
  have hsame:up m i (some (.cells cs e))=m:=by
    funext j
    by_cases hj:j=i
    · subst hj;rw [up_same,hi]
    · rw [up_ne _ _ hj]
  have zero:n=0→(∃ a c,x=.slice a 0 c)→OpS P F m nx β w { pre:=pre,val:=.tup [],ups:=[(i,some (.cells (splice cs off (replD n (zeroP P e))) e))],rd:=rd } (do Pure.pure (Next.value (← Builtin.clear_ ts ty #[x]))):=by
    rintro rfl ⟨a,c,rfl⟩
    refine ⟨.value (.tuple #[]),.tuple #[],w,β,?_,.inl rfl,.tup [] [] rfl (by simp),?_,Step.refl β w,fun _ h _=>h⟩
    · cases a<;>simp [Builtin.clear_,ht0,run_underlying hu]
    · simp only [upds,self,hsame]
      exact hm
  rcases hx.rs_inv hm hi with ⟨_,rfl,rfl,hnil,a,rfl⟩ | ⟨b,o,room,hβ,hrow,hcase⟩
  · exact zero rfl ⟨a,0,rfl⟩
  · rcases hcase with ⟨rfl,a,rfl⟩ | ⟨cap,rfl,g1,g2,g3,g4⟩
    · exact zero rfl ⟨a,0,rfl⟩
    · cases n with
      | zero=>exact zero rfl ⟨_,cap,rfl⟩
      | succ n=>
        have hz0:=zeros_R (F:=F) (β:=β) (w:=w) (P:=P) hzs h3 h4 (n+1) ((n+1)*P.cellsOf e) rfl z.cells (fun _=>rfl)
        obtain ⟨w',hst,hm',hs⟩:=write_cells (P:=P) hm hβ hrow (off:=off) (ds:=replD (n+1) (zeroP P e)) (vs:=(Builtin.zeroCells z.cells (n+1)).toList) (by
            have:=hz0.1
            simpa [Builtin.zeroCells,hzs] using this) (by rw [repl_length,hzl];exact hl) (fun u hu=>by
            have h5:(Builtin.zeroCells z.cells (n+1)).toList=((Array.range ((n+1)*P.cellsOf e)).map (z.cells[· % z.cells.size]!)).toList:=by simp [Builtin.zeroCells,hzs]
            rw [h5] at hu
            obtain ⟨k,hk⟩:=List.getElem?_of_mem hu
            have hlt:=(List.getElem?_eq_some_iff.1 hk).1
            have:k<(replD (n+1) (zeroP P e)).length:=by rw [← hz0.1];exact hlt
            exact (hz0.2 k _ u (by simp [this];rfl) hk).2) (fun k d u hk hu=>by
            have h5:(Builtin.zeroCells z.cells (n+1)).toList=((Array.range ((n+1)*P.cellsOf e)).map (z.cells[· % z.cells.size]!)).toList:=by simp [Builtin.zeroCells,hzs]
            rw [h5] at hu
            exact (hz0.2 k d u hk hu).1)
        refine ⟨.value (.tuple #[]),.tuple #[],w',β,?_,.inl rfl,.tup [] [] rfl (by simp),hm',hs,fun _ h _=>h⟩
        simp [Builtin.clear_,ht0,run_underlying hu,hz,hst]
theorem ops_nilCheck_pt (hm:MSim P F m β w) {cs:List D} {x:Value} {pre:Prop} (hx:R F β w (.pt cs) x):∃ a,x=.pointer (some a)∧OpS P F m nx β w { pre:=pre,val:=.pt cs } (Pure.pure (Next.value x)):=by
  obtain ⟨b,o,rfl,_⟩:=hx.pt_inv
  exact ⟨_,rfl,OpS.val hm rfl hx⟩
theorem ops_nilCheck_rp (hm:MSim P F m β w) {i off:Nat} {x:Value} {pre:Prop} {rd:List Nat} {r:Row} (hx:R F β w (.rp i off) x) (hi:m i=some r):∃ a,x=.pointer (some a)∧OpS P F m nx β w { pre:=pre,val:=.rp i off,rd:=rd } (Pure.pure (Next.value x)):=by
  obtain ⟨p,hp,hrow⟩:=hm.row i _ hi
  obtain ⟨b,bo,len,room,sz,hβ,rfl⟩:=hx.rp_any hp hrow
  exact ⟨_,rfl,OpS.val hm rfl hx⟩
theorem ops_makeMap (hm:MSim P F m β w) (hn:β nx=none) {t:TypeId} {pre:Prop}:
    OpS P F m nx β w { pre:=pre,val:=.mp nx,ups:=[(nx,some (.map []))],new:=1 } (do Pure.pure (Next.value (← Instr.makeMap t none))):=by
  have hp:∀ b,(Pl.map w.heap.size).blk=some b→b=w.heap.size:=fun b hb=>by simp [Pl.blk] at hb;exact hb.symm
  refine ⟨.value (.map (some w.heap.size)),_,w.alloc (.map #[] 0),up β nx (some (.map w.heap.size)),?_,.inl rfl,.mp nx _ (up_same _ _ _),hm.alloc hn _ _ _ hp ?_,step_alloc hm _ hn _ hp,fresh_up⟩
  · simp [Instr.makeMap]
  · exact .map [] w.heap.size #[] 0 (heap_alloc_new w _) rfl (by simp) (by simp)
theorem ops_pick (hm:MSim P F m β w) {t:Bool} {vc va vb:Value} {da db:D} {pre:Prop} (hc:vc=.bool t) (ha:R F β w da va) (hb:R F β w db vb) (h1:t=true→da.ask∧da.core.bool?.isSome=true) (h2:t=false→db.ask∧db.core.bool?.isSome=true):
    OpS P F m nx β w { pre:=pre,val:=.s (.bool (if t then da.core.bool?.getD false else db.core.bool?.getD false)) } (do Pure.pure (Next.value (if ← asBool vc then va else vb))):=by
  subst hc
  have inv:∀ {d:D} {v:Value},R F β w d v→d.ask∧d.core.bool?.isSome=true→v=.bool (d.core.bool?.getD false):=fun {d v} h hk=>by
    have:=h.core_of d hk.1
    have hb:=hk.2
    unfold D.bool? at hb ⊢
    split at hb
    · rename_i b he
      rw [he] at this
      rw [this.s_inv.1]
      rfl
    · cases hb
  cases t with
  | true=>
    have:=inv ha (h1 rfl)
    rw [this]
    exact OpS.val hm (v:=.bool (da.core.bool?.getD false)) (by simp [asBool]) (.s _ rfl)
  | false=>
    have:=inv hb (h2 rfl)
    rw [this]
    exact OpS.val hm (v:=.bool (db.core.bool?.getD false)) (by simp [asBool]) (.s _ rfl)
end
end Go.Abs
