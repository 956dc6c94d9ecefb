/- Part 3 of the proof; the last part says what is proved. -/
import Derived.Test.YtkogeiacmmckkaaGreatDoorFlowReads2
import Derived.ChangeKeysEq
set_option linter.all false
namespace Go.Abs
section
variable {P:Program} {F:Nat→Prop} {m:Mem} {nx:Nat} {β:Pla} {w w':World}
theorem Rd.vals {b o:Nat} {cs:List D} (h:Rd F β w b o cs):∃ c:List Value,Rl F β w cs c∧∀ (j:Nat) (u:Value),c[j]? =some u→w.cell? ((⟨b,o,none⟩:Addr).add j)=some u:=by
  obtain ⟨us,h1,h2⟩:=h
  refine ⟨(List.range cs.length).map us,⟨by simp,fun k d u hk hu=>?_⟩,fun j u hu=>?_⟩
  · have hlt:k<cs.length:=(List.getElem?_eq_some_iff.1 hk).1
    simp [hlt] at hu
    subst hu
    exact ⟨h2 k d hk,(h1 k hlt).2⟩
  · have hlt:j<cs.length:=by
      have:=(List.getElem?_eq_some_iff.1 hu).1
      simpa using this
    simp [hlt] at hu
    subst hu
    rw [Addr.add_lit]
    exact (h1 j hlt).1
theorem slice_vals (hm:MSim P F m β w) {sz:Nat} {x:D} {v:Value} {p:Prop} {rd:List Nat} {k:Nat} {news:List D} (hx:R F β w x v) (h:sliceCells m sz x=some (p,rd,k,news)) (hp:p)
    (hszr:∀ i off n cs e,x=.rs i off n→m i=some (.cells cs e)→n=0∨True):
    ∃ a cap c,v=.slice a k cap∧Rl F β w news c∧c.length=k*sz∧(∀ ad,a=some ad→∀ (j:Nat) (u:Value),c[j]? =some u→w.cell? (ad.add j)=some u)∧(a=none→c=[]∧k*sz=0):=by
  cases x with
  | sl es n=>
    simp only [sliceCells,Option.some.injEq,Prod.mk.injEq] at h
    obtain ⟨rfl,rfl,rfl,rfl⟩:=h
    rcases hx.sl_inv with ⟨rfl,rfl,a,cap,rfl⟩ | ⟨b,o,cap,rfl,_,_,_,_,_,hrd⟩
    · exact ⟨a,cap,[],rfl,⟨by simp,by simp⟩,by simp,by simp,by simp⟩
    · obtain ⟨c,h1,h2⟩:=(hrd.take (n*sz)).vals
      refine ⟨_,cap,c,rfl,h1,?_,fun ad had=>by cases had;exact h2,by simp⟩
      rw [h1.1,List.length_take]
      exact Nat.min_eq_left hp
  | z=>
    simp only [sliceCells,Option.some.injEq,Prod.mk.injEq] at h
    obtain ⟨rfl,rfl,rfl,rfl⟩:=h
    obtain ⟨a,rfl⟩:=hx.z_inv
    exact ⟨a,0,[],rfl,⟨by simp,by simp⟩,by simp,by simp,by simp⟩
  | rs i off n=>
    simp only [sliceCells] at h
    cases hi:m i with
    | none=>simp [hi] at h
    | some r=>
    cases r with
    | map es=>simp [hi] at h
    | raw es=>simp [hi] at h
    | bs u x T=>simp [hi] at h
    | lp k=>simp [hi] at h
    | ren f r=>simp [hi] at h
    | cells cs e=>
    simp only [hi,Option.some.injEq,Prod.mk.injEq] at h
    obtain ⟨rfl,rfl,rfl,rfl⟩:=h
    rcases hx.rs_inv hm hi with ⟨rfl,rfl,rfl,hnil,a,rfl⟩ | ⟨b,o,room,hβ,hrow,hcase⟩
    · exact ⟨a,0,[],rfl,⟨by simp,by simp⟩,by simp,by simp,by simp⟩
    · rcases hcase with ⟨rfl,a,rfl⟩ | ⟨cap,rfl,g1,g2,g3,g4⟩
      · exact ⟨a,0,[],rfl,⟨by simp,by simp⟩,by simp,by simp,by simp⟩
      · obtain ⟨c,h1,h2⟩:=((hrow.rd.1.drop off).take (n*sz)).vals
        refine ⟨_,cap,c,rfl,h1,?_,fun ad had=>by cases had;exact h2,by simp⟩
        rw [h1.1]
        simp
        omega
  | _=>simp [sliceCells] at h
theorem run_append_zero (t ty e:TypeId) (i:TypeInfo) (ht:P.underlying t=some (.slice e)) (hi:P.info? e=some i) (a0 a:Option Addr) (n cap c:Nat) (hle:n≤cap):
    (Builtin.append_ #[t,t] ty #[.slice a0 n cap,.slice a 0 c]).run P w=.ok (.slice a0 n cap) w:=by
  cases a0<;>cases a<;>simp [Builtin.append_,run_underlying ht,sizeOf,typeInfo,hi,Builtin.lenOf,hle,Builtin.firstCells,loadCells,loadCellsFrom,storeCells]
theorem run_append_fit (t ty e:TypeId) (i:TypeInfo) (ht:P.underlying t=some (.slice e)) (hi:P.info? e=some i) (g o n cap:Nat) (cur:Array Value) (hg:w.heap[g]? =some (.cells cur e (0,0)))
    (a:Addr) (k c:Nat) (news:List Value) (hl:news.length=k*i.size) (hnews:∀ j u,news[j]? =some u→w.cell? (a.add j)=some u) (h1:∀ u∈news,u.oneCell'=true) (hroom:n+k≤cap) (hfit:o+n*i.size+news.length≤cur.size):
    (Builtin.append_ #[t,t] ty #[.slice (some ⟨g,o,none⟩) n cap,.slice (some a) k c]).run P w=
      .ok (.slice (some ⟨g,o,none⟩) (n+k) cap) (w.setRow g (cur.toList.take (o+n*i.size)++news++cur.toList.drop (o+n*i.size+news.length)).toArray):=by
  have hf:=run_firstCells_some (P:=P) w i.size k a k c news hl hnews
  have hst:=run_storeCells_at P g (o+n*i.size) e news 0 cur w hg (by simpa using hfit) h1
  simp only [Nat.add_zero] at hst
  simp [Builtin.append_,run_underlying ht,sizeOf,typeInfo,hi,Builtin.lenOf,hroom,hf,Addr.add_lit,hst]
theorem run_append_new (t ty e:TypeId) (i:TypeInfo) (z:Value) (ht:P.underlying t=some (.slice e)) (hi:P.info? e=some i) (hz:i.zero=some z) (a0:Option Addr) (n cap:Nat) (olds:List Value) (hlo:olds.length=n*i.size)
    (holds:∀ ad,a0=some ad→∀ j v,olds[j]? =some v→w.cell? (ad.add j)=some v) (h0:a0=none→n=0∧cap=0) (hnc:n≤cap)
    (a:Addr) (k c:Nat) (news:List Value) (hl:news.length=k*i.size) (hnews:∀ j v,news[j]? =some v→w.cell? (a.add j)=some v) (hg:cap<n+k) (h63:n+k≤maxLen) (hb:(n+k)*i.bytes≤140737488355328):
    (Builtin.append_ #[t,t] ty #[.slice a0 n cap,.slice (some a) k c]).run P w=
      .ok (.slice (some ⟨w.heap.size,0,none⟩) (n+k) (grownCap w (n+k) cap e)) (w.drew.alloc (.cells (olds.toArray++news.toArray++Builtin.zeroCells z.cells (grownCap w (n+k) cap e - (n+k))) e)):=by
  simp only [maxLen] at h63
  cases a0 with
  | some b=>exact run_append_grow w t ty e i z ht hi hz b n cap olds hlo (holds b rfl) a k c news hl hnews hg (by omega) (growslice_fits (by omega) hb)
  | none=>
    obtain ⟨rfl,rfl⟩:=h0 rfl
    have:olds=[]:=List.eq_nil_of_length_eq_zero (by simpa using hlo)
    subst this
    have:=run_append_nil (P:=P) w t ty e i z ht hi hz a k c news hl hnews (by omega) (by omega) (by simp at hb;omega)
    simpa using this
theorem zeroCells_len (z:Array Value) (n:Nat):(Builtin.zeroCells z n).toList.length=n*z.size:=by simp [Builtin.zeroCells]
theorem Rl.append {c1 c2:List D} {v1 v2:List Value} (h1:Rl F β w c1 v1) (h2:Rl F β w c2 v2):Rl F β w (c1++c2) (v1++v2):=by
  refine ⟨by simp [h1.1,h2.1],fun k d u hk hu=>?_⟩
  by_cases hlt:k<c1.length
  · rw [List.getElem?_append_left hlt] at hk
    rw [List.getElem?_append_left (by rw [h1.1];exact hlt)] at hu
    exact h1.2 k d u hk hu
  · rw [List.getElem?_append_right (by omega)] at hk
    rw [List.getElem?_append_right (by rw [h1.1];omega),h1.1] at hu
    exact h2.2 _ d u hk hu
theorem Rl.step {cs:List D} {c:List Value} {β':Pla} (h:Rl F β w cs c) (hs:Step β w β' w'):Rl F β' w' cs c:=⟨h.1,fun k d u hk hu=>⟨(h.2 k d u hk hu).1.step hs,(h.2 k d u hk hu).2⟩⟩
theorem grown_row (hm:MSim P F m β w) (hn:β nx=none) {e:TypeId} {z:Value} (hzs:z.cells.size=P.cellsOf e) {cs:List D} {c:List Value} (hc:Rl F β w cs c) {n N:Nat} (hlen:cs.length=n*P.cellsOf e) (hN:n≤N) (hmax:N≤maxLen):
    ∃ β',MSim P F (up m nx (some (.cells cs e))) β' (w.alloc (.cells (c.toArray++Builtin.zeroCells z.cells (N - n)) e))∧Step β w β' (w.alloc (.cells (c.toArray++Builtin.zeroCells z.cells (N - n)) e))∧
      R F β' (w.alloc (.cells (c.toArray++Builtin.zeroCells z.cells (N - n)) e)) (.rs nx 0 n) (.slice (some ⟨w.heap.size,0,none⟩) n N)∧∀ i,i≠nx→β' i=β i:=by
  obtain ⟨h2,h3⟩:=new_row hm hn (cs:=cs) (c:=c) (e:=e) hc.1 hc.2 (Builtin.zeroCells z.cells (N - n)).toList
  have e1:(c++(Builtin.zeroCells z.cells (N - n)).toList).toArray=c.toArray++Builtin.zeroCells z.cells (N - n):=by
    apply Array.ext'
    simp
  rw [e1] at h2 h3
  have e2:n*P.cellsOf e+(N - n)*P.cellsOf e=N*P.cellsOf e:=by rw [← Nat.add_mul];congr 1;omega
  have e3:=zeroCells_len z.cells (N - n)
  rw [hzs] at e3
  refine ⟨_,h2,h3,?_,fun i hi=>up_ne _ _ hi⟩
  exact .rs nx 0 n N w.heap.size 0 _ _ _ (up_same _ _ _) hN hmax (by omega) (by omega)
theorem nil_row (hm:MSim P F m β w) (hn:β nx=none) (e:TypeId):MSim P F (up m nx (some (.cells [] e))) (up β nx (some .nil)) w∧Step β w (up β nx (some .nil)) w:=by
  have hs:Step β w (up β nx (some .nil)) w:=by
    refine ⟨Nat.le_refl _,fun b hb hf=>⟨rfl,fun i q hq=>?_⟩,fun i q hq=>.inl ?_,⟨rfl,rfl⟩,fun _ _ _ _=>skel_of rfl⟩
    · by_cases hi:i=nx
      · subst hi;rw [up_same] at hq;cases hq;simp [Pl.blk]
      · rw [up_ne _ _ hi] at hq;exact hf i q hq
    · rw [up_ne _ _ (fun e=>by rw [e,hn] at hq;cases hq)];exact hq
  have sub:∀ i q b,up β nx (some .nil) i=some q→q.blk=some b→β i=some q:=fun i q b hq e=>by
    by_cases hi:i=nx
    · subst hi;rw [up_same] at hq;cases hq;simp [Pl.blk] at e
    · rw [up_ne _ _ hi] at hq;exact hq
  refine ⟨⟨fun i r hi=>?_,fun i j p q b hp hq e e'=>hm.inj i j p q b (sub i p b hp e) (sub j q b hq e') e e',fun i p b hp e=>hm.lt i p b (sub i p b hp e) e,fun i p b hp e=>hm.nf i p b (sub i p b hp e) e,hm.fb⟩,hs⟩
  by_cases hin:i=nx
  · subst hin
    rw [up_same] at hi
    cases hi
    exact ⟨.nil,up_same _ _ _,.nil e⟩
  · rw [up_ne _ _ hin] at hi
    obtain ⟨p,hp,hrow⟩:=hm.row i r hi
    exact ⟨p,by rw [up_ne _ _ hin];exact hp,hrow.step hs fun _ _=>rfl⟩
structure Src (P:Program) (w:World) (t u ty E:TypeId) (vx:Value) (k:Nat) (c:List Value):Prop where
  len:c.length=k*P.cellsOf E
  zero:k=0→∀ a0 n cap,n≤cap→(Builtin.append_ #[t,u] ty #[.slice a0 n cap,vx]).run P w=.ok (.slice a0 n cap) w
  new:0<k→∀ a0 n cap (olds:List Value) z,(P.info? E).bind (·.zero)=some z→olds.length=n*P.cellsOf E→(∀ ad,a0=some ad→∀ j v,olds[j]? =some v→w.cell? (ad.add j)=some v)→(a0=none→n=0∧cap=0)→n≤cap→cap<n+k→n+k≤maxLen→(n+k)*P.bytesOf E≤140737488355328→
    (Builtin.append_ #[t,u] ty #[.slice a0 n cap,vx]).run P w=.ok (.slice (some ⟨w.heap.size,0,none⟩) (n+k) (grownCap w (n+k) cap E)) (w.drew.alloc (.cells (olds.toArray++c.toArray++Builtin.zeroCells z.cells (grownCap w (n+k) cap E - (n+k))) E))
  fit:0<k→∀ g o n cap (cur:Array Value),w.heap[g]? =some (.cells cur E (0,0))→n+k≤cap→o+n*P.cellsOf E+c.length≤cur.size→(∀ v∈c,v.oneCell'=true)→
    (Builtin.append_ #[t,u] ty #[.slice (some ⟨g,o,none⟩) n cap,vx]).run P w=.ok (.slice (some ⟨g,o,none⟩) (n+k) cap) (w.setRow g (cur.toList.take (o+n*P.cellsOf E)++c++cur.toList.drop (o+n*P.cellsOf E+c.length)).toArray)
theorem src_slice (hm:MSim P F m β w) {t ty:TypeId} {x:D} {vx:Value} {p:Prop} {rd:List Nat} {k:Nat} {news:List D} (hx:R F β w x vx) (h:sliceCells m (P.cellsOf (elemP P t)) x=some (p,rd,k,news)) (hp:p) (ht:slT P t=true) (hpos:0<P.cellsOf (elemP P t)):
    ∃ c,Rl F β w news c∧Src P w t t ty (elemP P t) vx k c:=by
  obtain ⟨hu,hok⟩:=slT_spec ht
  obtain ⟨i,d,z,hi,hd,hz,_,hzs,_,hsz,hb,_⟩:=tyOk_spec hok
  obtain ⟨a,c',c,rfl,hcl,hcn,hca,hcz⟩:=slice_vals hm hx h hp (fun _ _ _ _ _ _ _=>.inr trivial)
  have some_of:0<k→∃ ad,a=some ad:=fun hk=>by
    cases a with
    | none=>have:=(hcz rfl).2;have:=Nat.mul_pos hk hpos;omega
    | some ad=>exact ⟨ad,rfl⟩
  refine ⟨c,hcl,hcn,fun hk a0 n cap hle=>?_,fun hk a0 n cap olds z' hz' hol hcells h0 hnc hg hmax hby=>?_,fun hk g o n cap cur hcur hroom hfit hone=>?_⟩
  · subst hk
    exact run_append_zero (P:=P) (w:=w) t ty _ i hu hi a0 a n cap c' hle
  · obtain ⟨ad,rfl⟩:=some_of hk
    simp only [hi,Option.bind_some] at hz'
    rw [hz] at hz'
    cases hz'
    exact run_append_new (P:=P) (w:=w) t ty _ i z hu hi hz a0 n cap olds (by rw [hsz];exact hol) hcells h0 hnc ad k c' c (by rw [hsz];exact hcn) (hca ad rfl) hg hmax (by rw [hb];exact hby)
  · obtain ⟨ad,rfl⟩:=some_of hk
    have hrun:=run_append_fit (P:=P) (w:=w) t ty _ i hu hi g o n cap cur hcur ad k c' c (by rw [hsz];exact hcn) (hca ad rfl) hone hroom (by rw [hsz];omega)
    rw [hsz] at hrun
    exact hrun
theorem ops_appendG (hm:MSim P F m β w) (hn:β nx=none) {t u ty E:TypeId} {vs vx:Value} {k:Nat} {news:List D} {c:List Value} (hcl:Rl F β w news c) (X:Src P w t u ty E vx k c) (hok:tyOk P E=true) (hpos:0<P.cellsOf E) {pre:Prop} {rd:List Nat}:
    (R F β w .z vs→k≤maxLen→k*P.bytesOf E≤140737488355328→OpS P F m nx β w { pre:=pre,val:=.rs nx 0 k,ups:=[(nx,some (.cells news E))],rd:=rd,new:=1 } (do Pure.pure (Next.value (← Builtin.append_ #[t,u] ty #[vs,vx]))))∧
    (∀ es n,R F β w (.sc es n) vs→0<k→n*P.cellsOf E=es.length→n+k≤maxLen→(n+k)*P.bytesOf E≤140737488355328→
     OpS P F m nx β w { pre:=pre,val:=.rs nx 0 (n+k),ups:=[(nx,some (.cells (es++news) E))],rd:=rd,new:=1 } (do Pure.pure (Next.value (← Builtin.append_ #[t,u] ty #[vs,vx]))))∧
    ∀ i off n cs,R F β w (.rs i off n) vs→m i=some (.cells cs E)→off+n*P.cellsOf E=cs.length→n+k≤maxLen→(n+k)*P.bytesOf E≤140737488355328→
      OpS P F m nx β w { pre:=pre,val:=.rs nx 0 (n+k),ups:=[(i,none),(nx,some (.cells (cs.drop off++news) E))],rd:=rd,new:=1 } (do Pure.pure (Next.value (← Builtin.append_ #[t,u] ty #[vs,vx]))):=by
  obtain ⟨ii,d,z,hi,_,hz,_,hzs,_,hisz,_⟩:=tyOk_spec hok
  have hcn:=X.len
  have hnews0:k=0→news=[]:=fun hk=>List.eq_nil_of_length_eq_zero (by rw [← hcl.1,hcn,hk];simp)
  have grow:∀ (β0:Pla) (m0:Mem),MSim P F m0 β0 w→Step β w β0 w→β0 nx=none→(∀ i,β i=none→β0 i=none)→∀ (a0:Option Addr) (n cap:Nat) (oldD:List D) (olds:List Value),Rl F β0 w oldD olds→olds.length=n*P.cellsOf E→
   (∀ ad,a0=some ad→∀ j v,olds[j]? =some v→w.cell? (ad.add j)=some v)→(a0=none→n=0∧cap=0)→n≤cap→n+k≤maxLen→(n+k)*P.bytesOf E≤140737488355328→0<k→cap<n+k→
   ∃ v w' β',(Builtin.append_ #[t,u] ty #[.slice a0 n cap,vx]).run P w=.ok v w'∧R F β' w' (.rs nx 0 (n+k)) v∧MSim P F (up m0 nx (some (.cells (oldD++news) E))) β' w'∧Step β w β' w'∧∀ i,β i=none→(i<nx∨nx+1≤i)→β' i=none:=by
    intro β0 m0 hm0 hs0 hn0 hnone a0 n cap oldD olds hold hol hcells h0 hnc hmax hby hk hg
    have hrun:=X.new hk a0 n cap olds z (by simp [hi,hz]) hol hcells h0 hnc hg hmax hby
    have hrl:Rl F β0 w.drew (oldD++news) (olds++c):=(hold.append (hcl.step hs0)).step step_drew
    obtain ⟨β',g1,g2,g3,g4⟩:=grown_row (P:=P) (nx:=nx) (e:=E) (z:=z) hm0.drew hn0 hzs hrl (n:=n+k) (N:=grownCap w (n+k) cap E) (by rw [← hrl.1,List.length_append,hol,hcn,Nat.add_mul]) (grownCap_ge w _ _ _) (grownCap_le_maxLen w _ _ _ hmax)
    have e1:(olds++c).toArray=olds.toArray++c.toArray:=by simp
    rw [e1] at g1 g2 g3
    refine ⟨_,_,β',hrun,g3,g1,(hs0.trans step_drew).trans g2,fun j hj hjn=>?_⟩
    rw [g4 j (by omega)]
    exact hnone j hj
  refine ⟨fun hs hmax hby=>?_,fun es n hs hk hlen hmax hby=>?_,fun i off n cs hs hi' hfull hmax hby=>?_⟩
  · obtain ⟨a0,rfl⟩:=hs.z_inv
    rcases Nat.eq_zero_or_pos k with hk | hk
    · obtain ⟨g1,g2⟩:=nil_row hm hn E
      have:=hnews0 hk
      subst hk this
      exact ⟨.value (.slice a0 0 0),.slice a0 0 0,w,up β nx (some .nil),by simp [X.zero rfl a0 0 0 (Nat.le_refl _)],.inl rfl,.rsn nx a0 (up_same _ _ _),g1,g2,fresh_up⟩
    · obtain ⟨v,w',β',hrun,g1,g2,g3,g4⟩:=grow β m hm (Step.refl β w) hn (fun _ h=>h) a0 0 0 [] [] ⟨rfl,by simp⟩ (by simp) (by simp) (fun _=>⟨rfl,rfl⟩) (Nat.le_refl _) (by omega) (by simpa using hby) hk (by omega)
      refine ⟨.value v,v,w',β',by simp [hrun],.inl rfl,?_,?_,g3,g4⟩
      · simpa using g1
      · simpa [upds] using g2
  · cases hs with
    | sc _ _ a h=>
    rcases h.sl_inv with ⟨rfl,rfl,a',cap',hv⟩ | ⟨b,o,cap',hv,_,_,_,_,_,hrd⟩
    · cases hv
      obtain ⟨v,w',β',hrun,g1,g2,g3,g4⟩:=grow β m hm (Step.refl β w) hn (fun _ h=>h) a 0 0 [] [] ⟨rfl,by simp⟩ (by simp) (by simp) (fun _=>⟨rfl,rfl⟩) (Nat.le_refl _) hmax hby hk (by omega)
      exact ⟨.value v,v,w',β',by simp [hrun],.inl rfl,g1,by simpa [upds] using g2,g3,g4⟩
    · cases hv
      obtain ⟨olds,ho1,ho2⟩:=hrd.vals
      obtain ⟨v,w',β',hrun,g1,g2,g3,g4⟩:=grow β m hm (Step.refl β w) hn (fun _ h=>h) (some ⟨b,o,none⟩) n n es olds ho1 (by rw [ho1.1];exact hlen.symm) (fun ad had=>by cases had;exact ho2) (by simp) (Nat.le_refl _) hmax hby hk (by omega)
      exact ⟨.value v,v,w',β',by simp [hrun],.inl rfl,g1,by simpa [upds] using g2,g3,g4⟩
  · have hin:i≠nx:=fun e=>by
      obtain ⟨p',hp',_⟩:=hm.row i _ hi'
      rw [e,hn] at hp'
      cases hp'
    have hmd:=hm.dead i
    have hsd:=step_dead β w i
    have hn':up β i (some .dead) nx=none:=by rw [up_ne _ _ (Ne.symm hin)];exact hn
    have hnone:∀ j,β j=none→up β i (some .dead) j=none:=fun j hj=>by
      by_cases hji:j=i
      · subst hji
        obtain ⟨p',hp',_⟩:=hm.row j _ hi'
        rw [hj] at hp'
        cases hp'
      · rw [up_ne _ _ hji];exact hj
    have small:∀ a0:Option Addr,n=0→cs.length=off→vs=.slice a0 0 0→OpS P F m nx β w { pre:=pre,val:=.rs nx 0 (n+k),ups:=[(i,none),(nx,some (.cells (cs.drop off++news) E))],rd:=rd,new:=1 } (do Pure.pure (Next.value (← Builtin.append_ #[t,u] ty #[vs,vx]))):=by
      rintro a0 rfl hoff rfl
      have hdrop:cs.drop off=[]:=by simp;omega
      rcases Nat.eq_zero_or_pos k with rfl | hk
      · have hnews:=hnews0 rfl
        subst hnews
        obtain ⟨g1,g2⟩:=nil_row hmd hn' E
        refine ⟨.value (.slice a0 0 0),.slice a0 0 0,w,_,by simp [X.zero rfl a0 0 0 (Nat.le_refl _)],.inl rfl,.rsn nx a0 (up_same _ _ _),?_,hsd.trans g2,fun j hj hjn=>?_⟩
        · simp only [upds,hdrop,List.append_nil]
          exact g1
        · rw [up_ne _ _ (by simp only at hjn;omega)]
          exact hnone j hj
      · obtain ⟨v,w',β',hrun,g1,g2,g3,g4⟩:=grow _ _ hmd hsd hn' hnone a0 0 0 [] [] ⟨rfl,by simp⟩ (by simp) (by simp) (fun _=>⟨rfl,rfl⟩) (Nat.le_refl _) (by omega) hby hk (by omega)
        refine ⟨.value v,v,w',β',by simp [hrun],.inl rfl,?_,?_,g3,g4⟩
        · simpa using g1
        · simp only [upds,hdrop]
          exact g2
    rcases hs.rs_inv hm hi' with ⟨rfl,rfl,rfl,hnil,a0,rfl⟩ | ⟨b,o,room,hβ,hrow,hcase⟩
    · exact small a0 rfl rfl rfl
    · rcases hcase with ⟨rfl,a0,rfl⟩ | ⟨cap,rfl,g1,g2,g3,g4⟩
      · exact small a0 rfl (by omega) rfl
      · obtain ⟨olds,ho1,ho2⟩:=(hrow.rd.1.drop off).vals
        have hol:olds.length=n*P.cellsOf E:=by rw [ho1.1];simp;omega
        rcases Nat.lt_or_ge cap (n+k) with hg | hg
        · have hk:0<k:=by omega
          obtain ⟨v,w',β',hrun,k1,k2,k3,k4⟩:=grow _ _ hmd hsd hn' hnone (some ⟨b,o+off,none⟩) n cap (cs.drop off) olds (ho1.step hsd) hol (fun ad had=>by cases had;exact ho2) (by simp) g1 hmax hby hk hg
          exact ⟨.value v,v,w',β',by simp [hrun],.inl rfl,k1,k2,k3,k4⟩
        ·
          cases hrow with
          | cells _ _ _ _ _ _ cc hcc hroom hle hsz hh=>
          have hplace:(up β i (some .dead)) nx=none:=hn'
          rcases Nat.eq_zero_or_pos k with rfl | hk
          · have hnews:=hnews0 rfl
            subst hnews
            obtain ⟨q1,q2⟩:=hm.move (w':=w) (nx:=nx) (p':=.cells b (o+off) (cs.drop off).length (room - off) (P.cellsOf E)) hβ rfl rfl hn rfl (fun _ _=>rfl) (.cells (cs.drop off) E) (fun hst=>by
              refine .cells _ E b (o+off) (room - off) _ cc hcc (by omega) (by simp;omega) rfl fun j d hj=>?_
              rw [List.getElem?_drop] at hj
              obtain ⟨u,hu1,hu2,hu3⟩:=hh (off+j) d hj
              exact ⟨u,by rw [Nat.add_assoc];exact hu1,hu2.step hst,hu3⟩)
            refine ⟨.value (.slice (some ⟨b,o+off,none⟩) n cap),_,w,_,by simp [X.zero rfl (some ⟨b,o+off,none⟩) n cap g1],.inl rfl,?_,?_,q2,fun j hj hjn=>?_⟩
            · have:=R.rs (F:=F) (β:=up (up β i (some .dead)) nx (some (.cells b (o+off) (cs.drop off).length (room - off) (P.cellsOf E)))) (w:=w) nx 0 n cap b (o+off) (cs.drop off).length (room - off) (P.cellsOf E) (up_same _ _ _) g1 g2 (by simp;omega) (by omega)
              simpa using this
            · simp only [upds,List.append_nil]
              exact q1
            · rw [up_ne _ _ (by simp only at hjn;omega)]
              exact hnone j hj
          · have hmul:n*P.cellsOf E+k*P.cellsOf E≤cap*P.cellsOf E:=by rw [← Nat.add_mul];exact Nat.mul_le_mul_right _ hg
            have hone:∀ u∈c,u.oneCell'=true:=fun u hu=>by
              obtain ⟨j,hj⟩:=List.getElem?_of_mem hu
              have hjl:j<news.length:=by rw [← hcl.1];exact (List.getElem?_eq_some_iff.1 hj).1
              exact (hcl.2 j news[j] u (by simp [hjl]) hj).2
            have hrun:=X.fit hk b (o+off) n cap cc hcc hg (by omega) hone
            have hnl:news.length=k*P.cellsOf E:=by rw [← hcl.1];exact hcn
            have hheap:=setRow_heap w b cc (cc.toList.take (o+off+n*P.cellsOf E)++c++cc.toList.drop (o+off+n*P.cellsOf E+c.length)).toArray E (0,0) hcc
            have hsize:(cc.toList.take (o+off+n*P.cellsOf E)++c++cc.toList.drop (o+off+n*P.cellsOf E+c.length)).toArray.size=cc.size:=by
              simp only [List.size_toArray,List.length_append,List.length_take,List.length_drop,Array.length_toList]
              omega
            obtain ⟨q1,q2⟩:=hm.move (w':=w.setRow b (cc.toList.take (o+off+n*P.cellsOf E)++c++cc.toList.drop (o+off+n*P.cellsOf E+c.length)).toArray) (nx:=nx) (p':=.cells b (o+off) (cs.drop off++news).length (room - off) (P.cellsOf E)) hβ rfl rfl hn (by simp) (fun j hj=>setRow_other w b j _ hj) (.cells (cs.drop off++news) E) (fun hst=>by
              refine .cells _ E b (o+off) (room - off) _ _ hheap (by rw [hsize];omega) (by simp;omega) rfl fun j d hj=>?_
              have hv:=vsplice_get cc.toList (o+off+n*P.cellsOf E) c (by simp;omega) (o+off+j)
              simp only [List.getElem?_toArray]
              by_cases hlt:j<(cs.drop off).length
              · rw [List.getElem?_append_left hlt,List.getElem?_drop] at hj
                obtain ⟨u,hu1,hu2,hu3⟩:=hh (off+j) d hj
                rw [if_pos (by simp at hlt;omega)] at hv
                exact ⟨u,by rw [hv,Nat.add_assoc];simpa using hu1,hu2.step hst,hu3⟩
              · rw [List.getElem?_append_right (by omega)] at hj
                have hjl:=(List.getElem?_eq_some_iff.1 hj).1
                simp only [List.length_drop] at hj hjl hlt
                rw [if_neg (by omega),if_pos (by omega),show o+off+j - (o+off+n*P.cellsOf E)=j - (cs.length - off) from by omega] at hv
                have hcl':j - (cs.length - off)<c.length:=by omega
                obtain ⟨r1,r2⟩:=hcl.2 _ d c[j - (cs.length - off)] hj (by simp [hcl'])
                exact ⟨_,by rw [hv];simp [hcl'],r1.step hst,r2⟩)
            refine ⟨.value (.slice (some ⟨b,o+off,none⟩) (n+k) cap),_,_,_,by simp [hrun],.inl rfl,?_,q1,q2,fun j hj hjn=>?_⟩
            · refine .rs nx 0 (n+k) cap b (o+off) _ (room - off) _ (up_same _ _ _) hg g2 ?_ (by omega)
              simp only [List.length_append,List.length_drop]
              omega
            · rw [up_ne _ _ (by simp only at hjn;omega)]
              exact hnone j hj
theorem ops_append (hm:MSim P F m β w) (hn:β nx=none) {t ty:TypeId} {s x:D} {vs vx:Value} {e:Eff} (hs:R F β w s vs) (hx:R F β w x vx) (h:appendD P m nx t s x=some e) (hp:e.pre):
    OpS P F m nx β w e (do Pure.pure (Next.value (← Builtin.append_ #[t,t] ty #[vs,vx]))):=by
  unfold appendD at h
  simp only at h
  cases hxc:sliceCells m (P.cellsOf (elemP P t)) x with
  | none=>simp [hxc] at h
  | some q=>
  obtain ⟨p,rd,k,news⟩:=q
  simp only [hxc] at h
  cases s with
  | z=>
    simp only [Option.some.injEq] at h
    subst h
    obtain ⟨ht,hpp,hpos,hmax,hby⟩:=hp
    obtain ⟨c,hcl,X⟩:=src_slice (ty:=ty) hm hx hxc hpp ht hpos
    exact (ops_appendG hm hn hcl X (slT_spec ht).2 hpos).1 hs hmax hby
  | rs i off n=>
    simp only at h
    cases hi':m i with
    | none=>simp [hi'] at h
    | some r=>
    cases r with
    | map es=>simp [hi'] at h
    | raw es=>simp [hi'] at h
    | bs u x T=>simp [hi'] at h
    | lp k=>simp [hi'] at h
    | ren f r=>simp [hi'] at h
    | cells cs e'=>
    simp only [hi',Option.some.injEq] at h
    subst h
    obtain ⟨ht,hee,hpp,hpos,hfull,hmax,hby,hrd⟩:=hp
    subst hee
    obtain ⟨c,hcl,X⟩:=src_slice (ty:=ty) hm hx hxc hpp ht hpos
    exact (ops_appendG hm hn hcl X (slT_spec ht).2 hpos).2.2 i off n cs hs hi' hfull hmax hby
  | _=>simp at h
end
theorem veq1_eq {a b:Value} (h:veq1 a b=true):a=b:=by
  unfold veq1 at h
  split at h
  · simp at h;rw [h.1,h.2]
  · simp at h;rw [h]
  · rename_i a b
    simp only [beq_iff_eq] at h
    congr 1
    cases a;cases b
    simp only [ByteArray.mk.injEq]
    exact Array.ext' (by simpa using h)
  · cases h
theorem veqs_eq:∀ {a b:List Value},veqs a b=true→a=b
  | [],[],_=>rfl
  | a::as,b::bs,h=>by
    simp only [veqs,Bool.and_eq_true] at h
    rw [veq1_eq h.1,veqs_eq h.2]
  | [],_::_,h=>by simp [veqs] at h
  | _::_,[],h=>by simp [veqs] at h
theorem veq_eq {a b:Value} (h:veq a b=true):a=b:=by
  unfold veq at h
  split at h
  · rw [Array.ext' (veqs_eq h)]
  · exact veq1_eq h
def scal:Value→Bool
  | .int _ _ | .bool _ | .string _=>true
  | _=>false
theorem veq1_refl {a:Value} (h:scal a=true):veq1 a a=true:=by
  unfold scal at h
  split at h<;>simp_all [veq1]
theorem veqs_refl:∀ {a:List Value},a.all scal=true→veqs a a=true
  | [],_=>rfl
  | a::as,h=>by
    simp only [List.all_cons,Bool.and_eq_true] at h
    simp [veqs,veq1_refl h.1,veqs_refl h.2]
section
variable {P:Program}
structure MapLaw (P:Program) (t kt et:TypeId):Prop where
  und:P.underlying t=some (.map kt et)
  elem:tyOk P et=true
  zero:zOk P et=true
  refl:∀ v,keyP P kt v=true→veq v v=true
  one:∀ v,keyP P kt v=true→v.oneCell'=true∨∃ vs,v=.agg vs
  check:∀ (w:World) (em:Bool) (v:Value),keyP P kt v=true→(Instr.checkKey em 10000 kt v).run P w=.ok () w
  find:∀ (w:World) (x:Value),keyP P kt x=true→∀ es:List MapEntry,(∀ e∈es,keyP P kt e.key=true)→
    ((Instr.findKey kt x es).run P w=.ok none w∧∀ e∈es,e.key≠x)∨∃ j e,(Instr.findKey kt x es).run P w=.ok (some (j,e.val)) w∧es[j]? =some e∧e.key=x
  stays:∀ (w:World) (v:Value),keyP P kt v=true→(Instr.keyThatStays v v).run P w=.ok v w
theorem mapLaw_plain {t kt et:TypeId} {d:TypeDesc} (hu:P.underlying t=some (.map kt et)) (he:tyOk P et=true) (hz:zOk P et=true) (hd:P.underlying kt=some d) (hk:∀ v,keyP P kt v=true↔MapKept.IsKey d v):MapLaw P t kt et where
  und:=hu
  elem:=he
  zero:=hz
  refl:=fun v h=>by
    have:=(hk v).1 h
    cases d<;>cases v<;>simp_all [MapKept.IsKey,veq,veq1]
  one:=fun v h=>by
    have:=(hk v).1 h
    left
    cases d<;>cases v<;>simp_all [MapKept.IsKey,Value.oneCell']
  check:=fun w em v h=>MapKept.run_checkKey hd ((hk v).1 h) em 9999
  find:=fun w x hx es hes=>by
    rcases MapKept.findNow_spec ((hk x).1 hx) es 0 (fun e he=>(hk _).1 (hes e he)) with ⟨h1,h2⟩ | ⟨j,e,h1,h2,h3⟩
    · exact .inl ⟨MapKept.run_findKey hd h1,h2⟩
    · exact .inr ⟨j,e,by have:=MapKept.run_findKey (P:=P) (w:=w) hd h1;simpa using this,h2,h3⟩
  stays:=fun w v h=>MapKept.run_keyThatStays ((hk v).1 h)
theorem mapLaw_wide {t kt et:TypeId} (hu:P.underlying t=some (.map kt et)) (he:tyOk P et=true) (hz:zOk P et=true) (hw:(match P.underlying kt with | some (.array _ _) | some (.struct _)=>true | _=>false)=true)
    (h1:P.keyTypeAt 9 kt=true) (h2:P.tiled 9 kt=true):MapLaw P t kt et:=by
  have law:=deep_law (P:=P) (m:=9) (by omega) h1 h2 hw
  have hk:∀ v,keyP P kt v=true↔∃ l,keyOf P kt v=some l:=fun v=>by
    unfold keyP
    split at hw
    · simp_all [Option.isSome_iff_exists]
    · simp_all [Option.isSome_iff_exists]
    · cases hw
  refine ⟨hu,he,hz,fun v h=>?_,fun v h=>?_,fun w em v h=>?_,fun w x hx es hes=>?_,fun w v h=>?_⟩
  · obtain ⟨l,hl⟩:=(hk v).1 h
    obtain ⟨xs,L,rfl,e1,_⟩:=keyOf_top hw hl
    have:=cells_of_lits 9 kt h2 _ _ _ e1
    simp only [veq]
    rw [this]
    refine veqs_refl (List.all_eq_true.2 fun u hu=>?_)
    obtain ⟨l,_,rfl⟩:=List.mem_map.1 hu
    cases l<;>rfl
  · obtain ⟨l,hl⟩:=(hk v).1 h
    obtain ⟨xs,L,rfl,_⟩:=keyOf_top hw hl
    exact .inr ⟨xs,rfl⟩
  · obtain ⟨l,hl⟩:=(hk v).1 h
    exact law.check w em hl
  · obtain ⟨l,hl⟩:=(hk x).1 hx
    exact law.find w hl es fun e he=>(hk _).1 (hes e he)
  · obtain ⟨l,hl⟩:=(hk v).1 h
    exact law.stays w hl
theorem mapT_spec {t:TypeId} (h:mapT P t=true):MapLaw P t (mkeyP P t) (melP P t):=by
  unfold mapT at h
  split at h
  · rename_i kt et hu
    have e1:mkeyP P t=kt:=by simp [mkeyP,hu]
    have e2:melP P t=et:=by simp [melP,hu]
    rw [e1,e2]
    simp only [Bool.and_eq_true] at h
    obtain ⟨⟨h1,hz⟩,h2⟩:=h
    split at h2
    · rename_i hd
      exact mapLaw_plain hu h1 hz hd fun v=>by unfold keyP;rw [hd];cases v<;>simp [MapKept.IsKey]
    · rename_i hd
      exact mapLaw_plain hu h1 hz hd fun v=>by unfold keyP;rw [hd];cases v<;>simp [MapKept.IsKey]
    · rename_i hd
      exact mapLaw_plain hu h1 hz hd fun v=>by unfold keyP;rw [hd];cases v<;>simp [MapKept.IsKey]
    · rename_i hd
      simp only [Bool.and_eq_true] at h2
      exact mapLaw_wide hu h1 hz (by rw [hd]) h2.1 h2.2
    · rename_i hd
      simp only [Bool.and_eq_true] at h2
      exact mapLaw_wide hu h1 hz (by rw [hd]) h2.1 h2.2
    · cases h2
  · cases h
theorem lookD_none {k:Value}:∀ {es:List (Value×D)},lookD k es=none→∀ e∈es,veq e.1 k=false
  | [],_,e,he=>by cases he
  | (k',d)::es,h,e,he=>by
    simp only [lookD] at h
    split at h
    · cases h
    · rename_i hne
      simp only [Option.map_eq_none_iff] at h
      rcases List.mem_cons.1 he with rfl | he
      · simpa using hne
      · exact lookD_none h e he
theorem lookD_some {k:Value}:∀ {es:List (Value×D)} {j:Nat} {d:D},lookD k es=some (j,d)→∃ k',es[j]? =some (k',d)∧veq k' k=true
  | [],j,d,h=>by simp [lookD] at h
  | (k',d')::es,j,d,h=>by
    simp only [lookD] at h
    split at h
    · rename_i hv
      simp only [Option.some.injEq,Prod.mk.injEq] at h
      obtain ⟨rfl,rfl⟩:=h
      exact ⟨k',rfl,hv⟩
    · simp only [Option.map_eq_some_iff] at h
      obtain ⟨⟨j',d''⟩,h1,h2⟩:=h
      simp only [Prod.mk.injEq] at h2
      obtain ⟨rfl,rfl⟩:=h2
      obtain ⟨k'',h3,h4⟩:=lookD_some h1
      exact ⟨k'',by simpa using h3,h4⟩
theorem find_both {t kt et:TypeId} (L:MapLaw P t kt et) (w:World) {key:Value} (hk:keyP P kt key=true) {es:List (Value×D)} (hes:es.all (fun e=>keyP P kt e.1)=true) {ms:List MapEntry} (hl:ms.length=es.length)
    (hkeys:∀ (k:Nat) (x:Value×D) (m:MapEntry),es[k]? =some x→ms[k]? =some m→m.key=x.1) (hnd:(es.map (·.1)).Nodup):
    (lookD key es=none∧(Instr.findKey kt key ms).run P w=.ok none w∧(∀ e∈es,e.1≠key))∨
    ∃ j d e,lookD key es=some (j,d)∧(Instr.findKey kt key ms).run P w=.ok (some (j,e.val)) w∧ms[j]? =some e∧e.key=key∧es[j]? =some (key,d):=by
  have hms:∀ e∈ms,keyP P kt e.key=true:=fun e he=>by
    obtain ⟨k,hk'⟩:=List.getElem?_of_mem he
    have hlt:k<es.length:=by rw [← hl];exact (List.getElem?_eq_some_iff.1 hk').1
    rw [hkeys k es[k] e (by simp [hlt]) hk']
    exact List.all_eq_true.1 hes _ (List.getElem_mem hlt)
  rcases L.find w key hk ms hms with ⟨h1,h2⟩ | ⟨j,e,h1,h2,h3⟩
  · left
    have hne:∀ e∈es,e.1≠key:=fun e he hke=>by
      obtain ⟨k,hk'⟩:=List.getElem?_of_mem he
      have hlt:k<ms.length:=by rw [hl];exact (List.getElem?_eq_some_iff.1 hk').1
      exact h2 ms[k] (List.getElem_mem hlt) ((hkeys k e ms[k] hk' (by simp [hlt])).trans hke)
    refine ⟨?_,h1,hne⟩
    cases hld:lookD key es with
    | none=>rfl
    | some x=>
      obtain ⟨j,d⟩:=x
      obtain ⟨k',h3,h4⟩:=lookD_some hld
      exact absurd (veq_eq h4) (hne _ (List.mem_of_getElem? h3))
  · right
    have hlt:j<es.length:=by rw [← hl];exact (List.getElem?_eq_some_iff.1 h2).1
    have hej:es[j]? =some es[j]:=by simp [hlt]
    have hkj:es[j].1=key:=(hkeys j es[j] e hej h2).symm.trans h3
    cases hld:lookD key es with
    | none=>
      have:=lookD_none hld es[j] (List.getElem_mem hlt)
      rw [hkj,L.refl key hk] at this
      cases this
    | some x=>
      obtain ⟨j',d⟩:=x
      obtain ⟨k',h4,h5⟩:=lookD_some hld
      have hk':=veq_eq h5
      subst hk'
      have hlt':j'<es.length:=(List.getElem?_eq_some_iff.1 h4).1
      have hjj:j'=j:=by
        refine (List.getElem_inj (h₀:=by simpa using hlt') (h₁:=by simpa using hlt) hnd).1 ?_
        simp only [List.getElem_map]
        have:=(List.getElem?_eq_some_iff.1 h4).2
        rw [this,hkj]
      subst hjj
      exact ⟨j',d,e,rfl,h1,h2,h3,h4⟩
variable {F:Nat→Prop} {m:Mem} {nx:Nat} {β:Pla} {w:World}
theorem valsV_R:∀ {cs:List D} {vs us:List Value},valsV cs=some vs→us.length=cs.length→(∀ (k:Nat) (d:D) (u:Value),cs[k]? =some d→us[k]? =some u→R F β w d u)→us=vs
  | [],vs,us,h,hl,_=>by
    simp [valsV] at h
    subst h
    simpa using hl
  | d::cs,vs,us,h,hl,hr=>by
    cases us with
    | nil=>simp at hl
    | cons u us=>
      have h0:=hr 0 d u rfl rfl
      cases d with
      | s v=>
        simp only [valsV,Option.map_eq_some_iff] at h
        obtain ⟨vs',h1,rfl⟩:=h
        rw [h0.s_inv.1,valsV_R (us:=us) h1 (by simpa using hl) fun k d u hd hu=>hr (k+1) d u (by simpa using hd) (by simpa using hu)]
      | _=>simp [valsV] at h
theorem keyV_R {d:D} {key v:Value} (hk:keyV d=some key) (h:R F β w d v):v=key:=by
  unfold keyV at hk
  split at hk
  · rw [h.s_inv.1];simpa using hk
  · obtain ⟨us,rfl,hl,hr⟩:=h.agg_inv
    simp only [Option.map_eq_some_iff] at hk
    obtain ⟨vs,h1,rfl⟩:=hk
    rw [valsV_R h1 hl hr]
  · cases hk
theorem R.mp_inv (hm:MSim P F m β w) {i:Nat} {es:List (Value×D)} {v:Value} (h:R F β w (.mp i) v) (hi:m i=some (.map es)):
    ∃ r ms clock,β i=some (.map r)∧v=.map (some r)∧w.heap[r]? =some (.map ms clock)∧ms.size=es.length∧(es.map (·.1)).Nodup∧
      ∀ (k:Nat) (x:Value×D) (m:MapEntry),es[k]? =some x→ms[k]? =some m→m.key=x.1∧R F β w x.2 m.val:=by
  obtain ⟨p,hp,hrow⟩:=hm.row i _ hi
  cases h with
  | mpd _ _ h _=>rw [h] at hp;cases hp;cases hrow
  | mp _ r h=>
    rw [h] at hp
    cases hp
    cases hrow with
    | map _ _ ms clock h1 h2 h3 h4=>exact ⟨r,ms,clock,h,rfl,h1,h2,h3,h4⟩
theorem R.im_inv {es:List (Value×D)} {v:Value} (h:R F β w (.im es) v):
    ∃ r ms clock,v=.map (some r)∧w.heap[r]? =some (.map ms clock)∧ms.size=es.length∧(es.map (·.1)).Nodup∧
      ∀ (k:Nat) (x:Value×D) (m:MapEntry),es[k]? =some x→ms[k]? =some m→m.key=x.1∧R F β w x.2 m.val:=by
  cases h with
  | im _ r ms clock hf hb hc hl hnd hk hh=>exact ⟨r,ms,clock,rfl,hc,hl,hnd,fun k x m hx hm=>⟨hk k x m hx hm,hh k x m hx hm⟩⟩
theorem zeroD_R {t:TypeId} (ht:tyOk P t=true) (hzo:zOk P t=true):∃ v,(zeroValue t).run P w=.ok v w∧R F β w (zeroD P t) v:=by
  obtain ⟨i,d,z,hi,_,hz,ha1,hzs,h3,_,_,h4⟩:=tyOk_spec ht
  obtain ⟨c1,c2⟩:=zero_R (F:=F) (β:=β) (w:=w) h3 h4
  refine ⟨z,by simp [zeroValue,typeInfo,hi,hz],?_⟩
  unfold zeroD
  unfold zOk at hzo
  simp only [hi,Option.bind_some,hz] at hzo
  have single:(∀ cs,z≠ .agg cs)→aggP P t=false→R F β w ((zeroP P t).headD .u) z:=fun hne ha=>by
    have hc:z.cells.toList=[z]:=by cases z<;>first | rfl | exact absurd rfl (hne _)
    have:zeroP P t=[toD1 z]:=by rw [h3,hc];rfl
    rw [this]
    exact toD1_R z
  split at hzo
  · rename_i cs hcs
    simp only [Option.some.injEq] at hcs
    subst hcs
    rw [if_pos hzo]
    have:=R.agg (F:=F) (β:=β) (w:=w) (zeroP P t) cs.toList (by simpa [Value.cells] using c1) fun k d u hd hu=>(c2 k d u hd (by simpa [Value.cells] using hu)).1
    simpa using this
  · rename_i u hne hu
    simp only [Bool.not_eq_true'] at hzo
    simp only [Option.some.injEq] at hu
    rw [if_neg (by simp [hzo])]
    exact single (fun cs h=>hne cs (by rw [← hu,h])) hzo
  · cases hzo
theorem ops_lookup (hm:MSim P F m β w) {t:TypeId} {x k:D} {ok:Bool} {vx vk:Value} (hx:R F β w x vx) (hk:R F β w k vk) {e:Eff} (h:lookupD P m t x k ok=some e) (hp:e.pre):
    OpS P F m nx β w e (do Pure.pure (Next.value (← Instr.lookup t vx vk ok))):=by
  unfold lookupD at h
  split at h
  · rename_i key i hkey
    rw [keyV_R hkey hk]
    split at h
    · rename_i es hi
      cases h
      obtain ⟨h1,h2,h3⟩:=hp
      have L:=mapT_spec h1
      obtain ⟨r,ms,clock,hβ,rfl,hb,hl,hnd,hh⟩:=hx.mp_inv hm hi
      obtain ⟨z,hz,hzr⟩:=zeroD_R (F:=F) (β:=β) (w:=w) L.elem L.zero
      rcases find_both L w h2 h3 (ms:=ms.toList) (by simpa using hl) (fun k x m hx hm=>(hh k x m hx (by simpa using hm)).1) hnd with ⟨f1,f2,_⟩ | ⟨j,d,en,f1,f2,f3,f4,f5⟩
      · refine ⟨.value (if ok then .tuple #[z,.bool false] else z),_,w,β,?_,.inl rfl,?_,hm,Step.refl β w,fun _ h _=>h⟩
        · simp [Instr.lookup,run_underlying L.und,MapKept.run_getObj_map hb,L.check w _ key h2,f2,hz]
        · simp only [f1,gotD]
          cases ok
          · exact hzr
          · exact .tup _ [z,.bool false] rfl fun k d u hd hu=>by
              match k with
              | 0=>simp at hd hu;subst hd;subst hu;exact hzr
              | 1=>simp at hd hu;subst hd;subst hu;exact .s _ rfl
              | k+2=>simp at hd
      · have hv:=(hh j _ en f5 (by simpa using f3)).2
        refine ⟨.value (if ok then .tuple #[en.val,.bool true] else en.val),_,w,β,?_,.inl rfl,?_,hm,Step.refl β w,fun _ h _=>h⟩
        · simp [Instr.lookup,run_underlying L.und,MapKept.run_getObj_map hb,L.check w _ key h2,f2]
        · simp only [f1,gotD]
          cases ok
          · exact hv
          · exact .tup _ [en.val,.bool true] rfl fun k d u hd hu=>by
              match k with
              | 0=>simp at hd hu;subst hd;subst hu;exact hv
              | 1=>simp at hd hu;subst hd;subst hu;exact .s _ rfl
              | k+2=>simp at hd
    · cases h
  · rename_i key es hkey
    rw [keyV_R hkey hk]
    · cases h
      obtain ⟨h1,h2,h3⟩:=hp
      have L:=mapT_spec h1
      obtain ⟨r,ms,clock,rfl,hb,hl,hnd,hh⟩:=hx.im_inv
      obtain ⟨z,hz,hzr⟩:=zeroD_R (F:=F) (β:=β) (w:=w) L.elem L.zero
      rcases find_both L w h2 h3 (ms:=ms.toList) (by simpa using hl) (fun k x m hx hm=>(hh k x m hx (by simpa using hm)).1) hnd with ⟨f1,f2,_⟩ | ⟨j,d,en,f1,f2,f3,f4,f5⟩
      · refine ⟨.value (if ok then .tuple #[z,.bool false] else z),_,w,β,?_,.inl rfl,?_,hm,Step.refl β w,fun _ h _=>h⟩
        · simp [Instr.lookup,run_underlying L.und,MapKept.run_getObj_map hb,L.check w _ key h2,f2,hz]
        · simp only [f1,gotD]
          cases ok
          · exact hzr
          · exact .tup _ [z,.bool false] rfl fun k d u hd hu=>by
              match k with
              | 0=>simp at hd hu;subst hd;subst hu;exact hzr
              | 1=>simp at hd hu;subst hd;subst hu;exact .s _ rfl
              | k+2=>simp at hd
      · have hv:=(hh j _ en f5 (by simpa using f3)).2
        refine ⟨.value (if ok then .tuple #[en.val,.bool true] else en.val),_,w,β,?_,.inl rfl,?_,hm,Step.refl β w,fun _ h _=>h⟩
        · simp [Instr.lookup,run_underlying L.und,MapKept.run_getObj_map hb,L.check w _ key h2,f2]
        · simp only [f1,gotD]
          cases ok
          · exact hv
          · exact .tup _ [en.val,.bool true] rfl fun k d u hd hu=>by
              match k with
              | 0=>simp at hd hu;subst hd;subst hu;exact hv
              | 1=>simp at hd hu;subst hd;subst hu;exact .s _ rfl
              | k+2=>simp at hd
  · rename_i key hkey
    rw [keyV_R hkey hk]
    cases h
    obtain ⟨h1,h2⟩:=hp
    have L:=mapT_spec h1
    rw [hx.s_inv.1]
    obtain ⟨z,hz,hzr⟩:=zeroD_R (F:=F) (β:=β) (w:=w) L.elem L.zero
    rcases find_both L w h2 (es:=[]) rfl (ms:=[]) rfl (by simp) (by simp) with ⟨f1,f2,_⟩ | ⟨j,d,en,f1,f2,f3,f4,f5⟩
    · refine ⟨.value (if ok then .tuple #[z,.bool false] else z),_,w,β,?_,.inl rfl,?_,hm,Step.refl β w,fun _ h _=>h⟩
      · simp [Instr.lookup,run_underlying L.und,L.check w _ key h2,f2,hz]
      · simp only [gotD]
        cases ok
        · exact hzr
        · exact .tup _ [z,.bool false] rfl fun k d u hd hu=>by
            match k with
            | 0=>simp at hd hu;subst hd;subst hu;exact hzr
            | 1=>simp at hd hu;subst hd;subst hu;exact .s _ rfl
            | k+2=>simp at hd
    · simp at f5
  · cases h
theorem heap_setIf {w:World} {r:Nat} {o o':Obj} (hb:w.heap[r]? =some o):(w.heap.setIfInBounds r o').size=w.heap.size∧(w.heap.setIfInBounds r o')[r]? =some o'∧∀ k,k≠r→(w.heap.setIfInBounds r o')[k]? =w.heap[k]? :=
  ⟨by simp,(MapKept.heap_set hb).1,fun k hk=>(MapKept.heap_set hb).2 k hk⟩
theorem write_map (hm:MSim P F m β w) {i r:Nat} {ms:Array MapEntry} {clock:Nat} (hβ:β i=some (.map r)) (hb:w.heap[r]? =some (.map ms clock)) {es':List (Value×D)} {ms':Array MapEntry} {clock':Nat}
    (hl:ms'.size=es'.length) (hnd:(es'.map (·.1)).Nodup) (hh:∀ (k:Nat) (x:Value×D) (m:MapEntry),es'[k]? =some x→ms'[k]? =some m→m.key=x.1∧R F β w x.2 m.val):
    MSim P F (up m i (some (.map es'))) β { w with heap:=w.heap.setIfInBounds r (.map ms' clock') }∧Step β w β { w with heap:=w.heap.setIfInBounds r (.map ms' clock') }:=by
  obtain ⟨q1,q2,q3⟩:=heap_setIf (o':=.map ms' clock') hb
  have hs:=step_write (w':={ w with heap:=w.heap.setIfInBounds r (.map ms' clock') }) hm hβ rfl (by simp [q1]) q3
  refine ⟨hm.write hβ rfl q1 q3 _ (.map es' r ms' clock' q2 hl hnd fun k x mm hx hmm=>?_),hs⟩
  obtain ⟨h1,h2⟩:=hh k x mm hx hmm
  exact ⟨h1,h2.step hs⟩
theorem ops_mapPut (hm:MSim P F m β w) {t:TypeId} {x k v:D} {vx vk vv:Value} (hx:R F β w x vx) (hk:R F β w k vk) (hv:R F β w v vv) {e:Eff} (h:mapPutD P m t x k v=some e) (hp:e.pre):
    OpS P F m nx β w e (do Instr.mapUpdate t vx vk vv;Pure.pure Next.skip):=by
  unfold mapPutD at h
  split at h
  · rename_i key i hkey
    rw [keyV_R hkey hk]
    split at h
    · rename_i es hi
      cases h
      obtain ⟨h1,h2,h3⟩:=hp
      have L:=mapT_spec h1
      obtain ⟨r,ms,clock,hβ,rfl,hb,hl,hnd,hh⟩:=hx.mp_inv hm hi
      rcases find_both L w h2 h3 (ms:=ms.toList) (by simpa using hl) (fun k x m hx hm=>(hh k x m hx (by simpa using hm)).1) hnd with ⟨f1,f2,f3⟩ | ⟨j,d,en,f1,f2,f3,f4,f5⟩
      · obtain ⟨g1,g2⟩:=write_map (P:=P) hm hβ hb (es':=putD key v es) (ms':=ms.push { key,val:=vv,born:=clock }) (clock':=clock+1) (by simp [putD,f1,hl])
          (by
            simp only [putD,f1,List.map_append,List.map_cons,List.map_nil]
            rw [List.nodup_append]
            refine ⟨hnd,by simp,fun a ha b hb'=>?_⟩
            simp only [List.mem_singleton] at hb'
            subst hb'
            obtain ⟨y,hy,rfl⟩:=List.mem_map.1 ha
            exact f3 y hy)
          (fun k x mm hx hmm=>by
            simp only [putD,f1] at hx
            rcases Nat.lt_or_ge k es.length with hlt | hge
            · rw [List.getElem?_append_left hlt] at hx
              rw [Array.getElem?_push_lt (by omega)] at hmm
              exact hh k x mm hx (by rw [← hmm];simp [show k<ms.size by omega])
            · rw [List.getElem?_append_right hge] at hx
              have hk0:k - es.length=0:=by
                have:=(List.getElem?_eq_some_iff.1 hx).1
                simp at this
                omega
              rw [hk0] at hx
              simp at hx
              subst hx
              have:k=ms.size:=by omega
              subst this
              simp at hmm
              subst hmm
              exact ⟨rfl,hv⟩)
        exact ⟨.skip,undef,_,β,by simp [Instr.mapUpdate,run_underlying L.und,MapKept.run_getObj_map hb,L.check w _ key h2,f2,MapKept.run_setObj_map _ hb],.inr ⟨rfl,rfl⟩,.tup [] [] rfl (by simp),g1,g2,fun _ h _=>h⟩
      · have hjlt:j<es.length:=(List.getElem?_eq_some_iff.1 f5).1
        obtain ⟨g1,g2⟩:=write_map (P:=P) hm hβ hb (es':=putD key v es) (ms':=ms.modify j fun e=>{ e with key:=key,val:=vv }) (clock':=clock) (by simp [putD,f1,hl])
          (by
            have:(putD key v es).map (·.1)=es.map (·.1):=by
              simp only [putD,f1,List.map_set]
              have h5:(es.map (·.1))[j]'(by simpa using hjlt)=key:=by
                have:=(List.getElem?_eq_some_iff.1 f5).2
                simp [this]
              rw [← h5]
              exact List.set_getElem_self _
            rw [this];exact hnd)
          (fun k x mm hx hmm=>by
            simp only [putD,f1] at hx
            rw [Array.getElem?_modify] at hmm
            by_cases hkj:k=j
            · subst hkj
              simp only [if_pos] at hmm
              rw [List.getElem?_set_self hjlt] at hx
              simp only [Option.some.injEq] at hx
              subst hx
              simp only [Option.map_eq_some_iff] at hmm
              obtain ⟨en',_,rfl⟩:=hmm
              exact ⟨rfl,hv⟩
            · rw [if_neg (Ne.symm hkj)] at hmm
              rw [List.getElem?_set_ne (Ne.symm hkj)] at hx
              exact hh k x mm hx hmm)
        have hj:ms[j]? =some en:=by simpa using f3
        exact ⟨.skip,undef,_,β,by simp [Instr.mapUpdate,run_underlying L.und,MapKept.run_getObj_map hb,L.check w _ key h2,f2,hj,f4,L.stays w key h2,MapKept.run_setObj_map _ hb],.inr ⟨rfl,rfl⟩,.tup [] [] rfl (by simp),g1,g2,fun _ h _=>h⟩
    · cases h
  · cases h
theorem getD_ts {ts:Array TypeId} (h:ts.size≠0):ts[0]? =some (ts.getD 0 0):=by
  have:0<ts.size:=by omega
  simp [Array.getD_eq_getD_getElem?,this]
theorem ops_mapDel (hm:MSim P F m β w) {ts:Array TypeId} {ty:TypeId} (hts:ts.size≠0) {x k:D} {vx vk:Value} (hx:R F β w x vx) (hk:R F β w k vk) {e:Eff} (h:mapDelD P m (ts.getD 0 0) x k=some e) (hp:e.pre):
    OpS P F m nx β w e (do Pure.pure (Next.value (← Builtin.delete_ ts ty #[vx,vk]))):=by
  have ht0:=getD_ts hts
  generalize ts.getD 0 0=t at*
  unfold mapDelD at h
  split at h
  · rename_i key i hkey
    rw [keyV_R hkey hk]
    split at h
    · rename_i es hi
      cases h
      obtain ⟨h1,h2,h3⟩:=hp
      have L:=mapT_spec h1
      obtain ⟨r,ms,clock,hβ,rfl,hb,hl,hnd,hh⟩:=hx.mp_inv hm hi
      rcases find_both L w h2 h3 (ms:=ms.toList) (by simpa using hl) (fun k x m hx hm=>(hh k x m hx (by simpa using hm)).1) hnd with ⟨f1,f2,f3⟩ | ⟨j,d,en,f1,f2,f3,f4,f5⟩
      · obtain ⟨g1,g2⟩:=write_map (P:=P) hm hβ hb (es':=delD key es) (ms':=ms) (clock':=clock) (by simp [delD,f1,hl]) (by simpa [delD,f1] using hnd) (fun k x mm hx hmm=>hh k x mm (by simpa [delD,f1] using hx) hmm)
        exact ⟨.value (.tuple #[]),.tuple #[],_,β,by simp [Builtin.delete_,ht0,run_underlying L.und,MapKept.run_getObj_map hb,L.check w _ key h2,f2,MapKept.run_setObj_map _ hb],.inl rfl,.tup [] [] rfl (by simp),g1,g2,fun _ h _=>h⟩
      · have hjlt:j<es.length:=(List.getElem?_eq_some_iff.1 f5).1
        have hjm:j<ms.size:=by omega
        have he:∀ k,(ms.eraseIdxIfInBounds j)[k]? =if k<j then ms[k]? else ms[k+1]? :=fun k=>by
          have h0:(ms.eraseIdxIfInBounds j).toList=ms.toList.eraseIdx j:=by simp [Array.eraseIdxIfInBounds,hjm]
          rw [← Array.getElem?_toList,h0,List.getElem?_eraseIdx]
          simp
        obtain ⟨g1,g2⟩:=write_map (P:=P) hm hβ hb (es':=delD key es) (ms':=ms.eraseIdxIfInBounds j) (clock':=clock) (by simp [delD,f1,Array.eraseIdxIfInBounds,hjm,hl,List.length_eraseIdx,hjlt])
          (by simp only [delD,f1];exact List.Nodup.sublist ((List.eraseIdx_sublist es j).map _) hnd)
          (fun k x mm hx hmm=>by
            simp only [delD,f1,List.getElem?_eraseIdx] at hx
            rw [he] at hmm
            split at hx
            · rename_i hkj;rw [if_pos hkj] at hmm;exact hh k x mm hx hmm
            · rename_i hkj;rw [if_neg hkj] at hmm;exact hh (k+1) x mm hx hmm)
        exact ⟨.value (.tuple #[]),.tuple #[],_,β,by simp [Builtin.delete_,ht0,run_underlying L.und,MapKept.run_getObj_map hb,L.check w _ key h2,f2,MapKept.run_setObj_map _ hb],.inl rfl,.tup [] [] rfl (by simp),g1,g2,fun _ h _=>h⟩
    · cases h
  · cases h
end
theorem sameK_scal {a b:Value} (h:sameK a b=true):scal a=true∧scal b=true:=by
  unfold sameK at h
  split at h<;>first | exact ⟨rfl,rfl⟩ | cases h
def KSame (xs ys:List Value):Prop:=xs.length=ys.length∧∀ (k:Nat) (x y:Value),xs[k]? =some x→ys[k]? =some y→sameK x y=true
theorem KSame.chunk {xs ys:List Value} (h:KSame xs ys) (o n:Nat):KSame ((xs.drop o).take n) ((ys.drop o).take n):=by
  refine ⟨by simp [h.1],fun k x y hx hy=>?_⟩
  rw [List.getElem?_take] at hx hy
  split at hx
  · rename_i hk
    rw [if_pos hk] at hy
    rw [List.getElem?_drop] at hx hy
    exact h.2 _ x y hx hy
  · cases hx
section
variable {P:Program}
theorem ksame_scal {xs ys:List Value} (h:KSame xs ys):(∀ x∈xs,scal x=true)∧∀ y∈ys,scal y=true:=by
  refine ⟨fun x hx=>?_,fun y hy=>?_⟩
  · obtain ⟨k,hk⟩:=List.getElem?_of_mem hx
    have hlt:k<ys.length:=by rw [← h.1];exact (List.getElem?_eq_some_iff.1 hk).1
    exact (sameK_scal (h.2 k x ys[k] hk (by simp [hlt]))).1
  · obtain ⟨k,hk⟩:=List.getElem?_of_mem hy
    have hlt:k<xs.length:=by rw [h.1];exact (List.getElem?_eq_some_iff.1 hk).1
    exact (sameK_scal (h.2 k xs[k] y (by simp [hlt]) hk)).2
theorem equal_one (w:World) (d:Nat) {t:TypeId} (ht:oneT P t=true) {x y:Value} (hx:kindV x=kindT P t) (hk:sameK x y=true):
    ∃ r:Bool,(Op.equalIn (d+1) t x y).run P w=.ok r w∧(r=true↔x=y):=by
  unfold sameK at hk
  unfold kindT at hx
  split at hk
  · rename_i k a k' b
    simp only [beq_iff_eq] at hk
    subst hk
    split at hx<;>simp [kindV] at hx
    rename_i hu
    exact ⟨a==b,run_equalIn_int w d t _ _ a b hu,by simp⟩
  · rename_i a b
    split at hx<;>simp [kindV] at hx
    rename_i hu
    exact ⟨a==b,run_equalIn_bool' w d t a b hu,by simp⟩
  · rename_i a b
    split at hx<;>simp [kindV] at hx
    rename_i hu
    refine ⟨a==b,?_,?_⟩
    · rw [run_equalIn_string w d t a b hu,beq_toListBytes]
    · rw [MapKept.bytes_beq];simp
  · cases hk
theorem step_eq (w:World) (d:Nat) {t:TypeId} (ht:oneT P t=true) {xs ys:Array Value} (hk:KSame xs.toList ys.toList) {off:Nat} (hoff:off<xs.size) (hkind:∀ x,xs.toList[off]? =some x→kindV x=kindT P t):
    ∃ a b r,(part t xs off).run P w=.ok a w∧(part t ys off).run P w=.ok b w∧(Op.equalIn (d+1) t a b).run P w=.ok r w∧(r=true↔xs.toList[off]? =ys.toList[off]?):=by
  have hsz:xs.size=ys.size:=by simpa using hk.1
  have h0:=ht
  simp only [oneT,Bool.and_eq_true,Bool.not_eq_true'] at h0
  have hoff':off<ys.size:=by omega
  obtain ⟨r,hr,hiff⟩:=equal_one (P:=P) w d ht (x:=xs[off]) (y:=ys[off]) (hkind _ (by simp [hoff])) (hk.2 off _ _ (by simp [hoff]) (by simp [hoff']))
  refine ⟨xs[off],ys[off],r,?_,?_,hr,?_⟩
  · unfold part
    simp [run_isAgg' w (tyOk_und h0.1.2),h0.2,hoff]
  · unfold part
    simp [run_isAgg' w (tyOk_und h0.1.2),h0.2,hoff']
  · rw [hiff];simp [hoff,hoff']
theorem eqItems_run (w:World) (d:Nat) {e:TypeId} (ht:oneT P e=true) {xs ys:Array Value} (hk:KSame xs.toList ys.toList):∀ (is:List Nat),(∀ i∈is,i<xs.size∧∀ x,xs.toList[i]? =some x→kindV x=kindT P e)→
    ∃ r:Bool,(Op.eqItems (d+1) e (P.cellsOf e) xs ys is).run P w=.ok r w∧(r=true↔∀ i∈is,xs.toList[i]? =ys.toList[i]?)
  | [],_=>⟨true,by simp [Op.eqItems],by simp⟩
  | i::is,h=>by
    have hc:P.cellsOf e=1:=by simp only [oneT,Bool.and_eq_true,beq_iff_eq] at ht;exact ht.1.1.2
    obtain ⟨a,b,r,p1,p2,p3,hiff⟩:=step_eq w d ht hk (h i (by simp)).1 (h i (by simp)).2
    obtain ⟨r',hr',hiff'⟩:=eqItems_run w d ht hk is fun j hj=>h j (by simp [hj])
    rw [hc] at hr' ⊢
    simp only [Op.eqItems,Nat.mul_one,Sem.run_bind,p1,p2,p3,Result.andThen_ok]
    cases r
    · refine ⟨false,by simp,?_⟩
      simp only [Bool.false_eq_true,false_iff] at hiff ⊢
      intro hall
      exact hiff (hall i (by simp))
    · refine ⟨r',by simpa using hr',?_⟩
      rw [hiff']
      exact ⟨fun h j hj=>by
        rcases List.mem_cons.1 hj with rfl | hj
        · exact hiff.1 rfl
        · exact h j hj,fun h j hj=>h j (by simp [hj])⟩
theorem eqFields_run (w:World) (d:Nat) {xs ys:Array Value} (hk:KSame xs.toList ys.toList):∀ (fs:List Field),(∀ f∈fs,f.name≠"_"∧oneT P f.type=true∧f.offset<xs.size∧∀ x,xs.toList[f.offset]? =some x→kindV x=kindT P f.type)→
    ∃ r:Bool,(Op.eqFields (d+1) xs ys fs).run P w=.ok r w∧(r=true↔∀ f∈fs,xs.toList[f.offset]? =ys.toList[f.offset]?)
  | [],_=>⟨true,by simp [Op.eqFields],by simp⟩
  | f::fs,h=>by
    obtain ⟨hn,ht,ho,hkk⟩:=h f (by simp)
    obtain ⟨a,b,r,p1,p2,p3,hiff⟩:=step_eq w d ht hk ho hkk
    obtain ⟨r',hr',hiff'⟩:=eqFields_run w d hk fs fun g hg=>h g (by simp [hg])
    simp only [Op.eqFields,hn,ne_eq,not_false_eq_true,if_true,Sem.run_bind,p1,p2,p3,Result.andThen_ok]
    cases r
    · refine ⟨false,by simp,?_⟩
      simp only [Bool.false_eq_true,false_iff] at hiff ⊢
      intro hall
      exact hiff (hall f (by simp))
    · refine ⟨r',by simpa using hr',?_⟩
      rw [hiff']
      exact ⟨fun h j hj=>by
        rcases List.mem_cons.1 hj with rfl | hj
        · exact hiff.1 rfl
        · exact h j hj,fun h j hj=>h j (by simp [hj])⟩
theorem veqs_iff:∀ {a b:List Value},a.all scal=true→(veqs a b=true↔a=b):=fun h=>⟨veqs_eq,fun e=>by subst e;exact veqs_refl h⟩
theorem run_flat_eq (w:World) {t:TypeId} {ks:List Nat} (ht:flatT P t=some ks) {xs ys:List Value} (hk:KSame xs ys) (hks:xs.map kindV=ks):
    (Op.equal t (.agg xs.toArray) (.agg ys.toArray)).run P w=.ok (veqs xs ys) w:=by
  obtain ⟨s1,s2⟩:=ksame_scal hk
  have hall:xs.all scal=true:=List.all_eq_true.2 s1
  have fin:∀ r:Bool,(r=true↔xs=ys)→r=veqs xs ys:=fun r h=>by
    have:=veqs_iff (b:=ys) hall
    cases r<;>cases hv:veqs xs ys<;>simp_all
  unfold flatT at ht
  split at ht
  · rename_i n e hu
    split at ht
    · rename_i hc
      simp only [Bool.and_eq_true,beq_iff_eq] at hc
      simp only [Option.some.injEq] at ht
      subst ht
      have hlen:xs.length=n:=by have:=congrArg List.length hks;simpa using this
      have hone:=hc.1
      obtain ⟨i,hi⟩:=Option.isSome_iff_exists.1 (tyOk_info (show tyOk P e=true by simp only [oneT,Bool.and_eq_true] at hone;exact hone.1.2))
      obtain ⟨r,hr,hiff⟩:=eqItems_run (P:=P) w 9998 hone (xs:=xs.toArray) (ys:=ys.toArray) (by simpa using hk) (List.range n) fun i hi=>by
        simp only [List.mem_range] at hi
        refine ⟨by simp;omega,fun x hx=>?_⟩
        have:(xs.map kindV)[i]? =some (kindV x):=by simp at hx;simp [hx]
        rw [hks] at this
        simp [List.getElem?_replicate,hi] at this
        exact this.symm
      have e1:=run_equalIn_array (P:=P) (w:=w) 9999 (t:=t) (e:=e) (n:=n) xs.toArray ys.toArray hu hi
      show (Op.equalIn (9999+1) t _ _).run P w=_
      rw [e1,hr,fin r]
      rw [hiff]
      constructor
      · intro h
        apply List.ext_getElem?
        intro i
        rcases Nat.lt_or_ge i n with hlt | hge
        · simpa using h i (by simpa using hlt)
        · rw [List.getElem?_eq_none (by omega),List.getElem?_eq_none (by rw [← hk.1];omega)]
      · rintro rfl i _;rfl
    · cases ht
  · rename_i fs hu
    split at ht
    · rename_i hc
      simp only [Bool.and_eq_true,beq_iff_eq,List.all_eq_true,bne_iff_ne,ne_eq,Bool.not_eq_true'] at hc
      obtain ⟨⟨hf,hruns⟩,hst⟩:=hc
      simp only [Option.some.injEq] at ht
      subst ht
      have hlen:xs.length=fs.toList.length:=by have:=congrArg List.length hks;simpa using this
      have hoff:∀ (l:List Field) (o:Nat),P.runs o l=some (o+l.length)→(∀ f∈l,P.cellsOf f.type=1)→∀ (j:Nat) (f:Field),l[j]? =some f→f.offset=o+j:=by
        intro l
        induction l with
        | nil=>intro o _ _ j f hj;simp at hj
        | cons g l ih=>
          intro o ho h1 j f hj
          simp only [Program.runs] at ho
          split at ho
          · rename_i hgo
            have hg1:=h1 g (by simp)
            rw [hg1] at ho
            cases j with
            | zero=>simp at hj;subst hj;simpa using hgo
            | succ j=>
              have:=ih (o+1) (by rw [ho];simp;omega) (fun f hf=>h1 f (by simp [hf])) j f (by simpa using hj)
              omega
          · cases ho
      have hone:∀ f∈fs.toList,P.cellsOf f.type=1:=fun f hfm=>by
        have:=(hf f hfm).2
        simp only [oneT,Bool.and_eq_true,beq_iff_eq] at this
        exact this.1.1.2
      have hpos:=hoff fs.toList 0 (by simpa using hruns) hone
      obtain ⟨r,hr,hiff⟩:=eqFields_run (P:=P) w 9998 (xs:=xs.toArray) (ys:=ys.toArray) (by simpa using hk) fs.toList fun f hfm=>by
        obtain ⟨j,hj⟩:=List.getElem?_of_mem hfm
        have hjl:j<fs.toList.length:=(List.getElem?_eq_some_iff.1 hj).1
        have ho:f.offset=j:=by have:=hpos j f hj;omega
        refine ⟨(hf f hfm).1,(hf f hfm).2,by rw [ho];simp;simp at hlen hjl;omega,fun x hx=>?_⟩
        rw [ho] at hx
        have h1:(xs.map kindV)[j]? =some (kindV x):=by simp at hx;simp [hx]
        rw [hks,List.getElem?_map,hj] at h1
        simpa using h1.symm
      have hfo:P.fieldsOf t=fs:=by simp [Program.fieldsOf,hu]
      have e1:=run_equalIn_struct (P:=P) w 9999 t xs.toArray ys.toArray (by rw [hfo];exact hu) hst
      show (Op.equalIn (9999+1) t _ _).run P w=_
      rw [e1,hfo,hr,fin r]
      rw [hiff]
      constructor
      · intro h
        apply List.ext_getElem?
        intro j
        rcases Nat.lt_or_ge j fs.toList.length with hlt | hge
        · have h1:=h fs.toList[j] (List.getElem_mem hlt)
          have ho:=hpos j fs.toList[j] (by simp)
          rw [Nat.zero_add] at ho
          rw [ho] at h1
          simpa using h1
        · rw [List.getElem?_eq_none (by omega),List.getElem?_eq_none (by rw [← hk.1];omega)]
      · rintro rfl f _;rfl
    · cases ht
  · cases ht
variable {F:Nat→Prop} {m:Mem} {nx:Nat} {β:Pla} {w:World}
theorem zipV_spec:∀ {xs ys:List D} {a b:List Value},zipV xs ys=some (a,b)→xs=a.map D.s∧ys=b.map D.s∧KSame a b
  | [],[],a,b,h=>by
    simp [zipV] at h
    obtain ⟨rfl,rfl⟩:=h
    exact ⟨rfl,rfl,rfl,by simp⟩
  | .s x::xs,.s y::ys,a,b,h=>by
    simp only [zipV] at h
    split at h
    · rename_i hk
      simp only [Option.map_eq_some_iff] at h
      obtain ⟨⟨a',b'⟩,h1,h2⟩:=h
      simp only [Prod.mk.injEq] at h2
      obtain ⟨rfl,rfl⟩:=h2
      obtain ⟨e1,e2,e3,e4⟩:=zipV_spec h1
      refine ⟨by simp [e1],by simp [e2],by simp [e3],fun k u v hu hv=>?_⟩
      cases k with
      | zero=>simp at hu hv;subst hu;subst hv;exact hk
      | succ k=>exact e4 k u v (by simpa using hu) (by simpa using hv)
    · cases h
  | [],_::_,_,_,h=>by simp [zipV] at h
  | _::_,[],_,_,h=>by simp [zipV] at h
  | .u::_,_::_,_,_,h | .ub::_,_::_,_,_,h | .opt _ _::_,_::_,_,_,h | .agg _::_,_::_,_,_,h | .tup _::_,_::_,_,_,h | .z::_,_::_,_,_,h | .sl _ _::_,_::_,_,_,h | .pt _::_,_::_,_,_,h
  | .rs _ _ _::_,_::_,_,_,h | .rp _ _::_,_::_,_,_,h | .mp _::_,_::_,_,_,h | .fn _ _ _::_,_::_,_,_,h=>by simp [zipV] at h
  | .s _::_,.u::_,_,_,h | .s _::_,.ub::_,_,_,h | .s _::_,.opt _ _::_,_,_,h | .s _::_,.agg _::_,_,_,h | .s _::_,.tup _::_,_,_,h | .s _::_,.z::_,_,_,h | .s _::_,.sl _ _::_,_,_,h | .s _::_,.pt _::_,_,_,h
  | .s _::_,.rs _ _ _::_,_,_,h | .s _::_,.rp _ _::_,_,_,h | .s _::_,.mp _::_,_,_,h | .s _::_,.fn _ _ _::_,_,_,h=>by simp [zipV] at h
theorem agg_s_R {a:List Value} {v:Value} (h:R F β w (.agg (a.map D.s)) v):v=.agg a.toArray:=by
  obtain ⟨vs,rfl,hl,hr⟩:=h.agg_inv
  congr 2
  apply List.ext_getElem?
  intro k
  rcases Nat.lt_or_ge k a.length with hlt | hge
  · have hk:k<vs.length:=by rw [hl];simpa using hlt
    have:=(hr k (.s a[k]) vs[k] (by simp [hlt]) (by simp [hk])).s_inv.1
    simp [hlt,hk,this]
  · rw [List.getElem?_eq_none (by rw [hl];simpa using hge),List.getElem?_eq_none hge]
theorem ops_aggEq (hm:MSim P F m β w) {op:BinOp} {t:TypeId} (ox oy:Operand) {xs ys:List D} {x y:Value} {q:Prop×D} (hx:R F β w (.agg xs) x) (hy:R F β w (.agg ys) y) (h:aggEqD P op t xs ys=some q) (hp:q.1):
    OpS P F m nx β w { pre:=q.1,val:=q.2 } ((do eqGuard op t ox oy x y;binOp op t x y)>>=fun r=>Pure.pure (Next.value r)):=by
  unfold aggEqD at h
  split at h
  · rename_i ks z hf hz
    cases h
    obtain ⟨a,b⟩:=z
    obtain ⟨e1,e2,hk⟩:=zipV_spec hz
    subst e1 e2
    rw [agg_s_R hx,agg_s_R hy]
    have:=run_flat_eq (P:=P) w hf hk hp.1
    refine OpS.val hm (v:=.bool (veqs a b)) ?_ (.s _ rfl)
    have e3:(Op.equalIn 10000 t (.agg a.toArray) (.agg b.toArray)).run P w=.ok (veqs a b) w:=this
    simp only [Sem.run_bind,run_eqGuard_agg (P:=P) w .eql t ox oy _ _ hp.2,Result.andThen_ok,run_eql_struct,e3,Sem.run_pure]
  · rename_i ks z hf hz
    cases h
    obtain ⟨a,b⟩:=z
    obtain ⟨e1,e2,hk⟩:=zipV_spec hz
    subst e1 e2
    rw [agg_s_R hx,agg_s_R hy]
    have:=run_flat_eq (P:=P) w hf hk hp.1
    refine OpS.val hm (v:=.bool !(veqs a b)) ?_ (.s _ rfl)
    have e3:(Op.equalIn 10000 t (.agg a.toArray) (.agg b.toArray)).run P w=.ok (veqs a b) w:=this
    simp only [Sem.run_bind,run_eqGuard_agg (P:=P) w .neq t ox oy _ _ hp.2,Result.andThen_ok,run_neq_struct,e3,Sem.run_pure]
  · cases h
end
section
variable {P:Program} {F:Nat→Prop} {m:Mem} {nx:Nat} {β:Pla} {w:World}
theorem pairs_R {ps:Array (Nat×Operand)} {ρ:Operand→D} {a:Act} (h:∀ x∈(ps.toList.map (·.2)),R F β w (ρ x) (a.eval x)):
    (ps.toList.map fun q=>(q.1,ρ q.2)).length=(ps.map fun (i,x)=>(i,a.eval x)).size∧
    ∀ (k:Nat) (p:Nat×D) (q:Nat×Value),(ps.toList.map fun q=>(q.1,ρ q.2))[k]? =some p→(ps.map fun (i,x)=>(i,a.eval x))[k]? =some q→p.1=q.1∧R F β w p.2 q.2:=by
  refine ⟨by simp,fun k p q hk hq=>?_⟩
  simp only [List.getElem?_map,Array.getElem?_map] at hk hq
  cases hps:ps[k]? with
  | none=>simp [hps] at hq
  | some y=>
    simp [hps] at hk hq
    subst hk;subst hq
    exact ⟨rfl,h _ (List.mem_map.2 ⟨y,by simpa using Array.mem_of_getElem? hps,rfl⟩)⟩
theorem list_R {xs:Array Operand} {ρ:Operand→D} {a:Act} (h:∀ x∈xs,R F β w (ρ x) (a.eval x)):
    (xs.toList.map a.eval).length=(xs.toList.map ρ).length∧∀ (k:Nat) (d:D) (v:Value),(xs.toList.map ρ)[k]? =some d→(xs.toList.map a.eval)[k]? =some v→R F β w d v:=by
  refine ⟨by simp,fun k d v hk hv=>?_⟩
  simp only [List.getElem?_map] at hk hv
  cases hx:xs.toList[k]? with
  | none=>simp [hx] at hk
  | some x=>
    simp [hx] at hk hv
    subst hk;subst hv
    exact h x (by simpa using List.mem_of_getElem? hx)
theorem ro_R {x:Option Operand} {ρ:Operand→D} {a:Act} (h:∀ y,x=some y→R F β w (ρ y) (a.eval y)):Ro F β w (x.map ρ) (x.map a.eval):=by
  cases x with
  | none=>exact .inl ⟨rfl,rfl⟩
  | some y=>exact .inr ⟨_,_,rfl,rfl,h y rfl⟩
theorem OpS.of_eq {e:Eff} {s:Sem Next} (h:e.ups=[]∧e.new=0∧OpS P F m nx β w e s):OpS P F m nx β w e s:=h.2.2
theorem builtin_sound (hm:MSim P F m β w) {b:Builtin} {ts:Array TypeId} {ty:TypeId} {cs:Array Bool} {ds:List D} {vs:List Value} {e:Eff} (hn:e.new=1→β nx=none) (hl:vs.length=ds.length)
    (hR:∀ (k:Nat) (d:D) (v:Value),ds[k]? =some d→vs[k]? =some v→R F β w d v) (hts:ts.size=ds.length) (h:builtinD P m nx b ts ds=some e) (hp:e.pre):OpS P F m nx β w e (builtin b ts ty cs vs.toArray):=by
  cases b
  case len=>
    match ds,vs,hl,h,hR with
    | [d],[v],_,h,hR=>
      simp only [builtinD] at h
      exact OpS.of_eq (ops_len hm (by simp at hts;omega) (hR 0 d v rfl rfl) h hp)
    | [],_,_,h,_=>simp [builtinD] at h
    | _::_::_,_,_,h,_=>simp [builtinD] at h
  case append=>
    match ds,vs,hl,h,hR with
    | [s,x],[v,u],_,h,hR=>
      simp only [builtinD] at h
      split at h
      · rename_i heq
        match ts,hts,heq,h with
        | ⟨[t,t']⟩,_,heq,h=>
          simp [Array.getD_eq_getD_getElem?] at heq h
          subst heq
          have hn1:e.new=1:=by
            unfold appendD at h
            simp only at h
            split at h
            · cases h
            · split at h
              · simp only [Option.some.injEq] at h;rw [← h]
              · split at h
                · simp only [Option.some.injEq] at h;rw [← h]
                · cases h
              · cases h
          exact ops_append hm (hn hn1) (hR 0 s v rfl rfl) (hR 1 x u rfl rfl) h hp
        | ⟨[]⟩,hts,_,_=>simp at hts
        | ⟨[_]⟩,hts,_,_=>simp at hts
        | ⟨_::_::_::_⟩,hts,_,_=>simp at hts
      · cases h
    | [],_,_,h,_=>simp [builtinD] at h
    | [_],_,_,h,_=>simp [builtinD] at h
    | _::_::_::_,_,_,h,_=>simp [builtinD] at h
  case min=>
    match ds,vs,hl,h,hR with
    | [.s (.int k a),.s (.int k' b)],[v,u],_,h,hR=>
      simp only [builtinD,Option.some.injEq] at h
      subst h
      simp only at hp
      subst hp
      exact ops_min hm (hR 0 _ v rfl rfl) (hR 1 _ u rfl rfl)
    | ds,vs,hl,h,hR=>
      unfold builtinD at h
      split at h<;>simp_all
      subst h
      subst hp
      match vs,hl with
      | [v,u],_=>exact ops_min hm (hR 0 _ v rfl rfl) (hR 1 _ u rfl rfl)
  case clear=>
    match ds,vs,hl,h,hR with
    | [d],[v],_,h,hR=>
      cases d with
      | rs i off n=>
        simp only [builtinD] at h
        cases hi:m i with
        | none=>simp [hi] at h
        | some r=>
        cases r with
        | map es=>simp [hi] at h
        | raw es=>simp [hi] at h
        | bs u x T=>simp [hi] at h
        | lp k=>simp [hi] at h
        | ren f r=>simp [hi] at h
        | cells c e'=>
          simp only [hi,Option.some.injEq] at h
          subst h
          obtain ⟨h1,h2,h3⟩:=hp
          exact ops_clear hm (by simp at hts;omega) (hR 0 _ v rfl rfl) hi h1 h2 h3
      | _=>simp [builtinD] at h
    | [],_,_,h,_=>simp [builtinD] at h
    | _::_::_,_,_,h,_=>simp [builtinD] at h
  case delete=>
    match ds,vs,hl,h,hR with
    | [x,k],[v,u],_,h,hR=>exact ops_mapDel hm (by simp at hts;omega) (hR 0 x v rfl rfl) (hR 1 k u rfl rfl) h hp
    | [],_,_,h,_=>simp [builtinD] at h
    | [_],_,_,h,_=>simp [builtinD] at h
    | _::_::_::_,_,_,h,_=>simp [builtinD] at h
  all_goals (simp [builtinD] at h)
theorem aop_sound (hm:MSim P F m β w) {o:Oper} {env:Env} {a:Act} {e:Eff} (hn:e.new=1→β nx=none) (hE:ESim F β w env a) (ha:asks env o.op) (h:aop P o.op (rho env o.op) m nx=some e) (hp:e.pre):
    OpS P F m nx β w e (execOp a.eval o):=by
  obtain ⟨dst,op,type,pos,after,guard⟩:=o
  simp only at ha h
  have hR:(∀ c x y,op≠ .pick c x y)→∀ x∈op.operands.toList,R F β w (rho env op x) (a.eval x):=fun hnp x hx=>by
    have h1:rho env op x=(opd env x).core:=by cases op<;>first | rfl | exact absurd rfl (hnp _ _ _)
    have h2:(opd env x).ask:=by cases op<;>first | exact ha x hx | exact absurd rfl (hnp _ _ _)
    rw [h1]
    exact (hE.opd x).core_of _ h2
  unfold execOp
  cases op with
  | move x=>
    simp only [aop,Option.some.injEq] at h
    subst h
    exact OpS.val hm (by simp) (hR (by simp) x (by simp [Op.operands]))
  | assign x=>
    simp only [aop,Option.some.injEq] at h
    subst h
    exact OpS.val hm (by simp) (hR (by simp) x (by simp [Op.operands]))
  | pick c x y=>
    simp only [aop,rho] at h
    cases hc:(opd env c).core.bool? with
    | none=>simp [hc] at h
    | some t=>
    simp only [hc,Option.some.injEq] at h
    subst h
    have hcv:a.eval c=.bool t:=by
      have h1:=(hE.opd c).core_of _ ha
      unfold D.bool? at hc
      split at hc
      · rename_i b he
        cases hc
        rw [he] at h1
        exact h1.s_inv.1
      · cases hc
    exact ops_pick hm hcv (hE.opd x) (hE.opd y) hp.1 hp.2
  | alloc t=>
    simp only [aop,Option.some.injEq] at h
    subst h
    exact ops_alloc hm (hn rfl) hp
  | box t x=>
    simp only [aop,Option.some.injEq] at h
    subst h
    exact ops_box hm (hn rfl) (hR (by simp) x (by simp [Op.operands])) hp
  | build t ps=>
    simp only [aop] at h
    obtain ⟨q1,q2⟩:=pairs_R (F:=F) (β:=β) (w:=w) (ps:=ps) (ρ:=rho env (.build t ps)) (a:=a) (fun x hx=>hR (by simp) x (by simpa [Op.operands] using hx))
    split at h
    · rename_i fs hu
      cases hf:fillD (fun i=>Option.map (fun f=>(f.offset,P.cellsOf f.type)) fs[i]?) (zeroP P t) (ps.toList.map fun q=>(q.1,rho env (.build t ps) q.2)) with
      | none=>simp [hf] at h
      | some cs=>
        simp only [hf,Option.map_some,Option.some.injEq] at h
        subst h
        exact ops_build_struct hm hp.1 hu hp.2 q1 q2 hf
    · rename_i n e' hu
      cases hf:fillD (fun i=>some (i*P.cellsOf e',P.cellsOf e')) (zeroP P t) (ps.toList.map fun q=>(q.1,rho env (.build t ps) q.2)) with
      | none=>simp [hf] at h
      | some cs=>
        simp only [hf,Option.map_some,Option.some.injEq] at h
        subst h
        exact ops_build_array hm hp.1 hu hp.2 q1 q2 hf
    · cases h
  | buildSlice t n ps=>
    simp only [aop] at h
    obtain ⟨q1,q2⟩:=pairs_R (F:=F) (β:=β) (w:=w) (ps:=ps) (ρ:=rho env (.buildSlice t n ps)) (a:=a) (fun x hx=>hR (by simp) x (by simpa [Op.operands] using hx))
    cases hf:fillD (fun i=>some (i*P.cellsOf (elemP P t),P.cellsOf (elemP P t))) (replD n (zeroP P (elemP P t))) (ps.toList.map fun q=>(q.1,rho env (.buildSlice t n ps) q.2)) with
    | none=>simp [hf] at h
    | some cs=>
      simp only [hf,Option.map_some,Option.some.injEq] at h
      subst h
      obtain ⟨_,p2,p3,p4⟩:=hp
      exact ops_buildSlice hm (hn rfl) p3 p2 p4 q1 q2 hf
  | load t x=>
    have hx:=hR (by simp) x (by simp [Op.operands])
    simp only [aop] at h
    split at h
    · rename_i cs he
      rw [he] at hx
      simp only [Option.some.injEq] at h
      subst h
      exact ops_load_pt hm hx hp.1 hp.2
    · rename_i i off he
      rw [he] at hx
      split at h
      · rename_i cs ty hi
        simp only [Option.some.injEq] at h
        subst h
        exact ops_load_rp hm hx hi hp.1 hp.2
      · cases h
    · cases h
  | store t x y=>
    have hx:=hR (by simp) x (by simp [Op.operands])
    have hy:=hR (by simp) y (by simp [Op.operands])
    simp only [aop] at h
    split at h
    · rename_i i off he
      rw [he] at hx
      split at h
      · rename_i cs ty hi
        simp only [Option.some.injEq] at h
        subst h
        obtain ⟨p1,p2,p3,p4⟩:=hp
        exact ops_store hm hx hy hi p1 p2 p3 p4
      · cases h
    · cases h
  | nilCheck x=>
    have hx:=hR (by simp) x (by simp [Op.operands])
    simp only [aop] at h
    split at h
    · rename_i cs he
      rw [he] at hx
      simp only [Option.some.injEq] at h
      subst h
      obtain ⟨ad,h1,h2⟩:=ops_nilCheck_pt (pre:=True) (nx:=nx) hm hx
      simp only [h1] at h2 ⊢
      exact h2
    · rename_i i off he
      rw [he] at hx
      split at h
      · rename_i r hi
        simp only [Option.some.injEq] at h
        subst h
        obtain ⟨ad,h1,h2⟩:=ops_nilCheck_rp (pre:=True) (nx:=nx) (rd:=[i]) hm hx hi
        simp only [h1] at h2 ⊢
        exact h2
      · cases h
    · cases h
  | binOp op t x y yt=>
    have hx:=hR (by simp) x (by simp [Op.operands])
    have hy:=hR (by simp) y (by simp [Op.operands])
    simp only [aop] at h
    split at h
    · rename_i e' hnil
      simp only [Option.some.injEq] at h
      subst h
      unfold nilD at hnil
      split at hnil
      · rename_i es n he
        simp only [Option.some.injEq] at hnil
        subst hnil
        rw [he] at hx
        exact ops_nil_sl hm t x (.const (.slice none 0 0)) hx hp
      · rename_i i off he
        split at hnil
        · rename_i r hi
          simp only [Option.some.injEq] at hnil
          subst hnil
          rw [he] at hx
          exact ops_nil_rp hm .eql t x _ hx hi hy hp (.inl ⟨rfl,rfl⟩)
        · cases hnil
      · rename_i i off he
        split at hnil
        · rename_i r hi
          simp only [Option.some.injEq] at hnil
          subst hnil
          rw [he] at hx
          exact ops_nil_rp hm .neq t x _ hx hi hy hp (.inr ⟨rfl,rfl⟩)
        · cases hnil
      · cases hnil
    · unfold binD at h
      split at h
      · rename_i b1 b2 e1 e2
        rw [e1] at hx
        rw [e2] at hy
        split at h
        · simp only [Option.map_some,Option.some.injEq] at h
          subst h
          exact ops_eq_bool hm .eql t x y hx hy hp (.inl ⟨rfl,rfl⟩)
        · simp only [Option.map_some,Option.some.injEq] at h
          subst h
          exact ops_eq_bool hm .neq t x y hx hy hp (.inr ⟨rfl,rfl⟩)
        · simp at h
      · rename_i v1 v2 _ e1 e2
        rw [e1] at hx
        rw [e2] at hy
        cases hb:binV op v1 v2 with
        | none=>simp [hb] at h
        | some q=>
          simp only [hb,Option.map_some,Option.some.injEq] at h
          subst h
          exact ops_binV hm op t x y hx hy hb hp
      · rename_i xs ys e1 e2
        rw [e1] at hx
        rw [e2] at hy
        cases hb:aggEqD P op t xs ys with
        | none=>simp [hb] at h
        | some q=>
          simp only [hb,Option.map_some,Option.some.injEq] at h
          subst h
          exact ops_aggEq hm x y hx hy hb hp
      · simp at h
  | unOp op t x=>
    have hx:=hR (by simp) x (by simp [Op.operands])
    simp only [aop] at h
    split at h
    · rename_i v he
      rw [he] at hx
      cases hb:unV op v with
      | none=>simp [hb] at h
      | some q=>
        simp only [hb,Option.map_some,Option.some.injEq] at h
        subst h
        exact ops_unV hm op hx hb
    · cases h
  | convert src dst x=>
    have hx:=hR (by simp) x (by simp [Op.operands])
    simp only [aop] at h
    split at h
    · rename_i k k' n hd he
      rw [he] at hx
      simp only [Option.some.injEq] at h
      subst h
      exact ops_conv_int hm src dst hx hd (tyOk_und hp)
    · rename_i e' b hd he
      rw [he] at hx
      split at h
      · rename_i he'
        simp only [Option.some.injEq] at h
        subst h
        exact ops_bytes hm hx hp.1 hd he' hp.2
      · cases h
    · cases h
  | makeFunc f fs cs=>
    simp only [aop,Option.some.injEq] at h
    subst h
    obtain ⟨q1,q2⟩:=list_R (F:=F) (β:=β) (w:=w) (xs:=fs) (ρ:=rho env (.makeFunc f fs cs)) (a:=a) (fun x hx=>hR (by simp) x (by simp [Op.operands];exact .inl hx))
    obtain ⟨q3,q4⟩:=list_R (F:=F) (β:=β) (w:=w) (xs:=cs) (ρ:=rho env (.makeFunc f fs cs)) (a:=a) (fun x hx=>hR (by simp) x (by simp [Op.operands];exact .inr hx))
    have:=ops_makeFunc (pre:=True) (nx:=nx) hm f q1 q3 q2 q4
    have e1:(fs.toList.map a.eval).toArray=fs.map a.eval:=by apply Array.ext';simp
    have e2:(cs.toList.map a.eval).toArray=cs.map a.eval:=by apply Array.ext';simp
    rw [e1,e2] at this
    exact this
  | makeMap t r=>
    simp only [aop] at h
    split at h
    · simp only [Option.some.injEq] at h
      subst h
      exact ops_makeMap hm (hn rfl)
    · cases h
  | makeSlice t l c=>
    have hx:=hR (by simp) l (by simp [Op.operands])
    have hy:=hR (by simp) c (by simp [Op.operands])
    simp only [aop] at h
    split at h
    · rename_i n k e1 e2
      rw [e1] at hx
      rw [e2] at hy
      simp only [Option.some.injEq] at h
      subst h
      obtain ⟨p1,p2,p3,p4,p5⟩:=hp
      subst p2
      show OpS P F m nx β w _ (do Pure.pure (Next.value (← Instr.makeSlice t (a.eval l) (a.eval c))))
      rw [hx.s_inv.1,hy.s_inv.1]
      exact ops_makeSlice hm (hn rfl) p1 p3 p4 p5
    · cases h
  | slice t x lo hi mx=>
    have hx:=hR (by simp) x (by simp [Op.operands])
    simp only [aop] at h
    exact OpS.of_eq (ops_slice hm hx (ro_R fun y hy=>hR (by simp) y (by simp [Op.operands,hy])) (ro_R fun y hy=>hR (by simp) y (by simp [Op.operands,hy])) (ro_R fun y hy=>hR (by simp) y (by simp [Op.operands,hy])) h hp)
  | fieldAddr t x k=>
    have hx:=hR (by simp) x (by simp [Op.operands])
    simp only [aop] at h
    split at h
    · rename_i off ft cs hf he
      rw [he] at hx
      simp only [Option.some.injEq] at h
      subst h
      exact ops_fieldAddr_pt hm hx hf hp
    · rename_i off ft i o hf he
      rw [he] at hx
      split at h
      · rename_i r hi
        simp only [Option.some.injEq] at h
        subst h
        exact ops_fieldAddr_rp hm hx hi hf hp
      · cases h
    · cases h
  | field t x k=>
    have hx:=hR (by simp) x (by simp [Op.operands])
    simp only [aop] at h
    split at h
    · rename_i off ft cs hf he
      rw [he] at hx
      simp only [Option.some.injEq] at h
      subst h
      exact ops_field hm hx hf hp.1 hp.2
    · cases h
  | indexAddr t x i=>
    have hx:=hR (by simp) x (by simp [Op.operands])
    have hy:=hR (by simp) i (by simp [Op.operands])
    simp only [aop] at h
    split at h
    · rename_i es n kk k e1 e2
      rw [e1] at hx
      rw [e2] at hy
      simp only [Option.some.injEq] at h
      subst h
      obtain ⟨p1,p2,p3,_⟩:=hp
      exact ops_indexAddr_sl hm hx hy p1 p2 p3
    · rename_i j off n kk k e1 e2
      rw [e1] at hx
      rw [e2] at hy
      split at h
      · rename_i r hj
        simp only [Option.some.injEq] at h
        subst h
        obtain ⟨p1,p2,p3⟩:=hp
        exact ops_indexAddr_rs hm hx hj hy p1 p2 p3
      · cases h
    · rename_i j off kk k e1 e2
      rw [e1] at hx
      rw [e2] at hy
      split at h
      · rename_i r hj
        simp only [Option.some.injEq] at h
        subst h
        obtain ⟨p1,p2,p3⟩:=hp
        exact ops_indexAddr_arr hm hx hj hy p1 p2 p3
      · cases h
    · cases h
  | index t x i=>
    have hx:=hR (by simp) x (by simp [Op.operands])
    have hy:=hR (by simp) i (by simp [Op.operands])
    simp only [aop] at h
    split at h
    · rename_i b kk k e1 e2
      rw [e1] at hx
      rw [e2] at hy
      simp only [Option.some.injEq] at h
      subst h
      obtain ⟨p1,p2,p3⟩:=hp
      exact ops_index_str hm hx hy p1 p2 p3
    · rename_i cs kk k e1 e2
      rw [e1] at hx
      rw [e2] at hy
      simp only [Option.some.injEq] at h
      subst h
      obtain ⟨p1,p2,p3,p4⟩:=hp
      exact ops_index_agg hm hx hy p1 p2 p3 p4
    · cases h
  | lookup t x k ok=>exact ops_lookup hm (hR (by simp) x (by simp [Op.operands])) (hR (by simp) k (by simp [Op.operands])) (by simpa only [aop] using h) hp
  | mapUpdate t x k v=>exact ops_mapPut hm (hR (by simp) x (by simp [Op.operands])) (hR (by simp) k (by simp [Op.operands])) (hR (by simp) v (by simp [Op.operands])) (by simpa only [aop] using h) hp
  | insert t x k v=>exact ops_mapPut hm (hR (by simp) x (by simp [Op.operands])) (hR (by simp) k (by simp [Op.operands])) (hR (by simp) v (by simp [Op.operands])) (by simpa only [aop] using h) hp
  | extract x k=>
    have hx:=hR (by simp) x (by simp [Op.operands])
    simp only [aop] at h
    split at h
    · rename_i cs e1
      rw [e1] at hx
      simp only [Option.some.injEq] at h
      subst h
      exact ops_extract hm hx hp
    · cases h
  | call c=>
    simp only [aop] at h
    split at h
    · rename_i b hb
      split at h
      · rename_i hts
        obtain ⟨q1,q2⟩:=list_R (F:=F) (β:=β) (w:=w) (xs:=c.args) (ρ:=rho env (.call c)) (a:=a) (fun x hx=>hR (by simp) x (by simp [Op.operands,Call.operands,hb];exact hx))
        have:=builtin_sound hm (b:=b) (ts:=c.argTypes) (ty:=type) (cs:=c.args.map fun | .const _=>true | _=>false) (e:=e) hn q1 q2 (by simpa using hts) h hp
        obtain ⟨n,v,w',β',h1,h2⟩:=this
        refine ⟨n,v,w',β',?_,h2⟩
        simp only [resolve,hb,Sem.run_bind,Sem.run_pure,Result.andThen_ok,invoke]
        have e1:(c.args.toList.map a.eval).toArray=c.args.map a.eval:=by apply Array.ext';simp
        rw [← e1]
        exact h1
      · cases h
    · cases h
  | _=>simp [aop] at h
end
section
variable {P:Program} {F F':Nat→Prop} {m:Mem} {nx:Nat} {β β':Pla} {w w':World}
theorem R.lift {d:D} {v:Value} (h:R F noRows w d v) (hf:∀ b,¬ F b→¬ F' b∧β.free b):R F' β w d v:=
  h.gen (Nat.le_refl _) (fun b _ h1 _=>⟨SameB.refl w b,(hf b h1).2,(hf b h1).1⟩) fun i p _ hp=>by cases hp
theorem owned_free {b:Nat} (h:¬ owned F β b):¬ F b∧β.free b:=by
  unfold owned at h
  have h1:¬ F b:=fun e=>h (.inl e)
  refine ⟨h1,?_⟩
  by_cases hb:β.free b
  · exact hb
  · exact absurd (.inr hb) h
theorem owned_lt (hm:MSim P F m β w) {b:Nat} (h:owned F β b):b<w.heap.size:=by
  rcases h with h | h
  · exact hm.fb.lt b h
  · unfold Pla.free at h
    simp only [Classical.not_forall] at h
    obtain ⟨i,p,hp,hb⟩:=h
    exact hm.lt i p b hp (Decidable.not_not.1 hb)
theorem owned_fb (hm:MSim P F m β w):FB (owned F β) w:=hm.fb.next (fun b hb=>owned_lt hm hb) (fun _ h=>.inl h) fun _ _ _=>rfl
theorem scal_R {d:D} {v:Value} (hs:d.scal=true) (h:R F β w d v):R F' β' w' d v:=by
  have tup:∀ cs:List D,(∀ d∈cs,∃ x,d=.s x)→R F β w (.tup cs) v→R F' β' w' (.tup cs) v:=fun cs hc h=>by
    obtain ⟨vs,rfl,hl,hr⟩:=h.tup_inv
    refine .tup cs vs hl fun k d u hk hu=>?_
    obtain ⟨x,rfl⟩:=hc d (List.mem_of_getElem? hk)
    have:=(hr k _ u hk hu).s_inv
    rw [this.1]
    exact .s x this.2
  unfold D.scal at hs
  split at hs
  · rw [h.s_inv.1];exact .s _ h.s_inv.2
  · obtain ⟨b,rfl⟩:=h.ub_inv;exact .ub b
  · exact tup _ (by simp) h
  · exact tup _ (by simp) h
  · exact tup _ (by simp) h
  · cases hs
theorem kept_step (h:Kept w w'):Step β w β w':=step_ext h.1 h.2.1 h.2.2
theorem MSim.kept (hm:MSim P F m β w) (h:Kept w w'):MSim P F m β w':=hm.ext h.1 h.2.1 h.2.2
theorem call_pure (hm:MSim P F m β w) {f:FuncId} {args:List D} {r:D} {vs:Array Value} (hc:PCall P f args r) (hR:Rs F β w args vs):
    Calls P f vs w fun e w'=>∃ v,e=.returned v∧R F β w' r v∧MSim P F m β w'∧Step β w β w':=
  (hc.2.2 (owned F β) w vs (owned_fb hm) ⟨hR.1,fun k d v hd hv=>hc.2.1 d (List.mem_of_getElem? hd) F β w v (hR.2 k d v hd hv)⟩).mono
    fun e w' ⟨v,he,hr,hk⟩=>⟨v,he,hr.lift fun b hb=>owned_free hb,hm.kept hk,kept_step hk⟩
theorem sns_R {rds:List Nat} (hrd:∀ i∈rds,∀ r,m i=some r→∃ p,β i=some p∧RowR P F β w r p∧∀ b,p.blk=some b→¬ F b):∀ {as bs:List D},Sns P rds m as bs→as.length=bs.length∧∀ (k:Nat) (a b:D),as[k]? =some a→bs[k]? =some b→∀ v,R F β w a v→R F noRows w b v
  | [],[],_=>⟨rfl,by simp⟩
  | a::as,b::bs,h=>by
    obtain ⟨h1,h2⟩:=sns_R hrd h.2
    refine ⟨by simp [h1],fun k x y hx hy v hv=>?_⟩
    cases k with
    | zero=>
      simp at hx hy
      subst hx;subst hy
      exact h.1 F β w v hrd hv
    | succ k=>exact h2 k x y (by simpa using hx) (by simpa using hy) v hv
  | [],_::_,h=>h.elim
  | _::_,[],h=>h.elim
def NoRef (r:D):Prop:=∀ (F F':Nat→Prop) (β β':Pla) (w w':World) (v:Value),R F β w r v→R F' β' w' r v
theorem scal_noRef {r:D} (h:r.scal=true):NoRef r:=fun _ _ _ _ _ _ _=>scal_R h
theorem call_snap (hm:MSim P F m β w) {f:FuncId} {args args':List D} {rds:List Nat} {m0:Mem} {r:D} {vs:Array Value} (hsn:Sns P rds m0 args args') (hag:∀ i∈rds,m0 i≠none→m i=m0 i) (hc:PCall P f args' r) (hs:NoRef r) (hR:Rs F β w args vs):
    Calls P f vs w fun e w'=>∃ v,e=.returned v∧R F β w' r v∧MSim P F m β w'∧Step β w β w':=by
  obtain ⟨h1,h2⟩:=sns_R (P:=P) (F:=F) (β:=β) (w:=w) (fun i hi r hr=>by
    obtain ⟨p,hp,hrow⟩:=hm.row i r (by rw [hag i hi (by simp [hr])];exact hr)
    exact ⟨p,hp,hrow,fun b hb=>hm.nf i p b hp hb⟩) hsn
  refine (hc.2.2 F w vs hm.fb ⟨by rw [hR.1,h1],fun k d v hd hv=>?_⟩).mono fun e w' ⟨v,he,hr,hk⟩=>⟨v,he,hs _ _ _ _ _ _ _ hr,hm.kept hk,kept_step hk⟩
  have hlt:k<args.length:=by rw [h1];exact (List.getElem?_eq_some_iff.1 hd).1
  exact h2 k args[k] d (by simp [hlt]) hd v (hR.2 k args[k] v (by simp [hlt]) hv)
theorem call_own (hm:MSim P F m β w) (hn:β nx=none) {f:FuncId} {args es:List D} {n:Nat} {t:TypeId} {vs:Array Value} (hc:OCall P f args es n t) (hR:Rs F β w args vs):
    Calls P f vs w fun e w'=>∃ v β',e=.returned v∧R F β' w' (.rs nx 0 n) v∧MSim P F (up m nx (some (.cells es t))) β' w'∧Step β w β' w'∧∀ i,i≠nx→β' i=β i:=by
  refine (hc.2.2 (owned F β) w vs (owned_fb hm) ⟨hR.1,fun k d v hd hv=>hc.2.1 d (List.mem_of_getElem? hd) F β w v (hR.2 k d v hd hv)⟩).mono ?_
  rintro e w' ⟨v,p,he,hdead,hfresh,hrow,hv,hk⟩
  have hm':=hm.kept hk
  have hs:Step β w (up β nx (some p)) w':=by
    refine ⟨hk.1,fun b hb hf=>⟨hk.2.1 b hb,fun i q hq=>?_⟩,fun i q hq=>.inl ?_,hk.2.2,fun _ r _ _=>skel_lt (hk.2.1 r)⟩
    · by_cases hi:i=nx
      · subst hi
        rw [up_same] at hq
        cases hq
        intro e
        have:=(hfresh b e).1
        omega
      · rw [up_ne _ _ hi] at hq;exact hf i q hq
    · rw [up_ne _ _ (fun e=>by rw [e,hn] at hq;cases hq)];exact hq
  have hlook:∀ i q b,up β nx (some p) i=some q→q.blk=some b→(i=nx∧q=p)∨(i≠nx∧β i=some q):=fun i q b hq _=>by
    by_cases hi:i=nx
    · subst hi;rw [up_same] at hq;cases hq;exact .inl ⟨rfl,rfl⟩
    · rw [up_ne _ _ hi] at hq;exact .inr ⟨hi,hq⟩
  have hlift:∀ b,¬ (owned F β b∨p.blk=some b)→¬ F b∧Pla.free (up β nx (some p)) b:=fun b hb=>by
    have h1:=owned_free (F:=F) (β:=β) (b:=b) (fun e=>hb (.inl e))
    refine ⟨h1.1,fun i q hq e=>?_⟩
    rcases hlook i q b hq e with ⟨_,rfl⟩ | ⟨_,hq'⟩
    · exact hb (.inr e)
    · exact h1.2 i q hq' e
  have hrow':RowR P F (up β nx (some p)) w' (.cells es t) p:=by
    cases hrow with
    | nil _=>exact .nil _
    | cells _ _ b o room sz c h1 h2 h3 h4 h5=>
      refine .cells es t b o room sz c h1 h2 h3 h4 fun k d hd=>?_
      obtain ⟨u,hu1,hu2,hu3⟩:=h5 k d hd
      exact ⟨u,hu1,hu2.lift hlift,hu3⟩
  refine ⟨v,up β nx (some p),he,?_,?_,hs,fun i hi=>up_ne _ _ hi⟩
  · cases hv with
    | rsd _ _ _ _ h _=>rw [up_same] at h;cases h;exact absurd rfl hdead
    | rsn _ a h=>rw [up_same] at h;cases h;exact .rsn nx a (up_same _ _ _)
    | rsz _ _ a b o len room sz h=>rw [up_same] at h;cases h;exact .rsz nx 0 a b o len room sz (up_same _ _ _)
    | rs _ _ _ cap b o len room sz h h1 h2 h3 h4=>rw [up_same] at h;cases h;exact .rs nx 0 n cap b o len room sz (up_same _ _ _) h1 h2 h3 h4
  · refine ⟨fun i r hi=>?_,fun i j q q' b hq hq' e e'=>?_,fun i q b hq e=>?_,fun i q b hq e=>?_,hm'.fb⟩
    · by_cases hin:i=nx
      · subst hin
        rw [up_same] at hi
        cases hi
        exact ⟨p,up_same _ _ _,hrow'⟩
      · rw [up_ne _ _ hin] at hi
        obtain ⟨q,hq,hrq⟩:=hm.row i r hi
        exact ⟨q,by rw [up_ne _ _ hin];exact hq,hrq.step hs fun b hb=>hk.2.1 b (hm.lt i q b hq hb)⟩
    · rcases hlook i q b hq e with ⟨rfl,rfl⟩ | ⟨hi,h1⟩<;>rcases hlook j q' b hq' e' with ⟨rfl,rfl⟩ | ⟨hj,h2⟩
      · rfl
      · have:=(hfresh b e).1
        have:=hm.lt j q' b h2 e'
        omega
      · have:=(hfresh b e').1
        have:=hm.lt i q b h1 e
        omega
      · exact hm.inj i j q q' b h1 h2 e e'
    · rcases hlook i q b hq e with ⟨_,rfl⟩ | ⟨_,h1⟩
      · exact (hfresh b e).2
      · exact hm'.lt i q b h1 e
    · rcases hlook i q b hq e with ⟨_,rfl⟩ | ⟨_,h1⟩
      · intro hF
        have:=hm.fb.lt b hF
        have:=(hfresh b e).1
        omega
      · exact hm.nf i q b h1 e
theorem call_enter {o:Oper} {env:Env} {a:Act} {f:FuncId} {args:List D} (hE:ESim F β w env a) (ha:asks env o.op) (h:callD (rho env o.op) o.op=some (f,args)) (he:enterOk P f=true):
    ∃ vs,(execOp a.eval o).run P w=.ok (.enter f vs) w∧Rs F β w args vs:=by
  obtain ⟨dst,op,type,pos,after,guard⟩:=o
  simp only at ha h
  cases op with
  | call c=>
    simp only [callD] at h
    have hR:∀ x∈(Op.call c).operands.toList,R F β w (rho env (.call c) x) (a.eval x):=fun x hx=>(hE.opd x).core_of _ (ha x hx)
    split at h
    · rename_i g hg
      split at h
      · rename_i k fs cs hk
        simp only [Option.some.injEq,Prod.mk.injEq] at h
        obtain ⟨rfl,rfl⟩:=h
        have h1:=hR g (by simp [Op.operands,Call.operands,hg])
        rw [hk] at h1
        obtain ⟨q1,q2⟩:=list_R (F:=F) (β:=β) (w:=w) (xs:=c.args) (ρ:=rho env (.call c)) (a:=a) (fun x hx=>hR x (by simp [Op.operands,Call.operands];exact .inr hx))
        generalize hv:a.eval g=v at h1
        cases h1 with
        | fn _ _ _ us vs hl hl' hh hh'=>
        refine ⟨us.toArray++c.args.map a.eval++vs.toArray,?_,?_,?_⟩
        · unfold execOp
          simp only [resolve,hg,Sem.run_bind,hv,Deferred.ofValue,Sem.run_pure,Result.andThen_ok,invoke]
          unfold callFunc
          unfold enterOk at he
          simp only [Sem.run_bind,run_program,Result.andThen_ok]
          split at he
          · rename_i fn hfn
            simp only [Bool.and_eq_true,Bool.not_eq_true'] at he
            have hb:fn.body.isNone=false:=by
              cases hbb:fn.body<;>simp_all
            rw [hfn]
            simp only [he.1,hb,Bool.false_eq_true,if_false,Sem.run_pure]
          · cases he
        · simp [hl,hl']
        · intro j d u hd hu
          simp only [List.append_assoc] at hd
          simp only [Array.append_assoc] at hu
          rcases Nat.lt_or_ge j fs.length with hj | hj
          · rw [List.getElem?_append_left hj] at hd
            rw [Array.getElem?_append_left (by simpa [hl] using hj)] at hu
            exact hh j d u hd (by simpa using hu)
          · rw [List.getElem?_append_right hj] at hd
            rw [Array.getElem?_append_right (by simpa [hl] using hj)] at hu
            simp only [List.size_toArray,hl] at hu
            generalize j - fs.length=j' at hd hu
            rcases Nat.lt_or_ge j' (c.args.toList.map (rho env (.call c))).length with hj2 | hj2
            · rw [List.getElem?_append_left hj2] at hd
              rw [Array.getElem?_append_left (by simpa using hj2)] at hu
              exact q2 j' d u hd (by simpa using hu)
            · rw [List.getElem?_append_right hj2] at hd
              rw [Array.getElem?_append_right (by simpa using hj2)] at hu
              exact hh' _ d u hd (by simpa using hu)
      · cases h
    · cases h
  | _=>simp [callD] at h
end
end Go.Abs
