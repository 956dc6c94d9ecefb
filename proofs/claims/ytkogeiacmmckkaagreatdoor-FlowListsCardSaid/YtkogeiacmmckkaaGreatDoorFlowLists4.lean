/- Part 4. -/
import Derived.Test.YtkogeiacmmckkaaGreatDoorFlowLists3
import Derived.IntWalk
import Derived.RangeFuncLeaves
set_option linter.all false
namespace Go.Abs
section
variable{P:Program}{F:Nat->Prop}{fn:Func}
def A5(tmps:Array Value):ResultVar->Sem Value
 | .tmp t=>pure (tmps.getD t undef)
 | .cell x t=>do loadVar t (<- asAddr (tmps.getD x undef))
theorem Xf(fn:Func)(tmps:Array Value):results fn tmps=(do
 let vs<- fn.results.mapM (A5 tmps)
 pure (if h:vs.size=1 then vs[0] else .tuple vs)):=by
 unfold results;congr 1
theorem aa3{st:St}{β:az}{w:World}{a:Act}(hs:bW P F st β w a){r:ResultVar}{p:Prop}{d:D}(h:qk P st r=some (p,d))(hp:p):
 ∃ v,(A5 a.tmps r).run P w=.ok v w/\R F β w d v:=by
 unfold qk at h;split at h
 .cases h;exact⟨_,by simp[A5],hs.e _⟩
 .rename_i x t;have hx:=hs.e x;split at h
  .rename_i i off C;rw[C] at hx;split at h
   .rename_i cs e hm;cases h;obtain⟨b,o,room,sz,M,hv,aD⟩:=hx.Gi hs.m hm;obtain⟨u,hu,hr⟩:=EO (P:=P) hp.1 (aD.rd.1.drop off) oP;refine⟨u,?_,hr⟩;simp only[A5,hv,Sem.run_bind];simp[asAddr,hu]
   .cases h
  .rename_i cs C;rw[C] at hx;cases h;obtain⟨b,o,hv,_,_,_,J⟩:=hx.Gj;obtain⟨u,hu,hr⟩:=EO (P:=P) hp.1 J hp.2;refine⟨u,?_,hr⟩;simp only[A5,hv,Sem.run_bind];simp[asAddr,hu]
  .cases h
theorem P'{st:St}{β:az}{w:World}{a:Act}(hs:bW P F st β w a){K:List D->Prop}:∀ (rs:List ResultVar) (C:List D),pr P st rs C K->
 ∃ vs ds,(rs.mapM (A5 a.tmps)).run P w=.ok vs w/\vs.length=ds.length/\K (C++ds)/\
  ∀ (k:Nat) (d:D) (v:Value),ds[k]? =some d->vs[k]? =some v->R F β w d v
 |[],C,h=>⟨[],[],oS,rfl,by simpa[pr] using h,oS⟩
 |r::rs,C,h=>by
  simp only[pr] at h;split at h
  .rename_i p d hr;obtain⟨v,h1,h2⟩:=aa3 hs hr h.1;obtain⟨vs,ds,J,M,O,U⟩:=P' hs rs _ h.2;refine⟨v::vs,d::ds,?_,by simp[M],by simpa using O,fun k d' X hd hv=>?_⟩
   .rw[List.mapM_cons];simp only[Sem.run_bind];rw[h1];simp only[Result.andThen_ok,Sem.run_bind];rw[J];simp
   .cases k with
    |zero=>simp at hd hv;subst hd;subst hv;exact h2
    |succ k=>exact U k d' X (by simpa using hd) (by simpa using hv)
  .exact h.elim
theorem EP{st:St}{β:az}{w:World}{a:Act}(hs:bW P F st β w a){K:D->Prop}(h:pr P st fn.results.toList [] fun ds=>K (rv ds)):
 ∃ v d,(results fn a.tmps).run P w=.ok v w/\K d/\R F β w d v:=by
 obtain⟨vs,ds,h1,h2,C,J⟩:=P' hs _ _ h;simp only[List.nil_append] at C;refine⟨if h:vs.toArray.size=1 then vs.toArray[0] else .tuple vs.toArray,rv ds,?_,C,?_⟩
 .rw[Xf,Array.mapM_eq_mapM_toList];simp only[Sem.run_bind,map_eq_pure_bind,bind_assoc];rw[h1];simp
 .split
  .rename_i bK;simp only[List.size_toArray] at bK;obtain⟨v,rfl⟩:=List.length_eq_one_iff.1 bK;obtain⟨d,rfl⟩:=List.length_eq_one_iff.1 (show ds.length=1 by simpa using h2.symm);exact J 0 d v rfl rfl
  .rename_i bK;simp only[List.size_toArray] at bK
   have:rv ds=.bp ds:=by
    unfold rv;split
    .rename_i d;simp at h2;exact absurd h2 bK
    .rfl
   rw[this];exact .bp ds vs h2 J
theorem Wu{w:World}{b:Nat}{x:Option (List Deferred)}(h:w.heap[b]? =some (.deferred x))(o:Nat):w.cell? ⟨b,o,none⟩=none:=by
 simp[World.cell?,h]
theorem R.Qa{w:World}{b:Nat}{x:Option (List Deferred)}(hb:w.heap[b]? =some (.deferred x))(o:Obj)(J:Nat):mC w (w.putObj b o) J:=by
 refine⟨fun k u hu=>?_,fun ms c hm=>?_⟩
 .have C:J≠b:=fun e=>by rw[e,Wu hb] at hu;cases hu
  exact(cell_of_heap (World.putObj_heap_other C)).trans hu
 .have C:J≠b:=fun e=>by rw[e,hb] at hm;cases hm
  exact(World.putObj_heap_other C).trans hm
theorem bW.lY{st:St}{β:az}{w:World}{a:Act}{b:Nat}{x:Option (List Deferred)}(hb:w.heap[b]? =some (.deferred x))(hf:β.free b)(o:Obj)(h:bW P F st β w a):bW P F st β (w.putObj b o) a:=
 ⟨fun t=>(h.e t).gen oS (fun C _ h1 h2=>⟨R.Qa hb o C,h2,h1⟩) fun _ _ _ h=>.inl h,⟨fun i r hi=>by
  obtain⟨p,hp,hr⟩:=h.m.row i r hi;exact⟨p,hp,hr.gen oS (fun C _ h1 h2=>⟨R.Qa hb o C,h2,h1⟩) (fun _ _ _ h=>.inl h) fun c hc=>World.putObj_heap_other fun e=>hf i p hp (e▸hc)⟩,
  h.m.inj,fun i p c hp hc=>by simpa using h.m.lt i p c hp hc,h.m.nf,h.m.fb.next (fun c hc=>by simpa using h.m.fb.lt c hc) (fun _ h=>h) fun t ht _=>World.putObj_heap_other fun e=>aaY (h.m.fb.gM t ht).2 x (by rw[e];exact hb)⟩,h.n⟩
theorem Marks.put{β:az}{w:World}{lo b:Nat}(o:Obj):∀ {ds:List Deferred} {hi:Nat},hi<=b->Marks β w lo ds hi->Marks β (w.putObj b o) lo ds hi
 |[],_,_,_=>trivial
 |_::_,_,hle,⟨c,h1,h2,h3,h4,h5,h6⟩=>⟨c,h1,h2,h3,(World.putObj_heap_other oG).trans h4,h5,Marks.put o oG h6⟩
theorem Og{n:Nat}{tmps:Array Value}{R:Ending->World->Prop}{st:St}{β₀ β:az}{w₀:World}{a:Act}{u:FrameMode}(hu:u≠ .run):∀ (ds:List Deferred) (hi:Nat) (w:World),Marks β w w₀.heap.size ds hi->bW P F st β w a->Step β₀ w₀ β w->
 (∀ w',bW P F st β w' a->Step β₀ w₀ β w'->LeavesIn (Fe none) n P fn tmps R [] u w')->LeavesInM (Fe none) n P fn tmps R ds u w
 |[],_,w,_,hs,bt,K=>K w hs bt
 |d::ds,hi,w,⟨b,h1,h2,h3,h4,h5,h6⟩,hs,bt,K=>by
  subst h1;refine⟨hu,.inl ⟨b,_,rfl,run_takeDeferred h4,Og hu ds b _ (h6.put _ (bO _)) (hs.lY h4 h5 _) ?_ K⟩⟩;refine⟨by simpa using bt.size,fun c hc hf=>?_,bt.gq,bt.out.trans ⟨rfl,rfl⟩,fun i r hp C=>(bt.lp i r hp C).trans (nd (World.putObj_heap_other fun e=>h5 i _ C (by simp[Pl.bJ,e])))⟩;obtain⟨J,M⟩:=bt.ej c hc hf;exact⟨(World.putObj_heap_other oG).trans J,M⟩
def ac0(P:Program)(fn:Func)(R:Ending->World->Prop)(a:Act)(w:World):Exit->Prop
 | .normal | .ret=>∃ v,(results fn a.tmps).run P w=.ok v w/\R (.returned v) w
 | .panic ch=>R (.panicked ch) w
 |_=>False
theorem I2{args:List D}(hn:args.length<=fn.ntmps){m:Mem}{nx:Nat}{β:az}{w:World}{vs:Array Value}(hm:aC P F m β w)(M:∀ i,nx<=i->β i=none)(hR:Rs F β w args vs):
 (vs++Array.replicate (fn.ntmps - vs.size) undef).size=fn.ntmps/\bW P F ⟨kK args,m,nx⟩ β w { tmps:=vs++Array.replicate (fn.ntmps - vs.size) undef,defers:=[] }:=by
 have bK:(vs++Array.replicate (fn.ntmps - vs.size) undef).size=fn.ntmps:=by
  simp only[Array.size_append,Array.size_replicate,hR.1];omega
 let a₀:Act:={ tmps:=vs++Array.replicate (fn.ntmps - vs.size) undef,defers:=[] }
 have O:eZ F β w (kK args) a₀:=fun t=>by
  unfold kK;rcases Nat.lt_or_ge t args.length with aj|J
  .have h1:args.getD t .u=args[t]:=by simp[aj]
   have h2:a₀.tmps.getD t undef=vs[t]'(by rw[hR.1];exact aj):=by
    show(vs++Array.replicate (fn.ntmps - vs.size) undef).getD t undef=_;have C:t<vs.size:=by rw[hR.1];exact aj
    simp[Array.getD_eq_getD_getElem?,Array.getElem?_append_left C,C]
   rw[h1,h2];exact hR.2 t _ _ (by simp[aj]) (by simp[hR.1,aj])
  .have h1:args.getD t .u=.u:=by simp[J]
   rw[h1];exact .u _
 exact⟨bK,O,hm,M⟩
theorem Oq{f:FuncId}{c:Code}(hf:P.funcs[f]? =some fn)(hb:fn.body=some c){args:List D}(hn:args.length<=fn.ntmps){m:Mem}{nx:Nat}{R:Ending->World->Prop}
 {β:az} {w:World} {vs:Array Value} (hm:aC P F m β w) (C:∀ i,nx<=i->β i=none) (hR:Rs F β w args vs)
 (h:∀ a:Act,a.tmps=vs++Array.replicate (fn.ntmps - vs.size) undef->a.tmps.size=fn.ntmps->a.defers=[]->bW P F ⟨kK args,m,nx⟩ β w a->c.wpIn (Fe none) 0 P (bodyPostM (Fe none) 0 P fn R) a w):Calls P f vs w R:=by
 refine(callsIn_wide (n:=0)).1 (callsIn_of_wp_marks hf hb trivial ?_);exact h _ rfl (I2 hn hm C hR).1 rfl (I2 hn hm C hR).2
theorem Qb{f:FuncId}{c:Code}(hf:P.funcs[f]? =some fn)(hb:fn.body=some c){args:List D}(hn:args.length<=fn.ntmps){m:Mem}{nx:Nat}{Q:Exit->St->Prop}{R:Ending->World->Prop}
 {β:az} {w:World} {vs:Array Value} (hm:aC P F m β w) (fH:∀ i,nx<=i->β i=none) (hR:Rs F β w args vs)
 (h:∀ a:Act,a.tmps.size=fn.ntmps->bW P F ⟨kK args,m,nx⟩ β w a->c.wpIn (Fe none) 0 P (CN P F nx β w a Q) a w)
 (kS:∀ e st' β' w' a',Q e st'->bW P F st' β' w' a'->Step β w β' w'->nx<=st'.nx->(∀ i,i<nx->β i=none->β' i=none)->ac0 P fn R a' w' e):Calls P f vs w R:=by
 refine Oq hf hb hn hm fH hR fun a _ ha hd hs=>wpIn_mono (h a ha hs) fun e a' w' hp=>?_;obtain⟨st',β',hq,M,C⟩:=hp;obtain⟨ds,h1,h2⟩:=C.defers;rw[hd,List.append_nil] at h1;have hl:=fun J (X:bW P F st' β' J a') (U:Step β w β' J)=>kS e st' β' J a' hq X U C.le C.grow
 have O:∀ {u:FrameMode},u≠ .run->(∀ J,bW P F st' β' J a'->Step β w β' J->LeavesIn (Fe none) 0 P fn a'.tmps R [] u J)->LeavesInM (Fe none) 0 P fn a'.tmps R a'.defers u w':=fun hu hk=>by
  rw[h1];exact Og hu ds _ w' h2 M C.step hk
 cases e with
 |normal=>exact O oS hl
 |ret=>exact O oS hl
 |panic ch=>exact O oS hl
 |exit=>exact hl w' M C.step
 |goto=>exact hl w' M C.step
 |outgrown=>exact(hl w' M C.step).elim
theorem Fl(jL:P.follows .mixedOrders=true){Y:gd}{f:FuncId}{c:Code}(hf:P.funcs[f]? =some fn)(hb:fn.body=some c)(aj:fv fn.ntmps c=true){args:List D}(hn:Nat.ble args.length fn.ntmps=true){m:Mem}{nx:Nat}{K:D->St->Prop}
 (h:AW P Y true c (lE P fn.results.toList K) ⟨kK args,m,nx⟩) {β:az} {w:World} {vs:Array Value} (hY:∀ l args m nx K,Y l args m nx K->o6 P F β w l args m nx K) (hm:aC P F m β w) (U:∀ i,nx<=i->β i=none) (hR:Rs F β w args vs):
 Calls P f vs w fun e w'=>∃ v d st' β',e=.returned v/\K d st'/\R F β' w' d v/\aC P F st'.mem β' w'/\(∀ i,st'.nx<=i->β' i=none)/\Step β w β' w'/\nx<=st'.nx/\∀ i,i<nx->β i=none->β' i=none:=by
 refine Qb hf hb (by simpa using hn) hm U hR (fun a ha hs=>Zp jL c F none 0 Y true nx β w a (fun _=>rfl) hY (by rw[ha];exact aj) _ _ β w a h hs (dC.refl ⟨kK args,m,nx⟩ β w a).wH) fun e st' β' w' a' hq hs O C wQ=>?_
 have J:(pr P st' fn.results.toList [] fun ds=>K (rv ds) st')->∃ v,(results fn a'.tmps).run P w'=.ok v w'/\∃ M d st' β',Ending.returned v=.returned M/\K d st'/\R F β' w' d M/\aC P F st'.mem β' w'/\(∀ i,st'.nx<=i->β' i=none)/\Step β w β' w'/\nx<=st'.nx/\∀ i,i<nx->β i=none->β' i=none:=fun hq=>by
  obtain⟨v,d,X,g2,g3⟩:=EP (K:=fun d=>K d st') hs hq;exact⟨v,X,v,d,st',β',rfl,g2,g3,hs.m,hs.n,O,C,wQ⟩
 cases e with
 |normal=>exact J hq
 |ret=>exact J hq
 |_=>exact hq.elim
theorem EY{w:World}(C:FB F w):aC P F (fun _=>none) gU w:=
 ⟨fun i r h=>oH,fun i j p q b h=>oH,fun i p b h=>oH,fun i p b h=>oH,C⟩
theorem It{β':az}{w w':World}(h:Step gU w β' w'):Kept w w':=
 ⟨h.size,fun b hb=>(h.ej b hb fun i p hp=>by cases hp).1,h.out⟩
theorem Tr.Lg{d:D}(h:Tr d){β:az}{w:World}{v:Value}(hv:R F β w d v):R F gU w d v:=
 (h F β w v hv).lift fun b hb=>⟨fun e=>hb (.inl e),fun i p hp=>by cases hp⟩
structure uB(P:Program)(f:FuncId)(fn:Func)(c:Code):Prop where
 hf:P.funcs[f]? =some fn
 hb:fn.body=some c
 aj:fv fn.ntmps c=true
 he:lf P f=true
theorem Zs(jL:P.follows .mixedOrders=true){f:FuncId}{c:Code}(hf:uB P f fn c){args:List D}(hn:Nat.ble args.length fn.ntmps=true){m:Mem}{nx:Nat}{dd:D->Mem->Nat->Prop}
 (h:AW P nL true c (lE P fn.results.toList fun d st=>dd d st.mem st.nx) ⟨kK args,m,nx⟩):ji P f args m nx dd:=
 ⟨hf.he,fun F β w vs hm C hR=>(Fl jL hf.hf hf.hb hf.aj hn h (fun _ _ _ _ _ h=>h.elim) hm C hR).mono fun e w' ⟨v,d,st',β',h1,h2,J,M,O,U,X,h8⟩=>⟨v,d,st'.mem,st'.nx,β',h1,h2,M,O,J,U,X,h8⟩⟩
theorem Zt(O:P.follows .mixedOrders=true){f:FuncId}{c:Code}(hf:uB P f fn c){args:List D}(hn:Nat.ble args.length fn.ntmps=true)(ht:∀ a∈args,Tr a){r:D}(hr:Tr r)
 (h:AW P nL true c (lE P fn.results.toList fun d _=>d=r) ⟨kK args,fun _=>none,0⟩):ax P f args r:=
 ⟨hf.he,ht,fun F w vs M hR=>(Fl O hf.hf hf.hb hf.aj hn h (fun _ _ _ _ _ h=>h.elim) (EY M) (fun _ _=>rfl) hR).mono fun e w' hp=>by
  obtain⟨v,d,st',β',h1,rfl,C,U,X,J,h7,h8⟩:=hp
  exact⟨v,h1,hr.Lg C,It J⟩⟩
theorem Qc{f:FuncId}{args:List D}(he:lf P f=true)(ht:∀ a∈args,Tr a){es:List D}(nN:∀ a∈es,Tr a){k:Nat}{t:TypeId}
 (h:∀ F w vs,FB F w->Rs F gU w args vs->Calls P f vs w fun e w'=>∃ v i m β',e=.returned v/\m i=some (.cells es t)/\R F β' w' (.rs i 0 k) v/\aC P F m β' w'/\Step gU w β' w'):qY P f args es k t:=
 ⟨he,ht,fun F w vs hF hR=>(h F w vs hF hR).mono fun e w' hp=>by
  obtain⟨v,i,m',β',h1,hi,h3,J,M⟩:=hp;obtain⟨p,hp,aD⟩:=J.row i _ hi;refine⟨v,p,h1,?_,fun b hb=>⟨?_,J.lt i p b hp hb⟩,?_,?_,It M⟩
  .rintro rfl;cases aD
  .rcases Nat.lt_or_ge b w.heap.size with aj|O
   .exact absurd hb ((M.ej b aj fun i p hp=>by cases hp).2 i p hp)
   .exact O
  .have lift:∀ d∈es,∀ u,R F β' w' d u->R (fun x=>F x\/p.bJ=some x) gU w' d u:=fun d hd u hu=>
    (nN d hd F β' w' u hu).lift fun b hb=>⟨fun e=>hb (by
     rcases e with e|e
     .exact .inl e
     .exact .inr fun jl=>jl i p hp e),fun i p hp=>by cases hp⟩
   cases aD with
   |nil _=>exact .nil _
   |cells _ _ b o room sz c q1 q2 q3 q4 q5=>
    refine .cells es t b o room sz c q1 q2 q3 q4 fun j d hd=>?_;obtain⟨u,u1,u2,u3⟩:=q5 j d hd;exact⟨u,u1,lift d (cX hd) u u2,u3⟩
  .cases h3 with
   |lG _ _ _ _ C _=>rw[C] at hp;cases hp;cases aD
   |jR _ a C=>rw[C] at hp;cases hp;exact .jR 0 a (au _ _ _)
   |kX _ _ a b o len room sz C=>rw[C] at hp;cases hp;exact .kX 0 0 a b o len room sz (au _ _ _)
   |rs _ _ _ cap b o len room sz C U X g3 g4=>rw[C] at hp;cases hp;exact .rs 0 0 k cap b o len room sz (au _ _ _) U X g3 g4⟩
theorem Zu (J:P.follows .mixedOrders=true){f:FuncId}{c:Code}(hf:uB P f fn c){args:List D}(hn:Nat.ble args.length fn.ntmps=true)(ht:∀ a∈args,Tr a){es:List D}(M:∀ a∈es,Tr a){k:Nat}{t:TypeId}
 (h:AW P nL true c (lE P fn.results.toList fun d st=>∃ i,d=.rs i 0 k/\st.mem i=some (.cells es t)) ⟨kK args,fun _=>none,0⟩):qY P f args es k t:=
 Qc hf.he ht M fun F w vs C hR=>(Fl J hf.hf hf.hb hf.aj hn h (fun _ _ _ _ _ h=>h.elim) (EY C) (fun _ _=>rfl) hR).mono fun e w' ⟨v,d,st',β',h1,⟨i,hd,hi⟩,h3,h4,_,h6,_⟩=>⟨v,i,st'.mem,β',h1,hi,hd▸h3,h4,h6⟩
def Uk(C:Nat)(xs:List (List D))(I:Nat->Mem->Nat->Prop)(Stop:Mem->Nat->Prop):gd:=fun l args m nx dd=>
 l=C/\∃ k,xs[k]? =some args/\I k m nx/\∀ d m' aA,QW I Stop k d m' aA->dd d m' aA
theorem o6.mono{β:az}{w:World}{l:Nat}{args:List D}{m:Mem}{nx:Nat}{K K':D->Mem->Nat->Prop}(hk:∀ d m nx,K d m nx->K' d m nx)(h:o6 P F β w l args m nx K):o6 P F β w l args m nx K':=
 fun β' w' us h1 h2 M O=>by
  obtain⟨f,tmps,assign,body,C,J⟩:=h β' w' us h1 h2 M O;exact⟨f,tmps,assign,body,C,fun n=>RoundIn.mono (F:=Fence.wide) (J n) fun e w' ⟨v,d,m',aA,β',U,X,q3⟩=>⟨v,d,m',aA,β',U,hk _ _ _ X,q3⟩⟩
theorem ab'(jL:P.follows .mixedOrders=true){f:FuncId}{c:Code}(hf:uB P f fn c){fs cs:List D}(hn:Nat.ble (fs.length+1+cs.length) fn.ntmps=true){xs:List (List D)}
 (h:∀ (l:Nat) (I:Nat->Mem->Nat->Prop) (Stop:Mem->Nat->Prop) (m:Mem) (nx:Nat),(∀ k,CC (I k))->CC Stop->I 0 m nx->
  AW P (Uk l xs I Stop) true c (lE P fn.results.toList fun _ st=>I xs.length st.mem st.nx\/Stop st.mem st.nx) ⟨kK (fs++[.fn (.yield l) [] []]++cs),m,nx⟩):yJ P f fs cs xs:=
 ⟨hf.he,fun F l I Stop m nx β w vs hI J hm M hR hy h0=>
  (Fl jL hf.hf hf.hb hf.aj (by simpa[Nat.add_assoc,Nat.add_comm,Nat.add_left_comm] using hn) (h l I Stop m nx hI J h0) (fun l' args m' aA K hK=>by
   obtain⟨rfl,k,h1,h2,C⟩:=hK
   exact(hy k args m' aA h1 h2).mono C) hm M hR).mono fun e w' ⟨v,d,st',β',h1,h2,C,O,U,X,h7,h8⟩=>⟨v,d,st'.mem,st'.nx,β',h1,h2,O,U,C,X,h7,h8⟩⟩
end
section
variable{P:Program}{Y:gd}{rf:Bool}{Q:Exit->St->Prop}{st:St}
theorem Q3(c a b):AW P Y rf (.cond c a b) Q st=((opd st.env c).ask/\match (opd st.env c).core with
 | .s (.bool t)=>(t=true->AW P Y rf a Q st)/\(t=false->AW P Y rf b Q st)
 | .ub=>AW P Y rf a Q st/\AW P Y rf b Q st
 |_=>False):=rfl
theorem Q4{b:Code}(I:St->Prop)(μ:St->Nat)(h0:I st)(h:∀ st',I st'->AW P Y rf b (gE (fun J=>∃ C,aR P J C/\I C/\μ C<μ st') Q) st'):AW P Y rf (.loop b) Q st:=⟨I,μ,h0,h⟩
theorem ji.mono{f:FuncId}{args:List D}{m:Mem}{nx:Nat}{dd C:D->Mem->Nat->Prop}(h:ji P f args m nx dd)(hp:∀ d m' aA,dd d m' aA->C d m' aA):ji P f args m nx C:=
 ⟨h.1,fun F β w vs hm hn hR=>(h.2 F β w vs hm hn hR).mono fun e w' ⟨v,d,m',aA,β',h1,h2,J⟩=>⟨v,d,m',aA,β',h1,hp _ _ _ h2,J⟩⟩
theorem vN.mono{dr:Bool}{f:FuncId}{args:List D}{K K':D->Mem->Nat->List Nat->List Nat->Prop}(hk:∀ d m nx rd wr,K d m nx rd wr->K' d m nx rd wr)(h:vN P dr st f args K):vN P dr st f args K':=by
 rcases h with⟨r,h1,h2⟩|⟨M,bx,r,h1,h2,C,J⟩|⟨es,n,t,h1,h2⟩|⟨h1,h2⟩|⟨r,aT,bx,h1,h2,C⟩|⟨es,n,t,aT,bx,h1,h2,C,J⟩
 .exact .inl ⟨r,h1,hk _ _ _ _ _ h2⟩
 .exact .inr (.inl ⟨M,bx,r,h1,h2,C,hk _ _ _ _ _ J⟩)
 .exact .inr (.inr (.inl ⟨es,n,t,h1,hk _ _ _ _ _ h2⟩))
 .exact .inr (.inr (.inr (.inl ⟨h1,h2.mono fun d m nx h=>hk _ _ _ _ _ h⟩)))
 .exact .inr (.inr (.inr (.inr (.inl ⟨r,aT,bx,h1,h2,hk _ _ _ _ _ C⟩))))
 .exact .inr (.inr (.inr (.inr (.inr ⟨es,n,t,aT,bx,h1,h2,C,hk _ _ _ _ _ J⟩))))
class eB(Y:gd):Prop where
 mono:∀ l args m nx K K',(∀ d m nx,K d m nx->K' d m nx)->Y l args m nx K->Y l args m nx K'
instance:eB nL:=⟨fun _ _ _ _ _ _ _ h=>h⟩
instance{l:Nat}{xs:List (List D)}{I:Nat->Mem->Nat->Prop}{Stop:Mem->Nat->Prop}:eB (Uk l xs I Stop):=⟨fun _ _ _ _ _ _ hk ⟨h1,k,h2,C,J⟩=>⟨h1,k,h2,C,fun d m nx h=>hk _ _ _ (J d m nx h)⟩⟩
theorem jU.mono[eB Y]{ops:Array Oper}{dr:Bool}{o:Oper}{K K':St->List Nat->List Nat->Prop}(hk:∀ st rd wr,K st rd wr->K' st rd wr)(h:jU P Y ops dr o st K):jU P Y ops dr o st K':=by
 unfold jU at h ⊢;split at h
 .refine⟨h.1,?_⟩;have h:=h.2;split at h
  .exact h.mono fun _ _ _ _ _ h=>hk _ _ _ h
  .split at h
   .exact⟨h.1,eB.mono _ _ _ _ _ _ (fun _ _ _ h=>hk _ _ _ h) h.2⟩
   .split at h
    .exact⟨h.1,hk _ _ _ h.2⟩
    .exact h
 .split at h
  .exact h
  .split at h
   .rcases h with⟨r,h1,h2⟩|⟨h1,h2⟩
    .exact .inl ⟨r,h1,hk _ _ _ h2⟩
    .exact .inr ⟨fun hc=>⟨(h1 hc).1,(h1 hc).2.mono fun _ _ _ _ _ h=>hk _ _ _ h⟩,fun hc=>hk _ _ _ (h2 hc)⟩
   .split at h
    .exact⟨fun hc=>⟨(h.1 hc).1,(h.1 hc).2.1,eB.mono _ _ _ _ _ _ (fun _ _ _ h=>hk _ _ _ h) (h.1 hc).2.2⟩,fun hc=>hk _ _ _ (h.2 hc)⟩
    split at h
    .split at h
     .rename_i hc;rw[if_pos hc];exact⟨h.1,hk _ _ _ h.2⟩
     .rename_i hc;rw[if_neg hc];exact⟨fun hc=>⟨(h.1 hc).1,(h.1 hc).2.1,hk _ _ _ (h.1 hc).2.2⟩,fun hc=>hk _ _ _ (h.2 hc)⟩
    .exact⟨h.1,hk _ _ _ h.2⟩
theorem aw.mono[eB Y]{ops:Array Oper}{dr:Bool}{cf:List (Nat×Nat)}{Q C:Exit->St->Prop}(hq:∀ st,Q .normal st->C .normal st):∀ (l:List Oper) (st:St) (tr:ma),aw P Y ops dr cf Q l st tr->aw P Y ops dr cf C l st tr
 |[],st,tr,h=>⟨h.1,hq _ h.2⟩
 |o::l,st,tr,h=>h.elim (fun h=>.inl (jU.mono (fun st' rd wr h=>aw.mono hq l st' _ h) h)) fun⟨h1,h2,e,J,M⟩=>.inr ⟨h1,h2,e,J,aw.mono hq l _ _ M⟩
theorem tT:∀ (c:Code) {Y:gd} [eB Y] {rf:Bool} {Q C:Exit->St->Prop} {st:St},(∀ e st,Q e st->C e st)->AW P Y rf c Q st->AW P Y rf c C st:=by
 intro c
 induction c with
 |skip=>intro Y _ rf;exact fun hq h=>hq _ _ h
 |ret=>intro Y _ rf;exact fun hq h=>hq _ _ h
 |exit id=>intro Y _ rf;exact fun hq h=>hq _ _ h
 |region id ops draw=>
  intro Y _ rf Q C st hq h;cases draw with
  |false=>exact aw.mono (hq .normal) _ _ _ h
  |true=>
   simp only[AW] at h ⊢;split at h
   .exact h.elim (fun h=>.inl (aw.mono (hq .normal) _ _ _ h)) fun h=>.inr ⟨h.1,aw.mono (fun st hs=>⟨hs.1,aw.mono (hq .normal) _ _ _ hs.2⟩) _ _ _ h.2⟩
   .exact h
 |seq a b J M=>
  intro Y _ rf Q C st hq h;refine J (fun e st' h=>?_) h;cases e with
  |normal=>obtain⟨O,hg,hb⟩:=h;exact⟨O,hg,M hq hb⟩
  |_=>exact hq _ _ h
 |cond c a b J M=>
  intro Y _ rf Q C st hq h;refine⟨h.1,?_⟩;have h:=h.2;split at h
  .exact⟨fun ht=>J hq (h.1 ht),fun ht=>M hq (h.2 ht)⟩
  .exact⟨J hq h.1,M hq h.2⟩
  .exact h
 |block id b ih=>
  intro Y _ rf Q C st hq h;refine ih (fun e st' h=>?_) h;cases e with
  |exit i=>
   simp only[hZ] at h ⊢;split at h
   .rename_i hi;rw[if_pos hi];exact hq _ _ h
   .rename_i hi;rw[if_neg hi];exact hq _ _ h
  |_=>exact hq _ _ h
 |scope b ih=>
  intro Y _ rf Q C st hq h;refine ih (fun e st' h=>?_) h;cases e with
  |goto l=>exact h
  |_=>exact hq _ _ h
 |loop b ih=>
  intro Y _ rf Q C st hq h;obtain⟨I,μ,h0,h1⟩:=h;refine⟨I,μ,h0,fun st' hi=>ih (fun e O h=>?_) (h1 st' hi)⟩;cases e with
  |normal=>exact h
  |_=>exact hq _ _ h
 |label l=>intro Y _ rf;exact fun hq h=>hq _ _ h
 |rangeFunc g ps assign body J M=>
  intro Y _ rf Q C st hq h;obtain⟨LW,X,f,fs,cs,xs,I,GF,Ha,GG,HF,U,GH⟩:=h;refine⟨LW,X,f,fs,cs,xs,I,GF,Ha,GG,HF,fun k m nx x hx hI=>J (fun e s h=>?_) (U k m nx x hx hI),fun m nx h=>hq _ _ (GH m nx h)⟩;cases e with
  |normal=>
   refine M (fun e s h=>?_) h;cases e with
   |normal=>exact h
   |ret=>exact hq _ _ h
   |exit id=>exact hq _ _ h
   |_=>exact h
  |_=>exact h
 |_=>intro Y _ rf;exact fun _ h=>h.elim
theorem least{p:Nat->Prop}:∀ j,p j->∃ i,p i/\∀ k,p k->i<=k:=by
 intro j
 induction j using Nat.strongRecOn with
 |_ j ih=>
  intro hj;by_cases h:∃ k,k<j/\p k
  .obtain⟨k,hk,hp⟩:=h;exact ih k hk hp
  .exact⟨j,hj,fun k hk=>Nat.le_of_not_lt fun aj=>h ⟨k,aj,hk⟩⟩
open Classical in
theorem Zw[eB Y]{b:Code}(J:Nat->St->Prop){j₀:Nat}(h0:J j₀ st)(h:∀ j st',J j st'->AW P Y rf b (gE (fun ju=>∃ O,aR P ju O/\∃ M,M<j/\J M O) Q) st'):AW P Y rf (.loop b) Q st:=by
 have C:∀ st,(∃ j,J j st)->∃ i,J i st/\∀ k,J k st->i<=k:=fun st ⟨j,hj⟩=>least j hj
 let μ:St->Nat:=fun st=>if h:∃ j,J j st then Classical.choose (C st h) else 0
 have X:∀ st,(hj:∃ j,J j st)->J (μ st) st/\∀ k,J k st->μ st<=k:=fun st hj=>by
  have:μ st=Classical.choose (C st hj):=by simp only[μ];rw[dif_pos hj]
  rw[this];exact Classical.choose_spec (C st hj)
 refine Q4 (fun st=>∃ j,J j st) μ ⟨j₀,h0⟩ fun st' hj=>tT b (fun e ju hq=>?_) (h (μ st') st' (X st' hj).1);cases e with
 |normal=>
  obtain⟨O,hg,M,aj,U⟩:=hq;exact⟨O,hg,⟨M,U⟩,Nat.lt_of_le_of_lt ((X O ⟨M,U⟩).2 M U) aj⟩
 |_=>exact hq
end
section
variable{P:Program}{F:Nat->Prop}{β:az}{w:World}
theorem Tr.cG{c:Bool}{d:D}(h:Tr d):Tr (.cG c d):=fun F β w v hv=>by
 cases hv with
 |cG _ _ _ h1 h2=>exact .cG c d v (fun hc=>h F β w v (h1 hc)) h2
theorem Tr.agg{cs:List D}(h:∀ d∈cs,Tr d):Tr (.agg cs):=fun F β w v hv=>by
 obtain⟨vs,rfl,hl,hh⟩:=hv.qM;exact .agg cs vs hl fun k d u hd hu=>h d (cX hd) F β w u (hh k d u hd hu)
theorem Tr.bp{cs:List D}(h:∀ d∈cs,Tr d):Tr (.bp cs):=fun F β w v hv=>by
 obtain⟨vs,rfl,hl,hh⟩:=hv.Ag;exact .bp cs vs hl fun k d u hd hu=>h d (cX hd) F β w u (hh k d u hd hu)
theorem Tr.sl{cs:List D}{n:Nat}(h:∀ d∈cs,Tr d):Tr (.sl cs n):=fun F β w v hv=>by
 cases hv with
 |iz a cap=>exact .iz a cap
 |sl _ _ b o cap us hf hb aj ow dt hc hh=>
  exact .sl cs n b o cap us (fun e=>e.elim hf fun e=>e hb) (fun i p hp=>by cases hp) aj ow dt hc fun k d hd=>h d (cX hd) F β w _ (hh k d hd)
theorem Tr.pt{cs:List D}(h:∀ d∈cs,Tr d):Tr (.pt cs):=fun F β w v hv=>by
 cases hv with
 |pt _ b o us hf hb aj hc hh=>
  exact .pt cs b o us (fun e=>e.elim hf fun e=>e hb) (fun i p hp=>by cases hp) aj hc fun k d hd=>h d (cX hd) F β w _ (hh k d hd)
theorem Tr.fn{f:Fn}{fs cs:List D}(h:∀ d∈fs,Tr d)(h':∀ d∈cs,Tr d):Tr (.fn f fs cs):=fun F β w v hv=>by
 cases hv with
 |fn _ _ _ us vs hl kY h1 h2=>
  exact .fn f fs cs us vs hl kY (fun k d u hd hu=>h d (cX hd) F β w u (h1 k d u hd hu)) fun k d u hd hu=>h' d (cX hd) F β w u (h2 k d u hd hu)
theorem Tr.im{es:List (Value×D)}(h:∀ x∈es,Tr x.2):Tr (.im es):=fun F β w v hv=>by
 cases hv with
 |im _ r ms clock hf hb hc hl ef hk hh=>
  exact .im es r ms clock (fun e=>e.elim hf fun e=>e hb) (fun i p hp=>by cases hp) hc hl ef hk fun k x m hx hm=>h x (cX hx) F β w _ (hh k x m hx hm)
theorem Tr.s(x:Value):Tr (.s x):=fun F β w v hv=>by
 obtain⟨rfl,h⟩:=hv.cJ;exact .s _ h
theorem Tr.ub:Tr .ub:=fun F β w v hv=>by
 obtain⟨b,rfl⟩:=hv.Cy;exact .ub b
theorem Tr.u:Tr .u:=fun F β w v _=>.u v
theorem Tr.z:Tr .z:=fun F β w v hv=>by
 rw[hv.yM];exact .z
theorem Tr.nil:∀ a∈([]:List D),Tr a:=fun _ h=>by cases h
theorem Tr.cons{d:D}{l:List D}(h:Tr d)(hl:∀ a∈l,Tr a):∀ a∈d::l,Tr a:=fun a ha=>by
 cases ha with
 |head=>exact h
 |tail _ ha=>exact hl a ha
theorem Tr.map{α:Type}{f:α->D}{l:List α}(h:∀ x,Tr (f x)):∀ a∈l.map f,Tr a:=fun a ha=>by
 obtain⟨x,_,rfl⟩:=List.mem_map.1 ha;exact h x
theorem Tr.flat{α:Type}{f:α->List D}{l:List α}(h:∀ x,∀ a∈f x,Tr a):∀ a∈l.flatMap f,Tr a:=fun a ha=>by
 obtain⟨x,_,hx⟩:=List.mem_flatMap.1 ha;exact h x a hx
end
def aH:List (Nat×D)->Env
 |[],_=>.u
 |(t,d)::l,j=>if j=t then d else aH l j
def n8:List (Nat×D)->Env->Prop
 |[],_=>True
 |(t,d)::l,env=>env t=d/\n8 l env
theorem p6:∀ {l:List (Nat×D)} {env:Env},n8 l env->∀ t,aH l t=env t\/aH l t=.u
 |[],_,_,_=>.inr rfl
 |(k,d)::l,env,h,t=>by
  simp only[aH];by_cases ht:t=k
  .subst ht;rw[if_pos rfl];exact .inl h.1.symm
  .rw[if_neg ht];exact p6 h.2 t
def iY(env:Env):List Operand->Prop
 |[]=>True
 |x::xs=>(opd env x).ask/\iY env xs
theorem Qr{env:Env}:∀ {l:List Operand},iY env l->∀ x∈l,(opd env x).ask
 |[],_,x,h=>by cases h
 |y::l,h,x,hx=>by
  cases hx with
  |head=>exact h.1
  |tail _ hx=>exact Qr h.2 x hx
theorem pV{env:Env}{o:Op}(h:iY env o.operands.toList):asks env o:=by
 have:=Qr h;unfold asks;cases o<;>first|exact this|exact this _ cm
section
variable{P:Program}{Y:gd}{rf:Bool}
structure Ef(P:Program)(op:Op)(env:Env)(m:Mem)(nx:Nat)(e:du):Prop where
 ok:aQ P op (bC env op) m nx=some e
 nc:dx (bC env op) op=none
 ny:n6 (bC env op) op=none
variable{ops:Array Oper}{dr:Bool}{cf:List (Nat×Nat)}{Q:Exit->St->Prop}{rest:List Oper}{env:Env}{m:Mem}{nx:Nat}{tr:ma}{t:Nat}{op:Op}{ty:TypeId}{pos:String}{after:Array Edge}
 {pre:Prop} {v:D} {rd:List Nat}
theorem yf{d:Option Nat}{e:du}(he:Ef P op env m nx e)(ha:asks env op)(hp:e.pre)(K:aw P Y ops dr cf Q rest (St.put ⟨env,cu m e.aT,nx+e.new⟩ d e.val) (tr++[(e.rd,e.aT.map (·.1))])):
 aw P Y ops dr cf Q (⟨d,op,ty,pos,after,none⟩::rest) ⟨env,m,nx⟩ tr:=by
 simp only[aw];refine .inl ?_;simp only[jU];rw[he.nc,he.ny,he.ok];exact⟨ha,hp,K⟩
theorem ao(he:Ef P op env m nx ⟨pre,v,[],rd,0⟩)(ha:iY env op.operands.toList)(hp:pre)(K:aw P Y ops dr cf Q rest ⟨up env t v,m,nx⟩ (tr++[(rd,[])])):
 aw P Y ops dr cf Q (⟨some t,op,ty,pos,after,none⟩::rest) ⟨env,m,nx⟩ tr:=yf he (pV ha) hp K
theorem Am{c a b:Operand}{g:Bool}(hc:(opd env c).core=.s (.bool g)):Ef P (.pick c a b) env m nx ⟨(g=true->(opd env a).ask/\(opd env a).core.fA.isSome=true)/\(g=false->(opd env b).ask/\(opd env b).core.fA.isSome=true),
 .s (.bool (if g then(opd env a).core.fA.getD false else(opd env b).core.fA.getD false)),[],[],0⟩:=⟨by simp only[aQ,bC,hc,D.fA],rfl,rfl⟩
theorem Rx{c a b:Operand}{g x y:Bool}(hc:opd env c=.s (.bool g))(ha:(opd env a).core=.s (.bool x))(hb:(opd env b).core=.s (.bool y))(h1:g=true->(opd env a).ask)(h2:g=false->(opd env b).ask)
 (K:aw P Y ops dr cf Q rest ⟨up env t (.s (.bool (if g then x else y))),m,nx⟩ (tr++[([],[])])):
 aw P Y ops dr cf Q (⟨some t,.pick c a b,ty,pos,after,none⟩::rest) ⟨env,m,nx⟩ tr:=by
 refine yf (Am (g:=g) (by rw[hc];rfl)) (by simp only[asks,hc,D.ask]) ⟨fun h=>⟨h1 h,by rw[ha];rfl⟩,fun h=>⟨h2 h,by rw[hb];rfl⟩⟩ ?_;simp only[ha,hb,D.fA,Option.getD_some];exact K
theorem Qs{c a b:Operand}{x:Bool}(hc:opd env c=.s (.bool true))(ha:(opd env a).core=.s (.bool x))(h1:(opd env a).ask)
 (K:aw P Y ops dr cf Q rest ⟨up env t (.s (.bool x)),m,nx⟩ (tr++[([],[])])):
 aw P Y ops dr cf Q (⟨some t,.pick c a b,ty,pos,after,none⟩::rest) ⟨env,m,nx⟩ tr:=by
 refine yf (Am (g:=true) (by rw[hc];rfl)) (by simp only[asks,hc,D.ask]) ⟨fun _=>⟨h1,by rw[ha];rfl⟩,fun h=>by cases h⟩ ?_;simp only[ha,D.fA,Option.getD_some,if_true];exact K
theorem Qt{c a b:Operand}{y:Bool}(hc:opd env c=.s (.bool false))(hb:(opd env b).core=.s (.bool y))(h2:(opd env b).ask)
 (K:aw P Y ops dr cf Q rest ⟨up env t (.s (.bool y)),m,nx⟩ (tr++[([],[])])):
 aw P Y ops dr cf Q (⟨some t,.pick c a b,ty,pos,after,none⟩::rest) ⟨env,m,nx⟩ tr:=by
 refine yf (Am (g:=false) (by rw[hc];rfl)) (by simp only[asks,hc,D.ask]) ⟨fun h=>oH,fun _=>⟨h2,by rw[hb];rfl⟩⟩ ?_;simp only[hb,D.fA,Option.getD_some,Bool.false_eq_true,if_false];exact K
theorem dJ{i:Nat}{row:Option Row}(he:Ef P op env m nx ⟨pre,v,[(i,row)],rd,0⟩)(ha:iY env op.operands.toList)(hp:pre)(K:aw P Y ops dr cf Q rest ⟨env,up m i row,nx⟩ (tr++[(rd,[i])])):
 aw P Y ops dr cf Q (⟨none,op,ty,pos,after,none⟩::rest) ⟨env,m,nx⟩ tr:=yf he (pV ha) hp K
theorem cM{row:Row}(he:Ef P op env m nx ⟨pre,v,[(nx,some row)],rd,1⟩)(ha:iY env op.operands.toList)(hp:pre)(K:aw P Y ops dr cf Q rest ⟨up env t v,up m nx (some row),nx+1⟩ (tr++[(rd,[nx])])):
 aw P Y ops dr cf Q (⟨some t,op,ty,pos,after,none⟩::rest) ⟨env,m,nx⟩ tr:=yf he (pV ha) hp K
theorem iw{i:Nat}{row:Row}(he:Ef P op env m nx ⟨pre,v,[(i,none),(nx,some row)],rd,1⟩)(ha:iY env op.operands.toList)(hp:pre)(K:aw P Y ops dr cf Q rest ⟨up env t v,up (up m i none) nx (some row),nx+1⟩ (tr++[(rd,[i,nx])])):
 aw P Y ops dr cf Q (⟨some t,op,ty,pos,after,none⟩::rest) ⟨env,m,nx⟩ tr:=yf he (pV ha) hp K
theorem bQ{j:Nat}{b c:Bool}{u:Nat}(hj:(ops[j]?).bind (·.dst)=some u)(hg:ku (env u) b=some c)(he:Ef P op env m nx ⟨pre,v,[],rd,0⟩)(ha:c=true->iY env op.operands.toList/\pre)
 (K:aw P Y ops dr cf Q rest ⟨up env t (.cG c v),m,nx⟩ (tr++[(rd,[])])):aw P Y ops dr cf Q (⟨some t,op,ty,pos,after,some (j,b)⟩::rest) ⟨env,m,nx⟩ tr:=by
 simp only[aw];refine .inl ?_;simp only[jU];rw[hj];simp only[Option.bind_some];rw[hg,he.nc,he.ny,he.ok];exact⟨fun hc=>⟨pV (ha hc).1,(ha hc).2⟩,K⟩
theorem Z3{j:Nat}{b0 C:Bool}{u:Nat}(hj:(ops[j]?).bind (·.dst)=some u)(hg:ku (env u) b0=some C){c a b:Operand}{g x y:Bool}(hc:(opd env c).core=.s (.bool g))(ha:(opd env a).core=.s (.bool x))(hb:(opd env b).core=.s (.bool y))
 (h0:C=true->(opd env c).ask) (h1:C=true->g=true->(opd env a).ask) (h2:C=true->g=false->(opd env b).ask)
 (K:aw P Y ops dr cf Q rest ⟨up env t (.cG C (.s (.bool (if g then x else y)))),m,nx⟩ (tr++[([],[])])):
 aw P Y ops dr cf Q (⟨some t,.pick c a b,ty,pos,after,some (j,b0)⟩::rest) ⟨env,m,nx⟩ tr:=by
 have he:=Am (P:=P) (env:=env) (m:=m) (nx:=nx) (a:=a) (b:=b) hc;simp only[ha,hb,D.fA,Option.getD_some,Option.isSome_some,and_true] at he;simp only[aw];refine .inl ?_;simp only[jU];rw[hj];simp only[Option.bind_some];rw[hg,he.nc,he.ny,he.ok];exact⟨fun hc=>⟨by simp only[asks];exact h0 hc,h1 hc,h2 hc⟩,K⟩
theorem adr{j:Nat}{b:Bool}{u:Nat}{d:Option Nat}{e:du}(hj:(ops[j]?).bind (·.dst)=some u)(hg:ku (env u) b=some true)(he:Ef P op env m nx e)(ha:iY env op.operands.toList)(hp:e.pre)
 (K:e.aT=[]->e.new=0->aw P Y ops dr cf Q rest (St.put ⟨env,m,nx⟩ d (.cG true e.val)) (tr++[(e.rd,[])]))
 (K':aw P Y ops dr cf Q rest (St.put ⟨env,cu m e.aT,nx+e.new⟩ d e.val) (tr++[(e.rd,e.aT.map (·.1))])):aw P Y ops dr cf Q (⟨d,op,ty,pos,after,some (j,b)⟩::rest) ⟨env,m,nx⟩ tr:=by
 simp only[aw];refine .inl ?_;simp only[jU];rw[hj];simp only[Option.bind_some];rw[hg,he.nc,he.ny,he.ok];simp only;split
 .rename_i h;simp only[ay,List.isEmpty_iff,beq_iff_eq] at h;exact⟨fun _=>⟨pV ha,hp⟩,K h.1 h.2⟩
 .exact⟨fun _=>⟨pV ha,hp,K'⟩,oS⟩
theorem TK{j:Nat}{b:Bool}{u:Nat}{d:Option Nat}(hj:(ops[j]?).bind (·.dst)=some u)(hg:ku (env u) b=some false)
 (K:∀ (x:D) rd,aw P Y ops dr cf Q rest (St.put ⟨env,m,nx⟩ d (.cG false x)) (tr++[(rd,[])])):aw P Y ops dr cf Q (⟨d,op,ty,pos,after,some (j,b)⟩::rest) ⟨env,m,nx⟩ tr:=by
 simp only[aw];refine .inl ?_;simp only[jU];rw[hj];simp only[Option.bind_some];rw[hg];simp only;split
 .exact .inr ⟨oS,fun _=>K .u []⟩
 .split
  .exact⟨oS,fun _=>K .u []⟩
  .split
   .split
    .exact⟨oS,K _ _⟩
    .exact⟨oS,fun _=>K .u []⟩
   .exact⟨trivial,K .u []⟩
theorem CJ{j:Nat}{b:Bool}{u t:Nat}(hj:(ops[j]?).bind (·.dst)=some u)(hg:ku (env u) b=some false)
 (K:∀ (x:D) rd,aw P Y ops dr cf Q rest ⟨up env t (.cG false x),m,nx⟩ (tr++[(rd,[])])):aw P Y ops dr cf Q (⟨some t,op,ty,pos,after,some (j,b)⟩::rest) ⟨env,m,nx⟩ tr:=TK hj hg K
theorem J8{f:FuncId}{args:List D}{d:Option Nat}(hc:dx (bC env op) op=some (f,args))(ha:iY env op.operands.toList)(h:vN P dr ⟨env,m,nx⟩ f args fun r m nx rd wr=>aw P Y ops dr cf Q rest (St.put ⟨env,m,nx⟩ d r) (tr++[(rd,wr)])):
 aw P Y ops dr cf Q (⟨d,op,ty,pos,after,none⟩::rest) ⟨env,m,nx⟩ tr:=by
 simp only[aw];refine .inl ?_;simp only[jU];rw[hc];exact⟨pV ha,h⟩
theorem CV{f:FuncId}{args:List D}{r:D}(h:ax P f args r)(hc:dx (bC env op) op=some (f,args))(ha:iY env op.operands.toList)(K:aw P Y ops dr cf Q rest ⟨up env t r,m,nx⟩ (tr++[([],[])])):
 aw P Y ops dr cf Q (⟨some t,op,ty,pos,after,none⟩::rest) ⟨env,m,nx⟩ tr:=J8 hc ha (.inl ⟨r,h,K⟩)
theorem Ly{f:FuncId}{args es:List D}{n:Nat}{C:TypeId}(h:qY P f args es n C)(hc:dx (bC env op) op=some (f,args))(ha:iY env op.operands.toList)(K:aw P Y ops dr cf Q rest ⟨up env t (.rs nx 0 n),up m nx (some (.cells es C)),nx+1⟩ (tr++[([],[nx])])):
 aw P Y ops dr cf Q (⟨some t,op,ty,pos,after,none⟩::rest) ⟨env,m,nx⟩ tr:=J8 hc ha (.inr (.inr (.inl ⟨es,n,C,h,K⟩)))
theorem G0{f:FuncId}{args:List D}{d:Option Nat}{dd:D->Mem->Nat->Prop}(h:ji P f args m nx dd)(hc:dx (bC env op) op=some (f,args))(ha:iY env op.operands.toList)
 (K:∀ r m' aA,dd r m' aA->aw P Y ops false cf Q rest (St.put ⟨env,m',aA⟩ d r) (tr++[([],[])])):
 aw P Y ops false cf Q (⟨d,op,ty,pos,after,none⟩::rest) ⟨env,m,nx⟩ tr:=J8 hc ha (.inr (.inr (.inr (.inl ⟨rfl,h.mono K⟩))))
theorem uh{j:Nat}{b c:Bool}{u:Nat}{f:FuncId}{args:List D}{r:D}(hj:(ops[j]?).bind (·.dst)=some u)(hg:ku (env u) b=some c)(hc:dx (bC env op) op=some (f,args))(h:c=true->iY env op.operands.toList/\ax P f args r)
 (K:aw P Y ops dr cf Q rest ⟨up env t (.cG c r),m,nx⟩ (tr++[([],[])])):aw P Y ops dr cf Q (⟨some t,op,ty,pos,after,some (j,b)⟩::rest) ⟨env,m,nx⟩ tr:=by
 simp only[aw];refine .inl ?_;simp only[jU];rw[hj];simp only[Option.bind_some];rw[hg,hc];exact .inl ⟨r,fun C=>⟨pV (h C).1,(h C).2⟩,K⟩
theorem Z1{j:Nat}{b:Bool}{u:Nat}{d:Option Nat}{f:FuncId}{args:List D}(hj:(ops[j]?).bind (·.dst)=some u)(hg:ku (env u) b=some true)(hc:dx (bC env op) op=some (f,args))(ha:iY env op.operands.toList)
 (h:vN P dr ⟨env,m,nx⟩ f args fun r m nx rd wr=>aw P Y ops dr cf Q rest (St.put ⟨env,m,nx⟩ d r) (tr++[(rd,wr)])):aw P Y ops dr cf Q (⟨d,op,ty,pos,after,some (j,b)⟩::rest) ⟨env,m,nx⟩ tr:=by
 simp only[aw];refine .inl ?_;simp only[jU];rw[hj];simp only[Option.bind_some];rw[hg,hc];exact .inr ⟨fun _=>⟨pV ha,h⟩,oS⟩
theorem UH{l:Nat}{args:List D}{d:Option Nat}(hc:dx (bC env op) op=none)(hy:n6 (bC env op) op=some (l,args))(ha:iY env op.operands.toList)(h:Y l args m nx fun r m' aA=>aw P Y ops false cf Q rest (St.put ⟨env,m',aA⟩ d r) (tr++[([],[])])):
 aw P Y ops false cf Q (⟨d,op,ty,pos,after,none⟩::rest) ⟨env,m,nx⟩ tr:=by
 simp only[aw];refine .inl ?_;simp only[jU];rw[hc,hy];exact⟨pV ha,trivial,h⟩
theorem Lz{j:Nat}{b:Bool}{u:Nat}{l:Nat}{args:List D}{d:Option Nat}(hj:(ops[j]?).bind (·.dst)=some u)(hg:ku (env u) b=some true)(hc:dx (bC env op) op=none)(hy:n6 (bC env op) op=some (l,args))(ha:iY env op.operands.toList)
 (h:Y l args m nx fun r m' aA=>aw P Y ops false cf Q rest (St.put ⟨env,m',aA⟩ d r) (tr++[([],[])])):aw P Y ops false cf Q (⟨d,op,ty,pos,after,some (j,b)⟩::rest) ⟨env,m,nx⟩ tr:=by
 simp only[aw];refine .inl ?_;simp only[jU];rw[hj];simp only[Option.bind_some];rw[hg,hc,hy];exact⟨fun _=>⟨pV ha,trivial,h⟩,oS⟩
def gF(K:St->Prop):Exit->St->Prop
 | .normal,st=>K st
 |_,_=>True
theorem ab{K:St->Prop}{st:St}(h:K st):aw P Y ops dr [] (gF K) [] st tr:=⟨oS,h⟩
theorem bX{K:St->Prop}{st:St}(hc:∀ q∈cf,p9 tr q.1 q.2)(h:K st):aw P Y ops dr cf (gF K) [] st tr:=⟨hc,h⟩
variable{st:St}{a b c:Code}
theorem aw.l0{cf:List (Nat×Nat)}{K:St->Prop}{Q:Exit->St->Prop}[eB Y]{l:List Oper}(h:aw P Y ops dr cf (gF K) l st tr)(hk:∀ st,K st->Q .normal st):aw P Y ops dr cf Q l st tr:=
 aw.mono (Q:=gF K) (fun st h=>hk st h) l st tr h
theorem se[eB Y]{id:Nat}(h:aw P Y ops false [] (gF fun st=>Q .normal st) ops.toList st []):AW P Y rf (.region id ops false) Q st:=aw.l0 h fun _ h=>h
theorem CH[eB Y]{id:Nat}(hi:cg ops=some cf)(h:aw P Y ops true cf (gF fun st=>Q .normal st) ops.toList st []):AW P Y rf (.region id ops true) Q st:=by
 show match cg ops with
  |some cf=>Kp P Y ops cf Q st
  |none=>False
 rw[hi];exact .inl (aw.l0 h fun _ h=>h)
theorem al[eB Y]{id:Nat}(h:aw P Y ops false [] (gF fun st=>AW P Y rf b Q st) ops.toList st []):AW P Y rf (.seq (.region id ops false) b) Q st:=
 se (rf:=rf) (id:=id) (aw.l0 h fun st h=>⟨st,.refl st,h⟩)
theorem eF[eB Y]{id:Nat}(hi:cg ops=some cf)(h:aw P Y ops true cf (gF fun st=>AW P Y rf b Q st) ops.toList st []):AW P Y rf (.seq (.region id ops true) b) Q st:=
 CH (rf:=rf) (id:=id) hi (aw.l0 h fun st h=>⟨st,.refl st,h⟩)
theorem bj{st':St}(hg:aR P st st')(h:AW P Y rf b Q st'):∃ C,aR P st C/\AW P Y rf b Q C:=⟨st',hg,h⟩
theorem aE[eB Y]{id:Nat}(h:aw P Y ops false [] (gF fun st=>∃ st',aR P st st'/\AW P Y rf b Q st') ops.toList st []):AW P Y rf (.seq (.region id ops false) b) Q st:=
 se (rf:=rf) (id:=id) (aw.l0 h fun _ h=>h)
theorem tI[eB Y]{id:Nat}(hi:cg ops=some cf)(h:aw P Y ops true cf (gF fun st=>∃ st',aR P st st'/\AW P Y rf b Q st') ops.toList st []):AW P Y rf (.seq (.region id ops true) b) Q st:=
 CH (rf:=rf) (id:=id) hi (aw.l0 h fun _ h=>h)
theorem Tg[eB Y](J:St->Prop)(h:AW P Y rf a (gE J Q) st)(k:∀ st,J st->AW P Y rf b Q st):AW P Y rf (.seq a b) Q st:=
 tT a (fun e st h=>by
  cases e with
  |normal=>exact⟨st,.refl st,k st h⟩
  |_=>exact h) h
theorem fO[eB Y](J:St->Prop)(h:AW P Y rf a (gE J Q) st)(k:∀ st,J st->∃ st',aR P st st'/\AW P Y rf b Q st'):AW P Y rf (.seq a b) Q st:=
 tT a (fun e st h=>by
  cases e with
  |normal=>exact k st h
  |_=>exact h) h
theorem dL[eB Y](h:AW P Y rf b Q st):AW P Y rf (.seq .skip b) Q st:=⟨st,.refl st,h⟩
theorem fN(h:Q .ret st):AW P Y rf (.seq .ret b) Q st:=h
theorem sd{id:Nat}(h:Q (.exit id) st):AW P Y rf (.seq (.exit id) b) Q st:=h
theorem W5{l:Nat}(h:AW P Y rf b Q st):AW P Y rf (.seq (.label l) b) Q st:=⟨st,.refl st,h⟩
theorem aV[eB Y](h:AW P Y rf (.seq a (.seq b c)) Q st):AW P Y rf (.seq (.seq a b) c) Q st:=by
 refine tT a (fun e st h=>?_) h;cases e with
 |normal=>
  obtain⟨st',hg,h⟩:=h;refine⟨st',hg,tT b (fun e st h=>?_) h⟩;cases e<;>exact h
 |_=>exact h
theorem yC{c:Operand}{x y:Code}{g:Bool}(hc:opd st.env c=.s (.bool g))(ht:g=true->AW P Y rf x Q st)(hf:g=false->AW P Y rf y Q st):AW P Y rf (.cond c x y) Q st:=by
 rw[Q3];rw[hc];exact⟨trivial,ht,hf⟩
theorem dI{c:Operand}{x y:Code}{g:Bool}(hc:opd st.env c=.s (.bool g))(ht:g=true->AW P Y rf (.seq x b) Q st)(hf:g=false->AW P Y rf (.seq y b) Q st):AW P Y rf (.seq (.cond c x y) b) Q st:=yC hc ht hf
theorem abr{c:Operand}{x y:Code}(hc:opd st.env c=.ub)(ht:AW P Y rf x Q st)(hf:AW P Y rf y Q st):AW P Y rf (.cond c x y) Q st:=by
 rw[Q3];rw[hc];exact⟨trivial,ht,hf⟩
theorem qN{id:Nat}(h:AW P Y rf b (hZ id Q) st):AW P Y rf (.block id b) Q st:=h
theorem aa6[eB Y]{α:Type}(S:α->St)(J:α->Prop)(μ:α->Nat)(O:α)(h0:st=S O)(hJ:J O)(h:∀ x,J x->AW P Y rf b (gE (fun st'=>∃ M C,aR P st' M/\M=S C/\J C/\μ C<μ x) Q) (S x)):AW P Y rf (.loop b) Q st:=by
 refine Zw (fun j st=>∃ x,st=S x/\J x/\μ x=j) (j₀:=μ O) ⟨O,h0,hJ,rfl⟩ ?_;rintro j st ⟨x,rfl,hx,rfl⟩;refine tT b (fun e st' hq=>?_) (h x hx);cases e with
 |normal=>
  obtain⟨M,C,h1,h2,U,X⟩:=hq;exact⟨M,h1,μ C,X,C,h2,U,rfl⟩
 |_=>exact hq
end
theorem akG{P:Program}{Y:gd}{rf:Bool}{Q:Exit->St->Prop}{st:St}{c:Operand}{x y:Code}(K:AW P Y rf y Q st)(h:opd st.env c=.s (.bool false):=by exact rfl):AW P Y rf (.cond c x y) Q st:=yC h (fun h=>by cases h) fun _=>K
theorem akH{P:Program}{Y:gd}{rf:Bool}{Q:Exit->St->Prop}{st:St}{c:Operand}{x y:Code}(K:AW P Y rf x Q st)(h:opd st.env c=.s (.bool true):=by exact rfl):AW P Y rf (.cond c x y) Q st:=yC h (fun _=>K) fun h=>by cases h
theorem yw{P:Program}{Y:gd}{rf:Bool}{Q:Exit->St->Prop}{st:St}{c:Operand}{x y b:Code}(K:AW P Y rf (.seq y b) Q st)(h:opd st.env c=.s (.bool false):=by exact rfl):AW P Y rf (.seq (.cond c x y) b) Q st:=yC h (fun h=>by cases h) fun _=>K
theorem yx{P:Program}{Y:gd}{rf:Bool}{Q:Exit->St->Prop}{st:St}{c:Operand}{x y b:Code}(K:AW P Y rf (.seq x b) Q st)(h:opd st.env c=.s (.bool true):=by exact rfl):AW P Y rf (.seq (.cond c x y) b) Q st:=yC h (fun _=>K) fun h=>by cases h
section
variable{P:Program}{env:Env}{m:Mem}{nx:Nat}{t:TypeId}{x y a:Operand}{d v:D}{k:IntKind}{n n':Int}{p q:TypeId}
theorem lm(hx:(opd env x).core=v):Ef P (.move x) env m nx ⟨True,v,[],[],0⟩:=⟨by simp only[aQ,bC,hx],rfl,rfl⟩
theorem eM(hx:(opd env x).core=v):Ef P (.assign x) env m nx ⟨True,v,[],[],0⟩:=⟨by simp only[aQ,bC,hx],rfl,rfl⟩
theorem R1(op:BinOp)(v:Value)(y:Operand):kQ P m op t (.s v) y=none:=by
 unfold kQ;split<;>first|rfl|(rename_i h;cases h)
theorem ab3{op:BinOp}{v w:Value}(h:∀ a b,v=.bool a->w=.bool b->False):pq P op t (.s v) (.s w)=(nC op v w).map fun r=>(r.1,.s r.2):=by
 cases v<;>cases w<;>first|rfl|exact(h _ _ rfl rfl).elim
theorem mD{op:BinOp}{v w u:Value}{pre:Prop}(hx:(opd env x).core=.s v)(hy:(opd env y).core=.s w)(hn:∀ a b,v=.bool a->w=.bool b->False)(hb:nC op v w=some (pre,u)):Ef P (.binOp op t x y p) env m nx ⟨pre,.s u,[],[],0⟩:=
 ⟨by simp only[aQ,bC,hx,hy,R1,ab3 hn,hb,Option.map_some],rfl,rfl⟩
section ints
variable(hx:(opd env x).core=.s (.int k n))(hy:(opd env y).core=.s (.int k n'))
include hx hy
theorem K9:Ef P (.binOp .lss t x y p) env m nx ⟨k=k,.s (.bool (decide (n<n'))),[],[],0⟩:=mD hx hy oS rfl
theorem GJ:Ef P (.binOp .leq t x y p) env m nx ⟨k=k,.s (.bool (decide (n<=n'))),[],[],0⟩:=mD hx hy oS rfl
theorem La:Ef P (.binOp .gtr t x y p) env m nx ⟨k=k,.s (.bool (decide (n'<n))),[],[],0⟩:=mD hx hy oS rfl
theorem Lb:Ef P (.binOp .geq t x y p) env m nx ⟨k=k,.s (.bool (decide (n'<=n))),[],[],0⟩:=mD hx hy oS rfl
theorem GK:Ef P (.binOp .eql t x y p) env m nx ⟨k=k,.s (.bool (n==n')),[],[],0⟩:=mD hx hy oS rfl
theorem Lc:Ef P (.binOp .neq t x y p) env m nx ⟨k=k,.s (.bool (n !=n')),[],[],0⟩:=mD hx hy oS rfl
theorem ab4:Ef P (.binOp .add t x y p) env m nx ⟨k=k,.s (.int k (k.wrap (n+n'))),[],[],0⟩:=mD hx hy oS rfl
theorem ab5:Ef P (.binOp .sub t x y p) env m nx ⟨k=k,.s (.int k (k.wrap (n - n'))),[],[],0⟩:=mD hx hy oS rfl
theorem ab6:Ef P (.binOp .quo t x y p) env m nx ⟨k=k/\n'≠0,.s (.int k (k.wrap (n.tdiv n'))),[],[],0⟩:=mD hx hy oS rfl
theorem acW:Ef P (.binOp .rem t x y p) env m nx ⟨k=k/\n'≠0,.s (.int k (n.tmod n')),[],[],0⟩:=mD hx hy oS rfl
theorem S8:Ef P (.binOp .and t x y p) env m nx ⟨k=k,.s (.int k (lb .and k n n')),[],[],0⟩:=mD hx hy oS rfl
theorem afX:Ef P (.binOp .or t x y p) env m nx ⟨k=k,.s (.int k (lb .or k n n')),[],[],0⟩:=mD hx hy oS rfl
end ints
theorem acX{k':IntKind}(hx:(opd env x).core=.s (.int k n))(hy:(opd env y).core=.s (.int k' n')):Ef P (.binOp .shl t x y p) env m nx ⟨0<=n',.s (.int k (k.wrap (n*2 ^ (min n'.toNat k.bits)))),[],[],0⟩:=mD hx hy oS rfl
theorem acY{k':IntKind}(hx:(opd env x).core=.s (.int k n))(hy:(opd env y).core=.s (.int k' n')):Ef P (.binOp .shr t x y p) env m nx ⟨0<=n',.s (.int k (n.fdiv (2 ^ (min n'.toNat k.bits)))),[],[],0⟩:=mD hx hy oS rfl
theorem i64_in(n:Int)(h: -9223372036854775808<=n/\n<=9223372036854775807):IntKind.i64.wrap n=n:=Go.IntWalk.i64_in n h
theorem S9(hx:(opd env x).core=.s (.int .i64 n))(hy:(opd env y).core=.s (.int .i64 n'))(hb: -9223372036854775808<=n+n'/\n+n'<=9223372036854775807):Ef P (.binOp .add t x y p) env m nx ⟨IntKind.i64=IntKind.i64,.s (.int .i64 (n+n')),[],[],0⟩:=by
 have:=ab4 (P:=P) (m:=m) (nx:=nx) (t:=t) (p:=p) hx hy
 rwa[i64_in _ hb] at this
theorem Ld(hx:(opd env x).core=.s (.int .i64 n))(hy:(opd env y).core=.s (.int .i64 n'))(hb: -9223372036854775808<=n - n'/\n - n'<=9223372036854775807):Ef P (.binOp .sub t x y p) env m nx ⟨IntKind.i64=IntKind.i64,.s (.int .i64 (n - n')),[],[],0⟩:=by
 have:=ab5 (P:=P) (m:=m) (nx:=nx) (t:=t) (p:=p) hx hy
 rwa[i64_in _ hb] at this
section strings
variable{s s':ByteArray}(hx:(opd env x).core=.s (.string s))(hy:(opd env y).core=.s (.string s'))
include hx hy
theorem Kr:Ef P (.binOp .eql t x y p) env m nx ⟨True,.s (.bool (s.toList==s'.toList)),[],[],0⟩:=mD hx hy oS rfl
theorem R2:Ef P (.binOp .geq t x y p) env m nx ⟨True,.s (.bool !(Op.bytesLess s.toList s'.toList)),[],[],0⟩:=mD hx hy oS rfl
end strings
theorem R3{b C:Bool}(hx:(opd env x).core=.s (.bool b))(hy:(opd env y).core=.s (.bool C)):Ef P (.binOp .eql t x y p) env m nx ⟨tm P t=true,.s (.bool (b==C)),[],[],0⟩:=
 ⟨by simp only[aQ,bC,hx,hy,R1,pq,Option.map_some],rfl,rfl⟩
theorem aka{b C:Bool}(hx:(opd env x).core=.s (.bool b))(hy:(opd env y).core=.s (.bool C)):Ef P (.binOp .neq t x y p) env m nx ⟨tm P t=true,.s (.bool !(b==C)),[],[],0⟩:=
 ⟨by simp only[aQ,bC,hx,hy,R1,pq,Option.map_some],rfl,rfl⟩
theorem S'{b:Bool}(hx:(opd env x).core=.s (.bool b)):Ef P (.unOp .not t x) env m nx ⟨True,.s (.bool !b),[],[],0⟩:=⟨by simp only[aQ,bC,hx,Bl,Option.map_some],rfl,rfl⟩
theorem Q1{z:List D}(hz:aZ P t=z):Ef P (.alloc t) env m nx ⟨aG P t=true,.rp nx 0,[(nx,some (.cells z t))],[],1⟩:=⟨by simp only[aQ,hz],rfl,rfl⟩
theorem Ta{cs:List D}(hx:(opd env x).core=d)(hc:d.cells=cs):Ef P (.box t x) env m nx ⟨cs.all D.one=true,.rp nx 0,[(nx,some (.cells cs t))],[],1⟩:=⟨by simp only[aQ,bC,hx,hc],rfl,rfl⟩
theorem Ks(hx:(opd env x).core=d)(hc:d.cells=[d]):Ef P (.box t x) env m nx ⟨[d].all D.one=true,.rp nx 0,[(nx,some (.cells [d] t))],[],1⟩:=Ta hx hc
theorem sG{cs:List D}(hx:(opd env x).core=.agg cs):Ef P (.box t x) env m nx ⟨cs.all D.one=true,.rp nx 0,[(nx,some (.cells cs t))],[],1⟩:=Ta hx rfl
theorem ua{cs:List D}(hx:(opd env x).core=.pt (v::cs))(ha:bG P t=false):Ef P (.load t x) env m nx ⟨aG P t=true/\P.cellsOf t<=(v::cs).length,v,[],[],0⟩:=⟨by simp[aQ,bC,hx,jo,ha],rfl,rfl⟩
theorem ki{cs vs:List D}{n:Nat}(hx:(opd env x).core=.pt cs)(ha:bG P t=true)(hc:P.cellsOf t=n)(hv:cs.take n=vs):Ef P (.load t x) env m nx ⟨aG P t=true/\P.cellsOf t<=cs.length,.agg vs,[],[],0⟩:=⟨by simp[aQ,bC,hx,jo,ha,hc,hv],rfl,rfl⟩
theorem eJ{i off:Nat}{cs cs':List D}{e:TypeId}(hx:(opd env x).core=.rp i off)(hm:m i=some (.cells cs e))(hd:cs.drop off=v::cs')(ha:bG P t=false):Ef P (.load t x) env m nx ⟨aG P t=true/\off+P.cellsOf t<=cs.length,v,[],[i],0⟩:=⟨by simp[aQ,bC,hx,hm,jo,ha,hd],rfl,rfl⟩
theorem dP{i off:Nat}{cs vs:List D}{e:TypeId}{n:Nat}(hx:(opd env x).core=.rp i off)(hm:m i=some (.cells cs e))(ha:bG P t=true)(hc:P.cellsOf t=n)(hv:(cs.drop off).take n=vs):Ef P (.load t x) env m nx ⟨aG P t=true/\off+P.cellsOf t<=cs.length,.agg vs,[],[i],0⟩:=⟨by simp[aQ,bC,hx,hm,jo,ha,hc,hv],rfl,rfl⟩
theorem Q2{i off:Nat}{cs cs' vs:List D}{e:TypeId}(hx:(opd env x).core=.rp i off)(hy:(opd env y).core=d)(hm:m i=some (.cells cs e))(hv:d.cells=vs)(hs:fj cs off vs=cs'):
 Ef P (.store t x y) env m nx ⟨aG P t=true/\vs.length=P.cellsOf t/\off+P.cellsOf t<=cs.length/\vs.all D.one=true,.bp [],[(i,some (.cells cs' e))],[i],0⟩:=⟨by simp only[aQ,bC,hx,hy,hm,hv,hs],rfl,rfl⟩
theorem mo{i off:Nat}{cs cs':List D}{e:TypeId}(hx:(opd env x).core=.rp i off)(hy:(opd env y).core=d)(hm:m i=some (.cells cs e))(hv:d.cells=[d])(hs:cs.set off d=cs'):
 Ef P (.store t x y) env m nx ⟨aG P t=true/\[d].length=P.cellsOf t/\off+P.cellsOf t<=cs.length/\[d].all D.one=true,.bp [],[(i,some (.cells cs' e))],[i],0⟩:=Q2 hx hy hm hv hs
theorem iI{i off:Nat}{cs cs' vs:List D}{e:TypeId}(hx:(opd env x).core=.rp i off)(hy:(opd env y).core=.agg vs)(hm:m i=some (.cells cs e))(hs:fj cs off vs=cs'):
 Ef P (.store t x y) env m nx ⟨aG P t=true/\vs.length=P.cellsOf t/\off+P.cellsOf t<=cs.length/\vs.all D.one=true,.bp [],[(i,some (.cells cs' e))],[i],0⟩:=Q2 hx hy hm rfl hs
theorem tS{cs:List D}{j off:Nat}{C:TypeId}(hx:(opd env x).core=.pt cs)(hf:cH P t j=some (off,C)):Ef P (.fieldAddr t x j) env m nx ⟨0<P.cellsOf C,.pt (cs.drop off),[],[],0⟩:=⟨by simp only[aQ,bC,hx,hf],rfl,rfl⟩
theorem nV{i o:Nat}{j off:Nat}{C:TypeId}{r:Row}(hx:(opd env x).core=.rp i o)(hm:m i=some r)(hf:cH P t j=some (off,C)):Ef P (.fieldAddr t x j) env m nx ⟨0<P.cellsOf C,.rp i (o+off),[],[i],0⟩:=⟨by simp only[aQ,bC,hx,hf,hm],rfl,rfl⟩
theorem Le{es cs:List D}{l sz:Nat}{e:TypeId}(hx:(opd env x).core=.sl es l)(hy:(opd env y).core=.s (.int k n))(he:av P t=e)(hs:P.cellsOf e=sz)(hd:es.drop (n.toNat*sz)=cs):
 Ef P (.indexAddr t x y) env m nx ⟨bm P t=true/\0<=n/\n<l/\(n.toNat+1)*sz<=es.length,.pt cs,[],[],0⟩:=⟨by simp only[aQ,bC,hx,hy,he,hs,hd],rfl,rfl⟩
theorem Kt{j off l sz:Nat}{e:TypeId}{r:Row}(hx:(opd env x).core=.rs j off l)(hy:(opd env y).core=.s (.int k n))(hm:m j=some r)(he:av P t=e)(hs:P.cellsOf e=sz):
 Ef P (.indexAddr t x y) env m nx ⟨bm P t=true/\0<=n/\n<l,.rp j (off+n.toNat*sz),[],[j],0⟩:=⟨by simp only[aQ,bC,hx,hy,hm,he,hs],rfl,rfl⟩
theorem ab7{j off sz l:Nat}{e:TypeId}{r:Row}(hx:(opd env x).core=.rp j off)(hy:(opd env y).core=.s (.int k n))(hm:m j=some r)(he:av P t=e)(hs:P.cellsOf e=sz)(hl:oz P t=l):
 Ef P (.indexAddr t x y) env m nx ⟨nM P t=true/\0<=n/\n<l,.rp j (off+n.toNat*sz),[],[j],0⟩:=⟨by simp only[aQ,bC,hx,hy,hm,he,hs,hl],rfl,rfl⟩
section builtins
theorem v8{b:Builtin}{ts:Array TypeId}{args:Array Operand}{aS:List D}{e:du}(hs:ts.size=args.size)(ha:args.toList.map (fun x=>(opd env x).core)=aS)(hb:eI P m nx b ts aS=some e):Ef P (.call { callee:=.builtin b,args:=args,argTypes:=ts }) env m nx e:=
 ⟨by simp only[aQ];rw[if_pos hs];simp only[bC];rw[ha,hb],rfl,rfl⟩
theorem Tb{es:List D}{l:Nat}(hx:(opd env x).core=.sl es l):Ef P (.call { callee:=.builtin .len,args:= #[x],argTypes:= #[t] }) env m nx ⟨bm P t=true,.s (.int .i64 l),[],[],0⟩:=v8 (aS:=[.sl es l]) rfl (by simp[hx]) rfl
theorem Ku{i off l:Nat}{r:Row}(hx:(opd env x).core=.rs i off l)(hm:m i=some r):Ef P (.call { callee:=.builtin .len,args:= #[x],argTypes:= #[t] }) env m nx ⟨bm P t=true,.s (.int .i64 l),[],[i],0⟩:=v8 (aS:=[.rs i off l]) rfl (by simp[hx]) (by simp[eI,lD,hm])
theorem R4(hx:(opd env x).core=.z):Ef P (.call { callee:=.builtin .len,args:= #[x],argTypes:= #[t] }) env m nx ⟨bm P t=true,.s (.int .i64 0),[],[],0⟩:=v8 (aS:=[.z]) rfl (by simp[hx]) rfl
theorem Kv{b:ByteArray}(hx:(opd env x).core=.s (.string b)):Ef P (.call { callee:=.builtin .len,args:= #[x],argTypes:= #[t] }) env m nx ⟨fG P t=true,.s (.int .i64 b.size),[],[],0⟩:=v8 (aS:=[.s (.string b)]) rfl (by simp[hx]) rfl
theorem Tc{k:IntKind}(hx:(opd env x).core=.s (.int k n))(hy:(opd env y).core=.s (.int k n')):Ef P (.call { callee:=.builtin .min,args:= #[x,y],argTypes:= #[t,t] }) env m nx ⟨k=k,.s (.int k (if n'<n then n' else n)),[],[],0⟩:=v8 (aS:=[.s (.int k n),.s (.int k n')]) rfl (by simp[hx,hy]) rfl
structure Cells(m:Mem)(sz:Nat)(d:D)(p:Prop)(rd:List Nat)(k:Nat)(news:List D):Prop where
 ok:iG m sz d=some (p,rd,k,news)
theorem jd{es news:List D}{k sz:Nat}(h:es.take (k*sz)=news):Cells m sz (.sl es k) (k*sz<=es.length) [] k news:=⟨by simp[iG,h]⟩
theorem iJ{i off k sz:Nat}{cs news:List D}{e:TypeId}(hm:m i=some (.cells cs e))(h:(cs.drop off).take (k*sz)=news):Cells m sz (.rs i off k) (off+k*sz<=cs.length) [i] k news:=⟨by simp[iG,hm,h]⟩
theorem jF{p:Prop}{rd:List Nat}{c sz:Nat}{news:List D}{e:TypeId}(hx:(opd env x).core=.z)(hy:(opd env y).core=d)(he:av P t=e)(hs:P.cellsOf e=sz)(hc:Cells m sz d p rd c news):
 Ef P (.call { callee:=.builtin .append,args:= #[x,y],argTypes:= #[t,t] }) env m nx ⟨bm P t=true/\p/\0<sz/\c<=maxLen/\c*P.bytesOf e<=140737488355328,.rs nx 0 c,[(nx,some (.cells news e))],rd,1⟩:=by
 refine v8 (aS:=[.z,d]) rfl (by simp[hx,hy]) ?_;simp only[eI];rw[if_pos oS];simp only[p0,Array.getD_eq_getD_getElem?,List.getElem?_toArray,List.getElem?_cons_zero,Option.getD_some,he,hs,hc.ok]
theorem io{p:Prop}{rd:List Nat}{c sz i off l:Nat}{cs cs' news:List D}{e:TypeId}(hx:(opd env x).core=.rs i off l)(hm:m i=some (.cells cs e))(hy:(opd env y).core=d)(he:av P t=e)(hs:P.cellsOf e=sz)(hc:Cells m sz d p rd c news)(hn:cs.drop off++news=cs'):
 Ef P (.call { callee:=.builtin .append,args:= #[x,y],argTypes:= #[t,t] }) env m nx ⟨bm P t=true/\e=e/\p/\0<sz/\off+l*sz=cs.length/\l+c<=maxLen/\(l+c)*P.bytesOf e<=140737488355328/\i∉rd,.rs nx 0 (l+c),[(i,none),(nx,some (.cells cs' e))],i::rd,1⟩:=by
 refine v8 (aS:=[.rs i off l,d]) rfl (by simp[hx,hy]) ?_;simp only[eI];rw[if_pos oS];simp only[p0,Array.getD_eq_getD_getElem?,List.getElem?_toArray,List.getElem?_cons_zero,Option.getD_some,he,hs,hc.ok,hm,hn]
end builtins
theorem R5{b:ByteArray}(hx:(opd env x).core=.s (.string b))(hy:(opd env y).core=.s (.int k n)):Ef P (.index t x y) env m nx ⟨fG P t=true/\0<=n/\n<b.size,.s (.int .u8 (b.data.toList.getD n.toNat 0).toNat),[],[],0⟩:=⟨by simp only[aQ,bC,hx,hy],rfl,rfl⟩
theorem vB{cs cs':List D}{j:Nat}(hx:(opd env x).core=.bp cs)(hd:cs.drop j=v::cs'):Ef P (.extract x j) env m nx ⟨j<cs.length,v,[],[],0⟩:=by
 have h:cs[j]? =some v:=by
  have:(cs.drop j)[0]? =some v:=by rw[hd];rfl
  simpa using this
 exact⟨by simp[aQ,bC,hx,h],rfl,rfl⟩
theorem aa1{ps:Array (Nat×Operand)}{fs:Array Field}{cs z:List D}{C:List (Nat×D)}(hu:P.underlying t=some (.struct fs))(hz:aZ P t=z)(hq:(ps.toList.map fun q=>(q.1,(opd env q.2).core))=C)
 (hf:jq (fun i=>(fs[i]?).map fun f=>(f.offset,P.cellsOf f.type)) z C=some cs):Ef P (.build t ps) env m nx ⟨aG P t=true/\fs.toList.all (fun f=>(P.info? f.type).isSome)=true,.agg cs,[],[],0⟩:=
 ⟨by simp only[aQ,bC,hu,hz,hq,hf,Option.map_some],rfl,rfl⟩
theorem Ce{ps:Array (Nat×Operand)}{fs:Array Field}{C:List (Nat×Nat)}{cs z:List D}{J:List (Nat×D)}(hu:P.underlying t=some (.struct fs))(hp:(fs.toList.map fun(f:Field)=>(f.offset,P.cellsOf f.type))=C)(hz:aZ P t=z)(hq:(ps.toList.map fun q=>(q.1,(opd env q.2).core))=J)
 (hf:jq (fun i=>C[i]?) z J=some cs):Ef P (.build t ps) env m nx ⟨aG P t=true/\fs.toList.all (fun f=>(P.info? f.type).isSome)=true,.agg cs,[],[],0⟩:=by
 refine aa1 hu hz hq ?_
 have:(fun(i:Nat)=>(fs[i]?).map fun(f:Field)=>(f.offset,P.cellsOf f.type))=fun(i:Nat)=>C[i]? :=by
  funext i;rw[<- hp];simp
 rw[this];exact hf
theorem mn{ps:Array (Nat×Operand)}{l sz:Nat}{e:TypeId}{cs z:List D}{C:List (Nat×D)}(he:av P t=e)(hs:P.cellsOf e=sz)(hz:aZ P e=z)(hq:(ps.toList.map fun q=>(q.1,(opd env q.2).core))=C)
 (hf:jq (fun i=>some (i*sz,sz)) (dq l z) C=some cs):Ef P (.buildSlice t l ps) env m nx ⟨cs.all D.one=true/\l*sz<=2 ^ 24/\bm P t=true/\l<=maxLen,.rs nx 0 l,[(nx,some (.cells cs e))],[],1⟩:=
 ⟨by simp only[aQ,bC,he,hs,hz,hq,hf,Option.map_some],rfl,rfl⟩
theorem R6{f:Fn}{fs cs:Array Operand}{J C:List D}(hf:fs.toList.map (fun x=>(opd env x).core)=J)(hc:cs.toList.map (fun x=>(opd env x).core)=C):Ef P (.makeFunc f fs cs) env m nx ⟨True,.fn f J C,[],[],0⟩:=⟨by simp only[aQ,bC,hf,hc],rfl,rfl⟩
theorem acZ:Ef P (.makeMap t none) env m nx ⟨True,.mp nx,[(nx,some (.map []))],[],1⟩:=⟨by simp only[aQ],rfl,rfl⟩
theorem Cf{e:TypeId}{z:List D}(hx:(opd env x).core=.s (.int .i64 n))(hy:(opd env y).core=.s (.int .i64 n'))(he:av P t=e)(hz:aZ P e=z):
 Ef P (.makeSlice t x y) env m nx ⟨0<=n/\n=n'/\n<=9223372036854775807/\P.bytesOf e*n<=281474976710656/\bm P t=true,.rs nx 0 n.toNat,[(nx,some (.cells (dq n.toNat z) e))],[],1⟩:=⟨by simp only[aQ,bC,hx,hy,he,hz],rfl,rfl⟩
theorem ab8{src:TypeId}{k':IntKind}(hx:(opd env x).core=.s (.int k n))(hu:P.underlying t=some (.int k')):Ef P (.convert src t x) env m nx ⟨aG P src=true,.s (.int k' (k'.wrap n)),[],[],0⟩:=⟨by simp only[aQ,bC,hx,hu],rfl,rfl⟩
theorem aa2{src e:TypeId}{b:ByteArray}(hx:(opd env x).core=.s (.string b))(hu:P.underlying t=some (.slice e))(he:P.underlying e=some (.int .u8)):
 Ef P (.convert src t x) env m nx ⟨fG P src=true/\b.size<=maxLen,.sl (b.data.toList.map fun c=>.s (.int .u8 c.toNat)) b.size,[],[],0⟩:=⟨by simp only[aQ,bC,hx,hu,he],rfl,rfl⟩
def cW(b:ByteArray):List Int:=b.data.toList.map fun c=>(c.toNat:Int)
theorem Wi(b:ByteArray):(cW b).length=b.size:=by unfold cW;rw[List.length_map];rfl
theorem P8{src e:TypeId}{b:ByteArray}(hx:(opd env x).core=.s (.string b))(hu:P.underlying t=some (.slice e))(he:P.underlying e=some (.int .u8)):
 Ef P (.convert src t x) env m nx ⟨fG P src=true/\b.size<=maxLen,.sl ((cW b).map fun n=>.s (.int .u8 n)) (cW b).length,[],[],0⟩:=by
 have:=aa2 (P:=P) (env:=env) (m:=m) (nx:=nx) (t:=t) (src:=src) hx hu he;have h:(cW b).map (fun n=>D.s (.int .u8 n))=b.data.toList.map (fun c=>D.s (.int .u8 c.toNat)):=by rw[cW,List.map_map];rfl
 rw[Wi,h];exact this
theorem Ah{es es':List D}{l:Nat}{lo hi:Option Operand}{a b:Int}{e:TypeId}{sz:Nat}(hx:(opd env x).core=.sl es l)(he:av P t=e)(hs:P.cellsOf e=sz)
 (ha:eP (lo.map fun x=>(opd env x).core) 0=some a) (hb:eP (hi.map fun x=>(opd env x).core) l=some b) (hd:(es.drop (a.toNat*sz)).take ((b - a).toNat*sz)=es'):
 Ef P (.slice t x lo hi none) env m nx ⟨bm P t=true/\0<=a/\a<=b/\b<=l,.sl es' (b - a).toNat,[],[],0⟩:=by
 refine⟨?_,rfl,rfl⟩;show ll P m t (opd env x).core (lo.map fun x=>(opd env x).core) (hi.map fun x=>(opd env x).core) (Option.map (fun x=>(opd env x).core) none)=_;rw[hx];simp only[ll,Option.map_none,ha,hb,he,hs,hd]
theorem P9{i off l:Nat}{cs:List D}{lo hi:Option Operand}{a b:Int}{e:TypeId}{sz:Nat}(hx:(opd env x).core=.rs i off l)(hm:m i=some (.cells cs e))(he:av P t=e)(hs:P.cellsOf e=sz)
 (ha:eP (lo.map fun x=>(opd env x).core) 0=some a) (hb:eP (hi.map fun x=>(opd env x).core) l=some b):
 Ef P (.slice t x lo hi none) env m nx ⟨(bm P t=true/\sz=sz)/\0<=a/\a<=b/\b<=l,.rs i (off+a.toNat*sz) (b - a).toNat,[],[i],0⟩:=by
 refine⟨?_,rfl,rfl⟩;show ll P m t (opd env x).core (lo.map fun x=>(opd env x).core) (hi.map fun x=>(opd env x).core) (Option.map (fun x=>(opd env x).core) none)=_;rw[hx];simp only[ll,hm,Option.map_none,ha,hb,he,hs]
theorem Zr{i:Nat}{es:List (Value×D)}{key:Value}{ok:Bool}{kt:TypeId}(hx:(opd env x).core=.mp i)(hm:m i=some (.map es))(hk:nD (opd env y).core=some key)(ht:gC P t=kt)(hg:jN P t ok (gp key es)=v):
 Ef P (.lookup t x y ok) env m nx ⟨jv P t=true/\dD P kt key=true/\es.all (fun e=>dD P kt e.1)=true,v,[],[i],0⟩:=by
 refine⟨?_,rfl,rfl⟩;show ng P m t (opd env x).core (opd env y).core ok=_;simp only[ng,hk,hx,hm,ht,hg]
theorem Pa{es:List (Value×D)}{key:Value}{ok:Bool}{kt:TypeId}(hx:(opd env x).core=.im es)(hk:nD (opd env y).core=some key)(ht:gC P t=kt)(hg:jN P t ok (gp key es)=v):
 Ef P (.lookup t x y ok) env m nx ⟨jv P t=true/\dD P kt key=true/\es.all (fun e=>dD P kt e.1)=true,v,[],[],0⟩:=by
 refine⟨?_,rfl,rfl⟩;show ng P m t (opd env x).core (opd env y).core ok=_;simp only[ng,hk,hx,ht,hg]
theorem ab9{i:Nat}{es:List (Value×D)}{key:Value}{z:Operand}{kt:TypeId}(hx:(opd env x).core=.mp i)(hm:m i=some (.map es))(hk:nD (opd env y).core=some key)(hz:(opd env z).core=v)(ht:gC P t=kt):
 Ef P (.mapUpdate t x y z) env m nx ⟨jv P t=true/\dD P kt key=true/\es.all (fun e=>dD P kt e.1)=true,.bp [],[(i,some (.map (lY key v es)))],[i],0⟩:=by
 refine⟨?_,rfl,rfl⟩;show nh P m t (opd env x).core (opd env y).core (opd env z).core=_;simp only[nh,hk,hx,hm,ht,hz]
end
theorem mq{α:Type}{f:α->D}:∀ {l:List α} {k:Nat} {x:α},l[k]? =some x->(l.map f).drop k=f x::(l.drop (k+1)).map f
 |[],k,x,h=>by simp at h
 |a::l,0,x,h=>by simp at h;subst h;rfl
 |a::l,k+1,x,h=>by simpa using mq (f:=f) (l:=l) (k:=k) (by simpa using h)
theorem Pb{α:Type}{f:α->List D}{sz:Nat}(hs:∀ x,(f x).length=sz):∀ {l:List α} {k:Nat} {x:α},l[k]? =some x->(l.flatMap f).drop (k*sz)=f x++(l.drop (k+1)).flatMap f
 |[],k,x,h=>by simp at h
 |a::l,0,x,h=>by simp at h;subst h;simp
 |a::l,k+1,x,h=>by
  have h1:(k+1)*sz=(f a).length+k*sz:=by rw[hs];rw[Nat.add_mul];omega
  simp only[List.flatMap_cons,h1,List.drop_append,List.drop_succ_cons];rw[List.drop_of_length_le oG];have:(f a).length+k*sz - (f a).length=k*sz:=by omega
  rw[this];simpa using Pb hs (l:=l) (k:=k) (by simpa using h)
theorem Oo{α:Type}{f:α->List D}{sz:Nat}(hs:∀ x,(f x).length=sz):∀ (l:List α),(l.flatMap f).length=l.length*sz
 |[]=>by simp
 |a::l=>by simp only[List.flatMap_cons,List.length_append,hs,Oo hs l,List.length_cons,Nat.add_mul];omega
section
variable{P:Program}{env:Env}{m:Mem}{nx:Nat}{t e:TypeId}{x y:Operand}{k:IntKind}
theorem R7{α:Type}{f:α->D}{l:List α}{i n:Nat}{z:α}(hx:(opd env x).core=.sl (l.map f) n)(hy:(opd env y).core=.s (.int k i))(he:av P t=e)(hs:P.cellsOf e=1)(hz:l[i]? =some z):
 Ef P (.indexAddr t x y) env m nx ⟨bm P t=true/\0<=(i:Int)/\(i:Int)<n/\((i:Int).toNat+1)*1<=(l.map f).length,.pt (f z::(l.drop (i+1)).map f),[],[],0⟩:=
 Le hx hy he hs (by rw[dX,Nat.mul_one];exact mq hz)
theorem R8{α:Type}{f:α->D}{l:List α}{i:Nat}{z:α}(ht:bm P t=true)(hz:l[i]? =some z):bm P t=true/\0<=(i:Int)/\(i:Int)<l.length/\((i:Int).toNat+1)*1<=(l.map f).length:=by
 have:=(bZ.1 hz).1;exact⟨ht,oG,oG,by simp;omega⟩
theorem vO{α:Type}{f:α->List D}{sz:Nat}{l:List α}{i n:Nat}{z:α}(hx:(opd env x).core=.sl (l.flatMap f) n)(hy:(opd env y).core=.s (.int k i))(he:av P t=e)(hs:P.cellsOf e=sz)(hl:∀ x,(f x).length=sz)(hz:l[i]? =some z):
 Ef P (.indexAddr t x y) env m nx ⟨bm P t=true/\0<=(i:Int)/\(i:Int)<n/\((i:Int).toNat+1)*sz<=(l.flatMap f).length,.pt (f z++(l.drop (i+1)).flatMap f),[],[],0⟩:=
 Le hx hy he hs (by rw[dX];exact Pb hl hz)
theorem vP{α:Type}{f:α->List D}{sz:Nat}{l:List α}{i:Nat}{z:α}(ht:bm P t=true)(hl:∀ x,(f x).length=sz)(hz:l[i]? =some z):bm P t=true/\0<=(i:Int)/\(i:Int)<l.length/\((i:Int).toNat+1)*sz<=(l.flatMap f).length:=by
 have:=(bZ.1 hz).1;refine⟨ht,oG,oG,?_⟩;rw[Oo hl,dX];exact Nat.mul_le_mul_right _ this
theorem uc{v:D}{cs:List D}(ht:aG P t=true)(hc:P.cellsOf t=1):aG P t=true/\P.cellsOf t<=(v::cs).length:=⟨ht,by rw[hc];simp⟩
theorem eK{v:D}{cs cs':List D}{off:Nat}(ht:aG P t=true)(hc:P.cellsOf t=1)(hd:cs.drop off=v::cs'):aG P t=true/\off+P.cellsOf t<=cs.length:=by
 refine⟨ht,?_⟩;have:(cs.drop off).length=cs'.length+1:=by rw[hd];rfl
 rw[List.length_drop] at this;omega
theorem ko{n:Nat}{cs:List D}(ht:aG P t=true)(hc:P.cellsOf t=n)(hl:n<=cs.length):aG P t=true/\P.cellsOf t<=cs.length:=⟨ht,by rw[hc];exact hl⟩
theorem dQ{n off:Nat}{cs:List D}(ht:aG P t=true)(hc:P.cellsOf t=n)(hl:off+n<=cs.length):aG P t=true/\off+P.cellsOf t<=cs.length:=⟨ht,by rw[hc];exact hl⟩
theorem iT{n:Nat}(hc:P.cellsOf t=n+1):0<P.cellsOf t:=by omega
theorem eU{n off:Nat}{cs vs:List D}(ht:aG P t=true)(hc:P.cellsOf t=n)(hv:vs.length=n/\off+n<=cs.length)(ho:vs.all D.one=true):aG P t=true/\vs.length=P.cellsOf t/\off+P.cellsOf t<=cs.length/\vs.all D.one=true:=
 ⟨ht,by rw[hc];exact hv.1,by rw[hc];exact hv.2,ho⟩
end
section
variable{P:Program}{K:D->St->Prop}{st:St}
theorem xX(h:K (.bp []) st):lE P [] K .ret st:=h
theorem Gh(h:K (.bp []) st):lE P [] K .normal st:=h
theorem ap{t:Nat}{d:D}(hd:st.env t=d)(h:K d st):lE P [.tmp t] K .ret st:=⟨trivial,by subst hd;exact h⟩
theorem R9{t u:Nat}{d e:D}(hd:st.env t=d)(he:st.env u=e)(h:K (.bp [d,e]) st):lE P [.tmp t,.tmp u] K .ret st:=⟨trivial,trivial,by subst hd;subst he;exact h⟩
theorem mV{a i off n:Nat}{ty e:TypeId}{cs vs:List D}(ha:st.env a=.rp i off)(hm:st.mem i=some (.cells cs e))(hg:bG P ty=true)(hc:P.cellsOf ty=n)(hv:(cs.drop off).take n=vs)(ht:aG P ty=true)(hl:off+n<=cs.length):
 ∃ p,qk P st (.cell a ty)=some (p,.agg vs)/\p:=⟨aG P ty=true/\off+n<=cs.length,by simp only[qk,ha,hm,jo,hg,if_true,hc,hv],ht,hl⟩
theorem mA{a:Nat}{ty:TypeId}{d:D}(hr:∃ p,qk P st (.cell a ty)=some (p,d)/\p)(h:K d st):lE P [.cell a ty] K .ret st:=by
 obtain⟨p,h1,h2⟩:=hr;simp only[lE,pr,h1];exact⟨h2,h⟩
theorem Xe{a t:Nat}{ty:TypeId}{d e:D}(hr:∃ p,qk P st (.cell a ty)=some (p,d)/\p)(he:st.env t=e)(h:K (.bp [d,e]) st):lE P [.cell a ty,.tmp t] K .ret st:=by
 obtain⟨p,h1,h2⟩:=hr;simp only[lE,pr,h1];exact⟨h2,trivial,by subst he;exact h⟩
end
section
variable{P:Program}{Y:gd}{rf:Bool}{Q:Exit->St->Prop}{st:St}
theorem aq{l:List (Nat×D)}{env:Env}{m:Mem}{nx:Nat}(h:n8 l env):aR P ⟨env,m,nx⟩ ⟨aH l,m,nx⟩:=.forget env _ m nx (p6 h)
def L7(P:Program):List (Nat×List D×TypeId)->Mem->Prop
 |[],_=>True
 |(i,cs,e)::fs,m=>m i=some (.cells cs e)/\L7 P fs (fun j=>if j=i then none else(m j).map (Row.sub (dG i cs (P.cellsOf e))))
def rN(P:Program):List (Nat×List D×TypeId)->D->D
 |[],d=>d
 |(i,cs,e)::fs,d=>rN P fs (sub (dG i cs (P.cellsOf e)) d)
theorem Pc:∀ {fs:List (Nat×List D×TypeId)} {env:Env} {m:Mem} {nx:Nat},L7 P fs m->∃ m',aR P ⟨env,m,nx⟩ ⟨fun t=>rN P fs (env t),m',nx⟩
 |[],env,m,nx,_=>⟨m,.refl _⟩
 |(i,cs,e)::fs,env,m,nx,⟨h1,h2⟩=>by
  obtain⟨m',h⟩:=Pc (env:=fun t=>sub (dG i cs (P.cellsOf e)) (env t)) (nx:=nx) h2;exact⟨m',(aR.freeze env m nx i cs e h1).trans h⟩
theorem cr{env:Env}{m:Mem}{nx:Nat}(fs:List (Nat×List D×TypeId))(hf:L7 P fs m){l:List (Nat×D)}(hl:n8 l fun t=>rN P fs (env t)):aR P ⟨env,m,nx⟩ ⟨aH l,fun _=>none,nx⟩:=by
 obtain⟨m',h⟩:=Pc (env:=env) (nx:=nx) hf;exact h.trans ((aR.forget _ _ _ _ (p6 hl)).trans (aR.drop _ _ _ _ fun _=>.inr rfl))
def nq(iQ id:Nat)(next:St->Prop)(Q:Exit->St->Prop):Exit->St->Prop
 | .normal,s=>next s
 | .exit i,s=>if i=iQ then next s else if i=id then Q .normal s else Q (.exit i) s
 |e,s=>Q e s
def AQ(P:Program){α:Type}(S:α->St)(J:α->Prop)(μ:α->Nat)(x:α)(s:St):Prop:=∃ C,aR P s (S C)/\J C/\μ C<μ x
theorem bD{α:Type}{S:α->St}{J:α->Prop}{μ:α->Nat}{x:α}{s:St}(C:α)(hg:aR P s (S C))(M:J C)(O:μ C<μ x):AQ P S J μ x s:=⟨C,hg,M,O⟩
theorem FD[eB Y]{b:Code}{α:Type}(S:α->St)(J:α->Prop)(μ:α->Nat)(C:α)(hg:aR P st (S C))(U:J C)(h:∀ x,J x->AW P Y rf b (gE (AQ P S J μ x) Q) (S x)){a:Code}(ha:∀ st,Q .normal st->Q .normal st):
 ∃ st',aR P st st'/\AW P Y rf (.loop b) Q st':=
 ⟨S C,hg,aa6 S J μ C rfl U fun x hx=>tT b (fun e st' hq=>by
  cases e with
  |normal=>
   obtain⟨M,h1,h2,O⟩:=hq;exact⟨S M,M,h1,rfl,h2,O⟩
  |_=>exact hq) (h x hx)⟩
variable{id iQ t i1 i2 i3 i4:Nat}{rc ri:Array Oper}{body rest:Code}{α:Type}
theorem JW[eB Y]{ri:Array Oper}{next:St->Prop}{s:St}(h:AW P Y rf body (nq iQ id (fun s=>aw P Y ri false [] (gF next) ri.toList s []) Q) s):
 AW P Y rf (.seq (.block iQ body) (.region i3 ri false)) (gE next (hZ id Q)) s:=by
 refine tT body (fun e s h=>?_) h;have hr:∀ s,aw P Y ri false [] (gF next) ri.toList s []->∃ s',aR P s s'/\AW P Y rf (.region i3 ri false) (gE next (hZ id Q)) s':=fun s h=>⟨s,.refl s,se (rf:=rf) (id:=i3) (aw.l0 h fun _ h=>h)⟩
 cases e with
 |normal=>exact hr s h
 |exit i=>
  simp only[nq] at h;simp only[hZ];split at h
  .rename_i hi;rw[if_pos hi];exact hr s h
  .rename_i hi;rw[if_neg hi];simp only[gE,hZ];exact h
 |_=>exact h
theorem iK[eB Y](S:α->St)(J:α->Prop)(μ:α->Nat)(C:α)(hg:aR P st (S C))(O:J C)
 (h:∀ x,J x->aw P Y rc false [] (gF fun s=>∃ g,opd s.env (.tmp t)=.s (.bool g)/\(g=true->AW P Y rf body (nq iQ id (fun s=>aw P Y ri false [] (gF (AQ P S J μ x)) ri.toList s []) Q) s)/\(g=false->Q .normal s)) rc.toList (S x) []):
 ∃ st',aR P st st'/\AW P Y rf (.block id (.loop (.seq (.region i1 rc false) (.seq (.cond (.tmp t) .skip (.exit id)) (.seq (.block iQ body) (.region i3 ri false)))))) Q st':=by
 refine FD (Q:=hZ id Q) S J μ C hg O (fun x hx=>?_) (a:=.skip) fun _ h=>h;refine se (rf:=rf) (id:=i1) (aw.l0 (h x hx) fun s hs=>?_);obtain⟨g,h1,h2,M⟩:=hs;refine⟨s,.refl s,dI h1 (fun U=>?_) fun X=>?_⟩
 .exact dL (JW (h2 U))
 .refine sd ?_;simp only[gE,hZ,if_true];exact M X
theorem eX[eB Y](S:α->St)(J:α->Prop)(μ:α->Nat)(C:α)(hg:aR P st (S C))(O:J C)
 (h:∀ x,J x->aw P Y rc false [] (gF fun s=>∃ g,opd s.env (.tmp t)=.s (.bool g)/\(g=true->AW P Y rf body (nq iQ id (fun s=>aw P Y ri false [] (gF (AQ P S J μ x)) ri.toList s []) Q) s)/\(g=false->Q .normal s)) rc.toList (S x) []):
 ∃ st',aR P st st'/\AW P Y rf (.block id (.loop (.seq (.seq (.region i1 rc false) (.cond (.tmp t) .skip (.exit id))) (.seq (.block iQ body) (.region i3 ri false))))) Q st':=by
 refine FD (Q:=hZ id Q) S J μ C hg O (fun x hx=>?_) (a:=.skip) fun _ h=>h;refine aV (se (rf:=rf) (id:=i1) (aw.l0 (h x hx) fun s hs=>?_));obtain⟨g,h1,h2,M⟩:=hs;refine⟨s,.refl s,dI h1 (fun U=>?_) fun X=>?_⟩
 .exact dL (JW (h2 U))
 .refine sd ?_;simp only[gE,hZ,if_true];exact M X
theorem Zx[eB Y]{next:St->Prop}{s:St}(h:AW P Y rf body (nq iQ id next Q) s):AW P Y rf (.block iQ body) (gE next (hZ id Q)) s:=by
 refine tT body (fun e s h=>?_) h;cases e with
 |exit i=>
  simp only[nq] at h;simp only[hZ];split at h
  .rename_i hi;rw[if_pos hi];exact h
  .rename_i hi;rw[if_neg hi];simp only[gE,hZ];exact h
 |_=>exact h
theorem JX[eB Y](S:α->St)(J:α->Prop)(μ:α->Nat)(C:α)(hg:aR P st (S C))(O:J C)
 (h:∀ x,J x->aw P Y rc false [] (gF fun s=>∃ g,opd s.env (.tmp t)=.s (.bool g)/\(g=true->AW P Y rf body (nq iQ id (AQ P S J μ x) Q) s)/\(g=false->Q .normal s)) rc.toList (S x) []):
 ∃ st',aR P st st'/\AW P Y rf (.block id (.loop (.seq (.seq (.region i1 rc false) (.cond (.tmp t) .skip (.exit id))) (.block iQ body)))) Q st':=by
 refine FD (Q:=hZ id Q) S J μ C hg O (fun x hx=>?_) (a:=.skip) fun _ h=>h;refine aV (se (rf:=rf) (id:=i1) (aw.l0 (h x hx) fun s hs=>?_));obtain⟨g,h1,h2,M⟩:=hs;refine⟨s,.refl s,dI h1 (fun U=>?_) fun X=>?_⟩
 .exact dL (Zx (h2 U))
 .refine sd ?_;simp only[gE,hZ,if_true];exact M X
theorem eC{s:St}(h:Q .normal s):AW P Y rf .skip Q s:=h
theorem bh{s:St}(h:Q .ret s):AW P Y rf .ret Q s:=h
theorem dp{next:St->Prop}{s:St}(h:Q .ret s):nq iQ id next Q .ret s:=h
theorem aY{K:St->Prop}{s:St}(h:Q .ret s):gE K Q .ret s:=h
theorem bR{s:St}(h:Q .ret s):hZ id Q .ret s:=h
theorem JY{s:St}(h:Q .ret s):Ko Q .ret s:=h
theorem Ay{next:St->Prop}{s:St}(h:next s):nq iQ id next Q (.exit iQ) s:=by simp only[nq,if_true];exact h
theorem ac4{i:Nat}{next:St->Prop}{s:St}(h2:i≠iQ)(h1:i≠id)(h:Q (.exit i) s):nq iQ id next Q (.exit i) s:=by simp only[nq,if_neg h2,if_neg h1];exact h
theorem mW[eB Y]{a:Code}(h:AW P Y rf a (hZ id (gE (fun st=>AW P Y rf rest Q st) Q)) st):AW P Y rf (.seq (.block id a) rest) Q st:=Tg (fun st=>AW P Y rf rest Q st) (qN h) fun _ h=>h
theorem mB{s:St}(h:AW P Y rf rest Q s):AW P Y rf .skip (hZ id (gE (fun st=>AW P Y rf rest Q st) Q)) s:=h
theorem R'[eB Y]{a:Code}(h:AW P Y rf a (gE (fun st=>AW P Y rf rest Q st) Q) st):AW P Y rf (.seq a rest) Q st:=Tg _ h fun _ h=>h
theorem ln[eB Y]{r:Array Oper}{i:Nat}{J:St->Prop}(h:aw P Y r false [] (gF J) r.toList st []):AW P Y rf (.region i r false) (gE J Q) st:=se (rf:=rf) (id:=i) (aw.l0 h fun _ h=>h)
theorem nY[eB Y]{r:Array Oper}{i:Nat}{J:St->Prop}(h:aw P Y r false [] (gF J) r.toList st []):AW P Y rf (.region i r false) (hZ id (gE J Q)) st:=se (rf:=rf) (id:=i) (aw.l0 h fun _ h=>h)
theorem bq{J:St->Prop}(h:J st):AW P Y rf .skip (gE J Q) st:=h
theorem Jp{J:St->Prop}(h:J st):AW P Y rf .skip (hZ id (gE J Q)) st:=h
theorem dA[eB Y]{a:Code}(R:St->Prop)(h:∃ st',aR P st st'/\AW P Y rf a (gE R Q) st')(k:∀ s,R s->∃ s',aR P s s'/\AW P Y rf rest Q s'):∃ st',aR P st st'/\AW P Y rf (.seq a rest) Q st':=by
 obtain⟨st',hg,h⟩:=h;exact⟨st',hg,fO R h k⟩
end
def Real(d:D):Prop:=∃ F β w v,R F β w d v
theorem Real.sl{es:List D}{n:Nat}(h:Real (.sl es n)):n<=maxLen/\∀ d∈es,Real d:=by
 obtain⟨F,β,w,v,h⟩:=h;cases h with
 |iz=>simp[maxLen]
 |sl _ _ b o cap us hf hb aj ow dt hc hh=>
  refine⟨Nat.le_trans ow dt,fun d hd=>?_⟩;obtain⟨k,hk⟩:=dY hd;exact⟨F,β,w,_,hh k d hk⟩
theorem Real.agg{cs:List D}(h:Real (.agg cs)):∀ d∈cs,Real d:=by
 obtain⟨F,β,w,v,h⟩:=h;obtain⟨vs,rfl,hl,hh⟩:=h.qM;intro d hd;obtain⟨k,hk⟩:=dY hd;have:k<vs.length:=by rw[hl];exact(bZ.1 hk).1
 exact⟨F,β,w,_,hh k d vs[k] hk (by simp[this])⟩
theorem aa7{F:Nat->Prop}{β:az}{w:World}{args:List D}{vs:Array Value}(h:Rs F β w args vs):∀ a∈args,Real a:=fun a ha=>by
 obtain⟨k,hk⟩:=dY ha;have:k<vs.size:=by rw[h.1];exact(bZ.1 hk).1
 exact⟨F,β,w,vs[k],h.2 k a _ hk (by simp[this])⟩
theorem qH{P:Program}{f:FuncId}{args:List D}{r:D}(he:lf P f=true)(ht:∀ a∈args,Tr a)(h:(∀ a∈args,Real a)->ax P f args r):ax P f args r:=
 ⟨he,ht,fun F w vs C hR=>(h (aa7 hR)).2.2 F w vs C hR⟩
section
variable{P:Program}{m:Mem}{bx:List Nat}
theorem c9{a:D}(h:Tr a):Sn P bx m a a:=fun _ _ _ _ _ hv=>h.Lg hv
theorem Lw{i off n:Nat}{cs es:List D}{e:TypeId}(hm:m i=some (.cells cs e))(hi:i∈bx)(J:(cs.drop off).take (n*P.cellsOf e)=es)(ht:∀ a∈es,Tr a):Sn P bx m (.rs i off n) (.sl es n):=fun F β w v hl hv=>by
 subst J;obtain⟨p,hp,hr,U⟩:=hl i hi _ hm;cases hv with
 |lG _ _ _ _ h1 _=>rw[h1] at hp;cases hp;cases hr
 |jR _ a h1=>
  rw[h1] at hp;cases hp;cases hr;simp only[List.drop_nil,List.take_nil];exact .iz a 0
 |kX _ _ a b o len room sz h1=>
  simp only[Nat.zero_mul,List.take_zero];exact .iz a 0
 |rs _ _ _ cap b o len room sz h1 hn dt h2 X=>
  rw[h1] at hp;cases hp
  have aj:b<w.heap.size:=by
   cases hr with
   |cells _ _ _ _ _ _ c hb _ _ _ _=>exact(Array.getElem?_eq_some_iff.1 hb).1
  obtain⟨C,hl,bK,_⟩:=hr.rd;obtain⟨us,M,O⟩:=(C.drop off).take (n*P.cellsOf e);exact .sl _ n b (o+off) cap us (U b rfl) (fun k q hq=>by cases hq) aj hn dt M fun k d hk=>(ht d (cX hk)).Lg (O k d hk)
variable{Y:gd}{rf:Bool}{ops:Array Oper}{dr:Bool}{cf:List (Nat×Nat)}{Q:Exit->St->Prop}{rest:List Oper}{env:Env}{nx:Nat}{tr:ma}{t:Nat}{op:Op}{ty:TypeId}{pos:String}{after:Array Edge}
 {pre:Prop} {v:D} {rd:List Nat}
theorem aco{j:Nat}{b:Bool}{u:Nat}{row:Row}(hj:(ops[j]?).bind (·.dst)=some u)(hg:ku (env u) b=some true)(he:Ef P op env m nx ⟨pre,v,[(nx,some row)],rd,1⟩)(ha:iY env op.operands.toList)(hp:pre)
 (K:aw P Y ops dr cf Q rest ⟨up env t v,up m nx (some row),nx+1⟩ (tr++[(rd,[nx])])):aw P Y ops dr cf Q (⟨some t,op,ty,pos,after,some (j,b)⟩::rest) ⟨env,m,nx⟩ tr:=
 adr hj hg he ha hp (fun h=>by cases h) K
theorem vS{j:Nat}{b:Bool}{u:Nat}{f:FuncId}{args C:List D}{r:D}{bx:List Nat}(h:ax P f C r)(hs:r.jK=true)(hj:(ops[j]?).bind (·.dst)=some u)(hg:ku (env u) b=some true)(hc:dx (bC env op) op=some (f,args))(J:nH P bx m args C)(ha:iY env op.operands.toList)
 (K:aw P Y ops dr cf Q rest ⟨up env t r,m,nx⟩ (tr++[(bx,[])])):aw P Y ops dr cf Q (⟨some t,op,ty,pos,after,some (j,b)⟩::rest) ⟨env,m,nx⟩ tr:=
 Z1 hj hg hc ha (.inr (.inl ⟨C,bx,r,J,h,hs,K⟩))
end
section
variable{P:Program}{Y:gd}{rf:Bool}{ops:Array Oper}{dr:Bool}{cf:List (Nat×Nat)}{Q:Exit->St->Prop}{rest:List Oper}{env:Env}{m:Mem}{nx:Nat}{tr:ma}{t:Nat}{ty:TypeId}{pos:String}{after:Array Edge}
theorem Yu{j:Nat}{b0 C:Bool}{u:Nat}(hj:(ops[j]?).bind (·.dst)=some u)(hg:ku (env u) b0=some C){c a b:Operand}{x:Bool}(hc:(opd env c).core=.s (.bool true))(ha:(opd env a).core=.s (.bool x))
 (h0:C=true->(opd env c).ask) (h1:C=true->(opd env a).ask) (K:aw P Y ops dr cf Q rest ⟨up env t (.cG C (.s (.bool x))),m,nx⟩ (tr++[([],[])])):
 aw P Y ops dr cf Q (⟨some t,.pick c a b,ty,pos,after,some (j,b0)⟩::rest) ⟨env,m,nx⟩ tr:=by
 have he:=Am (P:=P) (env:=env) (m:=m) (nx:=nx) (a:=a) (b:=b) hc;simp only[ha,D.fA,Option.getD_some,if_true] at he;simp only[aw];refine .inl ?_;simp only[jU];rw[hj];simp only[Option.bind_some];rw[hg,he.nc,he.ny,he.ok];exact⟨fun hc=>⟨by simp only[asks];exact h0 hc,fun _=>⟨h1 hc,rfl⟩,fun h=>by cases h⟩,K⟩
theorem Yv{j:Nat}{b0 C:Bool}{u:Nat}(hj:(ops[j]?).bind (·.dst)=some u)(hg:ku (env u) b0=some C){c a b:Operand}{y:Bool}(hc:(opd env c).core=.s (.bool false))(hb:(opd env b).core=.s (.bool y))
 (h0:C=true->(opd env c).ask) (h1:C=true->(opd env b).ask) (K:aw P Y ops dr cf Q rest ⟨up env t (.cG C (.s (.bool y))),m,nx⟩ (tr++[([],[])])):
 aw P Y ops dr cf Q (⟨some t,.pick c a b,ty,pos,after,some (j,b0)⟩::rest) ⟨env,m,nx⟩ tr:=by
 have he:=Am (P:=P) (env:=env) (m:=m) (nx:=nx) (a:=a) (b:=b) hc;simp only[hb,D.fA,Option.getD_some,Bool.false_eq_true,if_false] at he;simp only[aw];refine .inl ?_;simp only[jU];rw[hj];simp only[Option.bind_some];rw[hg,he.nc,he.ny,he.ok];exact⟨fun hc=>⟨by simp only[asks];exact h0 hc,fun h=>oH,fun _=>⟨h1 hc,rfl⟩⟩,K⟩
variable{id:Nat}{st:St}
theorem Qq[eB Y]{i:Nat}{J:St->Prop}(hi:cg ops=some cf)(h:aw P Y ops true cf (gF J) ops.toList st []):AW P Y rf (.region i ops true) (hZ id (gE J Q)) st:=CH (rf:=rf) (id:=i) hi (aw.l0 h fun _ h=>h)
theorem Z2{r:Option Row}{i:Nat}(h:m i=r):∀ j,up (fun _=>none) i r j=m j\/up (fun _=>none) i r j=none:=fun j=>by
 by_cases hj:j=i
 .subst hj;left;rw[au,h]
 .right;rw[bE _ _ hj]
theorem An[eB Y]{i iQ:Nat}{next:St->Prop}(hi:cg ops=some cf)(h:aw P Y ops true cf (gF next) ops.toList st []):AW P Y rf (.region i ops true) (nq iQ id next Q) st:=CH (rf:=rf) (id:=i) hi (aw.l0 h fun _ h=>h)
theorem kp[eB Y]{i iQ:Nat}{next:St->Prop}(h:aw P Y ops false [] (gF next) ops.toList st []):AW P Y rf (.region i ops false) (nq iQ id next Q) st:=se (rf:=rf) (id:=i) (aw.l0 h fun _ h=>h)
def aby:List (Nat×Row)->Mem
 |[],_=>none
 |(i,r)::l,j=>if j=i then some r else aby l j
def CI:List (Nat×Row)->Mem->Prop
 |[],_=>True
 |(i,r)::l,m=>m i=some r/\CI l m
theorem J7:∀ {l:List (Nat×Row)} {m:Mem},CI l m->∀ i,aby l i=m i\/aby l i=none
 |[],_,_,_=>.inr rfl
 |(k,r)::l,m,h,i=>by
  simp only[aby];by_cases hi:i=k
  .subst hi;rw[if_pos rfl];exact .inl h.1.symm
  .rw[if_neg hi];exact J7 h.2 i
theorem bc{l:List (Nat×D)}{ml:List (Nat×Row)}{m:Mem}{nx:Nat}(h:n8 l env)(hm:CI ml m):aR P ⟨env,m,nx⟩ ⟨aH l,aby ml,nx⟩:=(aR.forget env _ m nx (p6 h)).trans (.drop _ _ _ _ (J7 hm))
end
theorem aM{α:Type}{f:Nat->α}{k j:Nat}{v r:α}(h:j≠k)(hf:f j=r):up f k v j=r:=(bE f v h).trans hf
theorem ak3{β:Sort _}{M m:Mem}{i:Nat}{r:Option Row}(h:M=m)(x:β)(k:β->m i=r:=by intro x;repeat (first|exact x|exact rfl|exact au _ _ _|refine aM (by omega) ?_)):M i=r:=h ▸ k x
theorem ak4{β:Sort _}{p:Prop}(x:β)(k:β->p:=by intro x;dsimp only;repeat (first|exact x|exact au _ _ _|refine aM (by omega) ?_)):p:=k x
theorem nt{i off sz:Nat}{cs:List D}:sub (dG i cs sz) (.rp i off)=.pt (cs.drop off):=by simp[sub,rk,dG]
theorem Dc{i off n sz:Nat}{cs:List D}:sub (dG i cs sz) (.rs i off n)=.sl ((cs.drop off).take (n*sz)) n:=by simp[sub,rk,dG]
theorem QF{i j off sz:Nat}{cs:List D}(h:j≠i):sub (dG i cs sz) (.rp j off)=.rp j off:=by simp[sub,rk,dG,h]
theorem Af{i j off n sz:Nat}{cs:List D}(h:j≠i):sub (dG i cs sz) (.rs j off n)=.rs j off n:=by simp[sub,rk,dG,h]
theorem PL{α:Type}{f:α->List D}{sz:Nat}(hs:∀ x,(f x).length=sz):∀ (l:List α) (k:Nat),(l.flatMap f).take (k*sz)=(l.take k).flatMap f
 |[],k=>by simp
 |x::l,0=>by simp
 |x::l,k+1=>by
  rw[List.flatMap_cons,List.take_succ_cons,List.flatMap_cons, <- PL hs l k,show(k+1)*sz=(f x).length+k*sz by rw[hs x,Nat.add_mul];omega,List.take_length_add_append]
theorem abE{α:Type}{f:α->List D}{sz k:Nat}{l:List α}(hs:∀ x,(f x).length=sz)(hk:k<=l.length):
 D.sl (((l.flatMap f).drop ((0:Int).toNat*sz)).take (((k:Int) - 0).toNat*sz)) ((k:Int) - 0).toNat=D.sl ((l.take k).flatMap f) (l.take k).length:=by
 have h1:((k:Int) - 0).toNat=k:=by omega
 have h2:(0:Int).toNat*sz=0:=by simp
 rw[h1,h2,List.drop_zero,PL hs,List.length_take,Nat.min_eq_left hk]
section
variable{P:Program}{env:Env}{m:Mem}{nx:Nat}{x y z:Operand}{t:TypeId}{v:D}
theorem Z7{i:Nat}{es:List (Value×D)}{key:Value}{kt:TypeId}(hx:(opd env x).core=.mp i)(hm:m i=some (.map es))(hk:nD (opd env y).core=some key)(hz:(opd env z).core=v)(ht:gC P t=kt):
 Ef P (.insert t x y z) env m nx ⟨jv P t=true/\dD P kt key=true/\es.all (fun e=>dD P kt e.1)=true,.bp [],[(i,some (.map (lY key v es)))],[i],0⟩:=by
 refine⟨?_,rfl,rfl⟩;show nh P m t (opd env x).core (opd env y).core (opd env z).core=_;simp only[nh,hk,hx,hm,ht,hz]
variable{n n':Int}{k:IntKind}{c:Bool}{p:TypeId}{n0:Nat}
theorem KT(hx:(opd env x).core=.s (.int k n))(hy:(opd env y).core=.s (.int k n'))(hd:decide (n'<n)=c):Ef P (.binOp .gtr t x y p) env m nx ⟨k=k,.s (.bool c),[],[],0⟩:=by subst hd;exact La hx hy
theorem KS(hx:(opd env x).core=.s (.int k n))(hy:(opd env y).core=.s (.int k n'))(hd:decide (n<n')=c):Ef P (.binOp .lss t x y p) env m nx ⟨k=k,.s (.bool c),[],[],0⟩:=by subst hd;exact K9 hx hy
theorem acp(hx:(opd env x).core=.s (.int k n))(hy:(opd env y).core=.s (.int k n'))(hd:decide (n<=n')=c):Ef P (.binOp .leq t x y p) env m nx ⟨k=k,.s (.bool c),[],[],0⟩:=by subst hd;exact GJ hx hy
theorem CK(hx:(opd env x).core=.s (.int k n))(hy:(opd env y).core=.s (.int k n'))(hd:(n==n')=c):Ef P (.binOp .eql t x y p) env m nx ⟨k=k,.s (.bool c),[],[],0⟩:=by subst hd;exact GK hx hy
theorem KU(hx:(opd env x).core=.s (.int k n))(hy:(opd env y).core=.s (.int k n'))(hd:(n !=n')=c):Ef P (.binOp .neq t x y p) env m nx ⟨k=k,.s (.bool c),[],[],0⟩:=by subst hd;exact Lc hx hy
theorem SF(hx:(opd env x).core=.s (.int k n))(hy:(opd env y).core=.s (.int k n')){r:Int}(hd:k.wrap (n.tdiv n')=r):Ef P (.binOp .quo t x y p) env m nx ⟨k=k/\n'≠0,.s (.int k r),[],[],0⟩:=by subst hd;exact ab6 hx hy
theorem SG(hx:(opd env x).core=.s (.int k n))(hy:(opd env y).core=.s (.int k n')){r:Int}(hd:n.tmod n'=r):Ef P (.binOp .rem t x y p) env m nx ⟨k=k/\n'≠0,.s (.int k r),[],[],0⟩:=by subst hd;exact acW hx hy
theorem SH(hx:(opd env x).core=.s (.int k n))(hy:(opd env y).core=.s (.int k n'))(hd:decide (n'<=n)=c):Ef P (.binOp .geq t x y p) env m nx ⟨k=k,.s (.bool c),[],[],0⟩:=by subst hd;exact Lb hx hy
theorem abt{j i l:Nat}{e:TypeId}{r:Row}(hx:(opd env x).core=.rp j 0)(hy:(opd env y).core=.s (.int k (i:Int)))(hm:m j=some r)(he:av P t=e)(hs:P.cellsOf e=1)(hl:oz P t=l):
 Ef P (.indexAddr t x y) env m nx ⟨nM P t=true/\i<l,.rp j i,[],[j],0⟩:=by
 have h:=ab7 (P:=P) (env:=env) (m:=m) (nx:=nx) (t:=t) hx hy hm he hs hl;have h1:0+((i:Int)).toNat*1=i:=by simp
 have h2:(nM P t=true/\(0:Int)<=(i:Int)/\(i:Int)<l)=(nM P t=true/\i<l):=by
  apply propext;constructor
  .rintro⟨a,_,b⟩;exact⟨a,oG⟩
  .rintro⟨a,b⟩;exact⟨a,oG,oG⟩
 rw[h1,h2] at h;exact h
theorem ns{l:List D}{n:Nat}(h:l.length=n):(l.drop 0).take n=l:=by rw[List.drop_zero,dO oG]
theorem SN{l:List D}{n:Nat}(h:l.length=n):l.take n=l:=dO oG
theorem J9{z l:List D}(hz:z.length=20)(hl:l.length=20):fj z 0 l=l:=by
 unfold fj;split
 .simp at hl
 .rw[List.take_zero,List.nil_append,List.drop_eq_nil_of_le oG,List.append_nil]
theorem acB{es:List D}(hx:(opd env x).core=.sl es 0):Ef P (.binOp .eql t x (.const (.slice none 0 0)) p) env m nx ⟨bm P t=true,.ub,[],[],0⟩:=⟨by simp only[aQ,bC,hx,kQ,if_true],rfl,rfl⟩
theorem acC{es:List D}{l:Nat}(hx:(opd env x).core=.sl es l)(hl:l≠0):Ef P (.binOp .eql t x (.const (.slice none 0 0)) p) env m nx ⟨bm P t=true,.s (.bool false),[],[],0⟩:=⟨by simp only[aQ,bC,hx,kQ,if_neg hl],rfl,rfl⟩
theorem kN{i off n sz:Nat}{cs es:List D}{e:TypeId}(hs:P.cellsOf e=sz)(h:(cs.drop off).take (n*sz)=es):rN P [(i,cs,e)] (.rs i off n)=.sl es n:=by subst hs h;exact Dc
theorem xF(h:env n0=.z):aR P ⟨env,m,nx⟩ ⟨aH [(n0,.sl [] 0)],fun _=>none,nx+1⟩:=by
 have h1:=aR.CB (P:=P) env m nx n0 0 h;have h2:=cr (P:=P) (env:=up env n0 (.rs nx 0 0)) (m:=up m nx (some (.cells [] 0))) (nx:=nx+1) [(nx,[],0)] ⟨au _ _ _,trivial⟩ (l:=[(n0,.sl [] 0)]) ⟨(congrArg _ (au _ _ _)).trans (kN (sz:=P.cellsOf 0) rfl oS),trivial⟩;exact h1.trans h2
theorem mO{bx:List Nat}:Sn P bx m .z (.sl [] 0):=fun F β w v _ hv=>by
 obtain⟨x,rfl⟩:=hv.AE;exact .iz x 0
theorem acz{bx:List Nat}{aS bs:List D}(h:nH P bx m aS bs):Sn P bx m (.agg aS) (.agg bs):=fun F β w v hl hv=>by
 obtain⟨vs,rfl,hn,hh⟩:=hv.qM;obtain⟨h1,h2⟩:=K2 hl h;refine .agg _ vs oG fun k d u hd hu=>?_;have hk:k<aS.length:=by rw[h1];exact(bZ.1 hd).1
 exact h2 k aS[k] d (by simp[hk]) hd u (hh k aS[k] u (by simp[hk]) hu)
theorem QB{l:List (Nat×D)}{m':Mem}(h:n8 l env)(hm:∀ i,m' i=m i\/m' i=none):aR P ⟨env,m,nx⟩ ⟨aH l,m',nx⟩:=(aR.forget env _ m nx (p6 h)).trans (.drop _ _ _ _ hm)
def MW:List (Nat×List (Value×D))->Mem->Prop
 |[],_=>True
 |(i,es)::fs,m=>m i=some (.map es)/\MW fs (fun j=>if j=i then none else(m j).map (Row.sub (yZ i es)))
def N7:List (Nat×List (Value×D))->D->D
 |[],d=>d
 |(i,es)::fs,d=>N7 fs (sub (yZ i es) d)
theorem PM:∀ {fs:List (Nat×List (Value×D))} {env:Env} {m:Mem} {nx:Nat},MW fs m->∃ m',aR P ⟨env,m,nx⟩ ⟨fun t=>N7 fs (env t),m',nx⟩
 |[],env,m,nx,_=>⟨m,.refl _⟩
 |(i,es)::fs,env,m,nx,⟨h1,h2⟩=>by
  obtain⟨m',h⟩:=PM (env:=fun t=>sub (yZ i es) (env t)) (nx:=nx) h2;exact⟨m',(aR.QV env m nx i es h1).trans h⟩
theorem aal(fs:List (Nat×List (Value×D)))(hf:MW fs m){l:List (Nat×D)}(hl:n8 l fun t=>N7 fs (env t)):aR P ⟨env,m,nx⟩ ⟨aH l,fun _=>none,nx⟩:=by
 obtain⟨m',h⟩:=PM (P:=P) (env:=env) (nx:=nx) hf;exact h.trans ((aR.forget _ _ _ _ (p6 hl)).trans (aR.drop _ _ _ _ fun _=>.inr rfl))
end
end Go.Abs
namespace Go.Argus
open Go.Abs
abbrev I(n:Int):D:=.s (.int .i64 n)
abbrev U8(n:Int):D:=.s (.int .u8 n)
abbrev B(b:Bool):D:=.s (.bool b)
abbrev S(s:ByteArray):D:=.s (.string s)
abbrev aX(l:List Int):D:=.sl (l.map I) l.length
abbrev mY(l:List Int):D:=.sl (l.map U8) l.length
abbrev qO(l:List ByteArray):D:=.sl (l.map S) l.length
structure bS where
 op:Int
 to:Int
 a:Int
 b:Int
 n:Int
 args:List Int
structure kC where
 name:ByteArray
 to:Int
structure End where
 kind:Int
 a:Int
 b:Int
 to:Int
 gP:Int
 name:ByteArray
 ins:bS
 args:List Int
 aJ:List kC
 others:Int
structure cE where
 ins:List bS
 fin:End
structure bd where
 name:ByteArray
 iter:Bool
 args:Int
 result:Int
 ag:List Int
 aU:List Int
 signals:List ByteArray
 blocks:List cE
def bF(x:bS):List D:=[U8 x.op,I x.to,I x.a,I x.b,I x.n,aX x.args]
def lg(w:kC):List D:=[S w.name,I w.to]
def pX(l:List kC):D:=.sl (l.flatMap lg) l.length
def iL(l:List bS):D:=.sl (l.flatMap bF) l.length
def bA(x:End):List D:=[U8 x.kind,I x.a,I x.b,I x.to,I x.gP,S x.name,U8 x.ins.op,I x.ins.to,I x.ins.a,I x.ins.b,I x.ins.n,aX x.ins.args,aX x.args,pX x.aJ,I x.others]
def gR(b:cE):List D:=iL b.ins::bA b.fin
def gl(l:List cE):D:=.sl (l.flatMap gR) l.length
def a6(f:bd):List D:=[S f.name,B f.iter,I f.args,U8 f.result,mY f.ag,mY f.aU,qO f.signals,gl f.blocks]
def bu(p q:D)(f:bd):List D:=[S f.name,B f.iter,I f.args,U8 f.result,mY f.ag,mY f.aU,qO f.signals,gl f.blocks,p,q]
@[simp] theorem akp (p q : D) (x : bd) : (bu p q x).length = 10 := rfl
@[simp] theorem akt (x : bS) : (bF x).length = 6 := rfl
@[simp] theorem akq (x : kC) : (lg x).length = 2 := rfl
@[simp] theorem aku (x : End) : (bA x).length = 15 := rfl
@[simp] theorem akn (x : cE) : (gR x).length = 16 := rfl
@[simp] theorem akr (x : bd) : (a6 x).length = 8 := rfl
theorem E3(x:bS):(bF x).length=6:=rfl
theorem B9(x:kC):(lg x).length=2:=rfl
theorem zW(x:cE):(gR x).length=16:=rfl
theorem ajm(x:bd):(a6 x).length=8:=rfl
def s8{α:Type}(p:α->Bool)(l:List α):Int:=match l.findIdx? p with
 |some i=>i
 |none=> -1
theorem E8{α:Type}{p:α->Bool}{l:List α}{k:Nat}{x:α}(hx:l[k]? =some x)(hp:p x=true)(h:∀ j y,j<k->l[j]? =some y->p y=false):s8 p l=k:=by
 have:l.findIdx? p=some k:=by
  rw[List.findIdx?_eq_some_iff_getElem];obtain⟨hk,he⟩:=bZ.1 hx;refine⟨hk,by rw[he];exact hp,fun j hj=>?_⟩;have:=h j l[j] hj (by simp[show j<l.length by omega]);simp[this]
 simp[s8,this]
theorem E'{α:Type}{p:α->Bool}{l:List α}(h:∀ (j:Nat) y,l[j]? =some y->p y=false):s8 p l= -1:=by
 have:l.findIdx? p=none:=by
  rw[List.findIdx?_eq_none_iff];intro x hx;obtain⟨j,hj⟩:=dY hx;exact h j x hj
 simp[s8,this]
theorem Fq{α:Type}(p:α->Bool)(l:List α):decide (0<=s8 p l)=l.any p:=by
 unfold s8;cases h:l.findIdx? p with
 |none=>
  rw[List.findIdx?_eq_none_iff] at h;have:l.any p=false:=List.any_eq_false.2 fun x hx=>by simp[h x hx]
  simp[this]
 |some i=>
  obtain⟨hi,hp,_⟩:=List.findIdx?_eq_some_iff_getElem.1 h;have:l.any p=true:=List.any_eq_true.2 ⟨l[i],oS,hp⟩;simp[this]
theorem ew(l:List Int):Tr (aX l):=.sl (.map fun _=>.s _)
theorem si(l:List Int):Tr (mY l):=.sl (.map fun _=>.s _)
theorem xP(l:List ByteArray):Tr (qO l):=.sl (.map fun _=>.s _)
theorem qP(x:bS):∀ a∈bF x,Tr a:=.cons (.s _) (.cons (.s _) (.cons (.s _) (.cons (.s _) (.cons (.s _) (.cons (ew _) .nil)))))
theorem Ft(x:kC):∀ a∈lg x,Tr a:=.cons (.s _) (.cons (.s _) .nil)
theorem j9(l:List kC):Tr (pX l):=.sl (.flat Ft)
theorem abL(l:List bS):Tr (iL l):=.sl (.flat qP)
theorem lP(x:End):∀ a∈bA x,Tr a:=.cons (.s _) (.cons (.s _) (.cons (.s _) (.cons (.s _) (.cons (.s _) (.cons (.s _) (.cons (.s _) (.cons (.s _) (.cons (.s _) (.cons (.s _) (.cons (.s _) (.cons (ew _) (.cons (ew _) (.cons (j9 _) (.cons (.s _) .nil))))))))))))))
theorem Py(x:cE):∀ a∈gR x,Tr a:=.cons (abL _) (lP _)
theorem Jk(l:List cE):Tr (gl l):=.sl (.flat Py)
theorem oY(x:bd):∀ a∈a6 x,Tr a:=.cons (.s _) (.cons (.s _) (.cons (.s _) (.cons (.s _) (.cons (si _) (.cons (si _) (.cons (xP _) (.cons (Jk _) .nil)))))))
theorem Ck{p q:D}(hp:Tr p)(hq:Tr q)(x:bd):∀ a∈bu p q x,Tr a:=.cons (.s _) (.cons (.s _) (.cons (.s _) (.cons (.s _) (.cons (si _) (.cons (si _) (.cons (xP _) (.cons (Jk _) (.cons hp (.cons hq .nil)))))))))
theorem my{p q:D}(hp:Tr p)(hq:Tr q)(x:bd):Tr (.agg (bu p q x)):=.agg (Ck hp hq x)
theorem tO{p q:D}{f:bd}(h1:p.one=true)(h2:q.one=true):(bu p q f).all D.one=true:=by
 simp only[bu,List.all_cons,List.all_nil,h1,h2];rfl
abbrev cU(n:Int):D:=.s (.int .u64 n)
abbrev gH(w:List Int):D:=.agg (w.map cU)
theorem oB(w:List Int):(w.map cU).all D.one=true:=b7.2 fun x hx=>by obtain⟨y,_,rfl⟩:=List.mem_map.1 hx;rfl
theorem Z6{w:List Int}{i:Nat}{x:Int}:((w.map cU).set i (cU x)).all D.one=true:=by rw[<- List.map_set];exact oB _
theorem qm(w:List Int):Tr (gH w):=.agg (.map fun _=>.s _)
def pw(a b:Int):Int:=lb .and .u64 a b
def zy(a b:Int):Int:=lb .or .u64 a b
def uu(w:List Int)(m:Nat):List Int:=w.set (m / 64) (zy (w.getD (m / 64) 0) (IntKind.u64.wrap (1*2 ^ (min (m % 64) 64))))
def kD(w:List Int)(m:Nat):Bool:=pw ((w.getD (m / 64) 0).fdiv (2 ^ (min (m % 64) 64))) 1==1
def fW(w:List Int)(n:Int):List Int:=if 0<=n then uu w n.toNat else w
def fk(w v:List Int):Nat->List Int
 |0=>w
 |k+1=>(fk w v k).set k (pw ((fk w v k).getD k 0) (v.getD k 0))
def ia(w v:List Int):List Int:=fk w v 20
@[simp] theorem PN (w v : List Int) : ∀ k, (fk w v k).length = w.length
 |0=>rfl
 |k+1=>by simp[fk,PN w v k]
@[simp] theorem akw (w : List Int) (m : Nat) : (uu w m).length = w.length := by simp [uu]
@[simp] theorem akx (w : List Int) (n : Int) : (fW w n).length = w.length := by unfold fW; split <;> simp
@[simp] theorem PB (w v : List Int) : (ia w v).length = w.length := PN w v 20
theorem wrap_i64{n:Nat}(h:n<2 ^ 62):IntKind.i64.wrap (n:Int)=n:=by
 unfold IntKind.wrap;simp[IntKind.signed,IntKind.bits];omega
theorem TQ{m:Nat}(h:m<2 ^ 62):IntKind.i64.wrap ((m:Int).tdiv 64)=((m / 64:Nat):Int):=by
 rw[show(m:Int).tdiv 64=((m / 64:Nat):Int) from by rw[Int.tdiv_eq_ediv_of_nonneg oG];omega];exact wrap_i64 oG
theorem TR(m:Nat):(m:Int).tmod 64=((m % 64:Nat):Int):=by rw[Int.tmod_eq_emod_of_nonneg oG];omega
theorem ib(a b:Int):(a==b)=decide (a=b):=rfl
def c8(n a b:Int):Bool:=decide (a<=n)&&decide (n<=b)
def sk(b:Int):Bool:=decide (b<33)||decide (126<b)
def lu(s:ByteArray):Bool:=c8 s.size 1 120&& !(cW s).any sk
def sr(b:Int):Bool:=(decide (b<97)||decide (122<b))&&(decide (b<48)||decide (57<b))
def isName(s:ByteArray):Bool:=c8 s.size 1 12&& !(cW s).any sr
def mu(C k:Int):Bool:=decide (k<1)||decide (C<k)
def eV(l:List Int)(C:Int):Bool:= !l.any (mu C)
def cB(l:List Int)(r:Int):Int:=if 0<=r then l.getD r.toNat 0 else 0
theorem ss{l:List Int}{i:Nat}{x:Int}(h:l[i]? =some x):cB l i=x:=by
 simp[cB,eg,h]
theorem Jh{l:List Int}{r:Int}(h:¬ (0<=r/\r<l.length)):cB l r=0:=by
 unfold cB;split
 .rename_i h0;have:l.length<=r.toNat:=by omega
  simp[eg,List.getElem?_eq_none this]
 .rfl
theorem kH{n a b:Int}:c8 n a b=true↔a<=n/\n<=b:=by simp[c8]
theorem YN{n a b:Int}:c8 n a b=false↔¬ (a<=n/\n<=b):=by
 rw[<- Bool.not_eq_true,kH]
def eA(l:List Int)(r:Int):Bool:=cB l r==1||cB l r==2
def gz(l rs:List Int):Bool:=rs.all (eA l)
def lT(l aU:List Int)(r n:Int):Bool:=c8 n 0 (aU.length - 1)&&(cB l r==cB aU n)
def lQ(l:List Int)(r want of:Int):Bool:=
 if want=0 then r==0 else if want=1 then cB l r==1 else if want=2 then cB l r==2 else if want=3 then eA l r
 else cB l r !=0&&cB l r==of
structure Shape where
 to:Int
 a:Int
 b:Int
 args:Int
 low:Int
 high:Int
def jD(s:Shape):List D:=[I s.to,I s.a,I s.b,I s.args,I s.low,I s.high]
@[simp] theorem ako (x : Shape) : (jD x).length = 6 := rfl
theorem PF(x:Shape):∀ a∈jD x,Tr a:=.cons (.s _) (.cons (.s _) (.cons (.s _) (.cons (.s _) (.cons (.s _) (.cons (.s _) .nil)))))
def pZ(l:List Int)(x:bS)(s:Shape):Int:=if s.to=0\/s.to=1 then cB l x.a else cB l x.to
def pU(l:List Int)(x:bS)(s:Shape):Bool:=if s.args=5 then c8 x.args.length 1 6&&gz l x.args else if s.args=6 then decide ((x.args.length:Int)=1)&&gz l x.args else decide ((x.args.length:Int)=0)
def oZ(l:List Int)(x:bS)(s:Shape):Bool:=
 lQ l x.to s.to 0&&(lQ l x.a s.a (pZ l x s)&&(lQ l x.b s.b (pZ l x s)&&(pU l x s&&c8 x.n s.low s.high)))
def qq(l:List (Int×Shape)):List (Value×D):=l.map fun x=>(.int .u8 x.1,.agg (jD x.2))
def xQ:Shape:=⟨0,0,0,0,0,0⟩
def fV(l:List (Int×Shape))(op:Int):Option Shape:=(l.find? fun x=>x.1==op).map (·.2)
def oa:List (Int×Shape):=[(1,⟨1,0,0,0, -1000000000,1000000000⟩),(2,⟨3,4,0,0,0,0⟩),(3,⟨1,1,1,0,0,0⟩),(4,⟨1,1,1,0,0,0⟩),(5,⟨1,3,4,0,0,0⟩),(6,⟨1,1,1,0,0,0⟩),(7,⟨1,1,1,0,0,0⟩),(8,⟨1,1,0,0,0,0⟩),
 (9,⟨2,0,0,0,0,1⟩),(10,⟨2,0,0,5,0,5⟩),(11,⟨3,2,0,0,0,5⟩),(12,⟨0,2,3,0,0,5⟩),(13,⟨1,2,0,0,0,0⟩),(14,⟨1,2,0,0,0,0⟩),(15,⟨0,1,0,0,0,0⟩)]
def jH:List (Int×Shape):=[(30,⟨1,1,1,0,0,0⟩),(31,⟨1,1,1,0,0,0⟩),(32,⟨1,1,1,0,0,0⟩),(33,⟨1,1,1,0,0,0⟩),(34,⟨1,1,1,0,0,0⟩),(35,⟨0,2,3,0,0,0⟩),(36,⟨3,2,0,0,0,0⟩),(37,⟨3,2,1,0,0,0⟩),(38,⟨0,2,1,6,0,0⟩)]
theorem AY(l:List (Int×Shape)):Tr (.im (qq l)):=.im fun x hx=>by
 obtain⟨y,_,rfl⟩:=List.mem_map.1 hx;exact .agg (PF _)
theorem RN(op:Int):∀ l:List (Int×Shape),(gp (.int .u8 op) (qq l)).map (·.2)=(fV l op).map fun s=>.agg (jD s)
 |[]=>rfl
 |(o,s)::l=>by
  have ih:=RN op l;unfold qq at ih ⊢;simp only[List.map_cons,gp,tq,ru,fV,List.find?_cons] at ih ⊢;by_cases h:o=op
  .subst h;simp
  .have hb:(o==op)=false:=by simpa using h
   simp only[hb,beq_self_eq_true,Bool.and_false,Bool.false_eq_true,if_false,Option.map_map] at ih ⊢;exact ih
theorem SR{P:Program}{t:TypeId}{C:D}(hz:qZ P (sW P t)=C)(op:Int)(l:List (Int×Shape))(J:C=.agg (jD xQ)):jN P t true (gp (.int .u8 op) (qq l))=.bp [.agg (jD ((fV l op).getD xQ)),.s (.bool (fV l op).isSome)]:=by
 have h:=RN op l;cases h1:gp (.int .u8 op) (qq l) with
 |none=>
  rw[h1] at h;have:fV l op=none:=by simpa using h.symm
  simp only[jN,this,hz,J,Option.getD_none,Option.isSome_none,if_true]
 |some x=>
  rw[h1] at h;cases h2:fV l op with
  |none=>rw[h2] at h;simp at h
  |some s=>
   rw[h2] at h;obtain⟨i,d⟩:=x;simp only[Option.map_some,aK] at h;subst h;simp[jN]
theorem RG{P:Program}{kt:TypeId}(hk:P.underlying kt=some (.int .u8))(l:List (Int×Shape)):(qq l).all (fun e=>dD P kt e.1)=true:=by
 refine b7.2 fun x hx=>?_;obtain⟨y,_,rfl⟩:=List.mem_map.1 hx;simp[dD,hk]
def aL(a b:Int):Bool:=decide (a=b)
def jI(x:bS):Bool:=decide ((x.args.length:Int)=0)
def jk(f:bd)(b:Int)(x:bS)(phis:Bool)(ahead:Int):Bool:=
 if x.op=16 then aL x.to 0&&(aL (cB f.ag x.a) 3&&(aL x.b 0&&(aL x.n 0&&jI x)))
 else if x.op=17 then aL x.a 0&&(aL x.b 0&&(jI x&&lT f.ag f.aU x.to x.n))
 else if x.op=18 then aL x.to 0&&(aL x.b 0&&(jI x&&lT f.ag f.aU x.a x.n))
 else if x.op=19 then phis&&(decide (0<b)&&(eA f.ag x.to&&(aL x.a 0&&(aL x.b 0&&(aL x.n 0&&(aL x.args.length ahead&& !x.args.any fun r=> !aL (cB f.ag r) (cB f.ag x.to)))))))
 else(fV oa x.op).isSome&&oZ f.ag x ((fV oa x.op).getD xQ)
def CL(x:bS):Bool:=decide (x.op=0)&&(decide (x.to=0)&&(decide (x.a=0)&&(decide (x.b=0)&&(decide (x.n=0)&&decide ((x.args.length:Int)=0)))))
def yA(x:End):Bool:=decide (x.kind=0)&&(decide (x.a=0)&&(decide (x.b=0)&&(decide (x.to=0)&&(decide (x.gP=0)&&(x.name.toList==[]&&(decide (x.others= -1)&&(decide ((x.args.length:Int)=0)&&(decide ((x.aJ.length:Int)=0)&&CL x.ins))))))))
def ct(f:bd)(n:Int):Bool:=c8 n 0 (f.blocks.length - 1)
def oq(f:bd)(aP:List kC)(i:Nat)(w:kC):Bool:=isName w.name&&(ct f w.to&& !(aP.take i).any fun v=>v.name.toList==w.name.toList)
def Gw(f:bd)(aP:List kC):Bool:=aP.zipIdx.all fun x=>oq f aP x.2 x.1
theorem OF{f:bd}{aP:List kC}(h:∀ (i:Nat) w,aP[i]? =some w->oq f aP i w=true):Gw f aP=true:=by
 refine b7.2 fun x hx=>?_;obtain⟨h1,h2⟩:=List.mem_zipIdx' hx;exact h x.2 x.1 (by rw[h2];simp[h1])
theorem Iw{f:bd}{aP:List kC}{i:Nat}{w:kC}(C:aP[i]? =some w)(h:oq f aP i w=false):Gw f aP=false:=by
 refine Bool.eq_false_iff.2 fun ht=>?_;have hx:(w,i)∈aP.zipIdx:=List.mem_zipIdx_iff_getElem?.2 C;have:=b7.1 ht _ hx;rw[h] at this;cases this
def mw(f:bd)(x:End):Bool:=Gw f x.aJ&&(decide ((x.aJ.length:Int)<=7)&&(decide (x.others= -1)||ct f x.others))
def ez:bS:=⟨0,0,0,0,0,[]⟩
def gf(f:bd)(x:End):Bool×End:=
 let r:End:={ x with kind:=0 }
 if x.kind=1 then(ct f x.to,{ r with to:=0 })
 else if x.kind=2 then(aL (cB f.ag x.a) 1&&(ct f x.to&&ct f x.gP),{ r with a:=0,to:=0,gP:=0 })
 else if x.kind=3 then(if f.result≠0/\f.iter=false then aL (cB f.ag x.a) f.result else aL x.a (-1),{ r with a:=0 })
 else if x.kind=4 then(isName x.name,{ r with name:=.empty })
 else if x.kind=5 then((fV jH x.ins.op).isSome&&(oZ f.ag x.ins ((fV jH x.ins.op).getD xQ)&&(ct f x.to&&mw f x)),{ r with ins:=ez,to:=0,aJ:=[],others:= -1 })
 else if x.kind=6 then(lu x.name&&(decide ((x.args.length:Int)<=6)&&(gz f.ag x.args&&((aL x.a (-1)||eA f.ag x.a)&&(ct f x.to&&mw f x)))),{ r with name:=.empty,args:=[],a:=0,to:=0,aJ:=[],others:= -1 })
 else if x.kind=7 then(lu x.name&&(decide ((x.args.length:Int)<=6)&&(gz f.ag x.args&&(aL (cB f.ag x.a) 3&&ct f x.to))),{ r with name:=.empty,args:=[],a:=0,to:=0 })
 else if x.kind=8 then(aL (cB f.ag x.a) 3&&(eA f.ag x.b&&(ct f x.to&&(ct f x.gP&&mw f x))),{ r with a:=0,b:=0,to:=0,gP:=0,aJ:=[],others:= -1 })
 else if x.kind=9 then(f.iter&&(aL (cB f.ag x.a) f.result&&ct f x.to),{ r with a:=0,to:=0 })
 else(false,r)
def aI(l:List Int)(n:Int):Bool:=l.any fun c=>n==c
def kG(n:Int):Int:=1200+n
def mv:List Int:=[1,2,3,4,5,6,7,8,9,10,11,13,14,17,19]
def nX:List Int:=[30,31,32,33,34,36,37]
def dB(x:bS):Int:=if aI mv x.op then x.to else if aI nX x.op then x.to else -1
def eu(x:End):Int:=if x.kind=5 then dB x.ins else if aI [6,7] x.kind then x.a else if x.kind=8 then x.b else -1
def n1:List Int:=[2,8,11,13,14,15,16,18,36]
def qQ:List Int:=[3,4,5,6,7,12,30,31,32,33,34,35,37]
def cL(x:bS):List Int:=if aI n1 x.op then [x.a] else if aI qQ x.op then [x.a,x.b] else if x.op=10 then x.args else if x.op=38 then x.a::x.b::x.args else []
def cN(x:End):List Int:=if aI [2,8,9] x.kind then [x.a] else if x.kind=3 then(if x.a≠ -1 then [x.a] else []) else if x.kind=5 then cL x.ins else if aI [6,7] x.kind then x.args else []
def jG(f:bd)(x:End):Bool:=(gf f x).1&&yA (gf f x).2
end Go.Argus
namespace Go.Abs
inductive T(α:Type) where
 |leaf
 |node (v:Option α) (l r:T α)
noncomputable def uo:Nat->Nat->List Bool
 |0,_=>[]
 |f+1,i=>bif Nat.beq i 0 then [] else bif Nat.beq (i % 2) 1 then true::uo f (i / 2) else false::uo f (i / 2 - 1)
noncomputable def bits(i:Nat):List Bool:=uo 20 i
noncomputable def sY{α:Type}(p:List Bool):T α->Option α:=List.rec (motive:=fun _=>T α->Option α) (fun t=>T.rec (motive:=fun _=>Option α) none (fun v _ _ _ _=>v) t)
 (fun b _ ih t=>T.rec (motive:=fun _=>Option α) none (fun _ l r _ _=>Bool.rec (ih r) (ih l) b) t) p
noncomputable def A7{α:Type}(v:Option α)(p:List Bool):T α->T α:=List.rec (motive:=fun _=>T α->T α) (fun t=>T.rec (motive:=fun _=>T α) (.node v .leaf .leaf) (fun _ l r _ _=>.node v l r) t)
 (fun b _ ih t=>T.rec (motive:=fun _=>T α) (Bool.rec (.node none .leaf (ih .leaf)) (.node none (ih .leaf) .leaf) b) (fun u l r _ _=>Bool.rec (.node u l (ih r)) (.node u (ih l) r) b) t) p
noncomputable def T.get{α:Type}(t:T α)(i:Nat):Option α:=sY (bits i) t
noncomputable def T.put{α:Type}(t:T α)(i:Nat)(v:Option α):Option (T α):=bif Nat.blt i 1000000 then some (A7 v (bits i) t) else none
structure bM where
 env:T D
 mem:T Row
 nx:Nat
noncomputable def tz:D->D
 | .cG _ _=>.u
 |d=>d
noncomputable def getD(t:T D)(i:Nat):D:=match t.get i with
 |some d=>d
 |none=>.u
noncomputable def agX(t:T D):Operand->D
 | .tmp i=>tz (getD t i)
 | .const v=>wN v
 | .global _=>.u
 | .func f=>.fn (.func f) [] []
abbrev fJ:=Program->(Operand->D)->T Row->Nat->Option bf
noncomputable def gh(b:Bool)(d:D):Option bf:=bif b then some ⟨d,[],[],0⟩ else none
noncomputable def pI(b:Bool)(d:D)(i:Nat):Option bf:=bif b then some ⟨d,[],[i],0⟩ else none
noncomputable def sZ(b:Bool)(nx:Nat)(d:D)(r:Row)(rd:List Nat):Option bf:=bif b then some ⟨d,[(nx,some r)],rd,1⟩ else none
noncomputable def Bv(b:Bool)(i:Nat)(r:Row):Option bf:=bif b then some ⟨.bp [],[(i,some r)],[i],0⟩ else none
noncomputable def iN(n:Nat):List D->Bool:=Nat.rec (fun _=>true) (fun _ ih l=>List.rec false (fun _ t _=>ih t) l) n
noncomputable def uD(n:Nat):List D->Bool:=Nat.rec (fun l=>List.rec true (fun _ _ _=>false) l) (fun _ ih l=>List.rec false (fun _ t _=>ih t) l) n
noncomputable def Lk(n:Nat):List D->List D:=Nat.rec (fun l=>l) (fun _ ih l=>List.rec [] (fun _ t _=>ih t) l) n
noncomputable def yr(n:Nat):List D->List D:=Nat.rec (fun _=>[]) (fun _ ih l=>List.rec [] (fun a t _=>a::ih t) l) n
noncomputable def om(l:List D)(n:Nat):List D:=Lk n l
noncomputable def we(P:Program)(t:TypeId)(cs:List D):D:=bif bG P t then .agg (yr (P.cellsOf t) cs) else List.rec .u (fun d _ _=>d) cs
noncomputable def Tm(x:Operand):fJ:=fun _ ρ _ _=>some ⟨ρ x,[],[],0⟩
noncomputable def Ll(c a b:Operand):fJ:=fun _ ρ _ _=>match ρ c with
 | .s (.bool true)=>match ρ a with
  | .s (.bool v)=>some ⟨.s (.bool v),[],[],0⟩
  |_=>none
 | .s (.bool false)=>match ρ b with
  | .s (.bool v)=>some ⟨.s (.bool v),[],[],0⟩
  |_=>none
 |_=>none
noncomputable def KB(t:TypeId):fJ:=fun P _ _ nx=>bif A1 t then match aZ P t with
 |[.s (.pointer none),.z]=>sZ (aG P t) nx (.rp nx 0) (.bs false .z t) []
 |_=>none
 else sZ (aG P t) nx (.rp nx 0) (.cells (aZ P t) t) []
noncomputable def Md(t:TypeId)(x:Operand):fJ:=fun P ρ _ nx=>bif A1 t then match (ρ x).cells with
 |[.s (.pointer none),d]=>sZ (d.one&&Nat.beq (P.cellsOf t) 2) nx (.rp nx 0) (.bs false d t) []
 |_=>none
 else sZ ((ρ x).cells.all D.one) nx (.rp nx 0) (.cells (ρ x).cells t) []
noncomputable def AR(place:Nat->Option (Nat×Nat))(cells:List D):List (Nat×D)->Option (List D)
 |[]=>some cells
 |(i,d)::rest=>match place i with
  |none=>none
  |some (off,size)=>bif (uD size d.cells&&iN (off+size) cells)&&d.cells.all D.one then AR place (fj cells off d.cells) rest else none
noncomputable def parts(ρ:Operand->D):List (Nat×Operand)->List (Nat×D)
 |[]=>[]
 |(i,x)::l=>(i,ρ x)::parts ρ l
noncomputable def KC(P:Program)(fs:Array Field)(i:Nat):Option (Nat×Nat):=match fs[i]? with
 |some f=>some (f.offset,P.cellsOf f.type)
 |none=>none
noncomputable def Lm(b:Bool):Option (List D)->Option bf
 |some cs=>gh b (.agg cs)
 |none=>none
noncomputable def ZK(P:Program)(fs:Array Field):Bool:=fs.toList.all fun f=>(P.info? f.type).isSome
noncomputable def KD(t:TypeId)(ps:Array (Nat×Operand)):fJ:=fun P ρ _ _=>match P.underlying t with
 |some (.struct fs)=>Lm (aG P t&&ZK P fs) (AR (KC P fs) (aZ P t) (parts ρ ps.toList))
 |some (.array _ e)=>Lm (aG P t&&aG P e) (AR (fun i=>some (i*P.cellsOf e,P.cellsOf e)) (aZ P t) (parts ρ ps.toList))
 |_=>none
noncomputable def Tn(b:Bool)(nx n:Nat)(e:TypeId):Option (List D)->Option bf
 |some cs=>sZ (b&&cs.all D.one) nx (.rs nx 0 n) (.cells cs e) []
 |none=>none
noncomputable def Iz(t:TypeId)(n:Nat)(ps:Array (Nat×Operand)):fJ:=fun P ρ _ nx=>
 Tn (bm P t&&(Nat.ble (n*P.cellsOf (av P t)) 16777216&&Nat.ble n maxLen)) nx n (av P t) (AR (fun i=>some (i*P.cellsOf (av P t),P.cellsOf (av P t))) (dq n (aZ P (av P t))) (parts ρ ps.toList))
noncomputable def Ln(t:TypeId)(a:Operand):fJ:=fun P ρ m _=>match ρ a with
 | .pt cs=>gh (aG P t&&iN (P.cellsOf t) cs) (we P t cs)
 | .rp i off=>match m.get i with
  |some (.cells cs _)=>pI (aG P t&&iN (off+P.cellsOf t) cs) (we P t (om cs off)) i
  |some (.bs _ x _)=>pI (Nat.beq off 1&&(aG P t&& !bG P t)) x i
  |_=>none
 |_=>none
noncomputable def KE(t:TypeId)(a x:Operand):fJ:=fun P ρ m _=>match ρ a with
 | .rp i off=>match m.get i with
  |some (.cells cs e)=>Bv ((aG P t&&uD (P.cellsOf t) (ρ x).cells)&&(iN (off+P.cellsOf t) cs&&(ρ x).cells.all D.one)) i (.cells (fj cs off (ρ x).cells) e)
  |some (.bs u _ T)=>Bv (Nat.beq off 1&&(aG P t&&(!bG P t&&(ρ x).one))) i (.bs u (ρ x) T)
  |_=>none
 |_=>none
noncomputable def I8(x:Operand):fJ:=fun _ ρ m _=>match ρ x with
 | .pt cs=>some ⟨.pt cs,[],[],0⟩
 | .rp i off=>match m.get i with
  |some _=>some ⟨.rp i off,[],[i],0⟩
  |none=>none
 |_=>none
noncomputable def HT:IntKind->Int->Bool
 | .i64,.ofNat n=>Nat.ble n 9223372036854775807
 | .i64,.negSucc n=>Nat.ble n 9223372036854775807
 | .u8,.ofNat n=>Nat.ble n 255
 | .u64,.ofNat n=>Nat.ble n 18446744073709551615
 |_,_=>false
noncomputable def yu(k:IntKind)(n:Int):Int:=bif HT k n then n else k.wrap n
noncomputable def oK:Int->Int->Bool
 | .ofNat a,.ofNat b=>Nat.blt a b
 | .negSucc _,.ofNat _=>true
 | .ofNat _,.negSucc _=>false
 | .negSucc a,.negSucc b=>Nat.blt b a
noncomputable def zl:Int->Int->Bool
 | .ofNat a,.ofNat b=>Nat.beq a b
 | .negSucc a,.negSucc b=>Nat.beq a b
 |_,_=>false
noncomputable def lB:IntKind->IntKind->Bool
 | .i64,.i64 | .u8,.u8 | .u64,.u64 | .i32,.i32 | .u32,.u32 | .i8,.i8 | .i16,.i16 | .u16,.u16=>true
 |_,_=>false
noncomputable def sI(b:Bool)(k:IntKind)(n:Int):Option bf:=gh b (.s (.int k n))
noncomputable def sB(b:Bool)(v:Bool):Option bf:=gh b (.s (.bool v))
noncomputable def Me:BinOp->IntKind->IntKind->Int->Int->Option bf
 | .add=>fun k k' a b=>sI (lB k k') k (yu k (a+b))
 | .sub=>fun k k' a b=>sI (lB k k') k (yu k (a - b))
 | .mul=>fun k k' a b=>sI (lB k k') k (yu k (a*b))
 | .quo=>fun k k' a b=>sI (lB k k'&& !zl b 0) k (yu k (a.tdiv b))
 | .rem=>fun k k' a b=>sI (lB k k'&& !zl b 0) k (a.tmod b)
 | .shl=>fun k _ a b=>sI (!oK b 0) k (k.wrap (a*2 ^ (min b.toNat k.bits)))
 | .shr=>fun k _ a b=>sI (!oK b 0) k (a.fdiv (2 ^ (min b.toNat k.bits)))
 | .and=>fun k k' a b=>sI (lB k k') k (lb .and k a b)
 | .or=>fun k k' a b=>sI (lB k k') k (lb .or k a b)
 | .xor=>fun k k' a b=>sI (lB k k') k (lb .xor k a b)
 | .andNot=>fun k k' a b=>sI (lB k k') k (lb .andNot k a b)
 | .eql=>fun k k' a b=>sB (lB k k') (zl a b)
 | .neq=>fun k k' a b=>sB (lB k k') (!zl a b)
 | .lss=>fun k k' a b=>sB (lB k k') (oK a b)
 | .leq=>fun k k' a b=>sB (lB k k') (!oK b a)
 | .gtr=>fun k k' a b=>sB (lB k k') (oK b a)
 | .geq=>fun k k' a b=>sB (lB k k') (!oK a b)
noncomputable def Bw:List UInt8->List UInt8->Bool
 |[],[]=>true
 |a::aS,b::bs=>Nat.beq a.toNat b.toNat&&Bw aS bs
 |_,_=>false
noncomputable def D7:List UInt8->List UInt8->Bool
 |_,[]=>false
 |[],_::_=>true
 |a::aS,b::bs=>Nat.blt a.toNat b.toNat||(Nat.beq a.toNat b.toNat&&D7 aS bs)
noncomputable def Mf:BinOp->List UInt8->List UInt8->Option bf
 | .eql=>fun a b=>sB true (Bw a b)
 | .neq=>fun a b=>sB true (!Bw a b)
 | .lss=>fun a b=>sB true (D7 a b)
 | .geq=>fun a b=>sB true (!D7 a b)
 | .add=>fun a b=>gh (Nat.ble (a.length+b.length) maxLen) (.s (.string ⟨⟨a++b⟩⟩))
 |_=>fun _ _=>none
noncomputable def Sg(P:Program)(op:BinOp)(t:TypeId)(xs ys:List D):Option bf:=match op,AH P t,po xs ys with
 | .eql,some ks,some q=>gh (decide (q.1.map jJ=ks)&& !P.eqGuardType P.depth t) (.s (.bool (iX q.1 q.2)))
 | .neq,some ks,some q=>gh (decide (q.1.map jJ=ks)&& !P.eqGuardType P.depth t) (.s (.bool !(iX q.1 q.2)))
 |_,_,_=>none
noncomputable def To(P:Program)(op:BinOp)(t:TypeId):D->D->Option bf
 | .s (.int k a),.s (.int k' b)=>Me op k k' a b
 | .s (.string a),.s (.string b)=>Mf op a.data.toList b.data.toList
 | .s (.bool a),.s (.bool b)=>match op with
  | .eql=>sB (tm P t) (a==b)
  | .neq=>sB (tm P t) (!(a==b))
  |_=>none
 | .agg xs,.agg ys=>Sg P op t xs ys
 |_,_=>none
noncomputable def He:BinOp->Option Bool
 | .eql=>some true
 | .neq=>some false
 |_=>none
noncomputable def Tp(P:Program)(m:T Row)(t:TypeId)(b:Bool):D->Option bf
 | .z=>sB (bm P t) b
 | .rs i _ n=>match m.get i with
  |some (.cells _ _)=>pI (bm P t&&Nat.blt 0 n) (.s (.bool !b)) i
  |_=>none
 | .sl _ n=>bif b then gh (bm P t) (bif Nat.beq n 0 then .ub else .s (.bool false)) else none
 |_=>none
noncomputable def Tq(P:Program)(m:T Row)(t:TypeId)(b:Bool):D->Option bf
 | .rp i _=>match m.get i with
  |some _=>pI (y7 P t) (.s (.bool !b)) i
  |_=>none
 |_=>none
noncomputable def Mg(op:BinOp)(t:TypeId)(x y:Operand):fJ:=fun P ρ m _=>match y with
 | .const (.slice none 0 0)=>match He op with
  |some b=>Tp P m t b (ρ x)
  |none=>none
 | .const (.pointer none)=>match He op with
  |some b=>Tq P m t b (ρ x)
  |none=>none
 |y=>To P op t (ρ x) (ρ y)
noncomputable def Nd(op:UnOp)(x:Operand):fJ:=fun _ ρ _ _=>match ρ x with
 | .s v=>match Bl op v with
  |some r=>some ⟨.s r,[],[],0⟩
  |none=>none
 |_=>none
noncomputable def AS :List D->Option (List Int)
 |[]=>some []
 | .s (.int .u8 n)::ds=>match AS ds with
  |some l=>some (n::l)
  |none=>none
 |_=>none
noncomputable def Bx(P:Program)(t:TypeId):Bool:=bm P t&&(match P.underlying (av P t) with|some (.int .u8)=>true|_=>false)&&Nat.beq (P.cellsOf (av P t)) 1
noncomputable def Hg(b:Bool)(n:Nat)(rd:List Nat):Option (List Int)->Option bf
 |some l=>bif b&&Nat.beq l.length n then some ⟨.s (.string (mkStr l)),[],rd,0⟩ else none
 |none=>none
noncomputable def Si(P:Program)(src:TypeId)(m:T Row):D->Option bf
 | .sl es n=>Hg (Bx P src) n [] (AS es)
 | .rs i off n=>match m.get i with
  |some (.cells cs _)=>Hg (Bx P src) n [i] (AS (yr n (om cs off)))
  |_=>none
 | .s (.int _ n)=>match P.underlying src with
  |some (.int _)=>gh (!oK n 0&&oK n 128) (.s (.string (mkStr [n])))
  |_=>none
 |_=>none
noncomputable def Sj(P:Program)(src:TypeId):D->Option bf
 | .s (.string b)=>gh (fG P src&&Nat.ble b.data.toList.length maxLen) (.sl (b.data.toList.map fun c=>.s (.int .u8 c.toNat)) b.data.toList.length)
 |_=>none
noncomputable def Sk(P:Program)(src:TypeId)(k:IntKind):D->Option bf
 | .s (.int _ n)=>gh (aG P src) (.s (.int k (yu k n)))
 |_=>none
noncomputable def Lo(src dst:TypeId)(x:Operand):fJ:=fun P ρ m _=>match P.underlying dst with
 |some (.int k)=>Sk P src k (ρ x)
 |some .string=>Si P src m (ρ x)
 |some (.slice e)=>match P.underlying e with
  |some (.int .u8)=>Sj P src (ρ x)
  |_=>none
 |_=>none
noncomputable def adb(f:Fn)(fs cs:Array Operand):fJ:=fun _ ρ _ _=>some ⟨.fn f (fs.toList.map ρ) (cs.toList.map ρ),[],[],0⟩
noncomputable def Mh(r:Option Operand):fJ:=fun _ _ _ nx=>match r with
 |none=>some ⟨.mp nx,[(nx,some (.map []))],[],1⟩
 |some _=>none
noncomputable def Lp(t:TypeId)(l c:Operand):fJ:=fun P ρ _ nx=>match ρ l,ρ c with
 | .s (.int .i64 (.ofNat n)),.s (.int .i64 (.ofNat k))=>sZ ((Nat.beq n k&&Nat.ble n 9223372036854775807)&&(Nat.ble (P.bytesOf (av P t)*n) 281474976710656&&bm P t)) nx (.rs nx 0 n) (.cells (dq n (aZ P (av P t))) (av P t)) []
 |_,_=>none
noncomputable def yd(P:Program)(t:TypeId):List (Value×D)->Bool
 |[]=>true
 |e::es=>dD P t e.1&&yd P t es
noncomputable def Lq(t:TypeId)(x k:Operand)(ok:Bool):fJ:=fun P ρ m _=>match nD (ρ k),ρ x with
 |some key,.mp i=>match m.get i with
  |some (.map es)=>pI (jv P t&&(dD P (gC P t) key&&yd P (gC P t) es)) (jN P t ok (gp key es)) i
  |_=>none
 |some key,.im es=>gh (jv P t&&(dD P (gC P t) key&&yd P (gC P t) es)) (jN P t ok (gp key es))
 |some key,.s (.map none)=>gh (jv P t&&dD P (gC P t) key) (jN P t ok none)
 |_,_=>none
noncomputable def Hh(t:TypeId)(x k v:Operand):fJ:=fun P ρ m _=>match nD (ρ k),ρ x with
 |some key,.mp i=>match m.get i with
  |some (.map es)=>Bv (jv P t&&(dD P (gC P t) key&&yd P (gC P t) es)) i (.map (lY key (ρ v) es))
  |_=>none
 |_,_=>none
noncomputable def ql(ρ:Operand->D)(o:Option Operand)(C:Nat):Option Nat:=match o with
 |none=>some C
 |some x=>match ρ x with
  | .s (.int _ (.ofNat n))=>some n
  |_=>none
noncomputable def Ri(P:Program)(t:TypeId)(ρ:Operand->D)(x:D)(lo hi:Option Operand)(c:Operand):Option bf:=match x,ql ρ lo 0,hi,ρ c with
 | .sl es n,some l,some hx,.s (.int _ (.ofNat k))=>match ρ hx with
  | .s (.int _ (.ofNat h))=>bif Nat.beq l 0&&(Nat.beq h n&&Nat.beq k n)&&(lo.isNone) then gh (bm P t&&uD (n*P.cellsOf (av P t)) es) (.sc es n)
   else gh (bm P t&&(Nat.ble l h&&(Nat.ble h k&&Nat.ble k n))) (.sl ((om es (l*P.cellsOf (av P t))).take ((h - l)*P.cellsOf (av P t))) (h - l))
  |_=>none
 |_,_,_,_=>none
noncomputable def Rj(P:Program)(t:TypeId)(ρ:Operand->D)(m:T Row)(lo hi:Option Operand):D->Option bf
 | .sl es n=>match ql ρ lo 0,ql ρ hi n with
  |some l,some h=>gh (bm P t&&(Nat.ble l h&&Nat.ble h n)) (.sl ((om es (l*P.cellsOf (av P t))).take ((h - l)*P.cellsOf (av P t))) (h - l))
  |_,_=>none
 | .rs i off n=>match m.get i,ql ρ lo 0,ql ρ hi n with
  |some (.cells _ e),some l,some h=>pI (bm P t&&Nat.beq (P.cellsOf e) (P.cellsOf (av P t))&&(Nat.ble l h&&Nat.ble h n)) (.rs i (off+l*P.cellsOf (av P t)) (h - l)) i
  |_,_,_=>none
 | .s (.string b)=>match ql ρ lo 0,ql ρ hi b.data.toList.length with
  |some l,some h=>gh (fG P t&&(Nat.ble l h&&Nat.ble h b.data.toList.length)) (.s (.string ⟨⟨(b.data.toList.drop l).take (h - l)⟩⟩))
  |_,_=>none
 | .z=>match ql ρ lo 0,ql ρ hi 0 with
  |some 0,some 0=>gh (bm P t) .z
  |_,_=>none
 |_=>none
noncomputable def KF(t:TypeId)(x:Operand)(lo hi C:Option Operand):fJ:=fun P ρ m _=>match C with
 |none=>Rj P t ρ m lo hi (ρ x)
 |some c=>Ri P t ρ (ρ x) lo hi c
noncomputable def IP(t:TypeId)(x:Operand)(k:Nat):fJ:=fun P ρ m _=>match cH P t k with
 |some (off,ft)=>match ρ x with
  | .pt cs=>gh (Nat.blt 0 (P.cellsOf ft)) (.pt (om cs off))
  | .rp i o=>match m.get i with
   |some _=>pI (Nat.blt 0 (P.cellsOf ft)) (.rp i (o+off)) i
   |none=>none
  |_=>none
 |none=>none
noncomputable def KG(t:TypeId)(x:Operand)(k:Nat):fJ:=fun P ρ _ _=>match cH P t k,ρ x with
 |some (off,ft),.agg cs=>gh (aG P ft&&iN (off+P.cellsOf ft) cs) (we P ft (om cs off))
 |_,_=>none
noncomputable def IQ(t:TypeId)(x i:Operand):fJ:=fun P ρ m _=>match ρ x,ρ i with
 | .sl es n,.s (.int _ (.ofNat k))=>gh (bm P t&&(Nat.blt k n&&iN ((k+1)*P.cellsOf (av P t)) es)) (.pt (om es (k*P.cellsOf (av P t))))
 | .rs j off n,.s (.int _ (.ofNat k))=>match m.get j with
  |some _=>pI (bm P t&&Nat.blt k n) (.rp j (off+k*P.cellsOf (av P t))) j
  |none=>none
 | .rp j off,.s (.int _ (.ofNat k))=>match m.get j with
  |some _=>pI (nM P t&&Nat.blt k (oz P t)) (.rp j (off+k*P.cellsOf (av P t))) j
  |none=>none
 |_,_=>none
noncomputable def KH(t:TypeId)(x i:Operand):fJ:=fun P ρ _ _=>match ρ x,ρ i with
 | .s (.string b),.s (.int _ (.ofNat k))=>gh (fG P t&&Nat.blt k b.data.toList.length) (.s (.int .u8 (b.data.toList.getD k 0).toNat))
 | .agg cs,.s (.int _ (.ofNat k))=>gh (nM P t&&(Nat.blt k (oz P t)&&iN ((k+1)*P.cellsOf (av P t)) cs)) (we P (av P t) (om cs (k*P.cellsOf (av P t))))
 |_,_=>none
noncomputable def Mi:List D->Nat->Option D
 |[],_=>none
 |d::_,0=>some d
 |_::ds,n+1=>Mi ds n
noncomputable def Jx(x:Operand)(k:Nat):fJ:=fun _ ρ _ _=>match ρ x with
 | .bp cs=>match Mi cs k with
  |some d=>some ⟨d,[],[],0⟩
  |none=>none
 |_=>none
noncomputable def KI(t:TypeId)(x:Operand):fJ:=fun P ρ _ _=>match nD (ρ x) with
 |some v=>gh (plain (.iface t v)&&wO P t) (.s (.iface t v))
 |none=>none
noncomputable def J2(x:Operand)(t:TypeId)(ok:Bool):fJ:=fun P ρ _ _=>bif ok then match ρ x with
 | .s v=>gh ((M5 v&&wO P t)&&(aG P t&&uP P t)) (AJ P t v)
 |_=>none
 else none
abbrev tA:=Program->(Operand->D)->T Row->Nat->List Operand->List TypeId->Option bf
noncomputable def Un:tA:=fun P ρ m _ xs ts=>match xs,ts with
 |[x],[t]=>match ρ x with
  | .sl _ n=>gh (bm P t) (.s (.int .i64 (.ofNat n)))
  | .rs i _ n=>match m.get i with
   |some _=>pI (bm P t) (.s (.int .i64 (.ofNat n))) i
   |none=>none
  | .z=>gh (bm P t) (.s (.int .i64 (.ofNat 0)))
  | .s (.string b)=>gh (fG P t) (.s (.int .i64 (.ofNat b.data.toList.length)))
  | .agg _=>gh (nM P t) (.s (.int .i64 (.ofNat (oz P t))))
  | .mp i=>match m.get i with
   |some (.map es)=>pI (jv P t) (.s (.int .i64 (.ofNat es.length))) i
   |_=>none
  |_=>none
 |_,_=>none
noncomputable def Gm(m:T Row)(sz:Nat):D->Option (List Nat×Nat×List D)
 | .sl es n=>bif iN (n*sz) es then some ([],n,yr (n*sz) es) else none
 | .z=>some ([],0,[])
 | .rs i off n=>match m.get i with
  |some (.cells cs _)=>bif iN (off+n*sz) cs then some ([i],n,yr (n*sz) (om cs off)) else none
  |_=>none
 |_=>none
noncomputable def AT(i:Nat):List Nat->Bool
 |[]=>true
 |j::l=> !Nat.beq j i&&AT i l
noncomputable def Uo(P:Program)(m:T Row)(nx:Nat)(t:TypeId)(s:D)(rd:List Nat)(k:Nat)(news:List D):Option bf:=match s with
 | .z=>sZ (bm P t&&(Nat.blt 0 (P.cellsOf (av P t))&&(Nat.ble k maxLen&&Nat.ble (k*P.bytesOf (av P t)) 140737488355328))) nx (.rs nx 0 k) (.cells news (av P t)) rd
 | .sc es n=>sZ ((bm P t&&uD (n*P.cellsOf (av P t)) es)&&((Nat.blt 0 k&&Nat.blt 0 (P.cellsOf (av P t)))&&(Nat.ble (n+k) maxLen&&Nat.ble ((n+k)*P.bytesOf (av P t)) 140737488355328))) nx (.rs nx 0 (n+k)) (.cells (es++news) (av P t)) rd
 | .rs i off n=>match m.get i with
  |some (.cells cs e)=>bif ((bm P t&&Nat.beq e (av P t))&&(Nat.blt 0 (P.cellsOf (av P t))&&uD (off+n*P.cellsOf (av P t)) cs))&&((Nat.ble (n+k) maxLen&&Nat.ble ((n+k)*P.bytesOf (av P t)) 140737488355328)&&AT i rd) then
   some ⟨.rs nx 0 (n+k),[(i,none),(nx,some (.cells (om cs off++news) e))],i::rd,1⟩ else none
  |_=>none
 |_=>none
noncomputable def Ts(P:Program)(m:T Row)(nx:Nat)(t u:TypeId)(s:D)(b:ByteArray):Option bf:=match s with
 | .z=>sZ ((Bx P t&&fG P u)&&(Nat.ble b.size maxLen&&Nat.ble (b.size*P.bytesOf (av P t)) 140737488355328)) nx (.rs nx 0 b.size) (.cells (yE b) (av P t)) []
 | .rs i off n=>match m.get i with
  |some (.cells cs e)=>bif (Nat.beq e (av P t)&&(Bx P t&&fG P u))&&(uD (off+n) cs&&(Nat.ble (n+b.size) maxLen&&Nat.ble ((n+b.size)*P.bytesOf (av P t)) 140737488355328)) then
   some ⟨.rs nx 0 (n+b.size),[(i,none),(nx,some (.cells (om cs off++yE b) e))],[i],1⟩ else none
  |_=>none
 |_=>none
noncomputable def Rk:tA:=fun P ρ m nx xs ts=>match xs,ts with
 |[s,x],[t,u]=>match ρ x with
  | .s (.string b)=>Ts P m nx t u (ρ s) b
  |d=>bif Nat.beq t u then match Gm m (P.cellsOf (av P t)) d with
    |some (rd,k,news)=>Uo P m nx t (ρ s) rd k news
    |none=>none
   else none
 |_,_=>none
noncomputable def Up:tA:=fun _ ρ _ _ xs ts=>match xs,ts with
 |[x,y],[_,_]=>match ρ x,ρ y with
  | .s (.int k a),.s (.int k' b)=>sI (lB k k') k (bif oK b a then b else a)
  |_,_=>none
 |_,_=>none
noncomputable def Sl:tA:=fun P ρ m _ xs ts=>match xs,ts with
 |[x],[t]=>match ρ x with
  | .rs i off n=>match m.get i with
   |some (.cells cs e)=>Bv (bm P t&&(Nat.beq e (av P t)&&iN (off+n*P.cellsOf e) cs)) i (.cells (fj cs off (dq n (aZ P e))) e)
   |_=>none
  |_=>none
 |_,_=>none
noncomputable def Rm:tA:=fun P ρ m _ xs ts=>match xs,ts with
 |[x,k],[t,_]=>match nD (ρ k),ρ x with
  |some key,.mp i=>match m.get i with
   |some (.map es)=>Bv (jv P t&&(dD P (gC P t) key&&yd P (gC P t) es)) i (.map (sV key es))
   |_=>none
  |_,_=>none
 |_,_=>none
noncomputable def Tt:tA:=fun P ρ m _ xs ts=>match xs,ts with
 |[x,y],[t,u]=>match ρ x with
  | .rs i off n=>match m.get i,Gm m (P.cellsOf (av P t)) (ρ y) with
   |some (.cells cs e),some (rd,k,news)=>bif (Nat.beq t u&&Nat.beq e (av P t))&&(bm P t&&(Nat.ble k n&&iN (off+n*P.cellsOf (av P t)) cs)) then
    some ⟨.s (.int .i64 (.ofNat k)),[(i,some (.cells (fj cs off news) e))],i::rd,0⟩ else none
   |_,_=>none
  |_=>none
 |_,_=>none
noncomputable def Sm:tA:=fun _ ρ m _ xs ts=>match xs,ts with
 |[s],[_]=>match ρ s with
  | .rs i off n=>match m.get i with
   |some _=>pI (Nat.blt 0 n) (.rp i off) i
   |none=>none
  |_=>none
 |_,_=>none
noncomputable def Tu:tA:=fun P ρ m _ xs ts=>match xs,ts with
 |[p,n],[t,_]=>match ρ p,ρ n with
  | .rp i off,.s (.int _ (.ofNat k))=>match m.get i with
   |some (.cells cs e)=>match AS (yr k (om cs off)),P.underlying t with
    |some l,some (.pointer e')=>bif (Nat.beq k l.length&&Nat.beq e' e)&&((Nat.blt 0 l.length&&Nat.beq (P.cellsOf e) 1)&&(Nat.ble l.length maxLen&&l.all fun x=> !oK x 0&&oK x 256)) then
     some ⟨.s (.string (mkStr l)),[(i,none)],[i],0⟩ else none
    |_,_=>none
   |_=>none
  |_,_=>none
 |_,_=>none
noncomputable def noB:tA:=fun _ _ _ _ _ _=>none
noncomputable def Vp:Builtin->tA
 | .len=>Un
 | .append=>Rk
 | .min=>Up
 | .clear=>Sl
 | .delete=>Rm
 | .copy=>Tt
 | .unsafeSliceData=>Sm
 | .unsafeString=>Tu
 |_=>noB
noncomputable def Cg(b:Builtin)(xs:Array Operand)(ts:Array TypeId):fJ:=fun P ρ m nx=>Vp b P ρ m nx xs.toList ts.toList
noncomputable def HU:fJ:=fun _ _ _ _=>none
noncomputable def Tv(c:Call):fJ:=match c.callee with
 | .builtin b=>Cg b c.args c.argTypes
 |_=>HU
noncomputable def D8:Op->fJ
 | .move x=>Tm x
 | .assign x=>Tm x
 | .pick c a b=>Ll c a b
 | .alloc t=>KB t
 | .box t x=>Md t x
 | .build t ps=>KD t ps
 | .buildSlice t n ps=>Iz t n ps
 | .load t a=>Ln t a
 | .store t a x=>KE t a x
 | .nilCheck x=>I8 x
 | .binOp op t x y _=>Mg op t x y
 | .unOp op _ x=>Nd op x
 | .convert src dst x=>Lo src dst x
 | .makeFunc f fs cs=>adb f fs cs
 | .makeMap _ r=>Mh r
 | .makeSlice t l c=>Lp t l c
 | .lookup t x k ok=>Lq t x k ok
 | .mapUpdate t x k v=>Hh t x k v
 | .insert t x k v=>Hh t x k v
 | .slice t x lo hi C=>KF t x lo hi C
 | .fieldAddr t x k=>IP t x k
 | .field t x k=>KG t x k
 | .indexAddr t x i=>IQ t x i
 | .index t x i=>KH t x i
 | .extract x k=>Jx x k
 | .makeInterface t x=>KI t x
 | .typeAssert x _ t ok=>J2 x t ok
 | .call c=>Tv c
 |_=>HU
abbrev Hf:=List D->T Row->Nat->Option (Bool×T Row×Nat)
abbrev Hd:=List (Nat×Hf)
noncomputable def Dq:Hd->Nat->Option Hf
 |[],_=>none
 |(j,h)::l,i=>bif Nat.beq j i then some h else Dq l i
abbrev Ev:=Hd->Bool->Code->bM->Option (Exit×bM)
abbrev nP:=(D ⊕ List PanicEntry)×T Row×Nat
abbrev kL:=FuncId->List D->T Row->Nat->Option nP
abbrev nr:=FuncId->List D->T Row->Nat->Option bf
abbrev zm:=Option (Option (List PanicEntry)×bM)
structure Ctx where
 gM:FuncId->Option (Func×Code)
 known:FuncId->List D->Option D:=fun _ _=>none
 CE:FuncId->List D->T Row->Nat->Option nP:=fun _ _ _ _=>none
 deep:List Nat:=[]
noncomputable def Mj(t:T D):Option Nat->D->Option (T D)
 |none,_=>some t
 |some i,d=>t.put i (some d)
noncomputable def Dr(m:T Row):List (Nat×Option Row)->Option (T Row)
 |[]=>some m
 |(i,r)::us=>match m.put i r with
  |some m'=>Dr m' us
  |none=>none
noncomputable def wv(c:bM)(dst:Option Nat)(d:D)(m:T Row)(nx:Nat):Option bM:=match Mj c.env dst d with
 |some env=>some ⟨env,m,nx⟩
 |none=>none
noncomputable def wx(c:bM)(dst:Option Nat)(p:bf):Option bM:=match Dr c.mem p.aT with
 |some m=>wv c dst p.val m (c.nx+p.new)
 |none=>none
noncomputable def D9:Option bM->zm
 |some c=>some (none,c)
 |none=>none
noncomputable def Uq(c:bM)(dst:Option Nat):Option bf->zm
 |some p=>D9 (wx c dst p)
 |none=>none
noncomputable def Mk(c:bM)(dst:Option Nat):Option nP->zm
 |some (.inl d,m,nx)=>D9 (wv c dst d m nx)
 |some (.inr ch,m,nx)=>some (some ch,⟨c.env,m,nx⟩)
 |none=>none
noncomputable def af0(c:bM)(dst:Option Nat):Option (Bool×T Row×Nat)->zm
 |some (b,m,nx)=>D9 (wv c dst (.s (.bool b)) m nx)
 |none=>none
abbrev By:=Program->Hd->kL->Option Nat->bM->zm
noncomputable def fK(k:fJ):By:=fun P _ _ dst c=>Uq c dst (k P (agX c.env) c.mem c.nx)
noncomputable def KJ(i:Nat)(args:List D):By:=fun _ hd _ dst c=>match Dq hd i,c.mem.get i with
 |some h,some (.lp .ready)=>af0 c dst (h args c.mem c.nx)
 |_,_=>none
noncomputable def So(f:Operand)(xs:Array Operand):By:=fun P hd call dst c=>match agX c.env f with
 | .fn (.func g) fs cs=>Mk c dst (call g (fs++xs.toList.map (agX c.env)++cs) c.mem c.nx)
 | .yl i=>KJ i (xs.toList.map (agX c.env)) P hd call dst c
 |_=>none
noncomputable def Sp(x:Operand):By:=fun _ _ _ _ c=>match agX c.env x with
 | .s (.iface t v)=>some (some [{ v:=.iface t v,recovered:=false }],c)
 |_=>none
noncomputable def Tw(c:Call):By:=match c.callee with
 | .value f=>So f c.args
 | .builtin b=>fK (Cg b c.args c.argTypes)
 |_=>fK HU
noncomputable def D':Op->By
 | .call c=>Tw c
 | .panic x=>Sp x
 |o=>fK (D8 o)
noncomputable def Gn(ops:Array Oper)(j:Nat)(b:Bool)(c:bM):Option Bool:=match ops[j]? with
 |some o=>match o.dst with
  |some t=>ku (getD c.env t) b
  |none=>none
 |none=>none
noncomputable def ade(dst:Option Nat)(c:bM):zm:=D9 (wv c dst uk c.mem c.nx)
noncomputable def Nf(P:Program)(hd:Hd)(call:kL)(ops:Array Oper)(o:Oper)(c:bM):zm:=match o.guard with
 |none=>D' o.op P hd call o.dst c
 |some (j,b)=>match Gn ops j b c with
  |none=>none
  |some false=>ade o.dst c
  |some true=>D' o.op P hd call o.dst c
noncomputable def rz(P:Program)(hd:Hd)(call:kL)(ops:Array Oper):List Oper->bM->Option (Exit×bM)
 |[],c=>some (.normal,c)
 |o::os,c=>match Nf P hd call ops o c with
  |some (none,c')=>rz P hd call ops os c'
  |some (some ch,c')=>some (.panic ch,c')
  |none=>none
abbrev HV:=Program->nr->bM->Option bf
noncomputable def gK(k:fJ):HV:=fun P _ c=>k P (agX c.env) c.mem c.nx
noncomputable def Sq(f:Operand)(xs:Array Operand):HV:=fun _ call c=>match agX c.env f with
 | .fn (.func g) fs cs=>call g (fs++xs.toList.map (agX c.env)++cs) c.mem c.nx
 |_=>none
noncomputable def Tx(c:Call):HV:=match c.callee with
 | .value f=>Sq f c.args
 | .builtin b=>gK (Cg b c.args c.argTypes)
 |_=>gK HU
noncomputable def HW:Op->HV
 | .call c=>Tx c
 |o=>gK (D8 o)
noncomputable def GN(P:Program)(call:nr)(ops:Array Oper)(o:Oper)(c:bM):Option bf:=match o.guard with
 |none=>HW o.op P call c
 |some (j,b)=>match Gn ops j b c with
  |none=>none
  |some false=>some ⟨uk,[],[],0⟩
  |some true=>HW o.op P call c
noncomputable def AA(P:Program)(call:nr)(ops:Array Oper):List Oper->bM->Option (List bf×bM)
 |[],c=>some ([],c)
 |o::os,c=>match GN P call ops o c with
  |some p=>match wx c o.dst p with
   |some c'=>match AA P call ops os c' with
    |some (ps,c'')=>some (p::ps,c'')
    |none=>none
   |none=>none
  |none=>none
noncomputable def meets(l:List Nat):List Nat->Bool
 |[]=>false
 |x::xs=> !AT x l||meets l xs
noncomputable def Sr(ps:List bf)(q:Nat×Nat):Bool:=match ps[q.1]?,ps[q.2]? with
 |some a,some b=> !meets b.rd a.wr&&(!meets b.wr a.wr&& !meets a.rd b.wr)
 |_,_=>false
noncomputable def ye(ps:List bf):List (Nat×Nat)->Bool
 |[]=>true
 |q::l=>Sr ps q&&ye ps l
noncomputable def GO(P:Program)(hd:Hd)(gX:kL)(iU:nr)(ops:Array Oper)(c:bM):Option (List (Nat×Nat))->Option (Exit×bM)
 |some cf=>match AA P iU ops ops.toList c with
  |some (ps,c')=>bif ye ps cf then some (.normal,c') else none
  |none=>bif ym ops then match AA P iU ops (ops.toList.take (ops.size - 1)) c with
   |some (ps,c')=>bif ye ps cf then rz P hd gX ops (ops.toList.drop (ops.size - 1)) c' else none
   |none=>none
   else none
 |none=>none
noncomputable def vQ:Nat->List D->T D->Option (T D)
 |_,[],t=>some t
 |k,d::ds,t=>match t.put k (some d) with
  |some C=>vQ (k+1) ds C
  |none=>none
noncomputable def Ai:T D->List Tmp->List D->Option (T D)
 |t,p::ps,d::ds=>match t.put p (some d) with
  |some C=>Ai C ps ds
  |none=>none
 |t,_,_=>some t
noncomputable def Ml(P:Program)(c:bM):ResultVar->Option D
 | .tmp t=>some (getD c.env t)
 | .cell a t=>match getD c.env a with
  | .rp i off=>match c.mem.get i with
   |some (.cells cs _)=>bif aG P t&&iN (off+P.cellsOf t) cs then some (we P t (om cs off)) else none
   |_=>none
  | .pt cs=>bif aG P t&&iN (P.cellsOf t) cs then some (we P t cs) else none
  |_=>none
noncomputable def Ds(P:Program)(c:bM):List ResultVar->Option (List D)
 |[]=>some []
 |r::rs=>match Ml P c r with
  |some d=>match Ds P c rs with
   |some ds=>some (d::ds)
   |none=>none
  |none=>none
noncomputable def qU(P:Program)(fn:Func)(s:bM):Option nP:=match Ds P s fn.results.toList with
 |some ds=>some (.inl (rv ds),s.mem,s.nx)
 |none=>none
noncomputable def Gp(P:Program)(fn:Func):Option (Exit×bM)->Option nP
 |some (.normal,s)=>qU P fn s
 |some (.ret,s)=>qU P fn s
 |some (.panic ch,s)=>some (.inr ch,s.mem,s.nx)
 |_=>none
noncomputable def wy(P:Program)(x:Ctx)(ev:Ev)(hd:Hd)(f:FuncId)(args:List D)(m:T Row)(nx:Nat):Option nP:=
 match x.gM f with
 |none=>none
 |some (fn,c)=>bif iN args.length (List.replicate fn.ntmps .u) then
  match vQ 0 args .leaf with
  |none=>none
  |some t=>Gp P fn (ev hd true c ⟨t,m,nx⟩)
  else none
noncomputable def nQ:Nat->D->Bool
 |0,_=>false
 |n+1,d=>match d with
  | .rs .. | .rp .. | .mp _ | .sc .. | .yl _=>false
  | .cG _ d=>nQ n d
  | .agg cs | .bp cs | .pt cs | .sl cs _=>cs.all (nQ n)
  | .fn _ fs cs=>fs.all (nQ n)&&cs.all (nQ n)
  | .im es=>es.all fun x=>nQ n x.2
  |_=>true
noncomputable def ir{α β:Type}(f:α->Option (β×List Nat)):List α->Option (List β×List Nat)
 |[]=>some ([],[])
 |x::xs=>match f x with
  |none=>none
  |some y=>match ir f xs with
   |none=>none
   |some ys=>some (y.1::ys.1,y.2++ys.2)
noncomputable def cR(P:Program)(m:T Row):Nat->D->Option (D×List Nat)
 |0,_=>none
 |n+1,d=>match d with
  | .mp i=>match m.get i with
   |some (.map es)=>(ir (fun x=>(cR P m n x.2).map fun y=>((x.1,y.1),y.2)) es).map fun x=>(.im x.1,i::x.2)
   |_=>none
  | .im es=>(ir (fun x=>(cR P m n x.2).map fun y=>((x.1,y.1),y.2)) es).map fun x=>(.im x.1,x.2)
  | .rs i off k=>match m.get i with
   |some (.cells cs e)=>(ir (cR P m n) ((cs.drop off).take (k*P.cellsOf e))).map fun x=>(.sl x.1 k,i::x.2)
   |_=>none
  | .rp i off=>match m.get i with
   |some (.cells cs _)=>(ir (cR P m n) (cs.drop off)).map fun x=>(.pt x.1,i::x.2)
   |_=>none
  | .cG true d=>(cR P m n d).map fun x=>(.cG true x.1,x.2)
  | .cG false _=>some (.cG false .u,[])
  | .agg cs=>(ir (cR P m n) cs).map fun x=>(.agg x.1,x.2)
  | .bp cs=>(ir (cR P m n) cs).map fun x=>(.bp x.1,x.2)
  | .sl cs k=>(ir (cR P m n) cs).map fun x=>(.sl x.1 k,x.2)
  | .pt cs=>(ir (cR P m n) cs).map fun x=>(.pt x.1,x.2)
  | .fn f fs cs=>match ir (cR P m n) fs with
   |none=>none
   |some x=>(ir (cR P m n) cs).map fun y=>(.fn f x.1 y.1,x.2++y.2)
  | .s v=>some (.s v,[])
  | .ub=>some (.ub,[])
  | .u=>some (.u,[])
  | .z=>some (.z,[])
  | .sc .. | .yl _=>none
noncomputable def depth:Nat:=12
noncomputable def GP(P:Program)(m:T Row)(d:D):Option (D ⊕ (List D×Nat×TypeId)):=match cR P m depth d with
 |some (r,_)=>some (.inl r)
 |none=>none
noncomputable def wg(P:Program):Option nP->Option (D ⊕ (List D×Nat×TypeId))
 |some (.inl (.rs i 0 k),m,_)=>match m.get i with
  |some (.cells es t)=>bif es.all (nQ depth) then some (.inr (es,k,t)) else GP P m (.rs i 0 k)
  |_=>none
 |some (.inl d,m,_)=>GP P m d
 |_=>none
noncomputable def uq(P:Program)(x:Ctx)(ev:Ev)(f:FuncId)(args:List D):Option (D ⊕ (List D×Nat×TypeId)):=wg P (wy P x ev [] f args .leaf 0)
noncomputable def adf(nx:Nat):Option (D ⊕ (List D×Nat×TypeId))->Option bf
 |some (.inl r)=>some ⟨r,[],[],0⟩
 |some (.inr (es,k,t))=>some ⟨.rs nx 0 k,[(nx,some (.cells es t))],[],1⟩
 |none=>none
noncomputable def GQ(bx:List Nat):Option (D ⊕ (List D×Nat×TypeId))->Option bf
 |some (.inl r)=>bif r.jK then some ⟨r,[],bx,0⟩ else none
 |_=>none
noncomputable def CQ(P:Program)(x:Ctx)(ev:Ev):nr:=fun f args m nx=>match x.known f args with
 |some r=>some ⟨r,[],[],0⟩
 |none=>bif args.all (nQ depth) then adf nx (uq P x ev f args)
  else match ir (cR P m depth) args with
   |none=>none
   |some (iS,bx)=>match x.known f iS with
    |some r=>GQ bx (some (.inl r))
    |none=>GQ bx (uq P x ev f iS)
noncomputable def zn(f:Nat):List Nat->Bool
 |[]=>false
 |g::l=>bif Nat.beq g f then true else zn f l
noncomputable def AU:Nat->D->Bool
 |0,_=>false
 |n+1,d=>match d with
  | .s _ | .ub | .z=>true
  | .agg cs | .bp cs=>cs.all (AU n)
  |_=>false
noncomputable def Ty(x:Ctx)(f:FuncId):Option (List D×List Nat)->Option D
 |some (args,_)=>match x.known f args with
  |some r=>bif AU depth r then some r else none
  |none=>none
 |none=>none
noncomputable def yv(P:Program)(x:Ctx)(ev:Ev)(hd:Hd):kL:=fun f args m nx=>match x.known f args with
 |some r=>some (.inl r,m,nx)
 |none=>match x.CE f args m nx with
  |some r=>some r
  |none=>match bif zn f x.deep then Ty x f (ir (cR P m depth) args) else none with
   |some r=>some (.inl r,m,nx)
   |none=>wy P x ev hd f args m nx
noncomputable def CR(il:Nat)(b:Bool)(k:RS)(s:bM):Option (Bool×T Row×Nat):=match s.mem.get il with
 |some (.lp .busy)=>match s.mem.put il (some (.lp k)) with
  |some m=>some (b,m,s.nx)
  |none=>none
 |_=>none
noncomputable def Ss(il:Nat):Option (Exit×bM)->Option (Bool×T Row×Nat)
 |some (.normal,s)=>CR il true .ready s
 |some (.ret,s)=>CR il false (.done .ret) s
 |some (.exit i,s)=>CR il false (.done (.exit i)) s
 |_=>none
noncomputable def Su(ev:Ev)(hd:Hd)(il:Nat)(body:Code):Option (Exit×bM)->Option (Bool×T Row×Nat)
 |some (.normal,s)=>match s.mem.get il with
  |some (.lp .ready)=>match s.mem.put il (some (.lp .busy)) with
   |some m=>Ss il (ev hd false body ⟨s.env,m,s.nx⟩)
   |none=>none
  |_=>none
 |_=>none
noncomputable def CF(ev:Ev)(hd:Hd)(il:Nat)(env:T D)(ps:List Tmp)(assign body:Code):Hf:=fun args m nx=>
 bif Nat.beq args.length ps.length then match Ai env ps args with
  |some t=>Su ev hd il body (ev hd false assign ⟨t,m,nx⟩)
  |none=>none
 else none
noncomputable def Dt(il:Nat)(env:T D)(m:T Row)(nx:Nat)(e:Exit):Option (Exit×bM):=match m.put il none with
 |some m'=>some (e,⟨env,m',nx⟩)
 |none=>none
noncomputable def Sv(il:Nat)(env:T D):Option nP->Option (Exit×bM)
 |some (.inl _,m,nx)=>match m.get il with
  |some (.lp .ready)=>Dt il env m nx .normal
  |some (.lp (.done .ret))=>Dt il env m nx .ret
  |some (.lp (.done (.exit i)))=>Dt il env m nx (.exit i)
  |_=>none
 |_=>none
abbrev q6:=Program->Ctx->Ev->Hd->Bool->bM->Option (Exit×bM)
noncomputable def Tz:q6:=fun _ _ _ _ _ s=>some (.normal,s)
noncomputable def abd(ops:Array Oper):Bool->q6
 |false=>fun P x ev hd _ s=>rz P hd (yv P x ev hd) ops ops.toList s
 |true=>fun P x ev hd _ s=>GO P hd (yv P x ev hd) (CQ P x ev) ops s (cg ops)
noncomputable def GR(ev:Ev)(hd:Hd)(rf:Bool)(b:Code):Option (Exit×bM)->Option (Exit×bM)
 |some (.normal,s)=>ev hd rf b s
 |r=>r
noncomputable def af1(a b:Code):q6:=fun _ _ ev hd rf s=>GR ev hd rf b (ev hd rf a s)
noncomputable def adg(c:Operand)(a b:Code):q6:=fun _ _ ev hd rf s=>match agX s.env c with
 | .s (.bool true)=>ev hd rf a s
 | .s (.bool false)=>ev hd rf b s
 |_=>none
noncomputable def Lr(id:Nat):Option (Exit×bM)->Option (Exit×bM)
 |some (.exit i,s)=>bif Nat.beq i id then some (.normal,s) else some (.exit i,s)
 |r=>r
noncomputable def acf(id:Nat)(b:Code):q6:=fun _ _ ev hd rf s=>Lr id (ev hd rf b s)
noncomputable def Ur:Option (Exit×bM)->Option (Exit×bM)
 |some (.goto _,_)=>none
 |r=>r
noncomputable def acg(b:Code):q6:=fun _ _ ev hd rf s=>Ur (ev hd rf b s)
noncomputable def adh(b:Code):q6:=fun _ _ ev hd rf s=>GR ev hd rf (.loop b) (ev hd rf b s)
noncomputable def KK(g:Operand)(ps:Array Tmp)(assign body:Code):q6:=fun P x ev hd rf s=>bif rf then match agX s.env g with
 | .fn (.func f) fs cs=>match s.mem.put s.nx (some (.lp .ready)) with
  |none=>none
  |some C=>Sv s.nx s.env (wy P x ev ((s.nx,CF ev hd s.nx s.env ps.toList assign body)::hd) f (fs++[.yl s.nx]++cs) C (s.nx+1))
 |_=>none
 else none
noncomputable def TA(e:Exit):q6:=fun _ _ _ _ _ s=>some (e,s)
noncomputable def adi:q6:=fun _ _ _ _ _ _=>none
noncomputable def codeF:Code->q6
 | .skip=>Tz
 | .region _ ops dr=>abd ops dr
 | .seq a b=>af1 a b
 | .cond c a b=>adg c a b
 | .block id b=>acf id b
 | .scope b=>acg b
 | .loop b=>adh b
 | .rangeFunc g ps assign body=>KK g ps assign body
 | .exit id=>TA (.exit id)
 | .label _=>Tz
 | .ret=>TA .ret
 |_=>adi
noncomputable def jW(P:Program)(x:Ctx):Nat->Ev
 |0=>fun _ _ _ _=>none
 |n+1=>fun hd rf c s=>codeF c P x (jW P x n) hd rf s
end Go.Abs
