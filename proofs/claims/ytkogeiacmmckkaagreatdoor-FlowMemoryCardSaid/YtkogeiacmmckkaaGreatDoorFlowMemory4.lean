/- Part 4. -/
import Derived.Test.YtkogeiacmmckkaaGreatDoorFlowMemory3
import Derived.IntWalk
import Derived.RangeFuncLeaves
set_option linter.all false
namespace Go.Abs
section
variable{P:Program}{F:Nat->Prop}{fn:Func}
def AH(tmps:Array Value):ResultVar->Sem Value
 | .tmp t=>pure (tmps.getD t undef)
 | .cell x t=>do loadVar t (<- asAddr (tmps.getD x undef))
theorem X7(fn:Func)(tmps:Array Value):results fn tmps=(do
 let vs<- fn.results.mapM (AH tmps)
 pure (if h:vs.size=1 then vs[0] else .tuple vs)):=by
 unfold results;congr 1
theorem ab8{st:St}{β:av}{w:World}{a:Act}(hs:bH P F st β w a){r:ResultVar}{p:Prop}{d:D}(h:r6 P st r=some (p,d))(hp:p):
 ∃ v,(AH a.tmps r).run P w=.ok v w/\R F β w d v:=by
 unfold r6 at h;split at h
 .cases h;exact⟨_,by simp[AH],hs.e _⟩
 .rename_i x t;have hx:=hs.e x;split at h
  .rename_i i off C;rw[C] at hx;split at h
   .rename_i cs e hm;cases h;obtain⟨b,o,room,sz,O,hv,af⟩:=hx.FD hs.m hm;obtain⟨u,hu,hr⟩:=D2 (P:=P) hp.1 (af.rd.1.drop off) oP;refine⟨u,?_,hr⟩;simp only[AH,hv,Sem.run_bind];simp[asAddr,hu]
   .cases h
  .rename_i cs C;rw[C] at hx;cases h;obtain⟨b,o,hv,_,_,_,J⟩:=hx.FE;obtain⟨u,hu,hr⟩:=D2 (P:=P) hp.1 J hp.2;refine⟨u,?_,hr⟩;simp only[AH,hv,Sem.run_bind];simp[asAddr,hu]
  .cases h
theorem P4{st:St}{β:av}{w:World}{a:Act}(hs:bH P F st β w a){K:List D->Prop}:∀ (rs:List ResultVar) (C:List D),oQ P st rs C K->
 ∃ vs ds,(rs.mapM (AH a.tmps)).run P w=.ok vs w/\vs.length=ds.length/\K (C++ds)/\
  ∀ (k:Nat) (d:D) (v:Value),ds[k]? =some d->vs[k]? =some v->R F β w d v
 |[],C,h=>⟨[],[],oS,rfl,by simpa[oQ] using h,oS⟩
 |r::rs,C,h=>by
  simp only[oQ] at h;split at h
  .rename_i p d hr;obtain⟨v,h1,h2⟩:=ab8 hs hr h.1;obtain⟨vs,ds,J,O,U,X⟩:=P4 hs rs _ h.2;refine⟨v::vs,d::ds,?_,by simp[O],by simpa using U,fun k d' v' hd hv=>?_⟩
   .rw[List.mapM_cons];simp only[Sem.run_bind];rw[h1];simp only[Result.andThen_ok,Sem.run_bind];rw[J];simp
   .cases k with
    |zero=>simp at hd hv;subst hd;subst hv;exact h2
    |succ k=>exact X k d' v' (by simpa using hd) (by simpa using hv)
  .exact h.elim
theorem D3{st:St}{β:av}{w:World}{a:Act}(hs:bH P F st β w a){K:D->Prop}(h:oQ P st fn.results.toList [] fun ds=>K (qF ds)):
 ∃ v d,(results fn a.tmps).run P w=.ok v w/\K d/\R F β w d v:=by
 obtain⟨vs,ds,h1,h2,C,J⟩:=P4 hs _ _ h;simp only[List.nil_append] at C;refine⟨if h:vs.toArray.size=1 then vs.toArray[0] else .tuple vs.toArray,qF ds,?_,C,?_⟩
 .rw[X7,Array.mapM_eq_mapM_toList];simp only[Sem.run_bind,map_eq_pure_bind,bind_assoc];rw[h1];simp
 .split
  .rename_i br;simp only[List.size_toArray] at br;obtain⟨v,rfl⟩:=List.length_eq_one_iff.1 br;obtain⟨d,rfl⟩:=List.length_eq_one_iff.1 (show ds.length=1 by simpa using h2.symm);exact J 0 d v rfl rfl
  .rename_i br;simp only[List.size_toArray] at br
   have:qF ds=.aT ds:=by
    unfold qF;split
    .rename_i d;simp at h2;exact absurd h2 br
    .rfl
   rw[this];exact .aT ds vs h2 J
theorem Xk{w:World}{b:Nat}{x:Option (List Deferred)}(h:w.heap[b]? =some (.deferred x))(o:Nat):w.cell? ⟨b,o,none⟩=none:=by
 simp[World.cell?,h]
theorem R.P5{w:World}{b:Nat}{x:Option (List Deferred)}(hb:w.heap[b]? =some (.deferred x))(o:Obj)(J:Nat):ll w (w.putObj b o) J:=by
 refine⟨fun k u hu=>?_,fun ms c hm=>?_⟩
 .have C:J≠b:=fun e=>by rw[e,Xk hb] at hu;cases hu
  exact(cell_of_heap (World.putObj_heap_other C)).trans hu
 .have C:J≠b:=fun e=>by rw[e,hb] at hm;cases hm
  exact(World.putObj_heap_other C).trans hm
theorem bH.lz{st:St}{β:av}{w:World}{a:Act}{b:Nat}{x:Option (List Deferred)}(hb:w.heap[b]? =some (.deferred x))(hf:β.free b)(o:Obj)(h:bH P F st β w a):bH P F st β (w.putObj b o) a:=
 ⟨fun t=>(h.e t).gen oS (fun C _ h1 h2=>⟨R.P5 hb o C,h2,h1⟩) fun _ _ _ h=>.inl h,⟨fun i r hi=>by
  obtain⟨p,hp,hr⟩:=h.m.row i r hi;exact⟨p,hp,hr.gen oS (fun C _ h1 h2=>⟨R.P5 hb o C,h2,h1⟩) (fun _ _ _ h=>.inl h) fun c hc=>World.putObj_heap_other fun e=>hf i p hp (e▸hc)⟩,
  h.m.inj,fun i p c hp hc=>by simpa using h.m.lt i p c hp hc,h.m.nf,h.m.fb.next (fun c hc=>by simpa using h.m.fb.lt c hc) (fun _ h=>h) fun t ht _=>World.putObj_heap_other fun e=>ab1 (h.m.fb.fH t ht).2 x (by rw[e];exact hb)⟩,h.n⟩
theorem Marks.put{β:av}{w:World}{lo b:Nat}(o:Obj):∀ {ds:List Deferred} {hi:Nat},hi<=b->Marks β w lo ds hi->Marks β (w.putObj b o) lo ds hi
 |[],_,_,_=>trivial
 |_::_,_,hle,⟨c,h1,h2,h3,h4,h5,h6⟩=>⟨c,h1,h2,h3,(World.putObj_heap_other oG).trans h4,h5,Marks.put o oG h6⟩
theorem N6{n:Nat}{tmps:Array Value}{R:Ending->World->Prop}{st:St}{β₀ β:av}{w₀:World}{a:Act}{u:FrameMode}(hu:u≠ .run):∀ (ds:List Deferred) (hi:Nat) (w:World),Marks β w w₀.heap.size ds hi->bH P F st β w a->Step β₀ w₀ β w->
 (∀ w',bH P F st β w' a->Step β₀ w₀ β w'->LeavesIn (Fe none) n P fn tmps R [] u w')->LeavesInM (Fe none) n P fn tmps R ds u w
 |[],_,w,_,hs,bF,K=>K w hs bF
 |d::ds,hi,w,⟨b,h1,h2,h3,h4,h5,h6⟩,hs,bF,K=>by
  subst h1;refine⟨hu,.inl ⟨b,_,rfl,run_takeDeferred h4,N6 hu ds b _ (h6.put _ (a6 _)) (hs.lz h4 h5 _) ?_ K⟩⟩;refine⟨by simpa using bF.size,fun c hc hf=>?_,bF.fG,bF.out.trans ⟨rfl,rfl⟩,fun i r hp C=>(bF.lp i r hp C).trans (mA (World.putObj_heap_other fun e=>h5 i _ C (by simp[Pl.bA,e])))⟩;obtain⟨J,O⟩:=bF.du c hc hf;exact⟨(World.putObj_heap_other oG).trans J,O⟩
def aek(P:Program)(fn:Func)(R:Ending->World->Prop)(a:Act)(w:World):Exit->Prop
 | .normal | .ret=>∃ v,(results fn a.tmps).run P w=.ok v w/\R (.returned v) w
 | .panic ch=>R (.panicked ch) w
 |_=>False
theorem IA{args:List D}(hn:args.length<=fn.ntmps){m:Mem}{nx:Nat}{β:av}{w:World}{vs:Array Value}(hm:ax P F m β w)(O:∀ i,nx<=i->β i=none)(hR:Rs F β w args vs):
 (vs++Array.replicate (fn.ntmps - vs.size) undef).size=fn.ntmps/\bH P F ⟨jW args,m,nx⟩ β w { tmps:=vs++Array.replicate (fn.ntmps - vs.size) undef,defers:=[] }:=by
 have br:(vs++Array.replicate (fn.ntmps - vs.size) undef).size=fn.ntmps:=by
  simp only[Array.size_append,Array.size_replicate,hR.1];omega
 let a₀:Act:={ tmps:=vs++Array.replicate (fn.ntmps - vs.size) undef,defers:=[] }
 have U:ez F β w (jW args) a₀:=fun t=>by
  unfold jW;rcases Nat.lt_or_ge t args.length with ag|J
  .have h1:args.getD t .u=args[t]:=by simp[ag]
   have h2:a₀.tmps.getD t undef=vs[t]'(by rw[hR.1];exact ag):=by
    show(vs++Array.replicate (fn.ntmps - vs.size) undef).getD t undef=_;have C:t<vs.size:=by rw[hR.1];exact ag
    simp[Array.getD_eq_getD_getElem?,Array.getElem?_append_left C,C]
   rw[h1,h2];exact hR.2 t _ _ (by simp[ag]) (by simp[hR.1,ag])
  .have h1:args.getD t .u=.u:=by simp[J]
   rw[h1];exact .u _
 exact⟨br,U,hm,O⟩
theorem Of{f:FuncId}{c:Code}(hf:P.funcs[f]? =some fn)(hb:fn.body=some c){args:List D}(hn:args.length<=fn.ntmps){m:Mem}{nx:Nat}{R:Ending->World->Prop}
 {β:av} {w:World} {vs:Array Value} (hm:ax P F m β w) (C:∀ i,nx<=i->β i=none) (hR:Rs F β w args vs)
 (h:∀ a:Act,a.tmps=vs++Array.replicate (fn.ntmps - vs.size) undef->a.tmps.size=fn.ntmps->a.defers=[]->bH P F ⟨jW args,m,nx⟩ β w a->c.wpIn (Fe none) 0 P (bodyPostM (Fe none) 0 P fn R) a w):Calls P f vs w R:=by
 refine(callsIn_wide (n:=0)).1 (callsIn_of_wp_marks hf hb trivial ?_);exact h _ rfl (IA hn hm C hR).1 rfl (IA hn hm C hR).2
theorem P6{f:FuncId}{c:Code}(hf:P.funcs[f]? =some fn)(hb:fn.body=some c){args:List D}(hn:args.length<=fn.ntmps){m:Mem}{nx:Nat}{Q:Exit->St->Prop}{R:Ending->World->Prop}
 {β:av} {w:World} {vs:Array Value} (hm:ax P F m β w) (dG:∀ i,nx<=i->β i=none) (hR:Rs F β w args vs)
 (h:∀ a:Act,a.tmps.size=fn.ntmps->bH P F ⟨jW args,m,nx⟩ β w a->c.wpIn (Fe none) 0 P (Cf P F nx β w a Q) a w)
 (pO:∀ e st' β' w' a',Q e st'->bH P F st' β' w' a'->Step β w β' w'->nx<=st'.nx->(∀ i,i<nx->β i=none->β' i=none)->aek P fn R a' w' e):Calls P f vs w R:=by
 refine Of hf hb hn hm dG hR fun a _ ha hd hs=>wpIn_mono (h a ha hs) fun e a' w' hp=>?_;obtain⟨st',β',hq,O,C⟩:=hp;obtain⟨ds,h1,h2⟩:=C.defers;rw[hd,List.append_nil] at h1;have hl:=fun J (Cx:bH P F st' β' J a') (X:Step β w β' J)=>pO e st' β' J a' hq Cx X C.le C.grow
 have U:∀ {u:FrameMode},u≠ .run->(∀ J,bH P F st' β' J a'->Step β w β' J->LeavesIn (Fe none) 0 P fn a'.tmps R [] u J)->LeavesInM (Fe none) 0 P fn a'.tmps R a'.defers u w':=fun hu hk=>by
  rw[h1];exact N6 hu ds _ w' h2 O C.step hk
 cases e with
 |normal=>exact U oS hl
 |ret=>exact U oS hl
 |panic ch=>exact U oS hl
 |exit=>exact hl w' O C.step
 |goto=>exact hl w' O C.step
 |outgrown=>exact(hl w' O C.step).elim
theorem En(jo:P.follows .mixedOrders=true){Y:fm}{f:FuncId}{c:Code}(hf:P.funcs[f]? =some fn)(hb:fn.body=some c)(ag:eP fn.ntmps c=true){args:List D}(hn:Nat.ble args.length fn.ntmps=true){m:Mem}{nx:Nat}{K:D->St->Prop}
 (h:AW P Y true c (jH P fn.results.toList K) ⟨jW args,m,nx⟩) {β:av} {w:World} {vs:Array Value} (hY:∀ l args m nx K,Y l args m nx K->oB P F β w l args m nx K) (hm:ax P F m β w) (dG:∀ i,nx<=i->β i=none) (hR:Rs F β w args vs):
 Calls P f vs w fun e w'=>∃ v d st' β',e=.returned v/\K d st'/\R F β' w' d v/\ax P F st'.mem β' w'/\(∀ i,st'.nx<=i->β' i=none)/\Step β w β' w'/\nx<=st'.nx/\∀ i,i<nx->β i=none->β' i=none:=by
 refine P6 hf hb (by simpa using hn) hm dG hR (fun a ha hs=>aam jo c F none 0 Y true nx β w a (fun _=>rfl) hY (by rw[ha];exact ag) _ _ β w a h hs (de.refl ⟨jW args,m,nx⟩ β w a).v8) fun e st' β' w' a' hq hs X C U=>?_
 have J:(oQ P st' fn.results.toList [] fun ds=>K (qF ds) st')->∃ v,(results fn a'.tmps).run P w'=.ok v w'/\∃ O d st' β',Ending.returned v=.returned O/\K d st'/\R F β' w' d O/\ax P F st'.mem β' w'/\(∀ i,st'.nx<=i->β' i=none)/\Step β w β' w'/\nx<=st'.nx/\∀ i,i<nx->β i=none->β' i=none:=fun hq=>by
  obtain⟨v,d,g1,g2,g3⟩:=D3 (K:=fun d=>K d st') hs hq;exact⟨v,g1,v,d,st',β',rfl,g2,g3,hs.m,hs.n,X,C,U⟩
 cases e with
 |normal=>exact J hq
 |ret=>exact J hq
 |_=>exact hq.elim
theorem D'{w:World}(C:FB F w):ax P F (fun _=>none) fw w:=
 ⟨fun i r h=>oH,fun i j p q b h=>oH,fun i p b h=>oH,fun i p b h=>oH,C⟩
theorem H6{β':av}{w w':World}(h:Step fw w β' w'):Kept w w':=
 ⟨h.size,fun b hb=>(h.du b hb fun i p hp=>by cases hp).1,h.out⟩
theorem Tr.Gd{d:D}(h:Tr d){β:av}{w:World}{v:Value}(hv:R F β w d v):R F fw w d v:=
 (h F β w v hv).lift fun b hb=>⟨fun e=>hb (.inl e),fun i p hp=>by cases hp⟩
structure tI(P:Program)(f:FuncId)(fn:Func)(c:Code):Prop where
 hf:P.funcs[f]? =some fn
 hb:fn.body=some c
 ag:eP fn.ntmps c=true
 he:jU P f=true
theorem aaq(jo:P.follows .mixedOrders=true){f:FuncId}{c:Code}(hf:tI P f fn c){args:List D}(hn:Nat.ble args.length fn.ntmps=true){m:Mem}{nx:Nat}{cB:D->Mem->Nat->Prop}
 (h:AW P iu true c (jH P fn.results.toList fun d st=>cB d st.mem st.nx) ⟨jW args,m,nx⟩):dB P f args m nx cB:=
 ⟨hf.he,fun F β w vs hm C hR=>(En jo hf.hf hf.hb hf.ag hn h (fun _ _ _ _ _ h=>h.elim) hm C hR).mono fun e w' ⟨v,d,st',β',h1,h2,J,O,U,X,h7,h8⟩=>⟨v,d,st'.mem,st'.nx,β',h1,h2,O,U,J,X,h7,h8⟩⟩
theorem aar(U:P.follows .mixedOrders=true){f:FuncId}{c:Code}(hf:tI P f fn c){args:List D}(hn:Nat.ble args.length fn.ntmps=true)(ht:∀ a∈args,Tr a){r:D}(hr:Tr r)
 (h:AW P iu true c (jH P fn.results.toList fun d _=>d=r) ⟨jW args,fun _=>none,0⟩):aG P f args r:=
 ⟨hf.he,ht,fun F w vs O hR=>(En U hf.hf hf.hb hf.ag hn h (fun _ _ _ _ _ h=>h.elim) (D' O) (fun _ _=>rfl) hR).mono fun e w' hp=>by
  obtain⟨v,d,st',β',h1,rfl,C,X,h5,J,h7,h8⟩:=hp
  exact⟨v,h1,hr.Gd C,H6 J⟩⟩
theorem P7{f:FuncId}{args:List D}(he:jU P f=true)(ht:∀ a∈args,Tr a){es:List D}(kp:∀ a∈es,Tr a){k:Nat}{t:TypeId}
 (h:∀ F w vs,FB F w->Rs F fw w args vs->Calls P f vs w fun e w'=>∃ v i m β',e=.returned v/\m i=some (.cells es t)/\R F β' w' (.rs i 0 k) v/\ax P F m β' w'/\Step fw w β' w'):gC P f args es k t:=
 ⟨he,ht,fun F w vs hF hR=>(h F w vs hF hR).mono fun e w' hp=>by
  obtain⟨v,i,m',β',h1,hi,h3,J,O⟩:=hp;obtain⟨p,hp,af⟩:=J.row i _ hi;refine⟨v,p,h1,?_,fun b hb=>⟨?_,J.lt i p b hp hb⟩,?_,?_,H6 O⟩
  .rintro rfl;cases af
  .rcases Nat.lt_or_ge b w.heap.size with ag|U
   .exact absurd hb ((O.du b ag fun i p hp=>by cases hp).2 i p hp)
   .exact U
  .have lift:∀ d∈es,∀ u,R F β' w' d u->R (fun x=>F x\/p.bA=some x) fw w' d u:=fun d hd u hu=>
    (kp d hd F β' w' u hu).lift fun b hb=>⟨fun e=>hb (by
     rcases e with e|e
     .exact .inl e
     .exact .inr fun gD=>gD i p hp e),fun i p hp=>by cases hp⟩
   cases af with
   |nil _=>exact .nil _
   |cells _ _ b o room sz c q1 q2 q3 q4 q5=>
    refine .cells es t b o room sz c q1 q2 q3 q4 fun j d hd=>?_;obtain⟨u,u1,u2,u3⟩:=q5 j d hd;exact⟨u,u1,lift d (cX hd) u u2,u3⟩
  .cases h3 with
   |js _ _ _ _ C _=>rw[C] at hp;cases hp;cases af
   |gu _ a C=>rw[C] at hp;cases hp;exact .gu 0 a (ai _ _ _)
   |ir _ _ a b o len room sz C=>rw[C] at hp;cases hp;exact .ir 0 0 a b o len room sz (ai _ _ _)
   |rs _ _ _ cap b o len room sz C X g2 g3 g4=>rw[C] at hp;cases hp;exact .rs 0 0 k cap b o len room sz (ai _ _ _) X g2 g3 g4⟩
theorem aas (J:P.follows .mixedOrders=true){f:FuncId}{c:Code}(hf:tI P f fn c){args:List D}(hn:Nat.ble args.length fn.ntmps=true)(ht:∀ a∈args,Tr a){es:List D}(O:∀ a∈es,Tr a){k:Nat}{t:TypeId}
 (h:AW P iu true c (jH P fn.results.toList fun d st=>∃ i,d=.rs i 0 k/\st.mem i=some (.cells es t)) ⟨jW args,fun _=>none,0⟩):gC P f args es k t:=
 P7 hf.he ht O fun F w vs C hR=>(En J hf.hf hf.hb hf.ag hn h (fun _ _ _ _ _ h=>h.elim) (D' C) (fun _ _=>rfl) hR).mono fun e w' ⟨v,d,st',β',h1,⟨i,hd,hi⟩,h3,h4,_,h6,_⟩=>⟨v,i,st'.mem,β',h1,hi,hd▸h3,h4,h6⟩
def Ur(C:Nat)(xs:List (List D))(I:Nat->Mem->Nat->Prop)(Stop:Mem->Nat->Prop):fm:=fun l args m nx cB=>
 l=C/\∃ k,xs[k]? =some args/\I k m nx/\∀ d m' an,QK I Stop k d m' an->cB d m' an
theorem oB.mono{β:av}{w:World}{l:Nat}{args:List D}{m:Mem}{nx:Nat}{K K':D->Mem->Nat->Prop}(hk:∀ d m nx,K d m nx->K' d m nx)(h:oB P F β w l args m nx K):oB P F β w l args m nx K':=
 fun β' w' us h1 h2 O U=>by
  obtain⟨f,tmps,assign,body,C,J⟩:=h β' w' us h1 h2 O U;exact⟨f,tmps,assign,body,C,fun n=>RoundIn.mono (F:=Fence.wide) (J n) fun e w' ⟨v,d,m',an,β',X,q2,q3⟩=>⟨v,d,m',an,β',X,hk _ _ _ q2,q3⟩⟩
theorem adl(jo:P.follows .mixedOrders=true){f:FuncId}{c:Code}(hf:tI P f fn c){fs cs:List D}(hn:Nat.ble (fs.length+1+cs.length) fn.ntmps=true){xs:List (List D)}
 (h:∀ (l:Nat) (I:Nat->Mem->Nat->Prop) (Stop:Mem->Nat->Prop) (m:Mem) (nx:Nat),(∀ k,B5 (I k))->B5 Stop->I 0 m nx->
  AW P (Ur l xs I Stop) true c (jH P fn.results.toList fun _ st=>I xs.length st.mem st.nx\/Stop st.mem st.nx) ⟨jW (fs++[.fn (.yield l) [] []]++cs),m,nx⟩):yj P f fs cs xs:=
 ⟨hf.he,fun F l I Stop m nx β w vs hI J hm O hR hy h0=>
  (En jo hf.hf hf.hb hf.ag (by simpa[Nat.add_assoc,Nat.add_comm,Nat.add_left_comm] using hn) (h l I Stop m nx hI J h0) (fun l' args m' an K hK=>by
   obtain⟨rfl,k,h1,h2,C⟩:=hK
   exact(hy k args m' an h1 h2).mono C) hm O hR).mono fun e w' ⟨v,d,st',β',h1,h2,C,U,X,h6,h7,h8⟩=>⟨v,d,st'.mem,st'.nx,β',h1,h2,U,X,C,h6,h7,h8⟩⟩
end
section
variable{P:Program}{Y:fm}{rf:Bool}{Q:Exit->St->Prop}{st:St}
theorem QQ(c a b):AW P Y rf (.cond c a b) Q st=((opd st.env c).ask/\match (opd st.env c).core with
 | .s (.bool t)=>(t=true->AW P Y rf a Q st)/\(t=false->AW P Y rf b Q st)
 | .ub=>AW P Y rf a Q st/\AW P Y rf b Q st
 |_=>False):=rfl
theorem QR{b:Code}(I:St->Prop)(μ:St->Nat)(h0:I st)(h:∀ st',I st'->AW P Y rf b (fW (fun J=>∃ C,aC P J C/\I C/\μ C<μ st') Q) st'):AW P Y rf (.loop b) Q st:=⟨I,μ,h0,h⟩
theorem dB.mono{f:FuncId}{args:List D}{m:Mem}{nx:Nat}{cB C:D->Mem->Nat->Prop}(h:dB P f args m nx cB)(hp:∀ d m' an,cB d m' an->C d m' an):dB P f args m nx C:=
 ⟨h.1,fun F β w vs hm hn hR=>(h.2 F β w vs hm hn hR).mono fun e w' ⟨v,d,m',an,β',h1,h2,J⟩=>⟨v,d,m',an,β',h1,hp _ _ _ h2,J⟩⟩
theorem vf.mono{dr:Bool}{f:FuncId}{args:List D}{K K':D->Mem->Nat->List Nat->List Nat->Prop}(hk:∀ d m nx rd wr,K d m nx rd wr->K' d m nx rd wr)(h:vf P dr st f args K):vf P dr st f args K':=by
 rcases h with⟨r,h1,h2⟩|⟨O,a7,r,h1,h2,C,J⟩|⟨es,n,t,h1,h2⟩|⟨h1,h2⟩|⟨r,aL,a7,h1,h2,C⟩|⟨es,n,t,aL,a7,h1,h2,C,J⟩
 .exact .inl ⟨r,h1,hk _ _ _ _ _ h2⟩
 .exact .inr (.inl ⟨O,a7,r,h1,h2,C,hk _ _ _ _ _ J⟩)
 .exact .inr (.inr (.inl ⟨es,n,t,h1,hk _ _ _ _ _ h2⟩))
 .exact .inr (.inr (.inr (.inl ⟨h1,h2.mono fun d m nx h=>hk _ _ _ _ _ h⟩)))
 .exact .inr (.inr (.inr (.inr (.inl ⟨r,aL,a7,h1,h2,hk _ _ _ _ _ C⟩))))
 .exact .inr (.inr (.inr (.inr (.inr ⟨es,n,t,aL,a7,h1,h2,C,hk _ _ _ _ _ J⟩))))
class dt(Y:fm):Prop where
 mono:∀ l args m nx K K',(∀ d m nx,K d m nx->K' d m nx)->Y l args m nx K->Y l args m nx K'
instance:dt iu:=⟨fun _ _ _ _ _ _ _ h=>h⟩
instance{l:Nat}{xs:List (List D)}{I:Nat->Mem->Nat->Prop}{Stop:Mem->Nat->Prop}:dt (Ur l xs I Stop):=⟨fun _ _ _ _ _ _ hk ⟨h1,k,h2,C,J⟩=>⟨h1,k,h2,C,fun d m nx h=>hk _ _ _ (J d m nx h)⟩⟩
theorem ju.mono[dt Y]{ops:Array Oper}{dr:Bool}{o:Oper}{K K':St->List Nat->List Nat->Prop}(hk:∀ st rd wr,K st rd wr->K' st rd wr)(h:ju P Y ops dr o st K):ju P Y ops dr o st K':=by
 unfold ju at h ⊢;split at h
 .refine⟨h.1,?_⟩;have h:=h.2;split at h
  .exact h.mono fun _ _ _ _ _ h=>hk _ _ _ h
  .split at h
   .exact⟨h.1,dt.mono _ _ _ _ _ _ (fun _ _ _ h=>hk _ _ _ h) h.2⟩
   .split at h
    .exact⟨h.1,hk _ _ _ h.2⟩
    .exact h
 .split at h
  .exact h
  .split at h
   .rcases h with⟨r,h1,h2⟩|⟨h1,h2⟩
    .exact .inl ⟨r,h1,hk _ _ _ h2⟩
    .exact .inr ⟨fun hc=>⟨(h1 hc).1,(h1 hc).2.mono fun _ _ _ _ _ h=>hk _ _ _ h⟩,fun hc=>hk _ _ _ (h2 hc)⟩
   .split at h
    .exact⟨fun hc=>⟨(h.1 hc).1,(h.1 hc).2.1,dt.mono _ _ _ _ _ _ (fun _ _ _ h=>hk _ _ _ h) (h.1 hc).2.2⟩,fun hc=>hk _ _ _ (h.2 hc)⟩
    split at h
    .split at h
     .rename_i hc;rw[if_pos hc];exact⟨h.1,hk _ _ _ h.2⟩
     .rename_i hc;rw[if_neg hc];exact⟨fun hc=>⟨(h.1 hc).1,(h.1 hc).2.1,hk _ _ _ (h.1 hc).2.2⟩,fun hc=>hk _ _ _ (h.2 hc)⟩
    .exact⟨h.1,hk _ _ _ h.2⟩
theorem aj.mono[dt Y]{ops:Array Oper}{dr:Bool}{cf:List (Nat×Nat)}{Q C:Exit->St->Prop}(hq:∀ st,Q .normal st->C .normal st):∀ (l:List Oper) (st:St) (tr:kO),aj P Y ops dr cf Q l st tr->aj P Y ops dr cf C l st tr
 |[],st,tr,h=>⟨h.1,hq _ h.2⟩
 |o::l,st,tr,h=>h.elim (fun h=>.inl (ju.mono (fun st' rd wr h=>aj.mono hq l st' _ h) h)) fun⟨h1,h2,e,J,O⟩=>.inr ⟨h1,h2,e,J,aj.mono hq l _ _ O⟩
theorem s4:∀ (c:Code) {Y:fm} [dt Y] {rf:Bool} {Q C:Exit->St->Prop} {st:St},(∀ e st,Q e st->C e st)->AW P Y rf c Q st->AW P Y rf c C st:=by
 intro c
 induction c with
 |skip=>intro Y _ rf;exact fun hq h=>hq _ _ h
 |ret=>intro Y _ rf;exact fun hq h=>hq _ _ h
 |exit id=>intro Y _ rf;exact fun hq h=>hq _ _ h
 |region id ops draw=>
  intro Y _ rf Q C st hq h;cases draw with
  |false=>exact aj.mono (hq .normal) _ _ _ h
  |true=>
   simp only[AW] at h ⊢;split at h
   .exact h.elim (fun h=>.inl (aj.mono (hq .normal) _ _ _ h)) fun h=>.inr ⟨h.1,aj.mono (fun st hs=>⟨hs.1,aj.mono (hq .normal) _ _ _ hs.2⟩) _ _ _ h.2⟩
   .exact h
 |seq a b J O=>
  intro Y _ rf Q C st hq h;refine J (fun e st' h=>?_) h;cases e with
  |normal=>obtain⟨U,hg,hb⟩:=h;exact⟨U,hg,O hq hb⟩
  |_=>exact hq _ _ h
 |cond c a b J O=>
  intro Y _ rf Q C st hq h;refine⟨h.1,?_⟩;have h:=h.2;split at h
  .exact⟨fun ht=>J hq (h.1 ht),fun ht=>O hq (h.2 ht)⟩
  .exact⟨J hq h.1,O hq h.2⟩
  .exact h
 |block id b ih=>
  intro Y _ rf Q C st hq h;refine ih (fun e st' h=>?_) h;cases e with
  |exit i=>
   simp only[gA] at h ⊢;split at h
   .rename_i hi;rw[if_pos hi];exact hq _ _ h
   .rename_i hi;rw[if_neg hi];exact hq _ _ h
  |_=>exact hq _ _ h
 |scope b ih=>
  intro Y _ rf Q C st hq h;refine ih (fun e st' h=>?_) h;cases e with
  |goto l=>exact h
  |_=>exact hq _ _ h
 |loop b ih=>
  intro Y _ rf Q C st hq h;obtain⟨I,μ,h0,h1⟩:=h;refine⟨I,μ,h0,fun st' hi=>ih (fun e U h=>?_) (h1 st' hi)⟩;cases e with
  |normal=>exact h
  |_=>exact hq _ _ h
 |label l=>intro Y _ rf;exact fun hq h=>hq _ _ h
 |rangeFunc g ps assign body J O=>
  intro Y _ rf Q C st hq h;obtain⟨Lr,GG,f,fs,cs,xs,I,X,GH,F9,Hk,zV,Ga⟩:=h;refine⟨Lr,GG,f,fs,cs,xs,I,X,GH,F9,Hk,fun k m nx x hx hI=>J (fun e s h=>?_) (zV k m nx x hx hI),fun m nx h=>hq _ _ (Ga m nx h)⟩;cases e with
  |normal=>
   refine O (fun e s h=>?_) h;cases e with
   |normal=>exact h
   |ret=>exact hq _ _ h
   |exit id=>exact hq _ _ h
   |_=>exact h
  |_=>exact h
 |_=>intro Y _ rf;exact fun _ h=>h.elim
theorem least{p:Nat->Prop}:∀ j,p j->∃ i,p i/\∀ k,p k->i<=k:=by
 intro j
 induction j using Nat.strongRecOn with
 |_ j ih=>
  intro hj;by_cases h:∃ k,k<j/\p k
  .obtain⟨k,hk,hp⟩:=h;exact ih k hk hp
  .exact⟨j,hj,fun k hk=>Nat.le_of_not_lt fun ag=>h ⟨k,ag,hk⟩⟩
open Classical in
theorem aau[dt Y]{b:Code}(J:Nat->St->Prop){j₀:Nat}(h0:J j₀ st)(h:∀ j st',J j st'->AW P Y rf b (fW (fun iW=>∃ U,aC P iW U/\∃ O,O<j/\J O U) Q) st'):AW P Y rf (.loop b) Q st:=by
 have C:∀ st,(∃ j,J j st)->∃ i,J i st/\∀ k,J k st->i<=k:=fun st ⟨j,hj⟩=>least j hj
 let μ:St->Nat:=fun st=>if h:∃ j,J j st then Classical.choose (C st h) else 0
 have hμ:∀ st,(hj:∃ j,J j st)->J (μ st) st/\∀ k,J k st->μ st<=k:=fun st hj=>by
  have:μ st=Classical.choose (C st hj):=by simp only[μ];rw[dif_pos hj]
  rw[this];exact Classical.choose_spec (C st hj)
 refine QR (fun st=>∃ j,J j st) μ ⟨j₀,h0⟩ fun st' hj=>s4 b (fun e iW hq=>?_) (h (μ st') st' (hμ st' hj).1);cases e with
 |normal=>
  obtain⟨U,hg,O,ag,X⟩:=hq;exact⟨U,hg,⟨O,X⟩,Nat.lt_of_le_of_lt ((hμ U ⟨O,X⟩).2 O X) ag⟩
 |_=>exact hq
end
section
variable{P:Program}{F:Nat->Prop}{β:av}{w:World}
theorem Tr.cu{c:Bool}{d:D}(h:Tr d):Tr (.cu c d):=fun F β w v hv=>by
 cases hv with
 |cu _ _ _ h1 h2=>exact .cu c d v (fun hc=>h F β w v (h1 hc)) h2
theorem Tr.agg{cs:List D}(h:∀ d∈cs,Tr d):Tr (.agg cs):=fun F β w v hv=>by
 obtain⟨vs,rfl,hl,hh⟩:=hv.qk;exact .agg cs vs hl fun k d u hd hu=>h d (cX hd) F β w u (hh k d u hd hu)
theorem Tr.aT{cs:List D}(h:∀ d∈cs,Tr d):Tr (.aT cs):=fun F β w v hv=>by
 obtain⟨vs,rfl,hl,hh⟩:=hv.zD;exact .aT cs vs hl fun k d u hd hu=>h d (cX hd) F β w u (hh k d u hd hu)
theorem Tr.sl{cs:List D}{n:Nat}(h:∀ d∈cs,Tr d):Tr (.sl cs n):=fun F β w v hv=>by
 cases hv with
 |gR a cap=>exact .gR a cap
 |sl _ _ b o cap us hf hb ag nL cW hc hh=>
  exact .sl cs n b o cap us (fun e=>e.elim hf fun e=>e hb) (fun i p hp=>by cases hp) ag nL cW hc fun k d hd=>h d (cX hd) F β w _ (hh k d hd)
theorem Tr.pt{cs:List D}(h:∀ d∈cs,Tr d):Tr (.pt cs):=fun F β w v hv=>by
 cases hv with
 |pt _ b o us hf hb ag hc hh=>
  exact .pt cs b o us (fun e=>e.elim hf fun e=>e hb) (fun i p hp=>by cases hp) ag hc fun k d hd=>h d (cX hd) F β w _ (hh k d hd)
theorem Tr.fn{f:Fn}{fs cs:List D}(h:∀ d∈fs,Tr d)(h':∀ d∈cs,Tr d):Tr (.fn f fs cs):=fun F β w v hv=>by
 cases hv with
 |fn _ _ _ us vs hl jt h1 h2=>
  exact .fn f fs cs us vs hl jt (fun k d u hd hu=>h d (cX hd) F β w u (h1 k d u hd hu)) fun k d u hd hu=>h' d (cX hd) F β w u (h2 k d u hd hu)
theorem Tr.im{es:List (Value×D)}(h:∀ x∈es,Tr x.2):Tr (.im es):=fun F β w v hv=>by
 cases hv with
 |im _ r ms clock hf hb hc hl dE hk hh=>
  exact .im es r ms clock (fun e=>e.elim hf fun e=>e hb) (fun i p hp=>by cases hp) hc hl dE hk fun k x m hx hm=>h x (cX hx) F β w _ (hh k x m hx hm)
theorem Tr.s(x:Value):Tr (.s x):=fun F β w v hv=>by
 obtain⟨rfl,h⟩:=hv.cm;exact .s _ h
theorem Tr.ub:Tr .ub:=fun F β w v hv=>by
 obtain⟨b,rfl⟩:=hv.B3;exact .ub b
theorem Tr.u:Tr .u:=fun F β w v _=>.u v
theorem Tr.z:Tr .z:=fun F β w v hv=>by
 rw[hv.ym];exact .z
theorem Tr.nil:∀ a∈([]:List D),Tr a:=fun _ h=>by cases h
theorem Tr.cons{d:D}{l:List D}(h:Tr d)(hl:∀ a∈l,Tr a):∀ a∈d::l,Tr a:=fun a ha=>by
 cases ha with
 |head=>exact h
 |tail _ ha=>exact hl a ha
theorem Tr.map{α:Type}{f:α->D}{l:List α}(h:∀ x,Tr (f x)):∀ a∈l.map f,Tr a:=fun a ha=>by
 obtain⟨x,_,rfl⟩:=List.mem_map.1 ha;exact h x
theorem Tr.flat{α:Type}{f:α->List D}{l:List α}(h:∀ x,∀ a∈f x,Tr a):∀ a∈l.flatMap f,Tr a:=fun a ha=>by
 obtain⟨x,_,hx⟩:=List.mem_flatMap.1 ha;exact h x a hx
end
def ay:List (Nat×D)->Env
 |[],_=>.u
 |(t,d)::l,j=>if j=t then d else ay l j
def lj:List (Nat×D)->Env->Prop
 |[],_=>True
 |(t,d)::l,env=>env t=d/\lj l env
theorem pz:∀ {l:List (Nat×D)} {env:Env},lj l env->∀ t,ay l t=env t\/ay l t=.u
 |[],_,_,_=>.inr rfl
 |(k,d)::l,env,h,t=>by
  simp only[ay];by_cases ht:t=k
  .subst ht;rw[if_pos rfl];exact .inl h.1.symm
  .rw[if_neg ht];exact pz h.2 t
def fz(env:Env):List Operand->Prop
 |[]=>True
 |x::xs=>(opd env x).ask/\fz env xs
theorem Qk{env:Env}:∀ {l:List Operand},fz env l->∀ x∈l,(opd env x).ask
 |[],_,x,h=>by cases h
 |y::l,h,x,hx=>by
  cases hx with
  |head=>exact h.1
  |tail _ hx=>exact Qk h.2 x hx
theorem oh{env:Env}{o:Op}(h:fz env o.operands.toList):asks env o:=by
 have:=Qk h;unfold asks;cases o<;>first|exact this|exact this _ bB
section
variable{P:Program}{Y:fm}{rf:Bool}
structure Ef(P:Program)(op:Op)(env:Env)(m:Mem)(nx:Nat)(e:cR):Prop where
 ok:aM P op (aZ env op) m nx=some e
 nc:cV (aZ env op) op=none
 ny:nD (aZ env op) op=none
variable{ops:Array Oper}{dr:Bool}{cf:List (Nat×Nat)}{Q:Exit->St->Prop}{rest:List Oper}{env:Env}{m:Mem}{nx:Nat}{tr:kO}{t:Nat}{op:Op}{ty:TypeId}{pos:String}{after:Array Edge}
 {pre:Prop} {v:D} {rd:List Nat}
theorem xE{d:Option Nat}{e:cR}(he:Ef P op env m nx e)(ha:asks env op)(hp:e.pre)(K:aj P Y ops dr cf Q rest (St.put ⟨env,bT m e.aL,nx+e.new⟩ d e.val) (tr++[(e.rd,e.aL.map (·.1))])):
 aj P Y ops dr cf Q (⟨d,op,ty,pos,after,none⟩::rest) ⟨env,m,nx⟩ tr:=by
 simp only[aj];refine .inl ?_;simp only[ju];rw[he.nc,he.ny,he.ok];exact⟨ha,hp,K⟩
theorem au(he:Ef P op env m nx ⟨pre,v,[],rd,0⟩)(ha:fz env op.operands.toList)(hp:pre)(K:aj P Y ops dr cf Q rest ⟨up env t v,m,nx⟩ (tr++[(rd,[])])):
 aj P Y ops dr cf Q (⟨some t,op,ty,pos,after,none⟩::rest) ⟨env,m,nx⟩ tr:=xE he (oh ha) hp K
theorem zJ{c a b:Operand}{g:Bool}(hc:(opd env c).core=.s (.bool g)):Ef P (.pick c a b) env m nx ⟨(g=true->(opd env a).ask/\(opd env a).core.eT.isSome=true)/\(g=false->(opd env b).ask/\(opd env b).core.eT.isSome=true),
 .s (.bool (if g then(opd env a).core.eT.getD false else(opd env b).core.eT.getD false)),[],[],0⟩:=⟨by simp only[aM,aZ,hc,D.eT],rfl,rfl⟩
theorem acz{c a b:Operand}{g x y:Bool}(hc:opd env c=.s (.bool g))(ha:(opd env a).core=.s (.bool x))(hb:(opd env b).core=.s (.bool y))(h1:g=true->(opd env a).ask)(h2:g=false->(opd env b).ask)
 (K:aj P Y ops dr cf Q rest ⟨up env t (.s (.bool (if g then x else y))),m,nx⟩ (tr++[([],[])])):
 aj P Y ops dr cf Q (⟨some t,.pick c a b,ty,pos,after,none⟩::rest) ⟨env,m,nx⟩ tr:=by
 refine xE (zJ (g:=g) (by rw[hc];rfl)) (by simp only[asks,hc,D.ask]) ⟨fun h=>⟨h1 h,by rw[ha];rfl⟩,fun h=>⟨h2 h,by rw[hb];rfl⟩⟩ ?_;simp only[ha,hb,D.eT,Option.getD_some];exact K
theorem aa1{c a b:Operand}{x:Bool}(hc:opd env c=.s (.bool true))(ha:(opd env a).core=.s (.bool x))(h1:(opd env a).ask)
 (K:aj P Y ops dr cf Q rest ⟨up env t (.s (.bool x)),m,nx⟩ (tr++[([],[])])):
 aj P Y ops dr cf Q (⟨some t,.pick c a b,ty,pos,after,none⟩::rest) ⟨env,m,nx⟩ tr:=by
 refine xE (zJ (g:=true) (by rw[hc];rfl)) (by simp only[asks,hc,D.ask]) ⟨fun _=>⟨h1,by rw[ha];rfl⟩,fun h=>by cases h⟩ ?_;simp only[ha,D.eT,Option.getD_some,if_true];exact K
theorem aa2{c a b:Operand}{y:Bool}(hc:opd env c=.s (.bool false))(hb:(opd env b).core=.s (.bool y))(h2:(opd env b).ask)
 (K:aj P Y ops dr cf Q rest ⟨up env t (.s (.bool y)),m,nx⟩ (tr++[([],[])])):
 aj P Y ops dr cf Q (⟨some t,.pick c a b,ty,pos,after,none⟩::rest) ⟨env,m,nx⟩ tr:=by
 refine xE (zJ (g:=false) (by rw[hc];rfl)) (by simp only[asks,hc,D.ask]) ⟨fun h=>oH,fun _=>⟨h2,by rw[hb];rfl⟩⟩ ?_;simp only[hb,D.eT,Option.getD_some,Bool.false_eq_true,if_false];exact K
theorem bD{i:Nat}{row:Option Row}(he:Ef P op env m nx ⟨pre,v,[(i,row)],rd,0⟩)(ha:fz env op.operands.toList)(hp:pre)(K:aj P Y ops dr cf Q rest ⟨env,up m i row,nx⟩ (tr++[(rd,[i])])):
 aj P Y ops dr cf Q (⟨none,op,ty,pos,after,none⟩::rest) ⟨env,m,nx⟩ tr:=xE he (oh ha) hp K
theorem iE{row:Row}(he:Ef P op env m nx ⟨pre,v,[(nx,some row)],rd,1⟩)(ha:fz env op.operands.toList)(hp:pre)(K:aj P Y ops dr cf Q rest ⟨up env t v,up m nx (some row),nx+1⟩ (tr++[(rd,[nx])])):
 aj P Y ops dr cf Q (⟨some t,op,ty,pos,after,none⟩::rest) ⟨env,m,nx⟩ tr:=xE he (oh ha) hp K
theorem lZ{i:Nat}{row:Row}(he:Ef P op env m nx ⟨pre,v,[(i,none),(nx,some row)],rd,1⟩)(ha:fz env op.operands.toList)(hp:pre)(K:aj P Y ops dr cf Q rest ⟨up env t v,up (up m i none) nx (some row),nx+1⟩ (tr++[(rd,[i,nx])])):
 aj P Y ops dr cf Q (⟨some t,op,ty,pos,after,none⟩::rest) ⟨env,m,nx⟩ tr:=xE he (oh ha) hp K
theorem bS{j:Nat}{b c:Bool}{u:Nat}(hj:(ops[j]?).bind (·.dst)=some u)(hg:jC (env u) b=some c)(he:Ef P op env m nx ⟨pre,v,[],rd,0⟩)(ha:c=true->fz env op.operands.toList/\pre)
 (K:aj P Y ops dr cf Q rest ⟨up env t (.cu c v),m,nx⟩ (tr++[(rd,[])])):aj P Y ops dr cf Q (⟨some t,op,ty,pos,after,some (j,b)⟩::rest) ⟨env,m,nx⟩ tr:=by
 simp only[aj];refine .inl ?_;simp only[ju];rw[hj];simp only[Option.bind_some];rw[hg,he.nc,he.ny,he.ok];exact⟨fun hc=>⟨oh (ha hc).1,(ha hc).2⟩,K⟩
theorem aa3{j:Nat}{b0 C:Bool}{u:Nat}(hj:(ops[j]?).bind (·.dst)=some u)(hg:jC (env u) b0=some C){c a b:Operand}{g x y:Bool}(hc:(opd env c).core=.s (.bool g))(ha:(opd env a).core=.s (.bool x))(hb:(opd env b).core=.s (.bool y))
 (h0:C=true->(opd env c).ask) (h1:C=true->g=true->(opd env a).ask) (h2:C=true->g=false->(opd env b).ask)
 (K:aj P Y ops dr cf Q rest ⟨up env t (.cu C (.s (.bool (if g then x else y)))),m,nx⟩ (tr++[([],[])])):
 aj P Y ops dr cf Q (⟨some t,.pick c a b,ty,pos,after,some (j,b0)⟩::rest) ⟨env,m,nx⟩ tr:=by
 have he:=zJ (P:=P) (env:=env) (m:=m) (nx:=nx) (a:=a) (b:=b) hc;simp only[ha,hb,D.eT,Option.getD_some,Option.isSome_some,and_true] at he;simp only[aj];refine .inl ?_;simp only[ju];rw[hj];simp only[Option.bind_some];rw[hg,he.nc,he.ny,he.ok];exact⟨fun hc=>⟨by simp only[asks];exact h0 hc,h1 hc,h2 hc⟩,K⟩
theorem aeK{j:Nat}{b:Bool}{u:Nat}{d:Option Nat}{e:cR}(hj:(ops[j]?).bind (·.dst)=some u)(hg:jC (env u) b=some true)(he:Ef P op env m nx e)(ha:fz env op.operands.toList)(hp:e.pre)
 (K:e.aL=[]->e.new=0->aj P Y ops dr cf Q rest (St.put ⟨env,m,nx⟩ d (.cu true e.val)) (tr++[(e.rd,[])]))
 (K':aj P Y ops dr cf Q rest (St.put ⟨env,bT m e.aL,nx+e.new⟩ d e.val) (tr++[(e.rd,e.aL.map (·.1))])):aj P Y ops dr cf Q (⟨d,op,ty,pos,after,some (j,b)⟩::rest) ⟨env,m,nx⟩ tr:=by
 simp only[aj];refine .inl ?_;simp only[ju];rw[hj];simp only[Option.bind_some];rw[hg,he.nc,he.ny,he.ok];simp only;split
 .rename_i h;simp only[aw,List.isEmpty_iff,beq_iff_eq] at h;exact⟨fun _=>⟨oh ha,hp⟩,K h.1 h.2⟩
 .exact⟨fun _=>⟨oh ha,hp,K'⟩,oS⟩
theorem Tv{j:Nat}{b:Bool}{u:Nat}{d:Option Nat}(hj:(ops[j]?).bind (·.dst)=some u)(hg:jC (env u) b=some false)
 (K:∀ (x:D) rd,aj P Y ops dr cf Q rest (St.put ⟨env,m,nx⟩ d (.cu false x)) (tr++[(rd,[])])):aj P Y ops dr cf Q (⟨d,op,ty,pos,after,some (j,b)⟩::rest) ⟨env,m,nx⟩ tr:=by
 simp only[aj];refine .inl ?_;simp only[ju];rw[hj];simp only[Option.bind_some];rw[hg];simp only;split
 .exact .inr ⟨oS,fun _=>K .u []⟩
 .split
  .exact⟨oS,fun _=>K .u []⟩
  .split
   .split
    .exact⟨oS,K _ _⟩
    .exact⟨oS,fun _=>K .u []⟩
   .exact⟨trivial,K .u []⟩
theorem al8{j:Nat}{b:Bool}{u t:Nat}(hj:(ops[j]?).bind (·.dst)=some u)(hg:jC (env u) b=some false)
 (K:∀ (x:D) rd,aj P Y ops dr cf Q rest ⟨up env t (.cu false x),m,nx⟩ (tr++[(rd,[])])):aj P Y ops dr cf Q (⟨some t,op,ty,pos,after,some (j,b)⟩::rest) ⟨env,m,nx⟩ tr:=Tv hj hg K
theorem EN{f:FuncId}{args:List D}{d:Option Nat}(hc:cV (aZ env op) op=some (f,args))(ha:fz env op.operands.toList)(h:vf P dr ⟨env,m,nx⟩ f args fun r m nx rd wr=>aj P Y ops dr cf Q rest (St.put ⟨env,m,nx⟩ d r) (tr++[(rd,wr)])):
 aj P Y ops dr cf Q (⟨d,op,ty,pos,after,none⟩::rest) ⟨env,m,nx⟩ tr:=by
 simp only[aj];refine .inl ?_;simp only[ju];rw[hc];exact⟨oh ha,h⟩
theorem oF{f:FuncId}{args:List D}{r:D}(h:aG P f args r)(hc:cV (aZ env op) op=some (f,args))(ha:fz env op.operands.toList)(K:aj P Y ops dr cf Q rest ⟨up env t r,m,nx⟩ (tr++[([],[])])):
 aj P Y ops dr cf Q (⟨some t,op,ty,pos,after,none⟩::rest) ⟨env,m,nx⟩ tr:=EN hc ha (.inl ⟨r,h,K⟩)
theorem rP{f:FuncId}{args es:List D}{n:Nat}{C:TypeId}(h:gC P f args es n C)(hc:cV (aZ env op) op=some (f,args))(ha:fz env op.operands.toList)(K:aj P Y ops dr cf Q rest ⟨up env t (.rs nx 0 n),up m nx (some (.cells es C)),nx+1⟩ (tr++[([],[nx])])):
 aj P Y ops dr cf Q (⟨some t,op,ty,pos,after,none⟩::rest) ⟨env,m,nx⟩ tr:=EN hc ha (.inr (.inr (.inl ⟨es,n,C,h,K⟩)))
theorem fU{f:FuncId}{args:List D}{d:Option Nat}{cB:D->Mem->Nat->Prop}(h:dB P f args m nx cB)(hc:cV (aZ env op) op=some (f,args))(ha:fz env op.operands.toList)
 (K:∀ r m' an,cB r m' an->aj P Y ops false cf Q rest (St.put ⟨env,m',an⟩ d r) (tr++[([],[])])):
 aj P Y ops false cf Q (⟨d,op,ty,pos,after,none⟩::rest) ⟨env,m,nx⟩ tr:=EN hc ha (.inr (.inr (.inr (.inl ⟨rfl,h.mono K⟩))))
theorem aeL{f:FuncId}{args C:List D}{r:D}{a7:List Nat}(h:aG P f C r)(hs:r.gL=true)(J:jM P a7 m args C)(hc:cV (aZ env op) op=some (f,args))(ha:fz env op.operands.toList)
 (K:aj P Y ops dr cf Q rest ⟨up env t r,m,nx⟩ (tr++[(a7,[])])):aj P Y ops dr cf Q (⟨some t,op,ty,pos,after,none⟩::rest) ⟨env,m,nx⟩ tr:=EN hc ha (.inr (.inl ⟨C,a7,r,J,h,hs,K⟩))
theorem xF{j:Nat}{b c:Bool}{u:Nat}{f:FuncId}{args:List D}{r:D}(hj:(ops[j]?).bind (·.dst)=some u)(hg:jC (env u) b=some c)(hc:cV (aZ env op) op=some (f,args))(h:c=true->fz env op.operands.toList/\aG P f args r)
 (K:aj P Y ops dr cf Q rest ⟨up env t (.cu c r),m,nx⟩ (tr++[([],[])])):aj P Y ops dr cf Q (⟨some t,op,ty,pos,after,some (j,b)⟩::rest) ⟨env,m,nx⟩ tr:=by
 simp only[aj];refine .inl ?_;simp only[ju];rw[hj];simp only[Option.bind_some];rw[hg,hc];exact .inl ⟨r,fun C=>⟨oh (h C).1,(h C).2⟩,K⟩
theorem aaY{j:Nat}{b:Bool}{u:Nat}{d:Option Nat}{f:FuncId}{args:List D}(hj:(ops[j]?).bind (·.dst)=some u)(hg:jC (env u) b=some true)(hc:cV (aZ env op) op=some (f,args))(ha:fz env op.operands.toList)
 (h:vf P dr ⟨env,m,nx⟩ f args fun r m nx rd wr=>aj P Y ops dr cf Q rest (St.put ⟨env,m,nx⟩ d r) (tr++[(rd,wr)])):aj P Y ops dr cf Q (⟨d,op,ty,pos,after,some (j,b)⟩::rest) ⟨env,m,nx⟩ tr:=by
 simp only[aj];refine .inl ?_;simp only[ju];rw[hj];simp only[Option.bind_some];rw[hg,hc];exact .inr ⟨fun _=>⟨oh ha,h⟩,oS⟩
theorem UP{l:Nat}{args:List D}{d:Option Nat}(hc:cV (aZ env op) op=none)(hy:nD (aZ env op) op=some (l,args))(ha:fz env op.operands.toList)(h:Y l args m nx fun r m' an=>aj P Y ops false cf Q rest (St.put ⟨env,m',an⟩ d r) (tr++[([],[])])):
 aj P Y ops false cf Q (⟨d,op,ty,pos,after,none⟩::rest) ⟨env,m,nx⟩ tr:=by
 simp only[aj];refine .inl ?_;simp only[ju];rw[hc,hy];exact⟨oh ha,trivial,h⟩
theorem K7{j:Nat}{b:Bool}{u:Nat}{l:Nat}{args:List D}{d:Option Nat}(hj:(ops[j]?).bind (·.dst)=some u)(hg:jC (env u) b=some true)(hc:cV (aZ env op) op=none)(hy:nD (aZ env op) op=some (l,args))(ha:fz env op.operands.toList)
 (h:Y l args m nx fun r m' an=>aj P Y ops false cf Q rest (St.put ⟨env,m',an⟩ d r) (tr++[([],[])])):aj P Y ops false cf Q (⟨d,op,ty,pos,after,some (j,b)⟩::rest) ⟨env,m,nx⟩ tr:=by
 simp only[aj];refine .inl ?_;simp only[ju];rw[hj];simp only[Option.bind_some];rw[hg,hc,hy];exact⟨fun _=>⟨oh ha,trivial,h⟩,oS⟩
def eX(K:St->Prop):Exit->St->Prop
 | .normal,st=>K st
 |_,_=>True
theorem aa{K:St->Prop}{st:St}(h:K st):aj P Y ops dr [] (eX K) [] st tr:=⟨oS,h⟩
theorem cG{K:St->Prop}{st:St}(hc:∀ q∈cf,mF tr q.1 q.2)(h:K st):aj P Y ops dr cf (eX K) [] st tr:=⟨hc,h⟩
variable{st:St}{a b c:Code}
theorem aj.iY{cf:List (Nat×Nat)}{K:St->Prop}{Q:Exit->St->Prop}[dt Y]{l:List Oper}(h:aj P Y ops dr cf (eX K) l st tr)(hk:∀ st,K st->Q .normal st):aj P Y ops dr cf Q l st tr:=
 aj.mono (Q:=eX K) (fun st h=>hk st h) l st tr h
theorem lJ[dt Y]{id:Nat}(h:aj P Y ops false [] (eX fun st=>Q .normal st) ops.toList st []):AW P Y rf (.region id ops false) Q st:=aj.iY h fun _ h=>h
theorem z6[dt Y]{id:Nat}(hi:cb ops=some cf)(h:aj P Y ops true cf (eX fun st=>Q .normal st) ops.toList st []):AW P Y rf (.region id ops true) Q st:=by
 show match cb ops with
  |some cf=>Fy P Y ops cf Q st
  |none=>False
 rw[hi];exact .inl (aj.iY h fun _ h=>h)
theorem JE[dt Y]{id:Nat}(hi:cb ops=some cf)(hl:tw ops=true)(h:aj P iu ops true cf (eX fun st=>aj P iu ops false [] (eX fun st=>Q .normal st) (ops.toList.drop (ops.size - 1)) st []) (ops.toList.take (ops.size - 1)) st []):AW P Y rf (.region id ops true) Q st:=by
 show match cb ops with
  |some cf=>Fy P Y ops cf Q st
  |none=>False
 rw[hi];exact .inr ⟨hl,aj.iY h fun _ h=>⟨rfl,aj.iY h fun _ h=>h⟩⟩
theorem Xt[dt Y]{id:Nat}(hi:cb ops=some cf)(hl:tw ops=true)(h:aj P iu ops true cf (eX fun st=>aj P iu ops false [] (eX fun st=>∃ st',aC P st st'/\AW P Y rf b Q st') (ops.toList.drop (ops.size - 1)) st []) (ops.toList.take (ops.size - 1)) st []):AW P Y rf (.seq (.region id ops true) b) Q st:=
 JE (rf:=rf) (id:=id) hi hl (aj.iY h fun _ h=>aj.iY h fun st h=>h)
theorem ap[dt Y]{id:Nat}(h:aj P Y ops false [] (eX fun st=>AW P Y rf b Q st) ops.toList st []):AW P Y rf (.seq (.region id ops false) b) Q st:=
 lJ (rf:=rf) (id:=id) (aj.iY h fun st h=>⟨st,.refl st,h⟩)
theorem gZ[dt Y]{id:Nat}(hi:cb ops=some cf)(h:aj P Y ops true cf (eX fun st=>AW P Y rf b Q st) ops.toList st []):AW P Y rf (.seq (.region id ops true) b) Q st:=
 z6 (rf:=rf) (id:=id) hi (aj.iY h fun st h=>⟨st,.refl st,h⟩)
theorem ca{st':St}(hg:aC P st st')(h:AW P Y rf b Q st'):∃ C,aC P st C/\AW P Y rf b Q C:=⟨st',hg,h⟩
theorem aI[dt Y]{id:Nat}(h:aj P Y ops false [] (eX fun st=>∃ st',aC P st st'/\AW P Y rf b Q st') ops.toList st []):AW P Y rf (.seq (.region id ops false) b) Q st:=
 lJ (rf:=rf) (id:=id) (aj.iY h fun _ h=>h)
theorem Br[dt Y]{id:Nat}(hi:cb ops=some cf)(h:aj P Y ops true cf (eX fun st=>∃ st',aC P st st'/\AW P Y rf b Q st') ops.toList st []):AW P Y rf (.seq (.region id ops true) b) Q st:=
 z6 (rf:=rf) (id:=id) hi (aj.iY h fun _ h=>h)
theorem S2[dt Y](J:St->Prop)(h:AW P Y rf a (fW J Q) st)(k:∀ st,J st->AW P Y rf b Q st):AW P Y rf (.seq a b) Q st:=
 s4 a (fun e st h=>by
  cases e with
  |normal=>exact⟨st,.refl st,k st h⟩
  |_=>exact h) h
theorem cL[dt Y](J:St->Prop)(h:AW P Y rf a (fW J Q) st)(k:∀ st,J st->∃ st',aC P st st'/\AW P Y rf b Q st'):AW P Y rf (.seq a b) Q st:=
 s4 a (fun e st h=>by
  cases e with
  |normal=>exact k st h
  |_=>exact h) h
theorem eF[dt Y](h:AW P Y rf b Q st):AW P Y rf (.seq .skip b) Q st:=⟨st,.refl st,h⟩
theorem hZ(h:Q .ret st):AW P Y rf (.seq .ret b) Q st:=h
theorem wS{id:Nat}(h:Q (.exit id) st):AW P Y rf (.seq (.exit id) b) Q st:=h
theorem XW{l:Nat}(h:AW P Y rf b Q st):AW P Y rf (.seq (.label l) b) Q st:=⟨st,.refl st,h⟩
theorem aX[dt Y](h:AW P Y rf (.seq a (.seq b c)) Q st):AW P Y rf (.seq (.seq a b) c) Q st:=by
 refine s4 a (fun e st h=>?_) h;cases e with
 |normal=>
  obtain⟨st',hg,h⟩:=h;refine⟨st',hg,s4 b (fun e st h=>?_) h⟩;cases e<;>exact h
 |_=>exact h
theorem aE{c:Operand}{x y:Code}{g:Bool}(hc:opd st.env c=.s (.bool g))(ht:g=true->AW P Y rf x Q st)(hf:g=false->AW P Y rf y Q st):AW P Y rf (.cond c x y) Q st:=by
 rw[QQ];rw[hc];exact⟨trivial,ht,hf⟩
theorem dP{c:Operand}{x y:Code}{g:Bool}(hc:opd st.env c=.s (.bool g))(ht:g=true->AW P Y rf (.seq x b) Q st)(hf:g=false->AW P Y rf (.seq y b) Q st):AW P Y rf (.seq (.cond c x y) b) Q st:=aE hc ht hf
theorem EO{c:Operand}{x y:Code}(hc:opd st.env c=.ub)(ht:AW P Y rf x Q st)(hf:AW P Y rf y Q st):AW P Y rf (.cond c x y) Q st:=by
 rw[QQ];rw[hc];exact⟨trivial,ht,hf⟩
theorem ot{id:Nat}(h:AW P Y rf b (gA id Q) st):AW P Y rf (.block id b) Q st:=h
theorem aca[dt Y]{α:Type}(S:α->St)(J:α->Prop)(μ:α->Nat)(U:α)(h0:st=S U)(hJ:J U)(h:∀ x,J x->AW P Y rf b (fW (fun st'=>∃ O C,aC P st' O/\O=S C/\J C/\μ C<μ x) Q) (S x)):AW P Y rf (.loop b) Q st:=by
 refine aau (fun j st=>∃ x,st=S x/\J x/\μ x=j) (j₀:=μ U) ⟨U,h0,hJ,rfl⟩ ?_;rintro j st ⟨x,rfl,hx,rfl⟩;refine s4 b (fun e st' hq=>?_) (h x hx);cases e with
 |normal=>
  obtain⟨O,C,h1,h2,X,h4⟩:=hq;exact⟨O,h1,μ C,h4,C,h2,X,rfl⟩
 |_=>exact hq
end
theorem ama{P:Program}{Y:fm}{rf:Bool}{Q:Exit->St->Prop}{st:St}{c:Operand}{x y:Code}(K:AW P Y rf y Q st)(h:opd st.env c=.s (.bool false):=by exact rfl):AW P Y rf (.cond c x y) Q st:=aE h (fun h=>by cases h) fun _=>K
theorem amb{P:Program}{Y:fm}{rf:Bool}{Q:Exit->St->Prop}{st:St}{c:Operand}{x y:Code}(K:AW P Y rf x Q st)(h:opd st.env c=.s (.bool true):=by exact rfl):AW P Y rf (.cond c x y) Q st:=aE h (fun _=>K) fun h=>by cases h
theorem K8{P:Program}{Y:fm}{rf:Bool}{Q:Exit->St->Prop}{st:St}{c:Operand}{x y b:Code}(K:AW P Y rf (.seq y b) Q st)(h:opd st.env c=.s (.bool false):=by exact rfl):AW P Y rf (.seq (.cond c x y) b) Q st:=aE h (fun h=>by cases h) fun _=>K
theorem K9{P:Program}{Y:fm}{rf:Bool}{Q:Exit->St->Prop}{st:St}{c:Operand}{x y b:Code}(K:AW P Y rf (.seq x b) Q st)(h:opd st.env c=.s (.bool true):=by exact rfl):AW P Y rf (.seq (.cond c x y) b) Q st:=aE h (fun _=>K) fun h=>by cases h
section
variable{P:Program}{env:Env}{m:Mem}{nx:Nat}{t:TypeId}{x y a:Operand}{d v:D}{k:IntKind}{n n':Int}{p q:TypeId}
theorem ie(hx:(opd env x).core=v):Ef P (.move x) env m nx ⟨True,v,[],[],0⟩:=⟨by simp only[aM,aZ,hx],rfl,rfl⟩
theorem ns(hx:(opd env x).core=v):Ef P (.assign x) env m nx ⟨True,v,[],[],0⟩:=⟨by simp only[aM,aZ,hx],rfl,rfl⟩
theorem RH(op:BinOp)(v:Value)(y:Operand):jZ P m op t (.s v) y=none:=by
 unfold jZ;split<;>first|rfl|(rename_i h;cases h)
theorem ac8{op:BinOp}{v w:Value}(h:∀ a b,v=.bool a->w=.bool b->False):oO P op t (.s v) (.s w)=(mS op v w).map fun r=>(r.1,.s r.2):=by
 cases v<;>cases w<;>first|rfl|exact(h _ _ rfl rfl).elim
theorem lm{op:BinOp}{v w u:Value}{pre:Prop}(hx:(opd env x).core=.s v)(hy:(opd env y).core=.s w)(hn:∀ a b,v=.bool a->w=.bool b->False)(hb:mS op v w=some (pre,u)):Ef P (.binOp op t x y p) env m nx ⟨pre,.s u,[],[],0⟩:=
 ⟨by simp only[aM,aZ,hx,hy,RH,ac8 hn,hb,Option.map_some],rfl,rfl⟩
section ints
variable(hx:(opd env x).core=.s (.int k n))(hy:(opd env y).core=.s (.int k n'))
include hx hy
theorem SQ:Ef P (.binOp .lss t x y p) env m nx ⟨k=k,.s (.bool (decide (n<n'))),[],[],0⟩:=lm hx hy oS rfl
theorem Gc:Ef P (.binOp .leq t x y p) env m nx ⟨k=k,.s (.bool (decide (n<=n'))),[],[],0⟩:=lm hx hy oS rfl
theorem KL:Ef P (.binOp .gtr t x y p) env m nx ⟨k=k,.s (.bool (decide (n'<n))),[],[],0⟩:=lm hx hy oS rfl
theorem SR:Ef P (.binOp .geq t x y p) env m nx ⟨k=k,.s (.bool (decide (n'<=n))),[],[],0⟩:=lm hx hy oS rfl
theorem KM:Ef P (.binOp .eql t x y p) env m nx ⟨k=k,.s (.bool (n==n')),[],[],0⟩:=lm hx hy oS rfl
theorem KN:Ef P (.binOp .neq t x y p) env m nx ⟨k=k,.s (.bool (n !=n')),[],[],0⟩:=lm hx hy oS rfl
theorem ac9:Ef P (.binOp .add t x y p) env m nx ⟨k=k,.s (.int k (k.wrap (n+n'))),[],[],0⟩:=lm hx hy oS rfl
theorem ac':Ef P (.binOp .sub t x y p) env m nx ⟨k=k,.s (.int k (k.wrap (n - n'))),[],[],0⟩:=lm hx hy oS rfl
theorem ada:Ef P (.binOp .quo t x y p) env m nx ⟨k=k/\n'≠0,.s (.int k (k.wrap (n.tdiv n'))),[],[],0⟩:=lm hx hy oS rfl
theorem aed:Ef P (.binOp .rem t x y p) env m nx ⟨k=k/\n'≠0,.s (.int k (n.tmod n')),[],[],0⟩:=lm hx hy oS rfl
theorem SU:Ef P (.binOp .and t x y p) env m nx ⟨k=k,.s (.int k (la .and k n n')),[],[],0⟩:=lm hx hy oS rfl
theorem ahl:Ef P (.binOp .or t x y p) env m nx ⟨k=k,.s (.int k (la .or k n n')),[],[],0⟩:=lm hx hy oS rfl
end ints
theorem aee{k':IntKind}(hx:(opd env x).core=.s (.int k n))(hy:(opd env y).core=.s (.int k' n')):Ef P (.binOp .shl t x y p) env m nx ⟨0<=n',.s (.int k (k.wrap (n*2 ^ (min n'.toNat k.bits)))),[],[],0⟩:=lm hx hy oS rfl
theorem aef{k':IntKind}(hx:(opd env x).core=.s (.int k n))(hy:(opd env y).core=.s (.int k' n')):Ef P (.binOp .shr t x y p) env m nx ⟨0<=n',.s (.int k (n.fdiv (2 ^ (min n'.toNat k.bits)))),[],[],0⟩:=lm hx hy oS rfl
theorem i64_in(n:Int)(h: -9223372036854775808<=n/\n<=9223372036854775807):IntKind.i64.wrap n=n:=Go.IntWalk.i64_in n h
theorem aeg(hx:(opd env x).core=.s (.int .i64 n))(hy:(opd env y).core=.s (.int .i64 n'))(hb: -9223372036854775808<=n+n'/\n+n'<=9223372036854775807):Ef P (.binOp .add t x y p) env m nx ⟨IntKind.i64=IntKind.i64,.s (.int .i64 (n+n')),[],[],0⟩:=by
 have:=ac9 (P:=P) (m:=m) (nx:=nx) (t:=t) (p:=p) hx hy
 rwa[i64_in _ hb] at this
theorem KO(hx:(opd env x).core=.s (.int .i64 n))(hy:(opd env y).core=.s (.int .i64 n'))(hb: -9223372036854775808<=n - n'/\n - n'<=9223372036854775807):Ef P (.binOp .sub t x y p) env m nx ⟨IntKind.i64=IntKind.i64,.s (.int .i64 (n - n')),[],[],0⟩:=by
 have:=ac' (P:=P) (m:=m) (nx:=nx) (t:=t) (p:=p) hx hy
 rwa[i64_in _ hb] at this
section strings
variable{s s':ByteArray}(hx:(opd env x).core=.s (.string s))(hy:(opd env y).core=.s (.string s'))
include hx hy
theorem RI:Ef P (.binOp .eql t x y p) env m nx ⟨True,.s (.bool (s.toList==s'.toList)),[],[],0⟩:=lm hx hy oS rfl
theorem RJ:Ef P (.binOp .neq t x y p) env m nx ⟨True,.s (.bool !(s.toList==s'.toList)),[],[],0⟩:=lm hx hy oS rfl
theorem adb:Ef P (.binOp .geq t x y p) env m nx ⟨True,.s (.bool !(Op.bytesLess s.toList s'.toList)),[],[],0⟩:=lm hx hy oS rfl
end strings
theorem ade{b C:Bool}(hx:(opd env x).core=.s (.bool b))(hy:(opd env y).core=.s (.bool C)):Ef P (.binOp .neq t x y p) env m nx ⟨ss P t=true,.s (.bool !(b==C)),[],[],0⟩:=
 ⟨by simp only[aM,aZ,hx,hy,RH,oO,Option.map_some],rfl,rfl⟩
theorem SV{b:Bool}(hx:(opd env x).core=.s (.bool b)):Ef P (.unOp .not t x) env m nx ⟨True,.s (.bool !b),[],[],0⟩:=⟨by simp only[aM,aZ,hx,AV,Option.map_some],rfl,rfl⟩
theorem ab4{z:List D}(hz:aV P t=z):Ef P (.alloc t) env m nx ⟨aB P t=true,.rp nx 0,[(nx,some (.cells z t))],[],1⟩:=⟨by simp only[aM,hz],rfl,rfl⟩
theorem SW{cs:List D}(hx:(opd env x).core=d)(hc:d.cells=cs):Ef P (.box t x) env m nx ⟨cs.all D.one=true,.rp nx 0,[(nx,some (.cells cs t))],[],1⟩:=⟨by simp only[aM,aZ,hx,hc],rfl,rfl⟩
theorem FA(hx:(opd env x).core=d)(hc:d.cells=[d]):Ef P (.box t x) env m nx ⟨[d].all D.one=true,.rp nx 0,[(nx,some (.cells [d] t))],[],1⟩:=SW hx hc
theorem te{cs:List D}(hx:(opd env x).core=.agg cs):Ef P (.box t x) env m nx ⟨cs.all D.one=true,.rp nx 0,[(nx,some (.cells cs t))],[],1⟩:=SW hx rfl
theorem RK{cs:List D}(hx:(opd env x).core=.pt (v::cs))(ha:bq P t=false):Ef P (.load t x) env m nx ⟨aB P t=true/\P.cellsOf t<=(v::cs).length,v,[],[],0⟩:=⟨by simp[aM,aZ,hx,jk,ha],rfl,rfl⟩
theorem lb{cs vs:List D}{n:Nat}(hx:(opd env x).core=.pt cs)(ha:bq P t=true)(hc:P.cellsOf t=n)(hv:cs.take n=vs):Ef P (.load t x) env m nx ⟨aB P t=true/\P.cellsOf t<=cs.length,.agg vs,[],[],0⟩:=⟨by simp[aM,aZ,hx,jk,ha,hc,hv],rfl,rfl⟩
theorem fQ{i off:Nat}{cs cs':List D}{e:TypeId}(hx:(opd env x).core=.rp i off)(hm:m i=some (.cells cs e))(hd:cs.drop off=v::cs')(ha:bq P t=false):Ef P (.load t x) env m nx ⟨aB P t=true/\off+P.cellsOf t<=cs.length,v,[],[i],0⟩:=⟨by simp[aM,aZ,hx,hm,jk,ha,hd],rfl,rfl⟩
theorem dI{i off:Nat}{cs vs:List D}{e:TypeId}{n:Nat}(hx:(opd env x).core=.rp i off)(hm:m i=some (.cells cs e))(ha:bq P t=true)(hc:P.cellsOf t=n)(hv:(cs.drop off).take n=vs):Ef P (.load t x) env m nx ⟨aB P t=true/\off+P.cellsOf t<=cs.length,.agg vs,[],[i],0⟩:=⟨by simp[aM,aZ,hx,hm,jk,ha,hc,hv],rfl,rfl⟩
theorem QN{i off:Nat}{cs cs' vs:List D}{e:TypeId}(hx:(opd env x).core=.rp i off)(hy:(opd env y).core=d)(hm:m i=some (.cells cs e))(hv:d.cells=vs)(hs:dL cs off vs=cs'):
 Ef P (.store t x y) env m nx ⟨aB P t=true/\vs.length=P.cellsOf t/\off+P.cellsOf t<=cs.length/\vs.all D.one=true,.aT [],[(i,some (.cells cs' e))],[i],0⟩:=⟨by simp only[aM,aZ,hx,hy,hm,hv,hs],rfl,rfl⟩
theorem di{i off:Nat}{cs cs':List D}{e:TypeId}(hx:(opd env x).core=.rp i off)(hy:(opd env y).core=d)(hm:m i=some (.cells cs e))(hv:d.cells=[d])(hs:cs.set off d=cs'):
 Ef P (.store t x y) env m nx ⟨aB P t=true/\[d].length=P.cellsOf t/\off+P.cellsOf t<=cs.length/\[d].all D.one=true,.aT [],[(i,some (.cells cs' e))],[i],0⟩:=QN hx hy hm hv hs
theorem eI{i off:Nat}{cs cs' vs:List D}{e:TypeId}(hx:(opd env x).core=.rp i off)(hy:(opd env y).core=.agg vs)(hm:m i=some (.cells cs e))(hs:dL cs off vs=cs'):
 Ef P (.store t x y) env m nx ⟨aB P t=true/\vs.length=P.cellsOf t/\off+P.cellsOf t<=cs.length/\vs.all D.one=true,.aT [],[(i,some (.cells cs' e))],[i],0⟩:=QN hx hy hm rfl hs
theorem QO{cs:List D}{j off:Nat}{C:TypeId}(hx:(opd env x).core=.pt cs)(hf:cJ P t j=some (off,C)):Ef P (.fieldAddr t x j) env m nx ⟨0<P.cellsOf C,.pt (cs.drop off),[],[],0⟩:=⟨by simp only[aM,aZ,hx,hf],rfl,rfl⟩
theorem nt{i o:Nat}{j off:Nat}{C:TypeId}{r:Row}(hx:(opd env x).core=.rp i o)(hm:m i=some r)(hf:cJ P t j=some (off,C)):Ef P (.fieldAddr t x j) env m nx ⟨0<P.cellsOf C,.rp i (o+off),[],[i],0⟩:=⟨by simp only[aM,aZ,hx,hf,hm],rfl,rfl⟩
theorem FC{i o:Nat}{r:Row}(hx:(opd env x).core=.rp i o)(hm:m i=some r):Ef P (.nilCheck x) env m nx ⟨True,.rp i o,[],[i],0⟩:=⟨by simp only[aM,aZ,hx,hm],rfl,rfl⟩
theorem KP{es cs:List D}{l sz:Nat}{e:TypeId}(hx:(opd env x).core=.sl es l)(hy:(opd env y).core=.s (.int k n))(he:aq P t=e)(hs:P.cellsOf e=sz)(hd:es.drop (n.toNat*sz)=cs):
 Ef P (.indexAddr t x y) env m nx ⟨aW P t=true/\0<=n/\n<l/\(n.toNat+1)*sz<=es.length,.pt cs,[],[],0⟩:=⟨by simp only[aM,aZ,hx,hy,he,hs,hd],rfl,rfl⟩
theorem J1{j off l sz:Nat}{e:TypeId}{r:Row}(hx:(opd env x).core=.rs j off l)(hy:(opd env y).core=.s (.int k n))(hm:m j=some r)(he:aq P t=e)(hs:P.cellsOf e=sz):
 Ef P (.indexAddr t x y) env m nx ⟨aW P t=true/\0<=n/\n<l,.rp j (off+n.toNat*sz),[],[j],0⟩:=⟨by simp only[aM,aZ,hx,hy,hm,he,hs],rfl,rfl⟩
theorem adf{j off sz l:Nat}{e:TypeId}{r:Row}(hx:(opd env x).core=.rp j off)(hy:(opd env y).core=.s (.int k n))(hm:m j=some r)(he:aq P t=e)(hs:P.cellsOf e=sz)(hl:nM P t=l):
 Ef P (.indexAddr t x y) env m nx ⟨nb P t=true/\0<=n/\n<l,.rp j (off+n.toNat*sz),[],[j],0⟩:=⟨by simp only[aM,aZ,hx,hy,hm,he,hs,hl],rfl,rfl⟩
section builtins
theorem xM{b:Builtin}{ts:Array TypeId}{args:Array Operand}{aS:List D}{e:cR}(hs:ts.size=args.size)(ha:args.toList.map (fun x=>(opd env x).core)=aS)(hb:dS P m nx b ts aS=some e):Ef P (.call { callee:=.builtin b,args:=args,argTypes:=ts }) env m nx e:=
 ⟨by simp only[aM];rw[if_pos hs];simp only[aZ];rw[ha,hb],rfl,rfl⟩
theorem SX{es:List D}{l:Nat}(hx:(opd env x).core=.sl es l):Ef P (.call { callee:=.builtin .len,args:= #[x],argTypes:= #[t] }) env m nx ⟨aW P t=true,.s (.int .i64 l),[],[],0⟩:=xM (aS:=[.sl es l]) rfl (by simp[hx]) rfl
theorem zX{i off l:Nat}{r:Row}(hx:(opd env x).core=.rs i off l)(hm:m i=some r):Ef P (.call { callee:=.builtin .len,args:= #[x],argTypes:= #[t] }) env m nx ⟨aW P t=true,.s (.int .i64 l),[],[i],0⟩:=xM (aS:=[.rs i off l]) rfl (by simp[hx]) (by simp[dS,kJ,hm])
theorem J2{b:ByteArray}(hx:(opd env x).core=.s (.string b)):Ef P (.call { callee:=.builtin .len,args:= #[x],argTypes:= #[t] }) env m nx ⟨eN P t=true,.s (.int .i64 b.size),[],[],0⟩:=xM (aS:=[.s (.string b)]) rfl (by simp[hx]) rfl
theorem aeh{k:IntKind}(hx:(opd env x).core=.s (.int k n))(hy:(opd env y).core=.s (.int k n')):Ef P (.call { callee:=.builtin .min,args:= #[x,y],argTypes:= #[t,t] }) env m nx ⟨k=k,.s (.int k (if n'<n then n' else n)),[],[],0⟩:=xM (aS:=[.s (.int k n),.s (.int k n')]) rfl (by simp[hx,hy]) rfl
structure Cells(m:Mem)(sz:Nat)(d:D)(p:Prop)(rd:List Nat)(k:Nat)(news:List D):Prop where
 ok:gY m sz d=some (p,rd,k,news)
theorem uF{es news:List D}{k sz:Nat}(h:es.take (k*sz)=news):Cells m sz (.sl es k) (k*sz<=es.length) [] k news:=⟨by simp[gY,h]⟩
theorem sT{i off k sz:Nat}{cs news:List D}{e:TypeId}(hm:m i=some (.cells cs e))(h:(cs.drop off).take (k*sz)=news):Cells m sz (.rs i off k) (off+k*sz<=cs.length) [i] k news:=⟨by simp[gY,hm,h]⟩
theorem adg{p:Prop}{rd:List Nat}{c sz:Nat}{news:List D}{e:TypeId}(hx:(opd env x).core=.z)(hy:(opd env y).core=d)(he:aq P t=e)(hs:P.cellsOf e=sz)(hc:Cells m sz d p rd c news):
 Ef P (.call { callee:=.builtin .append,args:= #[x,y],argTypes:= #[t,t] }) env m nx ⟨aW P t=true/\p/\0<sz/\c<=maxLen/\c*P.bytesOf e<=140737488355328,.rs nx 0 c,[(nx,some (.cells news e))],rd,1⟩:=by
 refine xM (aS:=[.z,d]) rfl (by simp[hx,hy]) ?_;simp only[dS];rw[if_pos oS];simp only[py,Array.getD_eq_getD_getElem?,List.getElem?_toArray,List.getElem?_cons_zero,Option.getD_some,he,hs,hc.ok]
theorem lN{p:Prop}{rd:List Nat}{c sz i off l:Nat}{cs cs' news:List D}{e:TypeId}(hx:(opd env x).core=.rs i off l)(hm:m i=some (.cells cs e))(hy:(opd env y).core=d)(he:aq P t=e)(hs:P.cellsOf e=sz)(hc:Cells m sz d p rd c news)(hn:cs.drop off++news=cs'):
 Ef P (.call { callee:=.builtin .append,args:= #[x,y],argTypes:= #[t,t] }) env m nx ⟨aW P t=true/\e=e/\p/\0<sz/\off+l*sz=cs.length/\l+c<=maxLen/\(l+c)*P.bytesOf e<=140737488355328/\i∉rd,.rs nx 0 (l+c),[(i,none),(nx,some (.cells cs' e))],i::rd,1⟩:=by
 refine xM (aS:=[.rs i off l,d]) rfl (by simp[hx,hy]) ?_;simp only[dS];rw[if_pos oS];simp only[py,Array.getD_eq_getD_getElem?,List.getElem?_toArray,List.getElem?_cons_zero,Option.getD_some,he,hs,hc.ok,hm,hn]
end builtins
theorem rq{cs cs':List D}{j:Nat}(hx:(opd env x).core=.aT cs)(hd:cs.drop j=v::cs'):Ef P (.extract x j) env m nx ⟨j<cs.length,v,[],[],0⟩:=by
 have h:cs[j]? =some v:=by
  have:(cs.drop j)[0]? =some v:=by rw[hd];rfl
  simpa using this
 exact⟨by simp[aM,aZ,hx,h],rfl,rfl⟩
theorem ab5{ps:Array (Nat×Operand)}{fs:Array Field}{cs z:List D}{C:List (Nat×D)}(hu:P.underlying t=some (.struct fs))(hz:aV P t=z)(hq:(ps.toList.map fun q=>(q.1,(opd env q.2).core))=C)
 (hf:iU (fun i=>(fs[i]?).map fun f=>(f.offset,P.cellsOf f.type)) z C=some cs):Ef P (.build t ps) env m nx ⟨aB P t=true/\fs.toList.all (fun f=>(P.info? f.type).isSome)=true,.agg cs,[],[],0⟩:=
 ⟨by simp only[aM,aZ,hu,hz,hq,hf,Option.map_some],rfl,rfl⟩
theorem I0{ps:Array (Nat×Operand)}{fs:Array Field}{C:List (Nat×Nat)}{cs z:List D}{J:List (Nat×D)}(hu:P.underlying t=some (.struct fs))(hp:(fs.toList.map fun(f:Field)=>(f.offset,P.cellsOf f.type))=C)(hz:aV P t=z)(hq:(ps.toList.map fun q=>(q.1,(opd env q.2).core))=J)
 (hf:iU (fun i=>C[i]?) z J=some cs):Ef P (.build t ps) env m nx ⟨aB P t=true/\fs.toList.all (fun f=>(P.info? f.type).isSome)=true,.agg cs,[],[],0⟩:=by
 refine ab5 hu hz hq ?_
 have:(fun(i:Nat)=>(fs[i]?).map fun(f:Field)=>(f.offset,P.cellsOf f.type))=fun(i:Nat)=>C[i]? :=by
  funext i;rw[<- hp];simp
 rw[this];exact hf
theorem BC{ps:Array (Nat×Operand)}{l sz:Nat}{e:TypeId}{cs z:List D}{C:List (Nat×D)}(he:aq P t=e)(hs:P.cellsOf e=sz)(hz:aV P e=z)(hq:(ps.toList.map fun q=>(q.1,(opd env q.2).core))=C)
 (hf:iU (fun i=>some (i*sz,sz)) (dq l z) C=some cs):Ef P (.buildSlice t l ps) env m nx ⟨cs.all D.one=true/\l*sz<=2 ^ 24/\aW P t=true/\l<=maxLen,.rs nx 0 l,[(nx,some (.cells cs e))],[],1⟩:=
 ⟨by simp only[aM,aZ,he,hs,hz,hq,hf,Option.map_some],rfl,rfl⟩
theorem RL{f:Fn}{fs cs:Array Operand}{J C:List D}(hf:fs.toList.map (fun x=>(opd env x).core)=J)(hc:cs.toList.map (fun x=>(opd env x).core)=C):Ef P (.makeFunc f fs cs) env m nx ⟨True,.fn f J C,[],[],0⟩:=⟨by simp only[aM,aZ,hf,hc],rfl,rfl⟩
theorem aei:Ef P (.makeMap t none) env m nx ⟨True,.mp nx,[(nx,some (.map []))],[],1⟩:=⟨by simp only[aM],rfl,rfl⟩
theorem I1{e:TypeId}{z:List D}(hx:(opd env x).core=.s (.int .i64 n))(hy:(opd env y).core=.s (.int .i64 n'))(he:aq P t=e)(hz:aV P e=z):
 Ef P (.makeSlice t x y) env m nx ⟨0<=n/\n=n'/\n<=9223372036854775807/\P.bytesOf e*n<=281474976710656/\aW P t=true,.rs nx 0 n.toNat,[(nx,some (.cells (dq n.toNat z) e))],[],1⟩:=⟨by simp only[aM,aZ,hx,hy,he,hz],rfl,rfl⟩
theorem adh{src:TypeId}{k':IntKind}(hx:(opd env x).core=.s (.int k n))(hu:P.underlying t=some (.int k')):Ef P (.convert src t x) env m nx ⟨aB P src=true,.s (.int k' (k'.wrap n)),[],[],0⟩:=⟨by simp only[aM,aZ,hx,hu],rfl,rfl⟩
theorem ab6{src e:TypeId}{b:ByteArray}(hx:(opd env x).core=.s (.string b))(hu:P.underlying t=some (.slice e))(he:P.underlying e=some (.int .u8)):
 Ef P (.convert src t x) env m nx ⟨eN P src=true/\b.size<=maxLen,.sl (b.data.toList.map fun c=>.s (.int .u8 c.toNat)) b.size,[],[],0⟩:=⟨by simp only[aM,aZ,hx,hu,he],rfl,rfl⟩
def qe(b:ByteArray):List Int:=b.data.toList.map fun c=>(c.toNat:Int)
theorem W9(b:ByteArray):(qe b).length=b.size:=by unfold qe;rw[List.length_map];rfl
theorem PX{src e:TypeId}{b:ByteArray}(hx:(opd env x).core=.s (.string b))(hu:P.underlying t=some (.slice e))(he:P.underlying e=some (.int .u8)):
 Ef P (.convert src t x) env m nx ⟨eN P src=true/\b.size<=maxLen,.sl ((qe b).map fun n=>.s (.int .u8 n)) (qe b).length,[],[],0⟩:=by
 have:=ab6 (P:=P) (env:=env) (m:=m) (nx:=nx) (t:=t) (src:=src) hx hu he;have h:(qe b).map (fun n=>D.s (.int .u8 n))=b.data.toList.map (fun c=>D.s (.int .u8 c.toNat)):=by rw[qe,List.map_map];rfl
 rw[W9,h];exact this
theorem QP{es es':List D}{l:Nat}{lo hi:Option Operand}{a b:Int}{e:TypeId}{sz:Nat}(hx:(opd env x).core=.sl es l)(he:aq P t=e)(hs:P.cellsOf e=sz)
 (ha:eg (lo.map fun x=>(opd env x).core) 0=some a) (hb:eg (hi.map fun x=>(opd env x).core) l=some b) (hd:(es.drop (a.toNat*sz)).take ((b - a).toNat*sz)=es'):
 Ef P (.slice t x lo hi none) env m nx ⟨aW P t=true/\0<=a/\a<=b/\b<=l,.sl es' (b - a).toNat,[],[],0⟩:=by
 refine⟨?_,rfl,rfl⟩;show kz P m t (opd env x).core (lo.map fun x=>(opd env x).core) (hi.map fun x=>(opd env x).core) (Option.map (fun x=>(opd env x).core) none)=_;rw[hx];simp only[kz,Option.map_none,ha,hb,he,hs,hd]
theorem PY{i off l:Nat}{cs:List D}{lo hi:Option Operand}{a b:Int}{e:TypeId}{sz:Nat}(hx:(opd env x).core=.rs i off l)(hm:m i=some (.cells cs e))(he:aq P t=e)(hs:P.cellsOf e=sz)
 (ha:eg (lo.map fun x=>(opd env x).core) 0=some a) (hb:eg (hi.map fun x=>(opd env x).core) l=some b):
 Ef P (.slice t x lo hi none) env m nx ⟨(aW P t=true/\sz=sz)/\0<=a/\a<=b/\b<=l,.rs i (off+a.toNat*sz) (b - a).toNat,[],[i],0⟩:=by
 refine⟨?_,rfl,rfl⟩;show kz P m t (opd env x).core (lo.map fun x=>(opd env x).core) (hi.map fun x=>(opd env x).core) (Option.map (fun x=>(opd env x).core) none)=_;rw[hx];simp only[kz,hm,Option.map_none,ha,hb,he,hs]
theorem aao{i:Nat}{es:List (Value×D)}{key:Value}{ok:Bool}{kt:TypeId}(hx:(opd env x).core=.mp i)(hm:m i=some (.map es))(hk:mT (opd env y).core=some key)(ht:fT P t=kt)(hg:fV P t ok (eu key es)=v):
 Ef P (.lookup t x y ok) env m nx ⟨iX P t=true/\df P kt key=true/\es.all (fun e=>df P kt e.1)=true,v,[],[i],0⟩:=by
 refine⟨?_,rfl,rfl⟩;show mB P m t (opd env x).core (opd env y).core ok=_;simp only[mB,hk,hx,hm,ht,hg]
theorem YU{es:List (Value×D)}{key:Value}{ok:Bool}{kt:TypeId}(hx:(opd env x).core=.im es)(hk:mT (opd env y).core=some key)(ht:fT P t=kt)(hg:fV P t ok (eu key es)=v):
 Ef P (.lookup t x y ok) env m nx ⟨iX P t=true/\df P kt key=true/\es.all (fun e=>df P kt e.1)=true,v,[],[],0⟩:=by
 refine⟨?_,rfl,rfl⟩;show mB P m t (opd env x).core (opd env y).core ok=_;simp only[mB,hk,hx,ht,hg]
theorem adi{i:Nat}{es:List (Value×D)}{key:Value}{z:Operand}{kt:TypeId}(hx:(opd env x).core=.mp i)(hm:m i=some (.map es))(hk:mT (opd env y).core=some key)(hz:(opd env z).core=v)(ht:fT P t=kt):
 Ef P (.mapUpdate t x y z) env m nx ⟨iX P t=true/\df P kt key=true/\es.all (fun e=>df P kt e.1)=true,.aT [],[(i,some (.map (lz key v es)))],[i],0⟩:=by
 refine⟨?_,rfl,rfl⟩;show mC P m t (opd env x).core (opd env y).core (opd env z).core=_;simp only[mC,hk,hx,hm,ht,hz]
end
theorem lI{α:Type}{f:α->D}:∀ {l:List α} {k:Nat} {x:α},l[k]? =some x->(l.map f).drop k=f x::(l.drop (k+1)).map f
 |[],k,x,h=>by simp at h
 |a::l,0,x,h=>by simp at h;subst h;rfl
 |a::l,k+1,x,h=>by simpa using lI (f:=f) (l:=l) (k:=k) (by simpa using h)
theorem O7{α:Type}{f:α->List D}{sz:Nat}(hs:∀ x,(f x).length=sz):∀ {l:List α} {k:Nat} {x:α},l[k]? =some x->(l.flatMap f).drop (k*sz)=f x++(l.drop (k+1)).flatMap f
 |[],k,x,h=>by simp at h
 |a::l,0,x,h=>by simp at h;subst h;simp
 |a::l,k+1,x,h=>by
  have h1:(k+1)*sz=(f a).length+k*sz:=by rw[hs];rw[Nat.add_mul];omega
  simp only[List.flatMap_cons,h1,List.drop_append,List.drop_succ_cons];rw[List.drop_of_length_le oG];have:(f a).length+k*sz - (f a).length=k*sz:=by omega
  rw[this];simpa using O7 hs (l:=l) (k:=k) (by simpa using h)
theorem ux{α:Type}{f:α->List D}{sz:Nat}(hs:∀ x,(f x).length=sz):∀ (l:List α),(l.flatMap f).length=l.length*sz
 |[]=>by simp
 |a::l=>by simp only[List.flatMap_cons,List.length_append,hs,ux hs l,List.length_cons,Nat.add_mul];omega
section
variable{P:Program}{env:Env}{m:Mem}{nx:Nat}{t e:TypeId}{x y:Operand}{k:IntKind}
theorem RM{α:Type}{f:α->D}{l:List α}{i n:Nat}{z:α}(hx:(opd env x).core=.sl (l.map f) n)(hy:(opd env y).core=.s (.int k i))(he:aq P t=e)(hs:P.cellsOf e=1)(hz:l[i]? =some z):
 Ef P (.indexAddr t x y) env m nx ⟨aW P t=true/\0<=(i:Int)/\(i:Int)<n/\((i:Int).toNat+1)*1<=(l.map f).length,.pt (f z::(l.drop (i+1)).map f),[],[],0⟩:=
 KP hx hy he hs (by rw[iv,Nat.mul_one];exact lI hz)
theorem RN{α:Type}{f:α->D}{l:List α}{i:Nat}{z:α}(ht:aW P t=true)(hz:l[i]? =some z):aW P t=true/\0<=(i:Int)/\(i:Int)<l.length/\((i:Int).toNat+1)*1<=(l.map f).length:=by
 have:=(bU.1 hz).1;exact⟨ht,oG,oG,by simp;omega⟩
theorem xv{α:Type}{f:α->List D}{sz:Nat}{l:List α}{i n:Nat}{z:α}(hx:(opd env x).core=.sl (l.flatMap f) n)(hy:(opd env y).core=.s (.int k i))(he:aq P t=e)(hs:P.cellsOf e=sz)(hl:∀ x,(f x).length=sz)(hz:l[i]? =some z):
 Ef P (.indexAddr t x y) env m nx ⟨aW P t=true/\0<=(i:Int)/\(i:Int)<n/\((i:Int).toNat+1)*sz<=(l.flatMap f).length,.pt (f z++(l.drop (i+1)).flatMap f),[],[],0⟩:=
 KP hx hy he hs (by rw[iv];exact O7 hl hz)
theorem xx{α:Type}{f:α->List D}{sz:Nat}{l:List α}{i:Nat}{z:α}(ht:aW P t=true)(hl:∀ x,(f x).length=sz)(hz:l[i]? =some z):aW P t=true/\0<=(i:Int)/\(i:Int)<l.length/\((i:Int).toNat+1)*sz<=(l.flatMap f).length:=by
 have:=(bU.1 hz).1;refine⟨ht,oG,oG,?_⟩;rw[ux hl,iv];exact Nat.mul_le_mul_right _ this
theorem RO{v:D}{cs:List D}(ht:aB P t=true)(hc:P.cellsOf t=1):aB P t=true/\P.cellsOf t<=(v::cs).length:=⟨ht,by rw[hc];simp⟩
theorem fR{v:D}{cs cs':List D}{off:Nat}(ht:aB P t=true)(hc:P.cellsOf t=1)(hd:cs.drop off=v::cs'):aB P t=true/\off+P.cellsOf t<=cs.length:=by
 refine⟨ht,?_⟩;have:(cs.drop off).length=cs'.length+1:=by rw[hd];rfl
 rw[List.length_drop] at this;omega
theorem lc{n:Nat}{cs:List D}(ht:aB P t=true)(hc:P.cellsOf t=n)(hl:n<=cs.length):aB P t=true/\P.cellsOf t<=cs.length:=⟨ht,by rw[hc];exact hl⟩
theorem dJ{n off:Nat}{cs:List D}(ht:aB P t=true)(hc:P.cellsOf t=n)(hl:off+n<=cs.length):aB P t=true/\off+P.cellsOf t<=cs.length:=⟨ht,by rw[hc];exact hl⟩
theorem lP{n:Nat}(hc:P.cellsOf t=n+1):0<P.cellsOf t:=by omega
theorem bN{n off:Nat}{cs vs:List D}(ht:aB P t=true)(hc:P.cellsOf t=n)(hv:vs.length=n/\off+n<=cs.length)(ho:vs.all D.one=true):aB P t=true/\vs.length=P.cellsOf t/\off+P.cellsOf t<=cs.length/\vs.all D.one=true:=
 ⟨ht,by rw[hc];exact hv.1,by rw[hc];exact hv.2,ho⟩
end
section
variable{P:Program}{K:D->St->Prop}{st:St}
theorem xy(h:K (.aT []) st):jH P [] K .ret st:=h
theorem xz(h:K (.aT []) st):jH P [] K .normal st:=h
theorem aN{t:Nat}{d:D}(hd:st.env t=d)(h:K d st):jH P [.tmp t] K .ret st:=⟨trivial,by subst hd;exact h⟩
theorem zY{t u:Nat}{d e:D}(hd:st.env t=d)(he:st.env u=e)(h:K (.aT [d,e]) st):jH P [.tmp t,.tmp u] K .ret st:=⟨trivial,trivial,by subst hd;subst he;exact h⟩
theorem iM{a i off n:Nat}{ty e:TypeId}{cs vs:List D}(ha:st.env a=.rp i off)(hm:st.mem i=some (.cells cs e))(hg:bq P ty=true)(hc:P.cellsOf ty=n)(hv:(cs.drop off).take n=vs)(ht:aB P ty=true)(hl:off+n<=cs.length):
 ∃ p,r6 P st (.cell a ty)=some (p,.agg vs)/\p:=⟨aB P ty=true/\off+n<=cs.length,by simp only[r6,ha,hm,jk,hg,if_true,hc,hv],ht,hl⟩
theorem lh{a:Nat}{ty:TypeId}{d:D}(hr:∃ p,r6 P st (.cell a ty)=some (p,d)/\p)(h:K d st):jH P [.cell a ty] K .ret st:=by
 obtain⟨p,h1,h2⟩:=hr;simp only[jH,oQ,h1];exact⟨h2,h⟩
theorem Bx{a t:Nat}{ty:TypeId}{d e:D}(hr:∃ p,r6 P st (.cell a ty)=some (p,d)/\p)(he:st.env t=e)(h:K (.aT [d,e]) st):jH P [.cell a ty,.tmp t] K .ret st:=by
 obtain⟨p,h1,h2⟩:=hr;simp only[jH,oQ,h1];exact⟨h2,trivial,by subst he;exact h⟩
end
section
variable{P:Program}{Y:fm}{rf:Bool}{Q:Exit->St->Prop}{st:St}
theorem ao{l:List (Nat×D)}{env:Env}{m:Mem}{nx:Nat}(h:lj l env):aC P ⟨env,m,nx⟩ ⟨ay l,m,nx⟩:=.forget env _ m nx (pz h)
def LI(P:Program):List (Nat×List D×TypeId)->Mem->Prop
 |[],_=>True
 |(i,cs,e)::fs,m=>m i=some (.cells cs e)/\LI P fs (fun j=>if j=i then none else(m j).map (Row.sub (c7 i cs (P.cellsOf e))))
def A1(P:Program):List (Nat×List D×TypeId)->D->D
 |[],d=>d
 |(i,cs,e)::fs,d=>A1 P fs (sub (c7 i cs (P.cellsOf e)) d)
theorem O8:∀ {fs:List (Nat×List D×TypeId)} {env:Env} {m:Mem} {nx:Nat},LI P fs m->∃ m',aC P ⟨env,m,nx⟩ ⟨fun t=>A1 P fs (env t),m',nx⟩
 |[],env,m,nx,_=>⟨m,.refl _⟩
 |(i,cs,e)::fs,env,m,nx,⟨h1,h2⟩=>by
  obtain⟨m',h⟩:=O8 (env:=fun t=>sub (c7 i cs (P.cellsOf e)) (env t)) (nx:=nx) h2;exact⟨m',(aC.freeze env m nx i cs e h1).trans h⟩
theorem dX{env:Env}{m:Mem}{nx:Nat}(fs:List (Nat×List D×TypeId))(hf:LI P fs m){l:List (Nat×D)}(hl:lj l fun t=>A1 P fs (env t)):aC P ⟨env,m,nx⟩ ⟨ay l,fun _=>none,nx⟩:=by
 obtain⟨m',h⟩:=O8 (env:=env) (nx:=nx) hf;exact h.trans ((aC.forget _ _ _ _ (pz hl)).trans (aC.drop _ _ _ _ fun _=>.inr rfl))
def mI(ix id:Nat)(next:St->Prop)(Q:Exit->St->Prop):Exit->St->Prop
 | .normal,s=>next s
 | .exit i,s=>if i=ix then next s else if i=id then Q .normal s else Q (.exit i) s
 |e,s=>Q e s
def Am(P:Program){α:Type}(S:α->St)(J:α->Prop)(μ:α->Nat)(x:α)(s:St):Prop:=∃ C,aC P s (S C)/\J C/\μ C<μ x
theorem bQ{α:Type}{S:α->St}{J:α->Prop}{μ:α->Nat}{x:α}{s:St}(C:α)(hg:aC P s (S C))(O:J C)(U:μ C<μ x):Am P S J μ x s:=⟨C,hg,O,U⟩
theorem EF[dt Y]{b:Code}{α:Type}(S:α->St)(J:α->Prop)(μ:α->Nat)(C:α)(hg:aC P st (S C))(X:J C)(h:∀ x,J x->AW P Y rf b (fW (Am P S J μ x) Q) (S x)){a:Code}(ha:∀ st,Q .normal st->Q .normal st):
 ∃ st',aC P st st'/\AW P Y rf (.loop b) Q st':=
 ⟨S C,hg,aca S J μ C rfl X fun x hx=>s4 b (fun e st' hq=>by
  cases e with
  |normal=>
   obtain⟨O,h1,h2,U⟩:=hq;exact⟨S O,O,h1,rfl,h2,U⟩
  |_=>exact hq) (h x hx)⟩
variable{id ix t i1 i2 i3 i4:Nat}{rc ri:Array Oper}{body rest:Code}{α:Type}
theorem Jt[dt Y]{ri:Array Oper}{next:St->Prop}{s:St}(h:AW P Y rf body (mI ix id (fun s=>aj P Y ri false [] (eX next) ri.toList s []) Q) s):
 AW P Y rf (.seq (.block ix body) (.region i3 ri false)) (fW next (gA id Q)) s:=by
 refine s4 body (fun e s h=>?_) h;have hr:∀ s,aj P Y ri false [] (eX next) ri.toList s []->∃ s',aC P s s'/\AW P Y rf (.region i3 ri false) (fW next (gA id Q)) s':=fun s h=>⟨s,.refl s,lJ (rf:=rf) (id:=i3) (aj.iY h fun _ h=>h)⟩
 cases e with
 |normal=>exact hr s h
 |exit i=>
  simp only[mI] at h;simp only[gA];split at h
  .rename_i hi;rw[if_pos hi];exact hr s h
  .rename_i hi;rw[if_neg hi];simp only[fW,gA];exact h
 |_=>exact h
theorem cZ[dt Y](S:α->St)(J:α->Prop)(μ:α->Nat)(C:α)(hg:aC P st (S C))(U:J C)
 (h:∀ x,J x->aj P Y rc false [] (eX fun s=>∃ g,opd s.env (.tmp t)=.s (.bool g)/\(g=true->AW P Y rf body (mI ix id (fun s=>aj P Y ri false [] (eX (Am P S J μ x)) ri.toList s []) Q) s)/\(g=false->Q .normal s)) rc.toList (S x) []):
 ∃ st',aC P st st'/\AW P Y rf (.block id (.loop (.seq (.region i1 rc false) (.seq (.cond (.tmp t) .skip (.exit id)) (.seq (.block ix body) (.region i3 ri false)))))) Q st':=by
 refine EF (Q:=gA id Q) S J μ C hg U (fun x hx=>?_) (a:=.skip) fun _ h=>h;refine lJ (rf:=rf) (id:=i1) (aj.iY (h x hx) fun s hs=>?_);obtain⟨g,h1,h2,O⟩:=hs;refine⟨s,.refl s,dP h1 (fun X=>?_) fun yN=>?_⟩
 .exact eF (Jt (h2 X))
 .refine wS ?_;simp only[fW,gA,if_true];exact O yN
theorem rN[dt Y](S:α->St)(J:α->Prop)(μ:α->Nat)(C:α)(hg:aC P st (S C))(U:J C)
 (h:∀ x,J x->aj P Y rc false [] (eX fun s=>∃ g,opd s.env (.tmp t)=.s (.bool g)/\(g=true->AW P Y rf body (mI ix id (fun s=>aj P Y ri false [] (eX (Am P S J μ x)) ri.toList s []) Q) s)/\(g=false->Q .normal s)) rc.toList (S x) []):
 ∃ st',aC P st st'/\AW P Y rf (.block id (.loop (.seq (.seq (.region i1 rc false) (.cond (.tmp t) .skip (.exit id))) (.seq (.block ix body) (.region i3 ri false))))) Q st':=by
 refine EF (Q:=gA id Q) S J μ C hg U (fun x hx=>?_) (a:=.skip) fun _ h=>h;refine aX (lJ (rf:=rf) (id:=i1) (aj.iY (h x hx) fun s hs=>?_));obtain⟨g,h1,h2,O⟩:=hs;refine⟨s,.refl s,dP h1 (fun X=>?_) fun yN=>?_⟩
 .exact eF (Jt (h2 X))
 .refine wS ?_;simp only[fW,gA,if_true];exact O yN
theorem aav[dt Y]{next:St->Prop}{s:St}(h:AW P Y rf body (mI ix id next Q) s):AW P Y rf (.block ix body) (fW next (gA id Q)) s:=by
 refine s4 body (fun e s h=>?_) h;cases e with
 |exit i=>
  simp only[mI] at h;simp only[gA];split at h
  .rename_i hi;rw[if_pos hi];exact h
  .rename_i hi;rw[if_neg hi];simp only[fW,gA];exact h
 |_=>exact h
theorem acb[dt Y](S:α->St)(J:α->Prop)(μ:α->Nat)(C:α)(hg:aC P st (S C))(U:J C)
 (h:∀ x,J x->aj P Y rc false [] (eX fun s=>∃ g,opd s.env (.tmp t)=.s (.bool g)/\(g=true->AW P Y rf body (mI ix id (Am P S J μ x) Q) s)/\(g=false->Q .normal s)) rc.toList (S x) []):
 ∃ st',aC P st st'/\AW P Y rf (.block id (.loop (.seq (.seq (.region i1 rc false) (.cond (.tmp t) .skip (.exit id))) (.block ix body)))) Q st':=by
 refine EF (Q:=gA id Q) S J μ C hg U (fun x hx=>?_) (a:=.skip) fun _ h=>h;refine aX (lJ (rf:=rf) (id:=i1) (aj.iY (h x hx) fun s hs=>?_));obtain⟨g,h1,h2,O⟩:=hs;refine⟨s,.refl s,dP h1 (fun X=>?_) fun yN=>?_⟩
 .exact eF (aav (h2 X))
 .refine wS ?_;simp only[fW,gA,if_true];exact O yN
theorem ig{s:St}(h:Q .normal s):AW P Y rf .skip Q s:=h
theorem cM{s:St}(h:Q .ret s):AW P Y rf .ret Q s:=h
theorem fC{next:St->Prop}{s:St}(h:Q .ret s):mI ix id next Q .ret s:=h
theorem cw{K:St->Prop}{s:St}(h:Q .ret s):fW K Q .ret s:=h
theorem gi{s:St}(h:Q .ret s):gA id Q .ret s:=h
theorem Ju{s:St}(h:Q .ret s):JZ Q .ret s:=h
theorem J3{next:St->Prop}{s:St}(h:next s):mI ix id next Q (.exit ix) s:=by simp only[mI,if_true];exact h
theorem aeo{i:Nat}{next:St->Prop}{s:St}(h2:i≠ix)(h1:i≠id)(h:Q (.exit i) s):mI ix id next Q (.exit i) s:=by simp only[mI,if_neg h2,if_neg h1];exact h
theorem wW[dt Y]{a:Code}(h:AW P Y rf a (gA id (fW (fun st=>AW P Y rf rest Q st) Q)) st):AW P Y rf (.seq (.block id a) rest) Q st:=S2 (fun st=>AW P Y rf rest Q st) (ot h) fun _ h=>h
theorem vg{s:St}(h:AW P Y rf rest Q s):AW P Y rf .skip (gA id (fW (fun st=>AW P Y rf rest Q st) Q)) s:=h
theorem RP[dt Y]{a:Code}(h:AW P Y rf a (fW (fun st=>AW P Y rf rest Q st) Q) st):AW P Y rf (.seq a rest) Q st:=S2 _ h fun _ h=>h
theorem gq[dt Y]{r:Array Oper}{i:Nat}{J:St->Prop}(h:aj P Y r false [] (eX J) r.toList st []):AW P Y rf (.region i r false) (fW J Q) st:=lJ (rf:=rf) (id:=i) (aj.iY h fun _ h=>h)
theorem iQ[dt Y]{r:Array Oper}{i:Nat}{J:St->Prop}(h:aj P Y r false [] (eX J) r.toList st []):AW P Y rf (.region i r false) (gA id (fW J Q)) st:=lJ (rf:=rf) (id:=i) (aj.iY h fun _ h=>h)
theorem bJ{J:St->Prop}(h:J st):AW P Y rf .skip (fW J Q) st:=h
theorem sU{J:St->Prop}(h:J st):AW P Y rf .skip (gA id (fW J Q)) st:=h
theorem c6[dt Y]{a:Code}(R:St->Prop)(h:∃ st',aC P st st'/\AW P Y rf a (fW R Q) st')(k:∀ s,R s->∃ s',aC P s s'/\AW P Y rf rest Q s'):∃ st',aC P st st'/\AW P Y rf (.seq a rest) Q st':=by
 obtain⟨st',hg,h⟩:=h;exact⟨st',hg,cL R h k⟩
end
def Real(d:D):Prop:=∃ F β w v,R F β w d v
theorem Real.sl{es:List D}{n:Nat}(h:Real (.sl es n)):n<=maxLen/\∀ d∈es,Real d:=by
 obtain⟨F,β,w,v,h⟩:=h;cases h with
 |gR=>simp[maxLen]
 |sl _ _ b o cap us hf hb ag nL cW hc hh=>
  refine⟨Nat.le_trans nL cW,fun d hd=>?_⟩;obtain⟨k,hk⟩:=fI hd;exact⟨F,β,w,_,hh k d hk⟩
theorem Real.agg{cs:List D}(h:Real (.agg cs)):∀ d∈cs,Real d:=by
 obtain⟨F,β,w,v,h⟩:=h;obtain⟨vs,rfl,hl,hh⟩:=h.qk;intro d hd;obtain⟨k,hk⟩:=fI hd;have:k<vs.length:=by rw[hl];exact(bU.1 hk).1
 exact⟨F,β,w,_,hh k d vs[k] hk (by simp[this])⟩
theorem QT{F:Nat->Prop}{β:av}{w:World}{args:List D}{vs:Array Value}(h:Rs F β w args vs):∀ a∈args,Real a:=fun a ha=>by
 obtain⟨k,hk⟩:=fI ha;have:k<vs.size:=by rw[h.1];exact(bU.1 hk).1
 exact⟨F,β,w,vs[k],h.2 k a _ hk (by simp[this])⟩
theorem qb{P:Program}{f:FuncId}{args:List D}{r:D}(he:jU P f=true)(ht:∀ a∈args,Tr a)(h:(∀ a∈args,Real a)->aG P f args r):aG P f args r:=
 ⟨he,ht,fun F w vs C hR=>(h (QT hR)).2.2 F w vs C hR⟩
theorem X9{P:Program}{f:FuncId}{args es:List D}{n:Nat}{t:TypeId}(he:jU P f=true)(ht:∀ a∈args,Tr a)(h:(∀ a∈args,Real a)->gC P f args es n t):gC P f args es n t:=
 ⟨he,ht,fun F w vs C hR=>(h (QT hR)).2.2 F w vs C hR⟩
section
variable{P:Program}{m:Mem}{a7:List Nat}
theorem cz{a:D}(h:Tr a):Sn P a7 m a a:=fun _ _ _ _ _ hv=>h.Gd hv
theorem Cl{i off n:Nat}{cs es:List D}{e:TypeId}(hm:m i=some (.cells cs e))(hi:i∈a7)(J:(cs.drop off).take (n*P.cellsOf e)=es)(ht:∀ a∈es,Tr a):Sn P a7 m (.rs i off n) (.sl es n):=fun F β w v hl hv=>by
 subst J;obtain⟨p,hp,hr,X⟩:=hl i hi _ hm;cases hv with
 |js _ _ _ _ h1 _=>rw[h1] at hp;cases hp;cases hr
 |gu _ a h1=>
  rw[h1] at hp;cases hp;cases hr;simp only[List.drop_nil,List.take_nil];exact .gR a 0
 |ir _ _ a b o len room sz h1=>
  simp only[Nat.zero_mul,List.take_zero];exact .gR a 0
 |rs _ _ _ cap b o len room sz h1 hn cW h2 h3=>
  rw[h1] at hp;cases hp
  have ag:b<w.heap.size:=by
   cases hr with
   |cells _ _ _ _ _ _ c hb _ _ _ _=>exact(Array.getElem?_eq_some_iff.1 hb).1
  obtain⟨C,hl,br,_⟩:=hr.rd;obtain⟨us,O,U⟩:=(C.drop off).take (n*P.cellsOf e);exact .sl _ n b (o+off) cap us (X b rfl) (fun k q hq=>by cases hq) ag hn cW O fun k d hk=>(ht d (cX hk)).Gd (U k d hk)
variable{Y:fm}{rf:Bool}{ops:Array Oper}{dr:Bool}{cf:List (Nat×Nat)}{Q:Exit->St->Prop}{rest:List Oper}{env:Env}{nx:Nat}{tr:kO}{t:Nat}{op:Op}{ty:TypeId}{pos:String}{after:Array Edge}
 {pre:Prop} {v:D} {rd:List Nat}
theorem ady{j:Nat}{b:Bool}{u:Nat}{row:Row}(hj:(ops[j]?).bind (·.dst)=some u)(hg:jC (env u) b=some true)(he:Ef P op env m nx ⟨pre,v,[(nx,some row)],rd,1⟩)(ha:fz env op.operands.toList)(hp:pre)
 (K:aj P Y ops dr cf Q rest ⟨up env t v,up m nx (some row),nx+1⟩ (tr++[(rd,[nx])])):aj P Y ops dr cf Q (⟨some t,op,ty,pos,after,some (j,b)⟩::rest) ⟨env,m,nx⟩ tr:=
 aeK hj hg he ha hp (fun h=>by cases h) K
theorem FT{j:Nat}{b:Bool}{u:Nat}{f:FuncId}{args C:List D}{r:D}{a7:List Nat}(h:aG P f C r)(hs:r.gL=true)(hj:(ops[j]?).bind (·.dst)=some u)(hg:jC (env u) b=some true)(hc:cV (aZ env op) op=some (f,args))(J:jM P a7 m args C)(ha:fz env op.operands.toList)
 (K:aj P Y ops dr cf Q rest ⟨up env t r,m,nx⟩ (tr++[(a7,[])])):aj P Y ops dr cf Q (⟨some t,op,ty,pos,after,some (j,b)⟩::rest) ⟨env,m,nx⟩ tr:=
 aaY hj hg hc ha (.inr (.inl ⟨C,a7,r,J,h,hs,K⟩))
end
section
variable{P:Program}{Y:fm}{rf:Bool}{ops:Array Oper}{dr:Bool}{cf:List (Nat×Nat)}{Q:Exit->St->Prop}{rest:List Oper}{env:Env}{m:Mem}{nx:Nat}{tr:kO}{t:Nat}{ty:TypeId}{pos:String}{after:Array Edge}
theorem Zr{j:Nat}{b0 C:Bool}{u:Nat}(hj:(ops[j]?).bind (·.dst)=some u)(hg:jC (env u) b0=some C){c a b:Operand}{x:Bool}(hc:(opd env c).core=.s (.bool true))(ha:(opd env a).core=.s (.bool x))
 (h0:C=true->(opd env c).ask) (h1:C=true->(opd env a).ask) (K:aj P Y ops dr cf Q rest ⟨up env t (.cu C (.s (.bool x))),m,nx⟩ (tr++[([],[])])):
 aj P Y ops dr cf Q (⟨some t,.pick c a b,ty,pos,after,some (j,b0)⟩::rest) ⟨env,m,nx⟩ tr:=by
 have he:=zJ (P:=P) (env:=env) (m:=m) (nx:=nx) (a:=a) (b:=b) hc;simp only[ha,D.eT,Option.getD_some,if_true] at he;simp only[aj];refine .inl ?_;simp only[ju];rw[hj];simp only[Option.bind_some];rw[hg,he.nc,he.ny,he.ok];exact⟨fun hc=>⟨by simp only[asks];exact h0 hc,fun _=>⟨h1 hc,rfl⟩,fun h=>by cases h⟩,K⟩
theorem Zs{j:Nat}{b0 C:Bool}{u:Nat}(hj:(ops[j]?).bind (·.dst)=some u)(hg:jC (env u) b0=some C){c a b:Operand}{y:Bool}(hc:(opd env c).core=.s (.bool false))(hb:(opd env b).core=.s (.bool y))
 (h0:C=true->(opd env c).ask) (h1:C=true->(opd env b).ask) (K:aj P Y ops dr cf Q rest ⟨up env t (.cu C (.s (.bool y))),m,nx⟩ (tr++[([],[])])):
 aj P Y ops dr cf Q (⟨some t,.pick c a b,ty,pos,after,some (j,b0)⟩::rest) ⟨env,m,nx⟩ tr:=by
 have he:=zJ (P:=P) (env:=env) (m:=m) (nx:=nx) (a:=a) (b:=b) hc;simp only[hb,D.eT,Option.getD_some,Bool.false_eq_true,if_false] at he;simp only[aj];refine .inl ?_;simp only[ju];rw[hj];simp only[Option.bind_some];rw[hg,he.nc,he.ny,he.ok];exact⟨fun hc=>⟨by simp only[asks];exact h0 hc,fun h=>oH,fun _=>⟨h1 hc,rfl⟩⟩,K⟩
variable{id:Nat}{st:St}
theorem uJ[dt Y]{i:Nat}{J:St->Prop}(hi:cb ops=some cf)(h:aj P Y ops true cf (eX J) ops.toList st []):AW P Y rf (.region i ops true) (gA id (fW J Q)) st:=z6 (rf:=rf) (id:=i) hi (aj.iY h fun _ h=>h)
theorem BV[dt Y]{i:Nat}{J:St->Prop}(hi:cb ops=some cf)(h:aj P Y ops true cf (eX J) ops.toList st []):AW P Y rf (.region i ops true) (fW J Q) st:=z6 (rf:=rf) (id:=i) hi (aj.iY h fun _ h=>h)
theorem aaZ{r:Option Row}{i:Nat}(h:m i=r):∀ j,up (fun _=>none) i r j=m j\/up (fun _=>none) i r j=none:=fun j=>by
 by_cases hj:j=i
 .subst hj;left;rw[ai,h]
 .right;rw[aA _ _ hj]
theorem EM[dt Y]{i ix:Nat}{next:St->Prop}(hi:cb ops=some cf)(h:aj P Y ops true cf (eX next) ops.toList st []):AW P Y rf (.region i ops true) (mI ix id next Q) st:=z6 (rf:=rf) (id:=i) hi (aj.iY h fun _ h=>h)
theorem fv[dt Y]{i ix:Nat}{next:St->Prop}(h:aj P Y ops false [] (eX next) ops.toList st []):AW P Y rf (.region i ops false) (mI ix id next Q) st:=lJ (rf:=rf) (id:=i) (aj.iY h fun _ h=>h)
def cq:List (Nat×Row)->Mem
 |[],_=>none
 |(i,r)::l,j=>if j=i then some r else cq l j
def Cb:List (Nat×Row)->Mem->Prop
 |[],_=>True
 |(i,r)::l,m=>m i=some r/\Cb l m
theorem JD:∀ {l:List (Nat×Row)} {m:Mem},Cb l m->∀ i,cq l i=m i\/cq l i=none
 |[],_,_,_=>.inr rfl
 |(k,r)::l,m,h,i=>by
  simp only[cq];by_cases hi:i=k
  .subst hi;rw[if_pos rfl];exact .inl h.1.symm
  .rw[if_neg hi];exact JD h.2 i
theorem bY{l:List (Nat×D)}{ml:List (Nat×Row)}{m:Mem}{nx:Nat}(h:lj l env)(hm:Cb ml m):aC P ⟨env,m,nx⟩ ⟨ay l,cq ml,nx⟩:=(aC.forget env _ m nx (pz h)).trans (.drop _ _ _ _ (JD hm))
end
theorem ah{α:Type}{f:Nat->α}{k j:Nat}{v r:α}(h:j≠k)(hf:f j=r):up f k v j=r:=(aA f v h).trans hf
theorem amz{β:Sort _}{M m:Mem}{i:Nat}{r:Option Row}(h:M=m)(x:β)(k:β->m i=r:=by intro x;repeat (first|exact x|exact rfl|exact ai _ _ _|refine ah (by omega) ?_)):M i=r:=h ▸ k x
theorem amA{β:Sort _}{p:Prop}(x:β)(k:β->p:=by intro x;dsimp only;repeat (first|exact x|exact ai _ _ _|refine ah (by omega) ?_)):p:=k x
theorem pI{i off sz:Nat}{cs:List D}:sub (c7 i cs sz) (.rp i off)=.pt (cs.drop off):=by simp[sub,qC,c7]
theorem Lb{i off n sz:Nat}{cs:List D}:sub (c7 i cs sz) (.rs i off n)=.sl ((cs.drop off).take (n*sz)) n:=by simp[sub,qC,c7]
theorem zA{i j off sz:Nat}{cs:List D}(h:j≠i):sub (c7 i cs sz) (.rp j off)=.rp j off:=by simp[sub,qC,c7,h]
theorem Ql{i j off n sz:Nat}{cs:List D}(h:j≠i):sub (c7 i cs sz) (.rs j off n)=.rs j off n:=by simp[sub,qC,c7,h]
theorem Eh{α:Type}{f:α->List D}{sz:Nat}(hs:∀ x,(f x).length=sz):∀ (l:List α) (k:Nat),(l.flatMap f).take (k*sz)=(l.take k).flatMap f
 |[],k=>by simp
 |x::l,0=>by simp
 |x::l,k+1=>by
  rw[List.flatMap_cons,List.take_succ_cons,List.flatMap_cons, <- Eh hs l k,show(k+1)*sz=(f x).length+k*sz by rw[hs x,Nat.add_mul];omega,List.take_length_add_append]
theorem acX{α:Type}{f:α->List D}{sz k:Nat}{l:List α}(hs:∀ x,(f x).length=sz)(hk:k<=l.length):
 D.sl (((l.flatMap f).drop ((0:Int).toNat*sz)).take (((k:Int) - 0).toNat*sz)) ((k:Int) - 0).toNat=D.sl ((l.take k).flatMap f) (l.take k).length:=by
 have h1:((k:Int) - 0).toNat=k:=by omega
 have h2:(0:Int).toNat*sz=0:=by simp
 rw[h1,h2,List.drop_zero,Eh hs,List.length_take,Nat.min_eq_left hk]
section
variable{P:Program}{env:Env}{m:Mem}{nx:Nat}{x y z:Operand}{t:TypeId}{v:D}
theorem aa7{i:Nat}{es:List (Value×D)}{key:Value}{kt:TypeId}(hx:(opd env x).core=.mp i)(hm:m i=some (.map es))(hk:mT (opd env y).core=some key)(hz:(opd env z).core=v)(ht:fT P t=kt):
 Ef P (.insert t x y z) env m nx ⟨iX P t=true/\df P kt key=true/\es.all (fun e=>df P kt e.1)=true,.aT [],[(i,some (.map (lz key v es)))],[i],0⟩:=by
 refine⟨?_,rfl,rfl⟩;show mC P m t (opd env x).core (opd env y).core (opd env z).core=_;simp only[mC,hk,hx,hm,ht,hz]
variable{n n':Int}{k:IntKind}{c:Bool}{p:TypeId}{n0:Nat}
theorem SE(hx:(opd env x).core=.s (.int k n))(hy:(opd env y).core=.s (.int k n'))(hd:decide (n'<n)=c):Ef P (.binOp .gtr t x y p) env m nx ⟨k=k,.s (.bool c),[],[],0⟩:=by subst hd;exact KL hx hy
theorem adz(hx:(opd env x).core=.s (.int k n))(hy:(opd env y).core=.s (.int k n'))(hd:decide (n<=n')=c):Ef P (.binOp .leq t x y p) env m nx ⟨k=k,.s (.bool c),[],[],0⟩:=by subst hd;exact Gc hx hy
theorem Kp(hx:(opd env x).core=.s (.int k n))(hy:(opd env y).core=.s (.int k n'))(hd:(n==n')=c):Ef P (.binOp .eql t x y p) env m nx ⟨k=k,.s (.bool c),[],[],0⟩:=by subst hd;exact KM hx hy
theorem Kv(hx:(opd env x).core=.s (.int k n))(hy:(opd env y).core=.s (.int k n'))(hd:(n !=n')=c):Ef P (.binOp .neq t x y p) env m nx ⟨k=k,.s (.bool c),[],[],0⟩:=by subst hd;exact KN hx hy
theorem Sl(hx:(opd env x).core=.s (.int k n))(hy:(opd env y).core=.s (.int k n')){r:Int}(hd:k.wrap (n.tdiv n')=r):Ef P (.binOp .quo t x y p) env m nx ⟨k=k/\n'≠0,.s (.int k r),[],[],0⟩:=by subst hd;exact ada hx hy
theorem Sm(hx:(opd env x).core=.s (.int k n))(hy:(opd env y).core=.s (.int k n')){r:Int}(hd:n.tmod n'=r):Ef P (.binOp .rem t x y p) env m nx ⟨k=k/\n'≠0,.s (.int k r),[],[],0⟩:=by subst hd;exact aed hx hy
theorem So(hx:(opd env x).core=.s (.int k n))(hy:(opd env y).core=.s (.int k n'))(hd:decide (n'<=n)=c):Ef P (.binOp .geq t x y p) env m nx ⟨k=k,.s (.bool c),[],[],0⟩:=by subst hd;exact SR hx hy
theorem acA{j i l:Nat}{e:TypeId}{r:Row}(hx:(opd env x).core=.rp j 0)(hy:(opd env y).core=.s (.int k (i:Int)))(hm:m j=some r)(he:aq P t=e)(hs:P.cellsOf e=1)(hl:nM P t=l):
 Ef P (.indexAddr t x y) env m nx ⟨nb P t=true/\i<l,.rp j i,[],[j],0⟩:=by
 have h:=adf (P:=P) (env:=env) (m:=m) (nx:=nx) (t:=t) hx hy hm he hs hl;have h1:0+((i:Int)).toNat*1=i:=by simp
 have h2:(nb P t=true/\(0:Int)<=(i:Int)/\(i:Int)<l)=(nb P t=true/\i<l):=by
  apply propext;constructor
  .rintro⟨a,_,b⟩;exact⟨a,oG⟩
  .rintro⟨a,b⟩;exact⟨a,oG,oG⟩
 rw[h1,h2] at h;exact h
theorem mK{l:List D}{n:Nat}(h:l.length=n):(l.drop 0).take n=l:=by rw[List.drop_zero,dR oG]
theorem SC{l:List D}{n:Nat}(h:l.length=n):l.take n=l:=dR oG
theorem JF{z l:List D}(hz:z.length=20)(hl:l.length=20):dL z 0 l=l:=by
 unfold dL;split
 .simp at hl
 .rw[List.take_zero,List.nil_append,List.drop_eq_nil_of_le oG,List.append_nil]
theorem FV{es:List D}(hx:(opd env x).core=.sl es 0):Ef P (.binOp .eql t x (.const (.slice none 0 0)) p) env m nx ⟨aW P t=true,.ub,[],[],0⟩:=⟨by simp only[aM,aZ,hx,jZ,if_true],rfl,rfl⟩
theorem FW{es:List D}{l:Nat}(hx:(opd env x).core=.sl es l)(hl:l≠0):Ef P (.binOp .eql t x (.const (.slice none 0 0)) p) env m nx ⟨aW P t=true,.s (.bool false),[],[],0⟩:=⟨by simp only[aM,aZ,hx,jZ,if_neg hl],rfl,rfl⟩
theorem tB{i off n sz:Nat}{cs es:List D}{e:TypeId}(hs:P.cellsOf e=sz)(h:(cs.drop off).take (n*sz)=es):A1 P [(i,cs,e)] (.rs i off n)=.sl es n:=by subst hs h;exact Lb
theorem El(h:env n0=.z):aC P ⟨env,m,nx⟩ ⟨ay [(n0,.sl [] 0)],fun _=>none,nx+1⟩:=by
 have h1:=aC.mE (P:=P) env m nx n0 0 h;have h2:=dX (P:=P) (env:=up env n0 (.rs nx 0 0)) (m:=up m nx (some (.cells [] 0))) (nx:=nx+1) [(nx,[],0)] ⟨ai _ _ _,trivial⟩ (l:=[(n0,.sl [] 0)]) ⟨(congrArg _ (ai _ _ _)).trans (tB (sz:=P.cellsOf 0) rfl oS),trivial⟩;exact h1.trans h2
theorem mf{a7:List Nat}:Sn P a7 m .z (.sl [] 0):=fun F β w v _ hv=>by
 obtain⟨x,rfl⟩:=hv.Ac;exact .gR x 0
theorem adT{a7:List Nat}{aS bs:List D}(h:jM P a7 m aS bs):Sn P a7 m (.agg aS) (.agg bs):=fun F β w v hl hv=>by
 obtain⟨vs,rfl,hn,hh⟩:=hv.qk;obtain⟨h1,h2⟩:=F7 hl h;refine .agg _ vs oG fun k d u hd hu=>?_;have hk:k<aS.length:=by rw[h1];exact(bU.1 hd).1
 exact h2 k aS[k] d (by simp[hk]) hd u (hh k aS[k] u (by simp[hk]) hu)
theorem Qu{l:List (Nat×D)}{m':Mem}(h:lj l env)(hm:∀ i,m' i=m i\/m' i=none):aC P ⟨env,m,nx⟩ ⟨ay l,m',nx⟩:=(aC.forget env _ m nx (pz h)).trans (.drop _ _ _ _ hm)
def ME:List (Nat×List (Value×D))->Mem->Prop
 |[],_=>True
 |(i,es)::fs,m=>m i=some (.map es)/\ME fs (fun j=>if j=i then none else(m j).map (Row.sub (yB i es)))
def NX:List (Nat×List (Value×D))->D->D
 |[],d=>d
 |(i,es)::fs,d=>NX fs (sub (yB i es) d)
theorem PI:∀ {fs:List (Nat×List (Value×D))} {env:Env} {m:Mem} {nx:Nat},ME fs m->∃ m',aC P ⟨env,m,nx⟩ ⟨fun t=>NX fs (env t),m',nx⟩
 |[],env,m,nx,_=>⟨m,.refl _⟩
 |(i,es)::fs,env,m,nx,⟨h1,h2⟩=>by
  obtain⟨m',h⟩:=PI (env:=fun t=>sub (yB i es) (env t)) (nx:=nx) h2;exact⟨m',(aC.QJ env m nx i es h1).trans h⟩
theorem abF(fs:List (Nat×List (Value×D)))(hf:ME fs m){l:List (Nat×D)}(hl:lj l fun t=>NX fs (env t)):aC P ⟨env,m,nx⟩ ⟨ay l,fun _=>none,nx⟩:=by
 obtain⟨m',h⟩:=PI (P:=P) (env:=env) (nx:=nx) hf;exact h.trans ((aC.forget _ _ _ _ (pz hl)).trans (aC.drop _ _ _ _ fun _=>.inr rfl))
end
end Go.Abs
namespace Go.Argus
open Go.Abs
abbrev I(n:Int):D:=.s (.int .i64 n)
abbrev U8(n:Int):D:=.s (.int .u8 n)
abbrev B(b:Bool):D:=.s (.bool b)
abbrev S(s:ByteArray):D:=.s (.string s)
abbrev az(l:List Int):D:=.sl (l.map I) l.length
abbrev ej(l:List Int):D:=.sl (l.map U8) l.length
abbrev iz(l:List ByteArray):D:=.sl (l.map S) l.length
structure bn where
 op:Int
 to:Int
 a:Int
 b:Int
 n:Int
 args:List Int
structure gr where
 name:ByteArray
 to:Int
structure End where
 kind:Int
 a:Int
 b:Int
 to:Int
 gX:Int
 name:ByteArray
 ins:bn
 args:List Int
 aD:List gr
 others:Int
structure bp where
 ins:List bn
 fin:End
structure aU where
 name:ByteArray
 iter:Bool
 args:Int
 result:Int
 al:List Int
 bz:List Int
 signals:List ByteArray
 blocks:List bp
def bc(x:bn):List D:=[U8 x.op,I x.to,I x.a,I x.b,I x.n,az x.args]
def dQ(w:gr):List D:=[S w.name,I w.to]
def jB(l:List gr):D:=.sl (l.flatMap dQ) l.length
def fg(l:List bn):D:=.sl (l.flatMap bc) l.length
def bE(x:End):List D:=[U8 x.kind,I x.a,I x.b,I x.to,I x.gX,S x.name,U8 x.ins.op,I x.ins.to,I x.ins.a,I x.ins.b,I x.ins.n,az x.ins.args,az x.args,jB x.aD,I x.others]
def bi(b:bp):List D:=fg b.ins::bE b.fin
def cF(l:List bp):D:=.sl (l.flatMap bi) l.length
def aF(f:aU):List D:=[S f.name,B f.iter,I f.args,U8 f.result,ej f.al,ej f.bz,iz f.signals,cF f.blocks]
def bd(p q:D)(f:aU):List D:=[S f.name,B f.iter,I f.args,U8 f.result,ej f.al,ej f.bz,iz f.signals,cF f.blocks,p,q]
@[simp] theorem alP (p q : D) (x : aU) : (bd p q x).length = 10 := rfl
@[simp] theorem alT (x : bn) : (bc x).length = 6 := rfl
@[simp] theorem alQ (x : gr) : (dQ x).length = 2 := rfl
@[simp] theorem alU (x : End) : (bE x).length = 15 := rfl
@[simp] theorem alN (x : bp) : (bi x).length = 16 := rfl
@[simp] theorem alR (x : aU) : (aF x).length = 8 := rfl
theorem Ed(x:bn):(bc x).length=6:=rfl
theorem IN(x:gr):(dQ x).length=2:=rfl
theorem zp(x:bp):(bi x).length=16:=rfl
def sf{α:Type}(p:α->Bool)(l:List α):Int:=match l.findIdx? p with
 |some i=>i
 |none=> -1
theorem Ee{α:Type}{p:α->Bool}{l:List α}{k:Nat}{x:α}(hx:l[k]? =some x)(hp:p x=true)(h:∀ j y,j<k->l[j]? =some y->p y=false):sf p l=k:=by
 have:l.findIdx? p=some k:=by
  rw[List.findIdx?_eq_some_iff_getElem];obtain⟨hk,he⟩:=bU.1 hx;refine⟨hk,by rw[he];exact hp,fun j hj=>?_⟩;have:=h j l[j] hj (by simp[show j<l.length by omega]);simp[this]
 simp[sf,this]
theorem Eg{α:Type}{p:α->Bool}{l:List α}(h:∀ (j:Nat) y,l[j]? =some y->p y=false):sf p l= -1:=by
 have:l.findIdx? p=none:=by
  rw[List.findIdx?_eq_none_iff];intro x hx;obtain⟨j,hj⟩:=fI hx;exact h j x hj
 simp[sf,this]
theorem Es{α:Type}(p:α->Bool)(l:List α):decide (0<=sf p l)=l.any p:=by
 unfold sf;cases h:l.findIdx? p with
 |none=>
  rw[List.findIdx?_eq_none_iff] at h;have:l.any p=false:=List.any_eq_false.2 fun x hx=>by simp[h x hx]
  simp[this]
 |some i=>
  obtain⟨hi,hp,_⟩:=List.findIdx?_eq_some_iff_getElem.1 h;have:l.any p=true:=List.any_eq_true.2 ⟨l[i],oS,hp⟩;simp[this]
theorem cC(l:List Int):Tr (az l):=.sl (.map fun _=>.s _)
theorem nv(l:List Int):Tr (ej l):=.sl (.map fun _=>.s _)
theorem uU(l:List ByteArray):Tr (iz l):=.sl (.map fun _=>.s _)
theorem ky(x:bn):∀ a∈bc x,Tr a:=.cons (.s _) (.cons (.s _) (.cons (.s _) (.cons (.s _) (.cons (.s _) (.cons (cC _) .nil)))))
theorem BO(x:gr):∀ a∈dQ x,Tr a:=.cons (.s _) (.cons (.s _) .nil)
theorem iN(l:List gr):Tr (jB l):=.sl (.flat BO)
theorem Rq(l:List bn):Tr (fg l):=.sl (.flat ky)
theorem ql(x:End):∀ a∈bE x,Tr a:=.cons (.s _) (.cons (.s _) (.cons (.s _) (.cons (.s _) (.cons (.s _) (.cons (.s _) (.cons (.s _) (.cons (.s _) (.cons (.s _) (.cons (.s _) (.cons (.s _) (.cons (cC _) (.cons (cC _) (.cons (iN _) (.cons (.s _) .nil))))))))))))))
theorem BF(x:bp):∀ a∈bi x,Tr a:=.cons (Rq _) (ql _)
theorem IP(l:List bp):Tr (cF l):=.sl (.flat BF)
theorem nz(x:aU):∀ a∈aF x,Tr a:=.cons (.s _) (.cons (.s _) (.cons (.s _) (.cons (.s _) (.cons (nv _) (.cons (nv _) (.cons (uU _) (.cons (IP _) .nil)))))))
theorem BQ{p q:D}(hp:Tr p)(hq:Tr q)(x:aU):∀ a∈bd p q x,Tr a:=.cons (.s _) (.cons (.s _) (.cons (.s _) (.cons (.s _) (.cons (nv _) (.cons (nv _) (.cons (uU _) (.cons (IP _) (.cons hp (.cons hq .nil)))))))))
theorem lK{p q:D}(hp:Tr p)(hq:Tr q)(x:aU):Tr (.agg (bd p q x)):=.agg (BQ hp hq x)
theorem sV{p q:D}{f:aU}(h1:p.one=true)(h2:q.one=true):(bd p q f).all D.one=true:=by
 simp only[bd,List.all_cons,List.all_nil,h1,h2];rfl
abbrev cA(n:Int):D:=.s (.int .u64 n)
abbrev fY(w:List Int):D:=.agg (w.map cA)
theorem nO(w:List Int):(w.map cA).all D.one=true:=cv.2 fun x hx=>by obtain⟨y,_,rfl⟩:=List.mem_map.1 hx;rfl
theorem aa6{w:List Int}{i:Nat}{x:Int}:((w.map cA).set i (cA x)).all D.one=true:=by rw[<- List.map_set];exact nO _
theorem pQ(w:List Int):Tr (fY w):=.agg (.map fun _=>.s _)
def oY(a b:Int):Int:=la .and .u64 a b
def HZ(a b:Int):Int:=la .or .u64 a b
def Cm(w:List Int)(m:Nat):List Int:=w.set (m / 64) (HZ (w.getD (m / 64) 0) (IntKind.u64.wrap (1*2 ^ (min (m % 64) 64))))
def nP(w:List Int)(m:Nat):Bool:=oY ((w.getD (m / 64) 0).fdiv (2 ^ (min (m % 64) 64))) 1==1
def oI(w:List Int)(n:Int):List Int:=if 0<=n then Cm w n.toNat else w
def gI(w v:List Int):Nat->List Int
 |0=>w
 |k+1=>(gI w v k).set k (oY ((gI w v k).getD k 0) (v.getD k 0))
def lQ(w v:List Int):List Int:=gI w v 20
@[simp] theorem PJ (w v : List Int) : ∀ k, (gI w v k).length = w.length
 |0=>rfl
 |k+1=>by simp[gI,PJ w v k]
@[simp] theorem alW (w : List Int) (m : Nat) : (Cm w m).length = w.length := by simp [Cm]
@[simp] theorem alX (w : List Int) (n : Int) : (oI w n).length = w.length := by unfold oI; split <;> simp
@[simp] theorem PC (w v : List Int) : (lQ w v).length = w.length := PJ w v 20
theorem wrap_i64{n:Nat}(h:n<2 ^ 62):IntKind.i64.wrap (n:Int)=n:=by
 unfold IntKind.wrap;simp[IntKind.signed,IntKind.bits];omega
theorem TB{m:Nat}(h:m<2 ^ 62):IntKind.i64.wrap ((m:Int).tdiv 64)=((m / 64:Nat):Int):=by
 rw[show(m:Int).tdiv 64=((m / 64:Nat):Int) from by rw[Int.tdiv_eq_ediv_of_nonneg oG];omega];exact wrap_i64 oG
theorem TC(m:Nat):(m:Int).tmod 64=((m % 64:Nat):Int):=by rw[Int.tmod_eq_emod_of_nonneg oG];omega
theorem ib(a b:Int):(a==b)=decide (a=b):=rfl
def gz(n a b:Int):Bool:=decide (a<=n)&&decide (n<=b)
def Eu(b:Int):Bool:=decide (b<33)||decide (126<b)
def tu(s:ByteArray):Bool:=gz s.size 1 120&& !(qe s).any Eu
def Ew(b:Int):Bool:=(decide (b<97)||decide (122<b))&&(decide (b<48)||decide (57<b))
def isName(s:ByteArray):Bool:=gz s.size 1 12&& !(qe s).any Ew
def BP(C k:Int):Bool:=decide (k<1)||decide (C<k)
def s7(l:List Int)(C:Int):Bool:= !l.any (BP C)
def cQ(l:List Int)(r:Int):Int:=if 0<=r then l.getD r.toNat 0 else 0
theorem Jk{l:List Int}{i:Nat}{x:Int}(h:l[i]? =some x):cQ l i=x:=by
 simp[cQ,dN,h]
theorem PE{l:List Int}{r:Int}(h:¬ (0<=r/\r<l.length)):cQ l r=0:=by
 unfold cQ;split
 .rename_i h0;have:l.length<=r.toNat:=by omega
  simp[dN,List.getElem?_eq_none this]
 .rfl
theorem iO{n a b:Int}:gz n a b=true↔a<=n/\n<=b:=by simp[gz]
theorem ZY{n a b:Int}:gz n a b=false↔¬ (a<=n/\n<=b):=by
 rw[<- Bool.not_eq_true,iO]
def mH(l:List Int)(r:Int):Bool:=cQ l r==1||cQ l r==2
def qm(l rs:List Int):Bool:=rs.all (mH l)
def xY(l bz:List Int)(r n:Int):Bool:=gz n 0 (bz.length - 1)&&(cQ l r==cQ bz n)
def oA(l:List Int)(r want of:Int):Bool:=
 if want=0 then r==0 else if want=1 then cQ l r==1 else if want=2 then cQ l r==2 else if want=3 then mH l r
 else cQ l r !=0&&cQ l r==of
structure Shape where
 to:Int
 a:Int
 b:Int
 args:Int
 low:Int
 high:Int
def dA(s:Shape):List D:=[I s.to,I s.a,I s.b,I s.args,I s.low,I s.high]
@[simp] theorem alO (x : Shape) : (dA x).length = 6 := rfl
theorem PG(x:Shape):∀ a∈dA x,Tr a:=.cons (.s _) (.cons (.s _) (.cons (.s _) (.cons (.s _) (.cons (.s _) (.cons (.s _) .nil)))))
def zC(l:List Int)(x:bn)(s:Shape):Int:=if s.to=0\/s.to=1 then cQ l x.a else cQ l x.to
def uA(l:List Int)(x:bn)(s:Shape):Bool:=if s.args=5 then gz x.args.length 1 6&&qm l x.args else if s.args=6 then decide ((x.args.length:Int)=1)&&qm l x.args else decide ((x.args.length:Int)=0)
def rz(l:List Int)(x:bn)(s:Shape):Bool:=
 oA l x.to s.to 0&&(oA l x.a s.a (zC l x s)&&(oA l x.b s.b (zC l x s)&&(uA l x s&&gz x.n s.low s.high)))
def kM(l:List (Int×Shape)):List (Value×D):=l.map fun x=>(.int .u8 x.1,.agg (dA x.2))
def jh:Shape:=⟨0,0,0,0,0,0⟩
def cH(l:List (Int×Shape))(op:Int):Option Shape:=(l.find? fun x=>x.1==op).map (·.2)
def dC:List (Int×Shape):=[(1,⟨1,0,0,0, -1000000000,1000000000⟩),(2,⟨3,4,0,0,0,0⟩),(3,⟨1,1,1,0,0,0⟩),(4,⟨1,1,1,0,0,0⟩),(5,⟨1,3,4,0,0,0⟩),(6,⟨1,1,1,0,0,0⟩),(7,⟨1,1,1,0,0,0⟩),(8,⟨1,1,0,0,0,0⟩),
 (9,⟨2,0,0,0,0,1⟩),(10,⟨2,0,0,5,0,5⟩),(11,⟨3,2,0,0,0,5⟩),(12,⟨0,2,3,0,0,5⟩),(13,⟨1,2,0,0,0,0⟩),(14,⟨1,2,0,0,0,0⟩),(15,⟨0,1,0,0,0,0⟩)]
def ek:List (Int×Shape):=[(30,⟨1,1,1,0,0,0⟩),(31,⟨1,1,1,0,0,0⟩),(32,⟨1,1,1,0,0,0⟩),(33,⟨1,1,1,0,0,0⟩),(34,⟨1,1,1,0,0,0⟩),(35,⟨0,2,3,0,0,0⟩),(36,⟨3,2,0,0,0,0⟩),(37,⟨3,2,1,0,0,0⟩),(38,⟨0,2,1,6,0,0⟩)]
theorem Ay(l:List (Int×Shape)):Tr (.im (kM l)):=.im fun x hx=>by
 obtain⟨y,_,rfl⟩:=List.mem_map.1 hx;exact .agg (PG _)
theorem JH(op:Int):∀ l:List (Int×Shape),(eu (.int .u8 op) (kM l)).map (·.2)=(cH l op).map fun s=>.agg (dA s)
 |[]=>rfl
 |(o,s)::l=>by
  have ih:=JH op l;unfold kM at ih ⊢;simp only[List.map_cons,eu,su,pN,cH,List.find?_cons] at ih ⊢;by_cases h:o=op
  .subst h;simp
  .have hb:(o==op)=false:=by simpa using h
   simp only[hb,beq_self_eq_true,Bool.and_false,Bool.false_eq_true,if_false,Option.map_map] at ih ⊢;exact ih
theorem FU{P:Program}{t:TypeId}{C:D}(hz:lO P (qE P t)=C)(op:Int)(l:List (Int×Shape))(J:C=.agg (dA jh)):fV P t true (eu (.int .u8 op) (kM l))=.aT [.agg (dA ((cH l op).getD jh)),.s (.bool (cH l op).isSome)]:=by
 have h:=JH op l;cases h1:eu (.int .u8 op) (kM l) with
 |none=>
  rw[h1] at h;have:cH l op=none:=by simpa using h.symm
  simp only[fV,this,hz,J,Option.getD_none,Option.isSome_none,if_true]
 |some x=>
  rw[h1] at h;cases h2:cH l op with
  |none=>rw[h2] at h;simp at h
  |some s=>
   rw[h2] at h;obtain⟨i,d⟩:=x;simp only[Option.map_some,aH] at h;subst h;simp[fV]
theorem zK{P:Program}{kt:TypeId}(hk:P.underlying kt=some (.int .u8))(l:List (Int×Shape)):(kM l).all (fun e=>df P kt e.1)=true:=by
 refine cv.2 fun x hx=>?_;obtain⟨y,_,rfl⟩:=List.mem_map.1 hx;simp[df,hk]
def cS(a b:Int):Bool:=decide (a=b)
def qw(x:bn):Bool:=decide ((x.args.length:Int)=0)
def jD(f:aU)(b:Int)(x:bn)(phis:Bool)(ahead:Int):Bool:=
 if x.op=16 then cS x.to 0&&(cS (cQ f.al x.a) 3&&(cS x.b 0&&(cS x.n 0&&qw x)))
 else if x.op=17 then cS x.a 0&&(cS x.b 0&&(qw x&&xY f.al f.bz x.to x.n))
 else if x.op=18 then cS x.to 0&&(cS x.b 0&&(qw x&&xY f.al f.bz x.a x.n))
 else if x.op=19 then phis&&(decide (0<b)&&(mH f.al x.to&&(cS x.a 0&&(cS x.b 0&&(cS x.n 0&&(cS x.args.length ahead&& !x.args.any fun r=> !cS (cQ f.al r) (cQ f.al x.to)))))))
 else(cH dC x.op).isSome&&rz f.al x ((cH dC x.op).getD jh)
def FY(x:bn):Bool:=decide (x.op=0)&&(decide (x.to=0)&&(decide (x.a=0)&&(decide (x.b=0)&&(decide (x.n=0)&&decide ((x.args.length:Int)=0)))))
def vA(x:End):Bool:=decide (x.kind=0)&&(decide (x.a=0)&&(decide (x.b=0)&&(decide (x.to=0)&&(decide (x.gX=0)&&(x.name.toList==[]&&(decide (x.others= -1)&&(decide ((x.args.length:Int)=0)&&(decide ((x.aD.length:Int)=0)&&FY x.ins))))))))
def eK(f:aU)(n:Int):Bool:=gz n 0 (f.blocks.length - 1)
def rW(f:aU)(wsq:List gr)(i:Nat)(w:gr):Bool:=isName w.name&&(eK f w.to&& !(wsq.take i).any fun v=>v.name.toList==w.name.toList)
def Kx(f:aU)(wsq:List gr):Bool:=wsq.zipIdx.all fun x=>rW f wsq x.2 x.1
theorem X0{f:aU}{wsq:List gr}(h:∀ (i:Nat) w,wsq[i]? =some w->rW f wsq i w=true):Kx f wsq=true:=by
 refine cv.2 fun x hx=>?_;obtain⟨h1,h2⟩:=List.mem_zipIdx' hx;exact h x.2 x.1 (by rw[h2];simp[h1])
theorem XA{f:aU}{wsq:List gr}{i:Nat}{w:gr}(C:wsq[i]? =some w)(h:rW f wsq i w=false):Kx f wsq=false:=by
 refine Bool.eq_false_iff.2 fun ht=>?_;have hx:(w,i)∈wsq.zipIdx:=List.mem_zipIdx_iff_getElem?.2 C;have:=cv.1 ht _ hx;rw[h] at this;cases this
def qj(f:aU)(x:End):Bool:=Kx f x.aD&&(decide ((x.aD.length:Int)<=7)&&(decide (x.others= -1)||eK f x.others))
def rL:bn:=⟨0,0,0,0,0,[]⟩
def fy(f:aU)(x:End):Bool×End:=
 let r:End:={ x with kind:=0 }
 if x.kind=1 then(eK f x.to,{ r with to:=0 })
 else if x.kind=2 then(cS (cQ f.al x.a) 1&&(eK f x.to&&eK f x.gX),{ r with a:=0,to:=0,gX:=0 })
 else if x.kind=3 then(if f.result≠0/\f.iter=false then cS (cQ f.al x.a) f.result else cS x.a (-1),{ r with a:=0 })
 else if x.kind=4 then(isName x.name,{ r with name:=.empty })
 else if x.kind=5 then((cH ek x.ins.op).isSome&&(rz f.al x.ins ((cH ek x.ins.op).getD jh)&&(eK f x.to&&qj f x)),{ r with ins:=rL,to:=0,aD:=[],others:= -1 })
 else if x.kind=6 then(tu x.name&&(decide ((x.args.length:Int)<=6)&&(qm f.al x.args&&((cS x.a (-1)||mH f.al x.a)&&(eK f x.to&&qj f x)))),{ r with name:=.empty,args:=[],a:=0,to:=0,aD:=[],others:= -1 })
 else if x.kind=7 then(tu x.name&&(decide ((x.args.length:Int)<=6)&&(qm f.al x.args&&(cS (cQ f.al x.a) 3&&eK f x.to))),{ r with name:=.empty,args:=[],a:=0,to:=0 })
 else if x.kind=8 then(cS (cQ f.al x.a) 3&&(mH f.al x.b&&(eK f x.to&&(eK f x.gX&&qj f x))),{ r with a:=0,b:=0,to:=0,gX:=0,aD:=[],others:= -1 })
 else if x.kind=9 then(f.iter&&(cS (cQ f.al x.a) f.result&&eK f x.to),{ r with a:=0,to:=0 })
 else(false,r)
def aR(l:List Int)(n:Int):Bool:=l.any fun c=>n==c
def mr(n:Int):Int:=1200+n
def mz:List Int:=[1,2,3,4,5,6,7,8,9,10,11,13,14,17,19]
def oq:List Int:=[30,31,32,33,34,36,37]
def gj(x:bn):Int:=if aR mz x.op then x.to else if aR oq x.op then x.to else -1
def jA(x:End):Int:=if x.kind=5 then gj x.ins else if aR [6,7] x.kind then x.a else if x.kind=8 then x.b else -1
def mD:List Int:=[2,8,11,13,14,15,16,18,36]
def ou:List Int:=[3,4,5,6,7,12,30,31,32,33,34,35,37]
def cT(x:bn):List Int:=if aR mD x.op then [x.a] else if aR ou x.op then [x.a,x.b] else if x.op=10 then x.args else if x.op=38 then x.a::x.b::x.args else []
def dK(x:End):List Int:=if aR [2,8,9] x.kind then [x.a] else if x.kind=3 then(if x.a≠ -1 then [x.a] else []) else if x.kind=5 then cT x.ins else if aR [6,7] x.kind then x.args else []
def mG(f:aU)(x:End):Bool:=(fy f x).1&&vA (fy f x).2
end Go.Argus
namespace Go.Abs
inductive T(α:Type) where
 |leaf
 |node (v:Option α) (l r:T α)
noncomputable def tz:Nat->Nat->List Bool
 |0,_=>[]
 |f+1,i=>bif Nat.beq i 0 then [] else bif Nat.beq (i % 2) 1 then true::tz f (i / 2) else false::tz f (i / 2 - 1)
noncomputable def bits(i:Nat):List Bool:=tz 20 i
noncomputable def r8{α:Type}(p:List Bool):T α->Option α:=List.rec (motive:=fun _=>T α->Option α) (fun t=>T.rec (motive:=fun _=>Option α) none (fun v _ _ _ _=>v) t)
 (fun b _ ih t=>T.rec (motive:=fun _=>Option α) none (fun _ l r _ _=>Bool.rec (ih r) (ih l) b) t) p
noncomputable def AJ{α:Type}(v:Option α)(p:List Bool):T α->T α:=List.rec (motive:=fun _=>T α->T α) (fun t=>T.rec (motive:=fun _=>T α) (.node v .leaf .leaf) (fun _ l r _ _=>.node v l r) t)
 (fun b _ ih t=>T.rec (motive:=fun _=>T α) (Bool.rec (.node none .leaf (ih .leaf)) (.node none (ih .leaf) .leaf) b) (fun u l r _ _=>Bool.rec (.node u l (ih r)) (.node u (ih l) r) b) t) p
noncomputable def T.get{α:Type}(t:T α)(i:Nat):Option α:=r8 (bits i) t
noncomputable def T.put{α:Type}(t:T α)(i:Nat)(v:Option α):Option (T α):=bif Nat.blt i 1000000 then some (AJ v (bits i) t) else none
structure bw where
 env:T D
 mem:T Row
 nx:Nat
noncomputable def sA:D->D
 | .cu _ _=>.u
 |d=>d
noncomputable def getD(t:T D)(i:Nat):D:=match t.get i with
 |some d=>d
 |none=>.u
noncomputable def dD(t:T D):Operand->D
 | .tmp i=>sA (getD t i)
 | .const v=>wk v
 | .global _=>.u
 | .func f=>.fn (.func f) [] []
abbrev fa:=Program->(Operand->D)->T Row->Nat->Option aY
noncomputable def fr(b:Bool)(d:D):Option aY:=bif b then some ⟨d,[],[],0⟩ else none
noncomputable def nX(b:Bool)(d:D)(i:Nat):Option aY:=bif b then some ⟨d,[],[i],0⟩ else none
noncomputable def sa(b:Bool)(nx:Nat)(d:D)(r:Row)(rd:List Nat):Option aY:=bif b then some ⟨d,[(nx,some r)],rd,1⟩ else none
noncomputable def A5(b:Bool)(i:Nat)(r:Row):Option aY:=bif b then some ⟨.aT [],[(i,some r)],[i],0⟩ else none
noncomputable def io(n:Nat):List D->Bool:=Nat.rec (fun _=>true) (fun _ ih l=>List.rec false (fun _ t _=>ih t) l) n
noncomputable def sd(n:Nat):List D->Bool:=Nat.rec (fun l=>List.rec true (fun _ _ _=>false) l) (fun _ ih l=>List.rec false (fun _ t _=>ih t) l) n
noncomputable def KU(n:Nat):List D->List D:=Nat.rec (fun l=>l) (fun _ ih l=>List.rec [] (fun _ t _=>ih t) l) n
noncomputable def xP(n:Nat):List D->List D:=Nat.rec (fun _=>[]) (fun _ ih l=>List.rec [] (fun a t _=>a::ih t) l) n
noncomputable def nI(l:List D)(n:Nat):List D:=KU n l
noncomputable def vw(P:Program)(t:TypeId)(cs:List D):D:=bif bq P t then .agg (xP (P.cellsOf t) cs) else List.rec .u (fun d _ _=>d) cs
noncomputable def S8(x:Operand):fa:=fun _ ρ _ _=>some ⟨ρ x,[],[],0⟩
noncomputable def KV(c a b:Operand):fa:=fun _ ρ _ _=>match ρ c with
 | .s (.bool true)=>match ρ a with
  | .s (.bool v)=>some ⟨.s (.bool v),[],[],0⟩
  |_=>none
 | .s (.bool false)=>match ρ b with
  | .s (.bool v)=>some ⟨.s (.bool v),[],[],0⟩
  |_=>none
 |_=>none
noncomputable def J9(t:TypeId):fa:=fun P _ _ nx=>bif yc t then match aV P t with
 |[.s (.pointer none),.z]=>sa (aB P t) nx (.rp nx 0) (.bs false .z t) []
 |_=>none
 else sa (aB P t) nx (.rp nx 0) (.cells (aV P t) t) []
noncomputable def LO(t:TypeId)(x:Operand):fa:=fun P ρ _ nx=>bif yc t then match (ρ x).cells with
 |[.s (.pointer none),d]=>sa (d.one&&Nat.beq (P.cellsOf t) 2) nx (.rp nx 0) (.bs false d t) []
 |_=>none
 else sa ((ρ x).cells.all D.one) nx (.rp nx 0) (.cells (ρ x).cells t) []
noncomputable def An(place:Nat->Option (Nat×Nat))(cells:List D):List (Nat×D)->Option (List D)
 |[]=>some cells
 |(i,d)::rest=>match place i with
  |none=>none
  |some (off,size)=>bif (sd size d.cells&&io (off+size) cells)&&d.cells.all D.one then An place (dL cells off d.cells) rest else none
noncomputable def parts(ρ:Operand->D):List (Nat×Operand)->List (Nat×D)
 |[]=>[]
 |(i,x)::l=>(i,ρ x)::parts ρ l
noncomputable def J'(P:Program)(fs:Array Field)(i:Nat):Option (Nat×Nat):=match fs[i]? with
 |some f=>some (f.offset,P.cellsOf f.type)
 |none=>none
noncomputable def KW(b:Bool):Option (List D)->Option aY
 |some cs=>fr b (.agg cs)
 |none=>none
noncomputable def aaH(P:Program)(fs:Array Field):Bool:=fs.toList.all fun f=>(P.info? f.type).isSome
noncomputable def Ka(t:TypeId)(ps:Array (Nat×Operand)):fa:=fun P ρ _ _=>match P.underlying t with
 |some (.struct fs)=>KW (aB P t&&aaH P fs) (An (J' P fs) (aV P t) (parts ρ ps.toList))
 |some (.array _ e)=>KW (aB P t&&aB P e) (An (fun i=>some (i*P.cellsOf e,P.cellsOf e)) (aV P t) (parts ρ ps.toList))
 |_=>none
noncomputable def S9(b:Bool)(nx n:Nat)(e:TypeId):Option (List D)->Option aY
 |some cs=>sa (b&&cs.all D.one) nx (.rs nx 0 n) (.cells cs e) []
 |none=>none
noncomputable def Ia(t:TypeId)(n:Nat)(ps:Array (Nat×Operand)):fa:=fun P ρ _ nx=>
 S9 (aW P t&&(Nat.ble (n*P.cellsOf (aq P t)) 16777216&&Nat.ble n maxLen)) nx n (aq P t) (An (fun i=>some (i*P.cellsOf (aq P t),P.cellsOf (aq P t))) (dq n (aV P (aq P t))) (parts ρ ps.toList))
noncomputable def KY(t:TypeId)(a:Operand):fa:=fun P ρ m _=>match ρ a with
 | .pt cs=>fr (aB P t&&io (P.cellsOf t) cs) (vw P t cs)
 | .rp i off=>match m.get i with
  |some (.cells cs _)=>nX (aB P t&&io (off+P.cellsOf t) cs) (vw P t (nI cs off)) i
  |some (.bs _ x _)=>nX (Nat.beq off 1&&(aB P t&& !bq P t)) x i
  |_=>none
 |_=>none
noncomputable def Kb(t:TypeId)(a x:Operand):fa:=fun P ρ m _=>match ρ a with
 | .rp i off=>match m.get i with
  |some (.cells cs e)=>A5 ((aB P t&&sd (P.cellsOf t) (ρ x).cells)&&(io (off+P.cellsOf t) cs&&(ρ x).cells.all D.one)) i (.cells (dL cs off (ρ x).cells) e)
  |some (.bs u _ T)=>A5 (Nat.beq off 1&&(aB P t&&(!bq P t&&(ρ x).one))) i (.bs u (ρ x) T)
  |_=>none
 |_=>none
noncomputable def IG(x:Operand):fa:=fun _ ρ m _=>match ρ x with
 | .pt cs=>some ⟨.pt cs,[],[],0⟩
 | .rp i off=>match m.get i with
  |some _=>some ⟨.rp i off,[],[i],0⟩
  |none=>none
 |_=>none
noncomputable def Hy:IntKind->Int->Bool
 | .i64,.ofNat n=>Nat.ble n 9223372036854775807
 | .i64,.negSucc n=>Nat.ble n 9223372036854775807
 | .u8,.ofNat n=>Nat.ble n 255
 | .u64,.ofNat n=>Nat.ble n 18446744073709551615
 |_,_=>false
noncomputable def xQ(k:IntKind)(n:Int):Int:=bif Hy k n then n else k.wrap n
noncomputable def nY:Int->Int->Bool
 | .ofNat a,.ofNat b=>Nat.blt a b
 | .negSucc _,.ofNat _=>true
 | .ofNat _,.negSucc _=>false
 | .negSucc a,.negSucc b=>Nat.blt b a
noncomputable def yR:Int->Int->Bool
 | .ofNat a,.ofNat b=>Nat.beq a b
 | .negSucc a,.negSucc b=>Nat.beq a b
 |_,_=>false
noncomputable def gF:IntKind->IntKind->Bool
 | .i64,.i64 | .u8,.u8 | .u64,.u64 | .i32,.i32 | .u32,.u32 | .i8,.i8 | .i16,.i16 | .u16,.u16=>true
 |_,_=>false
noncomputable def sI(b:Bool)(k:IntKind)(n:Int):Option aY:=fr b (.s (.int k n))
noncomputable def sB(b:Bool)(v:Bool):Option aY:=fr b (.s (.bool v))
noncomputable def LP:BinOp->IntKind->IntKind->Int->Int->Option aY
 | .add=>fun k k' a b=>sI (gF k k') k (xQ k (a+b))
 | .sub=>fun k k' a b=>sI (gF k k') k (xQ k (a - b))
 | .mul=>fun k k' a b=>sI (gF k k') k (xQ k (a*b))
 | .quo=>fun k k' a b=>sI (gF k k'&& !yR b 0) k (xQ k (a.tdiv b))
 | .rem=>fun k k' a b=>sI (gF k k'&& !yR b 0) k (a.tmod b)
 | .shl=>fun k _ a b=>sI (!nY b 0) k (k.wrap (a*2 ^ (min b.toNat k.bits)))
 | .shr=>fun k _ a b=>sI (!nY b 0) k (a.fdiv (2 ^ (min b.toNat k.bits)))
 | .and=>fun k k' a b=>sI (gF k k') k (la .and k a b)
 | .or=>fun k k' a b=>sI (gF k k') k (la .or k a b)
 | .xor=>fun k k' a b=>sI (gF k k') k (la .xor k a b)
 | .andNot=>fun k k' a b=>sI (gF k k') k (la .andNot k a b)
 | .eql=>fun k k' a b=>sB (gF k k') (yR a b)
 | .neq=>fun k k' a b=>sB (gF k k') (!yR a b)
 | .lss=>fun k k' a b=>sB (gF k k') (nY a b)
 | .leq=>fun k k' a b=>sB (gF k k') (!nY b a)
 | .gtr=>fun k k' a b=>sB (gF k k') (nY b a)
 | .geq=>fun k k' a b=>sB (gF k k') (!nY a b)
noncomputable def A6:List UInt8->List UInt8->Bool
 |[],[]=>true
 |a::aS,b::bs=>Nat.beq a.toNat b.toNat&&A6 aS bs
 |_,_=>false
noncomputable def Dr:List UInt8->List UInt8->Bool
 |_,[]=>false
 |[],_::_=>true
 |a::aS,b::bs=>Nat.blt a.toNat b.toNat||(Nat.beq a.toNat b.toNat&&Dr aS bs)
noncomputable def LQ:BinOp->List UInt8->List UInt8->Option aY
 | .eql=>fun a b=>sB true (A6 a b)
 | .neq=>fun a b=>sB true (!A6 a b)
 | .lss=>fun a b=>sB true (Dr a b)
 | .geq=>fun a b=>sB true (!Dr a b)
 | .add=>fun a b=>fr (Nat.ble (a.length+b.length) maxLen) (.s (.string ⟨⟨a++b⟩⟩))
 |_=>fun _ _=>none
noncomputable def RZ(P:Program)(op:BinOp)(t:TypeId)(xs ys:List D):Option aY:=match op,xI P t,nN xs ys with
 | .eql,some ks,some q=>fr (decide (q.1.map jl=ks)&& !P.eqGuardType P.depth t) (.s (.bool (gM q.1 q.2)))
 | .neq,some ks,some q=>fr (decide (q.1.map jl=ks)&& !P.eqGuardType P.depth t) (.s (.bool !(gM q.1 q.2)))
 |_,_,_=>none
noncomputable def S'(P:Program)(op:BinOp)(t:TypeId):D->D->Option aY
 | .s (.int k a),.s (.int k' b)=>LP op k k' a b
 | .s (.string a),.s (.string b)=>LQ op a.data.toList b.data.toList
 | .s (.bool a),.s (.bool b)=>match op with
  | .eql=>sB (ss P t) (a==b)
  | .neq=>sB (ss P t) (!(a==b))
  |_=>none
 | .agg xs,.agg ys=>RZ P op t xs ys
 |_,_=>none
noncomputable def GK:BinOp->Option Bool
 | .eql=>some true
 | .neq=>some false
 |_=>none
noncomputable def Ta(P:Program)(m:T Row)(t:TypeId)(b:Bool):D->Option aY
 | .z=>sB (aW P t) b
 | .rs i _ n=>match m.get i with
  |some (.cells _ _)=>nX (aW P t&&Nat.blt 0 n) (.s (.bool !b)) i
  |_=>none
 | .sl _ n=>bif b then fr (aW P t) (bif Nat.beq n 0 then .ub else .s (.bool false)) else none
 |_=>none
noncomputable def Tb(P:Program)(m:T Row)(t:TypeId)(b:Bool):D->Option aY
 | .rp i _=>match m.get i with
  |some _=>nX (yG P t) (.s (.bool !b)) i
  |_=>none
 |_=>none
noncomputable def LR(op:BinOp)(t:TypeId)(x y:Operand):fa:=fun P ρ m _=>match y with
 | .const (.slice none 0 0)=>match GK op with
  |some b=>Ta P m t b (ρ x)
  |none=>none
 | .const (.pointer none)=>match GK op with
  |some b=>Tb P m t b (ρ x)
  |none=>none
 |y=>S' P op t (ρ x) (ρ y)
noncomputable def M4(op:UnOp)(x:Operand):fa:=fun _ ρ _ _=>match ρ x with
 | .s v=>match AV op v with
  |some r=>some ⟨.s r,[],[],0⟩
  |none=>none
 |_=>none
noncomputable def Ao :List D->Option (List Int)
 |[]=>some []
 | .s (.int .u8 n)::ds=>match Ao ds with
  |some l=>some (n::l)
  |none=>none
 |_=>none
noncomputable def A7(P:Program)(t:TypeId):Bool:=aW P t&&(match P.underlying (aq P t) with|some (.int .u8)=>true|_=>false)&&Nat.beq (P.cellsOf (aq P t)) 1
noncomputable def GL(b:Bool)(n:Nat)(rd:List Nat):Option (List Int)->Option aY
 |some l=>bif b&&Nat.beq l.length n then some ⟨.s (.string (mkStr l)),[],rd,0⟩ else none
 |none=>none
noncomputable def R0(P:Program)(src:TypeId)(m:T Row):D->Option aY
 | .sl es n=>GL (A7 P src) n [] (Ao es)
 | .rs i off n=>match m.get i with
  |some (.cells cs _)=>GL (A7 P src) n [i] (Ao (xP n (nI cs off)))
  |_=>none
 | .s (.int _ n)=>match P.underlying src with
  |some (.int _)=>fr (!nY n 0&&nY n 128) (.s (.string (mkStr [n])))
  |_=>none
 |_=>none
noncomputable def R1(P:Program)(src:TypeId):D->Option aY
 | .s (.string b)=>fr (eN P src&&Nat.ble b.data.toList.length maxLen) (.sl (b.data.toList.map fun c=>.s (.int .u8 c.toNat)) b.data.toList.length)
 |_=>none
noncomputable def R2(P:Program)(src:TypeId)(k:IntKind):D->Option aY
 | .s (.int _ n)=>fr (aB P src) (.s (.int k (xQ k n)))
 |_=>none
noncomputable def KZ(src dst:TypeId)(x:Operand):fa:=fun P ρ m _=>match P.underlying dst with
 |some (.int k)=>R2 P src k (ρ x)
 |some .string=>R0 P src m (ρ x)
 |some (.slice e)=>match P.underlying e with
  |some (.int .u8)=>R1 P src (ρ x)
  |_=>none
 |_=>none
noncomputable def aew(f:Fn)(fs cs:Array Operand):fa:=fun _ ρ _ _=>some ⟨.fn f (fs.toList.map ρ) (cs.toList.map ρ),[],[],0⟩
noncomputable def LS(r:Option Operand):fa:=fun _ _ _ nx=>match r with
 |none=>some ⟨.mp nx,[(nx,some (.map []))],[],1⟩
 |some _=>none
noncomputable def K0(t:TypeId)(l c:Operand):fa:=fun P ρ _ nx=>match ρ l,ρ c with
 | .s (.int .i64 (.ofNat n)),.s (.int .i64 (.ofNat k))=>sa ((Nat.beq n k&&Nat.ble n 9223372036854775807)&&(Nat.ble (P.bytesOf (aq P t)*n) 281474976710656&&aW P t)) nx (.rs nx 0 n) (.cells (dq n (aV P (aq P t))) (aq P t)) []
 |_,_=>none
noncomputable def xC(P:Program)(t:TypeId):List (Value×D)->Bool
 |[]=>true
 |e::es=>df P t e.1&&xC P t es
noncomputable def K2(t:TypeId)(x k:Operand)(ok:Bool):fa:=fun P ρ m _=>match mT (ρ k),ρ x with
 |some key,.mp i=>match m.get i with
  |some (.map es)=>nX (iX P t&&(df P (fT P t) key&&xC P (fT P t) es)) (fV P t ok (eu key es)) i
  |_=>none
 |some key,.im es=>fr (iX P t&&(df P (fT P t) key&&xC P (fT P t) es)) (fV P t ok (eu key es))
 |some key,.s (.map none)=>fr (iX P t&&df P (fT P t) key) (fV P t ok none)
 |_,_=>none
noncomputable def GN(t:TypeId)(x k v:Operand):fa:=fun P ρ m _=>match mT (ρ k),ρ x with
 |some key,.mp i=>match m.get i with
  |some (.map es)=>A5 (iX P t&&(df P (fT P t) key&&xC P (fT P t) es)) i (.map (lz key (ρ v) es))
  |_=>none
 |_,_=>none
noncomputable def pP(ρ:Operand->D)(o:Option Operand)(C:Nat):Option Nat:=match o with
 |none=>some C
 |some x=>match ρ x with
  | .s (.int _ (.ofNat n))=>some n
  |_=>none
noncomputable def Q9(P:Program)(t:TypeId)(ρ:Operand->D)(x:D)(lo hi:Option Operand)(c:Operand):Option aY:=match x,pP ρ lo 0,hi,ρ c with
 | .sl es n,some l,some hx,.s (.int _ (.ofNat k))=>match ρ hx with
  | .s (.int _ (.ofNat h))=>bif Nat.beq l 0&&(Nat.beq h n&&Nat.beq k n)&&(lo.isNone) then fr (aW P t&&sd (n*P.cellsOf (aq P t)) es) (.sc es n)
   else fr (aW P t&&(Nat.ble l h&&(Nat.ble h k&&Nat.ble k n))) (.sl ((nI es (l*P.cellsOf (aq P t))).take ((h - l)*P.cellsOf (aq P t))) (h - l))
  |_=>none
 | .z,_,some hx,.s (.int _ (.ofNat k))=>match ρ hx with
  | .s (.int _ (.ofNat h))=>bif Nat.beq h 0&&Nat.beq k 0&&lo.isNone then fr (aW P t) .z else none
  |_=>none
 |_,_,_,_=>none
noncomputable def I9(P:Program)(t:TypeId)(ρ:Operand->D)(m:T Row)(x:D)(lo hi:Option Operand)(c:Operand):Option aY:=match x,lo,hi,ρ c with
 | .rs i off n,none,some hx,.s (.int _ (.ofNat k))=>match m.get i,ρ hx with
  |some (.cells cs e),.s (.int _ (.ofNat h))=>bif Nat.beq h n&&Nat.beq k n then nX (aW P t&&sd (off+n*P.cellsOf e) cs) (.rs i off n) i else none
  |_,_=>none
 |_,_,_,_=>none
noncomputable def Ra(P:Program)(t:TypeId)(ρ:Operand->D)(m:T Row)(lo hi:Option Operand):D->Option aY
 | .sl es n=>match pP ρ lo 0,pP ρ hi n with
  |some l,some h=>fr (aW P t&&(Nat.ble l h&&Nat.ble h n)) (.sl ((nI es (l*P.cellsOf (aq P t))).take ((h - l)*P.cellsOf (aq P t))) (h - l))
  |_,_=>none
 | .rs i off n=>match m.get i,pP ρ lo 0,pP ρ hi n with
  |some (.cells _ e),some l,some h=>nX (aW P t&&Nat.beq (P.cellsOf e) (P.cellsOf (aq P t))&&(Nat.ble l h&&Nat.ble h n)) (.rs i (off+l*P.cellsOf (aq P t)) (h - l)) i
  |_,_,_=>none
 | .s (.string b)=>match pP ρ lo 0,pP ρ hi b.data.toList.length with
  |some l,some h=>fr (eN P t&&(Nat.ble l h&&Nat.ble h b.data.toList.length)) (.s (.string ⟨⟨(b.data.toList.drop l).take (h - l)⟩⟩))
  |_,_=>none
 | .z=>match pP ρ lo 0,pP ρ hi 0 with
  |some 0,some 0=>fr (aW P t) .z
  |_,_=>none
 |_=>none
noncomputable def Kc(t:TypeId)(x:Operand)(lo hi C:Option Operand):fa:=fun P ρ m _=>match C with
 |none=>Ra P t ρ m lo hi (ρ x)
 |some c=>match I9 P t ρ m (ρ x) lo hi c with
  |some p=>some p
  |none=>Q9 P t ρ (ρ x) lo hi c
noncomputable def Iq(t:TypeId)(x:Operand)(k:Nat):fa:=fun P ρ m _=>match cJ P t k with
 |some (off,ft)=>match ρ x with
  | .pt cs=>fr (Nat.blt 0 (P.cellsOf ft)) (.pt (nI cs off))
  | .rp i o=>match m.get i with
   |some _=>nX (Nat.blt 0 (P.cellsOf ft)) (.rp i (o+off)) i
   |none=>none
  |_=>none
 |none=>none
noncomputable def Kd(t:TypeId)(x:Operand)(k:Nat):fa:=fun P ρ _ _=>match cJ P t k,ρ x with
 |some (off,ft),.agg cs=>fr (aB P ft&&io (off+P.cellsOf ft) cs) (vw P ft (nI cs off))
 |_,_=>none
noncomputable def Ir(t:TypeId)(x i:Operand):fa:=fun P ρ m _=>match ρ x,ρ i with
 | .sl es n,.s (.int _ (.ofNat k))=>fr (aW P t&&(Nat.blt k n&&io ((k+1)*P.cellsOf (aq P t)) es)) (.pt (nI es (k*P.cellsOf (aq P t))))
 | .rs j off n,.s (.int _ (.ofNat k))=>match m.get j with
  |some _=>nX (aW P t&&Nat.blt k n) (.rp j (off+k*P.cellsOf (aq P t))) j
  |none=>none
 | .rp j off,.s (.int _ (.ofNat k))=>match m.get j with
  |some _=>nX (nb P t&&Nat.blt k (nM P t)) (.rp j (off+k*P.cellsOf (aq P t))) j
  |none=>none
 |_,_=>none
noncomputable def Ke(t:TypeId)(x i:Operand):fa:=fun P ρ _ _=>match ρ x,ρ i with
 | .s (.string b),.s (.int _ (.ofNat k))=>fr (eN P t&&Nat.blt k b.data.toList.length) (.s (.int .u8 (b.data.toList.getD k 0).toNat))
 | .agg cs,.s (.int _ (.ofNat k))=>fr (nb P t&&(Nat.blt k (nM P t)&&io ((k+1)*P.cellsOf (aq P t)) cs)) (vw P (aq P t) (nI cs (k*P.cellsOf (aq P t))))
 |_,_=>none
noncomputable def LU:List D->Nat->Option D
 |[],_=>none
 |d::_,0=>some d
 |_::ds,n+1=>LU ds n
noncomputable def Ja(x:Operand)(k:Nat):fa:=fun _ ρ _ _=>match ρ x with
 | .aT cs=>match LU cs k with
  |some d=>some ⟨d,[],[],0⟩
  |none=>none
 |_=>none
noncomputable def Kf(t:TypeId)(x:Operand):fa:=fun P ρ _ _=>match mT (ρ x) with
 |some v=>fr (plain (.iface t v)&&wl P t) (.s (.iface t v))
 |none=>none
noncomputable def Jy(x:Operand)(t:TypeId)(ok:Bool):fa:=fun P ρ _ _=>bif ok then match ρ x with
 | .s v=>fr ((MO v&&wl P t)&&(aB P t&&tU P t)) (Ag P t v)
 |_=>none
 else none
abbrev sC:=Program->(Operand->D)->T Row->Nat->List Operand->List TypeId->Option aY
noncomputable def Uu:sC:=fun P ρ m _ xs ts=>match xs,ts with
 |[x],[t]=>match ρ x with
  | .sl _ n=>fr (aW P t) (.s (.int .i64 (.ofNat n)))
  | .rs i _ n=>match m.get i with
   |some _=>nX (aW P t) (.s (.int .i64 (.ofNat n))) i
   |none=>none
  | .z=>fr (aW P t) (.s (.int .i64 (.ofNat 0)))
  | .s (.string b)=>fr (eN P t) (.s (.int .i64 (.ofNat b.data.toList.length)))
  | .agg _=>fr (nb P t) (.s (.int .i64 (.ofNat (nM P t))))
  | .mp i=>match m.get i with
   |some (.map es)=>nX (iX P t) (.s (.int .i64 (.ofNat es.length))) i
   |_=>none
  |_=>none
 |_,_=>none
noncomputable def FI(m:T Row)(sz:Nat):D->Option (List Nat×Nat×List D)
 | .sl es n=>bif io (n*sz) es then some ([],n,xP (n*sz) es) else none
 | .z=>some ([],0,[])
 | .rs i off n=>match m.get i with
  |some (.cells cs _)=>bif io (off+n*sz) cs then some ([i],n,xP (n*sz) (nI cs off)) else none
  |_=>none
 |_=>none
noncomputable def Ap(i:Nat):List Nat->Bool
 |[]=>true
 |j::l=> !Nat.beq j i&&Ap i l
noncomputable def Uv(P:Program)(m:T Row)(nx:Nat)(t:TypeId)(s:D)(rd:List Nat)(k:Nat)(news:List D):Option aY:=match s with
 | .z=>sa (aW P t&&(Nat.blt 0 (P.cellsOf (aq P t))&&(Nat.ble k maxLen&&Nat.ble (k*P.bytesOf (aq P t)) 140737488355328))) nx (.rs nx 0 k) (.cells news (aq P t)) rd
 | .sc es n=>sa ((aW P t&&sd (n*P.cellsOf (aq P t)) es)&&((Nat.blt 0 k&&Nat.blt 0 (P.cellsOf (aq P t)))&&(Nat.ble (n+k) maxLen&&Nat.ble ((n+k)*P.bytesOf (aq P t)) 140737488355328))) nx (.rs nx 0 (n+k)) (.cells (es++news) (aq P t)) rd
 | .rs i off n=>match m.get i with
  |some (.cells cs e)=>bif ((aW P t&&Nat.beq e (aq P t))&&(Nat.blt 0 (P.cellsOf (aq P t))&&sd (off+n*P.cellsOf (aq P t)) cs))&&((Nat.ble (n+k) maxLen&&Nat.ble ((n+k)*P.bytesOf (aq P t)) 140737488355328)&&Ap i rd) then
   some ⟨.rs nx 0 (n+k),[(i,none),(nx,some (.cells (nI cs off++news) e))],i::rd,1⟩ else none
  |_=>none
 |_=>none
noncomputable def Tc(P:Program)(m:T Row)(nx:Nat)(t u:TypeId)(s:D)(b:ByteArray):Option aY:=match s with
 | .z=>sa ((A7 P t&&eN P u)&&(Nat.ble b.size maxLen&&Nat.ble (b.size*P.bytesOf (aq P t)) 140737488355328)) nx (.rs nx 0 b.size) (.cells (eV b) (aq P t)) []
 | .rs i off n=>match m.get i with
  |some (.cells cs e)=>bif (Nat.beq e (aq P t)&&(A7 P t&&eN P u))&&(sd (off+n) cs&&(Nat.ble (n+b.size) maxLen&&Nat.ble ((n+b.size)*P.bytesOf (aq P t)) 140737488355328)) then
   some ⟨.rs nx 0 (n+b.size),[(i,none),(nx,some (.cells (nI cs off++eV b) e))],[i],1⟩ else none
  |_=>none
 |_=>none
noncomputable def Rb:sC:=fun P ρ m nx xs ts=>match xs,ts with
 |[s,x],[t,u]=>match ρ x with
  | .s (.string b)=>Tc P m nx t u (ρ s) b
  |d=>bif Nat.beq t u then match FI m (P.cellsOf (aq P t)) d with
    |some (rd,k,news)=>Uv P m nx t (ρ s) rd k news
    |none=>none
   else none
 |_,_=>none
noncomputable def Uw:sC:=fun _ ρ _ _ xs ts=>match xs,ts with
 |[x,y],[_,_]=>match ρ x,ρ y with
  | .s (.int k a),.s (.int k' b)=>sI (gF k k') k (bif nY b a then b else a)
  |_,_=>none
 |_,_=>none
noncomputable def R3:sC:=fun P ρ m _ xs ts=>match xs,ts with
 |[x],[t]=>match ρ x with
  | .rs i off n=>match m.get i with
   |some (.cells cs e)=>A5 (aW P t&&(Nat.beq e (aq P t)&&io (off+n*P.cellsOf e) cs)) i (.cells (dL cs off (dq n (aV P e))) e)
   |_=>none
  |_=>none
 |_,_=>none
noncomputable def Rc:sC:=fun P ρ m _ xs ts=>match xs,ts with
 |[x,k],[t,_]=>match mT (ρ k),ρ x with
  |some key,.mp i=>match m.get i with
   |some (.map es)=>A5 (iX P t&&(df P (fT P t) key&&xC P (fT P t) es)) i (.map (r5 key es))
   |_=>none
  |_,_=>none
 |_,_=>none
noncomputable def Td:sC:=fun P ρ m _ xs ts=>match xs,ts with
 |[x,y],[t,u]=>match ρ x with
  | .rs i off n=>match m.get i,FI m (P.cellsOf (aq P t)) (ρ y) with
   |some (.cells cs e),some (rd,k,news)=>bif (Nat.beq t u&&Nat.beq e (aq P t))&&(aW P t&&(Nat.ble k n&&io (off+n*P.cellsOf (aq P t)) cs)) then
    some ⟨.s (.int .i64 (.ofNat k)),[(i,some (.cells (dL cs off news) e))],i::rd,0⟩ else none
   |_,_=>none
  |_=>none
 |_,_=>none
noncomputable def R4:sC:=fun _ ρ m _ xs ts=>match xs,ts with
 |[s],[_]=>match ρ s with
  | .rs i off n=>match m.get i with
   |some _=>nX (Nat.blt 0 n) (.rp i off) i
   |none=>none
  |_=>none
 |_,_=>none
noncomputable def Te:sC:=fun P ρ m _ xs ts=>match xs,ts with
 |[p,n],[t,_]=>match ρ p,ρ n with
  | .rp i off,.s (.int _ (.ofNat k))=>match m.get i with
   |some (.cells cs e)=>match Ao (xP k (nI cs off)),P.underlying t with
    |some l,some (.pointer e')=>bif (Nat.beq k l.length&&Nat.beq e' e)&&((Nat.blt 0 l.length&&Nat.beq (P.cellsOf e) 1)&&(Nat.ble l.length maxLen&&l.all fun x=> !nY x 0&&nY x 256)) then
     some ⟨.s (.string (mkStr l)),[(i,none)],[i],0⟩ else none
    |_,_=>none
   |_=>none
  |_,_=>none
 |_,_=>none
noncomputable def noB:sC:=fun _ _ _ _ _ _=>none
noncomputable def VV:Builtin->sC
 | .len=>Uu
 | .append=>Rb
 | .min=>Uw
 | .clear=>R3
 | .delete=>Rc
 | .copy=>Td
 | .unsafeSliceData=>R4
 | .unsafeString=>Te
 |_=>noB
noncomputable def BK(b:Builtin)(xs:Array Operand)(ts:Array TypeId):fa:=fun P ρ m nx=>VV b P ρ m nx xs.toList ts.toList
noncomputable def Hz:fa:=fun _ _ _ _=>none
noncomputable def Tf(c:Call):fa:=match c.callee with
 | .builtin b=>BK b c.args c.argTypes
 |_=>Hz
noncomputable def Ds:Op->fa
 | .move x=>S8 x
 | .assign x=>S8 x
 | .pick c a b=>KV c a b
 | .alloc t=>J9 t
 | .box t x=>LO t x
 | .build t ps=>Ka t ps
 | .buildSlice t n ps=>Ia t n ps
 | .load t a=>KY t a
 | .store t a x=>Kb t a x
 | .nilCheck x=>IG x
 | .binOp op t x y _=>LR op t x y
 | .unOp op _ x=>M4 op x
 | .convert src dst x=>KZ src dst x
 | .makeFunc f fs cs=>aew f fs cs
 | .makeMap _ r=>LS r
 | .makeSlice t l c=>K0 t l c
 | .lookup t x k ok=>K2 t x k ok
 | .mapUpdate t x k v=>GN t x k v
 | .insert t x k v=>GN t x k v
 | .slice t x lo hi C=>Kc t x lo hi C
 | .fieldAddr t x k=>Iq t x k
 | .field t x k=>Kd t x k
 | .indexAddr t x i=>Ir t x i
 | .index t x i=>Ke t x i
 | .extract x k=>Ja x k
 | .makeInterface t x=>Kf t x
 | .typeAssert x _ t ok=>Jy x t ok
 | .call c=>Tf c
 |_=>Hz
abbrev Hf:=List D->T Row->Nat->Option (Bool×T Row×Nat)
abbrev Hd:=List (Nat×Hf)
noncomputable def CC:Hd->Nat->Option Hf
 |[],_=>none
 |(j,h)::l,i=>bif Nat.beq j i then some h else CC l i
abbrev Ev:=Hd->Bool->Code->bw->Option (Exit×bw)
abbrev ni:=(D ⊕ List PanicEntry)×T Row×Nat
abbrev jX:=FuncId->List D->T Row->Nat->Option ni
abbrev mJ:=FuncId->List D->T Row->Nat->Option aY
abbrev yS:=Option (Option (List PanicEntry)×bw)
structure Ctx where
 fH:FuncId->Option (Func×Code)
 known:FuncId->List D->Option D:=fun _ _=>none
 B9:FuncId->List D->T Row->Nat->Option ni:=fun _ _ _ _=>none
 deep:List Nat:=[]
noncomputable def LV(t:T D):Option Nat->D->Option (T D)
 |none,_=>some t
 |some i,d=>t.put i (some d)
noncomputable def CD(m:T Row):List (Nat×Option Row)->Option (T Row)
 |[]=>some m
 |(i,r)::us=>match m.put i r with
  |some m'=>CD m' us
  |none=>none
noncomputable def vJ(c:bw)(dst:Option Nat)(d:D)(m:T Row)(nx:Nat):Option bw:=match LV c.env dst d with
 |some env=>some ⟨env,m,nx⟩
 |none=>none
noncomputable def vK(c:bw)(dst:Option Nat)(p:aY):Option bw:=match CD c.mem p.aL with
 |some m=>vJ c dst p.val m (c.nx+p.new)
 |none=>none
noncomputable def Dt:Option bw->yS
 |some c=>some (none,c)
 |none=>none
noncomputable def Ux(c:bw)(dst:Option Nat):Option aY->yS
 |some p=>Dt (vK c dst p)
 |none=>none
noncomputable def LW(c:bw)(dst:Option Nat):Option ni->yS
 |some (.inl d,m,nx)=>Dt (vJ c dst d m nx)
 |some (.inr ch,m,nx)=>some (some ch,⟨c.env,m,nx⟩)
 |none=>none
noncomputable def ahr(c:bw)(dst:Option Nat):Option (Bool×T Row×Nat)->yS
 |some (b,m,nx)=>Dt (vJ c dst (.s (.bool b)) m nx)
 |none=>none
abbrev A8:=Program->Hd->jX->Option Nat->bw->yS
noncomputable def fK(k:fa):A8:=fun P _ _ dst c=>Ux c dst (k P (dD c.env) c.mem c.nx)
noncomputable def Kg(i:Nat)(args:List D):A8:=fun _ hd _ dst c=>match CC hd i,c.mem.get i with
 |some h,some (.lp .ready)=>ahr c dst (h args c.mem c.nx)
 |_,_=>none
noncomputable def R5(f:Operand)(xs:Array Operand):A8:=fun P hd call dst c=>match dD c.env f with
 | .fn (.func g) fs cs=>LW c dst (call g (fs++xs.toList.map (dD c.env)++cs) c.mem c.nx)
 | .yl i=>Kg i (xs.toList.map (dD c.env)) P hd call dst c
 |_=>none
noncomputable def R6(x:Operand):A8:=fun _ _ _ _ c=>match dD c.env x with
 | .s (.iface t v)=>some (some [{ v:=.iface t v,recovered:=false }],c)
 |_=>none
noncomputable def Tg(c:Call):A8:=match c.callee with
 | .value f=>R5 f c.args
 | .builtin b=>fK (BK b c.args c.argTypes)
 |_=>fK Hz
noncomputable def Du:Op->A8
 | .call c=>Tg c
 | .panic x=>R6 x
 |o=>fK (Ds o)
noncomputable def FJ(ops:Array Oper)(j:Nat)(b:Bool)(c:bw):Option Bool:=match ops[j]? with
 |some o=>match o.dst with
  |some t=>jC (getD c.env t) b
  |none=>none
 |none=>none
noncomputable def aex(dst:Option Nat)(c:bw):yS:=Dt (vJ c dst tv c.mem c.nx)
noncomputable def M5(P:Program)(hd:Hd)(call:jX)(ops:Array Oper)(o:Oper)(c:bw):yS:=match o.guard with
 |none=>Du o.op P hd call o.dst c
 |some (j,b)=>match FJ ops j b c with
  |none=>none
  |some false=>aex o.dst c
  |some true=>Du o.op P hd call o.dst c
noncomputable def qH(P:Program)(hd:Hd)(call:jX)(ops:Array Oper):List Oper->bw->Option (Exit×bw)
 |[],c=>some (.normal,c)
 |o::os,c=>match M5 P hd call ops o c with
  |some (none,c')=>qH P hd call ops os c'
  |some (some ch,c')=>some (.panic ch,c')
  |none=>none
abbrev HA:=Program->mJ->bw->Option aY
noncomputable def gK(k:fa):HA:=fun P _ c=>k P (dD c.env) c.mem c.nx
noncomputable def R7(f:Operand)(xs:Array Operand):HA:=fun _ call c=>match dD c.env f with
 | .fn (.func g) fs cs=>call g (fs++xs.toList.map (dD c.env)++cs) c.mem c.nx
 |_=>none
noncomputable def Th(c:Call):HA:=match c.callee with
 | .value f=>R7 f c.args
 | .builtin b=>gK (BK b c.args c.argTypes)
 |_=>gK Hz
noncomputable def HB:Op->HA
 | .call c=>Th c
 |o=>gK (Ds o)
noncomputable def Gg(P:Program)(call:mJ)(ops:Array Oper)(o:Oper)(c:bw):Option aY:=match o.guard with
 |none=>HB o.op P call c
 |some (j,b)=>match FJ ops j b c with
  |none=>none
  |some false=>some ⟨tv,[],[],0⟩
  |some true=>HB o.op P call c
noncomputable def z1(P:Program)(call:mJ)(ops:Array Oper):List Oper->bw->Option (List aY×bw)
 |[],c=>some ([],c)
 |o::os,c=>match Gg P call ops o c with
  |some p=>match vK c o.dst p with
   |some c'=>match z1 P call ops os c' with
    |some (ps,c'')=>some (p::ps,c'')
    |none=>none
   |none=>none
  |none=>none
noncomputable def meets(l:List Nat):List Nat->Bool
 |[]=>false
 |x::xs=> !Ap x l||meets l xs
noncomputable def R8(ps:List aY)(q:Nat×Nat):Bool:=match ps[q.1]?,ps[q.2]? with
 |some a,some b=> !meets b.rd a.wr&&(!meets b.wr a.wr&& !meets a.rd b.wr)
 |_,_=>false
noncomputable def xD(ps:List aY):List (Nat×Nat)->Bool
 |[]=>true
 |q::l=>R8 ps q&&xD ps l
noncomputable def Gh(P:Program)(hd:Hd)(gl:jX)(iD:mJ)(ops:Array Oper)(c:bw):Option (List (Nat×Nat))->Option (Exit×bw)
 |some cf=>match z1 P iD ops ops.toList c with
  |some (ps,c')=>bif xD ps cf then some (.normal,c') else none
  |none=>bif tw ops then match z1 P iD ops (ops.toList.take (ops.size - 1)) c with
   |some (ps,c')=>bif xD ps cf then qH P hd gl ops (ops.toList.drop (ops.size - 1)) c' else none
   |none=>none
   else none
 |none=>none
noncomputable def vj:Nat->List D->T D->Option (T D)
 |_,[],t=>some t
 |k,d::ds,t=>match t.put k (some d) with
  |some C=>vj (k+1) ds C
  |none=>none
noncomputable def zE:T D->List Tmp->List D->Option (T D)
 |t,p::ps,d::ds=>match t.put p (some d) with
  |some C=>zE C ps ds
  |none=>none
 |t,_,_=>some t
noncomputable def LX(P:Program)(c:bw):ResultVar->Option D
 | .tmp t=>some (getD c.env t)
 | .cell a t=>match getD c.env a with
  | .rp i off=>match c.mem.get i with
   |some (.cells cs _)=>bif aB P t&&io (off+P.cellsOf t) cs then some (vw P t (nI cs off)) else none
   |_=>none
  | .pt cs=>bif aB P t&&io (P.cellsOf t) cs then some (vw P t cs) else none
  |_=>none
noncomputable def CE(P:Program)(c:bw):List ResultVar->Option (List D)
 |[]=>some []
 |r::rs=>match LX P c r with
  |some d=>match CE P c rs with
   |some ds=>some (d::ds)
   |none=>none
  |none=>none
noncomputable def qv(P:Program)(fn:Func)(s:bw):Option ni:=match CE P s fn.results.toList with
 |some ds=>some (.inl (qF ds),s.mem,s.nx)
 |none=>none
noncomputable def FK(P:Program)(fn:Func):Option (Exit×bw)->Option ni
 |some (.normal,s)=>qv P fn s
 |some (.ret,s)=>qv P fn s
 |some (.panic ch,s)=>some (.inr ch,s.mem,s.nx)
 |_=>none
noncomputable def vL(P:Program)(x:Ctx)(ev:Ev)(hd:Hd)(f:FuncId)(args:List D)(m:T Row)(nx:Nat):Option ni:=
 match x.fH f with
 |none=>none
 |some (fn,c)=>bif io args.length (List.replicate fn.ntmps .u) then
  match vj 0 args .leaf with
  |none=>none
  |some t=>FK P fn (ev hd true c ⟨t,m,nx⟩)
  else none
noncomputable def nj:Nat->D->Bool
 |0,_=>false
 |n+1,d=>match d with
  | .rs .. | .rp .. | .mp _ | .sc .. | .yl _=>false
  | .cu _ d=>nj n d
  | .agg cs | .aT cs | .pt cs | .sl cs _=>cs.all (nj n)
  | .fn _ fs cs=>fs.all (nj n)&&cs.all (nj n)
  | .im es=>es.all fun x=>nj n x.2
  |_=>true
noncomputable def gN{α β:Type}(f:α->Option (β×List Nat)):List α->Option (List β×List Nat)
 |[]=>some ([],[])
 |x::xs=>match f x with
  |none=>none
  |some y=>match gN f xs with
   |none=>none
   |some ys=>some (y.1::ys.1,y.2++ys.2)
noncomputable def cy(P:Program)(m:T Row):Nat->D->Option (D×List Nat)
 |0,_=>none
 |n+1,d=>match d with
  | .mp i=>match m.get i with
   |some (.map es)=>(gN (fun x=>(cy P m n x.2).map fun y=>((x.1,y.1),y.2)) es).map fun x=>(.im x.1,i::x.2)
   |_=>none
  | .im es=>(gN (fun x=>(cy P m n x.2).map fun y=>((x.1,y.1),y.2)) es).map fun x=>(.im x.1,x.2)
  | .rs i off k=>match m.get i with
   |some (.cells cs e)=>(gN (cy P m n) ((cs.drop off).take (k*P.cellsOf e))).map fun x=>(.sl x.1 k,i::x.2)
   |_=>none
  | .rp i off=>match m.get i with
   |some (.cells cs _)=>(gN (cy P m n) (cs.drop off)).map fun x=>(.pt x.1,i::x.2)
   |_=>none
  | .cu true d=>(cy P m n d).map fun x=>(.cu true x.1,x.2)
  | .cu false _=>some (.cu false .u,[])
  | .agg cs=>(gN (cy P m n) cs).map fun x=>(.agg x.1,x.2)
  | .aT cs=>(gN (cy P m n) cs).map fun x=>(.aT x.1,x.2)
  | .sl cs k=>(gN (cy P m n) cs).map fun x=>(.sl x.1 k,x.2)
  | .pt cs=>(gN (cy P m n) cs).map fun x=>(.pt x.1,x.2)
  | .fn f fs cs=>match gN (cy P m n) fs with
   |none=>none
   |some x=>(gN (cy P m n) cs).map fun y=>(.fn f x.1 y.1,x.2++y.2)
  | .s v=>some (.s v,[])
  | .ub=>some (.ub,[])
  | .u=>some (.u,[])
  | .z=>some (.z,[])
  | .sc .. | .yl _=>none
noncomputable def depth:Nat:=12
noncomputable def Gi(P:Program)(m:T Row)(d:D):Option (D ⊕ (List D×Nat×TypeId)):=match cy P m depth d with
 |some (r,_)=>some (.inl r)
 |none=>none
noncomputable def vy(P:Program):Option ni->Option (D ⊕ (List D×Nat×TypeId))
 |some (.inl (.rs i 0 k),m,_)=>match m.get i with
  |some (.cells es t)=>bif es.all (nj depth) then some (.inr (es,k,t)) else Gi P m (.rs i 0 k)
  |_=>none
 |some (.inl d,m,_)=>Gi P m d
 |_=>none
noncomputable def tA(P:Program)(x:Ctx)(ev:Ev)(f:FuncId)(args:List D):Option (D ⊕ (List D×Nat×TypeId)):=vy P (vL P x ev [] f args .leaf 0)
noncomputable def aey(nx:Nat):Option (D ⊕ (List D×Nat×TypeId))->Option aY
 |some (.inl r)=>some ⟨r,[],[],0⟩
 |some (.inr (es,k,t))=>some ⟨.rs nx 0 k,[(nx,some (.cells es t))],[],1⟩
 |none=>none
noncomputable def Gj(a7:List Nat):Option (D ⊕ (List D×Nat×TypeId))->Option aY
 |some (.inl r)=>bif r.gL then some ⟨r,[],a7,0⟩ else none
 |_=>none
noncomputable def Ch(P:Program)(x:Ctx)(ev:Ev):mJ:=fun f args m nx=>match x.known f args with
 |some r=>some ⟨r,[],[],0⟩
 |none=>bif args.all (nj depth) then aey nx (tA P x ev f args)
  else match gN (cy P m depth) args with
   |none=>none
   |some (eR,a7)=>match x.known f eR with
    |some r=>Gj a7 (some (.inl r))
    |none=>Gj a7 (tA P x ev f eR)
noncomputable def yT(f:Nat):List Nat->Bool
 |[]=>false
 |g::l=>bif Nat.beq g f then true else yT f l
noncomputable def Aq:Nat->D->Bool
 |0,_=>false
 |n+1,d=>match d with
  | .s _ | .ub | .z=>true
  | .agg cs | .aT cs=>cs.all (Aq n)
  |_=>false
noncomputable def Ti(x:Ctx)(f:FuncId):Option (List D×List Nat)->Option D
 |some (args,_)=>match x.known f args with
  |some r=>bif Aq depth r then some r else none
  |none=>none
 |none=>none
noncomputable def xR(P:Program)(x:Ctx)(ev:Ev)(hd:Hd):jX:=fun f args m nx=>match x.known f args with
 |some r=>some (.inl r,m,nx)
 |none=>match x.B9 f args m nx with
  |some r=>some r
  |none=>match bif yT f x.deep then Ti x f (gN (cy P m depth) args) else none with
   |some r=>some (.inl r,m,nx)
   |none=>vL P x ev hd f args m nx
noncomputable def Ci(il:Nat)(b:Bool)(k:RS)(s:bw):Option (Bool×T Row×Nat):=match s.mem.get il with
 |some (.lp .busy)=>match s.mem.put il (some (.lp k)) with
  |some m=>some (b,m,s.nx)
  |none=>none
 |_=>none
noncomputable def R9(il:Nat):Option (Exit×bw)->Option (Bool×T Row×Nat)
 |some (.normal,s)=>Ci il true .ready s
 |some (.ret,s)=>Ci il false (.done .ret) s
 |some (.exit i,s)=>Ci il false (.done (.exit i)) s
 |_=>none
noncomputable def R'(ev:Ev)(hd:Hd)(il:Nat)(body:Code):Option (Exit×bw)->Option (Bool×T Row×Nat)
 |some (.normal,s)=>match s.mem.get il with
  |some (.lp .ready)=>match s.mem.put il (some (.lp .busy)) with
   |some m=>R9 il (ev hd false body ⟨s.env,m,s.nx⟩)
   |none=>none
  |_=>none
 |_=>none
noncomputable def B'(ev:Ev)(hd:Hd)(il:Nat)(env:T D)(ps:List Tmp)(assign body:Code):Hf:=fun args m nx=>
 bif Nat.beq args.length ps.length then match zE env ps args with
  |some t=>R' ev hd il body (ev hd false assign ⟨t,m,nx⟩)
  |none=>none
 else none
noncomputable def CF(il:Nat)(env:T D)(m:T Row)(nx:Nat)(e:Exit):Option (Exit×bw):=match m.put il none with
 |some m'=>some (e,⟨env,m',nx⟩)
 |none=>none
noncomputable def Sa(il:Nat)(env:T D):Option ni->Option (Exit×bw)
 |some (.inl _,m,nx)=>match m.get il with
  |some (.lp .ready)=>CF il env m nx .normal
  |some (.lp (.done .ret))=>CF il env m nx .ret
  |some (.lp (.done (.exit i)))=>CF il env m nx (.exit i)
  |_=>none
 |_=>none
abbrev qz:=Program->Ctx->Ev->Hd->Bool->bw->Option (Exit×bw)
noncomputable def Tj:qz:=fun _ _ _ _ _ s=>some (.normal,s)
noncomputable def acj(ops:Array Oper):Bool->qz
 |false=>fun P x ev hd _ s=>qH P hd (xR P x ev hd) ops ops.toList s
 |true=>fun P x ev hd _ s=>Gh P hd (xR P x ev hd) (Ch P x ev) ops s (cb ops)
noncomputable def Gk(ev:Ev)(hd:Hd)(rf:Bool)(b:Code):Option (Exit×bw)->Option (Exit×bw)
 |some (.normal,s)=>ev hd rf b s
 |r=>r
noncomputable def ahs(a b:Code):qz:=fun _ _ ev hd rf s=>Gk ev hd rf b (ev hd rf a s)
noncomputable def aez(c:Operand)(a b:Code):qz:=fun _ _ ev hd rf s=>match dD s.env c with
 | .s (.bool true)=>ev hd rf a s
 | .s (.bool false)=>ev hd rf b s
 |_=>none
noncomputable def K3(id:Nat):Option (Exit×bw)->Option (Exit×bw)
 |some (.exit i,s)=>bif Nat.beq i id then some (.normal,s) else some (.exit i,s)
 |r=>r
noncomputable def adq(id:Nat)(b:Code):qz:=fun _ _ ev hd rf s=>K3 id (ev hd rf b s)
noncomputable def Uy:Option (Exit×bw)->Option (Exit×bw)
 |some (.goto _,_)=>none
 |r=>r
noncomputable def adr(b:Code):qz:=fun _ _ ev hd rf s=>Uy (ev hd rf b s)
noncomputable def aeA(b:Code):qz:=fun _ _ ev hd rf s=>Gk ev hd rf (.loop b) (ev hd rf b s)
noncomputable def Kh(g:Operand)(ps:Array Tmp)(assign body:Code):qz:=fun P x ev hd rf s=>bif rf then match dD s.env g with
 | .fn (.func f) fs cs=>match s.mem.put s.nx (some (.lp .ready)) with
  |none=>none
  |some C=>Sa s.nx s.env (vL P x ev ((s.nx,B' ev hd s.nx s.env ps.toList assign body)::hd) f (fs++[.yl s.nx]++cs) C (s.nx+1))
 |_=>none
 else none
noncomputable def Tk(e:Exit):qz:=fun _ _ _ _ _ s=>some (e,s)
noncomputable def aeB:qz:=fun _ _ _ _ _ _=>none
noncomputable def codeF:Code->qz
 | .skip=>Tj
 | .region _ ops dr=>acj ops dr
 | .seq a b=>ahs a b
 | .cond c a b=>aez c a b
 | .block id b=>adq id b
 | .scope b=>adr b
 | .loop b=>aeA b
 | .rangeFunc g ps assign body=>Kh g ps assign body
 | .exit id=>Tk (.exit id)
 | .label _=>Tj
 | .ret=>Tk .ret
 |_=>aeB
noncomputable def jv(P:Program)(x:Ctx):Nat->Ev
 |0=>fun _ _ _ _=>none
 |n+1=>fun hd rf c s=>codeF c P x (jv P x n) hd rf s
end Go.Abs
