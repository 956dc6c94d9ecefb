/- Part 4. -/
import Derived.Test.YtnagfmlifobdiaaGreatDoorShareShapes3
import Derived.IntWalk
import Derived.RangeFuncLeaves
set_option linter.all false
namespace Go.Abs
section
variable{P:Program}{F:Nat->Prop}{fn:Func}
def Cp(tmps:Array Value):ResultVar->Sem Value
 | .tmp t=>pure (tmps.getD t undef)
 | .cell x t=>do loadVar t (<- asAddr (tmps.getD x undef))
theorem aa3(fn:Func)(tmps:Array Value):results fn tmps=(do
 let vs<- fn.results.mapM (Cp tmps)
 pure (if h:vs.size=1 then vs[0] else .tuple vs)):=by
 unfold results;congr 1
theorem afW{st:St}{β:aJ}{w:World}{a:Act}(hs:cK P F st β w a){r:ResultVar}{p:Prop}{d:D}(h:r8 P st r=some (p,d))(hp:p):
 ∃ v,(Cp a.tmps r).run P w=.ok v w/\R F β w d v:=by
 unfold r8 at h;split at h
 .cases h;exact⟨_,by simp[Cp],hs.e _⟩
 .rename_i x t;have hx:=hs.e x;split at h
  .rename_i i off C;rw[C] at hx;split at h
   .rename_i cs e hm;cases h;obtain⟨b,o,room,sz,M,hv,aA⟩:=hx.Iv hs.m hm;obtain⟨u,hu,hr⟩:=GK (P:=P) hp.1 (aA.rd.1.drop off) oP;refine⟨u,?_,hr⟩;simp only[Cp,hv,Sem.run_bind];simp[asAddr,hu]
   .cases h
  .rename_i cs C;rw[C] at hx;cases h;obtain⟨b,o,hv,_,_,_,J⟩:=hx.Iw;obtain⟨u,hu,hr⟩:=GK (P:=P) hp.1 J hp.2;refine⟨u,?_,hr⟩;simp only[Cp,hv,Sem.run_bind];simp[asAddr,hu]
  .cases h
theorem Tl{st:St}{β:aJ}{w:World}{a:Act}(hs:cK P F st β w a){K:List D->Prop}:∀ (rs:List ResultVar) (C:List D),qP P st rs C K->
 ∃ vs ds,(rs.mapM (Cp a.tmps)).run P w=.ok vs w/\vs.length=ds.length/\K (C++ds)/\
  ∀ (k:Nat) (d:D) (v:Value),ds[k]? =some d->vs[k]? =some v->R F β w d v
 |[],C,h=>⟨[],[],oS,rfl,by simpa[qP] using h,oS⟩
 |r::rs,C,h=>by
  simp only[qP] at h;split at h
  .rename_i p d hr;obtain⟨v,h1,h2⟩:=afW hs hr h.1;obtain⟨vs,ds,J,M,O,U⟩:=Tl hs rs _ h.2;refine⟨v::vs,d::ds,?_,by simp[M],by simpa using O,fun k d' X hd hv=>?_⟩
   .rw[List.mapM_cons];simp only[Sem.run_bind];rw[h1];simp only[Result.andThen_ok,Sem.run_bind];rw[J];simp
   .cases k with
    |zero=>simp at hd hv;subst hd;subst hv;exact h2
    |succ k=>exact U k d' X (by simpa using hd) (by simpa using hv)
  .exact h.elim
theorem Rp{st:St}{β:aJ}{w:World}{a:Act}(hs:cK P F st β w a){K:D->Prop}(h:qP P st fn.results.toList [] fun ds=>K (wG ds)):
 ∃ v d,(results fn a.tmps).run P w=.ok v w/\K d/\R F β w d v:=by
 obtain⟨vs,ds,h1,h2,C,J⟩:=Tl hs _ _ h;simp only[List.nil_append] at C;refine⟨if h:vs.toArray.size=1 then vs.toArray[0] else .tuple vs.toArray,wG ds,?_,C,?_⟩
 .rw[aa3,Array.mapM_eq_mapM_toList];simp only[Sem.run_bind,map_eq_pure_bind,bind_assoc];rw[h1];simp
 .split
  .rename_i bS;simp only[List.size_toArray] at bS;obtain⟨v,rfl⟩:=List.length_eq_one_iff.1 bS;obtain⟨d,rfl⟩:=List.length_eq_one_iff.1 (show ds.length=1 by simpa using h2.symm);exact J 0 d v rfl rfl
  .rename_i bS;simp only[List.size_toArray] at bS
   have:wG ds=.bd ds:=by
    unfold wG;split
    .rename_i d;simp at h2;exact absurd h2 bS
    .rfl
   rw[this];exact .bd ds vs h2 J
theorem aaf{w:World}{b:Nat}{x:Option (List Deferred)}(h:w.heap[b]? =some (.deferred x))(o:Nat):w.cell? ⟨b,o,none⟩=none:=by
 simp[World.cell?,h]
theorem R.Tm{w:World}{b:Nat}{x:Option (List Deferred)}(hb:w.heap[b]? =some (.deferred x))(o:Obj)(C:Nat):pM w (w.putObj b o) C:=by
 refine⟨fun k u hu=>?_,fun ms c hm=>?_⟩
 .have J:C≠b:=fun e=>by rw[e,aaf hb] at hu;cases hu
  exact(cell_of_heap (World.putObj_heap_other J)).trans hu
 .have J:C≠b:=fun e=>by rw[e,hb] at hm;cases hm
  exact(World.putObj_heap_other J).trans hm
theorem cK.nz{st:St}{β:aJ}{w:World}{a:Act}{b:Nat}{x:Option (List Deferred)}(hb:w.heap[b]? =some (.deferred x))(hf:β.free b)(o:Obj)(h:cK P F st β w a):cK P F st β (w.putObj b o) a:=
 ⟨fun t=>(h.e t).gen oS (fun C _ h1 h2=>⟨R.Tm hb o C,h2,h1⟩) fun _ _ _ h=>.inl h,⟨fun i r hi=>by
  obtain⟨p,hp,hr⟩:=h.m.row i r hi;exact⟨p,hp,hr.gen oS (fun C _ h1 h2=>⟨R.Tm hb o C,h2,h1⟩) (fun _ _ _ h=>.inl h) fun c hc=>World.putObj_heap_other fun e=>hf i p hp (e▸hc)⟩,
  h.m.inj,fun i p c hp hc=>by simpa using h.m.lt i p c hp hc,h.m.nf,h.m.fb.next (fun c hc=>by simpa using h.m.fb.lt c hc) (fun _ h=>h) fun t ht _=>World.putObj_heap_other fun e=>afN (h.m.fb.lH t ht).2 x (by rw[e];exact hb)⟩,h.n⟩
theorem Marks.put{β:aJ}{w:World}{lo b:Nat}(o:Obj):∀ {ds:List Deferred} {hi:Nat},hi<=b->Marks β w lo ds hi->Marks β (w.putObj b o) lo ds hi
 |[],_,_,_=>trivial
 |_::_,_,hle,⟨c,h1,h2,h3,h4,h5,h6⟩=>⟨c,h1,h2,h3,(World.putObj_heap_other oG).trans h4,h5,Marks.put o oG h6⟩
theorem Rg{n:Nat}{tmps:Array Value}{R:Ending->World->Prop}{st:St}{β₀ β:aJ}{w₀:World}{a:Act}{u:FrameMode}(hu:u≠ .run):∀ (ds:List Deferred) (hi:Nat) (w:World),Marks β w w₀.heap.size ds hi->cK P F st β w a->Step β₀ w₀ β w->
 (∀ w',cK P F st β w' a->Step β₀ w₀ β w'->LeavesIn (Fe none) n P fn tmps R [] u w')->LeavesInM (Fe none) n P fn tmps R ds u w
 |[],_,w,_,hs,bH,K=>K w hs bH
 |d::ds,hi,w,⟨b,h1,h2,h3,h4,h5,h6⟩,hs,bH,K=>by
  subst h1;refine⟨hu,.inl ⟨b,_,rfl,run_takeDeferred h4,Rg hu ds b _ (h6.put _ (bM _)) (hs.nz h4 h5 _) ?_ K⟩⟩;refine⟨by simpa using bH.size,fun c hc hf=>?_,bH.iR,bH.out.trans ⟨rfl,rfl⟩,fun i r hp C=>(bH.lp i r hp C).trans (px (World.putObj_heap_other fun e=>h5 i _ C (by simp[Pl.bF,e])))⟩;obtain⟨J,M⟩:=bH.fp c hc hf;exact⟨(World.putObj_heap_other oG).trans J,M⟩
def aib(P:Program)(fn:Func)(R:Ending->World->Prop)(a:Act)(w:World):Exit->Prop
 | .normal | .ret=>∃ v,(results fn a.tmps).run P w=.ok v w/\R (.returned v) w
 | .panic ch=>R (.panicked ch) w
 |_=>False
theorem Sj{args:List D}(hn:args.length<=fn.ntmps){m:Mem}{nx:Nat}{β:aJ}{w:World}{vs:Array Value}(hm:aL P F m β w)(M:∀ i,nx<=i->β i=none)(hR:Rs F β w args vs):
 (vs++Array.replicate (fn.ntmps - vs.size) undef).size=fn.ntmps/\cK P F ⟨nn args,m,nx⟩ β w { tmps:=vs++Array.replicate (fn.ntmps - vs.size) undef,defers:=[] }:=by
 have bS:(vs++Array.replicate (fn.ntmps - vs.size) undef).size=fn.ntmps:=by
  simp only[Array.size_append,Array.size_replicate,hR.1];omega
 let a₀:Act:={ tmps:=vs++Array.replicate (fn.ntmps - vs.size) undef,defers:=[] }
 have O:gP F β w (nn args) a₀:=fun t=>by
  unfold nn;rcases Nat.lt_or_ge t args.length with al|J
  .have h1:args.getD t .u=args[t]:=by simp[al]
   have h2:a₀.tmps.getD t undef=vs[t]'(by rw[hR.1];exact al):=by
    show(vs++Array.replicate (fn.ntmps - vs.size) undef).getD t undef=_;have C:t<vs.size:=by rw[hR.1];exact al
    simp[Array.getD_eq_getD_getElem?,Array.getElem?_append_left C,C]
   rw[h1,h2];exact hR.2 t _ _ (by simp[al]) (by simp[hR.1,al])
  .have h1:args.getD t .u=.u:=by simp[J]
   rw[h1];exact .u _
 exact⟨bS,O,hm,M⟩
theorem aaA{f:FuncId}{c:Code}(hf:P.funcs[f]? =some fn)(hb:fn.body=some c){args:List D}(hn:args.length<=fn.ntmps){m:Mem}{nx:Nat}{R:Ending->World->Prop}
 {β:aJ} {w:World} {vs:Array Value} (hm:aL P F m β w) (C:∀ i,nx<=i->β i=none) (hR:Rs F β w args vs)
 (h:∀ a:Act,a.tmps=vs++Array.replicate (fn.ntmps - vs.size) undef->a.tmps.size=fn.ntmps->a.defers=[]->cK P F ⟨nn args,m,nx⟩ β w a->c.wpIn (Fe none) 0 P (bodyPostM (Fe none) 0 P fn R) a w):Calls P f vs w R:=by
 refine(callsIn_wide (n:=0)).1 (callsIn_of_wp_marks hf hb trivial ?_);exact h _ rfl (Sj hn hm C hR).1 rfl (Sj hn hm C hR).2
theorem Tn{f:FuncId}{c:Code}(hf:P.funcs[f]? =some fn)(hb:fn.body=some c){args:List D}(hn:args.length<=fn.ntmps){m:Mem}{nx:Nat}{Q:Exit->St->Prop}{R:Ending->World->Prop}
 {β:aJ} {w:World} {vs:Array Value} (hm:aL P F m β w) (gy:∀ i,nx<=i->β i=none) (hR:Rs F β w args vs)
 (h:∀ a:Act,a.tmps.size=fn.ntmps->cK P F ⟨nn args,m,nx⟩ β w a->c.wpIn (Fe none) 0 P (EE P F nx β w a Q) a w)
 (pV:∀ e st' β' w' a',Q e st'->cK P F st' β' w' a'->Step β w β' w'->nx<=st'.nx->(∀ i,i<nx->β i=none->β' i=none)->aib P fn R a' w' e):Calls P f vs w R:=by
 refine aaA hf hb hn hm gy hR fun a _ ha hd hs=>wpIn_mono (h a ha hs) fun e a' w' hp=>?_;obtain⟨st',β',hq,M,J⟩:=hp;obtain⟨ds,h1,h2⟩:=J.defers;rw[hd,List.append_nil] at h1;have hl:=fun C (X:cK P F st' β' C a') (U:Step β w β' C)=>pV e st' β' C a' hq X U J.le J.grow
 have O:∀ {u:FrameMode},u≠ .run->(∀ C,cK P F st' β' C a'->Step β w β' C->LeavesIn (Fe none) 0 P fn a'.tmps R [] u C)->LeavesInM (Fe none) 0 P fn a'.tmps R a'.defers u w':=fun hu hk=>by
  rw[h1];exact Rg hu ds _ w' h2 M J.step hk
 cases e with
 |normal=>exact O oS hl
 |ret=>exact O oS hl
 |panic ch=>exact O oS hl
 |exit=>exact hl w' M J.step
 |goto=>exact hl w' M J.step
 |outgrown=>exact(hl w' M J.step).elim
theorem Hi(lV:P.follows .mixedOrders=true){Y:gn}{f:FuncId}{c:Code}(hf:P.funcs[f]? =some fn)(hb:fn.body=some c)(al:iO fn.ntmps c=true){args:List D}(hn:Nat.ble args.length fn.ntmps=true){m:Mem}{nx:Nat}{K:D->St->Prop}
 (h:AW P Y true c (mK P fn.results.toList K) ⟨nn args,m,nx⟩) {β:aJ} {w:World} {vs:Array Value} (hY:∀ l args m nx K,Y l args m nx K->qC P F β w l args m nx K) (hm:aL P F m β w) (gy:∀ i,nx<=i->β i=none) (hR:Rs F β w args vs):
 Calls P f vs w fun e w'=>∃ v d st' β',e=.returned v/\K d st'/\R F β' w' d v/\aL P F st'.mem β' w'/\(∀ i,st'.nx<=i->β' i=none)/\Step β w β' w'/\nx<=st'.nx/\∀ i,i<nx->β i=none->β' i=none:=by
 refine Tn hf hb (by simpa using hn) hm gy hR (fun a ha hs=>adY lV c F none 0 Y true nx β w a (fun _=>rfl) hY (by rw[ha];exact al) _ _ β w a h hs (eW.refl ⟨nn args,m,nx⟩ β w a).Az) fun e st' β' w' a' hq hs O C y4=>?_
 have J:(qP P st' fn.results.toList [] fun ds=>K (wG ds) st')->∃ v,(results fn a'.tmps).run P w'=.ok v w'/\∃ M d st' β',Ending.returned v=.returned M/\K d st'/\R F β' w' d M/\aL P F st'.mem β' w'/\(∀ i,st'.nx<=i->β' i=none)/\Step β w β' w'/\nx<=st'.nx/\∀ i,i<nx->β i=none->β' i=none:=fun hq=>by
  obtain⟨v,d,U,X,g3⟩:=Rp (K:=fun d=>K d st') hs hq;exact⟨v,U,v,d,st',β',rfl,X,g3,hs.m,hs.n,O,C,y4⟩
 cases e with
 |normal=>exact J hq
 |ret=>exact J hq
 |_=>exact hq.elim
theorem GZ{w:World}(C:FB F w):aL P F (fun _=>none) iN w:=
 ⟨fun i r h=>oH,fun i j p q b h=>oH,fun i p b h=>oH,fun i p b h=>oH,C⟩
theorem KN{β':aJ}{w w':World}(h:Step iN w β' w'):Kept w w':=
 ⟨h.size,fun b hb=>(h.fp b hb fun i p hp=>by cases hp).1,h.out⟩
theorem Tr.NK{d:D}(h:Tr d){β:aJ}{w:World}{v:Value}(hv:R F β w d v):R F iN w d v:=
 (h F β w v hv).lift fun b hb=>⟨fun e=>hb (.inl e),fun i p hp=>by cases hp⟩
structure wH(P:Program)(f:FuncId)(fn:Func)(c:Code):Prop where
 hf:P.funcs[f]? =some fn
 hb:fn.body=some c
 al:iO fn.ntmps c=true
 he:na P f=true
theorem ad2(lV:P.follows .mixedOrders=true){f:FuncId}{c:Code}(hf:wH P f fn c){args:List D}(hn:Nat.ble args.length fn.ntmps=true){m:Mem}{nx:Nat}{ep:D->Mem->Nat->Prop}
 (h:AW P kT true c (mK P fn.results.toList fun d st=>ep d st.mem st.nx) ⟨nn args,m,nx⟩):gW P f args m nx ep:=
 ⟨hf.he,fun F β w vs hm C hR=>(Hi lV hf.hf hf.hb hf.al hn h (fun _ _ _ _ _ h=>h.elim) hm C hR).mono fun e w' ⟨v,d,st',β',h1,h2,J,M,O,U,X,h8⟩=>⟨v,d,st'.mem,st'.nx,β',h1,h2,M,O,J,U,X,h8⟩⟩
theorem ad3(O:P.follows .mixedOrders=true){f:FuncId}{c:Code}(hf:wH P f fn c){args:List D}(hn:Nat.ble args.length fn.ntmps=true)(ht:∀ a∈args,Tr a){r:D}(hr:Tr r)
 (h:AW P kT true c (mK P fn.results.toList fun d _=>d=r) ⟨nn args,fun _=>none,0⟩):az P f args r:=
 ⟨hf.he,ht,fun F w vs M hR=>(Hi O hf.hf hf.hb hf.al hn h (fun _ _ _ _ _ h=>h.elim) (GZ M) (fun _ _=>rfl) hR).mono fun e w' hp=>by
  obtain⟨v,d,st',β',h1,rfl,C,U,X,J,h7,h8⟩:=hp
  exact⟨v,h1,hr.NK C,KN J⟩⟩
theorem To{f:FuncId}{args:List D}(he:na P f=true)(ht:∀ a∈args,Tr a){es:List D}(mf:∀ a∈es,Tr a){k:Nat}{t:TypeId}
 (h:∀ F w vs,FB F w->Rs F iN w args vs->Calls P f vs w fun e w'=>∃ v i m β',e=.returned v/\m i=some (.cells es t)/\R F β' w' (.rs i 0 k) v/\aL P F m β' w'/\Step iN w β' w'):nj P f args es k t:=
 ⟨he,ht,fun F w vs hF hR=>(h F w vs hF hR).mono fun e w' hp=>by
  obtain⟨v,i,m',β',h1,hi,h3,J,M⟩:=hp;obtain⟨p,hp,aA⟩:=J.row i _ hi;refine⟨v,p,h1,?_,fun b hb=>⟨?_,J.lt i p b hp hb⟩,?_,?_,KN M⟩
  .rintro rfl;cases aA
  .rcases Nat.lt_or_ge b w.heap.size with al|O
   .exact absurd hb ((M.fp b al fun i p hp=>by cases hp).2 i p hp)
   .exact O
  .have lift:∀ d∈es,∀ u,R F β' w' d u->R (fun x=>F x\/p.bF=some x) iN w' d u:=fun d hd u hu=>
    (mf d hd F β' w' u hu).lift fun b hb=>⟨fun e=>hb (by
     rcases e with e|e
     .exact .inl e
     .exact .inr fun nU=>nU i p hp e),fun i p hp=>by cases hp⟩
   cases aA with
   |nil _=>exact .nil _
   |cells _ _ b o room sz c q1 q2 q3 q4 q5=>
    refine .cells es t b o room sz c q1 q2 q3 q4 fun j d hd=>?_;obtain⟨u,u1,u2,u3⟩:=q5 j d hd;exact⟨u,u1,lift d (cx hd) u u2,u3⟩
  .cases h3 with
   |l9 _ _ _ _ C _=>rw[C] at hp;cases hp;cases aA
   |jO _ a C=>rw[C] at hp;cases hp;exact .jO 0 a (an _ _ _)
   |kO _ _ a b o len room sz C=>rw[C] at hp;cases hp;exact .kO 0 0 a b o len room sz (an _ _ _)
   |rs _ _ _ cap b o len room sz C U X g3 g4=>rw[C] at hp;cases hp;exact .rs 0 0 k cap b o len room sz (an _ _ _) U X g3 g4⟩
theorem ad4 (J:P.follows .mixedOrders=true){f:FuncId}{c:Code}(hf:wH P f fn c){args:List D}(hn:Nat.ble args.length fn.ntmps=true)(ht:∀ a∈args,Tr a){es:List D}(M:∀ a∈es,Tr a){k:Nat}{t:TypeId}
 (h:AW P kT true c (mK P fn.results.toList fun d st=>∃ i,d=.rs i 0 k/\st.mem i=some (.cells es t)) ⟨nn args,fun _=>none,0⟩):nj P f args es k t:=
 To hf.he ht M fun F w vs C hR=>(Hi J hf.hf hf.hb hf.al hn h (fun _ _ _ _ _ h=>h.elim) (GZ C) (fun _ _=>rfl) hR).mono fun e w' ⟨v,d,st',β',h1,⟨i,hd,hi⟩,h3,h4,_,h6,_⟩=>⟨v,i,st'.mem,β',h1,hi,hd▸h3,h4,h6⟩
def XN(C:Nat)(xs:List (List D))(I:Nat->Mem->Nat->Prop)(Stop:Mem->Nat->Prop):gn:=fun l args m nx ep=>
 l=C/\∃ k,xs[k]? =some args/\I k m nx/\∀ d m' aD,Ua I Stop k d m' aD->ep d m' aD
theorem qC.mono{β:aJ}{w:World}{l:Nat}{args:List D}{m:Mem}{nx:Nat}{K K':D->Mem->Nat->Prop}(hk:∀ d m nx,K d m nx->K' d m nx)(h:qC P F β w l args m nx K):qC P F β w l args m nx K':=
 fun β' w' us h1 h2 M O=>by
  obtain⟨f,tmps,assign,body,C,J⟩:=h β' w' us h1 h2 M O;exact⟨f,tmps,assign,body,C,fun n=>RoundIn.mono (F:=Fence.wide) (J n) fun e w' ⟨v,d,m',aD,β',U,X,q3⟩=>⟨v,d,m',aD,β',U,hk _ _ _ X,q3⟩⟩
theorem ahj(lV:P.follows .mixedOrders=true){f:FuncId}{c:Code}(hf:wH P f fn c){fs cs:List D}(hn:Nat.ble (fs.length+1+cs.length) fn.ntmps=true){xs:List (List D)}
 (h:∀ (l:Nat) (I:Nat->Mem->Nat->Prop) (Stop:Mem->Nat->Prop) (m:Mem) (nx:Nat),(∀ k,Es (I k))->Es Stop->I 0 m nx->
  AW P (XN l xs I Stop) true c (mK P fn.results.toList fun _ st=>I xs.length st.mem st.nx\/Stop st.mem st.nx) ⟨nn (fs++[.fn (.yield l) [] []]++cs),m,nx⟩):Ai P f fs cs xs:=
 ⟨hf.he,fun F l I Stop m nx β w vs hI J hm M hR hy h0=>
  (Hi lV hf.hf hf.hb hf.al (by simpa[Nat.add_assoc,Nat.add_comm,Nat.add_left_comm] using hn) (h l I Stop m nx hI J h0) (fun l' args m' aD K hK=>by
   obtain⟨rfl,k,h1,h2,C⟩:=hK
   exact(hy k args m' aD h1 h2).mono C) hm M hR).mono fun e w' ⟨v,d,st',β',h1,h2,C,O,U,X,h7,h8⟩=>⟨v,d,st'.mem,st'.nx,β',h1,h2,O,U,C,X,h7,h8⟩⟩
end
section
variable{P:Program}{Y:gn}{rf:Bool}{Q:Exit->St->Prop}{st:St}
theorem Uf(c a b):AW P Y rf (.cond c a b) Q st=((opd st.env c).ask/\match (opd st.env c).core with
 | .s (.bool t)=>(t=true->AW P Y rf a Q st)/\(t=false->AW P Y rf b Q st)
 | .ub=>AW P Y rf a Q st/\AW P Y rf b Q st
 |_=>False):=rfl
theorem Ug{b:Code}(I:St->Prop)(μ:St->Nat)(h0:I st)(h:∀ st',I st'->AW P Y rf b (ir (fun J=>∃ C,aM P J C/\I C/\μ C<μ st') Q) st'):AW P Y rf (.loop b) Q st:=⟨I,μ,h0,h⟩
theorem gW.mono{f:FuncId}{args:List D}{m:Mem}{nx:Nat}{ep C:D->Mem->Nat->Prop}(h:gW P f args m nx ep)(hp:∀ d m' aD,ep d m' aD->C d m' aD):gW P f args m nx C:=
 ⟨h.1,fun F β w vs hm hn hR=>(h.2 F β w vs hm hn hR).mono fun e w' ⟨v,d,m',aD,β',h1,h2,J⟩=>⟨v,d,m',aD,β',h1,hp _ _ _ h2,J⟩⟩
theorem xS.mono{dr:Bool}{f:FuncId}{args:List D}{K K':D->Mem->Nat->List Nat->List Nat->Prop}(hk:∀ d m nx rd wr,K d m nx rd wr->K' d m nx rd wr)(h:xS P dr st f args K):xS P dr st f args K':=by
 rcases h with⟨r,h1,h2⟩|⟨M,br,r,h1,h2,C,J⟩|⟨es,n,t,h1,h2⟩|⟨h1,h2⟩|⟨r,a7,br,h1,h2,C⟩|⟨es,n,t,a7,br,h1,h2,C,J⟩
 .exact .inl ⟨r,h1,hk _ _ _ _ _ h2⟩
 .exact .inr (.inl ⟨M,br,r,h1,h2,C,hk _ _ _ _ _ J⟩)
 .exact .inr (.inr (.inl ⟨es,n,t,h1,hk _ _ _ _ _ h2⟩))
 .exact .inr (.inr (.inr (.inl ⟨h1,h2.mono fun d m nx h=>hk _ _ _ _ _ h⟩)))
 .exact .inr (.inr (.inr (.inr (.inl ⟨r,a7,br,h1,h2,hk _ _ _ _ _ C⟩))))
 .exact .inr (.inr (.inr (.inr (.inr ⟨es,n,t,a7,br,h1,h2,C,hk _ _ _ _ _ J⟩))))
class eK(Y:gn):Prop where
 mono:∀ l args m nx K K',(∀ d m nx,K d m nx->K' d m nx)->Y l args m nx K->Y l args m nx K'
instance:eK kT:=⟨fun _ _ _ _ _ _ _ h=>h⟩
instance{l:Nat}{xs:List (List D)}{I:Nat->Mem->Nat->Prop}{Stop:Mem->Nat->Prop}:eK (XN l xs I Stop):=⟨fun _ _ _ _ _ _ hk ⟨h1,k,h2,C,J⟩=>⟨h1,k,h2,C,fun d m nx h=>hk _ _ _ (J d m nx h)⟩⟩
theorem lq.mono[eK Y]{ops:Array Oper}{dr:Bool}{o:Oper}{K K':St->List Nat->List Nat->Prop}(hk:∀ st rd wr,K st rd wr->K' st rd wr)(h:lq P Y ops dr o st K):lq P Y ops dr o st K':=by
 unfold lq at h ⊢;split at h
 .refine⟨h.1,?_⟩;have h:=h.2;split at h
  .exact h.mono fun _ _ _ _ _ h=>hk _ _ _ h
  .split at h
   .exact⟨h.1,eK.mono _ _ _ _ _ _ (fun _ _ _ h=>hk _ _ _ h) h.2⟩
   .split at h
    .exact⟨h.1,hk _ _ _ h.2⟩
    .exact h
 .split at h
  .exact h
  .split at h
   .rcases h with⟨r,h1,h2⟩|⟨h1,h2⟩
    .exact .inl ⟨r,h1,hk _ _ _ h2⟩
    .exact .inr ⟨fun hc=>⟨(h1 hc).1,(h1 hc).2.mono fun _ _ _ _ _ h=>hk _ _ _ h⟩,fun hc=>hk _ _ _ (h2 hc)⟩
   .split at h
    .exact⟨fun hc=>⟨(h.1 hc).1,(h.1 hc).2.1,eK.mono _ _ _ _ _ _ (fun _ _ _ h=>hk _ _ _ h) (h.1 hc).2.2⟩,fun hc=>hk _ _ _ (h.2 hc)⟩
    split at h
    .split at h
     .rename_i hc;rw[if_pos hc];exact⟨h.1,hk _ _ _ h.2⟩
     .rename_i hc;rw[if_neg hc];exact⟨fun hc=>⟨(h.1 hc).1,(h.1 hc).2.1,hk _ _ _ (h.1 hc).2.2⟩,fun hc=>hk _ _ _ (h.2 hc)⟩
    .exact⟨h.1,hk _ _ _ h.2⟩
theorem ax.mono[eK Y]{ops:Array Oper}{dr:Bool}{cf:List (Nat×Nat)}{Q C:Exit->St->Prop}(hq:∀ st,Q .normal st->C .normal st):∀ (l:List Oper) (st:St) (tr:mP),ax P Y ops dr cf Q l st tr->ax P Y ops dr cf C l st tr
 |[],st,tr,h=>⟨h.1,hq _ h.2⟩
 |o::l,st,tr,h=>h.elim (fun h=>.inl (lq.mono (fun st' rd wr h=>ax.mono hq l st' _ h) h)) fun⟨h1,h2,e,J,M⟩=>.inr ⟨h1,h2,e,J,ax.mono hq l _ _ M⟩
theorem vN:∀ (c:Code) {Y:gn} [eK Y] {rf:Bool} {Q C:Exit->St->Prop} {st:St},(∀ e st,Q e st->C e st)->AW P Y rf c Q st->AW P Y rf c C st:=by
 intro c
 induction c with
 |skip=>intro Y _ rf;exact fun hq h=>hq _ _ h
 |ret=>intro Y _ rf;exact fun hq h=>hq _ _ h
 |exit id=>intro Y _ rf;exact fun hq h=>hq _ _ h
 |region id ops draw=>
  intro Y _ rf Q C st hq h;cases draw with
  |false=>exact ax.mono (hq .normal) _ _ _ h
  |true=>
   simp only[AW] at h ⊢;split at h
   .exact h.elim (fun h=>.inl (ax.mono (hq .normal) _ _ _ h)) fun h=>.inr ⟨h.1,ax.mono (fun st hs=>⟨hs.1,ax.mono (hq .normal) _ _ _ hs.2⟩) _ _ _ h.2⟩
   .exact h
 |seq a b J M=>
  intro Y _ rf Q C st hq h;refine J (fun e st' h=>?_) h;cases e with
  |normal=>obtain⟨O,hg,hb⟩:=h;exact⟨O,hg,M hq hb⟩
  |_=>exact hq _ _ h
 |cond c a b J M=>
  intro Y _ rf Q C st hq h;refine⟨h.1,?_⟩;have h:=h.2;split at h
  .exact⟨fun ht=>J hq (h.1 ht),fun ht=>M hq (h.2 ht)⟩
  .exact⟨J hq h.1,M hq h.2⟩
  .exact h
 |block id b ih=>
  intro Y _ rf Q C st hq h;refine ih (fun e st' h=>?_) h;cases e with
  |exit i=>
   simp only[iZ] at h ⊢;split at h
   .rename_i hi;rw[if_pos hi];exact hq _ _ h
   .rename_i hi;rw[if_neg hi];exact hq _ _ h
  |_=>exact hq _ _ h
 |scope b ih=>
  intro Y _ rf Q C st hq h;refine ih (fun e st' h=>?_) h;cases e with
  |goto l=>exact h
  |_=>exact hq _ _ h
 |loop b ih=>
  intro Y _ rf Q C st hq h;obtain⟨I,μ,h0,h1⟩:=h;refine⟨I,μ,h0,fun st' hi=>ih (fun e O h=>?_) (h1 st' hi)⟩;cases e with
  |normal=>exact h
  |_=>exact hq _ _ h
 |label l=>intro Y _ rf;exact fun hq h=>hq _ _ h
 |rangeFunc g ps assign body J M=>
  intro Y _ rf Q C st hq h;obtain⟨Ov,Ji,f,fs,cs,xs,I,X,Jj,IW,JQ,U,IX⟩:=h;refine⟨Ov,Ji,f,fs,cs,xs,I,X,Jj,IW,JQ,fun k m nx x hx hI=>J (fun e s h=>?_) (U k m nx x hx hI),fun m nx h=>hq _ _ (IX m nx h)⟩;cases e with
  |normal=>
   refine M (fun e s h=>?_) h;cases e with
   |normal=>exact h
   |ret=>exact hq _ _ h
   |exit id=>exact hq _ _ h
   |_=>exact h
  |_=>exact h
 |_=>intro Y _ rf;exact fun _ h=>h.elim
theorem least{p:Nat->Prop}:∀ j,p j->∃ i,p i/\∀ k,p k->i<=k:=by
 intro j
 induction j using Nat.strongRecOn with
 |_ j ih=>
  intro hj;by_cases h:∃ k,k<j/\p k
  .obtain⟨k,hk,hp⟩:=h;exact ih k hk hp
  .exact⟨j,hj,fun k hk=>Nat.le_of_not_lt fun al=>h ⟨k,al,hk⟩⟩
open Classical in
theorem ad6[eK Y]{b:Code}(J:Nat->St->Prop){j₀:Nat}(h0:J j₀ st)(h:∀ j st',J j st'->AW P Y rf b (ir (fun kL=>∃ O,aM P kL O/\∃ M,M<j/\J M O) Q) st'):AW P Y rf (.loop b) Q st:=by
 have C:∀ st,(∃ j,J j st)->∃ i,J i st/\∀ k,J k st->i<=k:=fun st ⟨j,hj⟩=>least j hj
 let μ:St->Nat:=fun st=>if h:∃ j,J j st then Classical.choose (C st h) else 0
 have X:∀ st,(hj:∃ j,J j st)->J (μ st) st/\∀ k,J k st->μ st<=k:=fun st hj=>by
  have:μ st=Classical.choose (C st hj):=by simp only[μ];rw[dif_pos hj]
  rw[this];exact Classical.choose_spec (C st hj)
 refine Ug (fun st=>∃ j,J j st) μ ⟨j₀,h0⟩ fun st' hj=>vN b (fun e kL hq=>?_) (h (μ st') st' (X st' hj).1);cases e with
 |normal=>
  obtain⟨O,hg,M,al,U⟩:=hq;exact⟨O,hg,⟨M,U⟩,Nat.lt_of_le_of_lt ((X O ⟨M,U⟩).2 M U) al⟩
 |_=>exact hq
end
section
variable{P:Program}{F:Nat->Prop}{β:aJ}{w:World}
theorem Tr.cS{c:Bool}{d:D}(h:Tr d):Tr (.cS c d):=fun F β w v hv=>by
 cases hv with
 |cS _ _ _ h1 h2=>exact .cS c d v (fun hc=>h F β w v (h1 hc)) h2
theorem Tr.agg{cs:List D}(h:∀ d∈cs,Tr d):Tr (.agg cs):=fun F β w v hv=>by
 obtain⟨vs,rfl,hl,hh⟩:=hv.sM;exact .agg cs vs hl fun k d u hd hu=>h d (cx hd) F β w u (hh k d u hd hu)
theorem Tr.bd{cs:List D}(h:∀ d∈cs,Tr d):Tr (.bd cs):=fun F β w v hv=>by
 obtain⟨vs,rfl,hl,hh⟩:=hv.Bt;exact .bd cs vs hl fun k d u hd hu=>h d (cx hd) F β w u (hh k d u hd hu)
theorem Tr.sl{cs:List D}{n:Nat}(h:∀ d∈cs,Tr d):Tr (.sl cs n):=fun F β w v hv=>by
 cases hv with
 |jy a cap=>exact .jy a cap
 |sl _ _ b o cap us hf hb al pT dO hc hh=>
  exact .sl cs n b o cap us (fun e=>e.elim hf fun e=>e hb) (fun i p hp=>by cases hp) al pT dO hc fun k d hd=>h d (cx hd) F β w _ (hh k d hd)
theorem Tr.pt{cs:List D}(h:∀ d∈cs,Tr d):Tr (.pt cs):=fun F β w v hv=>by
 cases hv with
 |pt _ b o us hf hb al hc hh=>
  exact .pt cs b o us (fun e=>e.elim hf fun e=>e hb) (fun i p hp=>by cases hp) al hc fun k d hd=>h d (cx hd) F β w _ (hh k d hd)
theorem Tr.fn{f:Fn}{fs cs:List D}(h:∀ d∈fs,Tr d)(h':∀ d∈cs,Tr d):Tr (.fn f fs cs):=fun F β w v hv=>by
 cases hv with
 |fn _ _ _ us vs hl nD h1 h2=>
  exact .fn f fs cs us vs hl nD (fun k d u hd hu=>h d (cx hd) F β w u (h1 k d u hd hu)) fun k d u hd hu=>h' d (cx hd) F β w u (h2 k d u hd hu)
theorem Tr.im{es:List (Value×D)}(h:∀ x∈es,Tr x.2):Tr (.im es):=fun F β w v hv=>by
 cases hv with
 |im _ r ms clock hf hb hc hl eN hk hh=>
  exact .im es r ms clock (fun e=>e.elim hf fun e=>e hb) (fun i p hp=>by cases hp) hc hl eN hk fun k x m hx hm=>h x (cx hx) F β w _ (hh k x m hx hm)
theorem Tr.s(x:Value):Tr (.s x):=fun F β w v hv=>by
 obtain⟨rfl,h⟩:=hv.cI;exact .s _ h
theorem Tr.ub:Tr .ub:=fun F β w v hv=>by
 obtain⟨b,rfl⟩:=hv.Ep;exact .ub b
theorem Tr.u:Tr .u:=fun F β w v _=>.u v
theorem Tr.z:Tr .z:=fun F β w v hv=>by
 rw[hv.yD];exact .z
theorem Tr.nil:∀ a∈([]:List D),Tr a:=fun _ h=>by cases h
theorem Tr.cons{d:D}{l:List D}(h:Tr d)(hl:∀ a∈l,Tr a):∀ a∈d::l,Tr a:=fun a ha=>by
 cases ha with
 |head=>exact h
 |tail _ ha=>exact hl a ha
theorem Tr.map{α:Type}{f:α->D}{l:List α}(h:∀ x,Tr (f x)):∀ a∈l.map f,Tr a:=fun a ha=>by
 obtain⟨x,_,rfl⟩:=List.mem_map.1 ha;exact h x
theorem Tr.flat{α:Type}{f:α->List D}{l:List α}(h:∀ x,∀ a∈f x,Tr a):∀ a∈l.flatMap f,Tr a:=fun a ha=>by
 obtain⟨x,_,hx⟩:=List.mem_flatMap.1 ha;exact h x a hx
end
def aF:List (Nat×D)->Env
 |[],_=>.u
 |(t,d)::l,j=>if j=t then d else aF l j
def nh:List (Nat×D)->Env->Prop
 |[],_=>True
 |(t,d)::l,env=>env t=d/\nh l env
theorem rO:∀ {l:List (Nat×D)} {env:Env},nh l env->∀ t,aF l t=env t\/aF l t=.u
 |[],_,_,_=>.inr rfl
 |(k,d)::l,env,h,t=>by
  simp only[aF];by_cases ht:t=k
  .subst ht;rw[if_pos rfl];exact .inl h.1.symm
  .rw[if_neg ht];exact rO h.2 t
def gR(env:Env):List Operand->Prop
 |[]=>True
 |x::xs=>(opd env x).ask/\gR env xs
theorem TE{env:Env}:∀ {l:List Operand},gR env l->∀ x∈l,(opd env x).ask
 |[],_,x,h=>by cases h
 |y::l,h,x,hx=>by
  cases hx with
  |head=>exact h.1
  |tail _ hx=>exact TE h.2 x hx
theorem qo{env:Env}{o:Op}(h:gR env o.operands.toList):asks env o:=by
 have:=TE h;unfold asks;cases o<;>first|exact this|exact this _ bR
section
variable{P:Program}{Y:gn}{rf:Bool}
structure Ef(P:Program)(op:Op)(env:Env)(m:Mem)(nx:Nat)(e:dJ):Prop where
 ok:aW P op (bn env op) m nx=some e
 nc:ea (bn env op) op=none
 ny:pH (bn env op) op=none
variable{ops:Array Oper}{dr:Bool}{cf:List (Nat×Nat)}{Q:Exit->St->Prop}{rest:List Oper}{env:Env}{m:Mem}{nx:Nat}{tr:mP}{t:Nat}{op:Op}{ty:TypeId}{pos:String}{after:Array Edge}
 {pre:Prop} {v:D} {rd:List Nat}
theorem zK{d:Option Nat}{e:dJ}(he:Ef P op env m nx e)(ha:asks env op)(hp:e.pre)(K:ax P Y ops dr cf Q rest (St.put ⟨env,cQ m e.a7,nx+e.new⟩ d e.val) (tr++[(e.rd,e.a7.map (·.1))])):
 ax P Y ops dr cf Q (⟨d,op,ty,pos,after,none⟩::rest) ⟨env,m,nx⟩ tr:=by
 simp only[ax];refine .inl ?_;simp only[lq];rw[he.nc,he.ny,he.ok];exact⟨ha,hp,K⟩
theorem aq(he:Ef P op env m nx ⟨pre,v,[],rd,0⟩)(ha:gR env op.operands.toList)(hp:pre)(K:ax P Y ops dr cf Q rest ⟨up env t v,m,nx⟩ (tr++[(rd,[])])):
 ax P Y ops dr cf Q (⟨some t,op,ty,pos,after,none⟩::rest) ⟨env,m,nx⟩ tr:=zK he (qo ha) hp K
theorem By{c a b:Operand}{g:Bool}(hc:(opd env c).core=.s (.bool g)):Ef P (.pick c a b) env m nx ⟨(g=true->(opd env a).ask/\(opd env a).core.fZ.isSome=true)/\(g=false->(opd env b).ask/\(opd env b).core.fZ.isSome=true),
 .s (.bool (if g then(opd env a).core.fZ.getD false else(opd env b).core.fZ.getD false)),[],[],0⟩:=⟨by simp only[aW,bn,hc,D.fZ],rfl,rfl⟩
theorem agh{c a b:Operand}{g x y:Bool}(hc:opd env c=.s (.bool g))(ha:(opd env a).core=.s (.bool x))(hb:(opd env b).core=.s (.bool y))(h1:g=true->(opd env a).ask)(h2:g=false->(opd env b).ask)
 (K:ax P Y ops dr cf Q rest ⟨up env t (.s (.bool (if g then x else y))),m,nx⟩ (tr++[([],[])])):
 ax P Y ops dr cf Q (⟨some t,.pick c a b,ty,pos,after,none⟩::rest) ⟨env,m,nx⟩ tr:=by
 refine zK (By (g:=g) (by rw[hc];rfl)) (by simp only[asks,hc,D.ask]) ⟨fun h=>⟨h1 h,by rw[ha];rfl⟩,fun h=>⟨h2 h,by rw[hb];rfl⟩⟩ ?_;simp only[ha,hb,D.fZ,Option.getD_some];exact K
theorem aeC{c a b:Operand}{x:Bool}(hc:opd env c=.s (.bool true))(ha:(opd env a).core=.s (.bool x))(h1:(opd env a).ask)
 (K:ax P Y ops dr cf Q rest ⟨up env t (.s (.bool x)),m,nx⟩ (tr++[([],[])])):
 ax P Y ops dr cf Q (⟨some t,.pick c a b,ty,pos,after,none⟩::rest) ⟨env,m,nx⟩ tr:=by
 refine zK (By (g:=true) (by rw[hc];rfl)) (by simp only[asks,hc,D.ask]) ⟨fun _=>⟨h1,by rw[ha];rfl⟩,fun h=>by cases h⟩ ?_;simp only[ha,D.fZ,Option.getD_some,if_true];exact K
theorem aeD{c a b:Operand}{y:Bool}(hc:opd env c=.s (.bool false))(hb:(opd env b).core=.s (.bool y))(h2:(opd env b).ask)
 (K:ax P Y ops dr cf Q rest ⟨up env t (.s (.bool y)),m,nx⟩ (tr++[([],[])])):
 ax P Y ops dr cf Q (⟨some t,.pick c a b,ty,pos,after,none⟩::rest) ⟨env,m,nx⟩ tr:=by
 refine zK (By (g:=false) (by rw[hc];rfl)) (by simp only[asks,hc,D.ask]) ⟨fun h=>oH,fun _=>⟨h2,by rw[hb];rfl⟩⟩ ?_;simp only[hb,D.fZ,Option.getD_some,Bool.false_eq_true,if_false];exact K
theorem dA{i:Nat}{row:Option Row}(he:Ef P op env m nx ⟨pre,v,[(i,row)],rd,0⟩)(ha:gR env op.operands.toList)(hp:pre)(K:ax P Y ops dr cf Q rest ⟨env,up m i row,nx⟩ (tr++[(rd,[i])])):
 ax P Y ops dr cf Q (⟨none,op,ty,pos,after,none⟩::rest) ⟨env,m,nx⟩ tr:=zK he (qo ha) hp K
theorem cR{row:Row}(he:Ef P op env m nx ⟨pre,v,[(nx,some row)],rd,1⟩)(ha:gR env op.operands.toList)(hp:pre)(K:ax P Y ops dr cf Q rest ⟨up env t v,up m nx (some row),nx+1⟩ (tr++[(rd,[nx])])):
 ax P Y ops dr cf Q (⟨some t,op,ty,pos,after,none⟩::rest) ⟨env,m,nx⟩ tr:=zK he (qo ha) hp K
theorem eE{i:Nat}{row:Row}(he:Ef P op env m nx ⟨pre,v,[(i,none),(nx,some row)],rd,1⟩)(ha:gR env op.operands.toList)(hp:pre)(K:ax P Y ops dr cf Q rest ⟨up env t v,up (up m i none) nx (some row),nx+1⟩ (tr++[(rd,[i,nx])])):
 ax P Y ops dr cf Q (⟨some t,op,ty,pos,after,none⟩::rest) ⟨env,m,nx⟩ tr:=zK he (qo ha) hp K
theorem cq{j:Nat}{b c:Bool}{u:Nat}(hj:(ops[j]?).bind (·.dst)=some u)(hg:lA (env u) b=some c)(he:Ef P op env m nx ⟨pre,v,[],rd,0⟩)(ha:c=true->gR env op.operands.toList/\pre)
 (K:ax P Y ops dr cf Q rest ⟨up env t (.cS c v),m,nx⟩ (tr++[(rd,[])])):ax P Y ops dr cf Q (⟨some t,op,ty,pos,after,some (j,b)⟩::rest) ⟨env,m,nx⟩ tr:=by
 simp only[ax];refine .inl ?_;simp only[lq];rw[hj];simp only[Option.bind_some];rw[hg,he.nc,he.ny,he.ok];exact⟨fun hc=>⟨qo (ha hc).1,(ha hc).2⟩,K⟩
theorem aeE{j:Nat}{b0 C:Bool}{u:Nat}(hj:(ops[j]?).bind (·.dst)=some u)(hg:lA (env u) b0=some C){c a b:Operand}{g x y:Bool}(hc:(opd env c).core=.s (.bool g))(ha:(opd env a).core=.s (.bool x))(hb:(opd env b).core=.s (.bool y))
 (h0:C=true->(opd env c).ask) (h1:C=true->g=true->(opd env a).ask) (h2:C=true->g=false->(opd env b).ask)
 (K:ax P Y ops dr cf Q rest ⟨up env t (.cS C (.s (.bool (if g then x else y)))),m,nx⟩ (tr++[([],[])])):
 ax P Y ops dr cf Q (⟨some t,.pick c a b,ty,pos,after,some (j,b0)⟩::rest) ⟨env,m,nx⟩ tr:=by
 have he:=By (P:=P) (env:=env) (m:=m) (nx:=nx) (a:=a) (b:=b) hc;simp only[ha,hb,D.fZ,Option.getD_some,Option.isSome_some,and_true] at he;simp only[ax];refine .inl ?_;simp only[lq];rw[hj];simp only[Option.bind_some];rw[hg,he.nc,he.ny,he.ok];exact⟨fun hc=>⟨by simp only[asks];exact h0 hc,h1 hc,h2 hc⟩,K⟩
theorem aiw{j:Nat}{b:Bool}{u:Nat}{d:Option Nat}{e:dJ}(hj:(ops[j]?).bind (·.dst)=some u)(hg:lA (env u) b=some true)(he:Ef P op env m nx e)(ha:gR env op.operands.toList)(hp:e.pre)
 (K:e.a7=[]->e.new=0->ax P Y ops dr cf Q rest (St.put ⟨env,m,nx⟩ d (.cS true e.val)) (tr++[(e.rd,[])]))
 (K':ax P Y ops dr cf Q rest (St.put ⟨env,cQ m e.a7,nx+e.new⟩ d e.val) (tr++[(e.rd,e.a7.map (·.1))])):ax P Y ops dr cf Q (⟨d,op,ty,pos,after,some (j,b)⟩::rest) ⟨env,m,nx⟩ tr:=by
 simp only[ax];refine .inl ?_;simp only[lq];rw[hj];simp only[Option.bind_some];rw[hg,he.nc,he.ny,he.ok];simp only;split
 .rename_i h;simp only[aB,List.isEmpty_iff,beq_iff_eq] at h;exact⟨fun _=>⟨qo ha,hp⟩,K h.1 h.2⟩
 .exact⟨fun _=>⟨qo ha,hp,K'⟩,oS⟩
theorem WX{j:Nat}{b:Bool}{u:Nat}{d:Option Nat}(hj:(ops[j]?).bind (·.dst)=some u)(hg:lA (env u) b=some false)
 (K:∀ (x:D) rd,ax P Y ops dr cf Q rest (St.put ⟨env,m,nx⟩ d (.cS false x)) (tr++[(rd,[])])):ax P Y ops dr cf Q (⟨d,op,ty,pos,after,some (j,b)⟩::rest) ⟨env,m,nx⟩ tr:=by
 simp only[ax];refine .inl ?_;simp only[lq];rw[hj];simp only[Option.bind_some];rw[hg];simp only;split
 .exact .inr ⟨oS,fun _=>K .u []⟩
 .split
  .exact⟨oS,fun _=>K .u []⟩
  .split
   .split
    .exact⟨oS,K _ _⟩
    .exact⟨oS,fun _=>K .u []⟩
   .exact⟨trivial,K .u []⟩
theorem aqQ{j:Nat}{b:Bool}{u t:Nat}(hj:(ops[j]?).bind (·.dst)=some u)(hg:lA (env u) b=some false)
 (K:∀ (x:D) rd,ax P Y ops dr cf Q rest ⟨up env t (.cS false x),m,nx⟩ (tr++[(rd,[])])):ax P Y ops dr cf Q (⟨some t,op,ty,pos,after,some (j,b)⟩::rest) ⟨env,m,nx⟩ tr:=WX hj hg K
theorem HI{f:FuncId}{args:List D}{d:Option Nat}(hc:ea (bn env op) op=some (f,args))(ha:gR env op.operands.toList)(h:xS P dr ⟨env,m,nx⟩ f args fun r m nx rd wr=>ax P Y ops dr cf Q rest (St.put ⟨env,m,nx⟩ d r) (tr++[(rd,wr)])):
 ax P Y ops dr cf Q (⟨d,op,ty,pos,after,none⟩::rest) ⟨env,m,nx⟩ tr:=by
 simp only[ax];refine .inl ?_;simp only[lq];rw[hc];exact⟨qo ha,h⟩
theorem uI{f:FuncId}{args:List D}{r:D}(h:az P f args r)(hc:ea (bn env op) op=some (f,args))(ha:gR env op.operands.toList)(K:ax P Y ops dr cf Q rest ⟨up env t r,m,nx⟩ (tr++[([],[])])):
 ax P Y ops dr cf Q (⟨some t,op,ty,pos,after,none⟩::rest) ⟨env,m,nx⟩ tr:=HI hc ha (.inl ⟨r,h,K⟩)
theorem N1{f:FuncId}{args es:List D}{n:Nat}{C:TypeId}(h:nj P f args es n C)(hc:ea (bn env op) op=some (f,args))(ha:gR env op.operands.toList)(K:ax P Y ops dr cf Q rest ⟨up env t (.rs nx 0 n),up m nx (some (.cells es C)),nx+1⟩ (tr++[([],[nx])])):
 ax P Y ops dr cf Q (⟨some t,op,ty,pos,after,none⟩::rest) ⟨env,m,nx⟩ tr:=HI hc ha (.inr (.inr (.inl ⟨es,n,C,h,K⟩)))
theorem lD{f:FuncId}{args:List D}{d:Option Nat}{ep:D->Mem->Nat->Prop}(h:gW P f args m nx ep)(hc:ea (bn env op) op=some (f,args))(ha:gR env op.operands.toList)
 (K:∀ r m' aD,ep r m' aD->ax P Y ops false cf Q rest (St.put ⟨env,m',aD⟩ d r) (tr++[([],[])])):
 ax P Y ops false cf Q (⟨d,op,ty,pos,after,none⟩::rest) ⟨env,m,nx⟩ tr:=HI hc ha (.inr (.inr (.inr (.inl ⟨rfl,h.mono K⟩))))
theorem z7{f:FuncId}{args C:List D}{r:D}{br:List Nat}(h:az P f C r)(hs:r.jt=true)(J:jx P br m args C)(hc:ea (bn env op) op=some (f,args))(ha:gR env op.operands.toList)
 (K:ax P Y ops dr cf Q rest ⟨up env t r,m,nx⟩ (tr++[(br,[])])):ax P Y ops dr cf Q (⟨some t,op,ty,pos,after,none⟩::rest) ⟨env,m,nx⟩ tr:=HI hc ha (.inr (.inl ⟨C,br,r,J,h,hs,K⟩))
theorem Nc{j:Nat}{b c:Bool}{u:Nat}{f:FuncId}{args:List D}{r:D}(hj:(ops[j]?).bind (·.dst)=some u)(hg:lA (env u) b=some c)(hc:ea (bn env op) op=some (f,args))(h:c=true->gR env op.operands.toList/\az P f args r)
 (K:ax P Y ops dr cf Q rest ⟨up env t (.cS c r),m,nx⟩ (tr++[([],[])])):ax P Y ops dr cf Q (⟨some t,op,ty,pos,after,some (j,b)⟩::rest) ⟨env,m,nx⟩ tr:=by
 simp only[ax];refine .inl ?_;simp only[lq];rw[hj];simp only[Option.bind_some];rw[hg,hc];exact .inl ⟨r,fun C=>⟨qo (h C).1,(h C).2⟩,K⟩
theorem aez{j:Nat}{b:Bool}{u:Nat}{d:Option Nat}{f:FuncId}{args:List D}(hj:(ops[j]?).bind (·.dst)=some u)(hg:lA (env u) b=some true)(hc:ea (bn env op) op=some (f,args))(ha:gR env op.operands.toList)
 (h:xS P dr ⟨env,m,nx⟩ f args fun r m nx rd wr=>ax P Y ops dr cf Q rest (St.put ⟨env,m,nx⟩ d r) (tr++[(rd,wr)])):ax P Y ops dr cf Q (⟨d,op,ty,pos,after,some (j,b)⟩::rest) ⟨env,m,nx⟩ tr:=by
 simp only[ax];refine .inl ?_;simp only[lq];rw[hj];simp only[Option.bind_some];rw[hg,hc];exact .inr ⟨fun _=>⟨qo ha,h⟩,oS⟩
theorem X3{l:Nat}{args:List D}{d:Option Nat}(hc:ea (bn env op) op=none)(hy:pH (bn env op) op=some (l,args))(ha:gR env op.operands.toList)(h:Y l args m nx fun r m' aD=>ax P Y ops false cf Q rest (St.put ⟨env,m',aD⟩ d r) (tr++[([],[])])):
 ax P Y ops false cf Q (⟨d,op,ty,pos,after,none⟩::rest) ⟨env,m,nx⟩ tr:=by
 simp only[ax];refine .inl ?_;simp only[lq];rw[hc,hy];exact⟨qo ha,trivial,h⟩
theorem N2{j:Nat}{b:Bool}{u:Nat}{l:Nat}{args:List D}{d:Option Nat}(hj:(ops[j]?).bind (·.dst)=some u)(hg:lA (env u) b=some true)(hc:ea (bn env op) op=none)(hy:pH (bn env op) op=some (l,args))(ha:gR env op.operands.toList)
 (h:Y l args m nx fun r m' aD=>ax P Y ops false cf Q rest (St.put ⟨env,m',aD⟩ d r) (tr++[([],[])])):ax P Y ops false cf Q (⟨d,op,ty,pos,after,some (j,b)⟩::rest) ⟨env,m,nx⟩ tr:=by
 simp only[ax];refine .inl ?_;simp only[lq];rw[hj];simp only[Option.bind_some];rw[hg,hc,hy];exact⟨fun _=>⟨qo ha,trivial,h⟩,oS⟩
def gq(K:St->Prop):Exit->St->Prop
 | .normal,st=>K st
 |_,_=>True
theorem ab{K:St->Prop}{st:St}(h:K st):ax P Y ops dr [] (gq K) [] st tr:=⟨oS,h⟩
theorem bN{K:St->Prop}{st:St}(hc:∀ q∈cf,rU tr q.1 q.2)(h:K st):ax P Y ops dr cf (gq K) [] st tr:=⟨hc,h⟩
variable{st:St}{a b c:Code}
theorem ax.lg{cf:List (Nat×Nat)}{K:St->Prop}{Q:Exit->St->Prop}[eK Y]{l:List Oper}(h:ax P Y ops dr cf (gq K) l st tr)(hk:∀ st,K st->Q .normal st):ax P Y ops dr cf Q l st tr:=
 ax.mono (Q:=gq K) (fun st h=>hk st h) l st tr h
theorem iV[eK Y]{id:Nat}(h:ax P Y ops false [] (gq fun st=>Q .normal st) ops.toList st []):AW P Y rf (.region id ops false) Q st:=ax.lg h fun _ h=>h
theorem BU[eK Y]{id:Nat}(hi:bV ops=some cf)(h:ax P Y ops true cf (gq fun st=>Q .normal st) ops.toList st []):AW P Y rf (.region id ops true) Q st:=by
 show match bV ops with
  |some cf=>Iq P Y ops cf Q st
  |none=>False
 rw[hi];exact .inl (ax.lg h fun _ h=>h)
theorem Mw[eK Y]{id:Nat}(hi:bV ops=some cf)(hl:zX ops=true)(h:ax P kT ops true cf (gq fun st=>ax P kT ops false [] (gq fun st=>Q .normal st) (ops.toList.drop (ops.size - 1)) st []) (ops.toList.take (ops.size - 1)) st []):AW P Y rf (.region id ops true) Q st:=by
 show match bV ops with
  |some cf=>Iq P Y ops cf Q st
  |none=>False
 rw[hi];exact .inr ⟨hl,ax.lg h fun _ h=>⟨rfl,ax.lg h fun _ h=>h⟩⟩
theorem aao[eK Y]{id:Nat}(hi:bV ops=some cf)(hl:zX ops=true)(h:ax P kT ops true cf (gq fun st=>ax P kT ops false [] (gq fun st=>∃ st',aM P st st'/\AW P Y rf b Q st') (ops.toList.drop (ops.size - 1)) st []) (ops.toList.take (ops.size - 1)) st []):AW P Y rf (.seq (.region id ops true) b) Q st:=
 Mw (rf:=rf) (id:=id) hi hl (ax.lg h fun _ h=>ax.lg h fun st h=>h)
theorem aj[eK Y]{id:Nat}(h:ax P Y ops false [] (gq fun st=>AW P Y rf b Q st) ops.toList st []):AW P Y rf (.seq (.region id ops false) b) Q st:=
 iV (rf:=rf) (id:=id) (ax.lg h fun st h=>⟨st,.refl st,h⟩)
theorem ej[eK Y]{id:Nat}(hi:bV ops=some cf)(h:ax P Y ops true cf (gq fun st=>AW P Y rf b Q st) ops.toList st []):AW P Y rf (.seq (.region id ops true) b) Q st:=
 BU (rf:=rf) (id:=id) hi (ax.lg h fun st h=>⟨st,.refl st,h⟩)
theorem aX{st':St}(hg:aM P st st')(h:AW P Y rf b Q st'):∃ C,aM P st C/\AW P Y rf b Q C:=⟨st',hg,h⟩
theorem ay[eK Y]{id:Nat}(h:ax P Y ops false [] (gq fun st=>∃ st',aM P st st'/\AW P Y rf b Q st') ops.toList st []):AW P Y rf (.seq (.region id ops false) b) Q st:=
 iV (rf:=rf) (id:=id) (ax.lg h fun _ h=>h)
theorem ua[eK Y]{id:Nat}(hi:bV ops=some cf)(h:ax P Y ops true cf (gq fun st=>∃ st',aM P st st'/\AW P Y rf b Q st') ops.toList st []):AW P Y rf (.seq (.region id ops true) b) Q st:=
 BU (rf:=rf) (id:=id) hi (ax.lg h fun _ h=>h)
theorem Wx[eK Y](J:St->Prop)(h:AW P Y rf a (ir J Q) st)(k:∀ st,J st->AW P Y rf b Q st):AW P Y rf (.seq a b) Q st:=
 vN a (fun e st h=>by
  cases e with
  |normal=>exact⟨st,.refl st,k st h⟩
  |_=>exact h) h
theorem eT[eK Y](J:St->Prop)(h:AW P Y rf a (ir J Q) st)(k:∀ st,J st->∃ st',aM P st st'/\AW P Y rf b Q st'):AW P Y rf (.seq a b) Q st:=
 vN a (fun e st h=>by
  cases e with
  |normal=>exact k st h
  |_=>exact h) h
theorem cX[eK Y](h:AW P Y rf b Q st):AW P Y rf (.seq .skip b) Q st:=⟨st,.refl st,h⟩
theorem eb(h:Q .ret st):AW P Y rf (.seq .ret b) Q st:=h
theorem uc{id:Nat}(h:Q (.exit id) st):AW P Y rf (.seq (.exit id) b) Q st:=h
theorem aaO{l:Nat}(h:AW P Y rf b Q st):AW P Y rf (.seq (.label l) b) Q st:=⟨st,.refl st,h⟩
theorem aI[eK Y](h:AW P Y rf (.seq a (.seq b c)) Q st):AW P Y rf (.seq (.seq a b) c) Q st:=by
 refine vN a (fun e st h=>?_) h;cases e with
 |normal=>
  obtain⟨st',hg,h⟩:=h;refine⟨st',hg,vN b (fun e st h=>?_) h⟩;cases e<;>exact h
 |_=>exact h
theorem ap{c:Operand}{x y:Code}{g:Bool}(hc:opd st.env c=.s (.bool g))(ht:g=true->AW P Y rf x Q st)(hf:g=false->AW P Y rf y Q st):AW P Y rf (.cond c x y) Q st:=by
 rw[Uf];rw[hc];exact⟨trivial,ht,hf⟩
theorem dZ{c:Operand}{x y:Code}{g:Bool}(hc:opd st.env c=.s (.bool g))(ht:g=true->AW P Y rf (.seq x b) Q st)(hf:g=false->AW P Y rf (.seq y b) Q st):AW P Y rf (.seq (.cond c x y) b) Q st:=ap hc ht hf
theorem UI{c:Operand}{x y:Code}(hc:opd st.env c=.ub)(ht:AW P Y rf x Q st)(hf:AW P Y rf y Q st):AW P Y rf (.cond c x y) Q st:=by
 rw[Uf];rw[hc];exact⟨trivial,ht,hf⟩
theorem sN{id:Nat}(h:AW P Y rf b (iZ id Q) st):AW P Y rf (.block id b) Q st:=h
theorem afZ[eK Y]{α:Type}(S:α->St)(J:α->Prop)(μ:α->Nat)(O:α)(h0:st=S O)(hJ:J O)(h:∀ x,J x->AW P Y rf b (ir (fun st'=>∃ M C,aM P st' M/\M=S C/\J C/\μ C<μ x) Q) (S x)):AW P Y rf (.loop b) Q st:=by
 refine ad6 (fun j st=>∃ x,st=S x/\J x/\μ x=j) (j₀:=μ O) ⟨O,h0,hJ,rfl⟩ ?_;rintro j st ⟨x,rfl,hx,rfl⟩;refine vN b (fun e st' hq=>?_) (h x hx);cases e with
 |normal=>
  obtain⟨M,C,h1,h2,U,X⟩:=hq;exact⟨M,h1,μ C,X,C,h2,U,rfl⟩
 |_=>exact hq
end
theorem aqS{P:Program}{Y:gn}{rf:Bool}{Q:Exit->St->Prop}{st:St}{c:Operand}{x y:Code}(K:AW P Y rf y Q st)(h:opd st.env c=.s (.bool false):=by exact rfl):AW P Y rf (.cond c x y) Q st:=ap h (fun h=>by cases h) fun _=>K
theorem aqT{P:Program}{Y:gn}{rf:Bool}{Q:Exit->St->Prop}{st:St}{c:Operand}{x y:Code}(K:AW P Y rf x Q st)(h:opd st.env c=.s (.bool true):=by exact rfl):AW P Y rf (.cond c x y) Q st:=ap h (fun _=>K) fun h=>by cases h
theorem mE{P:Program}{Y:gn}{rf:Bool}{Q:Exit->St->Prop}{st:St}{c:Operand}{x y b:Code}(K:AW P Y rf (.seq y b) Q st)(h:opd st.env c=.s (.bool false):=by exact rfl):AW P Y rf (.seq (.cond c x y) b) Q st:=ap h (fun h=>by cases h) fun _=>K
theorem pP{P:Program}{Y:gn}{rf:Bool}{Q:Exit->St->Prop}{st:St}{c:Operand}{x y b:Code}(K:AW P Y rf (.seq x b) Q st)(h:opd st.env c=.s (.bool true):=by exact rfl):AW P Y rf (.seq (.cond c x y) b) Q st:=ap h (fun _=>K) fun h=>by cases h
section
variable{P:Program}{env:Env}{m:Mem}{nx:Nat}{t:TypeId}{x y a:Operand}{d v:D}{k:IntKind}{n n':Int}{p q:TypeId}
theorem gX(hx:(opd env x).core=v):Ef P (.move x) env m nx ⟨True,v,[],[],0⟩:=⟨by simp only[aW,bn,hx],rfl,rfl⟩
theorem eQ(hx:(opd env x).core=v):Ef P (.assign x) env m nx ⟨True,v,[],[],0⟩:=⟨by simp only[aW,bn,hx],rfl,rfl⟩
theorem Vm(op:BinOp)(v:Value)(y:Operand):lX P m op t (.s v) y=none:=by
 unfold lX;split<;>first|rfl|(rename_i h;cases h)
theorem ag'{op:BinOp}{v w:Value}(h:∀ a b,v=.bool a->w=.bool b->False):qO P op t (.s v) (.s w)=(oY op v w).map fun r=>(r.1,.s r.2):=by
 cases v<;>cases w<;>first|rfl|exact(h _ _ rfl rfl).elim
theorem np{op:BinOp}{v w u:Value}{pre:Prop}(hx:(opd env x).core=.s v)(hy:(opd env y).core=.s w)(hn:∀ a b,v=.bool a->w=.bool b->False)(hb:oY op v w=some (pre,u)):Ef P (.binOp op t x y p) env m nx ⟨pre,.s u,[],[],0⟩:=
 ⟨by simp only[aW,bn,hx,hy,Vm,ag' hn,hb,Option.map_some],rfl,rfl⟩
section ints
variable(hx:(opd env x).core=.s (.int k n))(hy:(opd env y).core=.s (.int k n'))
include hx hy
theorem NB:Ef P (.binOp .lss t x y p) env m nx ⟨k=k,.s (.bool (decide (n<n'))),[],[],0⟩:=np hx hy oS rfl
theorem NC:Ef P (.binOp .leq t x y p) env m nx ⟨k=k,.s (.bool (decide (n<=n'))),[],[],0⟩:=np hx hy oS rfl
theorem ND:Ef P (.binOp .gtr t x y p) env m nx ⟨k=k,.s (.bool (decide (n'<n))),[],[],0⟩:=np hx hy oS rfl
theorem NE:Ef P (.binOp .geq t x y p) env m nx ⟨k=k,.s (.bool (decide (n'<=n))),[],[],0⟩:=np hx hy oS rfl
theorem NF:Ef P (.binOp .eql t x y p) env m nx ⟨k=k,.s (.bool (n==n')),[],[],0⟩:=np hx hy oS rfl
theorem NG:Ef P (.binOp .neq t x y p) env m nx ⟨k=k,.s (.bool (n !=n')),[],[],0⟩:=np hx hy oS rfl
theorem aha:Ef P (.binOp .add t x y p) env m nx ⟨k=k,.s (.int k (k.wrap (n+n'))),[],[],0⟩:=np hx hy oS rfl
theorem ahb:Ef P (.binOp .sub t x y p) env m nx ⟨k=k,.s (.int k (k.wrap (n - n'))),[],[],0⟩:=np hx hy oS rfl
theorem ahc:Ef P (.binOp .quo t x y p) env m nx ⟨k=k/\n'≠0,.s (.int k (k.wrap (n.tdiv n'))),[],[],0⟩:=np hx hy oS rfl
theorem ah8:Ef P (.binOp .rem t x y p) env m nx ⟨k=k/\n'≠0,.s (.int k (n.tmod n')),[],[],0⟩:=np hx hy oS rfl
theorem Wo:Ef P (.binOp .and t x y p) env m nx ⟨k=k,.s (.int k (mn .and k n n')),[],[],0⟩:=np hx hy oS rfl
theorem amb:Ef P (.binOp .or t x y p) env m nx ⟨k=k,.s (.int k (mn .or k n n')),[],[],0⟩:=np hx hy oS rfl
end ints
theorem ah9{k':IntKind}(hx:(opd env x).core=.s (.int k n))(hy:(opd env y).core=.s (.int k' n')):Ef P (.binOp .shl t x y p) env m nx ⟨0<=n',.s (.int k (k.wrap (n*2 ^ (min n'.toNat k.bits)))),[],[],0⟩:=np hx hy oS rfl
theorem ah'{k':IntKind}(hx:(opd env x).core=.s (.int k n))(hy:(opd env y).core=.s (.int k' n')):Ef P (.binOp .shr t x y p) env m nx ⟨0<=n',.s (.int k (n.fdiv (2 ^ (min n'.toNat k.bits)))),[],[],0⟩:=np hx hy oS rfl
theorem i64_in(n:Int)(h: -9223372036854775808<=n/\n<=9223372036854775807):IntKind.i64.wrap n=n:=Go.IntWalk.i64_in n h
theorem Wp(hx:(opd env x).core=.s (.int .i64 n))(hy:(opd env y).core=.s (.int .i64 n'))(hb: -9223372036854775808<=n+n'/\n+n'<=9223372036854775807):Ef P (.binOp .add t x y p) env m nx ⟨IntKind.i64=IntKind.i64,.s (.int .i64 (n+n')),[],[],0⟩:=by
 have:=aha (P:=P) (m:=m) (nx:=nx) (t:=t) (p:=p) hx hy
 rwa[i64_in _ hb] at this
theorem NH(hx:(opd env x).core=.s (.int .i64 n))(hy:(opd env y).core=.s (.int .i64 n'))(hb: -9223372036854775808<=n - n'/\n - n'<=9223372036854775807):Ef P (.binOp .sub t x y p) env m nx ⟨IntKind.i64=IntKind.i64,.s (.int .i64 (n - n')),[],[],0⟩:=by
 have:=ahb (P:=P) (m:=m) (nx:=nx) (t:=t) (p:=p) hx hy
 rwa[i64_in _ hb] at this
section strings
variable{s s':ByteArray}(hx:(opd env x).core=.s (.string s))(hy:(opd env y).core=.s (.string s'))
include hx hy
theorem Vn:Ef P (.binOp .eql t x y p) env m nx ⟨True,.s (.bool (s.toList==s'.toList)),[],[],0⟩:=np hx hy oS rfl
theorem ahd:Ef P (.binOp .neq t x y p) env m nx ⟨True,.s (.bool !(s.toList==s'.toList)),[],[],0⟩:=np hx hy oS rfl
theorem Vo:Ef P (.binOp .geq t x y p) env m nx ⟨True,.s (.bool !(Op.bytesLess s.toList s'.toList)),[],[],0⟩:=np hx hy oS rfl
end strings
theorem Vp{b C:Bool}(hx:(opd env x).core=.s (.bool b))(hy:(opd env y).core=.s (.bool C)):Ef P (.binOp .eql t x y p) env m nx ⟨vr P t=true,.s (.bool (b==C)),[],[],0⟩:=
 ⟨by simp only[aW,bn,hx,hy,Vm,qO,Option.map_some],rfl,rfl⟩
theorem Wq{b:Bool}(hx:(opd env x).core=.s (.bool b)):Ef P (.unOp .not t x) env m nx ⟨True,.s (.bool !b),[],[],0⟩:=⟨by simp only[aW,bn,hx,AE,Option.map_some],rfl,rfl⟩
theorem Uc{z:List D}(hz:bq P t=z):Ef P (.alloc t) env m nx ⟨aO P t=true,.rp nx 0,[(nx,some (.cells z t))],[],1⟩:=⟨by simp only[aW,hz],rfl,rfl⟩
theorem Wr{cs:List D}(hx:(opd env x).core=d)(hc:d.cells=cs):Ef P (.box t x) env m nx ⟨cs.all D.one=true,.rp nx 0,[(nx,some (.cells cs t))],[],1⟩:=⟨by simp only[aW,bn,hx,hc],rfl,rfl⟩
theorem MR(hx:(opd env x).core=d)(hc:d.cells=[d]):Ef P (.box t x) env m nx ⟨[d].all D.one=true,.rp nx 0,[(nx,some (.cells [d] t))],[],1⟩:=Wr hx hc
theorem uy{cs:List D}(hx:(opd env x).core=.agg cs):Ef P (.box t x) env m nx ⟨cs.all D.one=true,.rp nx 0,[(nx,some (.cells cs t))],[],1⟩:=Wr hx rfl
theorem vY{cs:List D}(hx:(opd env x).core=.pt (v::cs))(ha:bI P t=false):Ef P (.load t x) env m nx ⟨aO P t=true/\P.cellsOf t<=(v::cs).length,v,[],[],0⟩:=⟨by simp[aW,bn,hx,kH,ha],rfl,rfl⟩
theorem nO{cs vs:List D}{n:Nat}(hx:(opd env x).core=.pt cs)(ha:bI P t=true)(hc:P.cellsOf t=n)(hv:cs.take n=vs):Ef P (.load t x) env m nx ⟨aO P t=true/\P.cellsOf t<=cs.length,.agg vs,[],[],0⟩:=⟨by simp[aW,bn,hx,kH,ha,hc,hv],rfl,rfl⟩
theorem eR{i off:Nat}{cs cs':List D}{e:TypeId}(hx:(opd env x).core=.rp i off)(hm:m i=some (.cells cs e))(hd:cs.drop off=v::cs')(ha:bI P t=false):Ef P (.load t x) env m nx ⟨aO P t=true/\off+P.cellsOf t<=cs.length,v,[],[i],0⟩:=⟨by simp[aW,bn,hx,hm,kH,ha,hd],rfl,rfl⟩
theorem fD{i off:Nat}{cs vs:List D}{e:TypeId}{n:Nat}(hx:(opd env x).core=.rp i off)(hm:m i=some (.cells cs e))(ha:bI P t=true)(hc:P.cellsOf t=n)(hv:(cs.drop off).take n=vs):Ef P (.load t x) env m nx ⟨aO P t=true/\off+P.cellsOf t<=cs.length,.agg vs,[],[i],0⟩:=⟨by simp[aW,bn,hx,hm,kH,ha,hc,hv],rfl,rfl⟩
theorem Ud{i off:Nat}{cs cs' vs:List D}{e:TypeId}(hx:(opd env x).core=.rp i off)(hy:(opd env y).core=d)(hm:m i=some (.cells cs e))(hv:d.cells=vs)(hs:fP cs off vs=cs'):
 Ef P (.store t x y) env m nx ⟨aO P t=true/\vs.length=P.cellsOf t/\off+P.cellsOf t<=cs.length/\vs.all D.one=true,.bd [],[(i,some (.cells cs' e))],[i],0⟩:=⟨by simp only[aW,bn,hx,hy,hm,hv,hs],rfl,rfl⟩
theorem jR{i off:Nat}{cs cs':List D}{e:TypeId}(hx:(opd env x).core=.rp i off)(hy:(opd env y).core=d)(hm:m i=some (.cells cs e))(hv:d.cells=[d])(hs:cs.set off d=cs'):
 Ef P (.store t x y) env m nx ⟨aO P t=true/\[d].length=P.cellsOf t/\off+P.cellsOf t<=cs.length/\[d].all D.one=true,.bd [],[(i,some (.cells cs' e))],[i],0⟩:=Ud hx hy hm hv hs
theorem jm{i off:Nat}{cs cs' vs:List D}{e:TypeId}(hx:(opd env x).core=.rp i off)(hy:(opd env y).core=.agg vs)(hm:m i=some (.cells cs e))(hs:fP cs off vs=cs'):
 Ef P (.store t x y) env m nx ⟨aO P t=true/\vs.length=P.cellsOf t/\off+P.cellsOf t<=cs.length/\vs.all D.one=true,.bd [],[(i,some (.cells cs' e))],[i],0⟩:=Ud hx hy hm rfl hs
theorem vM{cs:List D}{j off:Nat}{C:TypeId}(hx:(opd env x).core=.pt cs)(hf:cL P t j=some (off,C)):Ef P (.fieldAddr t x j) env m nx ⟨0<P.cellsOf C,.pt (cs.drop off),[],[],0⟩:=⟨by simp only[aW,bn,hx,hf],rfl,rfl⟩
theorem mX{i o:Nat}{j off:Nat}{C:TypeId}{r:Row}(hx:(opd env x).core=.rp i o)(hm:m i=some r)(hf:cL P t j=some (off,C)):Ef P (.fieldAddr t x j) env m nx ⟨0<P.cellsOf C,.rp i (o+off),[],[i],0⟩:=⟨by simp only[aW,bn,hx,hf,hm],rfl,rfl⟩
theorem It{i o:Nat}{r:Row}(hx:(opd env x).core=.rp i o)(hm:m i=some r):Ef P (.nilCheck x) env m nx ⟨True,.rp i o,[],[i],0⟩:=⟨by simp only[aW,bn,hx,hm],rfl,rfl⟩
theorem NI{es cs:List D}{l sz:Nat}{e:TypeId}(hx:(opd env x).core=.sl es l)(hy:(opd env y).core=.s (.int k n))(he:aE P t=e)(hs:P.cellsOf e=sz)(hd:es.drop (n.toNat*sz)=cs):
 Ef P (.indexAddr t x y) env m nx ⟨bh P t=true/\0<=n/\n<l/\(n.toNat+1)*sz<=es.length,.pt cs,[],[],0⟩:=⟨by simp only[aW,bn,hx,hy,he,hs,hd],rfl,rfl⟩
theorem MS{j off l sz:Nat}{e:TypeId}{r:Row}(hx:(opd env x).core=.rs j off l)(hy:(opd env y).core=.s (.int k n))(hm:m j=some r)(he:aE P t=e)(hs:P.cellsOf e=sz):
 Ef P (.indexAddr t x y) env m nx ⟨bh P t=true/\0<=n/\n<l,.rp j (off+n.toNat*sz),[],[j],0⟩:=⟨by simp only[aW,bn,hx,hy,hm,he,hs],rfl,rfl⟩
theorem ahe{j off sz l:Nat}{e:TypeId}{r:Row}(hx:(opd env x).core=.rp j off)(hy:(opd env y).core=.s (.int k n))(hm:m j=some r)(he:aE P t=e)(hs:P.cellsOf e=sz)(hl:pU P t=l):
 Ef P (.indexAddr t x y) env m nx ⟨o9 P t=true/\0<=n/\n<l,.rp j (off+n.toNat*sz),[],[j],0⟩:=⟨by simp only[aW,bn,hx,hy,hm,he,hs,hl],rfl,rfl⟩
section builtins
theorem yg{b:Builtin}{ts:Array TypeId}{args:Array Operand}{aS:List D}{e:dJ}(hs:ts.size=args.size)(ha:args.toList.map (fun x=>(opd env x).core)=aS)(hb:fh P m nx b ts aS=some e):Ef P (.call { callee:=.builtin b,args:=args,argTypes:=ts }) env m nx e:=
 ⟨by simp only[aW];rw[if_pos hs];simp only[bn];rw[ha,hb],rfl,rfl⟩
theorem Ws{es:List D}{l:Nat}(hx:(opd env x).core=.sl es l):Ef P (.call { callee:=.builtin .len,args:= #[x],argTypes:= #[t] }) env m nx ⟨bh P t=true,.s (.int .i64 l),[],[],0⟩:=yg (aS:=[.sl es l]) rfl (by simp[hx]) rfl
theorem Iu{i off l:Nat}{r:Row}(hx:(opd env x).core=.rs i off l)(hm:m i=some r):Ef P (.call { callee:=.builtin .len,args:= #[x],argTypes:= #[t] }) env m nx ⟨bh P t=true,.s (.int .i64 l),[],[i],0⟩:=yg (aS:=[.rs i off l]) rfl (by simp[hx]) (by simp[fh,mJ,hm])
theorem Vq(hx:(opd env x).core=.z):Ef P (.call { callee:=.builtin .len,args:= #[x],argTypes:= #[t] }) env m nx ⟨bh P t=true,.s (.int .i64 0),[],[],0⟩:=yg (aS:=[.z]) rfl (by simp[hx]) rfl
theorem MT{b:ByteArray}(hx:(opd env x).core=.s (.string b)):Ef P (.call { callee:=.builtin .len,args:= #[x],argTypes:= #[t] }) env m nx ⟨fA P t=true,.s (.int .i64 b.size),[],[],0⟩:=yg (aS:=[.s (.string b)]) rfl (by simp[hx]) rfl
theorem Wt{k:IntKind}(hx:(opd env x).core=.s (.int k n))(hy:(opd env y).core=.s (.int k n')):Ef P (.call { callee:=.builtin .min,args:= #[x,y],argTypes:= #[t,t] }) env m nx ⟨k=k,.s (.int k (if n'<n then n' else n)),[],[],0⟩:=yg (aS:=[.s (.int k n),.s (.int k n')]) rfl (by simp[hx,hy]) rfl
structure Cells(m:Mem)(sz:Nat)(d:D)(p:Prop)(rd:List Nat)(k:Nat)(news:List D):Prop where
 ok:jC m sz d=some (p,rd,k,news)
theorem fN{es news:List D}{k sz:Nat}(h:es.take (k*sz)=news):Cells m sz (.sl es k) (k*sz<=es.length) [] k news:=⟨by simp[jC,h]⟩
theorem gL{i off k sz:Nat}{cs news:List D}{e:TypeId}(hm:m i=some (.cells cs e))(h:(cs.drop off).take (k*sz)=news):Cells m sz (.rs i off k) (off+k*sz<=cs.length) [i] k news:=⟨by simp[jC,hm,h]⟩
theorem jV{p:Prop}{rd:List Nat}{c sz:Nat}{news:List D}{e:TypeId}(hx:(opd env x).core=.z)(hy:(opd env y).core=d)(he:aE P t=e)(hs:P.cellsOf e=sz)(hc:Cells m sz d p rd c news):
 Ef P (.call { callee:=.builtin .append,args:= #[x,y],argTypes:= #[t,t] }) env m nx ⟨bh P t=true/\p/\0<sz/\c<=maxLen/\c*P.bytesOf e<=140737488355328,.rs nx 0 c,[(nx,some (.cells news e))],rd,1⟩:=by
 refine yg (aS:=[.z,d]) rfl (by simp[hx,hy]) ?_;simp only[fh];rw[if_pos oS];simp only[rN,Array.getD_eq_getD_getElem?,List.getElem?_toArray,List.getElem?_cons_zero,Option.getD_some,he,hs,hc.ok]
theorem eC{p:Prop}{rd:List Nat}{c sz i off l:Nat}{cs cs' news:List D}{e:TypeId}(hx:(opd env x).core=.rs i off l)(hm:m i=some (.cells cs e))(hy:(opd env y).core=d)(he:aE P t=e)(hs:P.cellsOf e=sz)(hc:Cells m sz d p rd c news)(hn:cs.drop off++news=cs'):
 Ef P (.call { callee:=.builtin .append,args:= #[x,y],argTypes:= #[t,t] }) env m nx ⟨bh P t=true/\e=e/\p/\0<sz/\off+l*sz=cs.length/\l+c<=maxLen/\(l+c)*P.bytesOf e<=140737488355328/\i∉rd,.rs nx 0 (l+c),[(i,none),(nx,some (.cells cs' e))],i::rd,1⟩:=by
 refine yg (aS:=[.rs i off l,d]) rfl (by simp[hx,hy]) ?_;simp only[fh];rw[if_pos oS];simp only[rN,Array.getD_eq_getD_getElem?,List.getElem?_toArray,List.getElem?_cons_zero,Option.getD_some,he,hs,hc.ok,hm,hn]
end builtins
theorem Vr{b:ByteArray}(hx:(opd env x).core=.s (.string b))(hy:(opd env y).core=.s (.int k n)):Ef P (.index t x y) env m nx ⟨fA P t=true/\0<=n/\n<b.size,.s (.int .u8 (b.data.toList.getD n.toNat 0).toNat),[],[],0⟩:=⟨by simp only[aW,bn,hx,hy],rfl,rfl⟩
theorem sF{cs cs':List D}{j:Nat}(hx:(opd env x).core=.bd cs)(hd:cs.drop j=v::cs'):Ef P (.extract x j) env m nx ⟨j<cs.length,v,[],[],0⟩:=by
 have h:cs[j]? =some v:=by
  have:(cs.drop j)[0]? =some v:=by rw[hd];rfl
  simpa using this
 exact⟨by simp[aW,bn,hx,h],rfl,rfl⟩
theorem afT{ps:Array (Nat×Operand)}{fs:Array Field}{cs z:List D}{C:List (Nat×D)}(hu:P.underlying t=some (.struct fs))(hz:bq P t=z)(hq:(ps.toList.map fun q=>(q.1,(opd env q.2).core))=C)
 (hf:kJ (fun i=>(fs[i]?).map fun f=>(f.offset,P.cellsOf f.type)) z C=some cs):Ef P (.build t ps) env m nx ⟨aO P t=true/\fs.toList.all (fun f=>(P.info? f.type).isSome)=true,.agg cs,[],[],0⟩:=
 ⟨by simp only[aW,bn,hu,hz,hq,hf,Option.map_some],rfl,rfl⟩
theorem DZ{ps:Array (Nat×Operand)}{fs:Array Field}{C:List (Nat×Nat)}{cs z:List D}{J:List (Nat×D)}(hu:P.underlying t=some (.struct fs))(hp:(fs.toList.map fun(f:Field)=>(f.offset,P.cellsOf f.type))=C)(hz:bq P t=z)(hq:(ps.toList.map fun q=>(q.1,(opd env q.2).core))=J)
 (hf:kJ (fun i=>C[i]?) z J=some cs):Ef P (.build t ps) env m nx ⟨aO P t=true/\fs.toList.all (fun f=>(P.info? f.type).isSome)=true,.agg cs,[],[],0⟩:=by
 refine afT hu hz hq ?_
 have:(fun(i:Nat)=>(fs[i]?).map fun(f:Field)=>(f.offset,P.cellsOf f.type))=fun(i:Nat)=>C[i]? :=by
  funext i;rw[<- hp];simp
 rw[this];exact hf
theorem mV{ps:Array (Nat×Operand)}{l sz:Nat}{e:TypeId}{cs z:List D}{C:List (Nat×D)}(he:aE P t=e)(hs:P.cellsOf e=sz)(hz:bq P e=z)(hq:(ps.toList.map fun q=>(q.1,(opd env q.2).core))=C)
 (hf:kJ (fun i=>some (i*sz,sz)) (dM l z) C=some cs):Ef P (.buildSlice t l ps) env m nx ⟨cs.all D.one=true/\l*sz<=2 ^ 24/\bh P t=true/\l<=maxLen,.rs nx 0 l,[(nx,some (.cells cs e))],[],1⟩:=
 ⟨by simp only[aW,bn,he,hs,hz,hq,hf,Option.map_some],rfl,rfl⟩
theorem Vs{f:Fn}{fs cs:Array Operand}{J C:List D}(hf:fs.toList.map (fun x=>(opd env x).core)=J)(hc:cs.toList.map (fun x=>(opd env x).core)=C):Ef P (.makeFunc f fs cs) env m nx ⟨True,.fn f J C,[],[],0⟩:=⟨by simp only[aW,bn,hf,hc],rfl,rfl⟩
theorem aia:Ef P (.makeMap t none) env m nx ⟨True,.mp nx,[(nx,some (.map []))],[],1⟩:=⟨by simp only[aW],rfl,rfl⟩
theorem D0{e:TypeId}{z:List D}(hx:(opd env x).core=.s (.int .i64 n))(hy:(opd env y).core=.s (.int .i64 n'))(he:aE P t=e)(hz:bq P e=z):
 Ef P (.makeSlice t x y) env m nx ⟨0<=n/\n=n'/\n<=9223372036854775807/\P.bytesOf e*n<=281474976710656/\bh P t=true,.rs nx 0 n.toNat,[(nx,some (.cells (dM n.toNat z) e))],[],1⟩:=⟨by simp only[aW,bn,hx,hy,he,hz],rfl,rfl⟩
theorem ahf{src:TypeId}{k':IntKind}(hx:(opd env x).core=.s (.int k n))(hu:P.underlying t=some (.int k')):Ef P (.convert src t x) env m nx ⟨aO P src=true,.s (.int k' (k'.wrap n)),[],[],0⟩:=⟨by simp only[aW,bn,hx,hu],rfl,rfl⟩
theorem afU{src e:TypeId}{b:ByteArray}(hx:(opd env x).core=.s (.string b))(hu:P.underlying t=some (.slice e))(he:P.underlying e=some (.int .u8)):
 Ef P (.convert src t x) env m nx ⟨fA P src=true/\b.size<=maxLen,.sl (b.data.toList.map fun c=>.s (.int .u8 c.toNat)) b.size,[],[],0⟩:=⟨by simp only[aW,bn,hx,hu,he],rfl,rfl⟩
def dd(b:ByteArray):List Int:=b.data.toList.map fun c=>(c.toNat:Int)
theorem Z4(b:ByteArray):(dd b).length=b.size:=by unfold dd;rw[List.length_map];rfl
theorem Ti{src e:TypeId}{b:ByteArray}(hx:(opd env x).core=.s (.string b))(hu:P.underlying t=some (.slice e))(he:P.underlying e=some (.int .u8)):
 Ef P (.convert src t x) env m nx ⟨fA P src=true/\b.size<=maxLen,.sl ((dd b).map fun n=>.s (.int .u8 n)) (dd b).length,[],[],0⟩:=by
 have:=afU (P:=P) (env:=env) (m:=m) (nx:=nx) (t:=t) (src:=src) hx hu he;have h:(dd b).map (fun n=>D.s (.int .u8 n))=b.data.toList.map (fun c=>D.s (.int .u8 c.toNat)):=by rw[dd,List.map_map];rfl
 rw[Z4,h];exact this
theorem Bu{es es':List D}{l:Nat}{lo hi:Option Operand}{a b:Int}{e:TypeId}{sz:Nat}(hx:(opd env x).core=.sl es l)(he:aE P t=e)(hs:P.cellsOf e=sz)
 (ha:fx (lo.map fun x=>(opd env x).core) 0=some a) (hb:fx (hi.map fun x=>(opd env x).core) l=some b) (hd:(es.drop (a.toNat*sz)).take ((b - a).toNat*sz)=es'):
 Ef P (.slice t x lo hi none) env m nx ⟨bh P t=true/\0<=a/\a<=b/\b<=l,.sl es' (b - a).toNat,[],[],0⟩:=by
 refine⟨?_,rfl,rfl⟩;show mz P m t (opd env x).core (lo.map fun x=>(opd env x).core) (hi.map fun x=>(opd env x).core) (Option.map (fun x=>(opd env x).core) none)=_;rw[hx];simp only[mz,Option.map_none,ha,hb,he,hs,hd]
theorem Tj{i off l:Nat}{cs:List D}{lo hi:Option Operand}{a b:Int}{e:TypeId}{sz:Nat}(hx:(opd env x).core=.rs i off l)(hm:m i=some (.cells cs e))(he:aE P t=e)(hs:P.cellsOf e=sz)
 (ha:fx (lo.map fun x=>(opd env x).core) 0=some a) (hb:fx (hi.map fun x=>(opd env x).core) l=some b):
 Ef P (.slice t x lo hi none) env m nx ⟨(bh P t=true/\sz=sz)/\0<=a/\a<=b/\b<=l,.rs i (off+a.toNat*sz) (b - a).toNat,[],[i],0⟩:=by
 refine⟨?_,rfl,rfl⟩;show mz P m t (opd env x).core (lo.map fun x=>(opd env x).core) (hi.map fun x=>(opd env x).core) (Option.map (fun x=>(opd env x).core) none)=_;rw[hx];simp only[mz,hm,Option.map_none,ha,hb,he,hs]
theorem ad0{i:Nat}{es:List (Value×D)}{key:Value}{ok:Bool}{kt:TypeId}(hx:(opd env x).core=.mp i)(hm:m i=some (.map es))(hk:oZ (opd env y).core=some key)(ht:ik P t=kt)(hg:lf P t ok (gZ key es)=v):
 Ef P (.lookup t x y ok) env m nx ⟨kM P t=true/\dY P kt key=true/\es.all (fun e=>dY P kt e.1)=true,v,[],[i],0⟩:=by
 refine⟨?_,rfl,rfl⟩;show oD P m t (opd env x).core (opd env y).core ok=_;simp only[oD,hk,hx,hm,ht,hg]
theorem Si{es:List (Value×D)}{key:Value}{ok:Bool}{kt:TypeId}(hx:(opd env x).core=.im es)(hk:oZ (opd env y).core=some key)(ht:ik P t=kt)(hg:lf P t ok (gZ key es)=v):
 Ef P (.lookup t x y ok) env m nx ⟨kM P t=true/\dY P kt key=true/\es.all (fun e=>dY P kt e.1)=true,v,[],[],0⟩:=by
 refine⟨?_,rfl,rfl⟩;show oD P m t (opd env x).core (opd env y).core ok=_;simp only[oD,hk,hx,ht,hg]
theorem ahg{i:Nat}{es:List (Value×D)}{key:Value}{z:Operand}{kt:TypeId}(hx:(opd env x).core=.mp i)(hm:m i=some (.map es))(hk:oZ (opd env y).core=some key)(hz:(opd env z).core=v)(ht:ik P t=kt):
 Ef P (.mapUpdate t x y z) env m nx ⟨kM P t=true/\dY P kt key=true/\es.all (fun e=>dY P kt e.1)=true,.bd [],[(i,some (.map (nz key v es)))],[i],0⟩:=by
 refine⟨?_,rfl,rfl⟩;show oE P m t (opd env x).core (opd env y).core (opd env z).core=_;simp only[oE,hk,hx,hm,ht,hz]
end
theorem nL{α:Type}{f:α->D}:∀ {l:List α} {k:Nat} {x:α},l[k]? =some x->(l.map f).drop k=f x::(l.drop (k+1)).map f
 |[],k,x,h=>by simp at h
 |a::l,0,x,h=>by simp at h;subst h;rfl
 |a::l,k+1,x,h=>by simpa using nL (f:=f) (l:=l) (k:=k) (by simpa using h)
theorem Lo{α:Type}{f:α->List D}{sz:Nat}(hs:∀ x,(f x).length=sz):∀ {l:List α} {k:Nat} {x:α},l[k]? =some x->(l.flatMap f).drop (k*sz)=f x++(l.drop (k+1)).flatMap f
 |[],k,x,h=>by simp at h
 |a::l,0,x,h=>by simp at h;subst h;simp
 |a::l,k+1,x,h=>by
  have h1:(k+1)*sz=(f a).length+k*sz:=by rw[hs];rw[Nat.add_mul];omega
  simp only[List.flatMap_cons,h1,List.drop_append,List.drop_succ_cons];rw[List.drop_of_length_le oG];have:(f a).length+k*sz - (f a).length=k*sz:=by omega
  rw[this];simpa using Lo hs (l:=l) (k:=k) (by simpa using h)
theorem zp{α:Type}{f:α->List D}{sz:Nat}(hs:∀ x,(f x).length=sz):∀ (l:List α),(l.flatMap f).length=l.length*sz
 |[]=>by simp
 |a::l=>by simp only[List.flatMap_cons,List.length_append,hs,zp hs l,List.length_cons,Nat.add_mul];omega
section
variable{P:Program}{env:Env}{m:Mem}{nx:Nat}{t e:TypeId}{x y:Operand}{k:IntKind}
theorem Vt{α:Type}{f:α->D}{l:List α}{i n:Nat}{z:α}(hx:(opd env x).core=.sl (l.map f) n)(hy:(opd env y).core=.s (.int k i))(he:aE P t=e)(hs:P.cellsOf e=1)(hz:l[i]? =some z):
 Ef P (.indexAddr t x y) env m nx ⟨bh P t=true/\0<=(i:Int)/\(i:Int)<n/\((i:Int).toNat+1)*1<=(l.map f).length,.pt (f z::(l.drop (i+1)).map f),[],[],0⟩:=
 NI hx hy he hs (by rw[eI,Nat.mul_one];exact nL hz)
theorem Vu{α:Type}{f:α->D}{l:List α}{i:Nat}{z:α}(ht:bh P t=true)(hz:l[i]? =some z):bh P t=true/\0<=(i:Int)/\(i:Int)<l.length/\((i:Int).toNat+1)*1<=(l.map f).length:=by
 have:=(bX.1 hz).1;exact⟨ht,oG,oG,by simp;omega⟩
theorem vZ{α:Type}{f:α->List D}{sz:Nat}{l:List α}{i n:Nat}{z:α}(hx:(opd env x).core=.sl (l.flatMap f) n)(hy:(opd env y).core=.s (.int k i))(he:aE P t=e)(hs:P.cellsOf e=sz)(hl:∀ x,(f x).length=sz)(hz:l[i]? =some z):
 Ef P (.indexAddr t x y) env m nx ⟨bh P t=true/\0<=(i:Int)/\(i:Int)<n/\((i:Int).toNat+1)*sz<=(l.flatMap f).length,.pt (f z++(l.drop (i+1)).flatMap f),[],[],0⟩:=
 NI hx hy he hs (by rw[eI];exact Lo hl hz)
theorem v8{α:Type}{f:α->List D}{sz:Nat}{l:List α}{i:Nat}{z:α}(ht:bh P t=true)(hl:∀ x,(f x).length=sz)(hz:l[i]? =some z):bh P t=true/\0<=(i:Int)/\(i:Int)<l.length/\((i:Int).toNat+1)*sz<=(l.flatMap f).length:=by
 have:=(bX.1 hz).1;refine⟨ht,oG,oG,?_⟩;rw[zp hl,eI];exact Nat.mul_le_mul_right _ this
theorem wa{v:D}{cs:List D}(ht:aO P t=true)(hc:P.cellsOf t=1):aO P t=true/\P.cellsOf t<=(v::cs).length:=⟨ht,by rw[hc];simp⟩
theorem eS{v:D}{cs cs':List D}{off:Nat}(ht:aO P t=true)(hc:P.cellsOf t=1)(hd:cs.drop off=v::cs'):aO P t=true/\off+P.cellsOf t<=cs.length:=by
 refine⟨ht,?_⟩;have:(cs.drop off).length=cs'.length+1:=by rw[hd];rfl
 rw[List.length_drop] at this;omega
theorem nP{n:Nat}{cs:List D}(ht:aO P t=true)(hc:P.cellsOf t=n)(hl:n<=cs.length):aO P t=true/\P.cellsOf t<=cs.length:=⟨ht,by rw[hc];exact hl⟩
theorem fE{n off:Nat}{cs:List D}(ht:aO P t=true)(hc:P.cellsOf t=n)(hl:off+n<=cs.length):aO P t=true/\off+P.cellsOf t<=cs.length:=⟨ht,by rw[hc];exact hl⟩
theorem je{n:Nat}(hc:P.cellsOf t=n+1):0<P.cellsOf t:=by omega
theorem ef{n off:Nat}{cs vs:List D}(ht:aO P t=true)(hc:P.cellsOf t=n)(hv:vs.length=n/\off+n<=cs.length)(ho:vs.all D.one=true):aO P t=true/\vs.length=P.cellsOf t/\off+P.cellsOf t<=cs.length/\vs.all D.one=true:=
 ⟨ht,by rw[hc];exact hv.1,by rw[hc];exact hv.2,ho⟩
end
section
variable{P:Program}{K:D->St->Prop}{st:St}
theorem zG(h:K (.bd []) st):mK P [] K .ret st:=h
theorem zH(h:K (.bd []) st):mK P [] K .normal st:=h
theorem aw{t:Nat}{d:D}(hd:st.env t=d)(h:K d st):mK P [.tmp t] K .ret st:=⟨trivial,by subst hd;exact h⟩
theorem oO{t u:Nat}{d e:D}(hd:st.env t=d)(he:st.env u=e)(h:K (.bd [d,e]) st):mK P [.tmp t,.tmp u] K .ret st:=⟨trivial,trivial,by subst hd;subst he;exact h⟩
theorem mi{a i off n:Nat}{ty e:TypeId}{cs vs:List D}(ha:st.env a=.rp i off)(hm:st.mem i=some (.cells cs e))(hg:bI P ty=true)(hc:P.cellsOf ty=n)(hv:(cs.drop off).take n=vs)(ht:aO P ty=true)(hl:off+n<=cs.length):
 ∃ p,r8 P st (.cell a ty)=some (p,.agg vs)/\p:=⟨aO P ty=true/\off+n<=cs.length,by simp only[r8,ha,hm,kH,hg,if_true,hc,hv],ht,hl⟩
theorem lO{a:Nat}{ty:TypeId}{d:D}(hr:∃ p,r8 P st (.cell a ty)=some (p,d)/\p)(h:K d st):mK P [.cell a ty] K .ret st:=by
 obtain⟨p,h1,h2⟩:=hr;simp only[mK,qP,h1];exact⟨h2,h⟩
theorem aa2{a t:Nat}{ty:TypeId}{d e:D}(hr:∃ p,r8 P st (.cell a ty)=some (p,d)/\p)(he:st.env t=e)(h:K (.bd [d,e]) st):mK P [.cell a ty,.tmp t] K .ret st:=by
 obtain⟨p,h1,h2⟩:=hr;simp only[mK,qP,h1];exact⟨h2,trivial,by subst he;exact h⟩
end
section
variable{P:Program}{Y:gn}{rf:Bool}{Q:Exit->St->Prop}{st:St}
theorem ao{l:List (Nat×D)}{env:Env}{m:Mem}{nx:Nat}(h:nh l env):aM P ⟨env,m,nx⟩ ⟨aF l,m,nx⟩:=.forget env _ m nx (rO h)
def OF(P:Program):List (Nat×List D×TypeId)->Mem->Prop
 |[],_=>True
 |(i,cs,e)::fs,m=>m i=some (.cells cs e)/\OF P fs (fun j=>if j=i then none else(m j).map (Row.sub (dh i cs (P.cellsOf e))))
def tE(P:Program):List (Nat×List D×TypeId)->D->D
 |[],d=>d
 |(i,cs,e)::fs,d=>tE P fs (sub (dh i cs (P.cellsOf e)) d)
theorem Sk:∀ {fs:List (Nat×List D×TypeId)} {env:Env} {m:Mem} {nx:Nat},OF P fs m->∃ m',aM P ⟨env,m,nx⟩ ⟨fun t=>tE P fs (env t),m',nx⟩
 |[],env,m,nx,_=>⟨m,.refl _⟩
 |(i,cs,e)::fs,env,m,nx,⟨h1,h2⟩=>by
  obtain⟨m',h⟩:=Sk (env:=fun t=>sub (dh i cs (P.cellsOf e)) (env t)) (nx:=nx) h2;exact⟨m',(aM.freeze env m nx i cs e h1).trans h⟩
theorem bZ{env:Env}{m:Mem}{nx:Nat}(fs:List (Nat×List D×TypeId))(hf:OF P fs m){l:List (Nat×D)}(hl:nh l fun t=>tE P fs (env t)):aM P ⟨env,m,nx⟩ ⟨aF l,fun _=>none,nx⟩:=by
 obtain⟨m',h⟩:=Sk (env:=env) (nx:=nx) hf;exact h.trans ((aM.forget _ _ _ _ (rO hl)).trans (aM.drop _ _ _ _ fun _=>.inr rfl))
def oQ(jQ id:Nat)(next:St->Prop)(Q:Exit->St->Prop):Exit->St->Prop
 | .normal,s=>next s
 | .exit i,s=>if i=jQ then next s else if i=id then Q .normal s else Q (.exit i) s
 |e,s=>Q e s
def Ca(P:Program){α:Type}(S:α->St)(J:α->Prop)(μ:α->Nat)(x:α)(s:St):Prop:=∃ C,aM P s (S C)/\J C/\μ C<μ x
theorem bg{α:Type}{S:α->St}{J:α->Prop}{μ:α->Nat}{x:α}{s:St}(C:α)(hg:aM P s (S C))(M:J C)(O:μ C<μ x):Ca P S J μ x s:=⟨C,hg,M,O⟩
theorem HA[eK Y]{b:Code}{α:Type}(S:α->St)(J:α->Prop)(μ:α->Nat)(C:α)(hg:aM P st (S C))(U:J C)(h:∀ x,J x->AW P Y rf b (ir (Ca P S J μ x) Q) (S x)){a:Code}(ha:∀ st,Q .normal st->Q .normal st):
 ∃ st',aM P st st'/\AW P Y rf (.loop b) Q st':=
 ⟨S C,hg,afZ S J μ C rfl U fun x hx=>vN b (fun e st' hq=>by
  cases e with
  |normal=>
   obtain⟨M,h1,h2,O⟩:=hq;exact⟨S M,M,h1,rfl,h2,O⟩
  |_=>exact hq) (h x hx)⟩
variable{id jQ t i1 i2 i3 i4:Nat}{rc ri:Array Oper}{body rest:Code}{α:Type}
theorem Ml[eK Y]{ri:Array Oper}{next:St->Prop}{s:St}(h:AW P Y rf body (oQ jQ id (fun s=>ax P Y ri false [] (gq next) ri.toList s []) Q) s):
 AW P Y rf (.seq (.block jQ body) (.region i3 ri false)) (ir next (iZ id Q)) s:=by
 refine vN body (fun e s h=>?_) h;have hr:∀ s,ax P Y ri false [] (gq next) ri.toList s []->∃ s',aM P s s'/\AW P Y rf (.region i3 ri false) (ir next (iZ id Q)) s':=fun s h=>⟨s,.refl s,iV (rf:=rf) (id:=i3) (ax.lg h fun _ h=>h)⟩
 cases e with
 |normal=>exact hr s h
 |exit i=>
  simp only[oQ] at h;simp only[iZ];split at h
  .rename_i hi;rw[if_pos hi];exact hr s h
  .rename_i hi;rw[if_neg hi];simp only[ir,iZ];exact h
 |_=>exact h
theorem gM[eK Y](S:α->St)(J:α->Prop)(μ:α->Nat)(C:α)(hg:aM P st (S C))(X:J C)
 (h:∀ x,J x->ax P Y rc false [] (gq fun s=>∃ g,opd s.env (.tmp t)=.s (.bool g)/\(g=true->AW P Y rf body (oQ jQ id (fun s=>ax P Y ri false [] (gq (Ca P S J μ x)) ri.toList s []) Q) s)/\(g=false->Q .normal s)) rc.toList (S x) []):
 ∃ st',aM P st st'/\AW P Y rf (.block id (.loop (.seq (.region i1 rc false) (.seq (.cond (.tmp t) .skip (.exit id)) (.seq (.block jQ body) (.region i3 ri false)))))) Q st':=by
 refine HA (Q:=iZ id Q) S J μ C hg X (fun x hx=>?_) (a:=.skip) fun _ h=>h;refine iV (rf:=rf) (id:=i1) (ax.lg (h x hx) fun s hs=>?_);obtain⟨g,h1,h2,U⟩:=hs;refine⟨s,.refl s,dZ h1 (fun M=>?_) fun O=>?_⟩
 .exact cX (Ml (h2 M))
 .refine uc ?_;simp only[ir,iZ,if_true];exact U O
theorem dD[eK Y](S:α->St)(J:α->Prop)(μ:α->Nat)(C:α)(hg:aM P st (S C))(X:J C)
 (h:∀ x,J x->ax P Y rc false [] (gq fun s=>∃ g,opd s.env (.tmp t)=.s (.bool g)/\(g=true->AW P Y rf body (oQ jQ id (fun s=>ax P Y ri false [] (gq (Ca P S J μ x)) ri.toList s []) Q) s)/\(g=false->Q .normal s)) rc.toList (S x) []):
 ∃ st',aM P st st'/\AW P Y rf (.block id (.loop (.seq (.seq (.region i1 rc false) (.cond (.tmp t) .skip (.exit id))) (.seq (.block jQ body) (.region i3 ri false))))) Q st':=by
 refine HA (Q:=iZ id Q) S J μ C hg X (fun x hx=>?_) (a:=.skip) fun _ h=>h;refine aI (iV (rf:=rf) (id:=i1) (ax.lg (h x hx) fun s hs=>?_));obtain⟨g,h1,h2,U⟩:=hs;refine⟨s,.refl s,dZ h1 (fun M=>?_) fun O=>?_⟩
 .exact cX (Ml (h2 M))
 .refine uc ?_;simp only[ir,iZ,if_true];exact U O
theorem ad7[eK Y]{next:St->Prop}{s:St}(h:AW P Y rf body (oQ jQ id next Q) s):AW P Y rf (.block jQ body) (ir next (iZ id Q)) s:=by
 refine vN body (fun e s h=>?_) h;cases e with
 |exit i=>
  simp only[oQ] at h;simp only[iZ];split at h
  .rename_i hi;rw[if_pos hi];exact h
  .rename_i hi;rw[if_neg hi];simp only[ir,iZ];exact h
 |_=>exact h
theorem Mm[eK Y](S:α->St)(J:α->Prop)(μ:α->Nat)(C:α)(hg:aM P st (S C))(X:J C)
 (h:∀ x,J x->ax P Y rc false [] (gq fun s=>∃ g,opd s.env (.tmp t)=.s (.bool g)/\(g=true->AW P Y rf body (oQ jQ id (Ca P S J μ x) Q) s)/\(g=false->Q .normal s)) rc.toList (S x) []):
 ∃ st',aM P st st'/\AW P Y rf (.block id (.loop (.seq (.seq (.region i1 rc false) (.cond (.tmp t) .skip (.exit id))) (.block jQ body)))) Q st':=by
 refine HA (Q:=iZ id Q) S J μ C hg X (fun x hx=>?_) (a:=.skip) fun _ h=>h;refine aI (iV (rf:=rf) (id:=i1) (ax.lg (h x hx) fun s hs=>?_));obtain⟨g,h1,h2,U⟩:=hs;refine⟨s,.refl s,dZ h1 (fun M=>?_) fun O=>?_⟩
 .exact cX (ad7 (h2 M))
 .refine uc ?_;simp only[ir,iZ,if_true];exact U O
theorem dE{s:St}(h:Q .normal s):AW P Y rf .skip Q s:=h
theorem bp{s:St}(h:Q .ret s):AW P Y rf .ret Q s:=h
theorem cZ{next:St->Prop}{s:St}(h:Q .ret s):oQ jQ id next Q .ret s:=h
theorem a6{K:St->Prop}{s:St}(h:Q .ret s):ir K Q .ret s:=h
theorem bU{s:St}(h:Q .ret s):iZ id Q .ret s:=h
theorem Mn{s:St}(h:Q .ret s):MQ Q .ret s:=h
theorem BO{next:St->Prop}{s:St}(h:next s):oQ jQ id next Q (.exit jQ) s:=by simp only[oQ,if_true];exact h
theorem aif{i:Nat}{next:St->Prop}{s:St}(h2:i≠jQ)(h1:i≠id)(h:Q (.exit i) s):oQ jQ id next Q (.exit i) s:=by simp only[oQ,if_neg h2,if_neg h1];exact h
theorem ou[eK Y]{a:Code}(h:AW P Y rf a (iZ id (ir (fun st=>AW P Y rf rest Q st) Q)) st):AW P Y rf (.seq (.block id a) rest) Q st:=Wx (fun st=>AW P Y rf rest Q st) (sN h) fun _ h=>h
theorem nS{s:St}(h:AW P Y rf rest Q s):AW P Y rf .skip (iZ id (ir (fun st=>AW P Y rf rest Q st) Q)) s:=h
theorem Vv[eK Y]{a:Code}(h:AW P Y rf a (ir (fun st=>AW P Y rf rest Q st) Q) st):AW P Y rf (.seq a rest) Q st:=Wx _ h fun _ h=>h
theorem lP[eK Y]{r:Array Oper}{i:Nat}{J:St->Prop}(h:ax P Y r false [] (gq J) r.toList st []):AW P Y rf (.region i r false) (ir J Q) st:=iV (rf:=rf) (id:=i) (ax.lg h fun _ h=>h)
theorem py[eK Y]{r:Array Oper}{i:Nat}{J:St->Prop}(h:ax P Y r false [] (gq J) r.toList st []):AW P Y rf (.region i r false) (iZ id (ir J Q)) st:=iV (rf:=rf) (id:=i) (ax.lg h fun _ h=>h)
theorem bw{J:St->Prop}(h:J st):AW P Y rf .skip (ir J Q) st:=h
theorem LP{J:St->Prop}(h:J st):AW P Y rf .skip (iZ id (ir J Q)) st:=h
theorem cD[eK Y]{a:Code}(R:St->Prop)(h:∃ st',aM P st st'/\AW P Y rf a (ir R Q) st')(k:∀ s,R s->∃ s',aM P s s'/\AW P Y rf rest Q s'):∃ st',aM P st st'/\AW P Y rf (.seq a rest) Q st':=by
 obtain⟨st',hg,h⟩:=h;exact⟨st',hg,eT R h k⟩
end
def Real(d:D):Prop:=∃ F β w v,R F β w d v
theorem Real.sl{es:List D}{n:Nat}(h:Real (.sl es n)):n<=maxLen/\∀ d∈es,Real d:=by
 obtain⟨F,β,w,v,h⟩:=h;cases h with
 |jy=>simp[maxLen]
 |sl _ _ b o cap us hf hb al pT dO hc hh=>
  refine⟨Nat.le_trans pT dO,fun d hd=>?_⟩;obtain⟨k,hk⟩:=dR hd;exact⟨F,β,w,_,hh k d hk⟩
theorem Real.agg{cs:List D}(h:Real (.agg cs)):∀ d∈cs,Real d:=by
 obtain⟨F,β,w,v,h⟩:=h;obtain⟨vs,rfl,hl,hh⟩:=h.sM;intro d hd;obtain⟨k,hk⟩:=dR hd;have:k<vs.length:=by rw[hl];exact(bX.1 hk).1
 exact⟨F,β,w,_,hh k d vs[k] hk (by simp[this])⟩
theorem Ui{F:Nat->Prop}{β:aJ}{w:World}{args:List D}{vs:Array Value}(h:Rs F β w args vs):∀ a∈args,Real a:=fun a ha=>by
 obtain⟨k,hk⟩:=dR ha;have:k<vs.size:=by rw[h.1];exact(bX.1 hk).1
 exact⟨F,β,w,vs[k],h.2 k a _ hk (by simp[this])⟩
theorem pr{P:Program}{f:FuncId}{args:List D}{r:D}(he:na P f=true)(ht:∀ a∈args,Tr a)(h:(∀ a∈args,Real a)->az P f args r):az P f args r:=
 ⟨he,ht,fun F w vs C hR=>(h (Ui hR)).2.2 F w vs C hR⟩
theorem aa5{P:Program}{f:FuncId}{args es:List D}{n:Nat}{t:TypeId}(he:na P f=true)(ht:∀ a∈args,Tr a)(h:(∀ a∈args,Real a)->nj P f args es n t):nj P f args es n t:=
 ⟨he,ht,fun F w vs C hR=>(h (Ui hR)).2.2 F w vs C hR⟩
section
variable{P:Program}{m:Mem}{br:List Nat}
theorem cT{a:D}(h:Tr a):Sn P br m a a:=fun _ _ _ _ _ hv=>h.NK hv
theorem uH{i off n:Nat}{cs es:List D}{e:TypeId}(hm:m i=some (.cells cs e))(hi:i∈br)(J:(cs.drop off).take (n*P.cellsOf e)=es)(ht:∀ a∈es,Tr a):Sn P br m (.rs i off n) (.sl es n):=fun F β w v hl hv=>by
 subst J;obtain⟨p,hp,hr,U⟩:=hl i hi _ hm;cases hv with
 |l9 _ _ _ _ h1 _=>rw[h1] at hp;cases hp;cases hr
 |jO _ a h1=>
  rw[h1] at hp;cases hp;cases hr;simp only[List.drop_nil,List.take_nil];exact .jy a 0
 |kO _ _ a b o len room sz h1=>
  simp only[Nat.zero_mul,List.take_zero];exact .jy a 0
 |rs _ _ _ cap b o len room sz h1 hn dO h2 X=>
  rw[h1] at hp;cases hp
  have al:b<w.heap.size:=by
   cases hr with
   |cells _ _ _ _ _ _ c hb _ _ _ _=>exact(Array.getElem?_eq_some_iff.1 hb).1
  obtain⟨C,hl,bS,_⟩:=hr.rd;obtain⟨us,M,O⟩:=(C.drop off).take (n*P.cellsOf e);exact .sl _ n b (o+off) cap us (U b rfl) (fun k q hq=>by cases hq) al hn dO M fun k d hk=>(ht d (cx hk)).NK (O k d hk)
variable{Y:gn}{rf:Bool}{ops:Array Oper}{dr:Bool}{cf:List (Nat×Nat)}{Q:Exit->St->Prop}{rest:List Oper}{env:Env}{nx:Nat}{tr:mP}{t:Nat}{op:Op}{ty:TypeId}{pos:String}{after:Array Edge}
 {pre:Prop} {v:D} {rd:List Nat}
theorem aht{j:Nat}{b:Bool}{u:Nat}{row:Row}(hj:(ops[j]?).bind (·.dst)=some u)(hg:lA (env u) b=some true)(he:Ef P op env m nx ⟨pre,v,[(nx,some row)],rd,1⟩)(ha:gR env op.operands.toList)(hp:pre)
 (K:ax P Y ops dr cf Q rest ⟨up env t v,up m nx (some row),nx+1⟩ (tr++[(rd,[nx])])):ax P Y ops dr cf Q (⟨some t,op,ty,pos,after,some (j,b)⟩::rest) ⟨env,m,nx⟩ tr:=
 aiw hj hg he ha hp (fun h=>by cases h) K
theorem IF{j:Nat}{b:Bool}{u:Nat}{f:FuncId}{args C:List D}{r:D}{br:List Nat}(h:az P f C r)(hs:r.jt=true)(hj:(ops[j]?).bind (·.dst)=some u)(hg:lA (env u) b=some true)(hc:ea (bn env op) op=some (f,args))(J:jx P br m args C)(ha:gR env op.operands.toList)
 (K:ax P Y ops dr cf Q rest ⟨up env t r,m,nx⟩ (tr++[(br,[])])):ax P Y ops dr cf Q (⟨some t,op,ty,pos,after,some (j,b)⟩::rest) ⟨env,m,nx⟩ tr:=
 aez hj hg hc ha (.inr (.inl ⟨C,br,r,J,h,hs,K⟩))
end
section
variable{P:Program}{Y:gn}{rf:Bool}{ops:Array Oper}{dr:Bool}{cf:List (Nat×Nat)}{Q:Exit->St->Prop}{rest:List Oper}{env:Env}{m:Mem}{nx:Nat}{tr:mP}{t:Nat}{ty:TypeId}{pos:String}{after:Array Edge}
theorem acJ{j:Nat}{b0 C:Bool}{u:Nat}(hj:(ops[j]?).bind (·.dst)=some u)(hg:lA (env u) b0=some C){c a b:Operand}{x:Bool}(hc:(opd env c).core=.s (.bool true))(ha:(opd env a).core=.s (.bool x))
 (h0:C=true->(opd env c).ask) (h1:C=true->(opd env a).ask) (K:ax P Y ops dr cf Q rest ⟨up env t (.cS C (.s (.bool x))),m,nx⟩ (tr++[([],[])])):
 ax P Y ops dr cf Q (⟨some t,.pick c a b,ty,pos,after,some (j,b0)⟩::rest) ⟨env,m,nx⟩ tr:=by
 have he:=By (P:=P) (env:=env) (m:=m) (nx:=nx) (a:=a) (b:=b) hc;simp only[ha,D.fZ,Option.getD_some,if_true] at he;simp only[ax];refine .inl ?_;simp only[lq];rw[hj];simp only[Option.bind_some];rw[hg,he.nc,he.ny,he.ok];exact⟨fun hc=>⟨by simp only[asks];exact h0 hc,fun _=>⟨h1 hc,rfl⟩,fun h=>by cases h⟩,K⟩
theorem acK{j:Nat}{b0 C:Bool}{u:Nat}(hj:(ops[j]?).bind (·.dst)=some u)(hg:lA (env u) b0=some C){c a b:Operand}{y:Bool}(hc:(opd env c).core=.s (.bool false))(hb:(opd env b).core=.s (.bool y))
 (h0:C=true->(opd env c).ask) (h1:C=true->(opd env b).ask) (K:ax P Y ops dr cf Q rest ⟨up env t (.cS C (.s (.bool y))),m,nx⟩ (tr++[([],[])])):
 ax P Y ops dr cf Q (⟨some t,.pick c a b,ty,pos,after,some (j,b0)⟩::rest) ⟨env,m,nx⟩ tr:=by
 have he:=By (P:=P) (env:=env) (m:=m) (nx:=nx) (a:=a) (b:=b) hc;simp only[hb,D.fZ,Option.getD_some,Bool.false_eq_true,if_false] at he;simp only[ax];refine .inl ?_;simp only[lq];rw[hj];simp only[Option.bind_some];rw[hg,he.nc,he.ny,he.ok];exact⟨fun hc=>⟨by simp only[asks];exact h0 hc,fun h=>oH,fun _=>⟨h1 hc,rfl⟩⟩,K⟩
variable{id:Nat}{st:St}
theorem TD[eK Y]{i:Nat}{J:St->Prop}(hi:bV ops=some cf)(h:ax P Y ops true cf (gq J) ops.toList st []):AW P Y rf (.region i ops true) (iZ id (ir J Q)) st:=BU (rf:=rf) (id:=i) hi (ax.lg h fun _ h=>h)
theorem aeA{r:Option Row}{i:Nat}(h:m i=r):∀ j,up (fun _=>none) i r j=m j\/up (fun _=>none) i r j=none:=fun j=>by
 by_cases hj:j=i
 .subst hj;left;rw[an,h]
 .right;rw[aZ _ _ hj]
theorem Bz[eK Y]{i jQ:Nat}{next:St->Prop}(hi:bV ops=some cf)(h:ax P Y ops true cf (gq next) ops.toList st []):AW P Y rf (.region i ops true) (oQ jQ id next Q) st:=BU (rf:=rf) (id:=i) hi (ax.lg h fun _ h=>h)
theorem jn[eK Y]{i jQ:Nat}{next:St->Prop}(h:ax P Y ops false [] (gq next) ops.toList st []):AW P Y rf (.region i ops false) (oQ jQ id next Q) st:=iV (rf:=rf) (id:=i) (ax.lg h fun _ h=>h)
def bJ:List (Nat×Row)->Mem
 |[],_=>none
 |(i,r)::l,j=>if j=i then some r else bJ l j
def Ez:List (Nat×Row)->Mem->Prop
 |[],_=>True
 |(i,r)::l,m=>m i=some r/\Ez l m
theorem Mv:∀ {l:List (Nat×Row)} {m:Mem},Ez l m->∀ i,bJ l i=m i\/bJ l i=none
 |[],_,_,_=>.inr rfl
 |(k,r)::l,m,h,i=>by
  simp only[bJ];by_cases hi:i=k
  .subst hi;rw[if_pos rfl];exact .inl h.1.symm
  .rw[if_neg hi];exact Mv h.2 i
theorem aY{l:List (Nat×D)}{ml:List (Nat×Row)}{m:Mem}{nx:Nat}(h:nh l env)(hm:Ez ml m):aM P ⟨env,m,nx⟩ ⟨aF l,bJ ml,nx⟩:=(aM.forget env _ m nx (rO h)).trans (.drop _ _ _ _ (Mv hm))
end
theorem au{α:Type}{f:Nat->α}{k j:Nat}{v r:α}(h:j≠k)(hf:f j=r):up f k v j=r:=(aZ f v h).trans hf
theorem aq9{β:Sort _}{M m:Mem}{i:Nat}{r:Option Row}(h:M=m)(x:β)(k:β->m i=r:=by intro x;repeat (first|exact x|exact rfl|exact an _ _ _|refine au (by omega) ?_)):M i=r:=h ▸ k x
theorem aq'{β:Sort _}{p:Prop}(x:β)(k:β->p:=by intro x;dsimp only;repeat (first|exact x|exact an _ _ _|refine au (by omega) ?_)):p:=k x
theorem mG{i off sz:Nat}{cs:List D}:sub (dh i cs sz) (.rp i off)=.pt (cs.drop off):=by simp[sub,td,dh]
theorem yq{i off n sz:Nat}{cs:List D}:sub (dh i cs sz) (.rs i off n)=.sl ((cs.drop off).take (n*sz)) n:=by simp[sub,td,dh]
theorem pv{i j off sz:Nat}{cs:List D}(h:j≠i):sub (dh i cs sz) (.rp j off)=.rp j off:=by simp[sub,td,dh,h]
theorem xK{i j off n sz:Nat}{cs:List D}(h:j≠i):sub (dh i cs sz) (.rs j off n)=.rs j off n:=by simp[sub,td,dh,h]
theorem DR{α:Type}{f:α->List D}{sz:Nat}(hs:∀ x,(f x).length=sz):∀ (l:List α) (k:Nat),(l.flatMap f).take (k*sz)=(l.take k).flatMap f
 |[],k=>by simp
 |x::l,0=>by simp
 |x::l,k+1=>by
  rw[List.flatMap_cons,List.take_succ_cons,List.flatMap_cons, <- DR hs l k,show(k+1)*sz=(f x).length+k*sz by rw[hs x,Nat.add_mul];omega,List.take_length_add_append]
theorem agz{α:Type}{f:α->List D}{sz k:Nat}{l:List α}(hs:∀ x,(f x).length=sz)(hk:k<=l.length):
 D.sl (((l.flatMap f).drop ((0:Int).toNat*sz)).take (((k:Int) - 0).toNat*sz)) ((k:Int) - 0).toNat=D.sl ((l.take k).flatMap f) (l.take k).length:=by
 have h1:((k:Int) - 0).toNat=k:=by omega
 have h2:(0:Int).toNat*sz=0:=by simp
 rw[h1,h2,List.drop_zero,DR hs,List.length_take,Nat.min_eq_left hk]
section
variable{P:Program}{env:Env}{m:Mem}{nx:Nat}{x y z:Operand}{t:TypeId}{v:D}
theorem aeI{i:Nat}{es:List (Value×D)}{key:Value}{kt:TypeId}(hx:(opd env x).core=.mp i)(hm:m i=some (.map es))(hk:oZ (opd env y).core=some key)(hz:(opd env z).core=v)(ht:ik P t=kt):
 Ef P (.insert t x y z) env m nx ⟨kM P t=true/\dY P kt key=true/\es.all (fun e=>dY P kt e.1)=true,.bd [],[(i,some (.map (nz key v es)))],[i],0⟩:=by
 refine⟨?_,rfl,rfl⟩;show oE P m t (opd env x).core (opd env y).core (opd env z).core=_;simp only[oE,hk,hx,hm,ht,hz]
variable{n n':Int}{k:IntKind}{c:Bool}{p:TypeId}{n0:Nat}
theorem Ng(hx:(opd env x).core=.s (.int k n))(hy:(opd env y).core=.s (.int k n'))(hd:decide (n'<n)=c):Ef P (.binOp .gtr t x y p) env m nx ⟨k=k,.s (.bool c),[],[],0⟩:=by subst hd;exact ND hx hy
theorem Nf(hx:(opd env x).core=.s (.int k n))(hy:(opd env y).core=.s (.int k n'))(hd:decide (n<n')=c):Ef P (.binOp .lss t x y p) env m nx ⟨k=k,.s (.bool c),[],[],0⟩:=by subst hd;exact NB hx hy
theorem ahu(hx:(opd env x).core=.s (.int k n))(hy:(opd env y).core=.s (.int k n'))(hd:decide (n<=n')=c):Ef P (.binOp .leq t x y p) env m nx ⟨k=k,.s (.bool c),[],[],0⟩:=by subst hd;exact NC hx hy
theorem Nd(hx:(opd env x).core=.s (.int k n))(hy:(opd env y).core=.s (.int k n'))(hd:(n==n')=c):Ef P (.binOp .eql t x y p) env m nx ⟨k=k,.s (.bool c),[],[],0⟩:=by subst hd;exact NF hx hy
theorem Nh(hx:(opd env x).core=.s (.int k n))(hy:(opd env y).core=.s (.int k n'))(hd:(n !=n')=c):Ef P (.binOp .neq t x y p) env m nx ⟨k=k,.s (.bool c),[],[],0⟩:=by subst hd;exact NG hx hy
theorem ahv(hx:(opd env x).core=.s (.int k n))(hy:(opd env y).core=.s (.int k n')){r:Int}(hd:k.wrap (n.tdiv n')=r):Ef P (.binOp .quo t x y p) env m nx ⟨k=k/\n'≠0,.s (.int k r),[],[],0⟩:=by subst hd;exact ahc hx hy
theorem ahw(hx:(opd env x).core=.s (.int k n))(hy:(opd env y).core=.s (.int k n')){r:Int}(hd:n.tmod n'=r):Ef P (.binOp .rem t x y p) env m nx ⟨k=k/\n'≠0,.s (.int k r),[],[],0⟩:=by subst hd;exact ah8 hx hy
theorem VW(hx:(opd env x).core=.s (.int k n))(hy:(opd env y).core=.s (.int k n'))(hd:decide (n'<=n)=c):Ef P (.binOp .geq t x y p) env m nx ⟨k=k,.s (.bool c),[],[],0⟩:=by subst hd;exact NE hx hy
theorem agi{j i l:Nat}{e:TypeId}{r:Row}(hx:(opd env x).core=.rp j 0)(hy:(opd env y).core=.s (.int k (i:Int)))(hm:m j=some r)(he:aE P t=e)(hs:P.cellsOf e=1)(hl:pU P t=l):
 Ef P (.indexAddr t x y) env m nx ⟨o9 P t=true/\i<l,.rp j i,[],[j],0⟩:=by
 have h:=ahe (P:=P) (env:=env) (m:=m) (nx:=nx) (t:=t) hx hy hm he hs hl;have h1:0+((i:Int)).toNat*1=i:=by simp
 have h2:(o9 P t=true/\(0:Int)<=(i:Int)/\(i:Int)<l)=(o9 P t=true/\i<l):=by
  apply propext;constructor
  .rintro⟨a,_,b⟩;exact⟨a,oG⟩
  .rintro⟨a,b⟩;exact⟨a,oG,oG⟩
 rw[h1,h2] at h;exact h
theorem oR{l:List D}{n:Nat}(h:l.length=n):(l.drop 0).take n=l:=by rw[List.drop_zero,cO oG]
theorem V4{l:List D}{n:Nat}(h:l.length=n):l.take n=l:=cO oG
theorem Mx{z l:List D}(hz:z.length=20)(hl:l.length=20):fP z 0 l=l:=by
 unfold fP;split
 .simp at hl
 .rw[List.take_zero,List.nil_append,List.drop_eq_nil_of_le oG,List.append_nil]
theorem II{es:List D}(hx:(opd env x).core=.sl es 0):Ef P (.binOp .eql t x (.const (.slice none 0 0)) p) env m nx ⟨bh P t=true,.ub,[],[],0⟩:=⟨by simp only[aW,bn,hx,lX,if_true],rfl,rfl⟩
theorem IJ{es:List D}{l:Nat}(hx:(opd env x).core=.sl es l)(hl:l≠0):Ef P (.binOp .eql t x (.const (.slice none 0 0)) p) env m nx ⟨bh P t=true,.s (.bool false),[],[],0⟩:=⟨by simp only[aW,bn,hx,lX,if_neg hl],rfl,rfl⟩
theorem lT{i off n sz:Nat}{cs es:List D}{e:TypeId}(hs:P.cellsOf e=sz)(h:(cs.drop off).take (n*sz)=es):tE P [(i,cs,e)] (.rs i off n)=.sl es n:=by subst hs h;exact yq
theorem ud(h:env n0=.z):aM P ⟨env,m,nx⟩ ⟨aF [(n0,.sl [] 0)],fun _=>none,nx+1⟩:=by
 have h1:=aM.sU (P:=P) env m nx n0 0 h;have h2:=bZ (P:=P) (env:=up env n0 (.rs nx 0 0)) (m:=up m nx (some (.cells [] 0))) (nx:=nx+1) [(nx,[],0)] ⟨an _ _ _,trivial⟩ (l:=[(n0,.sl [] 0)]) ⟨(congrArg _ (an _ _ _)).trans (lT (sz:=P.cellsOf 0) rfl oS),trivial⟩;exact h1.trans h2
theorem oa{br:List Nat}:Sn P br m .z (.sl [] 0):=fun F β w v _ hv=>by
 obtain⟨x,rfl⟩:=hv.B2;exact .jy x 0
theorem ahK{br:List Nat}{aS bs:List D}(h:jx P br m aS bs):Sn P br m (.agg aS) (.agg bs):=fun F β w v hl hv=>by
 obtain⟨vs,rfl,hn,hh⟩:=hv.sM;obtain⟨h1,h2⟩:=IU hl h;refine .agg _ vs oG fun k d u hd hu=>?_;have hk:k<aS.length:=by rw[h1];exact(bX.1 hd).1
 exact h2 k aS[k] d (by simp[hk]) hd u (hh k aS[k] u (by simp[hk]) hu)
theorem TP{l:List (Nat×D)}{m':Mem}(h:nh l env)(hm:∀ i,m' i=m i\/m' i=none):aM P ⟨env,m,nx⟩ ⟨aF l,m',nx⟩:=(aM.forget env _ m nx (rO h)).trans (.drop _ _ _ _ hm)
def Px:List (Nat×List (Value×D))->Mem->Prop
 |[],_=>True
 |(i,es)::fs,m=>m i=some (.map es)/\Px fs (fun j=>if j=i then none else(m j).map (Row.sub (Ay i es)))
def Q4:List (Nat×List (Value×D))->D->D
 |[],d=>d
 |(i,es)::fs,d=>Q4 fs (sub (Ay i es) d)
theorem SZ:∀ {fs:List (Nat×List (Value×D))} {env:Env} {m:Mem} {nx:Nat},Px fs m->∃ m',aM P ⟨env,m,nx⟩ ⟨fun t=>Q4 fs (env t),m',nx⟩
 |[],env,m,nx,_=>⟨m,.refl _⟩
 |(i,es)::fs,env,m,nx,⟨h1,h2⟩=>by
  obtain⟨m',h⟩:=SZ (env:=fun t=>sub (Ay i es) (env t)) (nx:=nx) h2;exact⟨m',(aM.T' env m nx i es h1).trans h⟩
theorem ae7(fs:List (Nat×List (Value×D)))(hf:Px fs m){l:List (Nat×D)}(hl:nh l fun t=>Q4 fs (env t)):aM P ⟨env,m,nx⟩ ⟨aF l,fun _=>none,nx⟩:=by
 obtain⟨m',h⟩:=SZ (P:=P) (env:=env) (nx:=nx) hf;exact h.trans ((aM.forget _ _ _ _ (rO hl)).trans (aM.drop _ _ _ _ fun _=>.inr rfl))
end
end Go.Abs
namespace Go.Argus
open Go.Abs
abbrev I(n:Int):D:=.s (.int .i64 n)
abbrev U8(n:Int):D:=.s (.int .u8 n)
abbrev B(b:Bool):D:=.s (.bool b)
abbrev S(s:ByteArray):D:=.s (.string s)
abbrev aT(l:List Int):D:=.sl (l.map I) l.length
abbrev iI(l:List Int):D:=.sl (l.map U8) l.length
abbrev ez(l:List ByteArray):D:=.sl (l.map S) l.length
structure bK where
 op:Int
 to:Int
 a:Int
 b:Int
 n:Int
 args:List Int
structure jM where
 name:ByteArray
 to:Int
structure End where
 kind:Int
 a:Int
 b:Int
 to:Int
 fL:Int
 name:ByteArray
 ins:bK
 args:List Int
 aC:List jM
 others:Int
structure bB where
 ins:List bK
 fin:End
structure aK where
 name:ByteArray
 iter:Bool
 args:Int
 result:Int
 ag:List Int
 aN:List Int
 signals:List ByteArray
 blocks:List bB
def bA(x:bK):List D:=[U8 x.op,I x.to,I x.a,I x.b,I x.n,aT x.args]
def jo(w:jM):List D:=[S w.name,I w.to]
def mo(l:List jM):D:=.sl (l.flatMap jo) l.length
def iX(l:List bK):D:=.sl (l.flatMap bA) l.length
def a8(x:End):List D:=[U8 x.kind,I x.a,I x.b,I x.to,I x.fL,S x.name,U8 x.ins.op,I x.ins.to,I x.ins.a,I x.ins.b,I x.ins.n,aT x.ins.args,aT x.args,mo x.aC,I x.others]
def cg(b:bB):List D:=iX b.ins::a8 b.fin
def dQ(l:List bB):D:=.sl (l.flatMap cg) l.length
def aH(f:aK):List D:=[S f.name,B f.iter,I f.args,U8 f.result,iI f.ag,iI f.aN,ez f.signals,dQ f.blocks]
def bC(p q:D)(f:aK):List D:=[S f.name,B f.iter,I f.args,U8 f.result,iI f.ag,iI f.aN,ez f.signals,dQ f.blocks,p,q]
@[simp] theorem aqB (p q : D) (x : aK) : (bC p q x).length = 10 := rfl
@[simp] theorem aqF (x : bK) : (bA x).length = 6 := rfl
@[simp] theorem aqC (x : jM) : (jo x).length = 2 := rfl
@[simp] theorem abr (x : End) : (a8 x).length = 15 := rfl
@[simp] theorem DC (x : bB) : (cg x).length = 16 := rfl
@[simp] theorem aqD (x : aK) : (aH x).length = 8 := rfl
theorem G5(x:bK):(bA x).length=6:=rfl
theorem DQ(x:jM):(jo x).length=2:=rfl
theorem Bh(x:bB):(cg x).length=16:=rfl
theorem S0(x:aK):(aH x).length=8:=rfl
def u7{α:Type}(p:α->Bool)(l:List α):Int:=match l.findIdx? p with
 |some i=>i
 |none=> -1
theorem G6{α:Type}{p:α->Bool}{l:List α}{k:Nat}{x:α}(hx:l[k]? =some x)(hp:p x=true)(h:∀ j y,j<k->l[j]? =some y->p y=false):u7 p l=k:=by
 have:l.findIdx? p=some k:=by
  rw[List.findIdx?_eq_some_iff_getElem];obtain⟨hk,he⟩:=bX.1 hx;refine⟨hk,by rw[he];exact hp,fun j hj=>?_⟩;have:=h j l[j] hj (by simp[show j<l.length by omega]);simp[this]
 simp[u7,this]
theorem G7{α:Type}{p:α->Bool}{l:List α}(h:∀ (j:Nat) y,l[j]? =some y->p y=false):u7 p l= -1:=by
 have:l.findIdx? p=none:=by
  rw[List.findIdx?_eq_none_iff];intro x hx;obtain⟨j,hj⟩:=dR hx;exact h j x hj
 simp[u7,this]
theorem Hm{α:Type}(p:α->Bool)(l:List α):decide (0<=u7 p l)=l.any p:=by
 unfold u7;cases h:l.findIdx? p with
 |none=>
  rw[List.findIdx?_eq_none_iff] at h;have:l.any p=false:=List.any_eq_false.2 fun x hx=>by simp[h x hx]
  simp[this]
 |some i=>
  obtain⟨hi,hp,_⟩:=List.findIdx?_eq_some_iff_getElem.1 h;have:l.any p=true:=List.any_eq_true.2 ⟨l[i],oS,hp⟩;simp[this]
theorem dU(l:List Int):Tr (aT l):=.sl (.map fun _=>.s _)
theorem nM(l:List Int):Tr (iI l):=.sl (.map fun _=>.s _)
theorem oI(l:List ByteArray):Tr (ez l):=.sl (.map fun _=>.s _)
theorem rQ(x:bK):∀ a∈bA x,Tr a:=.cons (.s _) (.cons (.s _) (.cons (.s _) (.cons (.s _) (.cons (.s _) (.cons (dU _) .nil)))))
theorem Hp(x:jM):∀ a∈jo x,Tr a:=.cons (.s _) (.cons (.s _) .nil)
theorem ky(l:List jM):Tr (mo l):=.sl (.flat Hp)
theorem agG(l:List bK):Tr (iX l):=.sl (.flat rQ)
theorem mr(x:End):∀ a∈a8 x,Tr a:=.cons (.s _) (.cons (.s _) (.cons (.s _) (.cons (.s _) (.cons (.s _) (.cons (.s _) (.cons (.s _) (.cons (.s _) (.cons (.s _) (.cons (.s _) (.cons (.s _) (.cons (dU _) (.cons (dU _) (.cons (ky _) (.cons (.s _) .nil))))))))))))))
theorem SJ(x:bB):∀ a∈cg x,Tr a:=.cons (agG _) (mr _)
theorem LI(l:List bB):Tr (dQ l):=.sl (.flat SJ)
theorem gA(x:aK):∀ a∈aH x,Tr a:=.cons (.s _) (.cons (.s _) (.cons (.s _) (.cons (.s _) (.cons (nM _) (.cons (nM _) (.cons (oI _) (.cons (LI _) .nil)))))))
theorem D6{p q:D}(hp:Tr p)(hq:Tr q)(x:aK):∀ a∈bC p q x,Tr a:=.cons (.s _) (.cons (.s _) (.cons (.s _) (.cons (.s _) (.cons (nM _) (.cons (nM _) (.cons (oI _) (.cons (LI _) (.cons hp (.cons hq .nil)))))))))
theorem nQ{p q:D}(hp:Tr p)(hq:Tr q)(x:aK):Tr (.agg (bC p q x)):=.agg (D6 hp hq x)
theorem vJ{p q:D}{f:aK}(h1:p.one=true)(h2:q.one=true):(bC p q f).all D.one=true:=by
 simp only[bC,List.all_cons,List.all_nil,h1,h2];rfl
abbrev dk(n:Int):D:=.s (.int .u64 n)
abbrev iw(w:List Int):D:=.agg (w.map dk)
theorem pW(w:List Int):(w.map dk).all D.one=true:=bT.2 fun x hx=>by obtain⟨y,_,rfl⟩:=List.mem_map.1 hx;rfl
theorem aeH{w:List Int}{i:Nat}{x:Int}:((w.map dk).set i (dk x)).all D.one=true:=by rw[<- List.map_set];exact pW _
theorem sa(w:List Int):Tr (iw w):=.agg (.map fun _=>.s _)
def qU(a b:Int):Int:=mn .and .u64 a b
def AY(a b:Int):Int:=mn .or .u64 a b
def ym(w:List Int)(m:Nat):List Int:=w.set (m / 64) (AY (w.getD (m / 64) 0) (IntKind.u64.wrap (1*2 ^ (min (m % 64) 64))))
def lF(w:List Int)(m:Nat):Bool:=qU ((w.getD (m / 64) 0).fdiv (2 ^ (min (m % 64) 64))) 1==1
def gD(w:List Int)(n:Int):List Int:=if 0<=n then ym w n.toNat else w
def fR(w v:List Int):Nat->List Int
 |0=>w
 |k+1=>(fR w v k).set k (qU ((fR w v k).getD k 0) (v.getD k 0))
def jf(w v:List Int):List Int:=fR w v 20
@[simp] theorem S2 (w v : List Int) : ∀ k, (fR w v k).length = w.length
 |0=>rfl
 |k+1=>by simp[fR,S2 w v k]
@[simp] theorem aqI (w : List Int) (m : Nat) : (ym w m).length = w.length := by simp [ym]
@[simp] theorem aqJ (w : List Int) (n : Int) : (gD w n).length = w.length := by unfold gD; split <;> simp
@[simp] theorem SM (w v : List Int) : (jf w v).length = w.length := S2 w v 20
theorem wrap_i64{n:Nat}(h:n<2 ^ 62):IntKind.i64.wrap (n:Int)=n:=by
 unfold IntKind.wrap;simp[IntKind.signed,IntKind.bits];omega
theorem W3{m:Nat}(h:m<2 ^ 62):IntKind.i64.wrap ((m:Int).tdiv 64)=((m / 64:Nat):Int):=by
 rw[show(m:Int).tdiv 64=((m / 64:Nat):Int) from by rw[Int.tdiv_eq_ediv_of_nonneg oG];omega];exact wrap_i64 oG
theorem W4(m:Nat):(m:Int).tmod 64=((m % 64:Nat):Int):=by rw[Int.tmod_eq_emod_of_nonneg oG];omega
theorem ib(a b:Int):(a==b)=decide (a=b):=rfl
def dx(n a b:Int):Bool:=decide (a<=n)&&decide (n<=b)
def ue(b:Int):Bool:=decide (b<33)||decide (126<b)
def jr(s:ByteArray):Bool:=dx s.size 1 120&& !(dd s).any ue
def uf(b:Int):Bool:=(decide (b<97)||decide (122<b))&&(decide (b<48)||decide (57<b))
def isName(s:ByteArray):Bool:=dx s.size 1 12&& !(dd s).any uf
def mY(C k:Int):Bool:=decide (k<1)||decide (C<k)
def fj(l:List Int)(C:Int):Bool:= !l.any (mY C)
def cB(l:List Int)(r:Int):Int:=if 0<=r then l.getD r.toNat 0 else 0
theorem ug{l:List Int}{i:Nat}{x:Int}(h:l[i]? =some x):cB l i=x:=by
 simp[cB,eh,h]
theorem LF{l:List Int}{r:Int}(h:¬ (0<=r/\r<l.length)):cB l r=0:=by
 unfold cB;split
 .rename_i h0;have:l.length<=r.toNat:=by omega
  simp[eh,List.getElem?_eq_none this]
 .rfl
theorem iW{n a b:Int}:dx n a b=true↔a<=n/\n<=b:=by simp[dx]
theorem adg{n a b:Int}:dx n a b=false↔¬ (a<=n/\n<=b):=by
 rw[<- Bool.not_eq_true,iW]
def eU(l:List Int)(r:Int):Bool:=cB l r==1||cB l r==2
def ie(l rs:List Int):Bool:=rs.all (eU l)
def nr(l aN:List Int)(r n:Int):Bool:=dx n 0 (aN.length - 1)&&(cB l r==cB aN n)
def lQ(l:List Int)(r want of:Int):Bool:=
 if want=0 then r==0 else if want=1 then cB l r==1 else if want=2 then cB l r==2 else if want=3 then eU l r
 else cB l r !=0&&cB l r==of
structure Shape where
 to:Int
 a:Int
 b:Int
 args:Int
 low:Int
 high:Int
def kZ(s:Shape):List D:=[I s.to,I s.a,I s.b,I s.args,I s.low,I s.high]
@[simp] theorem aqA (x : Shape) : (kZ x).length = 6 := rfl
theorem SR(x:Shape):∀ a∈kZ x,Tr a:=.cons (.s _) (.cons (.s _) (.cons (.s _) (.cons (.s _) (.cons (.s _) (.cons (.s _) .nil)))))
def rM(l:List Int)(x:bK)(s:Shape):Int:=if s.to=0\/s.to=1 then cB l x.a else cB l x.to
def ql(l:List Int)(x:bK)(s:Shape):Bool:=if s.args=5 then dx x.args.length 1 6&&ie l x.args else if s.args=6 then decide ((x.args.length:Int)=1)&&ie l x.args else decide ((x.args.length:Int)=0)
def oK(l:List Int)(x:bK)(s:Shape):Bool:=
 lQ l x.to s.to 0&&(lQ l x.a s.a (rM l x s)&&(lQ l x.b s.b (rM l x s)&&(ql l x s&&dx x.n s.low s.high)))
def sd(l:List (Int×Shape)):List (Value×D):=l.map fun x=>(.int .u8 x.1,.agg (kZ x.2))
def zB:Shape:=⟨0,0,0,0,0,0⟩
def fk(l:List (Int×Shape))(op:Int):Option Shape:=(l.find? fun x=>x.1==op).map (·.2)
def lB:List (Int×Shape):=[(1,⟨1,0,0,0, -1000000000,1000000000⟩),(2,⟨3,4,0,0,0,0⟩),(3,⟨1,1,1,0,0,0⟩),(4,⟨1,1,1,0,0,0⟩),(5,⟨1,3,4,0,0,0⟩),(6,⟨1,1,1,0,0,0⟩),(7,⟨1,1,1,0,0,0⟩),(8,⟨1,1,0,0,0,0⟩),
 (9,⟨2,0,0,0,0,1⟩),(10,⟨2,0,0,5,0,5⟩),(11,⟨3,2,0,0,0,5⟩),(12,⟨0,2,3,0,0,5⟩),(13,⟨1,2,0,0,0,0⟩),(14,⟨1,2,0,0,0,0⟩),(15,⟨0,1,0,0,0,0⟩)]
def iP:List (Int×Shape):=[(30,⟨1,1,1,0,0,0⟩),(31,⟨1,1,1,0,0,0⟩),(32,⟨1,1,1,0,0,0⟩),(33,⟨1,1,1,0,0,0⟩),(34,⟨1,1,1,0,0,0⟩),(35,⟨0,2,3,0,0,0⟩),(36,⟨3,2,0,0,0,0⟩),(37,⟨3,2,1,0,0,0⟩),(38,⟨0,2,1,6,0,0⟩)]
theorem Ci(l:List (Int×Shape)):Tr (.im (sd l)):=.im fun x hx=>by
 obtain⟨y,_,rfl⟩:=List.mem_map.1 hx;exact .agg (SR _)
theorem U6(op:Int):∀ l:List (Int×Shape),(gZ (.int .u8 op) (sd l)).map (·.2)=(fk l op).map fun s=>.agg (kZ s)
 |[]=>rfl
 |(o,s)::l=>by
  have ih:=U6 op l;unfold sd at ih ⊢;simp only[List.map_cons,gZ,vt,uT,fk,List.find?_cons] at ih ⊢;by_cases h:o=op
  .subst h;simp
  .have hb:(o==op)=false:=by simpa using h
   simp only[hb,beq_self_eq_true,Bool.and_false,Bool.false_eq_true,if_false,Option.map_map] at ih ⊢;exact ih
theorem V'{P:Program}{t:TypeId}{C:D}(hz:sX P (uV P t)=C)(op:Int)(l:List (Int×Shape))(J:C=.agg (kZ zB)):lf P t true (gZ (.int .u8 op) (sd l))=.bd [.agg (kZ ((fk l op).getD zB)),.s (.bool (fk l op).isSome)]:=by
 have h:=U6 op l;cases h1:gZ (.int .u8 op) (sd l) with
 |none=>
  rw[h1] at h;have:fk l op=none:=by simpa using h.symm
  simp only[lf,this,hz,J,Option.getD_none,Option.isSome_none,if_true]
 |some x=>
  rw[h1] at h;cases h2:fk l op with
  |none=>rw[h2] at h;simp at h
  |some s=>
   rw[h2] at h;obtain⟨i,d⟩:=x;simp only[Option.map_some,aV] at h;subst h;simp[lf]
theorem UZ{P:Program}{kt:TypeId}(hk:P.underlying kt=some (.int .u8))(l:List (Int×Shape)):(sd l).all (fun e=>dY P kt e.1)=true:=by
 refine bT.2 fun x hx=>?_;obtain⟨y,_,rfl⟩:=List.mem_map.1 hx;simp[dY,hk]
def aQ(a b:Int):Bool:=decide (a=b)
def jW(x:bK):Bool:=decide ((x.args.length:Int)=0)
def jb(f:aK)(b:Int)(x:bK)(phis:Bool)(ahead:Int):Bool:=
 if x.op=16 then aQ x.to 0&&(aQ (cB f.ag x.a) 3&&(aQ x.b 0&&(aQ x.n 0&&jW x)))
 else if x.op=17 then aQ x.a 0&&(aQ x.b 0&&(jW x&&nr f.ag f.aN x.to x.n))
 else if x.op=18 then aQ x.to 0&&(aQ x.b 0&&(jW x&&nr f.ag f.aN x.a x.n))
 else if x.op=19 then phis&&(decide (0<b)&&(eU f.ag x.to&&(aQ x.a 0&&(aQ x.b 0&&(aQ x.n 0&&(aQ x.args.length ahead&& !x.args.any fun r=> !aQ (cB f.ag r) (cB f.ag x.to)))))))
 else(fk lB x.op).isSome&&oK f.ag x ((fk lB x.op).getD zB)
def xY(x:bK):Bool:=decide (x.op=0)&&(decide (x.to=0)&&(decide (x.a=0)&&(decide (x.b=0)&&(decide (x.n=0)&&decide ((x.args.length:Int)=0)))))
def s7(x:End):Bool:=decide (x.kind=0)&&(decide (x.a=0)&&(decide (x.b=0)&&(decide (x.to=0)&&(decide (x.fL=0)&&(x.name.toList==[]&&(decide (x.others= -1)&&(decide ((x.args.length:Int)=0)&&(decide ((x.aC.length:Int)=0)&&xY x.ins))))))))
def cv(f:aK)(n:Int):Bool:=dx n 0 (f.blocks.length - 1)
def nX(f:aK)(wsq:List jM)(i:Nat)(w:jM):Bool:=isName w.name&&(cv f w.to&& !(wsq.take i).any fun v=>v.name.toList==w.name.toList)
def EB(f:aK)(wsq:List jM):Bool:=wsq.zipIdx.all fun x=>nX f wsq x.2 x.1
theorem RD{f:aK}{wsq:List jM}(h:∀ (i:Nat) w,wsq[i]? =some w->nX f wsq i w=true):EB f wsq=true:=by
 refine bT.2 fun x hx=>?_;obtain⟨h1,h2⟩:=List.mem_zipIdx' hx;exact h x.2 x.1 (by rw[h2];simp[h1])
theorem KR{f:aK}{wsq:List jM}{i:Nat}{w:jM}(C:wsq[i]? =some w)(h:nX f wsq i w=false):EB f wsq=false:=by
 refine Bool.eq_false_iff.2 fun ht=>?_;have hx:(w,i)∈wsq.zipIdx:=List.mem_zipIdx_iff_getElem?.2 C;have:=bT.1 ht _ hx;rw[h] at this;cases this
def kz(f:aK)(x:End):Bool:=EB f x.aC&&(decide ((x.aC.length:Int)<=7)&&(decide (x.others= -1)||cv f x.others))
def dW:bK:=⟨0,0,0,0,0,[]⟩
def fw(f:aK)(x:End):Bool×End:=
 let r:End:={ x with kind:=0 }
 if x.kind=1 then(cv f x.to,{ r with to:=0 })
 else if x.kind=2 then(aQ (cB f.ag x.a) 1&&(cv f x.to&&cv f x.fL),{ r with a:=0,to:=0,fL:=0 })
 else if x.kind=3 then(if f.result≠0/\f.iter=false then aQ (cB f.ag x.a) f.result else aQ x.a (-1),{ r with a:=0 })
 else if x.kind=4 then(isName x.name,{ r with name:=.empty })
 else if x.kind=5 then((fk iP x.ins.op).isSome&&(oK f.ag x.ins ((fk iP x.ins.op).getD zB)&&(cv f x.to&&kz f x)),{ r with ins:=dW,to:=0,aC:=[],others:= -1 })
 else if x.kind=6 then(jr x.name&&(decide ((x.args.length:Int)<=6)&&(ie f.ag x.args&&((aQ x.a (-1)||eU f.ag x.a)&&(cv f x.to&&kz f x)))),{ r with name:=.empty,args:=[],a:=0,to:=0,aC:=[],others:= -1 })
 else if x.kind=7 then(jr x.name&&(decide ((x.args.length:Int)<=6)&&(ie f.ag x.args&&(aQ (cB f.ag x.a) 3&&cv f x.to))),{ r with name:=.empty,args:=[],a:=0,to:=0 })
 else if x.kind=8 then(aQ (cB f.ag x.a) 3&&(eU f.ag x.b&&(cv f x.to&&(cv f x.fL&&kz f x))),{ r with a:=0,b:=0,to:=0,fL:=0,aC:=[],others:= -1 })
 else if x.kind=9 then(f.iter&&(aQ (cB f.ag x.a) f.result&&cv f x.to),{ r with a:=0,to:=0 })
 else(false,r)
def aP(l:List Int)(n:Int):Bool:=l.any fun c=>n==c
def lL(n:Int):Int:=1200+n
def nN:List Int:=[1,2,3,4,5,6,7,8,9,10,11,13,14,17,19]
def pw:List Int:=[30,31,32,33,34,36,37]
def dV(x:bK):Int:=if aP nN x.op then x.to else if aP pw x.op then x.to else -1
def fc(x:End):Int:=if x.kind=5 then dV x.ins else if aP [6,7] x.kind then x.a else if x.kind=8 then x.b else -1
def pA:List Int:=[2,8,11,13,14,15,16,18,36]
def sP:List Int:=[3,4,5,6,7,12,30,31,32,33,34,35,37]
def c6(x:bK):List Int:=if aP pA x.op then [x.a] else if aP sP x.op then [x.a,x.b] else if x.op=10 then x.args else if x.op=38 then x.a::x.b::x.args else []
def c8(x:End):List Int:=if aP [2,8,9] x.kind then [x.a] else if x.kind=3 then(if x.a≠ -1 then [x.a] else []) else if x.kind=5 then c6 x.ins else if aP [6,7] x.kind then x.args else []
def gB(f:aK)(x:End):Bool:=(fw f x).1&&s7 (fw f x).2
end Go.Argus
namespace Go.Abs
inductive T(α:Type) where
 |leaf
 |node (v:Option α) (l r:T α)
noncomputable def wu:Nat->Nat->List Bool
 |0,_=>[]
 |f+1,i=>bif Nat.beq i 0 then [] else bif Nat.beq (i % 2) 1 then true::wu f (i / 2) else false::wu f (i / 2 - 1)
noncomputable def bits(i:Nat):List Bool:=wu 20 i
noncomputable def uX{α:Type}(p:List Bool):T α->Option α:=List.rec (motive:=fun _=>T α->Option α) (fun t=>T.rec (motive:=fun _=>Option α) none (fun v _ _ _ _=>v) t)
 (fun b _ ih t=>T.rec (motive:=fun _=>Option α) none (fun _ l r _ _=>Bool.rec (ih r) (ih l) b) t) p
noncomputable def Cr{α:Type}(v:Option α)(p:List Bool):T α->T α:=List.rec (motive:=fun _=>T α->T α) (fun t=>T.rec (motive:=fun _=>T α) (.node v .leaf .leaf) (fun _ l r _ _=>.node v l r) t)
 (fun b _ ih t=>T.rec (motive:=fun _=>T α) (Bool.rec (.node none .leaf (ih .leaf)) (.node none (ih .leaf) .leaf) b) (fun u l r _ _=>Bool.rec (.node u l (ih r)) (.node u (ih l) r) b) t) p
noncomputable def T.get{α:Type}(t:T α)(i:Nat):Option α:=uX (bits i) t
noncomputable def T.put{α:Type}(t:T α)(i:Nat)(v:Option α):Option (T α):=bif Nat.blt i 1000000 then some (Cr v (bits i) t) else none
structure cW where
 env:T D
 mem:T Row
 nx:Nat
noncomputable def zd:D->D
 | .cS _ _=>.u
 |d=>d
noncomputable def getD(t:T D)(i:Nat):D:=match t.get i with
 |some d=>d
 |none=>.u
noncomputable def iS(t:T D):Operand->D
 | .tmp i=>zd (getD t i)
 | .const v=>yZ v
 | .global _=>.u
 | .func f=>.fn (.func f) [] []
abbrev gk:=Program->(Operand->D)->T Row->Nat->Option bL
noncomputable def gI(b:Bool)(d:D):Option bL:=bif b then some ⟨d,[],[],0⟩ else none
noncomputable def qd(b:Bool)(d:D)(i:Nat):Option bL:=bif b then some ⟨d,[],[i],0⟩ else none
noncomputable def uY(b:Bool)(nx:Nat)(d:D)(r:Row)(rd:List Nat):Option bL:=bif b then some ⟨d,[(nx,some r)],rd,1⟩ else none
noncomputable def Db(b:Bool)(i:Nat)(r:Row):Option bL:=bif b then some ⟨.bd [],[(i,some r)],[i],0⟩ else none
noncomputable def lE(n:Nat):List D->Bool:=Nat.rec (fun _=>true) (fun _ ih l=>List.rec false (fun _ t _=>ih t) l) n
noncomputable def uZ(n:Nat):List D->Bool:=Nat.rec (fun l=>List.rec true (fun _ _ _=>false) l) (fun _ ih l=>List.rec false (fun _ t _=>ih t) l) n
noncomputable def NO(n:Nat):List D->List D:=Nat.rec (fun l=>l) (fun _ ih l=>List.rec [] (fun _ t _=>ih t) l) n
noncomputable def zZ(n:Nat):List D->List D:=Nat.rec (fun _=>[]) (fun _ ih l=>List.rec [] (fun a t _=>a::ih t) l) n
noncomputable def pO(l:List D)(n:Nat):List D:=NO n l
noncomputable def yj(P:Program)(t:TypeId)(cs:List D):D:=bif bI P t then .agg (zZ (P.cellsOf t) cs) else List.rec .u (fun d _ _=>d) cs
noncomputable def WE(x:Operand):gk:=fun _ ρ _ _=>some ⟨ρ x,[],[],0⟩
noncomputable def NP(c a b:Operand):gk:=fun _ ρ _ _=>match ρ c with
 | .s (.bool true)=>match ρ a with
  | .s (.bool v)=>some ⟨.s (.bool v),[],[],0⟩
  |_=>none
 | .s (.bool false)=>match ρ b with
  | .s (.bool v)=>some ⟨.s (.bool v),[],[],0⟩
  |_=>none
 |_=>none
noncomputable def MZ(t:TypeId):gk:=fun P _ _ nx=>bif Ad t then match bq P t with
 |[.s (.pointer none),.z]=>uY (aO P t) nx (.rp nx 0) (.bs false .z t) []
 |_=>none
 else uY (aO P t) nx (.rp nx 0) (.cells (bq P t) t) []
noncomputable def OL(t:TypeId)(x:Operand):gk:=fun P ρ _ nx=>bif Ad t then match (ρ x).cells with
 |[.s (.pointer none),d]=>uY (d.one&&Nat.beq (P.cellsOf t) 2) nx (.rp nx 0) (.bs false d t) []
 |_=>none
 else uY ((ρ x).cells.all D.one) nx (.rp nx 0) (.cells (ρ x).cells t) []
noncomputable def Cb(place:Nat->Option (Nat×Nat))(cells:List D):List (Nat×D)->Option (List D)
 |[]=>some cells
 |(i,d)::rest=>match place i with
  |none=>none
  |some (off,size)=>bif (uZ size d.cells&&lE (off+size) cells)&&d.cells.all D.one then Cb place (fP cells off d.cells) rest else none
noncomputable def parts(ρ:Operand->D):List (Nat×Operand)->List (Nat×D)
 |[]=>[]
 |(i,x)::l=>(i,ρ x)::parts ρ l
noncomputable def M0(P:Program)(fs:Array Field)(i:Nat):Option (Nat×Nat):=match fs[i]? with
 |some f=>some (f.offset,P.cellsOf f.type)
 |none=>none
noncomputable def NQ(b:Bool):Option (List D)->Option bL
 |some cs=>gI b (.agg cs)
 |none=>none
noncomputable def aei(P:Program)(fs:Array Field):Bool:=fs.toList.all fun f=>(P.info? f.type).isSome
noncomputable def M1(t:TypeId)(ps:Array (Nat×Operand)):gk:=fun P ρ _ _=>match P.underlying t with
 |some (.struct fs)=>NQ (aO P t&&aei P fs) (Cb (M0 P fs) (bq P t) (parts ρ ps.toList))
 |some (.array _ e)=>NQ (aO P t&&aO P e) (Cb (fun i=>some (i*P.cellsOf e,P.cellsOf e)) (bq P t) (parts ρ ps.toList))
 |_=>none
noncomputable def WG(b:Bool)(nx n:Nat)(e:TypeId):Option (List D)->Option bL
 |some cs=>uY (b&&cs.all D.one) nx (.rs nx 0 n) (.cells cs e) []
 |none=>none
noncomputable def KU(t:TypeId)(n:Nat)(ps:Array (Nat×Operand)):gk:=fun P ρ _ nx=>
 WG (bh P t&&(Nat.ble (n*P.cellsOf (aE P t)) 16777216&&Nat.ble n maxLen)) nx n (aE P t) (Cb (fun i=>some (i*P.cellsOf (aE P t),P.cellsOf (aE P t))) (dM n (bq P (aE P t))) (parts ρ ps.toList))
noncomputable def NR(t:TypeId)(a:Operand):gk:=fun P ρ m _=>match ρ a with
 | .pt cs=>gI (aO P t&&lE (P.cellsOf t) cs) (yj P t cs)
 | .rp i off=>match m.get i with
  |some (.cells cs _)=>qd (aO P t&&lE (off+P.cellsOf t) cs) (yj P t (pO cs off)) i
  |some (.bs _ x _)=>qd (Nat.beq off 1&&(aO P t&& !bI P t)) x i
  |_=>none
 |_=>none
noncomputable def M3(t:TypeId)(a x:Operand):gk:=fun P ρ m _=>match ρ a with
 | .rp i off=>match m.get i with
  |some (.cells cs e)=>Db ((aO P t&&uZ (P.cellsOf t) (ρ x).cells)&&(lE (off+P.cellsOf t) cs&&(ρ x).cells.all D.one)) i (.cells (fP cs off (ρ x).cells) e)
  |some (.bs u _ T)=>Db (Nat.beq off 1&&(aO P t&&(!bI P t&&(ρ x).one))) i (.bs u (ρ x) T)
  |_=>none
 |_=>none
noncomputable def Lu(x:Operand):gk:=fun _ ρ m _=>match ρ x with
 | .pt cs=>some ⟨.pt cs,[],[],0⟩
 | .rp i off=>match m.get i with
  |some _=>some ⟨.rp i off,[],[i],0⟩
  |none=>none
 |_=>none
noncomputable def J6:IntKind->Int->Bool
 | .i64,.ofNat n=>Nat.ble n 9223372036854775807
 | .i64,.negSucc n=>Nat.ble n 9223372036854775807
 | .u8,.ofNat n=>Nat.ble n 255
 | .u64,.ofNat n=>Nat.ble n 18446744073709551615
 |_,_=>false
noncomputable def z1(k:IntKind)(n:Int):Int:=bif J6 k n then n else k.wrap n
noncomputable def qe:Int->Int->Bool
 | .ofNat a,.ofNat b=>Nat.blt a b
 | .negSucc _,.ofNat _=>true
 | .ofNat _,.negSucc _=>false
 | .negSucc a,.negSucc b=>Nat.blt b a
noncomputable def AM:Int->Int->Bool
 | .ofNat a,.ofNat b=>Nat.beq a b
 | .negSucc a,.negSucc b=>Nat.beq a b
 |_,_=>false
noncomputable def mD:IntKind->IntKind->Bool
 | .i64,.i64 | .u8,.u8 | .u64,.u64 | .i32,.i32 | .u32,.u32 | .i8,.i8 | .i16,.i16 | .u16,.u16=>true
 |_,_=>false
noncomputable def sI(b:Bool)(k:IntKind)(n:Int):Option bL:=gI b (.s (.int k n))
noncomputable def sB(b:Bool)(v:Bool):Option bL:=gI b (.s (.bool v))
noncomputable def OM:BinOp->IntKind->IntKind->Int->Int->Option bL
 | .add=>fun k k' a b=>sI (mD k k') k (z1 k (a+b))
 | .sub=>fun k k' a b=>sI (mD k k') k (z1 k (a - b))
 | .mul=>fun k k' a b=>sI (mD k k') k (z1 k (a*b))
 | .quo=>fun k k' a b=>sI (mD k k'&& !AM b 0) k (z1 k (a.tdiv b))
 | .rem=>fun k k' a b=>sI (mD k k'&& !AM b 0) k (a.tmod b)
 | .shl=>fun k _ a b=>sI (!qe b 0) k (k.wrap (a*2 ^ (min b.toNat k.bits)))
 | .shr=>fun k _ a b=>sI (!qe b 0) k (a.fdiv (2 ^ (min b.toNat k.bits)))
 | .and=>fun k k' a b=>sI (mD k k') k (mn .and k a b)
 | .or=>fun k k' a b=>sI (mD k k') k (mn .or k a b)
 | .xor=>fun k k' a b=>sI (mD k k') k (mn .xor k a b)
 | .andNot=>fun k k' a b=>sI (mD k k') k (mn .andNot k a b)
 | .eql=>fun k k' a b=>sB (mD k k') (AM a b)
 | .neq=>fun k k' a b=>sB (mD k k') (!AM a b)
 | .lss=>fun k k' a b=>sB (mD k k') (qe a b)
 | .leq=>fun k k' a b=>sB (mD k k') (!qe b a)
 | .gtr=>fun k k' a b=>sB (mD k k') (qe b a)
 | .geq=>fun k k' a b=>sB (mD k k') (!qe a b)
noncomputable def Dc:List UInt8->List UInt8->Bool
 |[],[]=>true
 |a::aS,b::bs=>Nat.beq a.toNat b.toNat&&Dc aS bs
 |_,_=>false
noncomputable def F1:List UInt8->List UInt8->Bool
 |_,[]=>false
 |[],_::_=>true
 |a::aS,b::bs=>Nat.blt a.toNat b.toNat||(Nat.beq a.toNat b.toNat&&F1 aS bs)
noncomputable def ON:BinOp->List UInt8->List UInt8->Option bL
 | .eql=>fun a b=>sB true (Dc a b)
 | .neq=>fun a b=>sB true (!Dc a b)
 | .lss=>fun a b=>sB true (F1 a b)
 | .geq=>fun a b=>sB true (!F1 a b)
 | .add=>fun a b=>gI (Nat.ble (a.length+b.length) maxLen) (.s (.string ⟨⟨a++b⟩⟩))
 |_=>fun _ _=>none
noncomputable def VC(P:Program)(op:BinOp)(t:TypeId)(xs ys:List D):Option bL:=match op,B5 P t,qN xs ys with
 | .eql,some ks,some q=>gI (decide (q.1.map lb=ks)&& !P.eqGuardType P.depth t) (.s (.bool (kf q.1 q.2)))
 | .neq,some ks,some q=>gI (decide (q.1.map lb=ks)&& !P.eqGuardType P.depth t) (.s (.bool !(kf q.1 q.2)))
 |_,_,_=>none
noncomputable def WH(P:Program)(op:BinOp)(t:TypeId):D->D->Option bL
 | .s (.int k a),.s (.int k' b)=>OM op k k' a b
 | .s (.string a),.s (.string b)=>ON op a.data.toList b.data.toList
 | .s (.bool a),.s (.bool b)=>match op with
  | .eql=>sB (vr P t) (a==b)
  | .neq=>sB (vr P t) (!(a==b))
  |_=>none
 | .agg xs,.agg ys=>VC P op t xs ys
 |_,_=>none
noncomputable def Jn:BinOp->Option Bool
 | .eql=>some true
 | .neq=>some false
 |_=>none
noncomputable def WI(P:Program)(m:T Row)(t:TypeId)(b:Bool):D->Option bL
 | .z=>sB (bh P t) b
 | .rs i _ n=>match m.get i with
  |some (.cells _ _)=>qd (bh P t&&Nat.blt 0 n) (.s (.bool !b)) i
  |_=>none
 | .sl _ n=>bif b then gI (bh P t) (bif Nat.beq n 0 then .ub else .s (.bool false)) else none
 |_=>none
noncomputable def WJ(P:Program)(m:T Row)(t:TypeId)(b:Bool):D->Option bL
 | .rp i _=>match m.get i with
  |some _=>qd (AD P t) (.s (.bool !b)) i
  |_=>none
 |_=>none
noncomputable def OO(op:BinOp)(t:TypeId)(x y:Operand):gk:=fun P ρ m _=>match y with
 | .const (.slice none 0 0)=>match Jn op with
  |some b=>WI P m t b (ρ x)
  |none=>none
 | .const (.pointer none)=>match Jn op with
  |some b=>WJ P m t b (ρ x)
  |none=>none
 |y=>WH P op t (ρ x) (ρ y)
noncomputable def PU(op:UnOp)(x:Operand):gk:=fun _ ρ _ _=>match ρ x with
 | .s v=>match AE op v with
  |some r=>some ⟨.s r,[],[],0⟩
  |none=>none
 |_=>none
noncomputable def Cc :List D->Option (List Int)
 |[]=>some []
 | .s (.int .u8 n)::ds=>match Cc ds with
  |some l=>some (n::l)
  |none=>none
 |_=>none
noncomputable def Dd(P:Program)(t:TypeId):Bool:=bh P t&&(match P.underlying (aE P t) with|some (.int .u8)=>true|_=>false)&&Nat.beq (P.cellsOf (aE P t)) 1
noncomputable def Jo(b:Bool)(n:Nat)(rd:List Nat):Option (List Int)->Option bL
 |some l=>bif b&&Nat.beq l.length n then some ⟨.s (.string (mkStr l)),[],rd,0⟩ else none
 |none=>none
noncomputable def VD(P:Program)(src:TypeId)(m:T Row):D->Option bL
 | .sl es n=>Jo (Dd P src) n [] (Cc es)
 | .rs i off n=>match m.get i with
  |some (.cells cs _)=>Jo (Dd P src) n [i] (Cc (zZ n (pO cs off)))
  |_=>none
 | .s (.int _ n)=>match P.underlying src with
  |some (.int _)=>gI (!qe n 0&&qe n 128) (.s (.string (mkStr [n])))
  |_=>none
 |_=>none
noncomputable def VE(P:Program)(src:TypeId):D->Option bL
 | .s (.string b)=>gI (fA P src&&Nat.ble b.data.toList.length maxLen) (.sl (b.data.toList.map fun c=>.s (.int .u8 c.toNat)) b.data.toList.length)
 |_=>none
noncomputable def VF(P:Program)(src:TypeId)(k:IntKind):D->Option bL
 | .s (.int _ n)=>gI (aO P src) (.s (.int k (z1 k n)))
 |_=>none
noncomputable def NS(src dst:TypeId)(x:Operand):gk:=fun P ρ m _=>match P.underlying dst with
 |some (.int k)=>VF P src k (ρ x)
 |some .string=>VD P src m (ρ x)
 |some (.slice e)=>match P.underlying e with
  |some (.int .u8)=>VE P src (ρ x)
  |_=>none
 |_=>none
noncomputable def aio(f:Fn)(fs cs:Array Operand):gk:=fun _ ρ _ _=>some ⟨.fn f (fs.toList.map ρ) (cs.toList.map ρ),[],[],0⟩
noncomputable def OP(r:Option Operand):gk:=fun _ _ _ nx=>match r with
 |none=>some ⟨.mp nx,[(nx,some (.map []))],[],1⟩
 |some _=>none
noncomputable def NT(t:TypeId)(l c:Operand):gk:=fun P ρ _ nx=>match ρ l,ρ c with
 | .s (.int .i64 (.ofNat n)),.s (.int .i64 (.ofNat k))=>uY ((Nat.beq n k&&Nat.ble n 9223372036854775807)&&(Nat.ble (P.bytesOf (aE P t)*n) 281474976710656&&bh P t)) nx (.rs nx 0 n) (.cells (dM n (bq P (aE P t))) (aE P t)) []
 |_,_=>none
noncomputable def zI(P:Program)(t:TypeId):List (Value×D)->Bool
 |[]=>true
 |e::es=>dY P t e.1&&zI P t es
noncomputable def NU(t:TypeId)(x k:Operand)(ok:Bool):gk:=fun P ρ m _=>match oZ (ρ k),ρ x with
 |some key,.mp i=>match m.get i with
  |some (.map es)=>qd (kM P t&&(dY P (ik P t) key&&zI P (ik P t) es)) (lf P t ok (gZ key es)) i
  |_=>none
 |some key,.im es=>gI (kM P t&&(dY P (ik P t) key&&zI P (ik P t) es)) (lf P t ok (gZ key es))
 |some key,.s (.map none)=>gI (kM P t&&dY P (ik P t) key) (lf P t ok none)
 |_,_=>none
noncomputable def Jp(t:TypeId)(x k v:Operand):gk:=fun P ρ m _=>match oZ (ρ k),ρ x with
 |some key,.mp i=>match m.get i with
  |some (.map es)=>Db (kM P t&&(dY P (ik P t) key&&zI P (ik P t) es)) i (.map (nz key (ρ v) es))
  |_=>none
 |_,_=>none
noncomputable def r9(ρ:Operand->D)(o:Option Operand)(C:Nat):Option Nat:=match o with
 |none=>some C
 |some x=>match ρ x with
  | .s (.int _ (.ofNat n))=>some n
  |_=>none
noncomputable def Uv(P:Program)(t:TypeId)(ρ:Operand->D)(x:D)(lo hi:Option Operand)(c:Operand):Option bL:=match x,r9 ρ lo 0,hi,ρ c with
 | .sl es n,some l,some hx,.s (.int _ (.ofNat k))=>match ρ hx with
  | .s (.int _ (.ofNat h))=>bif Nat.beq l 0&&(Nat.beq h n&&Nat.beq k n)&&(lo.isNone) then gI (bh P t&&uZ (n*P.cellsOf (aE P t)) es) (.sc es n)
   else gI (bh P t&&(Nat.ble l h&&(Nat.ble h k&&Nat.ble k n))) (.sl ((pO es (l*P.cellsOf (aE P t))).take ((h - l)*P.cellsOf (aE P t))) (h - l))
  |_=>none
 | .z,_,some hx,.s (.int _ (.ofNat k))=>match ρ hx with
  | .s (.int _ (.ofNat h))=>bif Nat.beq h 0&&Nat.beq k 0&&lo.isNone then gI (bh P t) .z else none
  |_=>none
 |_,_,_,_=>none
noncomputable def LY(P:Program)(t:TypeId)(ρ:Operand->D)(m:T Row)(x:D)(lo hi:Option Operand)(c:Operand):Option bL:=match x,lo,hi,ρ c with
 | .rs i off n,none,some hx,.s (.int _ (.ofNat k))=>match m.get i,ρ hx with
  |some (.cells cs e),.s (.int _ (.ofNat h))=>bif Nat.beq h n&&Nat.beq k n then qd (bh P t&&uZ (off+n*P.cellsOf e) cs) (.rs i off n) i else none
  |_,_=>none
 |_,_,_,_=>none
noncomputable def Uw(P:Program)(t:TypeId)(ρ:Operand->D)(m:T Row)(lo hi:Option Operand):D->Option bL
 | .sl es n=>match r9 ρ lo 0,r9 ρ hi n with
  |some l,some h=>gI (bh P t&&(Nat.ble l h&&Nat.ble h n)) (.sl ((pO es (l*P.cellsOf (aE P t))).take ((h - l)*P.cellsOf (aE P t))) (h - l))
  |_,_=>none
 | .rs i off n=>match m.get i,r9 ρ lo 0,r9 ρ hi n with
  |some (.cells _ e),some l,some h=>qd (bh P t&&Nat.beq (P.cellsOf e) (P.cellsOf (aE P t))&&(Nat.ble l h&&Nat.ble h n)) (.rs i (off+l*P.cellsOf (aE P t)) (h - l)) i
  |_,_,_=>none
 | .s (.string b)=>match r9 ρ lo 0,r9 ρ hi b.data.toList.length with
  |some l,some h=>gI (fA P t&&(Nat.ble l h&&Nat.ble h b.data.toList.length)) (.s (.string ⟨⟨(b.data.toList.drop l).take (h - l)⟩⟩))
  |_,_=>none
 | .z=>match r9 ρ lo 0,r9 ρ hi 0 with
  |some 0,some 0=>gI (bh P t) .z
  |_,_=>none
 |_=>none
noncomputable def M4(t:TypeId)(x:Operand)(lo hi C:Option Operand):gk:=fun P ρ m _=>match C with
 |none=>Uw P t ρ m lo hi (ρ x)
 |some c=>match LY P t ρ m (ρ x) lo hi c with
  |some p=>some p
  |none=>Uv P t ρ (ρ x) lo hi c
noncomputable def Lb(t:TypeId)(x:Operand)(k:Nat):gk:=fun P ρ m _=>match cL P t k with
 |some (off,ft)=>match ρ x with
  | .pt cs=>gI (Nat.blt 0 (P.cellsOf ft)) (.pt (pO cs off))
  | .rp i o=>match m.get i with
   |some _=>qd (Nat.blt 0 (P.cellsOf ft)) (.rp i (o+off)) i
   |none=>none
  |_=>none
 |none=>none
noncomputable def M5(t:TypeId)(x:Operand)(k:Nat):gk:=fun P ρ _ _=>match cL P t k,ρ x with
 |some (off,ft),.agg cs=>gI (aO P ft&&lE (off+P.cellsOf ft) cs) (yj P ft (pO cs off))
 |_,_=>none
noncomputable def Lc(t:TypeId)(x i:Operand):gk:=fun P ρ m _=>match ρ x,ρ i with
 | .sl es n,.s (.int _ (.ofNat k))=>gI (bh P t&&(Nat.blt k n&&lE ((k+1)*P.cellsOf (aE P t)) es)) (.pt (pO es (k*P.cellsOf (aE P t))))
 | .rs j off n,.s (.int _ (.ofNat k))=>match m.get j with
  |some _=>qd (bh P t&&Nat.blt k n) (.rp j (off+k*P.cellsOf (aE P t))) j
  |none=>none
 | .rp j off,.s (.int _ (.ofNat k))=>match m.get j with
  |some _=>qd (o9 P t&&Nat.blt k (pU P t)) (.rp j (off+k*P.cellsOf (aE P t))) j
  |none=>none
 |_,_=>none
noncomputable def M6(t:TypeId)(x i:Operand):gk:=fun P ρ _ _=>match ρ x,ρ i with
 | .s (.string b),.s (.int _ (.ofNat k))=>gI (fA P t&&Nat.blt k b.data.toList.length) (.s (.int .u8 (b.data.toList.getD k 0).toNat))
 | .agg cs,.s (.int _ (.ofNat k))=>gI (o9 P t&&(Nat.blt k (pU P t)&&lE ((k+1)*P.cellsOf (aE P t)) cs)) (yj P (aE P t) (pO cs (k*P.cellsOf (aE P t))))
 |_,_=>none
noncomputable def OQ:List D->Nat->Option D
 |[],_=>none
 |d::_,0=>some d
 |_::ds,n+1=>OQ ds n
noncomputable def LZ(x:Operand)(k:Nat):gk:=fun _ ρ _ _=>match ρ x with
 | .bd cs=>match OQ cs k with
  |some d=>some ⟨d,[],[],0⟩
  |none=>none
 |_=>none
noncomputable def M7(t:TypeId)(x:Operand):gk:=fun P ρ _ _=>match oZ (ρ x) with
 |some v=>gI (plain (.iface t v)&&y3 P t) (.s (.iface t v))
 |none=>none
noncomputable def Mq(x:Operand)(t:TypeId)(ok:Bool):gk:=fun P ρ _ _=>bif ok then match ρ x with
 | .s v=>gI ((PJ v&&y3 P t)&&(aO P t&&wW P t)) (B7 P t v)
 |_=>none
 else none
abbrev vy:=Program->(Operand->D)->T Row->Nat->List Operand->List TypeId->Option bL
noncomputable def XQ:vy:=fun P ρ m _ xs ts=>match xs,ts with
 |[x],[t]=>match ρ x with
  | .sl _ n=>gI (bh P t) (.s (.int .i64 (.ofNat n)))
  | .rs i _ n=>match m.get i with
   |some _=>qd (bh P t) (.s (.int .i64 (.ofNat n))) i
   |none=>none
  | .z=>gI (bh P t) (.s (.int .i64 (.ofNat 0)))
  | .s (.string b)=>gI (fA P t) (.s (.int .i64 (.ofNat b.data.toList.length)))
  | .agg _=>gI (o9 P t) (.s (.int .i64 (.ofNat (pU P t))))
  | .mp i=>match m.get i with
   |some (.map es)=>qd (kM P t) (.s (.int .i64 (.ofNat es.length))) i
   |_=>none
  |_=>none
 |_,_=>none
noncomputable def Iz(m:T Row)(sz:Nat):D->Option (List Nat×Nat×List D)
 | .sl es n=>bif lE (n*sz) es then some ([],n,zZ (n*sz) es) else none
 | .z=>some ([],0,[])
 | .rs i off n=>match m.get i with
  |some (.cells cs _)=>bif lE (off+n*sz) cs then some ([i],n,zZ (n*sz) (pO cs off)) else none
  |_=>none
 |_=>none
noncomputable def Cd(i:Nat):List Nat->Bool
 |[]=>true
 |j::l=> !Nat.beq j i&&Cd i l
noncomputable def XR(P:Program)(m:T Row)(nx:Nat)(t:TypeId)(s:D)(rd:List Nat)(k:Nat)(news:List D):Option bL:=match s with
 | .z=>uY (bh P t&&(Nat.blt 0 (P.cellsOf (aE P t))&&(Nat.ble k maxLen&&Nat.ble (k*P.bytesOf (aE P t)) 140737488355328))) nx (.rs nx 0 k) (.cells news (aE P t)) rd
 | .sc es n=>uY ((bh P t&&uZ (n*P.cellsOf (aE P t)) es)&&((Nat.blt 0 k&&Nat.blt 0 (P.cellsOf (aE P t)))&&(Nat.ble (n+k) maxLen&&Nat.ble ((n+k)*P.bytesOf (aE P t)) 140737488355328))) nx (.rs nx 0 (n+k)) (.cells (es++news) (aE P t)) rd
 | .rs i off n=>match m.get i with
  |some (.cells cs e)=>bif ((bh P t&&Nat.beq e (aE P t))&&(Nat.blt 0 (P.cellsOf (aE P t))&&uZ (off+n*P.cellsOf (aE P t)) cs))&&((Nat.ble (n+k) maxLen&&Nat.ble ((n+k)*P.bytesOf (aE P t)) 140737488355328)&&Cd i rd) then
   some ⟨.rs nx 0 (n+k),[(i,none),(nx,some (.cells (pO cs off++news) e))],i::rd,1⟩ else none
  |_=>none
 |_=>none
noncomputable def WK(P:Program)(m:T Row)(nx:Nat)(t u:TypeId)(s:D)(b:ByteArray):Option bL:=match s with
 | .z=>uY ((Dd P t&&fA P u)&&(Nat.ble b.size maxLen&&Nat.ble (b.size*P.bytesOf (aE P t)) 140737488355328)) nx (.rs nx 0 b.size) (.cells (gf b) (aE P t)) []
 | .rs i off n=>match m.get i with
  |some (.cells cs e)=>bif (Nat.beq e (aE P t)&&(Dd P t&&fA P u))&&(uZ (off+n) cs&&(Nat.ble (n+b.size) maxLen&&Nat.ble ((n+b.size)*P.bytesOf (aE P t)) 140737488355328)) then
   some ⟨.rs nx 0 (n+b.size),[(i,none),(nx,some (.cells (pO cs off++gf b) e))],[i],1⟩ else none
  |_=>none
 |_=>none
noncomputable def Ux:vy:=fun P ρ m nx xs ts=>match xs,ts with
 |[s,x],[t,u]=>match ρ x with
  | .s (.string b)=>WK P m nx t u (ρ s) b
  |d=>bif Nat.beq t u then match Iz m (P.cellsOf (aE P t)) d with
    |some (rd,k,news)=>XR P m nx t (ρ s) rd k news
    |none=>none
   else none
 |_,_=>none
noncomputable def XS:vy:=fun _ ρ _ _ xs ts=>match xs,ts with
 |[x,y],[_,_]=>match ρ x,ρ y with
  | .s (.int k a),.s (.int k' b)=>sI (mD k k') k (bif qe b a then b else a)
  |_,_=>none
 |_,_=>none
noncomputable def VG:vy:=fun P ρ m _ xs ts=>match xs,ts with
 |[x],[t]=>match ρ x with
  | .rs i off n=>match m.get i with
   |some (.cells cs e)=>Db (bh P t&&(Nat.beq e (aE P t)&&lE (off+n*P.cellsOf e) cs)) i (.cells (fP cs off (dM n (bq P e))) e)
   |_=>none
  |_=>none
 |_,_=>none
noncomputable def Uy:vy:=fun P ρ m _ xs ts=>match xs,ts with
 |[x,k],[t,_]=>match oZ (ρ k),ρ x with
  |some key,.mp i=>match m.get i with
   |some (.map es)=>Db (kM P t&&(dY P (ik P t) key&&zI P (ik P t) es)) i (.map (uU key es))
   |_=>none
  |_,_=>none
 |_,_=>none
noncomputable def WL:vy:=fun P ρ m _ xs ts=>match xs,ts with
 |[x,y],[t,u]=>match ρ x with
  | .rs i off n=>match m.get i,Iz m (P.cellsOf (aE P t)) (ρ y) with
   |some (.cells cs e),some (rd,k,news)=>bif (Nat.beq t u&&Nat.beq e (aE P t))&&(bh P t&&(Nat.ble k n&&lE (off+n*P.cellsOf (aE P t)) cs)) then
    some ⟨.s (.int .i64 (.ofNat k)),[(i,some (.cells (fP cs off news) e))],i::rd,0⟩ else none
   |_,_=>none
  |_=>none
 |_,_=>none
noncomputable def VH:vy:=fun _ ρ m _ xs ts=>match xs,ts with
 |[s],[_]=>match ρ s with
  | .rs i off n=>match m.get i with
   |some _=>qd (Nat.blt 0 n) (.rp i off) i
   |none=>none
  |_=>none
 |_,_=>none
noncomputable def WM:vy:=fun P ρ m _ xs ts=>match xs,ts with
 |[p,n],[t,_]=>match ρ p,ρ n with
  | .rp i off,.s (.int _ (.ofNat k))=>match m.get i with
   |some (.cells cs e)=>match Cc (zZ k (pO cs off)),P.underlying t with
    |some l,some (.pointer e')=>bif (Nat.beq k l.length&&Nat.beq e' e)&&((Nat.blt 0 l.length&&Nat.beq (P.cellsOf e) 1)&&(Nat.ble l.length maxLen&&l.all fun x=> !qe x 0&&qe x 256)) then
     some ⟨.s (.string (mkStr l)),[(i,none)],[i],0⟩ else none
    |_,_=>none
   |_=>none
  |_,_=>none
 |_,_=>none
noncomputable def noB:vy:=fun _ _ _ _ _ _=>none
noncomputable def YZ:Builtin->vy
 | .len=>XQ
 | .append=>Ux
 | .min=>XS
 | .clear=>VG
 | .delete=>Uy
 | .copy=>WL
 | .unsafeSliceData=>VH
 | .unsafeString=>WM
 |_=>noB
noncomputable def D1(b:Builtin)(xs:Array Operand)(ts:Array TypeId):gk:=fun P ρ m nx=>YZ b P ρ m nx xs.toList ts.toList
noncomputable def J7:gk:=fun _ _ _ _=>none
noncomputable def WN(c:Call):gk:=match c.callee with
 | .builtin b=>D1 b c.args c.argTypes
 |_=>J7
noncomputable def J8:Op->gk
 | .move x=>WE x
 | .assign x=>WE x
 | .pick c a b=>NP c a b
 | .alloc t=>MZ t
 | .box t x=>OL t x
 | .build t ps=>M1 t ps
 | .buildSlice t n ps=>KU t n ps
 | .load t a=>NR t a
 | .store t a x=>M3 t a x
 | .nilCheck x=>Lu x
 | .binOp op t x y _=>OO op t x y
 | .unOp op _ x=>PU op x
 | .convert src dst x=>NS src dst x
 | .makeFunc f fs cs=>aio f fs cs
 | .makeMap _ r=>OP r
 | .makeSlice t l c=>NT t l c
 | .lookup t x k ok=>NU t x k ok
 | .mapUpdate t x k v=>Jp t x k v
 | .insert t x k v=>Jp t x k v
 | .slice t x lo hi C=>M4 t x lo hi C
 | .fieldAddr t x k=>Lb t x k
 | .field t x k=>M5 t x k
 | .indexAddr t x i=>Lc t x i
 | .index t x i=>M6 t x i
 | .extract x k=>LZ x k
 | .makeInterface t x=>M7 t x
 | .typeAssert x _ t ok=>Mq x t ok
 | .call c=>WN c
 |_=>J7
abbrev Hf:=List D->T Row->Nat->Option (Bool×T Row×Nat)
abbrev Hd:=List (Nat×Hf)
noncomputable def E0:Hd->Nat->Option Hf
 |[],_=>none
 |(j,h)::l,i=>bif Nat.beq j i then some h else E0 l i
abbrev Ev:=Hd->Bool->Code->cW->Option (Exit×cW)
abbrev tL:=(D ⊕ List PanicEntry)×T Row×Nat
abbrev qD:=FuncId->List D->T Row->Nat->Option tL
abbrev sY:=FuncId->List D->T Row->Nat->Option bL
abbrev AN:=Option (Option (List PanicEntry)×cW)
structure Ctx where
 lH:FuncId->Option (Func×Code)
 known:FuncId->List D->Option D:=fun _ _=>none
 Ew:FuncId->List D->T Row->Nat->Option tL:=fun _ _ _ _=>none
 deep:List Nat:=[]
noncomputable def OR(t:T D):Option Nat->D->Option (T D)
 |none,_=>some t
 |some i,d=>t.put i (some d)
noncomputable def E2(m:T Row):List (Nat×Option Row)->Option (T Row)
 |[]=>some m
 |(i,r)::us=>match m.put i r with
  |some m'=>E2 m' us
  |none=>none
noncomputable def Cs(c:cW)(dst:Option Nat)(d:D)(m:T Row)(nx:Nat):Option cW:=match OR c.env dst d with
 |some env=>some ⟨env,m,nx⟩
 |none=>none
noncomputable def Jq(c:cW)(dst:Option Nat)(p:bL):Option cW:=match E2 c.mem p.a7 with
 |some m=>Cs c dst p.val m (c.nx+p.new)
 |none=>none
noncomputable def F3:Option cW->AN
 |some c=>some (none,c)
 |none=>none
noncomputable def XT(c:cW)(dst:Option Nat):Option bL->AN
 |some p=>F3 (Jq c dst p)
 |none=>none
noncomputable def OS(c:cW)(dst:Option Nat):Option tL->AN
 |some (.inl d,m,nx)=>F3 (Cs c dst d m nx)
 |some (.inr ch,m,nx)=>some (some ch,⟨c.env,m,nx⟩)
 |none=>none
noncomputable def amh(c:cW)(dst:Option Nat):Option (Bool×T Row×Nat)->AN
 |some (b,m,nx)=>F3 (Cs c dst (.s (.bool b)) m nx)
 |none=>none
abbrev De:=Program->Hd->qD->Option Nat->cW->AN
noncomputable def fK(k:gk):De:=fun P _ _ dst c=>XT c dst (k P (iS c.env) c.mem c.nx)
noncomputable def M8(i:Nat)(args:List D):De:=fun _ hd _ dst c=>match E0 hd i,c.mem.get i with
 |some h,some (.lp .ready)=>amh c dst (h args c.mem c.nx)
 |_,_=>none
noncomputable def VJ(f:Operand)(xs:Array Operand):De:=fun P hd call dst c=>match iS c.env f with
 | .fn (.func g) fs cs=>OS c dst (call g (fs++xs.toList.map (iS c.env)++cs) c.mem c.nx)
 | .yl i=>M8 i (xs.toList.map (iS c.env)) P hd call dst c
 |_=>none
noncomputable def VK(x:Operand):De:=fun _ _ _ _ c=>match iS c.env x with
 | .s (.iface t v)=>some (some [{ v:=.iface t v,recovered:=false }],c)
 |_=>none
noncomputable def WO(c:Call):De:=match c.callee with
 | .value f=>VJ f c.args
 | .builtin b=>fK (D1 b c.args c.argTypes)
 |_=>fK J7
noncomputable def F4:Op->De
 | .call c=>WO c
 | .panic x=>VK x
 |o=>fK (J8 o)
noncomputable def IA(ops:Array Oper)(j:Nat)(b:Bool)(c:cW):Option Bool:=match ops[j]? with
 |some o=>match o.dst with
  |some t=>lA (getD c.env t) b
  |none=>none
 |none=>none
noncomputable def aip(dst:Option Nat)(c:cW):AN:=F3 (Cs c dst wq c.mem c.nx)
noncomputable def PV(P:Program)(hd:Hd)(call:qD)(ops:Array Oper)(o:Oper)(c:cW):AN:=match o.guard with
 |none=>F4 o.op P hd call o.dst c
 |some (j,b)=>match IA ops j b c with
  |none=>none
  |some false=>aip o.dst c
  |some true=>F4 o.op P hd call o.dst c
noncomputable def yF(P:Program)(hd:Hd)(call:qD)(ops:Array Oper):List Oper->cW->Option (Exit×cW)
 |[],c=>some (.normal,c)
 |o::os,c=>match PV P hd call ops o c with
  |some (none,c')=>yF P hd call ops os c'
  |some (some ch,c')=>some (.panic ch,c')
  |none=>none
abbrev J9:=Program->sY->cW->Option bL
noncomputable def gK(k:gk):J9:=fun P _ c=>k P (iS c.env) c.mem c.nx
noncomputable def VL(f:Operand)(xs:Array Operand):J9:=fun _ call c=>match iS c.env f with
 | .fn (.func g) fs cs=>call g (fs++xs.toList.map (iS c.env)++cs) c.mem c.nx
 |_=>none
noncomputable def WQ(c:Call):J9:=match c.callee with
 | .value f=>VL f c.args
 | .builtin b=>gK (D1 b c.args c.argTypes)
 |_=>gK J7
noncomputable def J':Op->J9
 | .call c=>WQ c
 |o=>gK (J8 o)
noncomputable def NV(P:Program)(call:sY)(ops:Array Oper)(o:Oper)(c:cW):Option bL:=match o.guard with
 |none=>J' o.op P call c
 |some (j,b)=>match IA ops j b c with
  |none=>none
  |some false=>some ⟨wq,[],[],0⟩
  |some true=>J' o.op P call c
noncomputable def BS(P:Program)(call:sY)(ops:Array Oper):List Oper->cW->Option (List bL×cW)
 |[],c=>some ([],c)
 |o::os,c=>match NV P call ops o c with
  |some p=>match Jq c o.dst p with
   |some c'=>match BS P call ops os c' with
    |some (ps,c'')=>some (p::ps,c'')
    |none=>none
   |none=>none
  |none=>none
noncomputable def meets(l:List Nat):List Nat->Bool
 |[]=>false
 |x::xs=> !Cd x l||meets l xs
noncomputable def VM(ps:List bL)(q:Nat×Nat):Bool:=match ps[q.1]?,ps[q.2]? with
 |some a,some b=> !meets b.rd a.wr&&(!meets b.wr a.wr&& !meets a.rd b.wr)
 |_,_=>false
noncomputable def zJ(ps:List bL):List (Nat×Nat)->Bool
 |[]=>true
 |q::l=>VM ps q&&zJ ps l
noncomputable def NW(P:Program)(hd:Hd)(EG:qD)(Ce:sY)(ops:Array Oper)(c:cW):Option (List (Nat×Nat))->Option (Exit×cW)
 |some cf=>match BS P Ce ops ops.toList c with
  |some (ps,c')=>bif zJ ps cf then some (.normal,c') else none
  |none=>bif zX ops then match BS P Ce ops (ops.toList.take (ops.size - 1)) c with
   |some (ps,c')=>bif zJ ps cf then yF P hd EG ops (ops.toList.drop (ops.size - 1)) c' else none
   |none=>none
   else none
 |none=>none
noncomputable def BT:Nat->List D->T D->Option (T D)
 |_,[],t=>some t
 |k,d::ds,t=>match t.put k (some d) with
  |some C=>BT (k+1) ds C
  |none=>none
noncomputable def Bv:T D->List Tmp->List D->Option (T D)
 |t,p::ps,d::ds=>match t.put p (some d) with
  |some C=>Bv C ps ds
  |none=>none
 |t,_,_=>some t
noncomputable def OT(P:Program)(c:cW):ResultVar->Option D
 | .tmp t=>some (getD c.env t)
 | .cell a t=>match getD c.env a with
  | .rp i off=>match c.mem.get i with
   |some (.cells cs _)=>bif aO P t&&lE (off+P.cellsOf t) cs then some (yj P t (pO cs off)) else none
   |_=>none
  | .pt cs=>bif aO P t&&lE (P.cellsOf t) cs then some (yj P t cs) else none
  |_=>none
noncomputable def E3(P:Program)(c:cW):List ResultVar->Option (List D)
 |[]=>some []
 |r::rs=>match OT P c r with
  |some d=>match E3 P c rs with
   |some ds=>some (d::ds)
   |none=>none
  |none=>none
noncomputable def IB(P:Program)(fn:Func)(s:cW):Option tL:=match E3 P s fn.results.toList with
 |some ds=>some (.inl (wG ds),s.mem,s.nx)
 |none=>none
noncomputable def VN(P:Program)(fn:Func):Option (Exit×cW)->Option tL
 |some (.normal,s)=>IB P fn s
 |some (.ret,s)=>IB P fn s
 |some (.panic ch,s)=>some (.inr ch,s.mem,s.nx)
 |_=>none
noncomputable def yG(P:Program)(x:Ctx)(ev:Ev)(hd:Hd)(f:FuncId)(args:List D)(m:T Row)(nx:Nat):Option tL:=
 match x.lH f with
 |none=>none
 |some (fn,c)=>bif lE args.length (List.replicate fn.ntmps .u) then
  match BT 0 args .leaf with
  |none=>none
  |some t=>VN P fn (ev hd true c ⟨t,m,nx⟩)
  else none
noncomputable def rm:Nat->D->Bool
 |0,_=>false
 |n+1,d=>match d with
  | .rs .. | .rp .. | .mp _ | .sc .. | .yl _=>false
  | .cS _ d=>rm n d
  | .agg cs | .bd cs | .pt cs | .sl cs _=>cs.all (rm n)
  | .fn _ fs cs=>fs.all (rm n)&&cs.all (rm n)
  | .im es=>es.all fun x=>rm n x.2
  |_=>true
noncomputable def jv{α β:Type}(f:α->Option (β×List Nat)):List α->Option (List β×List Nat)
 |[]=>some ([],[])
 |x::xs=>match f x with
  |none=>none
  |some y=>match jv f xs with
   |none=>none
   |some ys=>some (y.1::ys.1,y.2++ys.2)
noncomputable def de(P:Program)(m:T Row):Nat->D->Option (D×List Nat)
 |0,_=>none
 |n+1,d=>match d with
  | .mp i=>match m.get i with
   |some (.map es)=>(jv (fun x=>(de P m n x.2).map fun y=>((x.1,y.1),y.2)) es).map fun x=>(.im x.1,i::x.2)
   |_=>none
  | .im es=>(jv (fun x=>(de P m n x.2).map fun y=>((x.1,y.1),y.2)) es).map fun x=>(.im x.1,x.2)
  | .rs i off k=>match m.get i with
   |some (.cells cs e)=>(jv (de P m n) ((cs.drop off).take (k*P.cellsOf e))).map fun x=>(.sl x.1 k,i::x.2)
   |_=>none
  | .rp i off=>match m.get i with
   |some (.cells cs _)=>(jv (de P m n) (cs.drop off)).map fun x=>(.pt x.1,i::x.2)
   |_=>none
  | .cS true d=>(de P m n d).map fun x=>(.cS true x.1,x.2)
  | .cS false _=>some (.cS false .u,[])
  | .agg cs=>(jv (de P m n) cs).map fun x=>(.agg x.1,x.2)
  | .bd cs=>(jv (de P m n) cs).map fun x=>(.bd x.1,x.2)
  | .sl cs k=>(jv (de P m n) cs).map fun x=>(.sl x.1 k,x.2)
  | .pt cs=>(jv (de P m n) cs).map fun x=>(.pt x.1,x.2)
  | .fn f fs cs=>match jv (de P m n) fs with
   |none=>none
   |some x=>(jv (de P m n) cs).map fun y=>(.fn f x.1 y.1,x.2++y.2)
  | .s v=>some (.s v,[])
  | .ub=>some (.ub,[])
  | .u=>some (.u,[])
  | .z=>some (.z,[])
  | .sc .. | .yl _=>none
noncomputable def depth:Nat:=12
noncomputable def I1(P:Program)(m:T Row)(d:D):Option (D ⊕ (List D×Nat×TypeId)):=match de P m depth d with
 |some (r,_)=>some (.inl r)
 |none=>none
noncomputable def NX(P:Program):Option tL->Option (D ⊕ (List D×Nat×TypeId))
 |some (.inl (.rs i 0 k),m,_)=>match m.get i with
  |some (.cells es t)=>bif es.all (rm depth) then some (.inr (es,k,t)) else I1 P m (.rs i 0 k)
  |_=>none
 |some (.inl d,m,_)=>I1 P m d
 |_=>none
noncomputable def wv(P:Program)(x:Ctx)(ev:Ev)(f:FuncId)(args:List D):Option (D ⊕ (List D×Nat×TypeId)):=NX P (yG P x ev [] f args .leaf 0)
noncomputable def aiq(nx:Nat):Option (D ⊕ (List D×Nat×TypeId))->Option bL
 |some (.inl r)=>some ⟨r,[],[],0⟩
 |some (.inr (es,k,t))=>some ⟨.rs nx 0 k,[(nx,some (.cells es t))],[],1⟩
 |none=>none
noncomputable def I2(br:List Nat):Option (D ⊕ (List D×Nat×TypeId))->Option bL
 |some (.inl r)=>bif r.jt then some ⟨r,[],br,0⟩ else none
 |_=>none
noncomputable def NY(P:Program)(x:Ctx)(ev:Ev):sY:=fun f args m nx=>match x.known f args with
 |some r=>some ⟨r,[],[],0⟩
 |none=>bif args.all (rm depth) then aiq nx (wv P x ev f args)
  else match jv (de P m depth) args with
   |none=>none
   |some (fm,br)=>match x.known f fm with
    |some r=>I2 br (some (.inl r))
    |none=>I2 br (wv P x ev f fm)
noncomputable def AO(f:Nat):List Nat->Bool
 |[]=>false
 |g::l=>bif Nat.beq g f then true else AO f l
noncomputable def Cf:Nat->D->Bool
 |0,_=>false
 |n+1,d=>match d with
  | .s _ | .ub | .z=>true
  | .agg cs | .bd cs=>cs.all (Cf n)
  |_=>false
noncomputable def WR(x:Ctx)(f:FuncId):Option (List D×List Nat)->Option D
 |some (args,_)=>match x.known f args with
  |some r=>bif Cf depth r then some r else none
  |none=>none
 |none=>none
noncomputable def I3(P:Program)(x:Ctx)(ev:Ev)(hd:Hd):qD:=fun f args m nx=>match x.known f args with
 |some r=>some (.inl r,m,nx)
 |none=>match x.Ew f args m nx with
  |some r=>some r
  |none=>match bif AO f x.deep then WR x f (jv (de P m depth) args) else none with
   |some r=>some (.inl r,m,nx)
   |none=>yG P x ev hd f args m nx
noncomputable def EH(il:Nat)(b:Bool)(k:RS)(s:cW):Option (Bool×T Row×Nat):=match s.mem.get il with
 |some (.lp .busy)=>match s.mem.put il (some (.lp k)) with
  |some m=>some (b,m,s.nx)
  |none=>none
 |_=>none
noncomputable def VO(il:Nat):Option (Exit×cW)->Option (Bool×T Row×Nat)
 |some (.normal,s)=>EH il true .ready s
 |some (.ret,s)=>EH il false (.done .ret) s
 |some (.exit i,s)=>EH il false (.done (.exit i)) s
 |_=>none
noncomputable def VP(ev:Ev)(hd:Hd)(il:Nat)(body:Code):Option (Exit×cW)->Option (Bool×T Row×Nat)
 |some (.normal,s)=>match s.mem.get il with
  |some (.lp .ready)=>match s.mem.put il (some (.lp .busy)) with
   |some m=>VO il (ev hd false body ⟨s.env,m,s.nx⟩)
   |none=>none
  |_=>none
 |_=>none
noncomputable def Ex(ev:Ev)(hd:Hd)(il:Nat)(env:T D)(ps:List Tmp)(assign body:Code):Hf:=fun args m nx=>
 bif Nat.beq args.length ps.length then match Bv env ps args with
  |some t=>VP ev hd il body (ev hd false assign ⟨t,m,nx⟩)
  |none=>none
 else none
noncomputable def E8(il:Nat)(env:T D)(m:T Row)(nx:Nat)(e:Exit):Option (Exit×cW):=match m.put il none with
 |some m'=>some (e,⟨env,m',nx⟩)
 |none=>none
noncomputable def VQ(il:Nat)(env:T D):Option tL->Option (Exit×cW)
 |some (.inl _,m,nx)=>match m.get il with
  |some (.lp .ready)=>E8 il env m nx .normal
  |some (.lp (.done .ret))=>E8 il env m nx .ret
  |some (.lp (.done (.exit i)))=>E8 il env m nx (.exit i)
  |_=>none
 |_=>none
abbrev sZ:=Program->Ctx->Ev->Hd->Bool->cW->Option (Exit×cW)
noncomputable def WS:sZ:=fun _ _ _ _ _ s=>some (.normal,s)
noncomputable def af6(ops:Array Oper):Bool->sZ
 |false=>fun P x ev hd _ s=>yF P hd (I3 P x ev hd) ops ops.toList s
 |true=>fun P x ev hd _ s=>NW P hd (I3 P x ev hd) (NY P x ev) ops s (bV ops)
noncomputable def I4(ev:Ev)(hd:Hd)(rf:Bool)(b:Code):Option (Exit×cW)->Option (Exit×cW)
 |some (.normal,s)=>ev hd rf b s
 |r=>r
noncomputable def ami(a b:Code):sZ:=fun _ _ ev hd rf s=>I4 ev hd rf b (ev hd rf a s)
noncomputable def air(c:Operand)(a b:Code):sZ:=fun _ _ ev hd rf s=>match iS s.env c with
 | .s (.bool true)=>ev hd rf a s
 | .s (.bool false)=>ev hd rf b s
 |_=>none
noncomputable def NZ(id:Nat):Option (Exit×cW)->Option (Exit×cW)
 |some (.exit i,s)=>bif Nat.beq i id then some (.normal,s) else some (.exit i,s)
 |r=>r
noncomputable def aho(id:Nat)(b:Code):sZ:=fun _ _ ev hd rf s=>NZ id (ev hd rf b s)
noncomputable def XU:Option (Exit×cW)->Option (Exit×cW)
 |some (.goto _,_)=>none
 |r=>r
noncomputable def ahp(b:Code):sZ:=fun _ _ ev hd rf s=>XU (ev hd rf b s)
noncomputable def ais(b:Code):sZ:=fun _ _ ev hd rf s=>I4 ev hd rf (.loop b) (ev hd rf b s)
noncomputable def M9(g:Operand)(ps:Array Tmp)(assign body:Code):sZ:=fun P x ev hd rf s=>bif rf then match iS s.env g with
 | .fn (.func f) fs cs=>match s.mem.put s.nx (some (.lp .ready)) with
  |none=>none
  |some C=>VQ s.nx s.env (yG P x ev ((s.nx,Ex ev hd s.nx s.env ps.toList assign body)::hd) f (fs++[.yl s.nx]++cs) C (s.nx+1))
 |_=>none
 else none
noncomputable def WT(e:Exit):sZ:=fun _ _ _ _ _ s=>some (e,s)
noncomputable def ait:sZ:=fun _ _ _ _ _ _=>none
noncomputable def codeF:Code->sZ
 | .skip=>WS
 | .region _ ops dr=>af6 ops dr
 | .seq a b=>ami a b
 | .cond c a b=>air c a b
 | .block id b=>aho id b
 | .scope b=>ahp b
 | .loop b=>ais b
 | .rangeFunc g ps assign body=>M9 g ps assign body
 | .exit id=>WT (.exit id)
 | .label _=>WS
 | .ret=>WT .ret
 |_=>ait
noncomputable def lu(P:Program)(x:Ctx):Nat->Ev
 |0=>fun _ _ _ _=>none
 |n+1=>fun hd rf c s=>codeF c P x (lu P x n) hd rf s
end Go.Abs
