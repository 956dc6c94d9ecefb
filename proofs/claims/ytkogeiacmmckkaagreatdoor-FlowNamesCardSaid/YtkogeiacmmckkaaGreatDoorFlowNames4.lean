/- Part 4. -/
import Derived.Test.YtkogeiacmmckkaaGreatDoorFlowNames3
import Derived.IntWalk
set_option linter.all false
set_option maxHeartbeats 0
set_option maxRecDepth 10000
noncomputable section
namespace Go.Abs
open List
section
variable{st:St}{β:aN}{w:World}{a:Act}{d:D}{b:Nat}{x:Option (List Deferred)}{args:List D}{m:Mem}{nx:Nat}{f:FuncId}{c:Code}{es:List D}{k:Nat}{t:TypeId}
section
variable{P:Program}{F:Nat->Prop}{fn:Func}
def EG(tmps:Array Value):ResultVar->Sem Value
 | .tmp t=>pure (tmps.getD t undef)
 | .cell x t=>do loadVar t (<- asAddr (tmps.getD x undef))
def adk(fn:Func)(tmps:Array Value):results fn tmps=(do
 let vs<- fn.results.mapM (EG tmps)
 pure (if h:vs.size=1 then vs[0] else .tuple vs)):=by
 unfold results;congr 1
def ahK(hs:cy P F st β w a){r:ResultVar}{p:Prop}(h:tB P st r=some (p,d))(hp:p):
 ∃ v,(EG a.tmps r).run P w=.ok v w/\R F β w d v:=by
 unfold tB at h;split at h
 .cases h;exact⟨_,by simp[EG],hs.e _⟩
 .rename_i x t;have hx:=hs.e x;split at h
  .rename_i i off C;rw[C] at hx;split at h
   .rename_i cs e hm;cases h;let⟨b,o,room,sz,O,hv,an⟩:=hx.Kv hs.m hm;let⟨u,hu,hr⟩:=I4 (P:=P) hp.1 (an.rd.1.drop off) oP;refine⟨u,?_,hr⟩;simp[EG,hv,Sem.run_bind];simp[asAddr,hu]
   .cases h
  .rename_i cs C;rw[C] at hx;cases h;let⟨b,o,hv,_,_,_,J⟩:=hx.GW;let⟨u,hu,hr⟩:=I4 (P:=P) hp.1 J hp.2;refine⟨u,?_,hr⟩;simp[EG,hv,Sem.run_bind];simp[asAddr,hu]
  .cases h
def Vq(hs:cy P F st β w a){K:List D->Prop}:∀ (rs:List ResultVar) (C:List D),sF P st rs C K->
 ∃ vs ds,(rs.mapM (EG a.tmps)).run P w=.ok vs w/\vs.length=ds.length/\K (C++ds)/\
  ∀ (k:Nat) (d:D) (v:Value),ds[k]? =some d->vs[k]? =some v->R F β w d v
 |[],C,h=>⟨[],[],oS,rfl,by simpa[sF] using h,oS⟩
 |r::rs,C,h=>by
  simp[sF] at h;split at h
  .rename_i p d hr;let⟨v,h1,h2⟩:=ahK hs hr h.1;let⟨vs,ds,J,O,U,X⟩:=Vq hs rs _ h.2;refine⟨v::vs,d::ds,?_,by simp[O],tn U,λk d' v' hd hv=>?_⟩
   .rw[mapM_cons];simp[Sem.run_bind];rw[h1];simp[Result.andThen_ok,Sem.run_bind];rw[J];simp
   .cases k with
    |zero=>simp at hd hv;subst hd;subst hv;exact h2
    |succ k=>exact X k d' v' (tn hd) (tn hv)
  .exact h.elim
def I5(hs:cy P F st β w a){K:D->Prop}(h:sF P st fn.results.toList [] λds=>K (uz ds)):
 ∃ v d,(results fn a.tmps).run P w=.ok v w/\K d/\R F β w d v:=by
 let⟨vs,ds,h1,h2,C,J⟩:=Vq hs _ _ h;simp only[nil_append] at C;refine⟨if h:vs.toArray.size=1 then vs.toArray[0] else .tuple vs.toArray,uz ds,?_,C,?_⟩
 .rw[adk,Array.mapM_eq_mapM_toList];simp only[Sem.run_bind,map_eq_pure_bind,bind_assoc];rw[h1];simp
 .split
  .rename_i bZ;simp only[size_toArray] at bZ;obtain⟨v,rfl⟩:=length_eq_one_iff.1 bZ;obtain⟨d,rfl⟩:=length_eq_one_iff.1 (show ds.length=1 by simpa using h2.symm);exact J 0 d v rfl rfl
  .rename_i bZ;simp only[size_toArray] at bZ
   have:uz ds=.bu ds:=by
    unfold uz;split
    .rename_i d;simp at h2;exact absurd h2 bZ
    .rfl
   rw[this];exact .bu ds vs h2 J
def acB(h:w.heap[b]? =some (.deferred x))(o:Nat):w.cell? ⟨b,o,none⟩=none:=by
 simp[World.cell?,h]
def R.Vr(hb:w.heap[b]? =some (.deferred x))(o:Obj)(C:Nat):oB w (w.putObj b o) C:=by
 refine⟨λk u hu=>?_,λms c hm=>?_⟩
 .have J:C≠b:=λe=>by rw[e,acB hb] at hu;cases hu
  exact(cell_of_heap (World.putObj_heap_other J)).trans hu
 .have J:C≠b:=λe=>by rw[e,hb] at hm;cases hm
  exact(World.putObj_heap_other J).trans hm
def cy.oU(hb:w.heap[b]? =some (.deferred x))(hf:β.free b)(o:Obj)(h:cy P F st β w a):cy P F st β (w.putObj b o) a:=
 ⟨λt=>(h.e t).gen oS (λC _ h1 h2=>⟨R.Vr hb o C,h2,h1⟩) λ_ _ _ h=>.inl h,⟨λi r hi=>by
  let⟨p,hp,hr⟩:=h.m.row i r hi;exact⟨p,hp,hr.gen oS (λC _ h1 h2=>⟨R.Vr hb o C,h2,h1⟩) (λ_ _ _ h=>.inl h) λc hc=>World.putObj_heap_other λe=>hf i p hp (e▸hc)⟩,
  h.m.inj,λi p c hp hc=>tn (h.m.lt i p c hp hc),h.m.nf,h.m.fb.next (λc hc=>tn (h.m.fb.lt c hc)) (λ_ h=>h) λt ht _=>World.putObj_heap_other λe=>ahF (h.m.fb.jk t ht).2 x (by rw[e];exact hb)⟩,h.n⟩
def Marks.put{lo:Nat}(o:Obj):∀ {ds:List Deferred} {hi:Nat},hi<=b->Marks β w lo ds hi->Marks β (w.putObj b o) lo ds hi
 |[],_,_,_=>trivial
 |_::_,_,hle,⟨c,h1,h2,h3,h4,h5,h6⟩=>⟨c,h1,h2,h3,(World.putObj_heap_other oG).trans h4,h5,Marks.put o oG h6⟩
def Tw{n:Nat}{tmps:Array Value}{R:Ending->World->Prop}{β₀:aN}{w₀:World}{u:FrameMode}(hu:u≠ .run):∀ (ds:List Deferred) (hi:Nat) (w:World),Marks β w w₀.heap.size ds hi->cy P F st β w a->Step β₀ w₀ β w->
 (∀ w',cy P F st β w' a->Step β₀ w₀ β w'->LeavesIn (Fe none) n P fn tmps R [] u w')->LeavesInM (Fe none) n P fn tmps R ds u w
 |[],_,w,_,hs,bL,K=>K w hs bL
 |d::ds,hi,w,⟨b,h1,h2,h3,h4,h5,h6⟩,hs,bL,K=>by
  subst h1;refine⟨hu,.inl ⟨b,_,rfl,run_takeDeferred h4,Tw hu ds b _ (h6.put _ (bK _)) (hs.oU h4 h5 _) ?_ K⟩⟩;refine⟨tn bL.size,λc hc hf=>?_,bL.iL,bL.out.trans ⟨rfl,rfl⟩,λi r hp C=>(bL.lp i r hp C).trans (pV (World.putObj_heap_other λe=>h5 i _ C (by simp[Pl.blk,e])))⟩;let⟨J,O⟩:=bL.fF c hc hf;exact⟨(World.putObj_heap_other oG).trans J,O⟩
def ajU(P:Program)(fn:Func)(R:Ending->World->Prop)(a:Act)(w:World):Exit->Prop
 | .normal | .ret=>∃ v,(results fn a.tmps).run P w=.ok v w/\R (.returned v) w
 | .panic ch=>R (.panicked ch) w
 |_=>False
def NB(hn:args.length<=fn.ntmps){vs:Array Value}(hm:aQ P F m β w)(O:∀ i,nx<=i->β i=none)(hR:Rs F β w args vs):
 (vs++Array.replicate (fn.ntmps - vs.size) undef).size=fn.ntmps/\cy P F ⟨mW args,m,nx⟩ β w { tmps:=vs++Array.replicate (fn.ntmps - vs.size) undef,defers:=[] }:=by
 have bZ:(vs++Array.replicate (fn.ntmps - vs.size) undef).size=fn.ntmps:=by
  simp[Array.size_append,Array.size_replicate,hR.1];omega
 let a₀:Act:={ tmps:=vs++Array.replicate (fn.ntmps - vs.size) undef,defers:=[] }
 have U:gq F β w (mW args) a₀:=λt=>by
  unfold mW;rcases Nat.lt_or_ge t args.length with al|J
  .have h1:args.getD t .u=args[t]:=by simp[al]
   have h2:a₀.tmps.getD t undef=vs[t]'(by rw[hR.1];exact al):=by
    show(vs++Array.replicate (fn.ntmps - vs.size) undef).getD t undef=_;have C:t<vs.size:=by rw[hR.1];exact al
    simp[Array.getD_eq_getD_getElem?,Array.getElem?_append_left C,C]
   rw[h1,h2];exact hR.2 t _ _ (by simp[al]) (by simp[hR.1,al])
  .have h1:args.getD t .u=.u:=by simp[J]
   rw[h1];exact .u _
 exact⟨bZ,U,hm,O⟩
def TF(hf:P.funcs[f]? =some fn)(hb:fn.body=some c)(hn:args.length<=fn.ntmps){R:Ending->World->Prop}
 {β:aN} {w:World} {vs:Array Value} (hm:aQ P F m β w) (C:∀ i,nx<=i->β i=none) (hR:Rs F β w args vs)
 (h:∀ a:Act,a.tmps=vs++Array.replicate (fn.ntmps - vs.size) undef->a.tmps.size=fn.ntmps->a.defers=[]->cy P F ⟨mW args,m,nx⟩ β w a->c.wpIn (Fe none) 0 P (bodyPostM (Fe none) 0 P fn R) a w):Calls P f vs w R:=by
 refine(callsIn_wide (n:=0)).1 (callsIn_of_wp_marks hf hb aa ?_);exact h _ rfl (NB hn hm C hR).1 rfl (NB hn hm C hR).2
def Vs(hf:P.funcs[f]? =some fn)(hb:fn.body=some c)(hn:args.length<=fn.ntmps){Q:Exit->St->Prop}{R:Ending->World->Prop}
 {β:aN} {w:World} {vs:Array Value} (hm:aQ P F m β w) (eh:∀ i,nx<=i->β i=none) (hR:Rs F β w args vs)
 (h:∀ a:Act,a.tmps.size=fn.ntmps->cy P F ⟨mW args,m,nx⟩ β w a->c.wpIn (Fe none) 0 P (G9 P F nx β w a Q) a w)
 (ng:∀ e st' β' w' a',Q e st'->cy P F st' β' w' a'->Step β w β' w'->nx<=st'.nx->(∀ i,i<nx->β i=none->β' i=none)->ajU P fn R a' w' e):Calls P f vs w R:=by
 refine TF hf hb hn hm eh hR λa _ ha hd hs=>wpIn_mono (h a ha hs) λe a' w' hp=>?_;let⟨st',β',hq,O,J⟩:=hp;let⟨ds,h1,h2⟩:=J.defers;rw[hd,append_nil] at h1;have hl:=λC (Hu:cy P F st' β' C a') (X:Step β w β' C)=>ng e st' β' C a' hq Hu X J.le J.grow
 have U:∀ {u:FrameMode},u≠ .run->(∀ C,cy P F st' β' C a'->Step β w β' C->LeavesIn (Fe none) 0 P fn a'.tmps R [] u C)->LeavesInM (Fe none) 0 P fn a'.tmps R a'.defers u w':=λhu hk=>by
  rw[h1];exact Tw hu ds _ w' h2 O J.step hk
 cases e with
 |normal=>exact U oS hl
 |ret=>exact U oS hl
 |panic ch=>exact U oS hl
 |exit=>exact hl w' O J.step
 |goto=>exact hl w' O J.step
 |outgrown=>exact(hl w' O J.step).elim
def Jx(lZ:P.follows .mixedOrders=true){Y:iz}(hf:P.funcs[f]? =some fn)(hb:fn.body=some c)(al:gG fn.ntmps c=true)(hn:Nat.ble args.length fn.ntmps=true){K:D->St->Prop}
 (h:AW P Y true c (lE P fn.results.toList K) ⟨mW args,m,nx⟩) {β:aN} {w:World} {vs:Array Value} (hY:∀ l args m nx K,Y l args m nx K->sk P F β w l args m nx K) (hm:aQ P F m β w) (eh:∀ i,nx<=i->β i=none) (hR:Rs F β w args vs):
 Calls P f vs w λe w'=>∃ v d st' β',e=.returned v/\K d st'/\R F β' w' d v/\aQ P F st'.mem β' w'/\(∀ i,st'.nx<=i->β' i=none)/\Step β w β' w'/\nx<=st'.nx/\∀ i,i<nx->β i=none->β' i=none:=by
 refine Vs hf hb (tn hn) hm eh hR (λa ha hs=>afW lZ c F none 0 Y true nx β w a (λ_=>rfl) hY (by rw[ha];exact al) _ _ β w a h hs (eM.refl ⟨mW args,m,nx⟩ β w a).Az) λe st' β' w' a' hq hs X C U=>?_
 have J:(sF P st' fn.results.toList [] λds=>K (uz ds) st')->∃ v,(results fn a'.tmps).run P w'=.ok v w'/\∃ O d st' β',Ending.returned v=.returned O/\K d st'/\R F β' w' d O/\aQ P F st'.mem β' w'/\(∀ i,st'.nx<=i->β' i=none)/\Step β w β' w'/\nx<=st'.nx/\∀ i,i<nx->β i=none->β' i=none:=λhq=>by
  let⟨v,d,g1,g2,g3⟩:=I5 (K:=λd=>K d st') hs hq;exact⟨v,g1,v,d,st',β',rfl,g2,g3,hs.m,hs.n,X,C,U⟩
 cases e with
 |normal=>exact J hq
 |ret=>exact J hq
 |_=>exact hq.elim
def Jg(C:FB F w):aQ P F (λ_=>none) iE w:=
 ⟨λi r h=>oH,λi j p q b h=>oH,λi p b h=>oH,λi p b h=>oH,C⟩
def MP{β':aN}{w':World}(h:Step iE w β' w'):Kept w w':=
 ⟨h.size,λb hb=>(h.fF b hb λi p hp=>by cases hp).1,h.out⟩
def Tr.KX(h:Tr d){v:Value}(hv:R F β w d v):R F iE w d v:=
 (h F β w v hv).lift λb hb=>⟨λe=>hb (.inl e),λi p hp=>by cases hp⟩
structure yA(P:Program)(f:FuncId)(fn:Func)(c:Code):Prop where
 hf:P.funcs[f]? =some fn
 hb:fn.body=some c
 al:gG fn.ntmps c=true
 he:nB P f=true
def afZ(lZ:P.follows .mixedOrders=true)(hf:yA P f fn c)(hn:Nat.ble args.length fn.ntmps=true){dV:D->Mem->Nat->Prop}
 (h:AW P nk true c (lE P fn.results.toList λd st=>dV d st.mem st.nx) ⟨mW args,m,nx⟩):iZ P f args m nx dV:=
 ⟨hf.he,λF β w vs hm C hR=>(Jx lZ hf.hf hf.hb hf.al hn h (λ_ _ _ _ _ h=>h.elim) hm C hR).mono λe w' ⟨v,d,st',β',h1,h2,J,O,U,X,h7,h8⟩=>⟨v,d,st'.mem,st'.nx,β',h1,h2,O,U,J,X,h7,h8⟩⟩
def af0(U:P.follows .mixedOrders=true)(hf:yA P f fn c)(hn:Nat.ble args.length fn.ntmps=true)(ht:∀ a∈args,Tr a){r:D}(hr:Tr r)
 (h:AW P nk true c (lE P fn.results.toList λd _=>d=r) ⟨mW args,λ_=>none,0⟩):aE P f args r:=
 ⟨hf.he,ht,λF w vs O hR=>(Jx U hf.hf hf.hb hf.al hn h (λ_ _ _ _ _ h=>h.elim) (Jg O) (λ_ _=>rfl) hR).mono λe w' hp=>by
  obtain⟨v,d,st',β',h1,rfl,C,X,h5,J,h7,h8⟩:=hp
  exact⟨v,h1,hr.KX C,MP J⟩⟩
def Vt{f:FuncId}{args:List D}(he:nB P f=true)(ht:∀ a∈args,Tr a){es:List D}(qB:∀ a∈es,Tr a){k:Nat}{t:TypeId}
 (h:∀ F w vs,FB F w->Rs F iE w args vs->Calls P f vs w λe w'=>∃ v i m β',e=.returned v/\m i=some (.cells es t)/\R F β' w' (.rs i 0 k) v/\aQ P F m β' w'/\Step iE w β' w'):mV P f args es k t:=
 ⟨he,ht,λF w vs hF hR=>(h F w vs hF hR).mono λe w' hp=>by
  obtain⟨v,i,m',β',h1,hi,h3,J,O⟩:=hp;obtain⟨p,hp,an⟩:=J.row i _ hi;refine⟨v,p,h1,?_,λb hb=>⟨?_,J.lt i p b hp hb⟩,?_,?_,MP O⟩
  .rintro rfl;cases an
  .rcases Nat.lt_or_ge b w.heap.size with al|U
   .exact absurd hb ((O.fF b al λi p hp=>by cases hp).2 i p hp)
   .exact U
  .have lift:∀ d∈es,∀ u,R F β' w' d u->R (λx=>F x\/p.blk=some x) iE w' d u:=λd hd u hu=>
    (qB d hd F β' w' u hu).lift λb hb=>⟨λe=>hb (by
     rcases e with e|e
     .exact .inl e
     .exact .inr λjS=>jS i p hp e),λi p hp=>by cases hp⟩
   cases an with
   |nil _=>exact .nil _
   |cells _ _ b o room sz c q1 q2 q3 q4 q5=>
    refine .cells es t b o room sz c q1 q2 q3 q4 λj d hd=>?_;obtain⟨u,u1,u2,u3⟩:=q5 j d hd;exact⟨u,u1,lift d (cL hd) u u2,u3⟩
  .cases h3 with
   |nW _ _ _ _ C _=>rw[C] at hp;cases hp;cases an
   |lH _ a C=>rw[C] at hp;cases hp;exact .lH 0 a (ap _ _ _)
   |mK _ _ a b o len room sz C=>rw[C] at hp;cases hp;exact .mK 0 0 a b o len room sz (ap _ _ _)
   |rs _ _ _ cap b o len room sz C X g2 g3 g4=>rw[C] at hp;cases hp;exact .rs 0 0 k cap b o len room sz (ap _ _ _) X g2 g3 g4⟩
def af1 (J:P.follows .mixedOrders=true)(hf:yA P f fn c)(hn:Nat.ble args.length fn.ntmps=true)(ht:∀ a∈args,Tr a)(O:∀ a∈es,Tr a)
 (h:AW P nk true c (lE P fn.results.toList λd st=>∃ i,d=.rs i 0 k/\st.mem i=some (.cells es t)) ⟨mW args,λ_=>none,0⟩):mV P f args es k t:=
 Vt hf.he ht O λF w vs C hR=>(Jx J hf.hf hf.hb hf.al hn h (λ_ _ _ _ _ h=>h.elim) (Jg C) (λ_ _=>rfl) hR).mono λe w' ⟨v,d,st',β',h1,⟨i,hd,hi⟩,h3,h4,_,h6,_⟩=>⟨v,i,st'.mem,β',h1,hi,hd▸h3,h4,h6⟩
def ZR(C:Nat)(xs:List (List D))(I:Nat->Mem->Nat->Prop)(Stop:Mem->Nat->Prop):iz:=λl args m nx dV=>
 l=C/\∃ k,xs[k]? =some args/\I k m nx/\∀ d m' aw,Wg I Stop k d m' aw->dV d m' aw
def sk.mono{l:Nat}{nx:Nat}{K K':D->Mem->Nat->Prop}(hk:∀ d m nx,K d m nx->K' d m nx)(h:sk P F β w l args m nx K):sk P F β w l args m nx K':=
 λβ' w' us h1 h2 O U=>by
  let⟨f,tmps,assign,body,C,J⟩:=h β' w' us h1 h2 O U;exact⟨f,tmps,assign,body,C,λn=>RoundIn.mono (F:=Fence.wide) (J n) λe w' ⟨v,d,m',aw,β',X,q2,q3⟩=>⟨v,d,m',aw,β',X,hk _ _ _ q2,q3⟩⟩
def ai1(lZ:P.follows .mixedOrders=true)(hf:yA P f fn c){fs cs:List D}(hn:Nat.ble (fs.length+1+cs.length) fn.ntmps=true){xs:List (List D)}
 (h:∀ (l:Nat) (I:Nat->Mem->Nat->Prop) (Stop:Mem->Nat->Prop) (m:Mem) (nx:Nat),(∀ k,GS (I k))->GS Stop->I 0 m nx->
  AW P (ZR l xs I Stop) true c (lE P fn.results.toList λ_ st=>I xs.length st.mem st.nx\/Stop st.mem st.nx) ⟨mW (fs++[.fn (.yield l) [] []]++cs),m,nx⟩):B7 P f fs cs xs:=
 ⟨hf.he,λF l I Stop m nx β w vs hI J hm O hR hy h0=>
  (Jx lZ hf.hf hf.hb hf.al (by simpa[Nat.add_assoc,Nat.add_comm,Nat.add_left_comm] using hn) (h l I Stop m nx hI J h0) (λl' args m' aw K hK=>by
   obtain⟨rfl,k,h1,h2,C⟩:=hK
   exact(hy k args m' aw h1 h2).mono C) hm O hR).mono λe w' ⟨v,d,st',β',h1,h2,C,U,X,h6,h7,h8⟩=>⟨v,d,st'.mem,st'.nx,β',h1,h2,U,X,C,h6,h7,h8⟩⟩
end
end
section
variable{b:Code}{f:FuncId}{args:List D}{dr:Bool}{ops:Array Oper}
section
variable{P:Program}{Y:iz}{rf:Bool}{Q:Exit->St->Prop}{st:St}
def Wm(c a b):AW P Y rf (.cond c a b) Q st=((opd st.env c).ask/\match (opd st.env c).core with
 | .s (.bool t)=>(t=true->AW P Y rf a Q st)/\(t=false->AW P Y rf b Q st)
 | .ub=>AW P Y rf a Q st/\AW P Y rf b Q st
 |_=>False):=rfl
def Wn(I:St->Prop)(μ:St->Nat)(h0:I st)(h:∀ st',I st'->AW P Y rf b (iM (λJ=>∃ C,aL P J C/\I C/\μ C<μ st') Q) st'):AW P Y rf (.loop b) Q st:=⟨I,μ,h0,h⟩
def iZ.mono{m:Mem}{nx:Nat}{dV C:D->Mem->Nat->Prop}(h:iZ P f args m nx dV)(hp:∀ d m' aw,dV d m' aw->C d m' aw):iZ P f args m nx C:=
 ⟨h.1,λF β w vs hm hn hR=>(h.2 F β w vs hm hn hR).mono λe w' ⟨v,d,m',aw,β',h1,h2,J⟩=>⟨v,d,m',aw,β',h1,hp _ _ _ h2,J⟩⟩
def zK.mono{K K':D->Mem->Nat->List Nat->List Nat->Prop}(hk:∀ d m nx rd wr,K d m nx rd wr->K' d m nx rd wr)(h:zK P dr st f args K):zK P dr st f args K':=by
 rcases h with⟨r,h1,h2⟩|⟨O,bP,r,h1,h2,C,J⟩|⟨es,n,t,h1,h2⟩|⟨h1,h2⟩|⟨r,bn,bP,h1,h2,C⟩|⟨es,n,t,bn,bP,h1,h2,C,J⟩
 .exact .inl ⟨r,h1,hk _ _ _ _ _ h2⟩
 .exact .inr (.inl ⟨O,bP,r,h1,h2,C,hk _ _ _ _ _ J⟩)
 .exact .inr (.inr (.inl ⟨es,n,t,h1,hk _ _ _ _ _ h2⟩))
 .exact .inr (.inr (.inr (.inl ⟨h1,h2.mono λd m nx h=>hk _ _ _ _ _ h⟩)))
 .exact .inr (.inr (.inr (.inr (.inl ⟨r,bn,bP,h1,h2,hk _ _ _ _ _ C⟩))))
 .exact .inr (.inr (.inr (.inr (.inr ⟨es,n,t,bn,bP,h1,h2,C,hk _ _ _ _ _ J⟩))))
class fD(Y:iz):Prop where
 mono:∀ l args m nx K K',(∀ d m nx,K d m nx->K' d m nx)->Y l args m nx K->Y l args m nx K'
instance:fD nk:=⟨λ_ _ _ _ _ _ _ h=>h⟩
instance{l:Nat}{xs:List (List D)}{I:Nat->Mem->Nat->Prop}{Stop:Mem->Nat->Prop}:fD (ZR l xs I Stop):=⟨λ_ _ _ _ _ _ hk ⟨h1,k,h2,C,J⟩=>⟨h1,k,h2,C,λd m nx h=>hk _ _ _ (J d m nx h)⟩⟩
def mh.mono[fD Y]{o:Oper}{K K':St->List Nat->List Nat->Prop}(hk:∀ st rd wr,K st rd wr->K' st rd wr)(h:mh P Y ops dr o st K):mh P Y ops dr o st K':=by
 unfold mh at h ⊢;split at h
 .refine⟨h.1,?_⟩;have h:=h.2;split at h
  .exact h.mono λ_ _ _ _ _ h=>hk _ _ _ h
  .split at h
   .exact⟨h.1,fD.mono _ _ _ _ _ _ (λ_ _ _ h=>hk _ _ _ h) h.2⟩
   .split at h
    .exact⟨h.1,hk _ _ _ h.2⟩
    .exact h
 .split at h
  .exact h
  .split at h
   .rcases h with⟨r,h1,h2⟩|⟨h1,h2⟩
    .exact .inl ⟨r,h1,hk _ _ _ h2⟩
    .exact .inr ⟨λhc=>⟨(h1 hc).1,(h1 hc).2.mono λ_ _ _ _ _ h=>hk _ _ _ h⟩,λhc=>hk _ _ _ (h2 hc)⟩
   .split at h
    .exact⟨λhc=>⟨(h.1 hc).1,(h.1 hc).2.1,fD.mono _ _ _ _ _ _ (λ_ _ _ h=>hk _ _ _ h) (h.1 hc).2.2⟩,λhc=>hk _ _ _ (h.2 hc)⟩
    split at h
    .split at h
     .rename_i hc;rw[bi hc];exact⟨h.1,hk _ _ _ h.2⟩
     .rename_i hc;rw[ai hc];exact⟨λhc=>⟨(h.1 hc).1,(h.1 hc).2.1,hk _ _ _ (h.1 hc).2.2⟩,λhc=>hk _ _ _ (h.2 hc)⟩
    .exact⟨h.1,hk _ _ _ h.2⟩
def aJ.mono[fD Y]{cf:List (Nat×Nat)}{Q C:Exit->St->Prop}(hq:∀ st,Q .normal st->C .normal st):∀ (l:List Oper) (st:St) (tr:o0),aJ P Y ops dr cf Q l st tr->aJ P Y ops dr cf C l st tr
 |[],st,tr,h=>⟨h.1,hq _ h.2⟩
 |o::l,st,tr,h=>h.elim (λh=>.inl (mh.mono (λst' rd wr h=>aJ.mono hq l st' _ h) h)) λ⟨h1,h2,e,J,O⟩=>.inr ⟨h1,h2,e,J,aJ.mono hq l _ _ O⟩
def xJ:∀ (c:Code) {Y:iz} [fD Y] {rf:Bool} {Q C:Exit->St->Prop} {st:St},(∀ e st,Q e st->C e st)->AW P Y rf c Q st->AW P Y rf c C st:=by
 intro c
 induction c with
 |skip=>intro Y _ rf;exact λhq h=>hq _ _ h
 |ret=>intro Y _ rf;exact λhq h=>hq _ _ h
 |exit id=>intro Y _ rf;exact λhq h=>hq _ _ h
 |region id ops draw=>
  intro Y _ rf Q C st hq h;cases draw with
  |false=>exact aJ.mono (hq .normal) _ _ _ h
  |true=>
   simp[AW] at h ⊢;split at h
   .exact h.elim (λh=>.inl (aJ.mono (hq .normal) _ _ _ h)) λh=>.inr ⟨h.1,aJ.mono (λst hs=>⟨hs.1,aJ.mono (hq .normal) _ _ _ hs.2⟩) _ _ _ h.2⟩
   .exact h
 |seq a b J O=>
  intro Y _ rf Q C st hq h;refine J (λe st' h=>?_) h;cases e with
  |normal=>let⟨U,hg,hb⟩:=h;exact⟨U,hg,O hq hb⟩
  |_=>exact hq _ _ h
 |cond c a b J O=>
  intro Y _ rf Q C st hq h;refine⟨h.1,?_⟩;have h:=h.2;split at h
  .exact⟨λht=>J hq (h.1 ht),λht=>O hq (h.2 ht)⟩
  .exact⟨J hq h.1,O hq h.2⟩
  .exact h
 |block id b ih=>
  intro Y _ rf Q C st hq h;refine ih (λe st' h=>?_) h;cases e with
  |exit i=>
   simp[jH] at h ⊢;split at h
   .rename_i hi;rw[bi hi];exact hq _ _ h
   .rename_i hi;rw[ai hi];exact hq _ _ h
  |_=>exact hq _ _ h
 |scope b ih=>
  intro Y _ rf Q C st hq h;refine ih (λe st' h=>?_) h;cases e with
  |goto l=>exact h
  |_=>exact hq _ _ h
 |loop b ih=>
  intro Y _ rf Q C st hq h;let⟨I,μ,h0,h1⟩:=h;refine⟨I,μ,h0,λst' hi=>ih (λe U h=>?_) (h1 st' hi)⟩;cases e with
  |normal=>exact h
  |_=>exact hq _ _ h
 |label l=>intro Y _ rf;exact λhq h=>hq _ _ h
 |rangeFunc g ps assign body J O=>
  intro Y _ rf Q C st hq h;let⟨QM,Ln,f,fs,cs,xs,I,KS,Lo,KT,L6,X,KU⟩:=h;refine⟨QM,Ln,f,fs,cs,xs,I,KS,Lo,KT,L6,λk m nx x hx hI=>J (λe s h=>?_) (X k m nx x hx hI),λm nx h=>hq _ _ (KU m nx h)⟩;cases e with
  |normal=>
   refine O (λe s h=>?_) h;cases e with
   |normal=>exact h
   |ret=>exact hq _ _ h
   |exit id=>exact hq _ _ h
   |_=>exact h
  |_=>exact h
 |_=>intro Y _ rf;exact λ_ h=>h.elim
def least{p:Nat->Prop}:∀ j,p j->∃ i,p i/\∀ k,p k->i<=k:=by
 intro j
 induction j using Nat.strongRecOn with
 |_ j ih=>
  intro hj;by_cases h:∃ k,k<j/\p k
  .let⟨k,hk,hp⟩:=h;exact ih k hk hp
  .exact⟨j,hj,λk hk=>Nat.le_of_not_lt λal=>h ⟨k,al,hk⟩⟩
open Classical in
def af3[fD Y](J:Nat->St->Prop){j₀:Nat}(h0:J j₀ st)(h:∀ j st',J j st'->AW P Y rf b (iM (λlC=>∃ U,aL P lC U/\∃ O,O<j/\J O U) Q) st'):AW P Y rf (.loop b) Q st:=by
 have C:∀ st,(∃ j,J j st)->∃ i,J i st/\∀ k,J k st->i<=k:=λst ⟨j,hj⟩=>least j hj
 let μ:St->Nat:=λst=>if h:∃ j,J j st then Classical.choose (C st h) else 0
 have hμ:∀ st,(hj:∃ j,J j st)->J (μ st) st/\∀ k,J k st->μ st<=k:=λst hj=>by
  have:μ st=Classical.choose (C st hj):=by simp[μ];rw[dif_pos hj]
  rw[this];exact Classical.choose_spec (C st hj)
 refine Wn (λst=>∃ j,J j st) μ ⟨j₀,h0⟩ λst' hj=>xJ b (λe lC hq=>?_) (h (μ st') st' (hμ st' hj).1);cases e with
 |normal=>
  let⟨U,hg,O,al,X⟩:=hq;exact⟨U,hg,⟨O,X⟩,Nat.lt_of_le_of_lt ((hμ U ⟨O,X⟩).2 O X) al⟩
 |_=>exact hq
end
section
variable{P:Program}{F:Nat->Prop}{β:aN}{w:World}
def Tr.dq{c:Bool}{d:D}(h:Tr d):Tr (.dq c d):=λF β w v hv=>by
 cases hv with
 |dq _ _ _ h1 h2=>exact .dq c d v (λhc=>h F β w v (h1 hc)) h2
def Tr.agg{cs:List D}(h:∀ d∈cs,Tr d):Tr (.agg cs):=λF β w v hv=>by
 obtain⟨vs,rfl,hl,hh⟩:=hv.ua;exact .agg cs vs hl λk d u hd hu=>h d (cL hd) F β w u (hh k d u hd hu)
def Tr.bu{cs:List D}(h:∀ d∈cs,Tr d):Tr (.bu cs):=λF β w v hv=>by
 obtain⟨vs,rfl,hl,hh⟩:=hv.DJ;exact .bu cs vs hl λk d u hd hu=>h d (cL hd) F β w u (hh k d u hd hu)
def Tr.sl{cs:List D}{n:Nat}(h:∀ d∈cs,Tr d):Tr (.sl cs n):=λF β w v hv=>by
 cases hv with
 |kf a cap=>exact .kf a cap
 |sl _ _ b o cap us hf hb al qg eu hc hh=>
  exact .sl cs n b o cap us (λe=>e.elim hf λe=>e hb) (λi p hp=>by cases hp) al qg eu hc λk d hd=>h d (cL hd) F β w _ (hh k d hd)
def Tr.pt{cs:List D}(h:∀ d∈cs,Tr d):Tr (.pt cs):=λF β w v hv=>by
 cases hv with
 |pt _ b o us hf hb al hc hh=>
  exact .pt cs b o us (λe=>e.elim hf λe=>e hb) (λi p hp=>by cases hp) al hc λk d hd=>h d (cL hd) F β w _ (hh k d hd)
def Tr.fn{f:Fn}{fs cs:List D}(h:∀ d∈fs,Tr d)(h':∀ d∈cs,Tr d):Tr (.fn f fs cs):=λF β w v hv=>by
 cases hv with
 |fn _ _ _ us vs hl mb h1 h2=>
  exact .fn f fs cs us vs hl mb (λk d u hd hu=>h d (cL hd) F β w u (h1 k d u hd hu)) λk d u hd hu=>h' d (cL hd) F β w u (h2 k d u hd hu)
def Tr.im{es:List (Value×D)}(h:∀ x∈es,Tr x.2):Tr (.im es):=λF β w v hv=>by
 cases hv with
 |im _ r ms clock hf hb hc hl eY hk hh=>
  exact .im es r ms clock (λe=>e.elim hf λe=>e hb) (λi p hp=>by cases hp) hc hl eY hk λk x m hx hm=>h x (cL hx) F β w _ (hh k x m hx hm)
def Tr.s(x:Value):Tr (.s x):=λF β w v hv=>by
 obtain⟨rfl,h⟩:=hv.cX;exact .s _ h
def Tr.ub:Tr .ub:=λF β w v hv=>by
 obtain⟨b,rfl⟩:=hv.GP;exact .ub b
def Tr.u:Tr .u:=λF β w v _=>.u v
def Tr.z:Tr .z:=λF β w v hv=>by
 rw[hv.Ah];exact .z
def Tr.nil:∀ a∈([]:List D),Tr a:=λ_ h=>by cases h
def Tr.cons{d:D}{l:List D}(h:Tr d)(hl:∀ a∈l,Tr a):∀ a∈d::l,Tr a:=λa ha=>by
 cases ha with
 |head=>exact h
 |tail _ ha=>exact hl a ha
def Tr.map{α:Type}{f:α->D}{l:List α}(h:∀ x,Tr (f x)):∀ a∈l.map f,Tr a:=λa ha=>by
 obtain⟨x,_,rfl⟩:=mem_map.1 ha;exact h x
def Tr.flat{α:Type}{f:α->List D}{l:List α}(h:∀ x,∀ a∈f x,Tr a):∀ a∈l.flatMap f,Tr a:=λa ha=>by
 let⟨x,_,hx⟩:=mem_flatMap.1 ha;exact h x a hx
end
end
section
def ay:List (Nat×D)->Env
 |[],_=>.u
 |(t,d)::l,j=>if j=t then d else ay l j
def p8:List (Nat×D)->Env->Prop
 |[],_=>True
 |(t,d)::l,env=>env t=d/\p8 l env
def td:∀ {l:List (Nat×D)} {env:Env},p8 l env->∀ t,ay l t=env t\/ay l t=.u
 |[],_,_,_=>.inr rfl
 |(k,d)::l,env,h,t=>by
  simp[ay];by_cases ht:t=k
  .subst ht;rw[bi rfl];exact .inl h.1.symm
  .rw[ai ht];exact td h.2 t
def kP(env:Env):List Operand->Prop
 |[]=>True
 |x::xs=>(opd env x).ask/\kP env xs
def VH{env:Env}:∀ {l:List Operand},kP env l->∀ x∈l,(opd env x).ask
 |[],_,x,h=>by cases h
 |y::l,h,x,hx=>by
  cases hx with
  |head=>exact h.1
  |tail _ hx=>exact VH h.2 x hx
def s8{env:Env}{o:Op}(h:kP env o.operands.toList):asks env o:=by
 have:=VH h;unfold asks;cases o<;>first|exact this|exact this _ ct
variable{d:Option Nat}{e:ez}{g:Bool}{i:Nat}{row:Row}{j u:Nat}{f:FuncId}{args:List D}{r:D}{l:Nat}{K:St->Prop}{id:Nat}{x y:Code}
section
variable{P:Program}{Y:iz}{rf:Bool}
structure Ef(P:Program)(op:Op)(env:Env)(m:Mem)(nx:Nat)(e:ez):Prop where
 ok:bh P op (bS env op) m nx=some e
 nc:eB (bS env op) op=none
 ny:qV (bS env op) op=none
variable{ops:Array Oper}{dr:Bool}{cf:List (Nat×Nat)}{Q:Exit->St->Prop}{rest:List Oper}{env:Env}{m:Mem}{nx:Nat}{tr:o0}{t:Nat}{op:Op}{ty:TypeId}{pos:String}{after:Array Edge}
 {pre:Prop} {v:D} {rd:List Nat}
def BF(he:Ef P op env m nx e)(ha:asks env op)(hp:e.pre)(K:aJ P Y ops dr cf Q rest (St.put ⟨env,cT m e.bn,nx+e.new⟩ d e.val) (tr++[(e.rd,e.bn.map (·.1))])):
 aJ P Y ops dr cf Q (⟨d,op,ty,pos,after,none⟩::rest) ⟨env,m,nx⟩ tr:=by
 simp[aJ];refine .inl ?_;simp[mh];rw[he.nc,he.ny,he.ok];exact⟨ha,hp,K⟩
def ax(he:Ef P op env m nx ⟨pre,v,[],rd,0⟩)(ha:kP env op.operands.toList)(hp:pre)(K:aJ P Y ops dr cf Q rest ⟨up env t v,m,nx⟩ (tr++[(rd,[])])):
 aJ P Y ops dr cf Q (⟨some t,op,ty,pos,after,none⟩::rest) ⟨env,m,nx⟩ tr:=BF he (s8 ha) hp K
def DP{c a b:Operand}{g:Bool}(hc:(opd env c).core=.s (.bool g)):Ef P (.pick c a b) env m nx ⟨(g=true->(opd env a).ask/\(opd env a).core.gL.isSome=true)/\(g=false->(opd env b).ask/\(opd env b).core.gL.isSome=true),
 .s (.bool (if g then(opd env a).core.gL.getD false else(opd env b).core.gL.getD false)),[],[],0⟩:=⟨by simp[bh,bS,hc,D.gL],rfl,rfl⟩
def ah'{c a b:Operand}{x y:Bool}(hc:opd env c=.s (.bool g))(ha:(opd env a).core=.s (.bool x))(hb:(opd env b).core=.s (.bool y))(h1:g=true->(opd env a).ask)(h2:g=false->(opd env b).ask)
 (K:aJ P Y ops dr cf Q rest ⟨up env t (.s (.bool (if g then x else y))),m,nx⟩ (tr++[([],[])])):
 aJ P Y ops dr cf Q (⟨some t,.pick c a b,ty,pos,after,none⟩::rest) ⟨env,m,nx⟩ tr:=by
 apply BF (DP (g:=g) (by rw[hc];rfl)) (by simp[asks,hc,D.ask]) ⟨λh=>⟨h1 h,by rw[ha];rfl⟩,λh=>⟨h2 h,by rw[hb];rfl⟩⟩;simp[ha,hb,D.gL,Option.getD_some];exact K
def agz{c a b:Operand}{x:Bool}(hc:opd env c=.s (.bool true))(ha:(opd env a).core=.s (.bool x))(h1:(opd env a).ask)
 (K:aJ P Y ops dr cf Q rest ⟨up env t (.s (.bool x)),m,nx⟩ (tr++[([],[])])):
 aJ P Y ops dr cf Q (⟨some t,.pick c a b,ty,pos,after,none⟩::rest) ⟨env,m,nx⟩ tr:=by
 apply BF (DP (g:=true) (by rw[hc];rfl)) (by simp[asks,hc,D.ask]) ⟨λ_=>⟨h1,by rw[ha];rfl⟩,λh=>by cases h⟩;simp[ha,D.gL,Option.getD_some,if_true];exact K
def agA{c a b:Operand}{y:Bool}(hc:opd env c=.s (.bool false))(hb:(opd env b).core=.s (.bool y))(h2:(opd env b).ask)
 (K:aJ P Y ops dr cf Q rest ⟨up env t (.s (.bool y)),m,nx⟩ (tr++[([],[])])):
 aJ P Y ops dr cf Q (⟨some t,.pick c a b,ty,pos,after,none⟩::rest) ⟨env,m,nx⟩ tr:=by
 apply BF (DP (g:=false) (by rw[hc];rfl)) (by simp[asks,hc,D.ask]) ⟨λh=>oH,λ_=>⟨h2,by rw[hb];rfl⟩⟩;simp[hb,D.gL,Option.getD_some,Bool.false_eq_true,if_false];exact K
def bT{row:Option Row}(he:Ef P op env m nx ⟨pre,v,[(i,row)],rd,0⟩)(ha:kP env op.operands.toList)(hp:pre)(K:aJ P Y ops dr cf Q rest ⟨env,up m i row,nx⟩ (tr++[(rd,[i])])):
 aJ P Y ops dr cf Q (⟨none,op,ty,pos,after,none⟩::rest) ⟨env,m,nx⟩ tr:=BF he (s8 ha) hp K
def cY(he:Ef P op env m nx ⟨pre,v,[(nx,some row)],rd,1⟩)(ha:kP env op.operands.toList)(hp:pre)(K:aJ P Y ops dr cf Q rest ⟨up env t v,up m nx (some row),nx+1⟩ (tr++[(rd,[nx])])):
 aJ P Y ops dr cf Q (⟨some t,op,ty,pos,after,none⟩::rest) ⟨env,m,nx⟩ tr:=BF he (s8 ha) hp K
def gf(he:Ef P op env m nx ⟨pre,v,[(i,none),(nx,some row)],rd,1⟩)(ha:kP env op.operands.toList)(hp:pre)(K:aJ P Y ops dr cf Q rest ⟨up env t v,up (up m i none) nx (some row),nx+1⟩ (tr++[(rd,[i,nx])])):
 aJ P Y ops dr cf Q (⟨some t,op,ty,pos,after,none⟩::rest) ⟨env,m,nx⟩ tr:=BF he (s8 ha) hp K
def cq{b c:Bool}(hj:(ops[j]?).bind (·.dst)=some u)(hg:mA (env u) b=some c)(he:Ef P op env m nx ⟨pre,v,[],rd,0⟩)(ha:c=true->kP env op.operands.toList/\pre)
 (K:aJ P Y ops dr cf Q rest ⟨up env t (.dq c v),m,nx⟩ (tr++[(rd,[])])):aJ P Y ops dr cf Q (⟨some t,op,ty,pos,after,some (j,b)⟩::rest) ⟨env,m,nx⟩ tr:=by
 simp[aJ];refine .inl ?_;simp[mh];rw[hj];simp[Option.bind_some];rw[hg,he.nc,he.ny,he.ok];exact⟨λhc=>⟨s8 (ha hc).1,(ha hc).2⟩,K⟩
def agB{b0 C:Bool}(hj:(ops[j]?).bind (·.dst)=some u)(hg:mA (env u) b0=some C){c a b:Operand}{x y:Bool}(hc:(opd env c).core=.s (.bool g))(ha:(opd env a).core=.s (.bool x))(hb:(opd env b).core=.s (.bool y))
 (h0:C=true->(opd env c).ask) (h1:C=true->g=true->(opd env a).ask) (h2:C=true->g=false->(opd env b).ask)
 (K:aJ P Y ops dr cf Q rest ⟨up env t (.dq C (.s (.bool (if g then x else y)))),m,nx⟩ (tr++[([],[])])):
 aJ P Y ops dr cf Q (⟨some t,.pick c a b,ty,pos,after,some (j,b0)⟩::rest) ⟨env,m,nx⟩ tr:=by
 have he:=DP (P:=P) (env:=env) (m:=m) (nx:=nx) (a:=a) (b:=b) hc;simp[ha,hb,D.gL,Option.getD_some,Option.isSome_some,and_true] at he;simp[aJ];refine .inl ?_;simp[mh];rw[hj];simp[Option.bind_some];rw[hg,he.nc,he.ny,he.ok];exact⟨λhc=>⟨by simp[asks];exact h0 hc,h1 hc,h2 hc⟩,K⟩
def akj{b:Bool}(hj:(ops[j]?).bind (·.dst)=some u)(hg:mA (env u) b=some true)(he:Ef P op env m nx e)(ha:kP env op.operands.toList)(hp:e.pre)
 (K:e.bn=[]->e.new=0->aJ P Y ops dr cf Q rest (St.put ⟨env,m,nx⟩ d (.dq true e.val)) (tr++[(e.rd,[])]))
 (K':aJ P Y ops dr cf Q rest (St.put ⟨env,cT m e.bn,nx+e.new⟩ d e.val) (tr++[(e.rd,e.bn.map (·.1))])):aJ P Y ops dr cf Q (⟨d,op,ty,pos,after,some (j,b)⟩::rest) ⟨env,m,nx⟩ tr:=by
 simp only[aJ];refine .inl ?_;simp only[mh];rw[hj];simp only[Option.bind_some];rw[hg,he.nc,he.ny,he.ok];simp only;split
 .rename_i h;simp only[aH,isEmpty_iff,beq_iff_eq] at h;exact⟨λ_=>⟨s8 ha,hp⟩,K h.1 h.2⟩
 .exact⟨λ_=>⟨s8 ha,hp,K'⟩,oS⟩
def Y7{b:Bool}(hj:(ops[j]?).bind (·.dst)=some u)(hg:mA (env u) b=some false)
 (K:∀ (x:D) rd,aJ P Y ops dr cf Q rest (St.put ⟨env,m,nx⟩ d (.dq false x)) (tr++[(rd,[])])):aJ P Y ops dr cf Q (⟨d,op,ty,pos,after,some (j,b)⟩::rest) ⟨env,m,nx⟩ tr:=by
 simp[aJ];refine .inl ?_;simp[mh];rw[hj];simp[Option.bind_some];rw[hg];simp only;split
 .exact .inr ⟨oS,λ_=>K .u []⟩
 .split
  .exact⟨oS,λ_=>K .u []⟩
  .split
   .split
    .exact⟨oS,K _ _⟩
    .exact⟨oS,λ_=>K .u []⟩
   .exact⟨aa,K .u []⟩
def as8{b:Bool}(hj:(ops[j]?).bind (·.dst)=some u)(hg:mA (env u) b=some false)
 (K:∀ (x:D) rd,aJ P Y ops dr cf Q rest ⟨up env t (.dq false x),m,nx⟩ (tr++[(rd,[])])):aJ P Y ops dr cf Q (⟨some t,op,ty,pos,after,some (j,b)⟩::rest) ⟨env,m,nx⟩ tr:=Y7 hj hg K
def OS(hc:eB (bS env op) op=some (f,args))(ha:kP env op.operands.toList)(h:zK P dr ⟨env,m,nx⟩ f args λr m nx rd wr=>aJ P Y ops dr cf Q rest (St.put ⟨env,m,nx⟩ d r) (tr++[(rd,wr)])):
 aJ P Y ops dr cf Q (⟨d,op,ty,pos,after,none⟩::rest) ⟨env,m,nx⟩ tr:=by
 simp[aJ];refine .inl ?_;simp[mh];rw[hc];exact⟨s8 ha,h⟩
def z1(h:aE P f args r)(hc:eB (bS env op) op=some (f,args))(ha:kP env op.operands.toList)(K:aJ P Y ops dr cf Q rest ⟨up env t r,m,nx⟩ (tr++[([],[])])):
 aJ P Y ops dr cf Q (⟨some t,op,ty,pos,after,none⟩::rest) ⟨env,m,nx⟩ tr:=OS hc ha (.inl ⟨r,h,K⟩)
def z6{es:List D}{n:Nat}{C:TypeId}(h:mV P f args es n C)(hc:eB (bS env op) op=some (f,args))(ha:kP env op.operands.toList)(K:aJ P Y ops dr cf Q rest ⟨up env t (.rs nx 0 n),up m nx (some (.cells es C)),nx+1⟩ (tr++[([],[nx])])):
 aJ P Y ops dr cf Q (⟨some t,op,ty,pos,after,none⟩::rest) ⟨env,m,nx⟩ tr:=OS hc ha (.inr (.inr (.inl ⟨es,n,C,h,K⟩)))
def wj{d:Option Nat}{dV:D->Mem->Nat->Prop}(h:iZ P f args m nx dV)(hc:eB (bS env op) op=some (f,args))(ha:kP env op.operands.toList)
 (K:∀ r m' aw,dV r m' aw->aJ P Y ops false cf Q rest (St.put ⟨env,m',aw⟩ d r) (tr++[([],[])])):
 aJ P Y ops false cf Q (⟨d,op,ty,pos,after,none⟩::rest) ⟨env,m,nx⟩ tr:=OS hc ha (.inr (.inr (.inr (.inl ⟨rfl,h.mono K⟩))))
def BG{b c:Bool}(hj:(ops[j]?).bind (·.dst)=some u)(hg:mA (env u) b=some c)(hc:eB (bS env op) op=some (f,args))(h:c=true->kP env op.operands.toList/\aE P f args r)
 (K:aJ P Y ops dr cf Q rest ⟨up env t (.dq c r),m,nx⟩ (tr++[([],[])])):aJ P Y ops dr cf Q (⟨some t,op,ty,pos,after,some (j,b)⟩::rest) ⟨env,m,nx⟩ tr:=by
 simp[aJ];refine .inl ?_;simp[mh];rw[hj];simp[Option.bind_some];rw[hg,hc];exact .inl ⟨r,λC=>⟨s8 (h C).1,(h C).2⟩,K⟩
def agx{b:Bool}(hj:(ops[j]?).bind (·.dst)=some u)(hg:mA (env u) b=some true)(hc:eB (bS env op) op=some (f,args))(ha:kP env op.operands.toList)
 (h:zK P dr ⟨env,m,nx⟩ f args λr m nx rd wr=>aJ P Y ops dr cf Q rest (St.put ⟨env,m,nx⟩ d r) (tr++[(rd,wr)])):aJ P Y ops dr cf Q (⟨d,op,ty,pos,after,some (j,b)⟩::rest) ⟨env,m,nx⟩ tr:=by
 simp[aJ];refine .inl ?_;simp[mh];rw[hj];simp[Option.bind_some];rw[hg,hc];exact .inr ⟨λ_=>⟨s8 ha,h⟩,oS⟩
def aad(hc:eB (bS env op) op=none)(hy:qV (bS env op) op=some (l,args))(ha:kP env op.operands.toList)(h:Y l args m nx λr m' aw=>aJ P Y ops false cf Q rest (St.put ⟨env,m',aw⟩ d r) (tr++[([],[])])):
 aJ P Y ops false cf Q (⟨d,op,ty,pos,after,none⟩::rest) ⟨env,m,nx⟩ tr:=by
 simp only[aJ];refine .inl ?_;simp only[mh];rw[hc,hy];exact⟨s8 ha,aa,h⟩
def Qo{b:Bool}(hj:(ops[j]?).bind (·.dst)=some u)(hg:mA (env u) b=some true)(hc:eB (bS env op) op=none)(hy:qV (bS env op) op=some (l,args))(ha:kP env op.operands.toList)
 (h:Y l args m nx λr m' aw=>aJ P Y ops false cf Q rest (St.put ⟨env,m',aw⟩ d r) (tr++[([],[])])):aJ P Y ops false cf Q (⟨d,op,ty,pos,after,some (j,b)⟩::rest) ⟨env,m,nx⟩ tr:=by
 simp only[aJ];refine .inl ?_;simp only[mh];rw[hj];simp only[Option.bind_some];rw[hg,hc,hy];exact⟨λ_=>⟨s8 ha,aa,h⟩,oS⟩
def iN(K:St->Prop):Exit->St->Prop
 | .normal,st=>K st
 |_,_=>True
def ab{st:St}(h:K st):aJ P Y ops dr [] (iN K) [] st tr:=⟨oS,h⟩
def bU{st:St}(hc:∀ q∈cf,mT tr q.1 q.2)(h:K st):aJ P Y ops dr cf (iN K) [] st tr:=⟨hc,h⟩
variable{st:St}{a b c:Code}
def aJ.nT[fD Y]{l:List Oper}(h:aJ P Y ops dr cf (iN K) l st tr)(hk:∀ st,K st->Q .normal st):aJ P Y ops dr cf Q l st tr:=
 aJ.mono (Q:=iN K) (λst h=>hk st h) l st tr h
def tW[fD Y]{id:Nat}(h:aJ P Y ops false [] (iN λst=>Q .normal st) ops.toList st []):AW P Y rf (.region id ops false) Q st:=aJ.nT h λ_ h=>h
def D6[fD Y]{id:Nat}(hi:bV ops=some cf)(h:aJ P Y ops true cf (iN λst=>Q .normal st) ops.toList st []):AW P Y rf (.region id ops true) Q st:=by
 show match bV ops with
  |some cf=>O' P Y ops cf Q st
  |none=>False
 rw[hi];exact .inl (aJ.nT h λ_ h=>h)
def aj[fD Y](h:aJ P Y ops false [] (iN λst=>AW P Y rf b Q st) ops.toList st []):AW P Y rf (.seq (.region id ops false) b) Q st:=
 tW (rf:=rf) (id:=id) (aJ.nT h λst h=>⟨st,.refl st,h⟩)
def eJ[fD Y](hi:bV ops=some cf)(h:aJ P Y ops true cf (iN λst=>AW P Y rf b Q st) ops.toList st []):AW P Y rf (.seq (.region id ops true) b) Q st:=
 D6 (rf:=rf) (id:=id) hi (aJ.nT h λst h=>⟨st,.refl st,h⟩)
def bF{st':St}(hg:aL P st st')(h:AW P Y rf b Q st'):∃ C,aL P st C/\AW P Y rf b Q C:=⟨st',hg,h⟩
def aF[fD Y](h:aJ P Y ops false [] (iN λst=>∃ st',aL P st st'/\AW P Y rf b Q st') ops.toList st []):AW P Y rf (.seq (.region id ops false) b) Q st:=
 tW (rf:=rf) (id:=id) (aJ.nT h λ_ h=>h)
def xx[fD Y](hi:bV ops=some cf)(h:aJ P Y ops true cf (iN λst=>∃ st',aL P st st'/\AW P Y rf b Q st') ops.toList st []):AW P Y rf (.seq (.region id ops true) b) Q st:=
 D6 (rf:=rf) (id:=id) hi (aJ.nT h λ_ h=>h)
def YE[fD Y](J:St->Prop)(h:AW P Y rf a (iM J Q) st)(k:∀ st,J st->AW P Y rf b Q st):AW P Y rf (.seq a b) Q st:=
 xJ a (λe st h=>by
  cases e with
  |normal=>exact⟨st,.refl st,k st h⟩
  |_=>exact h) h
def cI[fD Y](J:St->Prop)(h:AW P Y rf a (iM J Q) st)(k:∀ st,J st->∃ st',aL P st st'/\AW P Y rf b Q st'):AW P Y rf (.seq a b) Q st:=
 xJ a (λe st h=>by
  cases e with
  |normal=>exact k st h
  |_=>exact h) h
def dn[fD Y](h:AW P Y rf b Q st):AW P Y rf (.seq .skip b) Q st:=⟨st,.refl st,h⟩
def dX(h:Q .ret st):AW P Y rf (.seq .ret b) Q st:=h
def tU(h:Q (.exit id) st):AW P Y rf (.seq (.exit id) b) Q st:=h
def ac'(h:AW P Y rf b Q st):AW P Y rf (.seq (.label l) b) Q st:=⟨st,.refl st,h⟩
def aM[fD Y](h:AW P Y rf (.seq a (.seq b c)) Q st):AW P Y rf (.seq (.seq a b) c) Q st:=by
 refine xJ a (λe st h=>?_) h;cases e with
 |normal=>
  let⟨st',hg,h⟩:=h;refine⟨st',hg,xJ b (λe st h=>?_) h⟩;cases e<;>exact h
 |_=>exact h
def au{c:Operand}{g:Bool}(hc:opd st.env c=.s (.bool g))(ht:g=true->AW P Y rf x Q st)(hf:g=false->AW P Y rf y Q st):AW P Y rf (.cond c x y) Q st:=by
 rw[Wm];rw[hc];exact⟨aa,ht,hf⟩
def cG{c:Operand}(hc:opd st.env c=.s (.bool g))(ht:g=true->AW P Y rf (.seq x b) Q st)(hf:g=false->AW P Y rf (.seq y b) Q st):AW P Y rf (.seq (.cond c x y) b) Q st:=au hc ht hf
def GF{c:Operand}(hc:opd st.env c=.ub)(ht:AW P Y rf x Q st)(hf:AW P Y rf y Q st):AW P Y rf (.cond c x y) Q st:=by
 rw[Wm];rw[hc];exact⟨aa,ht,hf⟩
def qQ(h:AW P Y rf b (jH id Q) st):AW P Y rf (.block id b) Q st:=h
def ahN[fD Y]{α:Type}(S:α->St)(J:α->Prop)(μ:α->Nat)(U:α)(h0:st=S U)(hJ:J U)(h:∀ x,J x->AW P Y rf b (iM (λst'=>∃ O C,aL P st' O/\O=S C/\J C/\μ C<μ x) Q) (S x)):AW P Y rf (.loop b) Q st:=by
 apply af3 (λj st=>∃ x,st=S x/\J x/\μ x=j) (j₀:=μ U) ⟨U,h0,hJ,rfl⟩;rintro j st ⟨x,rfl,hx,rfl⟩;refine xJ b (λe st' hq=>?_) (h x hx);cases e with
 |normal=>
  let⟨O,C,h1,h2,X,h4⟩:=hq;exact⟨O,h1,μ C,h4,C,h2,X,rfl⟩
 |_=>exact hq
end
def as'{P:Program}{Y:iz}{rf:Bool}{Q:Exit->St->Prop}{st:St}{c:Operand}(K:AW P Y rf y Q st)(h:opd st.env c=.s (.bool false):=by exact rfl):AW P Y rf (.cond c x y) Q st:=au h (λh=>by cases h) λ_=>K
def ata{P:Program}{Y:iz}{rf:Bool}{Q:Exit->St->Prop}{st:St}{c:Operand}(K:AW P Y rf x Q st)(h:opd st.env c=.s (.bool true):=by exact rfl):AW P Y rf (.cond c x y) Q st:=au h (λ_=>K) λh=>by cases h
def BT{P:Program}{Y:iz}{rf:Bool}{Q:Exit->St->Prop}{st:St}{c:Operand}{b:Code}(K:AW P Y rf (.seq y b) Q st)(h:opd st.env c=.s (.bool false):=by exact rfl):AW P Y rf (.seq (.cond c x y) b) Q st:=au h (λh=>by cases h) λ_=>K
def BU{P:Program}{Y:iz}{rf:Bool}{Q:Exit->St->Prop}{st:St}{c:Operand}{b:Code}(K:AW P Y rf (.seq x b) Q st)(h:opd st.env c=.s (.bool true):=by exact rfl):AW P Y rf (.seq (.cond c x y) b) Q st:=au h (λ_=>K) λh=>by cases h
end
section
variable{op:BinOp}{k':IntKind}{cs:List D}{i off j:Nat}{r:Row}{sz:Nat}{b:ByteArray}{news:List D}{rd:List Nat}{ps:Array (Nat×Operand)}{fs:Array Field}{C:List (Nat×D)}{src:TypeId}{es:List (Value×D)}{key:Value}{kt:TypeId}
section
variable{P:Program}{env:Env}{m:Mem}{nx:Nat}{t:TypeId}{x y a:Operand}{d v:D}{k:IntKind}{n n':Int}{p q:TypeId}
def jI(hx:(opd env x).core=v):Ef P (.move x) env m nx ⟨True,v,[],[],0⟩:=⟨by simp[bh,bS,hx],rfl,rfl⟩
def fQ(hx:(opd env x).core=v):Ef P (.assign x) env m nx ⟨True,v,[],[],0⟩:=⟨by simp[bh,bS,hx],rfl,rfl⟩
def Pb(op:BinOp)(v:Value)(y:Operand):nd P m op t (.s v) y=none:=by
 unfold nd;split<;>first|rfl|(rename_i h;cases h)
def aiT{v w:Value}(h:∀ a b,v=.bool a->w=.bool b->False):rD P op t (.s v) (.s w)=(qj op v w).map λr=>(r.1,.s r.2):=by
 cases v<;>cases w<;>first|rfl|exact(h _ _ rfl rfl).elim
def oD{v w u:Value}{pre:Prop}(hx:(opd env x).core=.s v)(hy:(opd env y).core=.s w)(hn:∀ a b,v=.bool a->w=.bool b->False)(hb:qj op v w=some (pre,u)):Ef P (.binOp op t x y p) env m nx ⟨pre,.s u,[],[],0⟩:=
 ⟨by simp[bh,bS,hx,hy,Pb,aiT hn,hb,Option.map_some],rfl,rfl⟩
section ints
variable(hx:(opd env x).core=.s (.int k n))(hy:(opd env y).core=.s (.int k n'))
include hx hy
def PY:Ef P (.binOp .lss t x y p) env m nx ⟨k=k,.s (.bool (decide (n<n'))),[],[],0⟩:=oD hx hy oS rfl
def KW:Ef P (.binOp .leq t x y p) env m nx ⟨k=k,.s (.bool (decide (n<=n'))),[],[],0⟩:=oD hx hy oS rfl
def PZ:Ef P (.binOp .gtr t x y p) env m nx ⟨k=k,.s (.bool (decide (n'<n))),[],[],0⟩:=oD hx hy oS rfl
def P4:Ef P (.binOp .geq t x y p) env m nx ⟨k=k,.s (.bool (decide (n'<=n))),[],[],0⟩:=oD hx hy oS rfl
def P5:Ef P (.binOp .eql t x y p) env m nx ⟨k=k,.s (.bool (n==n')),[],[],0⟩:=oD hx hy oS rfl
def P6:Ef P (.binOp .neq t x y p) env m nx ⟨k=k,.s (.bool (n !=n')),[],[],0⟩:=oD hx hy oS rfl
def aiU:Ef P (.binOp .add t x y p) env m nx ⟨k=k,.s (.int k (k.wrap (n+n'))),[],[],0⟩:=oD hx hy oS rfl
def aiV:Ef P (.binOp .sub t x y p) env m nx ⟨k=k,.s (.int k (k.wrap (n - n'))),[],[],0⟩:=oD hx hy oS rfl
def aiW:Ef P (.binOp .quo t x y p) env m nx ⟨k=k/\n'≠0,.s (.int k (k.wrap (n.tdiv n'))),[],[],0⟩:=oD hx hy oS rfl
def ajQ:Ef P (.binOp .rem t x y p) env m nx ⟨k=k/\n'≠0,.s (.int k (n.tmod n')),[],[],0⟩:=oD hx hy oS rfl
def Yv:Ef P (.binOp .and t x y p) env m nx ⟨k=k,.s (.int k (ns .and k n n')),[],[],0⟩:=oD hx hy oS rfl
def anE:Ef P (.binOp .or t x y p) env m nx ⟨k=k,.s (.int k (ns .or k n n')),[],[],0⟩:=oD hx hy oS rfl
end ints
def ajR(hx:(opd env x).core=.s (.int k n))(hy:(opd env y).core=.s (.int k' n')):Ef P (.binOp .shl t x y p) env m nx ⟨0<=n',.s (.int k (k.wrap (n*2 ^ (min n'.toNat k.bits)))),[],[],0⟩:=oD hx hy oS rfl
def ajS(hx:(opd env x).core=.s (.int k n))(hy:(opd env y).core=.s (.int k' n')):Ef P (.binOp .shr t x y p) env m nx ⟨0<=n',.s (.int k (n.fdiv (2 ^ (min n'.toNat k.bits)))),[],[],0⟩:=oD hx hy oS rfl
def i64_in(n:Int)(h: -9223372036854775808<=n/\n<=9223372036854775807):IntKind.i64.wrap n=n:=Go.IntWalk.i64_in n h
def Yw(hx:(opd env x).core=.s (.int .i64 n))(hy:(opd env y).core=.s (.int .i64 n'))(hb: -9223372036854775808<=n+n'/\n+n'<=9223372036854775807):Ef P (.binOp .add t x y p) env m nx ⟨IntKind.i64=IntKind.i64,.s (.int .i64 (n+n')),[],[],0⟩:=by
 have:=aiU (P:=P) (m:=m) (nx:=nx) (t:=t) (p:=p) hx hy
 rwa[i64_in _ hb] at this
def P7(hx:(opd env x).core=.s (.int .i64 n))(hy:(opd env y).core=.s (.int .i64 n'))(hb: -9223372036854775808<=n - n'/\n - n'<=9223372036854775807):Ef P (.binOp .sub t x y p) env m nx ⟨IntKind.i64=IntKind.i64,.s (.int .i64 (n - n')),[],[],0⟩:=by
 have:=aiV (P:=P) (m:=m) (nx:=nx) (t:=t) (p:=p) hx hy
 rwa[i64_in _ hb] at this
section strings
variable{s s':ByteArray}(hx:(opd env x).core=.s (.string s))(hy:(opd env y).core=.s (.string s'))
include hx hy
def Xl:Ef P (.binOp .eql t x y p) env m nx ⟨True,.s (.bool (s.toList==s'.toList)),[],[],0⟩:=oD hx hy oS rfl
def Pc:Ef P (.binOp .neq t x y p) env m nx ⟨True,.s (.bool !(s.toList==s'.toList)),[],[],0⟩:=oD hx hy oS rfl
def Xm:Ef P (.binOp .geq t x y p) env m nx ⟨True,.s (.bool !(Op.bytesLess s.toList s'.toList)),[],[],0⟩:=oD hx hy oS rfl
end strings
def Xn{b C:Bool}(hx:(opd env x).core=.s (.bool b))(hy:(opd env y).core=.s (.bool C)):Ef P (.binOp .eql t x y p) env m nx ⟨uQ P t=true,.s (.bool (b==C)),[],[],0⟩:=
 ⟨by simp[bh,bS,hx,hy,Pb,rD,Option.map_some],rfl,rfl⟩
def aiX{b C:Bool}(hx:(opd env x).core=.s (.bool b))(hy:(opd env y).core=.s (.bool C)):Ef P (.binOp .neq t x y p) env m nx ⟨uQ P t=true,.s (.bool !(b==C)),[],[],0⟩:=
 ⟨by simp[bh,bS,hx,hy,Pb,rD,Option.map_some],rfl,rfl⟩
def Yx{b:Bool}(hx:(opd env x).core=.s (.bool b)):Ef P (.unOp .not t x) env m nx ⟨True,.s (.bool !b),[],[],0⟩:=⟨by simp[bh,bS,hx,E8,Option.map_some],rfl,rfl⟩
def Wj{z:List D}(hz:bm P t=z):Ef P (.alloc t) env m nx ⟨aT P t=true,.rp nx 0,[(nx,some (.cells z t))],[],1⟩:=⟨by simp[bh,hz],rfl,rfl⟩
def Yy(hx:(opd env x).core=d)(hc:d.cells=cs):Ef P (.box t x) env m nx ⟨cs.all D.one=true,.rp nx 0,[(nx,some (.cells cs t))],[],1⟩:=⟨by simp[bh,bS,hx,hc],rfl,rfl⟩
def Ks(hx:(opd env x).core=d)(hc:d.cells=[d]):Ef P (.box t x) env m nx ⟨[d].all D.one=true,.rp nx 0,[(nx,some (.cells [d] t))],[],1⟩:=Yy hx hc
def uf{cs:List D}(hx:(opd env x).core=.agg cs):Ef P (.box t x) env m nx ⟨cs.all D.one=true,.rp nx 0,[(nx,some (.cells cs t))],[],1⟩:=Yy hx rfl
def xV(hx:(opd env x).core=.pt (v::cs))(ha:bM P t=false):Ef P (.load t x) env m nx ⟨aT P t=true/\P.cellsOf t<=(v::cs).length,v,[],[],0⟩:=⟨by simp[bh,bS,hx,lz,ha],rfl,rfl⟩
def nC{vs:List D}{n:Nat}(hx:(opd env x).core=.pt cs)(ha:bM P t=true)(hc:P.cellsOf t=n)(hv:cs.take n=vs):Ef P (.load t x) env m nx ⟨aT P t=true/\P.cellsOf t<=cs.length,.agg vs,[],[],0⟩:=⟨by simp[bh,bS,hx,lz,ha,hc,hv],rfl,rfl⟩
def fe{cs':List D}{e:TypeId}(hx:(opd env x).core=.rp i off)(hm:m i=some (.cells cs e))(hd:cs.drop off=v::cs')(ha:bM P t=false):Ef P (.load t x) env m nx ⟨aT P t=true/\off+P.cellsOf t<=cs.length,v,[],[i],0⟩:=⟨by simp[bh,bS,hx,hm,lz,ha,hd],rfl,rfl⟩
def dL{i:Nat}{cs vs:List D}{e:TypeId}{n:Nat}(hx:(opd env x).core=.rp i off)(hm:m i=some (.cells cs e))(ha:bM P t=true)(hc:P.cellsOf t=n)(hv:(cs.drop off).take n=vs):Ef P (.load t x) env m nx ⟨aT P t=true/\off+P.cellsOf t<=cs.length,.agg vs,[],[i],0⟩:=⟨by simp[bh,bS,hx,hm,lz,ha,hc,hv],rfl,rfl⟩
def Wl{cs' vs:List D}{e:TypeId}(hx:(opd env x).core=.rp i off)(hy:(opd env y).core=d)(hm:m i=some (.cells cs e))(hv:d.cells=vs)(hs:fJ cs off vs=cs'):
 Ef P (.store t x y) env m nx ⟨aT P t=true/\vs.length=P.cellsOf t/\off+P.cellsOf t<=cs.length/\vs.all D.one=true,.bu [],[(i,some (.cells cs' e))],[i],0⟩:=⟨by simp[bh,bS,hx,hy,hm,hv,hs],rfl,rfl⟩
def dM{cs':List D}{e:TypeId}(hx:(opd env x).core=.rp i off)(hy:(opd env y).core=d)(hm:m i=some (.cells cs e))(hv:d.cells=[d])(hs:cs.set off d=cs'):
 Ef P (.store t x y) env m nx ⟨aT P t=true/\[d].length=P.cellsOf t/\off+P.cellsOf t<=cs.length/\[d].all D.one=true,.bu [],[(i,some (.cells cs' e))],[i],0⟩:=Wl hx hy hm hv hs
def eK{cs cs' vs:List D}{e:TypeId}(hx:(opd env x).core=.rp i off)(hy:(opd env y).core=.agg vs)(hm:m i=some (.cells cs e))(hs:fJ cs off vs=cs'):
 Ef P (.store t x y) env m nx ⟨aT P t=true/\vs.length=P.cellsOf t/\off+P.cellsOf t<=cs.length/\vs.all D.one=true,.bu [],[(i,some (.cells cs' e))],[i],0⟩:=Wl hx hy hm rfl hs
def xI{C:TypeId}(hx:(opd env x).core=.pt cs)(hf:du P t j=some (off,C)):Ef P (.fieldAddr t x j) env m nx ⟨0<P.cellsOf C,.pt (cs.drop off),[],[],0⟩:=⟨by simp[bh,bS,hx,hf],rfl,rfl⟩
def oi{o:Nat}{C:TypeId}(hx:(opd env x).core=.rp i o)(hm:m i=some r)(hf:du P t j=some (off,C)):Ef P (.fieldAddr t x j) env m nx ⟨0<P.cellsOf C,.rp i (o+off),[],[i],0⟩:=⟨by simp[bh,bS,hx,hf,hm],rfl,rfl⟩
def aiY{o:Nat}(hx:(opd env x).core=.rp i o)(hm:m i=some r):Ef P (.nilCheck x) env m nx ⟨True,.rp i o,[],[i],0⟩:=⟨by simp[bh,bS,hx,hm],rfl,rfl⟩
def P8{es:List D}{l:Nat}{e:TypeId}(hx:(opd env x).core=.sl es l)(hy:(opd env y).core=.s (.int k n))(he:aK P t=e)(hs:P.cellsOf e=sz)(hd:es.drop (n.toNat*sz)=cs):
 Ef P (.indexAddr t x y) env m nx ⟨bE P t=true/\0<=n/\n<l/\(n.toNat+1)*sz<=es.length,.pt cs,[],[],0⟩:=⟨by simp[bh,bS,hx,hy,he,hs,hd],rfl,rfl⟩
def Pd{l:Nat}{e:TypeId}(hx:(opd env x).core=.rs j off l)(hy:(opd env y).core=.s (.int k n))(hm:m j=some r)(he:aK P t=e)(hs:P.cellsOf e=sz):
 Ef P (.indexAddr t x y) env m nx ⟨bE P t=true/\0<=n/\n<l,.rp j (off+n.toNat*sz),[],[j],0⟩:=⟨by simp[bh,bS,hx,hy,hm,he,hs],rfl,rfl⟩
def aiZ{l:Nat}{e:TypeId}(hx:(opd env x).core=.rp j off)(hy:(opd env y).core=.s (.int k n))(hm:m j=some r)(he:aK P t=e)(hs:P.cellsOf e=sz)(hl:rB P t=l):
 Ef P (.indexAddr t x y) env m nx ⟨qA P t=true/\0<=n/\n<l,.rp j (off+n.toNat*sz),[],[j],0⟩:=⟨by simp[bh,bS,hx,hy,hm,he,hs,hl],rfl,rfl⟩
section builtins
def zV{b:Builtin}{ts:Array TypeId}{args:Array Operand}{aS:List D}{e:ez}(hs:ts.size=args.size)(ha:args.toList.map (λx=>(opd env x).core)=aS)(hb:fP P m nx b ts aS=some e):Ef P (.call { callee:=.builtin b,args:=args,argTypes:=ts }) env m nx e:=
 ⟨by simp only[bh];rw[bi hs];simp only[bS];rw[ha,hb],rfl,rfl⟩
def Yz{es:List D}{l:Nat}(hx:(opd env x).core=.sl es l):Ef P (.call { callee:=.builtin .len,args:= #[x],argTypes:= #[t] }) env m nx ⟨bE P t=true,.s (.int .i64 l),[],[],0⟩:=zV (aS:=[.sl es l]) rfl (by simp[hx]) rfl
def Kt{l:Nat}(hx:(opd env x).core=.rs i off l)(hm:m i=some r):Ef P (.call { callee:=.builtin .len,args:= #[x],argTypes:= #[t] }) env m nx ⟨bE P t=true,.s (.int .i64 l),[],[i],0⟩:=zV (aS:=[.rs i off l]) rfl (by simp[hx]) (by simp[fP,nR,hm])
def Xo(hx:(opd env x).core=.z):Ef P (.call { callee:=.builtin .len,args:= #[x],argTypes:= #[t] }) env m nx ⟨bE P t=true,.s (.int .i64 0),[],[],0⟩:=zV (aS:=[.z]) rfl (by simp[hx]) rfl
def Pe(hx:(opd env x).core=.s (.string b)):Ef P (.call { callee:=.builtin .len,args:= #[x],argTypes:= #[t] }) env m nx ⟨gR P t=true,.s (.int .i64 b.size),[],[],0⟩:=zV (aS:=[.s (.string b)]) rfl (by simp[hx]) rfl
def YA(hx:(opd env x).core=.s (.int k n))(hy:(opd env y).core=.s (.int k n')):Ef P (.call { callee:=.builtin .min,args:= #[x,y],argTypes:= #[t,t] }) env m nx ⟨k=k,.s (.int k (if n'<n then n' else n)),[],[],0⟩:=zV (aS:=[.s (.int k n),.s (.int k n')]) rfl (by simp[hx,hy]) rfl
structure Cells(m:Mem)(sz:Nat)(d:D)(p:Prop)(rd:List Nat)(k:Nat)(news:List D):Prop where
 ok:kq m sz d=some (p,rd,k,news)
def jE{es:List D}{k:Nat}(h:es.take (k*sz)=news):Cells m sz (.sl es k) (k*sz<=es.length) [] k news:=⟨by simp[kq,h]⟩
def gV{k:Nat}{e:TypeId}(hm:m i=some (.cells cs e))(h:(cs.drop off).take (k*sz)=news):Cells m sz (.rs i off k) (off+k*sz<=cs.length) [i] k news:=⟨by simp[kq,hm,h]⟩
def lq{p:Prop}{c:Nat}{e:TypeId}(hx:(opd env x).core=.z)(hy:(opd env y).core=d)(he:aK P t=e)(hs:P.cellsOf e=sz)(hc:Cells m sz d p rd c news):
 Ef P (.call { callee:=.builtin .append,args:= #[x,y],argTypes:= #[t,t] }) env m nx ⟨bE P t=true/\p/\0<sz/\c<=maxLen/\c*P.bytesOf e<=140737488355328,.rs nx 0 c,[(nx,some (.cells news e))],rd,1⟩:=by
 apply zV (aS:=[.z,d]) rfl (by simp[hx,hy]);simp only[fP];rw[bi oS];simp only[tc,Array.getD_eq_getD_getElem?,getElem?_toArray,getElem?_cons_zero,Option.getD_some,he,hs,hc.ok]
def fW{p:Prop}{c l:Nat}{cs':List D}{e:TypeId}(hx:(opd env x).core=.rs i off l)(hm:m i=some (.cells cs e))(hy:(opd env y).core=d)(he:aK P t=e)(hs:P.cellsOf e=sz)(hc:Cells m sz d p rd c news)(hn:cs.drop off++news=cs'):
 Ef P (.call { callee:=.builtin .append,args:= #[x,y],argTypes:= #[t,t] }) env m nx ⟨bE P t=true/\e=e/\p/\0<sz/\off+l*sz=cs.length/\l+c<=maxLen/\(l+c)*P.bytesOf e<=140737488355328/\i∉rd,.rs nx 0 (l+c),[(i,none),(nx,some (.cells cs' e))],i::rd,1⟩:=by
 apply zV (aS:=[.rs i off l,d]) rfl (by simp[hx,hy]);simp only[fP];rw[bi oS];simp only[tc,Array.getD_eq_getD_getElem?,getElem?_toArray,getElem?_cons_zero,Option.getD_some,he,hs,hc.ok,hm,hn]
end builtins
def Xp(hx:(opd env x).core=.s (.string b))(hy:(opd env y).core=.s (.int k n)):Ef P (.index t x y) env m nx ⟨gR P t=true/\0<=n/\n<b.size,.s (.int .u8 (b.data.toList.getD n.toNat 0).toNat),[],[],0⟩:=⟨by simp[bh,bS,hx,hy],rfl,rfl⟩
def zt{cs':List D}(hx:(opd env x).core=.bu cs)(hd:cs.drop j=v::cs'):Ef P (.extract x j) env m nx ⟨j<cs.length,v,[],[],0⟩:=by
 have h:cs[j]? =some v:=by
  have:(cs.drop j)[0]? =some v:=by rw[hd];rfl
  simpa using this
 exact⟨by simp[bh,bS,hx,h],rfl,rfl⟩
def ahI{z:List D}(hu:P.underlying t=some (.struct fs))(hz:bm P t=z)(hq:(ps.toList.map λq=>(q.1,(opd env q.2).core))=C)
 (hf:lA (λi=>(fs[i]?).map λf=>(f.offset,P.cellsOf f.type)) z C=some cs):Ef P (.build t ps) env m nx ⟨aT P t=true/\fs.toList.all (λf=>(P.info? f.type).isSome)=true,.agg cs,[],[],0⟩:=
 ⟨by simp[bh,bS,hu,hz,hq,hf,Option.map_some],rfl,rfl⟩
def Gp{C:List (Nat×Nat)}{cs z:List D}{J:List (Nat×D)}(hu:P.underlying t=some (.struct fs))(hp:(fs.toList.map λ(f:Field)=>(f.offset,P.cellsOf f.type))=C)(hz:bm P t=z)(hq:(ps.toList.map λq=>(q.1,(opd env q.2).core))=J)
 (hf:lA (λi=>C[i]?) z J=some cs):Ef P (.build t ps) env m nx ⟨aT P t=true/\fs.toList.all (λf=>(P.info? f.type).isSome)=true,.agg cs,[],[],0⟩:=by
 apply ahI hu hz hq
 have:(λ(i:Nat)=>(fs[i]?).map λ(f:Field)=>(f.offset,P.cellsOf f.type))=λ(i:Nat)=>C[i]? :=by
  funext i;rw[<- hp];simp
 rw[this];exact hf
def oh{l:Nat}{e:TypeId}{cs z:List D}(he:aK P t=e)(hs:P.cellsOf e=sz)(hz:bm P e=z)(hq:(ps.toList.map λq=>(q.1,(opd env q.2).core))=C)
 (hf:lA (λi=>some (i*sz,sz)) (dp l z) C=some cs):Ef P (.buildSlice t l ps) env m nx ⟨cs.all D.one=true/\l*sz<=2 ^ 24/\bE P t=true/\l<=maxLen,.rs nx 0 l,[(nx,some (.cells cs e))],[],1⟩:=
 ⟨by simp[bh,bS,he,hs,hz,hq,hf,Option.map_some],rfl,rfl⟩
def Xq{f:Fn}{fs cs:Array Operand}{J C:List D}(hf:fs.toList.map (λx=>(opd env x).core)=J)(hc:cs.toList.map (λx=>(opd env x).core)=C):Ef P (.makeFunc f fs cs) env m nx ⟨True,.fn f J C,[],[],0⟩:=⟨by simp[bh,bS,hf,hc],rfl,rfl⟩
def ajT:Ef P (.makeMap t none) env m nx ⟨True,.mp nx,[(nx,some (.map []))],[],1⟩:=⟨by simp[bh],rfl,rfl⟩
def zx{e:TypeId}{z:List D}(hx:(opd env x).core=.s (.int .i64 n))(hy:(opd env y).core=.s (.int .i64 n'))(he:aK P t=e)(hz:bm P e=z):
 Ef P (.makeSlice t x y) env m nx ⟨0<=n/\n=n'/\n<=9223372036854775807/\P.bytesOf e*n<=281474976710656/\bE P t=true,.rs nx 0 n.toNat,[(nx,some (.cells (dp n.toNat z) e))],[],1⟩:=⟨by simp[bh,bS,hx,hy,he,hz],rfl,rfl⟩
def Xr(hx:(opd env x).core=.s (.int k n))(hu:P.underlying t=some (.int k')):Ef P (.convert src t x) env m nx ⟨aT P src=true,.s (.int k' (k'.wrap n)),[],[],0⟩:=⟨by simp[bh,bS,hx,hu],rfl,rfl⟩
def ahJ{src e:TypeId}(hx:(opd env x).core=.s (.string b))(hu:P.underlying t=some (.slice e))(he:P.underlying e=some (.int .u8)):
 Ef P (.convert src t x) env m nx ⟨gR P src=true/\b.size<=maxLen,.sl (b.data.toList.map λc=>.s (.int .u8 c.toNat)) b.size,[],[],0⟩:=⟨by simp[bh,bS,hx,hu,he],rfl,rfl⟩
def dJ(b:ByteArray):List Int:=b.data.toList.map λc=>(c.toNat:Int)
def acp(b:ByteArray):(dJ b).length=b.size:=by rw[dJ,length_map];rfl
def Vo{e:TypeId}(hx:(opd env x).core=.s (.string b))(hu:P.underlying t=some (.slice e))(he:P.underlying e=some (.int .u8)):
 Ef P (.convert src t x) env m nx ⟨gR P src=true/\b.size<=maxLen,.sl ((dJ b).map λn=>.s (.int .u8 n)) (dJ b).length,[],[],0⟩:=by
 have:=ahJ (P:=P) (env:=env) (m:=m) (nx:=nx) (t:=t) (src:=src) hx hu he;have h:(dJ b).map (λn=>D.s (.int .u8 n))=b.data.toList.map (λc=>D.s (.int .u8 c.toNat)):=by rw[dJ,map_map];rfl
 rw[acp,h];exact this
def DK{es es':List D}{l:Nat}{lo hi:Option Operand}{a b:Int}{e:TypeId}(hx:(opd env x).core=.sl es l)(he:aK P t=e)(hs:P.cellsOf e=sz)
 (ha:gd (lo.map λx=>(opd env x).core) 0=some a) (hb:gd (hi.map λx=>(opd env x).core) l=some b) (hd:(es.drop (a.toNat*sz)).take ((b - a).toNat*sz)=es'):
 Ef P (.slice t x lo hi none) env m nx ⟨bE P t=true/\0<=a/\a<=b/\b<=l,.sl es' (b - a).toNat,[],[],0⟩:=by
 refine⟨?_,rfl,rfl⟩;show nJ P m t (opd env x).core (lo.map λx=>(opd env x).core) (hi.map λx=>(opd env x).core) (Option.map (λx=>(opd env x).core) none)=_;rw[hx];simp[nJ,Option.map_none,ha,hb,he,hs,hd]
def Vp{l:Nat}{lo hi:Option Operand}{a b:Int}{e:TypeId}(hx:(opd env x).core=.rs i off l)(hm:m i=some (.cells cs e))(he:aK P t=e)(hs:P.cellsOf e=sz)
 (ha:gd (lo.map λx=>(opd env x).core) 0=some a) (hb:gd (hi.map λx=>(opd env x).core) l=some b):
 Ef P (.slice t x lo hi none) env m nx ⟨(bE P t=true/\sz=sz)/\0<=a/\a<=b/\b<=l,.rs i (off+a.toNat*sz) (b - a).toNat,[],[i],0⟩:=by
 refine⟨?_,rfl,rfl⟩;show nJ P m t (opd env x).core (lo.map λx=>(opd env x).core) (hi.map λx=>(opd env x).core) (Option.map (λx=>(opd env x).core) none)=_;rw[hx];simp[nJ,hm,Option.map_none,ha,hb,he,hs]
def afY{ok:Bool}(hx:(opd env x).core=.mp i)(hm:m i=some (.map es))(hk:qk (opd env y).core=some key)(ht:jb P t=kt)(hg:jM P t ok (gM key es)=v):
 Ef P (.lookup t x y ok) env m nx ⟨lD P t=true/\eN P kt key=true/\es.all (λe=>eN P kt e.1)=true,v,[],[i],0⟩:=by
 refine⟨?_,rfl,rfl⟩;show pW P m t (opd env x).core (opd env y).core ok=_;simp[pW,hk,hx,hm,ht,hg]
def ad'{ok:Bool}(hx:(opd env x).core=.im es)(hk:qk (opd env y).core=some key)(ht:jb P t=kt)(hg:jM P t ok (gM key es)=v):
 Ef P (.lookup t x y ok) env m nx ⟨lD P t=true/\eN P kt key=true/\es.all (λe=>eN P kt e.1)=true,v,[],[],0⟩:=by
 refine⟨?_,rfl,rfl⟩;show pW P m t (opd env x).core (opd env y).core ok=_;simp[pW,hk,hx,ht,hg]
def ai0{z:Operand}(hx:(opd env x).core=.mp i)(hm:m i=some (.map es))(hk:qk (opd env y).core=some key)(hz:(opd env z).core=v)(ht:jb P t=kt):
 Ef P (.mapUpdate t x y z) env m nx ⟨lD P t=true/\eN P kt key=true/\es.all (λe=>eN P kt e.1)=true,.bu [],[(i,some (.map (oU key v es)))],[i],0⟩:=by
 refine⟨?_,rfl,rfl⟩;show pX P m t (opd env x).core (opd env y).core (opd env z).core=_;simp[pX,hk,hx,hm,ht,hz]
end
variable{α:Type}
def nv{f:α->D}:∀ {l:List α} {k:Nat} {x:α},l[k]? =some x->(l.map f).drop k=f x::(l.drop (k+1)).map f
 |[],k,x,h=>by simp at h
 |a::l,0,x,h=>by simp at h;subst h;rfl
 |a::l,k+1,x,h=>tn (nv (f:=f) (l:=l) (k:=k) (tn h))
variable{f:α->List D}
def Up(hs:∀ x,(f x).length=sz):∀ {l:List α} {k:Nat} {x:α},l[k]? =some x->(l.flatMap f).drop (k*sz)=f x++(l.drop (k+1)).flatMap f
 |[],k,x,h=>by simp at h
 |a::l,0,x,h=>by simp at h;subst h;simp
 |a::l,k+1,x,h=>by
  have h1:(k+1)*sz=(f a).length+k*sz:=by rw[hs];rw[Nat.add_mul];omega
  simp only[flatMap_cons,h1,drop_append,drop_succ_cons];rw[drop_of_length_le oG];have:(f a).length+k*sz - (f a).length=k*sz:=by omega
  rw[this];simpa using Up hs (l:=l) (k:=k) (tn h)
def pd{f:α->List D}{sz:Nat}(hs:∀ x,(f x).length=sz):∀ (l:List α),(l.flatMap f).length=l.length*sz
 |[]=>by simp
 |a::l=>by simp[flatMap_cons,length_append,hs,pd hs l,length_cons,Nat.add_mul];omega
variable{l:List α}
section
variable{P:Program}{env:Env}{m:Mem}{nx:Nat}{t e:TypeId}{x y:Operand}{k:IntKind}
def Xs{f:α->D}{n:Nat}{z:α}(hx:(opd env x).core=.sl (l.map f) n)(hy:(opd env y).core=.s (.int k i))(he:aK P t=e)(hs:P.cellsOf e=1)(hz:l[i]? =some z):
 Ef P (.indexAddr t x y) env m nx ⟨bE P t=true/\0<=(i:Int)/\(i:Int)<n/\((i:Int).toNat+1)*1<=(l.map f).length,.pt (f z::(l.drop (i+1)).map f),[],[],0⟩:=
 P8 hx hy he hs (by rw[eC,Nat.mul_one];exact nv hz)
def Xt{f:α->D}{z:α}(ht:bE P t=true)(hz:l[i]? =some z):bE P t=true/\0<=(i:Int)/\(i:Int)<l.length/\((i:Int).toNat+1)*1<=(l.map f).length:=by
 have:=(bO.1 hz).1;exact⟨ht,oG,oG,by simp;omega⟩
def zL{n:Nat}{z:α}(hx:(opd env x).core=.sl (l.flatMap f) n)(hy:(opd env y).core=.s (.int k i))(he:aK P t=e)(hs:P.cellsOf e=sz)(hl:∀ x,(f x).length=sz)(hz:l[i]? =some z):
 Ef P (.indexAddr t x y) env m nx ⟨bE P t=true/\0<=(i:Int)/\(i:Int)<n/\((i:Int).toNat+1)*sz<=(l.flatMap f).length,.pt (f z++(l.drop (i+1)).flatMap f),[],[],0⟩:=
 P8 hx hy he hs (by rw[eC];exact Up hl hz)
def zM{z:α}(ht:bE P t=true)(hl:∀ x,(f x).length=sz)(hz:l[i]? =some z):bE P t=true/\0<=(i:Int)/\(i:Int)<l.length/\((i:Int).toNat+1)*sz<=(l.flatMap f).length:=by
 have:=(bO.1 hz).1;refine⟨ht,oG,oG,?_⟩;rw[pd hl,eC];exact Nat.mul_le_mul_right _ this
def xW{v:D}(ht:aT P t=true)(hc:P.cellsOf t=1):aT P t=true/\P.cellsOf t<=(v::cs).length:=⟨ht,by rw[hc];simp⟩
def fh{v:D}{cs':List D}(ht:aT P t=true)(hc:P.cellsOf t=1)(hd:cs.drop off=v::cs'):aT P t=true/\off+P.cellsOf t<=cs.length:=by
 refine⟨ht,?_⟩;have:(cs.drop off).length=cs'.length+1:=by rw[hd];rfl
 rw[length_drop] at this;omega
def nD{n:Nat}(ht:aT P t=true)(hc:P.cellsOf t=n)(hl:n<=cs.length):aT P t=true/\P.cellsOf t<=cs.length:=⟨ht,by rw[hc];exact hl⟩
def dN{n:Nat}{cs:List D}(ht:aT P t=true)(hc:P.cellsOf t=n)(hl:off+n<=cs.length):aT P t=true/\off+P.cellsOf t<=cs.length:=⟨ht,by rw[hc];exact hl⟩
def jK{n:Nat}(hc:P.cellsOf t=n+1):0<P.cellsOf t:=by omega
def bW{n:Nat}{cs vs:List D}(ht:aT P t=true)(hc:P.cellsOf t=n)(hv:vs.length=n/\off+n<=cs.length)(ho:vs.all D.one=true):aT P t=true/\vs.length=P.cellsOf t/\off+P.cellsOf t<=cs.length/\vs.all D.one=true:=
 ⟨ht,by rw[hc];exact hv.1,by rw[hc];exact hv.2,ho⟩
end
variable{ty:TypeId}
section
variable{P:Program}{K:D->St->Prop}{st:St}
def BA(h:K (.bu []) st):lE P [] K .ret st:=h
def Ku(h:K (.bu []) st):lE P [] K .normal st:=h
def aD{t:Nat}{d:D}(hd:st.env t=d)(h:K d st):lE P [.tmp t] K .ret st:=⟨aa,by subst hd;exact h⟩
def Xu{t u:Nat}{d e:D}(hd:st.env t=d)(he:st.env u=e)(h:K (.bu [d,e]) st):lE P [.tmp t,.tmp u] K .ret st:=⟨aa,aa,by subst hd;subst he;exact h⟩
def fT{a n:Nat}{e:TypeId}{cs vs:List D}(ha:st.env a=.rp i off)(hm:st.mem i=some (.cells cs e))(hg:bM P ty=true)(hc:P.cellsOf ty=n)(hv:(cs.drop off).take n=vs)(ht:aT P ty=true)(hl:off+n<=cs.length):
 ∃ p,tB P st (.cell a ty)=some (p,.agg vs)/\p:=⟨aT P ty=true/\off+n<=cs.length,by simp[tB,ha,hm,lz,hg,if_true,hc,hv],ht,hl⟩
def jR{a:Nat}{d:D}(hr:∃ p,tB P st (.cell a ty)=some (p,d)/\p)(h:K d st):lE P [.cell a ty] K .ret st:=by
 let⟨p,h1,h2⟩:=hr;simp[lE,sF,h1];exact⟨h2,h⟩
def rX{a t:Nat}{d e:D}(hr:∃ p,tB P st (.cell a ty)=some (p,d)/\p)(he:st.env t=e)(h:K (.bu [d,e]) st):lE P [.cell a ty,.tmp t] K .ret st:=by
 let⟨p,h1,h2⟩:=hr;simp[lE,sF,h1];exact⟨h2,aa,by subst he;exact h⟩
end
end
section
variable{s:St}{next:St->Prop}{i:Nat}{a:Code}{J:St->Prop}
section
variable{P:Program}{Y:iz}{rf:Bool}{Q:Exit->St->Prop}{st:St}
def ao{l:List (Nat×D)}{env:Env}{m:Mem}{nx:Nat}(h:p8 l env):aL P ⟨env,m,nx⟩ ⟨ay l,m,nx⟩:=.forget env _ m nx (td h)
def QW(P:Program):List (Nat×List D×TypeId)->Mem->Prop
 |[],_=>True
 |(i,cs,e)::fs,m=>m i=some (.cells cs e)/\QW P fs (λj=>if j=i then none else(m j).map (Row.sub (cZ i cs (P.cellsOf e))))
def uX(P:Program):List (Nat×List D×TypeId)->D->D
 |[],d=>d
 |(i,cs,e)::fs,d=>uX P fs (sub (cZ i cs (P.cellsOf e)) d)
def Uq:∀ {fs:List (Nat×List D×TypeId)} {env:Env} {m:Mem} {nx:Nat},QW P fs m->∃ m',aL P ⟨env,m,nx⟩ ⟨λt=>uX P fs (env t),m',nx⟩
 |[],env,m,nx,_=>⟨m,.refl _⟩
 |(i,cs,e)::fs,env,m,nx,⟨h1,h2⟩=>by
  let⟨m',h⟩:=Uq (env:=λt=>sub (cZ i cs (P.cellsOf e)) (env t)) (nx:=nx) h2;exact⟨m',(aL.freeze env m nx i cs e h1).trans h⟩
def cE{env:Env}{m:Mem}{nx:Nat}(fs:List (Nat×List D×TypeId))(hf:QW P fs m){l:List (Nat×D)}(hl:p8 l λt=>uX P fs (env t)):aL P ⟨env,m,nx⟩ ⟨ay l,λ_=>none,nx⟩:=by
 let⟨m',h⟩:=Uq (env:=env) (nx:=nx) hf;exact h.trans ((aL.forget _ _ _ _ (td hl)).trans (aL.drop _ _ _ _ λ_=>.inr rfl))
def oE(jO id:Nat)(next:St->Prop)(Q:Exit->St->Prop):Exit->St->Prop
 | .normal,s=>next s
 | .exit i,s=>if i=jO then next s else if i=id then Q .normal s else Q (.exit i) s
 |e,s=>Q e s
def El(P:Program){α:Type}(S:α->St)(J:α->Prop)(μ:α->Nat)(x:α)(s:St):Prop:=∃ C,aL P s (S C)/\J C/\μ C<μ x
def bA{α:Type}{S:α->St}{J:α->Prop}{μ:α->Nat}{x:α}(C:α)(hg:aL P s (S C))(O:J C)(U:μ C<μ x):El P S J μ x s:=⟨C,hg,O,U⟩
def JM[fD Y]{b:Code}{α:Type}(S:α->St)(J:α->Prop)(μ:α->Nat)(C:α)(hg:aL P st (S C))(X:J C)(h:∀ x,J x->AW P Y rf b (iM (El P S J μ x) Q) (S x)){a:Code}(ha:∀ st,Q .normal st->Q .normal st):
 ∃ st',aL P st st'/\AW P Y rf (.loop b) Q st':=
 ⟨S C,hg,ahN S J μ C rfl X λx hx=>xJ b (λe st' hq=>by
  cases e with
  |normal=>
   let⟨O,h1,h2,U⟩:=hq;exact⟨S O,O,h1,rfl,h2,U⟩
  |_=>exact hq) (h x hx)⟩
variable{id jO t i1 i2 i3 i4:Nat}{rc ri:Array Oper}{body rest:Code}{α:Type}
def OG[fD Y](h:AW P Y rf body (oE jO id (λs=>aJ P Y ri false [] (iN next) ri.toList s []) Q) s):
 AW P Y rf (.seq (.block jO body) (.region i3 ri false)) (iM next (jH id Q)) s:=by
 refine xJ body (λe s h=>?_) h;have hr:∀ s,aJ P Y ri false [] (iN next) ri.toList s []->∃ s',aL P s s'/\AW P Y rf (.region i3 ri false) (iM next (jH id Q)) s':=λs h=>⟨s,.refl s,tW (rf:=rf) (id:=i3) (aJ.nT h λ_ h=>h)⟩
 cases e with
 |normal=>exact hr s h
 |exit i=>
  simp[oE] at h;simp[jH];split at h
  .rename_i hi;rw[bi hi];exact hr s h
  .rename_i hi;rw[ai hi];simp[iM,jH];exact h
 |_=>exact h
def gl[fD Y](S:α->St)(J:α->Prop)(μ:α->Nat)(C:α)(hg:aL P st (S C))(hJ:J C)
 (h:∀ x,J x->aJ P Y rc false [] (iN λs=>∃ g,opd s.env (.tmp t)=.s (.bool g)/\(g=true->AW P Y rf body (oE jO id (λs=>aJ P Y ri false [] (iN (El P S J μ x)) ri.toList s []) Q) s)/\(g=false->Q .normal s)) rc.toList (S x) []):
 ∃ st',aL P st st'/\AW P Y rf (.block id (.loop (.seq (.region i1 rc false) (.seq (.cond (.tmp t) .skip (.exit id)) (.seq (.block jO body) (.region i3 ri false)))))) Q st':=by
 refine JM (Q:=jH id Q) S J μ C hg hJ (λx hx=>?_) (a:=.skip) λ_ h=>h;refine tW (rf:=rf) (id:=i1) (aJ.nT (h x hx) λs hs=>?_);let⟨g,h1,h2,X⟩:=hs;refine⟨s,.refl s,cG h1 (λO=>?_) λU=>?_⟩
 .exact dn (OG (h2 O))
 .apply tU;simp[iM,jH,if_true];exact X U
def dS[fD Y](S:α->St)(J:α->Prop)(μ:α->Nat)(C:α)(hg:aL P st (S C))(hJ:J C)
 (h:∀ x,J x->aJ P Y rc false [] (iN λs=>∃ g,opd s.env (.tmp t)=.s (.bool g)/\(g=true->AW P Y rf body (oE jO id (λs=>aJ P Y ri false [] (iN (El P S J μ x)) ri.toList s []) Q) s)/\(g=false->Q .normal s)) rc.toList (S x) []):
 ∃ st',aL P st st'/\AW P Y rf (.block id (.loop (.seq (.seq (.region i1 rc false) (.cond (.tmp t) .skip (.exit id))) (.seq (.block jO body) (.region i3 ri false))))) Q st':=by
 refine JM (Q:=jH id Q) S J μ C hg hJ (λx hx=>?_) (a:=.skip) λ_ h=>h;refine aM (tW (rf:=rf) (id:=i1) (aJ.nT (h x hx) λs hs=>?_));let⟨g,h1,h2,X⟩:=hs;refine⟨s,.refl s,cG h1 (λO=>?_) λU=>?_⟩
 .exact dn (OG (h2 O))
 .apply tU;simp[iM,jH,if_true];exact X U
def af4[fD Y](h:AW P Y rf body (oE jO id next Q) s):AW P Y rf (.block jO body) (iM next (jH id Q)) s:=by
 refine xJ body (λe s h=>?_) h;cases e with
 |exit i=>
  simp[oE] at h;simp[jH];split at h
  .rename_i hi;rw[bi hi];exact h
  .rename_i hi;rw[ai hi];simp[iM,jH];exact h
 |_=>exact h
def OH[fD Y](S:α->St)(J:α->Prop)(μ:α->Nat)(C:α)(hg:aL P st (S C))(hJ:J C)
 (h:∀ x,J x->aJ P Y rc false [] (iN λs=>∃ g,opd s.env (.tmp t)=.s (.bool g)/\(g=true->AW P Y rf body (oE jO id (El P S J μ x) Q) s)/\(g=false->Q .normal s)) rc.toList (S x) []):
 ∃ st',aL P st st'/\AW P Y rf (.block id (.loop (.seq (.seq (.region i1 rc false) (.cond (.tmp t) .skip (.exit id))) (.block jO body)))) Q st':=by
 refine JM (Q:=jH id Q) S J μ C hg hJ (λx hx=>?_) (a:=.skip) λ_ h=>h;refine aM (tW (rf:=rf) (id:=i1) (aJ.nT (h x hx) λs hs=>?_));let⟨g,h1,h2,X⟩:=hs;refine⟨s,.refl s,cG h1 (λO=>?_) λU=>?_⟩
 .exact dn (af4 (h2 O))
 .apply tU;simp[iM,jH,if_true];exact X U
def eQ(h:Q .normal s):AW P Y rf .skip Q s:=h
def bD(h:Q .ret s):AW P Y rf .ret Q s:=h
def dd(h:Q .ret s):oE jO id next Q .ret s:=h
def bc{K:St->Prop}(h:Q .ret s):iM K Q .ret s:=h
def cu(h:Q .ret s):jH id Q .ret s:=h
def OI(h:Q .ret s):O9 Q .ret s:=h
def D3(h:next s):oE jO id next Q (.exit jO) s:=by simp[oE,if_true];exact h
def ahO(C:id≠jO)(h:Q .normal s):oE jO id next Q (.exit id) s:=by simp[oE,ai C,if_true];exact h
def ajY(h2:i≠jO)(h1:i≠id)(h:Q (.exit i) s):oE jO id next Q (.exit i) s:=by simp[oE,ai h2,ai h1];exact h
def pQ[fD Y](h:AW P Y rf a (jH id (iM (λst=>AW P Y rf rest Q st) Q)) st):AW P Y rf (.seq (.block id a) rest) Q st:=YE (λst=>AW P Y rf rest Q st) (qQ h) λ_ h=>h
def pw(h:AW P Y rf rest Q s):AW P Y rf .skip (jH id (iM (λst=>AW P Y rf rest Q st) Q)) s:=h
def Xv[fD Y](h:AW P Y rf a (iM (λst=>AW P Y rf rest Q st) Q) st):AW P Y rf (.seq a rest) Q st:=YE _ h λ_ h=>h
def eI[fD Y]{r:Array Oper}(h:aJ P Y r false [] (iN J) r.toList st []):AW P Y rf (.region i r false) (iM J Q) st:=tW (rf:=rf) (id:=i) (aJ.nT h λ_ h=>h)
def lS[fD Y]{r:Array Oper}(h:aJ P Y r false [] (iN J) r.toList st []):AW P Y rf (.region i r false) (jH id (iM J Q)) st:=tW (rf:=rf) (id:=i) (aJ.nT h λ_ h=>h)
def bd(h:J st):AW P Y rf .skip (iM J Q) st:=h
def zy(h:J st):AW P Y rf .skip (jH id (iM J Q)) st:=h
def cJ[fD Y](R:St->Prop)(h:∃ st',aL P st st'/\AW P Y rf a (iM R Q) st')(k:∀ s,R s->∃ s',aL P s s'/\AW P Y rf rest Q s'):∃ st',aL P st st'/\AW P Y rf (.seq a rest) Q st':=by
 let⟨st',hg,h⟩:=h;exact⟨st',hg,cI R h k⟩
end
def Real(d:D):Prop:=∃ F β w v,R F β w d v
def Real.sl{es:List D}{n:Nat}(h:Real (.sl es n)):n<=maxLen/\∀ d∈es,Real d:=by
 let⟨F,β,w,v,h⟩:=h;cases h with
 |kf=>simp[maxLen]
 |sl _ _ b o cap us hf hb al qg eu hc hh=>
  refine⟨Nat.le_trans qg eu,λd hd=>?_⟩;let⟨k,hk⟩:=dW hd;exact⟨F,β,w,_,hh k d hk⟩
def Real.agg{cs:List D}(h:Real (.agg cs)):∀ d∈cs,Real d:=by
 let⟨F,β,w,v,h⟩:=h;obtain⟨vs,rfl,hl,hh⟩:=h.ua;intro d hd;let⟨k,hk⟩:=dW hd;have:k<vs.length:=by rw[hl];exact(bO.1 hk).1
 exact⟨F,β,w,_,hh k d vs[k] hk (by simp[this])⟩
variable{args:List D}
def ahP{F:Nat->Prop}{β:aN}{w:World}{vs:Array Value}(h:Rs F β w args vs):∀ a∈args,Real a:=λa ha=>by
 let⟨k,hk⟩:=dW ha;have:k<vs.size:=by rw[h.1];exact(bO.1 hk).1
 exact⟨F,β,w,vs[k],h.2 k a _ hk (by simp[this])⟩
def qP{P:Program}{f:FuncId}{r:D}(he:nB P f=true)(ht:∀ a∈args,Tr a)(h:(∀ a∈args,Real a)->aE P f args r):aE P f args r:=
 ⟨he,ht,λF w vs C hR=>(h (ahP hR)).2.2 F w vs C hR⟩
end
section
variable{j:Nat}{b:Bool}{u:Nat}
section
variable{P:Program}{m:Mem}{bP:List Nat}
def dT{a:D}(h:Tr a):Sn P bP m a a:=λ_ _ _ _ _ hv=>h.KX hv
def Qn{i off n:Nat}{cs es:List D}{e:TypeId}(hm:m i=some (.cells cs e))(hi:i∈bP)(J:(cs.drop off).take (n*P.cellsOf e)=es)(ht:∀ a∈es,Tr a):Sn P bP m (.rs i off n) (.sl es n):=λF β w v hl hv=>by
 subst J;let⟨p,hp,hr,X⟩:=hl i hi _ hm;cases hv with
 |nW _ _ _ _ h1 _=>rw[h1] at hp;cases hp;cases hr
 |lH _ a h1=>
  rw[h1] at hp;cases hp;cases hr;simp[drop_nil,take_nil];exact .kf a 0
 |mK _ _ a b o len room sz h1=>
  simp[Nat.zero_mul,take_zero];exact .kf a 0
 |rs _ _ _ cap b o len room sz h1 hn eu h2 h3=>
  rw[h1] at hp;cases hp
  have al:b<w.heap.size:=by
   cases hr with
   |cells _ _ _ _ _ _ c hb _ _ _ _=>exact(Array.getElem?_eq_some_iff.1 hb).1
  let⟨C,hl,bZ,_⟩:=hr.rd;let⟨us,O,U⟩:=(C.drop off).take (n*P.cellsOf e);exact .sl _ n b (o+off) cap us (X b rfl) (λk q hq=>by cases hq) al hn eu O λk d hk=>(ht d (cL hk)).KX (U k d hk)
variable{Y:iz}{rf:Bool}{ops:Array Oper}{dr:Bool}{cf:List (Nat×Nat)}{Q:Exit->St->Prop}{rest:List Oper}{env:Env}{nx:Nat}{tr:o0}{t:Nat}{op:Op}{ty:TypeId}{pos:String}{after:Array Edge}
 {pre:Prop} {v:D} {rd:List Nat}
def ajd{row:Row}(hj:(ops[j]?).bind (·.dst)=some u)(hg:mA (env u) b=some true)(he:Ef P op env m nx ⟨pre,v,[(nx,some row)],rd,1⟩)(ha:kP env op.operands.toList)(hp:pre)
 (K:aJ P Y ops dr cf Q rest ⟨up env t v,up m nx (some row),nx+1⟩ (tr++[(rd,[nx])])):aJ P Y ops dr cf Q (⟨some t,op,ty,pos,after,some (j,b)⟩::rest) ⟨env,m,nx⟩ tr:=
 akj hj hg he ha hp (λh=>by cases h) K
def KH{f:FuncId}{args C:List D}{r:D}(h:aE P f C r)(hs:r.lY=true)(hj:(ops[j]?).bind (·.dst)=some u)(hg:mA (env u) b=some true)(hc:eB (bS env op) op=some (f,args))(J:qv P bP m args C)(ha:kP env op.operands.toList)
 (K:aJ P Y ops dr cf Q rest ⟨up env t r,m,nx⟩ (tr++[(bP,[])])):aJ P Y ops dr cf Q (⟨some t,op,ty,pos,after,some (j,b)⟩::rest) ⟨env,m,nx⟩ tr:=
 agx hj hg hc ha (.inr (.inl ⟨C,bP,r,J,h,hs,K⟩))
end
end
section
variable{j u i:Nat}{J next:St->Prop}
section
variable{P:Program}{Y:iz}{rf:Bool}{ops:Array Oper}{dr:Bool}{cf:List (Nat×Nat)}{Q:Exit->St->Prop}{rest:List Oper}{env:Env}{m:Mem}{nx:Nat}{tr:o0}{t:Nat}{ty:TypeId}{pos:String}{after:Array Edge}
def aeF{b0 C:Bool}(hj:(ops[j]?).bind (·.dst)=some u)(hg:mA (env u) b0=some C){c a b:Operand}{x:Bool}(hc:(opd env c).core=.s (.bool true))(ha:(opd env a).core=.s (.bool x))
 (h0:C=true->(opd env c).ask) (h1:C=true->(opd env a).ask) (K:aJ P Y ops dr cf Q rest ⟨up env t (.dq C (.s (.bool x))),m,nx⟩ (tr++[([],[])])):
 aJ P Y ops dr cf Q (⟨some t,.pick c a b,ty,pos,after,some (j,b0)⟩::rest) ⟨env,m,nx⟩ tr:=by
 have he:=DP (P:=P) (env:=env) (m:=m) (nx:=nx) (a:=a) (b:=b) hc;simp only[ha,D.gL,Option.getD_some,if_true] at he;simp only[aJ];refine .inl ?_;simp only[mh];rw[hj];simp only[Option.bind_some];rw[hg,he.nc,he.ny,he.ok];exact⟨λhc=>⟨by simp only[asks];exact h0 hc,λ_=>⟨h1 hc,rfl⟩,λh=>by cases h⟩,K⟩
def aeG{b0 C:Bool}(hj:(ops[j]?).bind (·.dst)=some u)(hg:mA (env u) b0=some C){c a b:Operand}{y:Bool}(hc:(opd env c).core=.s (.bool false))(hb:(opd env b).core=.s (.bool y))
 (h0:C=true->(opd env c).ask) (h1:C=true->(opd env b).ask) (K:aJ P Y ops dr cf Q rest ⟨up env t (.dq C (.s (.bool y))),m,nx⟩ (tr++[([],[])])):
 aJ P Y ops dr cf Q (⟨some t,.pick c a b,ty,pos,after,some (j,b0)⟩::rest) ⟨env,m,nx⟩ tr:=by
 have he:=DP (P:=P) (env:=env) (m:=m) (nx:=nx) (a:=a) (b:=b) hc;simp only[hb,D.gL,Option.getD_some,Bool.false_eq_true,if_false] at he;simp only[aJ];refine .inl ?_;simp only[mh];rw[hj];simp only[Option.bind_some];rw[hg,he.nc,he.ny,he.ok];exact⟨λhc=>⟨by simp only[asks];exact h0 hc,λh=>oH,λ_=>⟨h1 hc,rfl⟩⟩,K⟩
variable{id:Nat}{st:St}
def Gt[fD Y](hi:bV ops=some cf)(h:aJ P Y ops true cf (iN J) ops.toList st []):AW P Y rf (.region i ops true) (jH id (iM J Q)) st:=D6 (rf:=rf) (id:=i) hi (aJ.nT h λ_ h=>h)
def GD[fD Y](hi:bV ops=some cf)(h:aJ P Y ops true cf (iN J) ops.toList st []):AW P Y rf (.region i ops true) (iM J Q) st:=D6 (rf:=rf) (id:=i) hi (aJ.nT h λ_ h=>h)
def agy{r:Option Row}(h:m i=r):∀ j,up (λ_=>none) i r j=m j\/up (λ_=>none) i r j=none:=λj=>by
 by_cases hj:j=i
 .subst hj;left;rw[ap,h]
 .right;rw[aW _ _ hj]
def r8[fD Y]{jO:Nat}(hi:bV ops=some cf)(h:aJ P Y ops true cf (iN next) ops.toList st []):AW P Y rf (.region i ops true) (oE jO id next Q) st:=D6 (rf:=rf) (id:=i) hi (aJ.nT h λ_ h=>h)
def gE[fD Y]{jO:Nat}(h:aJ P Y ops false [] (iN next) ops.toList st []):AW P Y rf (.region i ops false) (oE jO id next Q) st:=tW (rf:=rf) (id:=i) (aJ.nT h λ_ h=>h)
def b8:List (Nat×Row)->Mem
 |[],_=>none
 |(i,r)::l,j=>if j=i then some r else b8 l j
def G0:List (Nat×Row)->Mem->Prop
 |[],_=>True
 |(i,r)::l,m=>m i=some r/\G0 l m
def OR:∀ {l:List (Nat×Row)} {m:Mem},G0 l m->∀ i,b8 l i=m i\/b8 l i=none
 |[],_,_,_=>.inr rfl
 |(k,r)::l,m,h,i=>by
  simp[b8];by_cases hi:i=k
  .subst hi;rw[bi rfl];exact .inl h.1.symm
  .rw[ai hi];exact OR h.2 i
def a6{l:List (Nat×D)}{ml:List (Nat×Row)}(h:p8 l env)(hm:G0 ml m):aL P ⟨env,m,nx⟩ ⟨ay l,b8 ml,nx⟩:=(aL.forget env _ m nx (td h)).trans (.drop _ _ _ _ (OR hm))
end
end
section
variable{α:Type}
def aq{f:Nat->α}{k j:Nat}{v r:α}(h:j≠k)(hf:f j=r):up f k v j=r:=(aW f v h).trans hf
variable{β:Sort _}{i:Nat}
def atw{M m:Mem}{r:Option Row}(h:M=m)(x:β)(k:β->m i=r:=by intro x;repeat (first|exact x|exact rfl|exact ap _ _ _|apply aq (by omega))):M i=r:=h ▸ k x
def atx{p:Prop}(x:β)(k:β->p:=by intro x;dsimp only;repeat (first|exact x|exact ap _ _ _|apply aq (by omega))):p:=k x
variable{off:Nat}{cs:List D}
def mC{i sz:Nat}:sub (cZ i cs sz) (.rp i off)=.pt (cs.drop off):=by simp[sub,uv,cZ]
def oI{n sz:Nat}:sub (cZ i cs sz) (.rs i off n)=.sl ((cs.drop off).take (n*sz)) n:=by simp[sub,uv,cZ]
def gk{j sz:Nat}{cs:List D}(h:j≠i):sub (cZ i cs sz) (.rp j off)=.rp j off:=by simp[sub,uv,cZ,h]
def lR{i j n sz:Nat}(h:j≠i):sub (cZ i cs sz) (.rs j off n)=.rs j off n:=by simp[sub,uv,cZ,h]
def s9{f:α->List D}{sz:Nat}(hs:∀ x,(f x).length=sz):∀ (l:List α) (k:Nat),(l.flatMap f).take (k*sz)=(l.take k).flatMap f
 |[],k=>by simp
 |x::l,0=>by simp
 |x::l,k+1=>by
  rw[flatMap_cons,take_succ_cons,flatMap_cons, <- s9 hs l k,show(k+1)*sz=(f x).length+k*sz by rw[hs x,Nat.add_mul];omega,take_length_add_append]
def aiv{f:α->List D}{sz k:Nat}{l:List α}(hs:∀ x,(f x).length=sz)(hk:k<=l.length):
 D.sl (((l.flatMap f).drop ((0:Int).toNat*sz)).take (((k:Int) - 0).toNat*sz)) ((k:Int) - 0).toNat=D.sl ((l.take k).flatMap f) (l.take k).length:=by
 have h1:((k:Int) - 0).toNat=k:=by omega
 have h2:(0:Int).toNat*sz=0:=by simp
 rw[h1,h2,drop_zero,s9 hs,length_take,Nat.min_eq_left hk]
variable{e:TypeId}{l es:List D}{bP:List Nat}
section
variable{P:Program}{env:Env}{m:Mem}{nx:Nat}{x y z:Operand}{t:TypeId}{v:D}
def agF{es:List (Value×D)}{key:Value}{kt:TypeId}(hx:(opd env x).core=.mp i)(hm:m i=some (.map es))(hk:qk (opd env y).core=some key)(hz:(opd env z).core=v)(ht:jb P t=kt):
 Ef P (.insert t x y z) env m nx ⟨lD P t=true/\eN P kt key=true/\es.all (λe=>eN P kt e.1)=true,.bu [],[(i,some (.map (oU key v es)))],[i],0⟩:=by
 refine⟨?_,rfl,rfl⟩;show pX P m t (opd env x).core (opd env y).core (opd env z).core=_;simp[pX,hk,hx,hm,ht,hz]
variable{n n':Int}{k:IntKind}{c:Bool}{p:TypeId}{n0:Nat}
def XW(hx:(opd env x).core=.s (.int k n))(hy:(opd env y).core=.s (.int k n'))(hd:decide (n'<n)=c):Ef P (.binOp .gtr t x y p) env m nx ⟨k=k,.s (.bool c),[],[],0⟩:=by subst hd;exact PZ hx hy
def PE(hx:(opd env x).core=.s (.int k n))(hy:(opd env y).core=.s (.int k n'))(hd:decide (n<n')=c):Ef P (.binOp .lss t x y p) env m nx ⟨k=k,.s (.bool c),[],[],0⟩:=by subst hd;exact PY hx hy
def aje(hx:(opd env x).core=.s (.int k n))(hy:(opd env y).core=.s (.int k n'))(hd:decide (n<=n')=c):Ef P (.binOp .leq t x y p) env m nx ⟨k=k,.s (.bool c),[],[],0⟩:=by subst hd;exact KW hx hy
def PD(hx:(opd env x).core=.s (.int k n))(hy:(opd env y).core=.s (.int k n'))(hd:(n==n')=c):Ef P (.binOp .eql t x y p) env m nx ⟨k=k,.s (.bool c),[],[],0⟩:=by subst hd;exact P5 hx hy
def PF(hx:(opd env x).core=.s (.int k n))(hy:(opd env y).core=.s (.int k n'))(hd:(n !=n')=c):Ef P (.binOp .neq t x y p) env m nx ⟨k=k,.s (.bool c),[],[],0⟩:=by subst hd;exact P6 hx hy
def XZ(hx:(opd env x).core=.s (.int k n))(hy:(opd env y).core=.s (.int k n')){r:Int}(hd:k.wrap (n.tdiv n')=r):Ef P (.binOp .quo t x y p) env m nx ⟨k=k/\n'≠0,.s (.int k r),[],[],0⟩:=by subst hd;exact aiW hx hy
def X0(hx:(opd env x).core=.s (.int k n))(hy:(opd env y).core=.s (.int k n')){r:Int}(hd:n.tmod n'=r):Ef P (.binOp .rem t x y p) env m nx ⟨k=k/\n'≠0,.s (.int k r),[],[],0⟩:=by subst hd;exact ajQ hx hy
def X2(hx:(opd env x).core=.s (.int k n))(hy:(opd env y).core=.s (.int k n'))(hd:decide (n'<=n)=c):Ef P (.binOp .geq t x y p) env m nx ⟨k=k,.s (.bool c),[],[],0⟩:=by subst hd;exact P4 hx hy
def aia{j l:Nat}{r:Row}(hx:(opd env x).core=.rp j 0)(hy:(opd env y).core=.s (.int k (i:Int)))(hm:m j=some r)(he:aK P t=e)(hs:P.cellsOf e=1)(hl:rB P t=l):
 Ef P (.indexAddr t x y) env m nx ⟨qA P t=true/\i<l,.rp j i,[],[j],0⟩:=by
 have h:=aiZ (P:=P) (env:=env) (m:=m) (nx:=nx) (t:=t) hx hy hm he hs hl;have h1:0+((i:Int)).toNat*1=i:=by simp
 have h2:(qA P t=true/\(0:Int)<=(i:Int)/\(i:Int)<l)=(qA P t=true/\i<l):=by
  apply propext;constructor
  .rintro⟨a,_,b⟩;exact⟨a,oG⟩
  .rintro⟨a,b⟩;exact⟨a,oG,oG⟩
 rw[h1,h2] at h;exact h
def qd{n:Nat}(h:l.length=n):(l.drop 0).take n=l:=by rw[drop_zero,cW oG]
def Yd{n:Nat}(h:l.length=n):l.take n=l:=cW oG
def OT{z:List D}(hz:z.length=20)(hl:l.length=20):fJ z 0 l=l:=by
 unfold fJ;split
 .simp at hl
 .rw[take_zero,nil_append,drop_eq_nil_of_le oG,append_nil]
def G3(hx:(opd env x).core=.sl es 0):Ef P (.binOp .eql t x (.const (.slice none 0 0)) p) env m nx ⟨bE P t=true,.ub,[],[],0⟩:=⟨by simp[bh,bS,hx,nd,if_true],rfl,rfl⟩
def G4{l:Nat}(hx:(opd env x).core=.sl es l)(hl:l≠0):Ef P (.binOp .eql t x (.const (.slice none 0 0)) p) env m nx ⟨bE P t=true,.s (.bool false),[],[],0⟩:=⟨by simp[bh,bS,hx,nd,ai hl],rfl,rfl⟩
def kN{n sz:Nat}{es:List D}(hs:P.cellsOf e=sz)(h:(cs.drop off).take (n*sz)=es):uX P [(i,cs,e)] (.rs i off n)=.sl es n:=by subst hs h;exact oI
def Bg(h:env n0=.z):aL P ⟨env,m,nx⟩ ⟨ay [(n0,.sl [] 0)],λ_=>none,nx+1⟩:=by
 have h1:=aL.mz (P:=P) env m nx n0 0 h;have h2:=cE (P:=P) (env:=up env n0 (.rs nx 0 0)) (m:=up m nx (some (.cells [] 0))) (nx:=nx+1) [(nx,[],0)] ⟨ap _ _ _,aa⟩ (l:=[(n0,.sl [] 0)]) ⟨(congrArg _ s3).trans (kN (sz:=P.cellsOf 0) rfl oS),aa⟩;exact h1.trans h2
def pK:Sn P bP m .z (.sl [] 0):=λF β w v _ hv=>by
 obtain⟨x,rfl⟩:=hv.D';exact .kf x 0
def ajv{aS bs:List D}(h:qv P bP m aS bs):Sn P bP m (.agg aS) (.agg bs):=λF β w v hl hv=>by
 obtain⟨vs,rfl,hn,hh⟩:=hv.ua;let⟨h1,h2⟩:=PQ hl h;refine .agg _ vs oG λk d u hd hu=>?_;have hk:k<aS.length:=by rw[h1];exact(bO.1 hd).1
 exact h2 k aS[k] d (by simp[hk]) hd u (hh k aS[k] u (by simp[hk]) hu)
def VW{l:List (Nat×D)}{m':Mem}(h:p8 l env)(hm:∀ i,m' i=m i\/m' i=none):aL P ⟨env,m,nx⟩ ⟨ay l,m',nx⟩:=(aL.forget env _ m nx (td h)).trans (.drop _ _ _ _ hm)
def RT:List (Nat×List (Value×D))->Mem->Prop
 |[],_=>True
 |(i,es)::fs,m=>m i=some (.map es)/\RT fs (λj=>if j=i then none else(m j).map (Row.sub (Ck i es)))
def Tl:List (Nat×List (Value×D))->D->D
 |[],d=>d
 |(i,es)::fs,d=>Tl fs (sub (Ck i es) d)
def U4:∀ {fs:List (Nat×List (Value×D))} {env:Env} {m:Mem} {nx:Nat},RT fs m->∃ m',aL P ⟨env,m,nx⟩ ⟨λt=>Tl fs (env t),m',nx⟩
 |[],env,m,nx,_=>⟨m,.refl _⟩
 |(i,es)::fs,env,m,nx,⟨h1,h2⟩=>by
  let⟨m',h⟩:=U4 (env:=λt=>sub (Ck i es) (env t)) (nx:=nx) h2;exact⟨m',(aL.Wf env m nx i es h1).trans h⟩
def ag2(fs:List (Nat×List (Value×D)))(hf:RT fs m){l:List (Nat×D)}(hl:p8 l λt=>Tl fs (env t)):aL P ⟨env,m,nx⟩ ⟨ay l,λ_=>none,nx⟩:=by
 let⟨m',h⟩:=U4 (P:=P) (env:=env) (nx:=nx) hf;exact h.trans ((aL.forget _ _ _ _ (td hl)).trans (aL.drop _ _ _ _ λ_=>.inr rfl))
end
end
end Go.Abs
namespace Go.Abs
open List
open Go
section
abbrev I(n:Int):D:=.s (.int .i64 n)
abbrev U8(n:Int):D:=.s (.int .u8 n)
abbrev B(b:Bool):D:=.s (.bool b)
abbrev S(s:ByteArray):D:=.s (.string s)
abbrev av(l:List Int):D:=.sl (l.map I) l.length
abbrev cH(l:List Int):D:=.sl (l.map U8) l.length
abbrev io(l:List ByteArray):D:=.sl (l.map S) l.length
structure Ins where
 op:Int
 to:Int
 a:Int
 b:Int
 n:Int
 args:List Int
structure iO where
 name:ByteArray
 to:Int
structure End where
 kind:Int
 a:Int
 b:Int
 to:Int
 cz:Int
 name:ByteArray
 ins:Ins
 args:List Int
 aA:List iO
 others:Int
structure bH where
 ins:List Ins
 fin:End
structure aO where
 name:ByteArray
 iter:Bool
 args:Int
 result:Int
 ag:List Int
 aU:List Int
 signals:List ByteArray
 blocks:List bH
def aI(x:Ins):List D:=[U8 x.op,I x.to,I x.a,I x.b,I x.n,av x.args]
def cK(w:iO):List D:=[S w.name,I w.to]
def lg(l:List iO):D:=.sl (l.flatMap cK) l.length
def eV(l:List Ins):D:=.sl (l.flatMap aI) l.length
def aR(x:End):List D:=[U8 x.kind,I x.a,I x.b,I x.to,I x.cz,S x.name,U8 x.ins.op,I x.ins.to,I x.ins.a,I x.ins.b,I x.ins.n,av x.ins.args,av x.args,lg x.aA,I x.others]
def bq(b:bH):List D:=eV b.ins::aR b.fin
def fA(l:List bH):D:=.sl (l.flatMap bq) l.length
def aG(f:aO):List D:=[S f.name,B f.iter,I f.args,U8 f.result,cH f.ag,cH f.aU,io f.signals,fA f.blocks]
def bR(p q:D)(f:aO):List D:=[S f.name,B f.iter,I f.args,U8 f.result,cH f.ag,cH f.aU,io f.signals,fA f.blocks,p,q]
@[simp] theorem asS (p q : D) (x : aO) : (bR p q x).length = 10 := rfl
@[simp] theorem asW (x : Ins) : (aI x).length = 6 := rfl
@[simp] theorem asT (x : iO) : (cK x).length = 2 := rfl
@[simp] theorem asX (x : End) : (aR x).length = 15 := rfl
@[simp] theorem asQ (x : bH) : (bq x).length = 16 := rfl
@[simp] theorem asU (x : aO) : (aG x).length = 8 := rfl
def Jk(x:Ins):(aI x).length=6:=rfl
def Gg(x:iO):(cK x).length=2:=rfl
def Du(x:bH):(bq x).length=16:=rfl
variable{α:Type}
def wF(p:α->Bool)(l:List α):Int:=match l.findIdx? p with
 |some i=>i
 |none=> -1
variable{p:α->Bool}
def Jl{l:List α}{k:Nat}{x:α}(hx:l[k]? =some x)(hp:p x=true)(h:∀ j y,j<k->l[j]? =some y->p y=false):wF p l=k:=by
 have:l.findIdx? p=some k:=by
  rw[findIdx?_eq_some_iff_getElem];let⟨hk,he⟩:=bO.1 hx;refine⟨hk,by rw[he];exact hp,λj hj=>?_⟩;have:=h j l[j] hj (by simp[show j<l.length by omega]);simp[this]
 simp[wF,this]
def Jm{l:List α}(h:∀ (j:Nat) y,l[j]? =some y->p y=false):wF p l= -1:=by
 have:l.findIdx? p=none:=by
  rw[findIdx?_eq_none_iff];intro x hx;let⟨j,hj⟩:=dW hx;exact h j x hj
 simp[wF,this]
def JB(p:α->Bool)(l:List α):decide (0<=wF p l)=l.any p:=by
 unfold wF;cases h:l.findIdx? p with
 |none=>
  rw[findIdx?_eq_none_iff] at h;have:l.any p=false:=any_eq_false.2 λx hx=>by simp[h x hx]
  simp[this]
 |some i=>
  let⟨hi,hp,_⟩:=findIdx?_eq_some_iff_getElem.1 h;have:l.any p=true:=any_eq_true.2 ⟨l[i],oS,hp⟩;simp[this]
def cR(l:List Int):Tr (av l):=.sl (.map λ_=>.s _)
def r6(l:List Int):Tr (cH l):=.sl (.map λ_=>.s _)
def xM(l:List ByteArray):Tr (io l):=.sl (.map λ_=>.s _)
def jP(x:Ins):∀ a∈aI x,Tr a:=.cons (.s _) (.cons (.s _) (.cons (.s _) (.cons (.s _) (.cons (.s _) (.cons (cR _) .nil)))))
def Gv(x:iO):∀ a∈cK x,Tr a:=.cons (.s _) fl
def lh(l:List iO):Tr (lg l):=.sl (.flat Gv)
def WO(l:List Ins):Tr (eV l):=.sl (.flat jP)
def ot(x:End):∀ a∈aR x,Tr a:=.cons (.s _) (.cons (.s _) (.cons (.s _) (.cons (.s _) (.cons (.s _) (.cons (.s _) (.cons (.s _) (.cons (.s _) (.cons (.s _) (.cons (.s _) (.cons (.s _) (.cons (cR _) (.cons (cR _) (.cons (lh _) fl)))))))))))))
def Gh(x:bH):∀ a∈bq x,Tr a:=.cons (WO _) (ot _)
def Jn(l:List bH):Tr (fA l):=.sl (.flat Gh)
def jG(x:aO):∀ a∈aG x,Tr a:=.cons (.s _) (.cons (.s _) (.cons (.s _) (.cons (.s _) (.cons (r6 _) (.cons (r6 _) (.cons (xM _) (.cons (Jn _) .nil)))))))
def Gx{p q:D}(hp:Tr p)(hq:Tr q)(x:aO):∀ a∈bR p q x,Tr a:=.cons (.s _) (.cons (.s _) (.cons (.s _) (.cons (.s _) (.cons (r6 _) (.cons (r6 _) (.cons (xM _) (.cons (Jn _) (.cons hp (.cons hq .nil)))))))))
def po{p q:D}(hp:Tr p)(hq:Tr q)(x:aO):Tr (.agg (bR p q x)):=.agg (Gx hp hq x)
variable{f:aO}
def xE{p q:D}(h1:p.one=true)(h2:q.one=true):(bR p q f).all D.one=true:=by
 simp only[bR,all_cons,all_nil,h1,h2];rfl
abbrev dH(n:Int):D:=.s (.int .u64 n)
abbrev jf(w:List Int):D:=.agg (w.map dH)
def rE(w:List Int):(w.map dH).all D.one=true:=cm.2 λx hx=>by obtain⟨y,_,rfl⟩:=mem_map.1 hx;rfl
variable{i:Nat}{x:Int}
def agE{w:List Int}:((w.map dH).set i (dH x)).all D.one=true:=by rw[<- map_set];exact rE _
def tD(w:List Int):Tr (jf w):=.agg (.map λ_=>.s _)
def sJ(a b:Int):Int:=ns .and .u64 a b
def CX(a b:Int):Int:=ns .or .u64 a b
def yp(w:List Int)(m:Nat):List Int:=w.set (m / 64) (CX (w.getD (m / 64) 0) (IntKind.u64.wrap (1*2 ^ (min (m % 64) 64))))
def mH(w:List Int)(m:Nat):Bool:=sJ ((w.getD (m / 64) 0).fdiv (2 ^ (min (m % 64) 64))) 1==1
def iq(w:List Int)(n:Int):List Int:=if 0<=n then yp w n.toNat else w
def gz(w v:List Int):Nat->List Int
 |0=>w
 |k+1=>(gz w v k).set k (sJ ((gz w v k).getD k 0) (v.getD k 0))
def jL(w v:List Int):List Int:=gz w v 20
@[simp] theorem U5 (w v : List Int) : ∀ k, (gz w v k).length = w.length
 |0=>rfl
 |k+1=>by simp[gz,U5 w v k]
@[simp] theorem asZ (w : List Int) (m : Nat) : (yp w m).length = w.length := by simp [yp]
@[simp] theorem as0 (w : List Int) (n : Int) : (iq w n).length = w.length := by unfold iq; split <;> simp
@[simp] theorem UU (w v : List Int) : (jL w v).length = w.length := U5 w v 20
def wrap_i64{n:Nat}(h:n<2 ^ 62):IntKind.i64.wrap (n:Int)=n:=by
 unfold IntKind.wrap;simp[IntKind.signed,IntKind.bits];omega
def Zc{m:Nat}(h:m<2 ^ 62):IntKind.i64.wrap ((m:Int).tdiv 64)=((m / 64:Nat):Int):=by
 rw[show(m:Int).tdiv 64=((m / 64:Nat):Int) from by rw[Int.tdiv_eq_ediv_of_nonneg oG];omega];exact wrap_i64 oG
def Zd(m:Nat):(m:Int).tmod 64=((m % 64:Nat):Int):=by rw[Int.tmod_eq_emod_of_nonneg oG];omega
def ib(a b:Int):(a==b)=decide (a=b):=rfl
def dz(n a b:Int):Bool:=decide (a<=n)&&decide (n<=b)
def vF(b:Int):Bool:=decide (b<33)||decide (126<b)
def nM(s:ByteArray):Bool:=dz s.size 1 120&& !(dJ s).any vF
def vG(b:Int):Bool:=(decide (b<97)||decide (122<b))&&(decide (b<48)||decide (57<b))
def isName(s:ByteArray):Bool:=dz s.size 1 12&& !(dJ s).any vG
def pj(C k:Int):Bool:=decide (k<1)||decide (C<k)
def gm(l:List Int)(C:Int):Bool:= !l.any (pj C)
def cV(l:List Int)(r:Int):Int:=if 0<=r then l.getD r.toNat 0 else 0
variable{l:List Int}
def vH(h:l[i]? =some x):cV l i=x:=by
 simp[cV,dF,h]
def NS{r:Int}(h:¬ (0<=r/\r<l.length)):cV l r=0:=by
 unfold cV;split
 .rename_i h0;have:l.length<=r.toNat:=by omega
  simp[dF,getElem?_eq_none this]
 .rfl
def jF{n a b:Int}:dz n a b=true↔a<=n/\n<=b:=by simp[dz]
def aff{n a b:Int}:dz n a b=false↔¬ (a<=n/\n<=b):=by
 rw[<- Bool.not_eq_true,jF]
def fB(l:List Int)(r:Int):Bool:=cV l r==1||cV l r==2
def iX(l rs:List Int):Bool:=rs.all (fB l)
def oK(l aU:List Int)(r n:Int):Bool:=dz n 0 (aU.length - 1)&&(cV l r==cV aU n)
def oz(l:List Int)(r want of:Int):Bool:=
 if want=0 then r==0 else if want=1 then cV l r==1 else if want=2 then cV l r==2 else if want=3 then fB l r
 else cV l r !=0&&cV l r==of
structure Shape where
 to:Int
 a:Int
 b:Int
 args:Int
 low:Int
 high:Int
def iW(s:Shape):List D:=[I s.to,I s.a,I s.b,I s.args,I s.low,I s.high]
@[simp] theorem asR (x : Shape) : (iW x).length = 6 := rfl
def UZ(x:Shape):∀ a∈iW x,Tr a:=.cons (.s _) (.cons (.s _) (.cons (.s _) (.cons (.s _) (.cons (.s _) fl))))
def ta(l:List Int)(x:Ins)(s:Shape):Int:=if s.to=0\/s.to=1 then cV l x.a else cV l x.to
def rY(l:List Int)(x:Ins)(s:Shape):Bool:=if s.args=5 then dz x.args.length 1 6&&iX l x.args else if s.args=6 then decide ((x.args.length:Int)=1)&&iX l x.args else decide ((x.args.length:Int)=0)
def p6(l:List Int)(x:Ins)(s:Shape):Bool:=
 oz l x.to s.to 0&&(oz l x.a s.a (ta l x s)&&(oz l x.b s.b (ta l x s)&&(rY l x s&&dz x.n s.low s.high)))
def pG(l:List (Int×Shape)):List (Value×D):=l.map λx=>(.int .u8 x.1,.agg (iW x.2))
def nE:Shape:=⟨0,0,0,0,0,0⟩
def dO(l:List (Int×Shape))(op:Int):Option Shape:=(l.find? λx=>x.1==op).map (·.2)
def gW:List (Int×Shape):=[(1,⟨1,0,0,0, -1000000000,1000000000⟩),(2,⟨3,4,0,0,0,0⟩),(3,⟨1,1,1,0,0,0⟩),(4,⟨1,1,1,0,0,0⟩),(5,⟨1,3,4,0,0,0⟩),(6,⟨1,1,1,0,0,0⟩),(7,⟨1,1,1,0,0,0⟩),(8,⟨1,1,0,0,0,0⟩),
 (9,⟨2,0,0,0,0,1⟩),(10,⟨2,0,0,5,0,5⟩),(11,⟨3,2,0,0,0,5⟩),(12,⟨0,2,3,0,0,5⟩),(13,⟨1,2,0,0,0,0⟩),(14,⟨1,2,0,0,0,0⟩),(15,⟨0,1,0,0,0,0⟩)]
def fX:List (Int×Shape):=[(30,⟨1,1,1,0,0,0⟩),(31,⟨1,1,1,0,0,0⟩),(32,⟨1,1,1,0,0,0⟩),(33,⟨1,1,1,0,0,0⟩),(34,⟨1,1,1,0,0,0⟩),(35,⟨0,2,3,0,0,0⟩),(36,⟨3,2,0,0,0,0⟩),(37,⟨3,2,1,0,0,0⟩),(38,⟨0,2,1,6,0,0⟩)]
def Ex(l:List (Int×Shape)):Tr (.im (pG l)):=.im λx hx=>by
 obtain⟨y,_,rfl⟩:=mem_map.1 hx;exact .agg (UZ _)
def OV(op:Int):∀ l:List (Int×Shape),(gM (.int .u8 op) (pG l)).map (·.2)=(dO l op).map λs=>.agg (iW s)
 |[]=>rfl
 |(o,s)::l=>by
  have ih:=OV op l;unfold pG at ih ⊢;simp only[map_cons,gM,wN,tA,dO,find?_cons] at ih ⊢;by_cases h:o=op
  .subst h;simp
  .have hb:(o==op)=false:=tn h
   simp only[hb,beq_self_eq_true,Bool.and_false,Bool.false_eq_true,if_false,Option.map_map] at ih ⊢;exact ih
def PG{P:Program}{t:TypeId}{C:D}(hz:rh P (uy P t)=C)(op:Int)(l:List (Int×Shape))(J:C=.agg (iW nE)):jM P t true (gM (.int .u8 op) (pG l))=.bu [.agg (iW ((dO l op).getD nE)),.s (.bool (dO l op).isSome)]:=by
 have h:=OV op l;cases h1:gM (.int .u8 op) (pG l) with
 |none=>
  rw[h1] at h;have:dO l op=none:=tn h.symm
  simp[jM,this,hz,J,Option.getD_none,Option.isSome_none,if_true]
 |some x=>
  rw[h1] at h;cases h2:dO l op with
  |none=>rw[h2] at h;simp at h
  |some s=>
   rw[h2] at h;let⟨i,d⟩:=x;simp[Option.map_some,aY] at h;subst h;simp[jM]
def JT{P:Program}{kt:TypeId}(hk:P.underlying kt=some (.int .u8))(l:List (Int×Shape)):(pG l).all (λe=>eN P kt e.1)=true:=by
 refine cm.2 λx hx=>?_;obtain⟨y,_,rfl⟩:=mem_map.1 hx;simp[eN,hk]
def aZ(a b:Int):Bool:=decide (a=b)
def kJ(x:Ins):Bool:=decide ((x.args.length:Int)=0)
def ky(f:aO)(b:Int)(x:Ins)(phis:Bool)(ahead:Int):Bool:=
 if x.op=16 then aZ x.to 0&&(aZ (cV f.ag x.a) 3&&(aZ x.b 0&&(aZ x.n 0&&kJ x)))
 else if x.op=17 then aZ x.a 0&&(aZ x.b 0&&(kJ x&&oK f.ag f.aU x.to x.n))
 else if x.op=18 then aZ x.to 0&&(aZ x.b 0&&(kJ x&&oK f.ag f.aU x.a x.n))
 else if x.op=19 then phis&&(decide (0<b)&&(fB f.ag x.to&&(aZ x.a 0&&(aZ x.b 0&&(aZ x.n 0&&(aZ x.args.length ahead&& !x.args.any λr=> !aZ (cV f.ag r) (cV f.ag x.to)))))))
 else(dO gW x.op).isSome&&p6 f.ag x ((dO gW x.op).getD nE)
def G6(x:Ins):Bool:=decide (x.op=0)&&(decide (x.to=0)&&(decide (x.a=0)&&(decide (x.b=0)&&(decide (x.n=0)&&decide ((x.args.length:Int)=0)))))
def BX(x:End):Bool:=decide (x.kind=0)&&(decide (x.a=0)&&(decide (x.b=0)&&(decide (x.to=0)&&(decide (x.cz=0)&&(x.name.toList==[]&&(decide (x.others= -1)&&(decide ((x.args.length:Int)=0)&&(decide ((x.aA.length:Int)=0)&&G6 x.ins))))))))
def cS(f:aO)(n:Int):Bool:=dz n 0 (f.blocks.length - 1)
def ry(f:aO)(a8:List iO)(i:Nat)(w:iO):Bool:=isName w.name&&(cS f w.to&& !(a8.take i).any λv=>v.name.toList==w.name.toList)
def KL(f:aO)(a8:List iO):Bool:=a8.zipIdx.all λx=>ry f a8 x.2 x.1
variable{a8:List iO}
def TT(h:∀ (i:Nat) w,a8[i]? =some w->ry f a8 i w=true):KL f a8=true:=by
 refine cm.2 λx hx=>?_;let⟨h1,h2⟩:=mem_zipIdx' hx;exact h x.2 x.1 (by rw[h2];simp[h1])
def MS{w:iO}(C:a8[i]? =some w)(h:ry f a8 i w=false):KL f a8=false:=by
 refine Bool.eq_false_iff.2 λht=>?_;have hx:(w,i)∈a8.zipIdx:=mem_zipIdx_iff_getElem?.2 C;have:=cm.1 ht _ hx;rw[h] at this;cases this
def pk(f:aO)(x:End):Bool:=KL f x.aA&&(decide ((x.aA.length:Int)<=7)&&(decide (x.others= -1)||cS f x.others))
def fM:Ins:=⟨0,0,0,0,0,[]⟩
def gZ(f:aO)(x:End):Bool×End:=
 let r:End:={ x with kind:=0 }
 if x.kind=1 then(cS f x.to,{ r with to:=0 })
 else if x.kind=2 then(aZ (cV f.ag x.a) 1&&(cS f x.to&&cS f x.cz),{ r with a:=0,to:=0,cz:=0 })
 else if x.kind=3 then(if f.result≠0/\f.iter=false then aZ (cV f.ag x.a) f.result else aZ x.a (-1),{ r with a:=0 })
 else if x.kind=4 then(isName x.name,{ r with name:=.empty })
 else if x.kind=5 then((dO fX x.ins.op).isSome&&(p6 f.ag x.ins ((dO fX x.ins.op).getD nE)&&(cS f x.to&&pk f x)),{ r with ins:=fM,to:=0,aA:=[],others:= -1 })
 else if x.kind=6 then(nM x.name&&(decide ((x.args.length:Int)<=6)&&(iX f.ag x.args&&((aZ x.a (-1)||fB f.ag x.a)&&(cS f x.to&&pk f x)))),{ r with name:=.empty,args:=[],a:=0,to:=0,aA:=[],others:= -1 })
 else if x.kind=7 then(nM x.name&&(decide ((x.args.length:Int)<=6)&&(iX f.ag x.args&&(aZ (cV f.ag x.a) 3&&cS f x.to))),{ r with name:=.empty,args:=[],a:=0,to:=0 })
 else if x.kind=8 then(aZ (cV f.ag x.a) 3&&(fB f.ag x.b&&(cS f x.to&&(cS f x.cz&&pk f x))),{ r with a:=0,b:=0,to:=0,cz:=0,aA:=[],others:= -1 })
 else if x.kind=9 then(f.iter&&(aZ (cV f.ag x.a) f.result&&cS f x.to),{ r with a:=0,to:=0 })
 else(false,r)
def aC(l:List Int)(n:Int):Bool:=l.any λc=>n==c
def mO(n:Int):Int:=1200+n
def lk:List Int:=[1,2,3,4,5,6,7,8,9,10,11,13,14,17,19]
def mu:List Int:=[30,31,32,33,34,36,37]
def dt(x:Ins):Int:=if aC lk x.op then x.to else if aC mu x.op then x.to else -1
def fI(x:End):Int:=if x.kind=5 then dt x.ins else if aC [6,7] x.kind then x.a else if x.kind=8 then x.b else -1
def my:List Int:=[2,8,11,13,14,15,16,18,36]
def ow:List Int:=[3,4,5,6,7,12,30,31,32,33,34,35,37]
def cN(x:Ins):List Int:=if aC my x.op then [x.a] else if aC ow x.op then [x.a,x.b] else if x.op=10 then x.args else if x.op=38 then x.a::x.b::x.args else []
def dB(x:End):List Int:=if aC [2,8,9] x.kind then [x.a] else if x.kind=3 then(if x.a≠ -1 then [x.a] else []) else if x.kind=5 then cN x.ins else if aC [6,7] x.kind then x.args else []
def jJ(f:aO)(x:End):Bool:=(gZ f x).1&&BX (gZ f x).2
end
end Go.Abs
namespace Go.Abs
open List
section
inductive T(α:Type) where
 |leaf
 |node (v:Option α) (l r:T α)
def yj:Nat->Nat->List Bool
 |0,_=>[]
 |f+1,i=>bif Nat.beq i 0 then [] else bif Nat.beq (i % 2) 1 then true::yj f (i / 2) else false::yj f (i / 2 - 1)
def bits(i:Nat):List Bool:=yj 20 i
variable{α:Type}
def wA(p:List Bool):T α->Option α:=rec (motive:=λ_=>T α->Option α) (λt=>T.rec (motive:=λ_=>Option α) none (λv _ _ _ _=>v) t)
 (λb _ ih t=>T.rec (motive:=λ_=>Option α) none (λ_ l r _ _=>Bool.rec (ih r) (ih l) b) t) p
def EI(v:Option α)(p:List Bool):T α->T α:=rec (motive:=λ_=>T α->T α) (λt=>T.rec (motive:=λ_=>T α) (.node v .leaf .leaf) (λ_ l r _ _=>.node v l r) t)
 (λb _ ih t=>T.rec (motive:=λ_=>T α) (Bool.rec (.node none .leaf (ih .leaf)) (.node none (ih .leaf) .leaf) b) (λu l r _ _=>Bool.rec (.node u l (ih r)) (.node u (ih l) r) b) t) p
def T.get(t:T α)(i:Nat):Option α:=wA (bits i) t
def T.put(t:T α)(i:Nat)(v:Option α):Option (T α):=bif Nat.blt i 1000000 then some (EI v (bits i) t) else none
structure cg where
 env:T D
 mem:T Row
 nx:Nat
def wT:D->D
 | .dq _ _=>.u
 |d=>d
def getD(t:T D)(i:Nat):D:=match t.get i with
 |some d=>d
 |none=>.u
def fx(t:T D):Operand->D
 | .tmp i=>wT (getD t i)
 | .const v=>AH v
 | .global _=>.u
 | .func f=>.fn (.func f) [] []
abbrev gT:=Program->(Operand->D)->T Row->Nat->Option bI
def iw(b:Bool)(d:D):Option bI:=bif b then some ⟨d,[],[],0⟩ else none
def rK(b:Bool)(d:D)(i:Nat):Option bI:=bif b then some ⟨d,[],[i],0⟩ else none
def wB(b:Bool)(nx:Nat)(d:D)(r:Row)(rd:List Nat):Option bI:=bif b then some ⟨d,[(nx,some r)],rd,1⟩ else none
def Fo(b:Bool)(i:Nat)(r:Row):Option bI:=bif b then some ⟨.bu [],[(i,some r)],[i],0⟩ else none
def kB(n:Nat):List D->Bool:=Nat.rec (λ_=>true) (λ_ ih l=>rec false (λ_ t _=>ih t) l) n
def wC(n:Nat):List D->Bool:=Nat.rec (λl=>rec true (λ_ _ _=>false) l) (λ_ ih l=>rec false (λ_ t _=>ih t) l) n
def Qc(n:Nat):List D->List D:=Nat.rec (λl=>l) (λ_ ih l=>rec [] (λ_ t _=>ih t) l) n
def BP(n:Nat):List D->List D:=Nat.rec (λ_=>[]) (λ_ ih l=>rec [] (λa t _=>a::ih t) l) n
def rm(l:List D)(n:Nat):List D:=Qc n l
def zY(P:Program)(t:TypeId)(cs:List D):D:=bif bM P t then .agg (BP (P.cellsOf t) cs) else rec .u (λd _ _=>d) cs
def YK(x:Operand):gT:=λ_ ρ _ _=>some ⟨ρ x,[],[],0⟩
def Qd(c a b:Operand):gT:=λ_ ρ _ _=>match ρ c with
 | .s (.bool true)=>match ρ a with
  | .s (.bool v)=>some ⟨.s (.bool v),[],[],0⟩
  |_=>none
 | .s (.bool false)=>match ρ b with
  | .s (.bool v)=>some ⟨.s (.bool v),[],[],0⟩
  |_=>none
 |_=>none
def Pm(t:TypeId):gT:=λP _ _ nx=>bif EA t then match bm P t with
 |[.s (.pointer none),.z]=>wB (aT P t) nx (.rp nx 0) (.bs false .z t) []
 |_=>none
 else wB (aT P t) nx (.rp nx 0) (.cells (bm P t) t) []
def Q4(t:TypeId)(x:Operand):gT:=λP ρ _ nx=>bif EA t then match (ρ x).cells with
 |[.s (.pointer none),d]=>wB (d.one&&Nat.beq (P.cellsOf t) 2) nx (.rp nx 0) (.bs false d t) []
 |_=>none
 else wB ((ρ x).cells.all D.one) nx (.rp nx 0) (.cells (ρ x).cells t) []
def Em(place:Nat->Option (Nat×Nat))(cells:List D):List (Nat×D)->Option (List D)
 |[]=>some cells
 |(i,d)::rest=>match place i with
  |none=>none
  |some (off,size)=>bif (wC size d.cells&&kB (off+size) cells)&&d.cells.all D.one then Em place (fJ cells off d.cells) rest else none
def parts(ρ:Operand->D):List (Nat×Operand)->List (Nat×D)
 |[]=>[]
 |(i,x)::l=>(i,ρ x)::parts ρ l
def Pn(P:Program)(fs:Array Field)(i:Nat):Option (Nat×Nat):=match fs[i]? with
 |some f=>some (f.offset,P.cellsOf f.type)
 |none=>none
def Qe(b:Bool):Option (List D)->Option bI
 |some cs=>iw b (.agg cs)
 |none=>none
def agf(P:Program)(fs:Array Field):Bool:=fs.toList.all λf=>(P.info? f.type).isSome
def Po(t:TypeId)(ps:Array (Nat×Operand)):gT:=λP ρ _ _=>match P.underlying t with
 |some (.struct fs)=>Qe (aT P t&&agf P fs) (Em (Pn P fs) (bm P t) (parts ρ ps.toList))
 |some (.array _ e)=>Qe (aT P t&&aT P e) (Em (λi=>some (i*P.cellsOf e,P.cellsOf e)) (bm P t) (parts ρ ps.toList))
 |_=>none
def YL(b:Bool)(nx n:Nat)(e:TypeId):Option (List D)->Option bI
 |some cs=>wB (b&&cs.all D.one) nx (.rs nx 0 n) (.cells cs e) []
 |none=>none
def MY(t:TypeId)(n:Nat)(ps:Array (Nat×Operand)):gT:=λP ρ _ nx=>
 YL (bE P t&&(Nat.ble (n*P.cellsOf (aK P t)) 16777216&&Nat.ble n maxLen)) nx n (aK P t) (Em (λi=>some (i*P.cellsOf (aK P t),P.cellsOf (aK P t))) (dp n (bm P (aK P t))) (parts ρ ps.toList))
def Qf(t:TypeId)(a:Operand):gT:=λP ρ m _=>match ρ a with
 | .pt cs=>iw (aT P t&&kB (P.cellsOf t) cs) (zY P t cs)
 | .rp i off=>match m.get i with
  |some (.cells cs _)=>rK (aT P t&&kB (off+P.cellsOf t) cs) (zY P t (rm cs off)) i
  |some (.bs _ x _)=>rK (Nat.beq off 1&&(aT P t&& !bM P t)) x i
  |_=>none
 |_=>none
def Pp(t:TypeId)(a x:Operand):gT:=λP ρ m _=>match ρ a with
 | .rp i off=>match m.get i with
  |some (.cells cs e)=>Fo ((aT P t&&wC (P.cellsOf t) (ρ x).cells)&&(kB (off+P.cellsOf t) cs&&(ρ x).cells.all D.one)) i (.cells (fJ cs off (ρ x).cells) e)
  |some (.bs u _ T)=>Fo (Nat.beq off 1&&(aT P t&&(!bM P t&&(ρ x).one))) i (.bs u (ρ x) T)
  |_=>none
 |_=>none
def NH(x:Operand):gT:=λ_ ρ m _=>match ρ x with
 | .pt cs=>some ⟨.pt cs,[],[],0⟩
 | .rp i off=>match m.get i with
  |some _=>some ⟨.rp i off,[],[i],0⟩
  |none=>none
 |_=>none
def Mi:IntKind->Int->Bool
 | .i64,.ofNat n=>Nat.ble n 9223372036854775807
 | .i64,.negSucc n=>Nat.ble n 9223372036854775807
 | .u8,.ofNat n=>Nat.ble n 255
 | .u64,.ofNat n=>Nat.ble n 18446744073709551615
 |_,_=>false
def BQ(k:IntKind)(n:Int):Int:=bif Mi k n then n else k.wrap n
def rL:Int->Int->Bool
 | .ofNat a,.ofNat b=>Nat.blt a b
 | .negSucc _,.ofNat _=>true
 | .ofNat _,.negSucc _=>false
 | .negSucc a,.negSucc b=>Nat.blt b a
def CE:Int->Int->Bool
 | .ofNat a,.ofNat b=>Nat.beq a b
 | .negSucc a,.negSucc b=>Nat.beq a b
 |_,_=>false
def jT:IntKind->IntKind->Bool
 | .i64,.i64 | .u8,.u8 | .u64,.u64 | .i32,.i32 | .u32,.u32 | .i8,.i8 | .i16,.i16 | .u16,.u16=>true
 |_,_=>false
def sI(b:Bool)(k:IntKind)(n:Int):Option bI:=iw b (.s (.int k n))
def sB(b:Bool)(v:Bool):Option bI:=iw b (.s (.bool v))
def Q5:BinOp->IntKind->IntKind->Int->Int->Option bI
 | .add=>λk k' a b=>sI (jT k k') k (BQ k (a+b))
 | .sub=>λk k' a b=>sI (jT k k') k (BQ k (a - b))
 | .mul=>λk k' a b=>sI (jT k k') k (BQ k (a*b))
 | .quo=>λk k' a b=>sI (jT k k'&& !CE b 0) k (BQ k (a.tdiv b))
 | .rem=>λk k' a b=>sI (jT k k'&& !CE b 0) k (a.tmod b)
 | .shl=>λk _ a b=>sI (!rL b 0) k (k.wrap (a*2 ^ (min b.toNat k.bits)))
 | .shr=>λk _ a b=>sI (!rL b 0) k (a.fdiv (2 ^ (min b.toNat k.bits)))
 | .and=>λk k' a b=>sI (jT k k') k (ns .and k a b)
 | .or=>λk k' a b=>sI (jT k k') k (ns .or k a b)
 | .xor=>λk k' a b=>sI (jT k k') k (ns .xor k a b)
 | .andNot=>λk k' a b=>sI (jT k k') k (ns .andNot k a b)
 | .eql=>λk k' a b=>sB (jT k k') (CE a b)
 | .neq=>λk k' a b=>sB (jT k k') (!CE a b)
 | .lss=>λk k' a b=>sB (jT k k') (rL a b)
 | .leq=>λk k' a b=>sB (jT k k') (!rL b a)
 | .gtr=>λk k' a b=>sB (jT k k') (rL b a)
 | .geq=>λk k' a b=>sB (jT k k') (!rL a b)
def Fp:List UInt8->List UInt8->Bool
 |[],[]=>true
 |a::aS,b::bs=>Nat.beq a.toNat b.toNat&&Fp aS bs
 |_,_=>false
def Il:List UInt8->List UInt8->Bool
 |_,[]=>false
 |[],_::_=>true
 |a::aS,b::bs=>Nat.blt a.toNat b.toNat||(Nat.beq a.toNat b.toNat&&Il aS bs)
def Q6:BinOp->List UInt8->List UInt8->Option bI
 | .eql=>λa b=>sB true (Fp a b)
 | .neq=>λa b=>sB true (!Fp a b)
 | .lss=>λa b=>sB true (Il a b)
 | .geq=>λa b=>sB true (!Il a b)
 | .add=>λa b=>iw (Nat.ble (a.length+b.length) maxLen) (.s (.string ⟨⟨a++b⟩⟩))
 |_=>λ_ _=>none
def XC(P:Program)(op:BinOp)(t:TypeId)(xs ys:List D):Option bI:=match op,BI P t,rC xs ys with
 | .eql,some ks,some q=>iw (decide (q.1.map lW=ks)&& !P.eqGuardType P.depth t) (.s (.bool (jV q.1 q.2)))
 | .neq,some ks,some q=>iw (decide (q.1.map lW=ks)&& !P.eqGuardType P.depth t) (.s (.bool !(jV q.1 q.2)))
 |_,_,_=>none
def YM(P:Program)(op:BinOp)(t:TypeId):D->D->Option bI
 | .s (.int k a),.s (.int k' b)=>Q5 op k k' a b
 | .s (.string a),.s (.string b)=>Q6 op a.data.toList b.data.toList
 | .s (.bool a),.s (.bool b)=>match op with
  | .eql=>sB (uQ P t) (a==b)
  | .neq=>sB (uQ P t) (!(a==b))
  |_=>none
 | .agg xs,.agg ys=>XC P op t xs ys
 |_,_=>none
def Lr:BinOp->Option Bool
 | .eql=>some true
 | .neq=>some false
 |_=>none
def YN(P:Program)(m:T Row)(t:TypeId)(b:Bool):D->Option bI
 | .z=>sB (bE P t) b
 | .rs i _ n=>match m.get i with
  |some (.cells _ _)=>rK (bE P t&&Nat.blt 0 n) (.s (.bool !b)) i
  |_=>none
 | .sl _ n=>bif b then iw (bE P t) (bif Nat.beq n 0 then .ub else .s (.bool false)) else none
 |_=>none
def YO(P:Program)(m:T Row)(t:TypeId)(b:Bool):D->Option bI
 | .rp i _=>match m.get i with
  |some _=>rK (Cp P t) (.s (.bool !b)) i
  |_=>none
 |_=>none
def Q7(op:BinOp)(t:TypeId)(x y:Operand):gT:=λP ρ m _=>match y with
 | .const (.slice none 0 0)=>match Lr op with
  |some b=>YN P m t b (ρ x)
  |none=>none
 | .const (.pointer none)=>match Lr op with
  |some b=>YO P m t b (ρ x)
  |none=>none
 |y=>YM P op t (ρ x) (ρ y)
def Sc(op:UnOp)(x:Operand):gT:=λ_ ρ _ _=>match ρ x with
 | .s v=>match E8 op v with
  |some r=>some ⟨.s r,[],[],0⟩
  |none=>none
 |_=>none
def En :List D->Option (List Int)
 |[]=>some []
 | .s (.int .u8 n)::ds=>match En ds with
  |some l=>some (n::l)
  |none=>none
 |_=>none
def Fq(P:Program)(t:TypeId):Bool:=bE P t&&(match P.underlying (aK P t) with|some (.int .u8)=>true|_=>false)&&Nat.beq (P.cellsOf (aK P t)) 1
def Ls(b:Bool)(n:Nat)(rd:List Nat):Option (List Int)->Option bI
 |some l=>bif b&&Nat.beq l.length n then some ⟨.s (.string (mkStr l)),[],rd,0⟩ else none
 |none=>none
def XD(P:Program)(src:TypeId)(m:T Row):D->Option bI
 | .sl es n=>Ls (Fq P src) n [] (En es)
 | .rs i off n=>match m.get i with
  |some (.cells cs _)=>Ls (Fq P src) n [i] (En (BP n (rm cs off)))
  |_=>none
 | .s (.int _ n)=>match P.underlying src with
  |some (.int _)=>iw (!rL n 0&&rL n 128) (.s (.string (mkStr [n])))
  |_=>none
 |_=>none
def XE(P:Program)(src:TypeId):D->Option bI
 | .s (.string b)=>iw (gR P src&&Nat.ble b.data.toList.length maxLen) (.sl (b.data.toList.map λc=>.s (.int .u8 c.toNat)) b.data.toList.length)
 |_=>none
def XF(P:Program)(src:TypeId)(k:IntKind):D->Option bI
 | .s (.int _ n)=>iw (aT P src) (.s (.int k (BQ k n)))
 |_=>none
def Qg(src dst:TypeId)(x:Operand):gT:=λP ρ m _=>match P.underlying dst with
 |some (.int k)=>XF P src k (ρ x)
 |some .string=>XD P src m (ρ x)
 |some (.slice e)=>match P.underlying e with
  |some (.int .u8)=>XE P src (ρ x)
  |_=>none
 |_=>none
def aj6(f:Fn)(fs cs:Array Operand):gT:=λ_ ρ _ _=>some ⟨.fn f (fs.toList.map ρ) (cs.toList.map ρ),[],[],0⟩
def Q8(r:Option Operand):gT:=λ_ _ _ nx=>match r with
 |none=>some ⟨.mp nx,[(nx,some (.map []))],[],1⟩
 |some _=>none
def Qh(t:TypeId)(l c:Operand):gT:=λP ρ _ nx=>match ρ l,ρ c with
 | .s (.int .i64 (.ofNat n)),.s (.int .i64 (.ofNat k))=>wB ((Nat.beq n k&&Nat.ble n 9223372036854775807)&&(Nat.ble (P.bytesOf (aK P t)*n) 281474976710656&&bE P t)) nx (.rs nx 0 n) (.cells (dp n (bm P (aK P t))) (aK P t)) []
 |_,_=>none
def BD(P:Program)(t:TypeId):List (Value×D)->Bool
 |[]=>true
 |e::es=>eN P t e.1&&BD P t es
def Qi(t:TypeId)(x k:Operand)(ok:Bool):gT:=λP ρ m _=>match qk (ρ k),ρ x with
 |some key,.mp i=>match m.get i with
  |some (.map es)=>rK (lD P t&&(eN P (jb P t) key&&BD P (jb P t) es)) (jM P t ok (gM key es)) i
  |_=>none
 |some key,.im es=>iw (lD P t&&(eN P (jb P t) key&&BD P (jb P t) es)) (jM P t ok (gM key es))
 |some key,.s (.map none)=>iw (lD P t&&eN P (jb P t) key) (jM P t ok none)
 |_,_=>none
def Lu(t:TypeId)(x k v:Operand):gT:=λP ρ m _=>match qk (ρ k),ρ x with
 |some key,.mp i=>match m.get i with
  |some (.map es)=>Fo (lD P t&&(eN P (jb P t) key&&BD P (jb P t) es)) i (.map (oU key (ρ v) es))
  |_=>none
 |_,_=>none
def tC(ρ:Operand->D)(o:Option Operand)(C:Nat):Option Nat:=match o with
 |none=>some C
 |some x=>match ρ x with
  | .s (.int _ (.ofNat n))=>some n
  |_=>none
def WA(P:Program)(t:TypeId)(ρ:Operand->D)(x:D)(lo hi:Option Operand)(c:Operand):Option bI:=match x,tC ρ lo 0,hi,ρ c with
 | .sl es n,some l,some hx,.s (.int _ (.ofNat k))=>match ρ hx with
  | .s (.int _ (.ofNat h))=>bif Nat.beq l 0&&(Nat.beq h n&&Nat.beq k n)&&(lo.isNone) then iw (bE P t&&wC (n*P.cellsOf (aK P t)) es) (.sc es n)
   else iw (bE P t&&(Nat.ble l h&&(Nat.ble h k&&Nat.ble k n))) (.sl ((rm es (l*P.cellsOf (aK P t))).take ((h - l)*P.cellsOf (aK P t))) (h - l))
  |_=>none
 | .z,_,some hx,.s (.int _ (.ofNat k))=>match ρ hx with
  | .s (.int _ (.ofNat h))=>bif Nat.beq h 0&&Nat.beq k 0&&lo.isNone then iw (bE P t) .z else none
  |_=>none
 |_,_,_,_=>none
def Od(P:Program)(t:TypeId)(ρ:Operand->D)(m:T Row)(x:D)(lo hi:Option Operand)(c:Operand):Option bI:=match x,lo,hi,ρ c with
 | .rs i off n,none,some hx,.s (.int _ (.ofNat k))=>match m.get i,ρ hx with
  |some (.cells cs e),.s (.int _ (.ofNat h))=>bif Nat.beq h n&&Nat.beq k n then rK (bE P t&&wC (off+n*P.cellsOf e) cs) (.rs i off n) i else none
  |_,_=>none
 |_,_,_,_=>none
def WB(P:Program)(t:TypeId)(ρ:Operand->D)(m:T Row)(lo hi:Option Operand):D->Option bI
 | .sl es n=>match tC ρ lo 0,tC ρ hi n with
  |some l,some h=>iw (bE P t&&(Nat.ble l h&&Nat.ble h n)) (.sl ((rm es (l*P.cellsOf (aK P t))).take ((h - l)*P.cellsOf (aK P t))) (h - l))
  |_,_=>none
 | .rs i off n=>match m.get i,tC ρ lo 0,tC ρ hi n with
  |some (.cells _ e),some l,some h=>rK (bE P t&&Nat.beq (P.cellsOf e) (P.cellsOf (aK P t))&&(Nat.ble l h&&Nat.ble h n)) (.rs i (off+l*P.cellsOf (aK P t)) (h - l)) i
  |_,_,_=>none
 | .s (.string b)=>match tC ρ lo 0,tC ρ hi b.data.toList.length with
  |some l,some h=>iw (gR P t&&(Nat.ble l h&&Nat.ble h b.data.toList.length)) (.s (.string ⟨⟨(b.data.toList.drop l).take (h - l)⟩⟩))
  |_,_=>none
 | .z=>match tC ρ lo 0,tC ρ hi 0 with
  |some 0,some 0=>iw (bE P t) .z
  |_,_=>none
 |_=>none
def Pq(t:TypeId)(x:Operand)(lo hi C:Option Operand):gT:=λP ρ m _=>match C with
 |none=>WB P t ρ m lo hi (ρ x)
 |some c=>match Od P t ρ m (ρ x) lo hi c with
  |some p=>some p
  |none=>WA P t ρ (ρ x) lo hi c
def Nn(t:TypeId)(x:Operand)(k:Nat):gT:=λP ρ m _=>match du P t k with
 |some (off,ft)=>match ρ x with
  | .pt cs=>iw (Nat.blt 0 (P.cellsOf ft)) (.pt (rm cs off))
  | .rp i o=>match m.get i with
   |some _=>rK (Nat.blt 0 (P.cellsOf ft)) (.rp i (o+off)) i
   |none=>none
  |_=>none
 |none=>none
def Pr(t:TypeId)(x:Operand)(k:Nat):gT:=λP ρ _ _=>match du P t k,ρ x with
 |some (off,ft),.agg cs=>iw (aT P ft&&kB (off+P.cellsOf ft) cs) (zY P ft (rm cs off))
 |_,_=>none
def No(t:TypeId)(x i:Operand):gT:=λP ρ m _=>match ρ x,ρ i with
 | .sl es n,.s (.int _ (.ofNat k))=>iw (bE P t&&(Nat.blt k n&&kB ((k+1)*P.cellsOf (aK P t)) es)) (.pt (rm es (k*P.cellsOf (aK P t))))
 | .rs j off n,.s (.int _ (.ofNat k))=>match m.get j with
  |some _=>rK (bE P t&&Nat.blt k n) (.rp j (off+k*P.cellsOf (aK P t))) j
  |none=>none
 | .rp j off,.s (.int _ (.ofNat k))=>match m.get j with
  |some _=>rK (qA P t&&Nat.blt k (rB P t)) (.rp j (off+k*P.cellsOf (aK P t))) j
  |none=>none
 |_,_=>none
def Ps(t:TypeId)(x i:Operand):gT:=λP ρ _ _=>match ρ x,ρ i with
 | .s (.string b),.s (.int _ (.ofNat k))=>iw (gR P t&&Nat.blt k b.data.toList.length) (.s (.int .u8 (b.data.toList.getD k 0).toNat))
 | .agg cs,.s (.int _ (.ofNat k))=>iw (qA P t&&(Nat.blt k (rB P t)&&kB ((k+1)*P.cellsOf (aK P t)) cs)) (zY P (aK P t) (rm cs (k*P.cellsOf (aK P t))))
 |_,_=>none
def Q9:List D->Nat->Option D
 |[],_=>none
 |d::_,0=>some d
 |_::ds,n+1=>Q9 ds n
def Oe(x:Operand)(k:Nat):gT:=λ_ ρ _ _=>match ρ x with
 | .bu cs=>match Q9 cs k with
  |some d=>some ⟨d,[],[],0⟩
  |none=>none
 |_=>none
def Pt(t:TypeId)(x:Operand):gT:=λP ρ _ _=>match qk (ρ x) with
 |some v=>iw (plain (.iface t v)&&AI P t) (.s (.iface t v))
 |none=>none
def OM(x:Operand)(t:TypeId)(ok:Bool):gT:=λP ρ _ _=>bif ok then match ρ x with
 | .s v=>iw ((R2 v&&AI P t)&&(aT P t&&yR P t)) (Ed P t v)
 |_=>none
 else none
abbrev wU:=Program->(Operand->D)->T Row->Nat->List Operand->List TypeId->Option bI
def ZU:wU:=λP ρ m _ xs ts=>match xs,ts with
 |[x],[t]=>match ρ x with
  | .sl _ n=>iw (bE P t) (.s (.int .i64 (.ofNat n)))
  | .rs i _ n=>match m.get i with
   |some _=>rK (bE P t) (.s (.int .i64 (.ofNat n))) i
   |none=>none
  | .z=>iw (bE P t) (.s (.int .i64 (.ofNat 0)))
  | .s (.string b)=>iw (gR P t) (.s (.int .i64 (.ofNat b.data.toList.length)))
  | .agg _=>iw (qA P t) (.s (.int .i64 (.ofNat (rB P t))))
  | .mp i=>match m.get i with
   |some (.map es)=>rK (lD P t) (.s (.int .i64 (.ofNat es.length))) i
   |_=>none
  |_=>none
 |_,_=>none
def Kz(m:T Row)(sz:Nat):D->Option (List Nat×Nat×List D)
 | .sl es n=>bif kB (n*sz) es then some ([],n,BP (n*sz) es) else none
 | .z=>some ([],0,[])
 | .rs i off n=>match m.get i with
  |some (.cells cs _)=>bif kB (off+n*sz) cs then some ([i],n,BP (n*sz) (rm cs off)) else none
  |_=>none
 |_=>none
def Eo(i:Nat):List Nat->Bool
 |[]=>true
 |j::l=> !Nat.beq j i&&Eo i l
def ZV(P:Program)(m:T Row)(nx:Nat)(t:TypeId)(s:D)(rd:List Nat)(k:Nat)(news:List D):Option bI:=match s with
 | .z=>wB (bE P t&&(Nat.blt 0 (P.cellsOf (aK P t))&&(Nat.ble k maxLen&&Nat.ble (k*P.bytesOf (aK P t)) 140737488355328))) nx (.rs nx 0 k) (.cells news (aK P t)) rd
 | .sc es n=>wB ((bE P t&&wC (n*P.cellsOf (aK P t)) es)&&((Nat.blt 0 k&&Nat.blt 0 (P.cellsOf (aK P t)))&&(Nat.ble (n+k) maxLen&&Nat.ble ((n+k)*P.bytesOf (aK P t)) 140737488355328))) nx (.rs nx 0 (n+k)) (.cells (es++news) (aK P t)) rd
 | .rs i off n=>match m.get i with
  |some (.cells cs e)=>bif ((bE P t&&Nat.beq e (aK P t))&&(Nat.blt 0 (P.cellsOf (aK P t))&&wC (off+n*P.cellsOf (aK P t)) cs))&&((Nat.ble (n+k) maxLen&&Nat.ble ((n+k)*P.bytesOf (aK P t)) 140737488355328)&&Eo i rd) then
   some ⟨.rs nx 0 (n+k),[(i,none),(nx,some (.cells (rm cs off++news) e))],i::rd,1⟩ else none
  |_=>none
 |_=>none
def YP(P:Program)(m:T Row)(nx:Nat)(t u:TypeId)(s:D)(b:ByteArray):Option bI:=match s with
 | .z=>wB ((Fq P t&&gR P u)&&(Nat.ble b.size maxLen&&Nat.ble (b.size*P.bytesOf (aK P t)) 140737488355328)) nx (.rs nx 0 b.size) (.cells (B2 b) (aK P t)) []
 | .rs i off n=>match m.get i with
  |some (.cells cs e)=>bif (Nat.beq e (aK P t)&&(Fq P t&&gR P u))&&(wC (off+n) cs&&(Nat.ble (n+b.size) maxLen&&Nat.ble ((n+b.size)*P.bytesOf (aK P t)) 140737488355328)) then
   some ⟨.rs nx 0 (n+b.size),[(i,none),(nx,some (.cells (rm cs off++B2 b) e))],[i],1⟩ else none
  |_=>none
 |_=>none
def WC:wU:=λP ρ m nx xs ts=>match xs,ts with
 |[s,x],[t,u]=>match ρ x with
  | .s (.string b)=>YP P m nx t u (ρ s) b
  |d=>bif Nat.beq t u then match Kz m (P.cellsOf (aK P t)) d with
    |some (rd,k,news)=>ZV P m nx t (ρ s) rd k news
    |none=>none
   else none
 |_,_=>none
def ZW:wU:=λ_ ρ _ _ xs ts=>match xs,ts with
 |[x,y],[_,_]=>match ρ x,ρ y with
  | .s (.int k a),.s (.int k' b)=>sI (jT k k') k (bif rL b a then b else a)
  |_,_=>none
 |_,_=>none
def XG:wU:=λP ρ m _ xs ts=>match xs,ts with
 |[x],[t]=>match ρ x with
  | .rs i off n=>match m.get i with
   |some (.cells cs e)=>Fo (bE P t&&(Nat.beq e (aK P t)&&kB (off+n*P.cellsOf e) cs)) i (.cells (fJ cs off (dp n (bm P e))) e)
   |_=>none
  |_=>none
 |_,_=>none
def WD:wU:=λP ρ m _ xs ts=>match xs,ts with
 |[x,k],[t,_]=>match qk (ρ k),ρ x with
  |some key,.mp i=>match m.get i with
   |some (.map es)=>Fo (lD P t&&(eN P (jb P t) key&&BD P (jb P t) es)) i (.map (wx key es))
   |_=>none
  |_,_=>none
 |_,_=>none
def YQ:wU:=λP ρ m _ xs ts=>match xs,ts with
 |[x,y],[t,u]=>match ρ x with
  | .rs i off n=>match m.get i,Kz m (P.cellsOf (aK P t)) (ρ y) with
   |some (.cells cs e),some (rd,k,news)=>bif (Nat.beq t u&&Nat.beq e (aK P t))&&(bE P t&&(Nat.ble k n&&kB (off+n*P.cellsOf (aK P t)) cs)) then
    some ⟨.s (.int .i64 (.ofNat k)),[(i,some (.cells (fJ cs off news) e))],i::rd,0⟩ else none
   |_,_=>none
  |_=>none
 |_,_=>none
def XH:wU:=λ_ ρ m _ xs ts=>match xs,ts with
 |[s],[_]=>match ρ s with
  | .rs i off n=>match m.get i with
   |some _=>rK (Nat.blt 0 n) (.rp i off) i
   |none=>none
  |_=>none
 |_,_=>none
def YR:wU:=λP ρ m _ xs ts=>match xs,ts with
 |[p,n],[t,_]=>match ρ p,ρ n with
  | .rp i off,.s (.int _ (.ofNat k))=>match m.get i with
   |some (.cells cs e)=>match En (BP k (rm cs off)),P.underlying t with
    |some l,some (.pointer e')=>bif (Nat.beq k l.length&&Nat.beq e' e)&&((Nat.blt 0 l.length&&Nat.beq (P.cellsOf e) 1)&&(Nat.ble l.length maxLen&&l.all λx=> !rL x 0&&rL x 256)) then
     some ⟨.s (.string (mkStr l)),[(i,none)],[i],0⟩ else none
    |_,_=>none
   |_=>none
  |_,_=>none
 |_,_=>none
def noB:wU:=λ_ _ _ _ _ _=>none
def buK:Builtin->wU
 | .len=>ZU
 | .append=>WC
 | .min=>ZW
 | .clear=>XG
 | .delete=>WD
 | .copy=>YQ
 | .unsafeSliceData=>XH
 | .unsafeString=>YR
 |_=>noB
def Gq(b:Builtin)(xs:Array Operand)(ts:Array TypeId):gT:=λP ρ m nx=>buK b P ρ m nx xs.toList ts.toList
def Mj:gT:=λ_ _ _ _=>none
def YS(c:Call):gT:=match c.callee with
 | .builtin b=>Gq b c.args c.argTypes
 |_=>Mj
def Im:Op->gT
 | .move x=>YK x
 | .assign x=>YK x
 | .pick c a b=>Qd c a b
 | .alloc t=>Pm t
 | .box t x=>Q4 t x
 | .build t ps=>Po t ps
 | .buildSlice t n ps=>MY t n ps
 | .load t a=>Qf t a
 | .store t a x=>Pp t a x
 | .nilCheck x=>NH x
 | .binOp op t x y _=>Q7 op t x y
 | .unOp op _ x=>Sc op x
 | .convert src dst x=>Qg src dst x
 | .makeFunc f fs cs=>aj6 f fs cs
 | .makeMap _ r=>Q8 r
 | .makeSlice t l c=>Qh t l c
 | .lookup t x k ok=>Qi t x k ok
 | .mapUpdate t x k v=>Lu t x k v
 | .insert t x k v=>Lu t x k v
 | .slice t x lo hi C=>Pq t x lo hi C
 | .fieldAddr t x k=>Nn t x k
 | .field t x k=>Pr t x k
 | .indexAddr t x i=>No t x i
 | .index t x i=>Ps t x i
 | .extract x k=>Oe x k
 | .makeInterface t x=>Pt t x
 | .typeAssert x _ t ok=>OM x t ok
 | .call c=>YS c
 |_=>Mj
end
abbrev Hf:=List D->T Row->Nat->Option (Bool×T Row×Nat)
abbrev Hd:=List (Nat×Hf)
def Hz:Hd->Nat->Option Hf
 |[],_=>none
 |(j,h)::l,i=>bif Nat.beq j i then some h else Hz l i
abbrev Ev:=Hd->Bool->Code->cg->Option (Exit×cg)
abbrev qF:=(D ⊕ List PanicEntry)×T Row×Nat
abbrev mX:=FuncId->List D->T Row->Nat->Option qF
abbrev qb:=FuncId->List D->T Row->Nat->Option bI
abbrev CF:=Option (Option (List PanicEntry)×cg)
structure Ctx where
 jk:FuncId->Option (Func×Code)
 known:FuncId->List D->Option D:=λ_ _=>none
 GX:FuncId->List D->T Row->Nat->Option qF:=λ_ _ _ _=>none
 deep:List Nat:=[]
def Ra(t:T D):Option Nat->D->Option (T D)
 |none,_=>some t
 |some i,d=>t.put i (some d)
def HA(m:T Row):List (Nat×Option Row)->Option (T Row)
 |[]=>some m
 |(i,r)::us=>match m.put i r with
  |some m'=>HA m' us
  |none=>none
def Aj(c:cg)(dst:Option Nat)(d:D)(m:T Row)(nx:Nat):Option cg:=match Ra c.env dst d with
 |some env=>some ⟨env,m,nx⟩
 |none=>none
def Ak(c:cg)(dst:Option Nat)(p:bI):Option cg:=match HA c.mem p.bn with
 |some m=>Aj c dst p.val m (c.nx+p.new)
 |none=>none
def Io:Option cg->CF
 |some c=>some (none,c)
 |none=>none
def ZX(c:cg)(dst:Option Nat):Option bI->CF
 |some p=>Io (Ak c dst p)
 |none=>none
def Rb(c:cg)(dst:Option Nat):Option qF->CF
 |some (.inl d,m,nx)=>Io (Aj c dst d m nx)
 |some (.inr ch,m,nx)=>some (some ch,⟨c.env,m,nx⟩)
 |none=>none
def anH(c:cg)(dst:Option Nat):Option (Bool×T Row×Nat)->CF
 |some (b,m,nx)=>Io (Aj c dst (.s (.bool b)) m nx)
 |none=>none
abbrev Fs:=Program->Hd->mX->Option Nat->cg->CF
def fK(k:gT):Fs:=λP _ _ dst c=>ZX c dst (k P (fx c.env) c.mem c.nx)
def Pu(i:Nat)(args:List D):Fs:=λ_ hd _ dst c=>match Hz hd i,c.mem.get i with
 |some h,some (.lp .ready)=>anH c dst (h args c.mem c.nx)
 |_,_=>none
def XI(f:Operand)(xs:Array Operand):Fs:=λP hd call dst c=>match fx c.env f with
 | .fn (.func g) fs cs=>Rb c dst (call g (fs++xs.toList.map (fx c.env)++cs) c.mem c.nx)
 | .yl i=>Pu i (xs.toList.map (fx c.env)) P hd call dst c
 |_=>none
def XJ(x:Operand):Fs:=λ_ _ _ _ c=>match fx c.env x with
 | .s (.iface t v)=>some (some [{ v:=.iface t v,recovered:=false }],c)
 |_=>none
def YT(c:Call):Fs:=match c.callee with
 | .value f=>XI f c.args
 | .builtin b=>fK (Gq b c.args c.argTypes)
 |_=>fK Mj
def Ip:Op->Fs
 | .call c=>YT c
 | .panic x=>XJ x
 |o=>fK (Im o)
def KA(ops:Array Oper)(j:Nat)(b:Bool)(c:cg):Option Bool:=match ops[j]? with
 |some o=>match o.dst with
  |some t=>mA (getD c.env t) b
  |none=>none
 |none=>none
def aj7(dst:Option Nat)(c:cg):CF:=Io (Aj c dst yh c.mem c.nx)
def Sd(P:Program)(hd:Hd)(call:mX)(ops:Array Oper)(o:Oper)(c:cg):CF:=match o.guard with
 |none=>Ip o.op P hd call o.dst c
 |some (j,b)=>match KA ops j b c with
  |none=>none
  |some false=>aj7 o.dst c
  |some true=>Ip o.op P hd call o.dst c
def uB(P:Program)(hd:Hd)(call:mX)(ops:Array Oper):List Oper->cg->Option (Exit×cg)
 |[],c=>some (.normal,c)
 |o::os,c=>match Sd P hd call ops o c with
  |some (none,c')=>uB P hd call ops os c'
  |some (some ch,c')=>some (.panic ch,c')
  |none=>none
abbrev Mk:=Program->qb->cg->Option bI
def gK(k:gT):Mk:=λP _ c=>k P (fx c.env) c.mem c.nx
def XK(f:Operand)(xs:Array Operand):Mk:=λ_ call c=>match fx c.env f with
 | .fn (.func g) fs cs=>call g (fs++xs.toList.map (fx c.env)++cs) c.mem c.nx
 |_=>none
def YU(c:Call):Mk:=match c.callee with
 | .value f=>XK f c.args
 | .builtin b=>gK (Gq b c.args c.argTypes)
 |_=>gK Mj
def Ml:Op->Mk
 | .call c=>YU c
 |o=>gK (Im o)
def K0(P:Program)(call:qb)(ops:Array Oper)(o:Oper)(c:cg):Option bI:=match o.guard with
 |none=>Ml o.op P call c
 |some (j,b)=>match KA ops j b c with
  |none=>none
  |some false=>some ⟨yh,[],[],0⟩
  |some true=>Ml o.op P call c
def D5(P:Program)(call:qb)(ops:Array Oper):List Oper->cg->Option (List bI×cg)
 |[],c=>some ([],c)
 |o::os,c=>match K0 P call ops o c with
  |some p=>match Ak c o.dst p with
   |some c'=>match D5 P call ops os c' with
    |some (ps,c'')=>some (p::ps,c'')
    |none=>none
   |none=>none
  |none=>none
def meets(l:List Nat):List Nat->Bool
 |[]=>false
 |x::xs=> !Eo x l||meets l xs
def XL(ps:List bI)(q:Nat×Nat):Bool:=match ps[q.1]?,ps[q.2]? with
 |some a,some b=> !meets b.rd a.wr&&(!meets b.wr a.wr&& !meets a.rd b.wr)
 |_,_=>false
def BE(ps:List bI):List (Nat×Nat)->Bool
 |[]=>true
 |q::l=>XL ps q&&BE ps l
def K2(P:Program)(hd:Hd)(jv:mX)(kL:qb)(ops:Array Oper)(c:cg):Option (List (Nat×Nat))->Option (Exit×cg)
 |some cf=>match D5 P kL ops ops.toList c with
  |some (ps,c')=>bif BE ps cf then some (.normal,c') else none
  |none=>bif BM ops then match D5 P kL ops (ops.toList.take (ops.size - 1)) c with
   |some (ps,c')=>bif BE ps cf then uB P hd jv ops (ops.toList.drop (ops.size - 1)) c' else none
   |none=>none
   else none
 |none=>none
def zN:Nat->List D->T D->Option (T D)
 |_,[],t=>some t
 |k,d::ds,t=>match t.put k (some d) with
  |some C=>zN (k+1) ds C
  |none=>none
def DL:T D->List Tmp->List D->Option (T D)
 |t,p::ps,d::ds=>match t.put p (some d) with
  |some C=>DL C ps ds
  |none=>none
 |t,_,_=>some t
def Rc(P:Program)(c:cg):ResultVar->Option D
 | .tmp t=>some (getD c.env t)
 | .cell a t=>match getD c.env a with
  | .rp i off=>match c.mem.get i with
   |some (.cells cs _)=>bif aT P t&&kB (off+P.cellsOf t) cs then some (zY P t (rm cs off)) else none
   |_=>none
  | .pt cs=>bif aT P t&&kB (P.cellsOf t) cs then some (zY P t cs) else none
  |_=>none
def HB(P:Program)(c:cg):List ResultVar->Option (List D)
 |[]=>some []
 |r::rs=>match Rc P c r with
  |some d=>match HB P c rs with
   |some ds=>some (d::ds)
   |none=>none
  |none=>none
def ug(P:Program)(fn:Func)(s:cg):Option qF:=match HB P s fn.results.toList with
 |some ds=>some (.inl (uz ds),s.mem,s.nx)
 |none=>none
def KB(P:Program)(fn:Func):Option (Exit×cg)->Option qF
 |some (.normal,s)=>ug P fn s
 |some (.ret,s)=>ug P fn s
 |some (.panic ch,s)=>some (.inr ch,s.mem,s.nx)
 |_=>none
def Al(P:Program)(x:Ctx)(ev:Ev)(hd:Hd)(f:FuncId)(args:List D)(m:T Row)(nx:Nat):Option qF:=
 match x.jk f with
 |none=>none
 |some (fn,c)=>bif kB args.length (replicate fn.ntmps .u) then
  match zN 0 args .leaf with
  |none=>none
  |some t=>KB P fn (ev hd true c ⟨t,m,nx⟩)
  else none
def qG:Nat->D->Bool
 |0,_=>false
 |n+1,d=>match d with
  | .rs .. | .rp .. | .mp _ | .sc .. | .yl _=>false
  | .dq _ d=>qG n d
  | .agg cs | .bu cs | .pt cs | .sl cs _=>cs.all (qG n)
  | .fn _ fs cs=>fs.all (qG n)&&cs.all (qG n)
  | .im es=>es.all λx=>qG n x.2
  |_=>true
def jW{α β:Type}(f:α->Option (β×List Nat)):List α->Option (List β×List Nat)
 |[]=>some ([],[])
 |x::xs=>match f x with
  |none=>none
  |some y=>match jW f xs with
   |none=>none
   |some ys=>some (y.1::ys.1,y.2++ys.2)
def dE(P:Program)(m:T Row):Nat->D->Option (D×List Nat)
 |0,_=>none
 |n+1,d=>match d with
  | .mp i=>match m.get i with
   |some (.map es)=>(jW (λx=>(dE P m n x.2).map λy=>((x.1,y.1),y.2)) es).map λx=>(.im x.1,i::x.2)
   |_=>none
  | .im es=>(jW (λx=>(dE P m n x.2).map λy=>((x.1,y.1),y.2)) es).map λx=>(.im x.1,x.2)
  | .rs i off k=>match m.get i with
   |some (.cells cs e)=>(jW (dE P m n) ((cs.drop off).take (k*P.cellsOf e))).map λx=>(.sl x.1 k,i::x.2)
   |_=>none
  | .rp i off=>match m.get i with
   |some (.cells cs _)=>(jW (dE P m n) (cs.drop off)).map λx=>(.pt x.1,i::x.2)
   |_=>none
  | .dq true d=>(dE P m n d).map λx=>(.dq true x.1,x.2)
  | .dq false _=>some (.dq false .u,[])
  | .agg cs=>(jW (dE P m n) cs).map λx=>(.agg x.1,x.2)
  | .bu cs=>(jW (dE P m n) cs).map λx=>(.bu x.1,x.2)
  | .sl cs k=>(jW (dE P m n) cs).map λx=>(.sl x.1 k,x.2)
  | .pt cs=>(jW (dE P m n) cs).map λx=>(.pt x.1,x.2)
  | .fn f fs cs=>match jW (dE P m n) fs with
   |none=>none
   |some x=>(jW (dE P m n) cs).map λy=>(.fn f x.1 y.1,x.2++y.2)
  | .s v=>some (.s v,[])
  | .ub=>some (.ub,[])
  | .u=>some (.u,[])
  | .z=>some (.z,[])
  | .sc .. | .yl _=>none
def depth:Nat:=12
def K3(P:Program)(m:T Row)(d:D):Option (D ⊕ (List D×Nat×TypeId)):=match dE P m depth d with
 |some (r,_)=>some (.inl r)
 |none=>none
def zZ(P:Program):Option qF->Option (D ⊕ (List D×Nat×TypeId))
 |some (.inl (.rs i 0 k),m,_)=>match m.get i with
  |some (.cells es t)=>bif es.all (qG depth) then some (.inr (es,k,t)) else K3 P m (.rs i 0 k)
  |_=>none
 |some (.inl d,m,_)=>K3 P m d
 |_=>none
def yk(P:Program)(x:Ctx)(ev:Ev)(f:FuncId)(args:List D):Option (D ⊕ (List D×Nat×TypeId)):=zZ P (Al P x ev [] f args .leaf 0)
def aj8(nx:Nat):Option (D ⊕ (List D×Nat×TypeId))->Option bI
 |some (.inl r)=>some ⟨r,[],[],0⟩
 |some (.inr (es,k,t))=>some ⟨.rs nx 0 k,[(nx,some (.cells es t))],[],1⟩
 |none=>none
def K4(bP:List Nat):Option (D ⊕ (List D×Nat×TypeId))->Option bI
 |some (.inl r)=>bif r.lY then some ⟨r,[],bP,0⟩ else none
 |_=>none
def Ha(P:Program)(x:Ctx)(ev:Ev):qb:=λf args m nx=>match x.known f args with
 |some r=>some ⟨r,[],[],0⟩
 |none=>bif args.all (qG depth) then aj8 nx (yk P x ev f args)
  else match jW (dE P m depth) args with
   |none=>none
   |some (kK,bP)=>match x.known f kK with
    |some r=>K4 bP (some (.inl r))
    |none=>K4 bP (yk P x ev f kK)
def CG(f:Nat):List Nat->Bool
 |[]=>false
 |g::l=>bif Nat.beq g f then true else CG f l
def Ep:Nat->D->Bool
 |0,_=>false
 |n+1,d=>match d with
  | .s _ | .ub | .z=>true
  | .agg cs | .bu cs=>cs.all (Ep n)
  |_=>false
def YV(x:Ctx)(f:FuncId):Option (List D×List Nat)->Option D
 |some (args,_)=>match x.known f args with
  |some r=>bif Ep depth r then some r else none
  |none=>none
 |none=>none
def BS(P:Program)(x:Ctx)(ev:Ev)(hd:Hd):mX:=λf args m nx=>match x.known f args with
 |some r=>some (.inl r,m,nx)
 |none=>match x.GX f args m nx with
  |some r=>some r
  |none=>match bif CG f x.deep then YV x f (jW (dE P m depth) args) else none with
   |some r=>some (.inl r,m,nx)
   |none=>Al P x ev hd f args m nx
def Hb(il:Nat)(b:Bool)(k:RS)(s:cg):Option (Bool×T Row×Nat):=match s.mem.get il with
 |some (.lp .busy)=>match s.mem.put il (some (.lp k)) with
  |some m=>some (b,m,s.nx)
  |none=>none
 |_=>none
def XM(il:Nat):Option (Exit×cg)->Option (Bool×T Row×Nat)
 |some (.normal,s)=>Hb il true .ready s
 |some (.ret,s)=>Hb il false (.done .ret) s
 |some (.exit i,s)=>Hb il false (.done (.exit i)) s
 |_=>none
def XN(ev:Ev)(hd:Hd)(il:Nat)(body:Code):Option (Exit×cg)->Option (Bool×T Row×Nat)
 |some (.normal,s)=>match s.mem.get il with
  |some (.lp .ready)=>match s.mem.put il (some (.lp .busy)) with
   |some m=>XM il (ev hd false body ⟨s.env,m,s.nx⟩)
   |none=>none
  |_=>none
 |_=>none
def GY(ev:Ev)(hd:Hd)(il:Nat)(env:T D)(ps:List Tmp)(assign body:Code):Hf:=λargs m nx=>
 bif Nat.beq args.length ps.length then match DL env ps args with
  |some t=>XN ev hd il body (ev hd false assign ⟨t,m,nx⟩)
  |none=>none
 else none
def HC(il:Nat)(env:T D)(m:T Row)(nx:Nat)(e:Exit):Option (Exit×cg):=match m.put il none with
 |some m'=>some (e,⟨env,m',nx⟩)
 |none=>none
def XO(il:Nat)(env:T D):Option qF->Option (Exit×cg)
 |some (.inl _,m,nx)=>match m.get il with
  |some (.lp .ready)=>HC il env m nx .normal
  |some (.lp (.done .ret))=>HC il env m nx .ret
  |some (.lp (.done (.exit i)))=>HC il env m nx (.exit i)
  |_=>none
 |_=>none
abbrev uj:=Program->Ctx->Ev->Hd->Bool->cg->Option (Exit×cg)
def YW:uj:=λ_ _ _ _ _ s=>some (.normal,s)
def ahW(ops:Array Oper):Bool->uj
 |false=>λP x ev hd _ s=>uB P hd (BS P x ev hd) ops ops.toList s
 |true=>λP x ev hd _ s=>K2 P hd (BS P x ev hd) (Ha P x ev) ops s (bV ops)
def K5(ev:Ev)(hd:Hd)(rf:Bool)(b:Code):Option (Exit×cg)->Option (Exit×cg)
 |some (.normal,s)=>ev hd rf b s
 |r=>r
def anI(a b:Code):uj:=λ_ _ ev hd rf s=>K5 ev hd rf b (ev hd rf a s)
def aj9(c:Operand)(a b:Code):uj:=λ_ _ ev hd rf s=>match fx s.env c with
 | .s (.bool true)=>ev hd rf a s
 | .s (.bool false)=>ev hd rf b s
 |_=>none
def Qj(id:Nat):Option (Exit×cg)->Option (Exit×cg)
 |some (.exit i,s)=>bif Nat.beq i id then some (.normal,s) else some (.exit i,s)
 |r=>r
def ai6(id:Nat)(b:Code):uj:=λ_ _ ev hd rf s=>Qj id (ev hd rf b s)
def ZY:Option (Exit×cg)->Option (Exit×cg)
 |some (.goto _,_)=>none
 |r=>r
def ai7(b:Code):uj:=λ_ _ ev hd rf s=>ZY (ev hd rf b s)
def aj'(b:Code):uj:=λ_ _ ev hd rf s=>K5 ev hd rf (.loop b) (ev hd rf b s)
def Pv(g:Operand)(ps:Array Tmp)(assign body:Code):uj:=λP x ev hd rf s=>bif rf then match fx s.env g with
 | .fn (.func f) fs cs=>match s.mem.put s.nx (some (.lp .ready)) with
  |none=>none
  |some C=>XO s.nx s.env (Al P x ev ((s.nx,GY ev hd s.nx s.env ps.toList assign body)::hd) f (fs++[.yl s.nx]++cs) C (s.nx+1))
 |_=>none
 else none
def YX(e:Exit):uj:=λ_ _ _ _ _ s=>some (e,s)
def aka:uj:=λ_ _ _ _ _ _=>none
def codeF:Code->uj
 | .skip=>YW
 | .region _ ops dr=>ahW ops dr
 | .seq a b=>anI a b
 | .cond c a b=>aj9 c a b
 | .block id b=>ai6 id b
 | .scope b=>ai7 b
 | .loop b=>aj' b
 | .rangeFunc g ps assign body=>Pv g ps assign body
 | .exit id=>YX (.exit id)
 | .label _=>YW
 | .ret=>YX .ret
 |_=>aka
def mi(P:Program)(x:Ctx):Nat->Ev
 |0=>λ_ _ _ _=>none
 |n+1=>λhd rf c s=>codeF c P x (mi P x n) hd rf s
def NI:∀ (f i j:Nat),i+1<2 ^ f->j+1<2 ^ f->yj f i=yj f j->i=j
 |0,i,j,hi,_,_=>by simp at hi
 |f+1,i,j,hi,hj,h=>by
  have h2:2 ^ (f+1)=2*2 ^ f:=by rw[Nat.pow_succ];omega
  simp[yj,Bool.cond_eq_ite,Nat.beq_eq] at h;by_cases J:i=0<;>by_cases O:j=0
  .omega
  .rw[bi J,ai O] at h;split at h<;>cases h
  .rw[ai J,bi O] at h;split at h<;>cases h
  .rw[ai J,ai O] at h;by_cases i1:i % 2=1<;>by_cases C:j % 2=1
   .rw[bi i1,bi C] at h;have:=NI f (i / 2) (j / 2) oG oG (cons.inj h).2;omega
   .rw[bi i1,ai C] at h;cases h
   .rw[ai i1,bi C] at h;cases h
   .rw[ai i1,ai C] at h;have:=NI f (i / 2 - 1) (j / 2 - 1) oG oG (cons.inj h).2;omega
def Be{α:Type}:∀ p:List Bool,wA p (T.leaf:T α)=none
 |[]=>rfl
 |_::_=>rfl
def Ux{α:Type}(v:Option α):∀ (p q:List Bool) (t:T α),wA q (EI v p t)=if q=p then v else wA q t
 |[],[],t=>by cases t<;>rfl
 |[],b::q,t=>by
  cases t with
  |leaf=>cases b<;>simp[reduceCtorEq,if_false]<;>exact Be q
  |node u l r=>rfl
 |b::p,[],t=>by cases t<;>cases b<;>rfl
 |b::p,c::q,t=>by
  have ih:=λt=>Ux v p q t;cases t with
  |leaf=>
   cases b<;>cases c
   .show wA q (EI v p .leaf)=_;rw[ih,Be];simp;rfl
   .show wA q .leaf=_;rw[Be];simp;rfl
   .show wA q .leaf=_;rw[Be];simp;rfl
   .show wA q (EI v p .leaf)=_;rw[ih,Be];simp;rfl
  |node u l r=>
   cases b<;>cases c
   .show wA q (EI v p r)=_;rw[ih];simp;rfl
   .simp;rfl
   .simp;rfl
   .show wA q (EI v p l)=_;rw[ih];simp;rfl
def Ji:∀ (f i:Nat),(i+1<2 ^ f->(yj f i).length<f)/\(2 ^ f<=i+1->(yj f i).length=f)
 |0,i=>⟨λh=>by simp at h,λ_=>rfl⟩
 |f+1,i=>by
  have h2:2 ^ (f+1)=2*2 ^ f:=by rw[Nat.pow_succ];omega
  have hp:0<2 ^ f:=Nat.two_pow_pos f;simp[yj,Bool.cond_eq_ite,Nat.beq_eq];by_cases C:i=0
  .rw[bi C];exact⟨λ_=>by simp,λh=>by omega⟩
  .rw[ai C];split
   .let⟨a,b⟩:=Ji f (i / 2);exact⟨λh=>by have:=a oG;simp;omega,λh=>by have:=b oG;simp;omega⟩
   .let⟨a,b⟩:=Ji f (i / 2 - 1);exact⟨λh=>by have:=a oG;simp;omega,λh=>by have:=b oG;simp;omega⟩
def T.ON{α:Type}{t C:T α}{i:Nat}{v:Option α}(h:t.put i v=some C)(j:Nat):C.get j=if j=i then v else t.get j:=by
 unfold T.put at h;cases hb:Nat.blt i 1000000 with
 |false=>rw[hb] at h;cases h
 |true=>
  rw[hb] at h;simp only[cond_true,aY] at h;subst h;have hi:i<1000000:=by simpa using hb
  unfold T.get;rw[Ux];by_cases e:j=i
  .subst e;simp
  .have J:bits j≠bits i:=λh=>by
    have hl:(bits i).length<20:=(Ji 20 i).1 oG;rcases Nat.lt_or_ge (j+1) (2 ^ 20) with h1|h1
    .exact e (NI 20 j i h1 oG h)
    .have:(bits j).length=20:=(Ji 20 j).2 h1;rw[h] at this;omega
   rw[ai e,ai J]
def oq:∀ (n:Nat) (l:List D),kB n l=true↔n<=l.length
 |0,l=>by show true=true↔_;simp
 |n+1,[]=>by
  show false=true↔_;simp
 |n+1,d::l=>by
  show kB n l=true↔_;rw[oq n l];simp
def zH:∀ (n:Nat) (l:List D),wC n l=true↔l.length=n
 |0,[]=>by show true=true↔_;simp
 |0,d::l=>by show false=true↔_;simp
 |n+1,[]=>by show false=true↔_;simp
 |n+1,d::l=>by
  show wC n l=true↔_;rw[zH n l];simp
def Vz:∀ (n:Nat) (l:List D),Qc n l=l.drop n
 |0,l=>rfl
 |n+1,[]=>rfl
 |n+1,d::l=>by show Qc n l=_;rw[Vz n l];rfl
def rZ(l:List D)(n:Nat):rm l n=l.drop n:=Vz n l
def zB:∀ (n:Nat) (l:List D),BP n l=l.take n
 |0,l=>by show []=_;simp
 |n+1,[]=>rfl
 |n+1,d::l=>by show d::BP n l=_;rw[zB n l];rfl
def DC(P:Program)(t:TypeId)(cs:List D):zY P t cs=lz P t cs:=by
 rw[zY,lz,zB];cases bM P t with
 |true=>rfl
 |false=>cases cs<;>rfl
def KC(a b:Int):rL a b=decide (a<b):=by
 rw[Bool.eq_iff_iff];cases a<;>cases b<;>simp[rL]<;>omega
def XP(a b:Int):CE a b=(a==b):=by
 rw[Bool.eq_iff_iff];cases a<;>cases b<;>simp[CE]<;>omega
def DD(k k':IntKind)(h:jT k k'=true):k=k':=by cases k<;>cases k'<;>first|rfl|cases h
def agh(k:IntKind)(n:Int)(h:Mi k n=true):k.wrap n=n:=by
 unfold Mi at h;split at h
 .exact IntWalk.i64_in _ (by simp at h ⊢;omega)
 .exact IntWalk.i64_in _ (by simp at h;omega)
 .exact IntWalk.u8_in _ (by simp at h ⊢;omega)
 .exact IntWalk.u64_in _ (by simp at h ⊢;omega)
 .cases h
def VA(k:IntKind)(n:Int):BQ k n=k.wrap n:=by
 unfold BQ;cases h:Mi k n with
 |true=>exact(agh k n h).symm
 |false=>rfl
def KD:∀ (a b:List UInt8),Fp a b=(a==b)
 |[],[]=>rfl
 |[],_::_=>rfl
 |_::_,[]=>rfl
 |a::aS,b::bs=>by
  show(Nat.beq a.toNat b.toNat&&Fp aS bs)=(a==b&&aS==bs)
  rw[KD aS bs];congr 1;rw[Bool.eq_iff_iff];simp[UInt8.toNat_inj]
def Pw:∀ (a b:List UInt8),Il a b=Op.bytesLess a b
 |[],[]=>rfl
 |_::_,[]=>rfl
 |[],_::_=>rfl
 |a::aS,b::bs=>by
  show(Nat.blt a.toNat b.toNat||(Nat.beq a.toNat b.toNat&&Il aS bs))=(decide (a<b)||(a==b&&Op.bytesLess aS bs))
  rw[Pw aS bs];congr 1
  .rw[Bool.eq_iff_iff];simp[UInt8.lt_iff_toNat_lt]
  .congr 1;rw[Bool.eq_iff_iff];simp[UInt8.toNat_inj]
def Of:∀ (i:Nat) (l:List Nat),Eo i l=true↔i∉l
 |i,[]=>by simp[Eo]
 |i,j::l=>by
  simp only[Eo,aH,Bool.not_eq_true',Of i l,mem_cons,not_or];rw[<- Bool.not_eq_true,Nat.beq_eq];exact⟨λh=>⟨λe=>h.1 e.symm,h.2⟩,λh=>⟨λe=>h.1 e.symm,h.2⟩⟩
def Gf(P:Program)(t:TypeId):∀ es:List (Value×D),BD P t es=es.all λe=>eN P t e.1
 |[]=>rfl
 |e::es=>by simp[BD,Gf P t es]
def WE:∀ (l:List D) (n:Nat) (d:D),Q9 l n=some d->n<l.length/\l.getD n .u=d
 |[],n,d,h=>by cases n<;>cases h
 |x::l,0,d,h=>by cases h;simp
 |x::l,n+1,d,h=>by
  let⟨h1,h2⟩:=WE l n d h;exact⟨by simp;omega,tn h2⟩
def parts_eq(ρ:Operand->D):∀ l:List (Nat×Operand),parts ρ l=l.map λq=>(q.1,ρ q.2)
 |[]=>rfl
 |q::l=>by simp[parts,parts_eq ρ l]
def Jy{place:Nat->Option (Nat×Nat)}:∀ (l:List (Nat×D)) (cells cs:List D),Em place cells l=some cs->lA place cells l=some cs
 |[],cells,cs,h=>h
 |(i,d)::rest,cells,cs,h=>by
  simp[Em] at h;simp[lA];cases hp:place i with
  |none=>rw[hp] at h;cases h
  |some q=>
   let⟨off,size⟩:=q;rw[hp] at h;simp only at h ⊢;cases hb:(wC size d.cells&&kB (off+size) cells)&&d.cells.all D.one with
   |false=>rw[hb] at h;cases h
   |true=>
    rw[hb] at h;simp[aH,zH,oq] at hb;rw[bi ⟨hb.1.1,hb.1.2,hb.2⟩];exact Jy rest _ cs h
def I8:∀ {ds:List D} {l:List Int},En ds=some l->ds=qU l
 |[],l,h=>by cases h;rfl
 |d::ds,l,h=>by
  unfold En at h;split at h
  .rename_i hd;cases hd
  .rename_i n C hd;cases hd;split at h
   .rename_i J h';cases h;rw[I8 h'];rfl
   .cases h
  .cases h
def Jz{P:Program}{t:TypeId}(h:Fq P t=true):wO P t:=by
 unfold Fq at h;simp[aH,Nat.beq_eq] at h;let⟨⟨h1,h2⟩,C⟩:=h;refine⟨h1,?_,C⟩;split at h2
 .assumption
 .cases h2
def Dt(b:ByteArray):b.data.toList.length=b.size:=by rw[Array.length_toList];rfl
end Go.Abs
end
