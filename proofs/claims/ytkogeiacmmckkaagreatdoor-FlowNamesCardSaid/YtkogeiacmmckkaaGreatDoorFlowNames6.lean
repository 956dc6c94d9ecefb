/- Part 6. -/
import Derived.Test.YtkogeiacmmckkaaGreatDoorFlowNames5
import Derived.RecoverIn
set_option linter.all false
set_option maxHeartbeats 0
set_option maxRecDepth 10000
noncomputable section
namespace Go.Abs
open List
section
def orH(P:Program)(kL:qb)(jv:mX)(ops:Array Oper)(s:cg):Option (Exit×cg)->Option (Exit×cg)
 |some r=>some r
 |none=>Ql P kL jv ops s
def AV(P:Program)(x:Ctx)(ev:Ev):Nat->Code->cg->Option (Exit×cg)
 |0,_,_=>none
 |n+1,c,s=>match c with
  | .seq a b=>match AV P x ev n a s with
   |some (.normal,s')=>AV P x ev n b s'
   |r=>r
  | .region _ ops true=>orH P (Ha P x ev) (BS P x ev []) ops s (K2 P [] (BS P x ev []) (Ha P x ev) ops s (bV ops))
  |c=>ev [] false c s
def Y4(o:Oper):Option Operand:=match o.op,o.dst,o.guard with
 | .defer cl,none,none=>match cl.callee with
  | .value f=>bif Nat.beq cl.args.size 0 then some f else none
  |_=>none
 |_,_,_=>none
def XU:Code->Option (Array Oper×Operand)
 | .region _ ops false=>match ops[ops.size - 1]? with
  |some o=>match Y4 o with
   |some f=>some (ops,f)
   |none=>none
  |none=>none
 |_=>none
def HF(P:Program)(x:Ctx)(ev:Ev):Nat->Code->cg->Option (Exit×cg×Option D)
 |0,_,_=>none
 |n+1,c,s=>match c with
  | .seq a b=>match XU a with
   |some (ops,f)=>match uB P [] (BS P x ev []) ops (ops.toList.take (ops.size - 1)) s with
    |some (.normal,s1)=>match AV P x ev n b s1 with
     |some (e,s2)=>some (e,s2,some (fx s1.env f))
     |none=>none
    |_=>none
   |none=>match AV P x ev n a s with
    |some (.normal,s')=>HF P x ev n b s'
    |some (e,s')=>some (e,s',none)
    |none=>none
  |_=>none
def Y5(o:Oper):Option Nat:=match o.op,o.dst,o.guard with
 | .call cl,some t,none=>match cl.callee with
  | .builtin .recover=>some t
  |_=>none
 |_,_,_=>none
def He(P:Program):List Oper->cg->Option cg
 |[],c=>some c
 |o::os,c=>match o.guard with
  |none=>match Im o.op P (fx c.env) c.mem c.nx with
   |some p=>match Ak c o.dst p with
    |some c'=>He P os c'
    |none=>none
   |none=>none
  |some _=>none
def anP(P:Program)(fn:Func):Option (Exit×cg)->Option (T Row×Nat)
 |some (.normal,s)=>match ug P fn s with
  |some (.inl _,m,nx)=>some (m,nx)
  |_=>none
 |some (.ret,s)=>match ug P fn s with
  |some (.inl _,m,nx)=>some (m,nx)
  |_=>none
 |_=>none
def aac(P:Program)(ev:Ev)(fn:Func)(v:Value)(m:T Row)(nx:Nat)(env:T D):Code->Option (T Row×Nat)
 | .seq (.region _ ops false) rest=>match ops.toList with
  |o::os=>match Y5 o with
   |some t=>match env.put t (some (.s v)) with
    |some C=>match He P os ⟨C,m,nx⟩ with
     |some s1=>anP P fn (ev [] false rest s1)
     |none=>none
    |none=>none
   |none=>none
  |[]=>none
 |_=>none
def B9(P:Program)(x:Ctx)(ev:Ev)(g:FuncId)(args:List D)(v:Value)(m:T Row)(nx:Nat):Option (T Row×Nat):=match x.jk g with
 |some (fn,c)=>bif kB args.length (replicate fn.ntmps .u)&&plain v then match zN 0 args .leaf with
  |some t=>aac P ev fn v m nx t c
  |none=>none
  else none
 |none=>none
def KF(P:Program)(fn:Func)(env:T D):Option (T Row×Nat)->Option qF
 |some (m,nx)=>ug P fn ⟨env,m,nx⟩
 |none=>none
def Ly(P:Program)(x:Ctx)(ev:Ev)(fn:Func):Option (Exit×cg×Option D)->Option qF
 |some (e,s,none)=>KB P fn (some (e,s))
 |some (.normal,s,some (.fn (.func g) fs cs))=>KF P fn s.env (B9 P x ev g (fs++cs) .nilIface s.mem s.nx)
 |some (.ret,s,some (.fn (.func g) fs cs))=>KF P fn s.env (B9 P x ev g (fs++cs) .nilIface s.mem s.nx)
 |some (.panic [⟨v,false,false⟩],s,some (.fn (.func g) fs cs))=>KF P fn s.env (B9 P x ev g (fs++cs) v s.mem s.nx)
 |_=>none
def An(P:Program)(x:Ctx)(ev:Ev)(n:Nat)(f:FuncId)(args:List D)(m:T Row)(nx:Nat):Option qF:=match x.jk f with
 |none=>none
 |some (fn,c)=>bif kB args.length (replicate fn.ntmps .u) then match zN 0 args .leaf with
  |none=>none
  |some t=>Ly P x ev fn (HF P x ev n c ⟨t,m,nx⟩)
  else none
variable{args:List D}{f:FuncId}
section
variable{P:Program}{F:Nat->Prop}{β:aN}{w:World}{a:Act}{x:Ctx}{ev:Ev}
def XV(hx:ss P x)(C:uC P ev):∀ (n:Nat) (c:Code) (s s':cg) (e:Exit),AV P x ev n c s=some (e,s')->∀ (k:Nat) (β:aN) (w:World) (a:Act),gG a.tmps.size c=true->cy P F (bj s) β w a->c.wpIn (Fe none) k P (uk P F false s.nx β w a e s') a w:=by
 intro n
 induction n with
 |zero=>intro c s s' e h;cases h
 |succ n ih=>
  intro c s s' e h k β w a al hs;have other:ev [] false c s=some (e,s')->c.wpIn (Fe none) k P (uk P F false s.nx β w a e s') a w:=λh=>C [] false c s e s' h F none k β w a (λh=>by cases h) vE al hs;simp[AV] at h;split at h
  .rename_i O c2;simp[gG,aH] at al;cases h1:AV P x ev n O s with
   |none=>rw[h1] at h;cases h
   |some es=>
    let⟨U,s1⟩:=es;rw[h1] at h;refine wpIn_seq (wpIn_mono (ih O s s1 U h1 k β w a al.1 hs) λe2 a2 w2 hp=>?_);obtain⟨⟨_,β2,⟨rfl,rfl⟩,jB,J⟩,X⟩:=hp;cases e2 with
    |normal=>exact wpIn_mono (ih c2 s1 s' e h k β2 w2 a2 (by rw[J.size];exact al.2) jB) λe3 a3 w3 CK=>uk.trans J X CK
    |_=>cases h;exact⟨⟨_,β2,⟨rfl,rfl⟩,jB,J⟩,X⟩
  .rename_i id ops;have fin:(Code.region id ops true).wpIn (Fe none) k P (dV P F s.nx β w a (QE e s')) a w->(Code.region id ops true).wpIn (Fe none) k P (uk P F false s.nx β w a e s') a w:=λh=>wpIn_mono h λU a1 w1 ⟨st',β',h1,h2,h3⟩=>⟨⟨st',β',h1,h2,h3.Az⟩,λ_=>h3.defers⟩
   unfold orH at h;split at h
   .rename_i r hr;cases h;exact fin (VD hx.mix (Gs hx C) (Ol hx C) al hr vE hs)
   .exact fin (agw hx.mix (Ol hx C) (Gs hx C) al h hs)
  .exact other h
def Lc(P:Program)(F:Nat->Prop)(N:Nat)(β:aN)(w:World)(a:Act)(e:Exit)(s':cg)(U:Option D)(e2:Exit)(a2:Act)(J:World):Prop:=
 e2=e/\∃ C,cy P F (bj s') C J a2/\Step β w C J/\N<=s'.nx/\(∀ i,i<N->β i=none->C i=none)/\a2.tmps.size=a.tmps.size/\match U with
  |none=>a2.defers=a.defers
  |some O=>∀ g fs cs,O=.fn (.func g) fs cs->∃ us vs,Rs F C J fs us/\Rs F C J cs vs/\a2.defers={ target:=.fn (.func g) vs,args:=us }::a.defers
def ah7(hx:ss P x)(iQ:uC P ev):∀ (n:Nat) (c:Code) (s s':cg) (e:Exit) (od:Option D),HF P x ev n c s=some (e,s',od)->(∀ dv,od=some dv->∃ g fs cs,dv=.fn (.func g) fs cs)->∀ (k:Nat) (β:aN) (w:World) (a:Act),gG a.tmps.size c=true->cy P F (bj s) β w a->c.wpIn (Fe none) k P (Lc P F s.nx β w a e s' od) a w:=by
 intro n
 induction n with
 |zero=>intro c s s' e od h;cases h
 |succ n ih=>
  intro c s s' e od h Iv k β w a al hs;simp[HF] at h;split at h
  rotate_left
  .cases h
  rename_i c1 c2;simp[gG,aH] at al;split at h
  .rename_i ops f O;split at h
   rotate_left
   .cases h
   rename_i s1 h1;split at h
   rotate_left
   .cases h
   rename_i e2 s2 h2;cases h;let⟨g,fs,cs,hg⟩:=Iv _ rfl;unfold XU at O;split at O
   rotate_left
   .cases O
   rename_i id atl;split at O
   rotate_left
   .cases O
   rename_i o ho;split at O
   rotate_left
   .cases O
   rename_i f' J;cases O;have lF:ops.size - 1<ops.size:=(Array.getElem?_eq_some_iff.1 ho).1
   obtain⟨cl,q1,q2,q3,q4,q5⟩:∃ cl,o.op=.defer cl/\o.dst=none/\o.guard=none/\cl.callee=.value f/\cl.args.size=0:=by
    unfold Y4 at J;split at J
    .rename_i cl fO gO AT;split at J
     .rename_i ff hff;cases bZ:Nat.beq cl.args.size 0 with
      |false=>rw[bZ] at J;cases J
      |true=>rw[bZ] at J;cases J;exact⟨cl,fO,gO,AT,hff,Nat.eq_of_beq_eq_true bZ⟩
     .cases J
    .cases J
   have anQ:nP a.tmps.size ops=true:=al.1;have hlen:(ops.toList.take (ops.size - 1)).length=ops.size - 1:=by simp
   refine wpIn_seq (wpIn_region ?_)
   have:=Uz (r:=none) (n:=k) (tl:=1) (QX:=Exit.then (c2.wpIn (Fe none) k P (Lc P F s.nx β w a e s' (some (fx s1.env f)))) (Lc P F s.nx β w a e s' (some (fx s1.env f)))) (Gs hx iQ) (vE (F:=F) (β:=β) (w:=w)) anQ (λch he=>by cases he) (ops.toList.take (ops.size - 1)) 0 s β w a (λj o hj=>by
    have jm:j<ops.size - 1:=by rw[<- hlen];exact(bO.1 hj).1
    rw[getElem?_take,bi jm] at hj
    simpa using hj) h1 hs (eM.refl (bj s) β w a) λ_ β1 X a1 dY U=>?_
   .rw[range_eq_range'];rw[hlen,show ops.size - 1+1=ops.size by omega] at this;exact this
   .rw[hlen,Nat.zero_add];simp[List.range'_one,wpOpsIn_cons];apply Dg ho;have hR:R F β1 X (fx s1.env f) (a1.eval f):=by rw[DF];exact dY.e.un.opd f
    rw[hg] at hR;generalize hv:a1.eval f=v at hR;cases hR with
    |fn _ _ _ us vs hl mb hh EZ=>
     unfold ju;have hw:Region.wanted o (yielded ops a1.tmps)=true:=by simp[Region.wanted,q3]
     rw[hw,bi rfl];refine⟨λ_ _=>trivial,?_⟩;have dh:cl.args= #[]:=Array.eq_empty_of_size_eq_zero q5
     have dU:(o.semAt none a1.eval).run P X=.ok (.defer { target:=.fn (.func g) vs.toArray,args:=us.toArray }) X:=by
      rw[Oper.semAt_none];rw[execOp,q1];simp only[resolve,q4,Sem.run_bind,hv,Deferred.ofValue,Sem.run_pure,Result.andThen_ok,dh];simp
     have akg:(o.semAt (Fe none).round a1.eval).run P X=_:=dU;rw[akg,Oper.uponIn_defer,q2];show c2.wpIn (Fe none) k P (Lc P F s.nx β w a e s' (some (fx s1.env f))) { a1 with defers:={ target:=.fn (.func g) vs.toArray,args:=us.toArray }::a1.defers } X;have anR:cy P F (bj s1) β1 X { a1 with defers:={ target:=.fn (.func g) vs.toArray,args:=us.toArray }::a1.defers }:=⟨dY.e,dY.m,dY.n⟩
     refine wpIn_mono (XV hx iQ n c2 s1 s' e h2 k β1 X _ (by show gG a1.tmps.size c2=true;rw[U.size];exact al.2) anR) λe3 a3 w3 CK=>?_;obtain⟨⟨_,β3,⟨rfl,rfl⟩,lL,iA⟩,AQ⟩:=CK;refine⟨rfl,β3,lL,U.step.trans iA.step,Nat.le_trans U.le iA.le,λi hi hb=>iA.grow i (Nat.lt_of_lt_of_le hi U.le) (U.grow i hi hb),iA.size.trans U.size,?_⟩;intro g' fs' cs' Mn;rw[hg] at Mn;cases Mn;refine⟨us.toArray,vs.toArray,?_,?_,?_⟩
     .exact⟨by simp[hl],λj d v hd hv=>(hh j d v hd (tn hv)).step iA.step⟩
     .exact⟨by simp[mb],λj d v hd hv=>(EZ j d v hd (tn hv)).step iA.step⟩
     .rw[AQ rfl, <- U.defers]
  .cases h1:AV P x ev n c1 s with
   |none=>rw[h1] at h;cases h
   |some es=>
    let⟨e1,s1⟩:=es;rw[h1] at h;refine wpIn_seq (wpIn_mono (XV hx iQ n c1 s s1 e1 h1 k β w a al.1 hs) λe2 a2 w2 hp=>?_);obtain⟨⟨_,β2,⟨rfl,rfl⟩,jB,C⟩,gC⟩:=hp;cases e2 with
    |normal=>
     refine wpIn_mono (ih c2 s1 s' e od h Iv k β2 w2 a2 (by rw[C.size];exact al.2) jB) λe3 a3 w3 CK=>?_;obtain⟨rfl,β3,g1,g2,g3,g4,g5,g6⟩:=CK;refine⟨rfl,β3,g1,C.step.trans g2,Nat.le_trans C.le g3,λi hi hb=>g4 i (Nat.lt_of_lt_of_le hi C.le) (C.grow i hi hb),g5.trans C.size,?_⟩;rw[gC rfl] at g6;exact g6
    |_=>cases h;exact⟨rfl,β2,jB,C.step,C.le,C.grow,C.size,gC rfl⟩
def adz{o:Oper}{c:cg}{p:bI}(h:fj P o.op (fx c.env) (bt c.mem) c.nx p)(hs:cy P F (bj c) β w a):
 ∃ nx v w' β',(execOp a.eval o).run P w=.ok nx w'/\(nx=.value v\/(nx=.skip/\v=undef))/\R F β' w' p.val v/\aQ P F (cT (bt c.mem) p.bn) β' w'/\Step β w β' w'/\∀ i,β i=none->(i<c.nx\/c.nx+p.new<=i)->β' i=none:=by
 cases h with
 |a e h hp=>exact Uv (m:=bt c.mem) (nx:=c.nx) hs.m (λ_=>hs.n _ (bK _)) (env:=o7 (gu c.env)) hs.e.un (zI _ _) (by rw[Bn];exact h) hp
 |n e h=>exact T6 (m:=bt c.mem) (nx:=c.nx) hs.m (λ_=>hs.n _ (bK _)) (env:=o7 (gu c.env)) hs.e.un (zI _ _) (by rw[Bn];exact h)
def VG{ops:Array Oper}{c':cg}{k:Nat}{Q:Exit->Act->List Frame->World->Prop}{cs:List Frame}{N:Nat}{β₀:aN}{w₀:World}{a₀:Act}(al:nP a₀.tmps.size ops=true)
 (O:∀ β w a,cy P F (bj c') β w a->eM N β₀ w₀ a₀ (bj c') β w a->Q .normal a cs w):∀ (rest:List Oper) (j:Nat) (c:cg) (β:aN) (w:World) (a:Act),(∀ i o,rest[i]? =some o->ops[j+i]? =some o)->He P rest c=some c'->cy P F (bj c) β w a->eM N β₀ w₀ a₀ (bj c) β w a->
 wpOpsSIn (Fe none) k P ops Q (range' j rest.length) a cs w
 |[],j,c,β,w,a,hj,h,hs,cM=>by
  simp[He,aY] at h;subst h;exact O β w a hs cM
 |o::rest,j,c,β,w,a,hj,h,hs,cM=>by
  have ho:ops[j]? =some o:=hj 0 o rfl;simp[He] at h;split at h
  rotate_left
  .cases h
  rename_i hg;split at h
  rotate_left
  .cases h
  rename_i p hp;split at h
  rotate_left
  .cases h
  rename_i U yW;have hw:Region.wanted o (yielded ops a.tmps)=true:=by simp[Region.wanted,hg]
  let⟨nx,v,w',β',h1,h2,h3,h4,C,J⟩:=adz (Px hp) hs;have X:∀ t,o.dst=some t->t<a.tmps.size:=λt ht=>by rw[cM.size];exact vC al ho t ht
  have e:=JQ yW
  have next:=VG (k:=k) al O rest (j+1) U β' w' (a.put o.dst v) (λi o hi=>by rw[Nat.add_right_comm];exact hj (i+1) o (tn hi)) h (by
   rw[e];exact cy.put (st':=⟨gu c.env,cT (bt c.mem) p.bn,c.nx+p.new⟩) (hs.e.step C) X h3 h4 λi hi=>J i (hs.n i (by have:c.nx+p.new<=i:=hi;show c.nx<=i;omega)) (.inr hi)) (cM.trans (by
   rw[e];exact NK (st:=bj c) C (Nat.le_add_right _ _) λi hi hb=>J i hb (.inl hi)))
  simp only[length_cons,range'_succ,wpOpsSIn,ho];refine⟨λ_ _=>trivial,?_⟩;rw[hw,bi rfl,h1];rcases h2 with rfl|⟨rfl,rfl⟩
  .exact next
  .exact next
def ajc(hx:ss P x)(iQ:uC P ev){g:FuncId}{v:Value}{m m':T Row}{nx aw:Nat}(h:B9 P x ev g args v m nx=some (m',aw))(hm:aQ P F (bt m) β w)(hn:∀ i,nx<=i->β i=none){vs:Array Value}(hR:Rs F β w args vs){k:Nat}{u:FrameMode}
 (hu:(u=.returning/\v=.nilIface)\/u=.panicking [⟨v,false,false⟩]):
 nB P g=true/\CallsDIn (Fe none) k P g vs u w λe C w'=>∃ v,e=.returned v/\settle C=.returning/\∃ β',aQ P F (bt m') β' w'/\(∀ i,aw<=i->β' i=none)/\Step β w β' w'/\nx<=aw/\∀ i,i<nx->β i=none->β' i=none:=by
 unfold B9 at h;split at h
 rotate_left
 .cases h
 rename_i fn c hf;let⟨AP,hb,al,he⟩:=hx.jk _ _ _ hf;refine⟨he,?_⟩;cases hc:(kB args.length (replicate fn.ntmps .u)&&plain v) with
 |false=>rw[hc] at h;cases h
 |true=>
 rw[hc] at h;simp only[aH,oq,length_replicate] at hc;let⟨hle,jn⟩:=hc;simp only[cond_true] at h;split at h
 rotate_left
 .cases h
 rename_i t ht;unfold aac at h;split at h
 rotate_left
 .cases h
 rename_i id ops rest;split at h
 rotate_left
 .cases h
 rename_i o os Rn;split at h
 rotate_left
 .cases h
 rename_i tr X;split at h
 rotate_left
 .cases h
 rename_i EJ akh;split at h
 rotate_left
 .cases h
 rename_i s1 yU
 obtain⟨cl,q1,q2,q3,q4⟩:∃ cl,o.op=.call cl/\o.dst=some tr/\o.guard=none/\cl.callee=.builtin .recover:=by
  unfold Y5 at X;split at X
  .rename_i cl t' fO gO AT;split at X
   .rename_i dh;cases X;exact⟨cl,fO,gO,AT,dh⟩
   .cases X
  .cases X
 let⟨bZ,Lz⟩:=NB (fn:=fn) hle hm hn hR;have CH:bj ⟨t,m,nx⟩=⟨mW args,bt m,nx⟩:=by rw[<- NM ht];rfl
 rw[<- CH] at Lz;simp only[gG,aH] at al;refine callsDIn_of_wpSIn AP hb aa λJ O Qm=>wpSIn_seq (wpSIn_region ?_)
 have ho:ops[0]? =some o:=by
  have:ops.toList[0]? =some o:=by rw[Rn];rfl
  simpa using this
 have anS:ops.size=os.length+1:=by rw[<- Array.length_toList,Rn];rfl
 have hw:∀ y,Region.wanted o y=true:=λy=>by simp[Region.wanted,q3]
 have dU:∀ (ρ:Operand->Value),(execOp ρ o).run P w=.ok .recover w:=λρ=>by
  rw[execOp,q1];simp[resolve,q4,invoke];rfl
 have aki:=Oh akh;have gO:tr<(vs++Array.replicate (fn.ntmps - vs.size) undef).size:=by rw[bZ];exact vC al.1 ho tr q2
 have go:∀ (C:FrameMode),settle C=.returning->wpOpsSIn (Fe none) k P ops (Exit.thenS (rest.wpSIn (Fe none) k P (bodyPostS P fn J O λe C w'=>∃ v,e=.returned v/\settle C=.returning/\∃ β',aQ P F (bt m') β' w'/\(∀ i,aw<=i->β' i=none)/\Step β w β' w'/\nx<=aw/\∀ i,i<nx->β i=none->β' i=none))
  (bodyPostS P fn J O λe C w'=>∃ v,e=.returned v/\settle C=.returning/\∃ β',aQ P F (bt m') β' w'/\(∀ i,aw<=i->β' i=none)/\Step β w β' w'/\nx<=aw/\∀ i,i<nx->β i=none->β' i=none)) (range' 1 os.length)
  (Act.put { tmps:=vs++Array.replicate (fn.ntmps - vs.size) undef,defers:=[] } (some tr) v) ({ J with mode:=C }::O) w:=λC wE=>by
  refine VG (F:=F) (N:=nx) (β₀:=β) (w₀:=w) (a₀:=Act.put { tmps:=vs++Array.replicate (fn.ntmps - vs.size) undef,defers:=[] } (some tr) v) (by rw[xD];show nP (vs++Array.replicate (fn.ntmps - vs.size) undef).size ops=true;rw[bZ];exact al.1) (λβ1 w1 a1 dY U=>?_) os 1 ⟨EJ,m,nx⟩ β w _ (λi o hi=>by
   have:ops.toList[1+i]? =some o:=by rw[Rn,Nat.add_comm];simpa using hi
   simpa using this) yU ?_ ?_
  .have QP:a1.tmps.size=fn.ntmps:=by rw[U.size,xD];exact bZ
   have di:a1.defers=[]:=by rw[U.defers,put_defers]
   show rest.wpSIn (Fe none) k P _ a1 _ w1;apply wpSIn_of_wpIn rfl;cases Fw:ev [] false rest s1 with
   |none=>rw[Fw] at h;cases h
   |some es=>
    let⟨e2,s2⟩:=es;rw[Fw] at h;refine wpIn_mono (iQ [] false rest s1 e2 s2 Fw F none k β1 w1 a1 (λ_=>rfl) vE (by rw[QP];exact al.2) dY) λe3 a3 w3 CK=>?_;obtain⟨⟨_,β3,⟨rfl,rfl⟩,lL,iA⟩,AQ⟩:=CK
    have ng:(match ug P fn s2 with
     |some (.inl _,m,nx)=>some (m,nx)
     |_=>none)=some (m',aw)->a3.defers=[]/\∃ u'',({ J with mode:=C }::O:List Frame)={ J with mode:=u'' }::O/\∃ v,(results fn a3.tmps).run P w3=.ok v w3/\
     ∃ v',Ending.returned v=.returned v'/\settle u''=.returning/\∃ β',aQ P F (bt m') β' w3/\(∀ i,aw<=i->β' i=none)/\Step β w β' w3/\nx<=aw/\∀ i,i<nx->β i=none->β' i=none:=λh=>by
     split at h
     rotate_left
     .cases h
     rename_i d m2 jl hl;cases h;unfold ug at hl;split at hl
     rotate_left
     .cases hl
     rename_i ds cn;cases hl;let⟨v,d,g1,_,_⟩:=I5 (fn:=fn) (K:=λd=>d=uz ds) lL (JR _ ds [] cn rfl);exact⟨(AQ rfl).trans di,C,rfl,v,g1,v,rfl,wE,β3,lL.m,lL.n,U.step.trans iA.step,Nat.le_trans U.le iA.le,λi hi hb=>iA.grow i (Nat.lt_of_lt_of_le hi U.le) (U.grow i hi hb)⟩
    cases e3 with
    |normal=>exact ng h
    |ret=>exact ng h
    |_=>cases h
  .have:bj ⟨EJ,m,nx⟩=St.put (bj ⟨t,m,nx⟩) (some tr) (.s v):=by
    show(⟨gu EJ,bt m,nx⟩:St)=_;rw[aki];rfl
   rw[this];exact cy.put (st':=bj ⟨t,m,nx⟩) Lz.e (λt ht=>by cases ht;exact gO) (.s v jn) Lz.m Lz.n
  .exact eM.refl ⟨gu EJ,bt m,nx⟩ β w _
 rw[range_eq_range',anS];simp only[range'_succ,wpOpsSIn,ho];refine⟨λ_ _=>trivial,?_⟩;rw[hw,bi rfl,dU,q2];rcases hu with⟨rfl,rfl⟩|rfl
 .have:recoverD (J::O)=none:=by simp[recoverD,Qm]
  simp only[this];have h2:=go .returning rfl;have h3:({ J with mode:=.returning }:Frame)=J:=by rw[<- Qm]
  rw[h3] at h2;exact h2
 .have:recoverD (J::O)=some (v,{ J with mode:=.panicking [⟨v,true,false⟩] }::O):=by simp[recoverD,Qm]
  simp only[this];exact go _ rfl
def ah8(hx:ss P x)(iQ:uC P ev)(n:Nat){m m':T Row}{nx aw:Nat}{y:D ⊕ List PanicEntry}(h:An P x ev n f args m nx=some (y,m',aw)):ZC P [] f args (bt m) nx y (bt m') aw:=by
 unfold An at h;split at h
 .cases h
 .rename_i fn c hf;let⟨AP,hb,al,he⟩:=hx.jk _ _ _ hf;refine⟨he,λF β w vs hh hm eh hR=>?_⟩;cases hn:kB args.length (replicate fn.ntmps .u) with
  |false=>rw[hn] at h;cases h
  |true=>
   rw[hn] at h;have eZ:args.length<=fn.ntmps:=by simpa[oq] using hn
   simp only[cond_true] at h;split at h
   .cases h
   .rename_i t ht;cases hd:HF P x ev n c ⟨t,m,nx⟩ with
    |none=>rw[hd] at h;cases h
    |some es=>
     let⟨e,s,od⟩:=es;rw[hd] at h;have CH:bj ⟨t,m,nx⟩=⟨mW args,bt m,nx⟩:=by rw[<- NM ht];rfl
     have Iv:∀ dv,od=some dv->∃ g fs cs,dv=.fn (.func g) fs cs:=λdv Mn=>by
      subst Mn;simp only[Ly] at h;split at h
      .rename_i C;cases C
      .rename_i C;cases C;exact⟨_,_,_,rfl⟩
      .rename_i C;cases C;exact⟨_,_,_,rfl⟩
      .rename_i C;cases C;exact⟨_,_,_,rfl⟩
      .cases h
     refine TF AP hb eZ hm eh hR λa nZ ha u7 hs=>wpIn_mono (ah7 (F:=F) hx iQ n c ⟨t,m,nx⟩ s e od hd Iv 0 β w a (by rw[ha];exact al) (by rw[CH];exact hs)) λe2 a2 w2 hp=>?_;obtain⟨rfl,β2,O,ux,HG,LA,anN,J⟩:=hp;rw[u7] at J
     have ret:∀ {env:T D} {mm:T Row} {nn:Nat} {X:aN} {U:World},ug P fn ⟨env,mm,nn⟩=some (y,m',aw)->cy P F (bj ⟨env,mm,nn⟩) X U a2->Step β w X U->nx<=nn->(∀ i,i<nx->β i=none->X i=none)->∃ v,(results fn a2.tmps).run P U=.ok v U/\Ends P F β w nx y (bt m') aw (.returned v) U:=λ{env mm nn X U} hl lL anT anU anV=>by
      unfold ug at hl;split at hl
      .rename_i ds cn;simp only[aY,cO] at hl;obtain⟨rfl,rfl,rfl⟩:=hl;obtain⟨v,d,g1,rfl,g3⟩:=I5 (fn:=fn) (K:=λd=>d=uz ds) lL (JR _ ds [] cn rfl);exact⟨v,g1,X,⟨v,rfl,g3⟩,lL.m,lL.n,anT,anU,anV⟩
      .cases hl
     cases od with
     |none=>
      have J:a2.defers=[]:=J;simp only[Ly] at h;cases e2 with
      |normal=>
       show LeavesInM _ _ _ _ _ _ a2.defers _ _;rw[J];exact ret h O ux HG LA
      |ret=>
       show LeavesInM _ _ _ _ _ _ a2.defers _ _;rw[J];exact ret h O ux HG LA
      |panic ch=>
       show LeavesInM _ _ _ _ _ _ a2.defers _ _;rw[J];simp only[KB,aY,cO] at h;obtain⟨rfl,rfl,rfl⟩:=h;exact⟨β2,rfl,O.m,O.n,ux,HG,LA⟩
      |_=>cases h
     |some dv=>
      obtain⟨g,fs,cs,rfl⟩:=Iv dv rfl;let⟨us,vs2,r1,r2,r3⟩:=J g fs cs rfl
      have Sq:∀ {v:Value} {u:FrameMode},u≠ .run->((u=.returning/\v=.nilIface)\/u=.panicking [⟨v,false,false⟩])->KF P fn s.env (B9 P x ev g (fs++cs) v s.mem s.nx)=some (y,m',aw)->
       LeavesInM (Fe none) 0 P fn a2.tmps (Ends P F β w nx y (bt m') aw) a2.defers u w2:=λ{v u} hur hu h=>by
       cases hc:B9 P x ev g (fs++cs) v s.mem s.nx with
       |none=>rw[hc] at h;cases h
       |some z=>
        let⟨m3,Sr⟩:=z;rw[hc] at h;let⟨bJ,kM⟩:=ajc (F:=F) hx iQ hc O.m O.n (Rs.append r1 r2) (k:=0 - 1) hu;rw[r3];refine⟨hur,.inr ⟨oS,.func g,vs2,g,us++vs2,rfl,?_,λ_ _=>trivial,kM.mono λe' u' w' hp=>?_⟩⟩
        .simp only[invoke];unfold callFunc;unfold nB at bJ;simp only[Sem.run_bind,run_program,Result.andThen_ok];split at bJ
         .rename_i Ss anW;simp only[aH,Bool.not_eq_true'] at bJ
          have mg:Ss.body.isNone=false:=by
           cases L1:Ss.body<;>simp_all
          rw[anW];simp only[bJ.1,mg,Bool.false_eq_true,if_false,Sem.run_pure]
         .cases bJ
        .obtain⟨v',rfl,wE,X,j1,j2,j3,j4,j5⟩:=hp;show LeavesInM _ _ _ _ _ _ [] (settle u') w';rw[wE];exact ret h ⟨λt=>(O.e t).step j3,j1,j2⟩ (ux.trans j3) (Nat.le_trans HG j4) λi hi hb=>j5 i (Nat.lt_of_lt_of_le hi HG) (LA i hi hb)
      simp only[Ly] at h;cases e2 with
      |normal=>exact Sq oS (.inl ⟨rfl,rfl⟩) h
      |ret=>exact Sq oS (.inl ⟨rfl,rfl⟩) h
      |panic ch=>
       split at h
       .rename_i C;cases C
       .rename_i C;cases C
       .rename_i C;cases C
       .rename_i C;cases C;exact Sq oS (.inr rfl) h
       .cases h
      |_=>cases h
def aeE(hx:ss P x)(C:uC P ev)(n:Nat){r:D}(h:zZ P (An P x ev n f args .leaf 0)=some (.inl r))(ht:args.all (qG depth)=true):aE P f args r:=by
 cases hr:An P x ev n f args .leaf 0 with
 |none=>rw[hr] at h;cases h
 |some z=>
  let⟨y,m',aw⟩:=z;rw[hr] at h;exact VE h (ah8 hx C n hr) λa ha=>tf (cm.1 ht a ha)
end
end
def Su(P:Program)(f:Nat):Bool:=match P.funcs[f]? with
 |some fn=>match fn.body with
  |some c=>gG fn.ntmps c&&nB P f
  |none=>false
 |none=>false
def Y6:Option Func->Option (Func×Code)
 |some fn=>match fn.body with
  |some c=>some (fn,c)
  |none=>none
 |none=>none
def LB(P:Program)(ids:List Nat)(f:FuncId):Option (Func×Code):=bif CG f ids then Y6 P.funcs[f]? else none
def WK{f:Nat}:∀ {l:List Nat},CG f l=true->f∈l
 |[],h=>by cases h
 |g::l,h=>by
  simp only[CG] at h;cases hg:Nat.beq g f with
  |true=>rw[Nat.eq_of_beq_eq_true hg];exact mem_cons_self ..
  |false=>rw[hg] at h;exact mem_cons_of_mem _ (WK h)
def WL{P:Program}{ids:List Nat}(h:ids.all (Su P)=true):K6 P (LB P ids):=λf fn c hf=>by
 unfold LB at hf;cases hi:CG f ids with
 |false=>rw[hi] at hf;cases hf
 |true=>
  rw[hi] at hf;have hb:=cm.1 h f (WK hi);simp[cond_true,Y6] at hf;unfold Su at hb;split at hf
  .rename_i J C;split at hf
   .rename_i c' hc;cases hf;rw[C] at hb;simp[hc,aH] at hb;exact⟨C,hc,hb.1,hb.2⟩
   .cases hf
  .cases hf
def Rp:Value->Value->Bool
 | .int k a,.int k' b=>jT k k'&&CE a b
 | .bool a,.bool b=>bif a then b else !b
 | .string a,.string b=>Fp a.data.toList b.data.toList
 | .pointer none,.pointer none=>true
 | .nilFunc,.nilFunc=>true
 | .nilIface,.nilIface=>true
 | .map none,.map none=>true
 |_,_=>false
def yC(g:D->D->Bool):List D->List D->Bool
 |[],[]=>true
 |a::xs,b::bs=>g a b&&yC g xs bs
 |_,_=>false
def Ao:Nat->D->D->Bool
 |0,_,_=>false
 |n+1,a,b=>match a,b with
  | .s x,.s y=>Rp x y
  | .z,.z=>true
  | .agg xs,.agg ys=>yC (Ao n) xs ys
  | .bu xs,.bu ys=>yC (Ao n) xs ys
  | .pt xs,.pt ys=>yC (Ao n) xs ys
  | .sl xs k,.sl ys l=>Nat.beq k l&&yC (Ao n) xs ys
  |_,_=>false
def KG:List (Nat×List D×D)->FuncId->List D->Option D
 |[],_,_=>none
 |(g,aS,r)::l,f,bs=>bif Nat.beq g f&&yC (Ao 8) aS bs then some r else KG l f bs
def ah9{a b:Value}(h:Rp a b=true):a=b:=by
 unfold Rp at h;split at h
 .simp[aH,XP,beq_iff_eq] at h;rw[DD _ _ h.1,h.2]
 .rename_i a b;cases a<;>cases b<;>first|rfl|cases h
 .rename_i a b;rw[KD,beq_iff_eq] at h;have:a.data=b.data:=Array.toList_inj.1 h;cases a;cases b;cases this;rfl
 all_goals first|rfl|cases h
def OQ{g:D->D->Bool}(hg:∀ a b,g a b=true->a=b):∀ {xs ys:List D},yC g xs ys=true->xs=ys
 |[],[],_=>rfl
 |a::xs,b::ys,h=>by
  simp[yC,aH] at h;rw[hg a b h.1,OQ hg h.2]
 |[],_::_,h=>by cases h
 |_::_,[],h=>by cases h
def WM:∀ (n:Nat) (a b:D),Ao n a b=true->a=b
 |0,_,_,h=>by cases h
 |n+1,a,b,h=>by
  have ih:=λ{xs ys:List D}=>OQ (WM n) (xs:=xs) (ys:=ys);simp[Ao] at h;split at h
  .rw[ah9 h]
  .rfl
  .rw[ih h]
  .rw[ih h]
  .rw[ih h]
  .simp only[aH] at h;rw[Nat.eq_of_beq_eq_true h.1,ih h.2]
  .cases h
def UE{P:Program}:∀ {l:List (Nat×List D×D)},(∀ e∈l,aE P e.1 e.2.1 e.2.2)->∀ f args r,KG l f args=some r->aE P f args r
 |[],_,f,args,r,h=>by cases h
 |(g,aS,q)::l,hl,f,args,r,h=>by
  simp[KG] at h;cases hc:Nat.beq g f&&yC (Ao 8) aS args with
  |true=>
   rw[hc] at h;simp only[aH] at hc;cases h;rw[<- Nat.eq_of_beq_eq_true hc.1, <- OQ (WM 8) hc.2];exact hl _ (mem_cons_self ..)
  |false=>
   rw[hc] at h;exact UE (λe he=>hl e (mem_cons_of_mem _ he)) f args r h
end Go.Abs
end
