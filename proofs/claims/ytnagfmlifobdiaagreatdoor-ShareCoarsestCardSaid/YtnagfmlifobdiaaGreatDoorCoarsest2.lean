/- Part 2. -/
import Derived.Test.YtnagfmlifobdiaaGreatDoorCoarsest1
import Derived.Ground.NamesProg
import Derived.Ground.SlgnProg
import Derived.IntWalk
import Derived.RangeFuncRecord
import Derived.Scope
import Derived.Shelf.LaysM
import Derived.Shelf.Strconv.Itoa0
import Derived.Shelf.Strconv.Itoa1
import Derived.Shelf.Strconv.Itoa2
import Derived.Shelf.Strconv.Itoa3
import Derived.Shelf.Strings.Builder1
import Derived.Shelf.Strings.Builder2
import Derived.Shelf.Strings.OnBuilder
import Derived.Test.YtnagfmlifobdiaaGreatDoorChecked
set_option linter.all false
set_option maxHeartbeats 1000000
open List(range)
namespace Go.Abs
structure ew(P:Program)(F:Nat->Prop)(st:St)(β:aC)(w:World)(a:Act):Prop where
 e:gH F β w st.env a
 m:aK P F st.mem β w
 n:∀ i,st.nx<=i->β i=none
structure fW(N:Nat)(β:aC)(w:World)(a:Act)(st':St)(β':aC)(w':World)(a':Act):Prop where
 step:Step β w β' w'
 le:N<=st'.nx
 grow:∀ i,i<N->β i=none->β' i=none
 size:a'.tmps.size=a.tmps.size
 defers:a'.defers=a.defers
theorem fW.trans{N:Nat}{β β₁ β₂:aC}{w X w₂:World}{a C J:Act}{M U:St}(h:fW N β w a M β₁ X C)(k:fW M.nx β₁ X C U β₂ w₂ J):fW N β w a U β₂ w₂ J:=
 ⟨h.step.trans k.step,Nat.le_trans h.le k.le,fun i hi hn=>k.grow i (Nat.lt_of_lt_of_le hi h.le) (h.grow i hi hn),k.size.trans h.size,k.defers.trans h.defers⟩
theorem fW.refl(st:St)(β:aC)(w:World)(a:Act):fW st.nx β w a st β w a:=⟨Step.refl β w,bd _,fun _ _ h=>h,rfl,rfl⟩
def dX(P:Program)(F:Nat->Prop)(N:Nat)(β:aC)(w:World)(a:Act)(Q:Exit->St->Prop)(e:Exit)(a':Act)(w':World):Prop:=
 ∃ st' β',Q e st'/\ew P F st' β' w' a'/\fW N β w a st' β' w' a'
section
variable{P:Program}{F:Nat->Prop}{ops:Array Oper}{o:Oper}{st:St}{β:aC}{w:World}{a:Act}
theorem EY(a:Act)(d:Option Nat)(v:Value):(a.put d v).tmps.size=a.tmps.size:=by
 cases d<;>simp[Act.put]
theorem put_defers(a:Act)(d:Option Nat)(v:Value):(a.put d v).defers=a.defers:=by
 cases d<;>rfl
theorem Xy(st:St)(d:Option Nat)(x:D):(st.put d x).env=(match d with|some t=>up st.env t x|none=>st.env):=by
 cases d<;>rfl
theorem Ot(st:St)(d:Option Nat)(x:D):(st.put d x).mem=st.mem:=by cases d<;>rfl
theorem BX(st:St)(d:Option Nat)(x:D):(st.put d x).nx=st.nx:=by cases d<;>rfl
theorem ew.put{st':St}{β':aC}{w':World}{d:Option Nat}{x:D}{v:Value}(he:gH F β' w' st'.env a)(hd:∀ t,d=some t->t<a.tmps.size)(hv:R F β' w' x v)(hm:aK P F st'.mem β' w')(hn:∀ i,st'.nx<=i->β' i=none):
 ew P F (st'.put d x) β' w' (a.put d v):=by
 refine⟨?_,by rw[Ot];exact hm,by rw[BX];exact hn⟩;cases d with
 |none=>exact he
 |some t=>exact he.put (some t) x v hv hd
theorem Pb{p:dh}(hp:p.Ok P ops o st)(hs:ew P F st β w a)(hd:∀ t,o.dst=some t->t<a.tmps.size)(r:Option Nat)(n:Nat)(C:Exit->Act->World->Prop){K:Act->World->Prop}
 (U:∀ β' a' w',ew P F (St.put ⟨st.env,cC st.mem p.aQ,st.nx+p.new⟩ o.dst p.val) β' w' a'->fW st.nx β w a (St.put ⟨st.env,cC st.mem p.aQ,st.nx+p.new⟩ o.dst p.val) β' w' a'->K a' w'):
 pP r n P ops C o K a w:=by
 refine hp F β w a st.mem st.env st.nx (fun _ _=>rfl) hs.e hs.m (fun _ _ _=>rfl) (fun i h _=>hs.n i h) hs.n r n C K fun v w' β' h1 h2 J M=>?_;refine U β' _ w' (ew.put (st':=⟨st.env,cC st.mem p.aQ,st.nx+p.new⟩) (hs.e.step J) hd h1 h2 fun i hi=>M i (hs.n i (by simp only at hi;omega)) (.inr hi)) ⟨J,by rw[BX];simp,fun i hi hb=>M i hb (.inl hi),EY _ _ _,put_defers _ _ _⟩
theorem aaD{Y:eg}{dr:Bool}{K:St->List Nat->List Nat->Prop}(h:iK P Y ops dr o st K):
 (∃ p:dh,p.Ok P ops o st/\p.sx (cW o.op) st/\K (St.put ⟨st.env,cC st.mem p.aQ,st.nx+p.new⟩ o.dst p.val) p.rd p.wr)\/
 (dr=false/\∃ f args,iA ops o st true/\asks st.env o.op/\dF (a6 st.env o.op) o.op=some (f,args)/\fG P f args st.mem st.nx fun r m nx=>K (St.put ⟨st.env,m,nx⟩ o.dst r) [] [])\/
 (dr=false/\∃ l args,iA ops o st true/\asks st.env o.op/\kV (a6 st.env o.op) o.op=some (l,args)/\Y l args st.mem st.nx fun r m nx=>K (St.put ⟨st.env,m,nx⟩ o.dst r) [] []):=by
 have X:∀ {x},dF (a6 st.env o.op) o.op=some x->cW o.op=2:=fun {x} hx=>by
  cases ho:o.op with
  |call c=>
   rw[ho] at hx;simp only[dF] at hx;split at hx
   .rename_i f hf;unfold cW;split<;>first|rfl|(rename_i h1;cases h1;cases hf)|skip
    all_goals simp_all
   .cases hx
  |_=>rw[ho] at hx;simp[dF] at hx
 have J:∀ {x} (p:dh),dF (a6 st.env o.op) o.op=some x->(∀ i∈p.wr,st.mem i≠none\/(st.nx<=i/\i<st.nx+p.new))->p.sx (cW o.op) st:=fun {x} p hx C=>by
  have:=X hx;exact⟨C,oG,oG,oG⟩
 have call:∀ {f args},iA ops o st true->asks st.env o.op->dF (a6 st.env o.op) o.op=some (f,args)->r5 P dr st f args (fun r m nx rd wr=>K (St.put ⟨st.env,m,nx⟩ o.dst r) rd wr)->
  (∃ p:dh,p.Ok P ops o st/\p.sx (cW o.op) st/\K (St.put ⟨st.env,cC st.mem p.aQ,st.nx+p.new⟩ o.dst p.val) p.rd p.wr)\/
  (dr=false/\∃ f args,iA ops o st true/\asks st.env o.op/\dF (a6 st.env o.op) o.op=some (f,args)/\fG P f args st.mem st.nx fun r m nx=>K (St.put ⟨st.env,m,nx⟩ o.dst r) [] [])\/
  (dr=false/\∃ l args,iA ops o st true/\asks st.env o.op/\kV (a6 st.env o.op) o.op=some (l,args)/\Y l args st.mem st.nx fun r m nx=>K (St.put ⟨st.env,m,nx⟩ o.dst r) [] []):=fun {f args} C ha hc hk=>by
  rcases hk with⟨r,h1,h2⟩|⟨dV,rds,r,h1,h2,M,h4⟩|⟨es,n,t,h1,h2⟩|⟨h1,h2⟩|⟨r,aQ,rds,h1,h2,M⟩|⟨es,n,t,aQ,rds,h1,h2,M,h4⟩
  .exact .inl ⟨⟨r,[],[],0⟩,Rq C ha hc h1,J _ hc (by simp[dh.wr]),h2⟩
  .exact .inl ⟨⟨r,[],rds,0⟩,ab1 C ha hc h1 h2 M,J _ hc (by simp[dh.wr]),h4⟩
  .exact .inl ⟨⟨.rs st.nx 0 n,[(st.nx,some (.cells es t))],[],1⟩,ade C ha hc h1,J _ hc (by simp[dh.wr]),h2⟩
  .exact .inr (.inl ⟨h1,f,args,C,ha,hc,h2⟩)
  .exact .inl ⟨⟨r,aQ,rds,0⟩,adf C ha hc h1,J _ hc fun i hi=>.inl (h2 i hi).2,M⟩
  .refine .inl ⟨⟨.rs st.nx 0 n,aQ++[(st.nx,some (.cells es t))],rds,1⟩,aav C ha hc h1 h2 M,J _ hc fun i hi=>?_,?_⟩
   .simp only[dh.wr,List.map_append,List.mem_append,List.map_cons,List.map_nil,List.mem_singleton] at hi;rcases hi with hi|rfl
    .obtain⟨x,hx,rfl⟩:=List.mem_map.1 hi;obtain⟨r,hr,_⟩:=h1.1 _ (h1.2.1 x hx).1;exact .inl (by simp[hr])
    .exact .inr ⟨bd _,Nat.lt_succ_self _⟩
   .show K _ _ (dh.wr _);rw[Jn,dh.wr,List.map_append];exact h4
 have op:∀ {e:du},iA ops o st true->asks st.env o.op->bf P o.op (a6 st.env o.op) st.mem st.nx=some e->e.pre->K (St.put ⟨st.env,cC st.mem e.aQ,st.nx+e.new⟩ o.dst e.val) e.rd (e.aQ.map (·.1))->
  (∃ p:dh,p.Ok P ops o st/\p.sx (cW o.op) st/\K (St.put ⟨st.env,cC st.mem p.aQ,st.nx+p.new⟩ o.dst p.val) p.rd p.wr):=fun {e} C ha h hp hk=>by
  obtain⟨t1,t2,t3,t4⟩:=Qe h;exact⟨⟨e.val,e.aQ,e.rd,e.new⟩,Sa C ha h hp,⟨t1,t2,t3,t4⟩,hk⟩
 have skip:∀ {d:D},iA ops o st false->(∀ F β w,R F β w d undef)->K (st.put o.dst d) [] []->
  (∃ p:dh,p.Ok P ops o st/\p.sx (cW o.op) st/\K (St.put ⟨st.env,cC st.mem p.aQ,st.nx+p.new⟩ o.dst p.val) p.rd p.wr):=fun {d} C hd hk=>
  ⟨⟨d,[],[],0⟩,Rp C d hd,⟨by simp[dh.wr],fun _=>⟨rfl,rfl⟩,fun _=>rfl,fun _=>⟨rfl,by simp[dh.wr]⟩⟩,hk⟩
 have U:∀ (F:Nat->Prop) β w,R F β w tS undef:=fun F β w=>.cq false .u undef oS fun _=>rfl;unfold iK at h;split at h
 .rename_i hg;have C:=OH (ops:=ops) (st:=st) hg;obtain⟨ha,h⟩:=h;split at h
  .rename_i f args hc;exact call C ha hc h
  .split at h
   .rename_i l args hy;exact .inr (.inr ⟨h.1,l,args,C,ha,hy,h.2⟩)
   .split at h
    .rename_i e he;exact .inl (op C ha he h.1 h.2)
    .exact h.elim
 .rename_i j b hg;split at h
  .exact h.elim
  .rename_i c hc;simp only[Option.bind_eq_some_iff] at hc;obtain⟨t,⟨oj,DV,hjt⟩,hc⟩:=hc;have C:iA ops o st c:=XW hg (t:=t) (by simp[DV,hjt]) hc;split at h
   .rename_i f args mB;rcases h with⟨r,h1,h2⟩|⟨h1,h2⟩
    .refine .inl ⟨⟨.cq c r,[],[],0⟩,R' C fun gw=>?_,J _ mB (by simp[dh.wr]),h2⟩;subst gw;exact Rq C (h1 rfl).1 mB (h1 rfl).2
    .cases c with
     |true=>exact call C (h1 rfl).1 mB (h1 rfl).2
     |false=>exact .inl (skip C U (h2 rfl))
   .split at h
    .rename_i l args hy;cases c with
     |true=>exact .inr (.inr ⟨(h.1 rfl).2.1,l,args,C,(h.1 rfl).1,hy,(h.1 rfl).2.2⟩)
     |false=>exact .inl (skip C U (h.2 rfl))
    .split at h
     .rename_i e he;split at h
      .rename_i vU;simp only[bc,List.isEmpty_iff,beq_iff_eq] at vU;obtain⟨h1,h2⟩:=h;obtain⟨t1,t2,t3,t4⟩:=Qe he;refine .inl ⟨⟨.cq c e.val,[],e.rd,0⟩,R' C fun gw=>?_,⟨by simp[dh.wr],fun hk=>⟨(t2 hk).1,rfl⟩,fun _=>rfl,fun hk=>⟨(t4 hk).1,by simp[dh.wr]⟩⟩,h2⟩;subst gw;have:=Sa C (h1 rfl).1 he (h1 rfl).2;rw[vU.1,vU.2] at this;exact this
      .obtain⟨h1,h2⟩:=h;cases c with
       |true=>exact .inl (op C (h1 rfl).1 he (h1 rfl).2.1 (h1 rfl).2.2)
       |false=>exact .inl (skip C U (h2 rfl))
     .obtain⟨rfl,h⟩:=h;exact .inl (skip C U h)
theorem IL{Y:eg}{dr:Bool}{K:St->List Nat->List Nat->Prop}(h:iK P Y ops dr o st K\/TP P o st K):
 (∃ p:dh,p.Ok P ops o st/\p.sx (cW o.op) st/\K (St.put ⟨st.env,cC st.mem p.aQ,st.nx+p.new⟩ o.dst p.val) p.rd p.wr)\/
 (dr=false/\∃ f args,iA ops o st true/\asks st.env o.op/\dF (a6 st.env o.op) o.op=some (f,args)/\fG P f args st.mem st.nx fun r m nx=>K (St.put ⟨st.env,m,nx⟩ o.dst r) [] [])\/
 (dr=false/\∃ l args,iA ops o st true/\asks st.env o.op/\kV (a6 st.env o.op) o.op=some (l,args)/\Y l args st.mem st.nx fun r m nx=>K (St.put ⟨st.env,m,nx⟩ o.dst r) [] []):=by
 rcases h with h|⟨h1,h2,e,C,J⟩
 .exact aaD h
 .obtain⟨t1,t2,t3,t4⟩:=C.tidy;exact .inl ⟨⟨e.val,e.aQ,e.rd,e.new⟩,abV (OH h1) h2 C,⟨t1,t2,t3,t4⟩,J⟩
theorem Ou{f:FuncId}{args:List D}{dX:D->Mem->Nat->Prop}(hw:iA ops o st true)(ha:asks st.env o.op)(hc:dF (a6 st.env o.op) o.op=some (f,args))(h:fG P f args st.mem st.nx dX)
 (hs:ew P F st β w a) (hd:∀ t,o.dst=some t->t<a.tmps.size) (r:Option Nat) (n:Nat) (M:Exit->Act->World->Prop) {K:Act->World->Prop}
 (hK:∀ d m' C β' a' w',dX d m' C->ew P F (St.put ⟨st.env,m',C⟩ o.dst d) β' w' a'->fW st.nx β w a (St.put ⟨st.env,m',C⟩ o.dst d) β' w' a'->K a' w'):
 pP r n P ops M o K a w:=by
 refine zO (hw F β w a st.env (fun _ _=>rfl) hs.e) hs.e ha hc h.1 fun vs hR=>?_;refine(h.2 F β w vs hs.m hs.n hR).mono fun e w' hp=>?_;obtain⟨v,d,m',C,β',h1,h2,U,X,h5,J,h7,h8⟩:=hp;refine⟨v,h1,hK d m' C β' _ w' h2 (ew.put (st':=⟨st.env,m',C⟩) (hs.e.step J) hd h5 U X) ⟨J,by rw[BX];exact h7,h8,EY _ _ _,put_defers _ _ _⟩⟩
theorem Xk{env:Env}{l:Nat}{args:List D}(J:gH F β w env a)(ha:asks env o.op)(h:kV (a6 env o.op) o.op=some (l,args)):
 ∃ vs,(execOp a.eval o).run P w=(Instr.yield l vs).run P w/\Rs F β w args vs:=by
 obtain⟨dst,op,type,pos,after,guard⟩:=o;simp only at ha h;cases op with
 |call c=>
  simp only[kV] at h;have C:∀ x∈(Op.call c).operands.toList,R F β w (a6 env (.call c) x) (a.eval x):=fun x hx=>(J.opd x).tw _ (ha x hx);split at h
  .rename_i g hg;split at h
   .rename_i X hk;simp only[aH,bP] at h;obtain⟨rfl,rfl⟩:=h;have h1:=C g (by simp[Op.operands,Call.operands,hg]);rw[hk] at h1;obtain⟨q1,M⟩:=Cw (F:=F) (β:=β) (w:=w) (xs:=c.args) (ρ:=a6 env (.call c)) (a:=a) (fun x hx=>C x (by simp[Op.operands,Call.operands];exact .inr hx));generalize hv:a.eval g=v at h1;cases h1 with
    |fn _ _ _ us vs hl mb hh U=>
    have e1:us=[]:=List.eq_nil_of_length_eq_zero (by simpa using hl);have e2:vs=[]:=List.eq_nil_of_length_eq_zero (by simpa using mb);subst e1 e2;refine⟨c.args.map a.eval,?_,oS,fun j d u hd hu=>M j d u hd (by simpa using hu)⟩;unfold execOp;simp only[resolve,hg,Sem.run_bind,hv,Deferred.ofValue,Sem.run_pure,Result.andThen_ok,invoke];simp
   .cases h
  .cases h
 |_=>simp[kV] at h
theorem WL{op:Op}{ρ:Operand->D}{x:Nat×List D}(h:kV ρ op=some x):∀ c,op≠ .defer c:=fun c hc=>by
 subst hc;simp[kV] at h
theorem XX{l:Nat}{args:List D}{dX:D->Mem->Nat->Prop}(hw:iA ops o st true)(ha:asks st.env o.op)(hc:kV (a6 st.env o.op) o.op=some (l,args)){U:aC}{M:World}(h:nq P F U M l args st.mem st.nx dX)(hb:Step U M β w)
 (hs:ew P F st β w a) (hd:∀ t,o.dst=some t->t<a.tmps.size) (r:Option Nat) (n:Nat) (X:Exit->Act->World->Prop) {K:Act->World->Prop}
 (hK:∀ d m' C β' a' w',dX d m' C->ew P F (St.put ⟨st.env,m',C⟩ o.dst d) β' w' a'->fW st.nx β w a (St.put ⟨st.env,m',C⟩ o.dst d) β' w' a'->K a' w'):
 pP r n P ops X o K a w:=by
 obtain⟨vs,h1,h2⟩:=Xk (P:=P) hs.e ha hc;obtain⟨f,tmps,assign,body,h3,h4⟩:=h β w vs hb hs.m hs.n h2;unfold pP;rw[hw F β w a st.env (fun _ _=>rfl) hs.e,if_pos rfl];refine⟨fun _ _=>trivial,?_⟩;rw[Kk (WL hc),h1,h3];refine⟨oS,?_⟩;have h5:=h4 (n - 1);refine RoundIn.mono (F:=Fe r) (show RoundIn (Fe r) (n - 1) P l f tmps assign body w _ from h5) fun e w' hp=>?_;obtain⟨v,d,m',C,β',rfl,g2,g3,g4,g5,J,g7,g8⟩:=hp;exact hK d m' C β' _ w' g2 (ew.put (st':=⟨st.env,m',C⟩) (hs.e.step J) hd g5 g3 g4) ⟨J,by rw[BX];exact g7,g8,EY _ _ _,put_defers _ _ _⟩
def vB(N:Nat)(ops:Array Oper):Bool:=ops.toList.all fun o=>match o.dst with
 |some t=>Nat.blt t N
 |none=>true
theorem Iz{N:Nat}(h:vB N ops=true){i:Nat}{o:Oper}(hi:ops[i]? =some o):∀ t,o.dst=some t->t<N:=fun t ht=>by
 have h1:=bQ.1 h o (by simpa using Array.mem_of_getElem? hi);rw[ht] at h1;simpa using h1
theorem aaE{Y:eg}{r:Option Nat}{n:Nat}{cf:List (Nat×Nat)}{Q:Exit->St->Prop}{N:Nat}{β₀:aC}{w₀:World}{a₀:Act}(hY:∀ l args m nx dX,Y l args m nx dX->nq P F β₀ w₀ l args m nx dX)(af:vB a₀.tmps.size ops=true):
 ∀ (rest:List Oper) (k:Nat) (st:St) (tr:jJ) (β:aC) (w:World) (a:Act),ops.toList.drop k=rest->aq P Y ops false cf Q rest st tr->ew P F st β w a->fW N β₀ w₀ a₀ st β w a->
  wpOpsIn (Fe r) n P ops (dX P F N β₀ w₀ a₀ Q) (List.range' k rest.length) a w:=by
 intro rest
 induction rest with
 |nil=>
  intro k st tr β w a hk h hs C;simp only[List.length_nil,List.range'_zero,wpOpsIn];exact⟨st,β,h.2,hs,C⟩
 |cons o rest ih=>
  intro k st tr β w a hk h hs C
  have ho:ops[k]? =some o:=by
   have:(ops.toList.drop k)[0]? =some o:=by rw[hk];rfl
   simpa using this
  have hZ:ops.toList.drop (k+1)=rest:=by
   have:(ops.toList.drop k).drop 1=rest:=by rw[hk];rfl
   simpa[List.drop_drop,Nat.add_comm] using this
  simp only[List.length_cons,List.range'_succ,wpOpsIn_cons];refine Ij ho ?_;have hd:∀ t,o.dst=some t->t<a.tmps.size:=fun t ht=>by rw[C.size];exact Iz af ho t ht
  simp only[aq] at h;rcases IL h with⟨p,h1,_,U⟩|⟨_,f,args,h1,h2,U,X⟩|⟨_,l,args,h1,h2,U,X⟩
  .exact Pb h1 hs hd r n _ fun β' a' w' J M=>ih (k+1) _ _ β' w' a' hZ U J (C.trans M)
  .exact Ou h1 h2 U X hs hd r n _ fun d m' ai β' a' w' hp J M=>ih (k+1) _ _ β' w' a' hZ hp J (C.trans M)
  .exact XX h1 h2 U (hY _ _ _ _ _ X) C.step hs hd r n _ fun d m' ai β' a' w' hp J M=>ih (k+1) _ _ β' w' a' hZ hp J (C.trans M)
theorem WZ{Y:eg}{r:Option Nat}{n id:Nat}{cf:List (Nat×Nat)}{Q:Exit->St->Prop}{N:Nat}{β₀:aC}{w₀:World}{a₀:Act}(J:∀ l args m nx dX,Y l args m nx dX->nq P F β₀ w₀ l args m nx dX)(af:vB a₀.tmps.size ops=true)
 (h:aq P Y ops false cf Q ops.toList st []) (hs:ew P F st β w a) (C:fW N β₀ w₀ a₀ st β w a):(Code.region id ops false).wpIn (Fe r) n P (dX P F N β₀ w₀ a₀ Q) a w:=by
 refine wpIn_region ?_;have:=aaE J (r:=r) (n:=n) af ops.toList 0 st [] β w a oS h hs C;rw[List.range_eq_range'];simpa using this
end
theorem EK(acc:List Nat)(i:Nat):∀ (l:List Edge) (s:Nat),(l.foldl (fun s e=>if Region.binds .any e then s||| 2 ^ e.on||| acc.getD e.on 0 else s) s).testBit i=true->
 s.testBit i=true\/∃ e∈l,Region.binds .any e=true/\(i=e.on\/(acc.getD e.on 0).testBit i=true)
 |[],s,h=>.inl h
 |e::l,s,h=>by
  rw[List.foldl_cons] at h;rcases EK acc i l _ h with h1|⟨C,J,hb⟩
  .by_cases hb:Region.binds .any e=true
   .rw[if_pos hb] at h1;simp only[Nat.testBit_or,Bool.or_eq_true,Nat.testBit_two_pow,decide_eq_true_eq] at h1;rcases h1 with(h1|h1)|h1
    .exact .inl h1
    .exact .inr ⟨e,oS,hb,.inl h1.symm⟩
    .exact .inr ⟨e,oS,hb,.inr h1⟩
   .rw[if_neg hb] at h1;exact .inl h1
  .exact .inr ⟨C,by simp[J],hb⟩
theorem Ip:∀ (os:List Oper) (acc:List Nat),∃ l,io os acc=acc++l/\l.length=os.length
 |[],acc=>⟨[],by simp[io],rfl⟩
 |o::os,acc=>by
  obtain⟨l,h1,h2⟩:=Ip os (acc++[Av acc o]);exact⟨Av acc o::l,by simp[io,h1],by simp[h2]⟩
theorem EX:∀ (os:List Oper) (acc:List Nat) (k:Nat) (o:Oper),os[k]? =some o->(io os acc).getD (acc.length+k) 0=Av ((io os acc).take (acc.length+k)) o
 |[],acc,k,o,h=>by simp at h
 |x::os,acc,0,o,h=>by
  simp only[List.getElem?_cons_zero,aH] at h;subst h;obtain⟨l,h1,h2⟩:=Ip os (acc++[Av acc x]);simp[io,h1]
 |x::os,acc,k+1,o,h=>by
  have:=EX os (acc++[Av acc x]) k o (by simpa using h);simp only[List.length_append,List.length_cons,List.length_nil] at this;have e:acc.length+(k+1)=acc.length+(0+1)+k:=by omega
  rw[e];exact this
theorem Iu{ops:Array Oper}{S:Nat->Bool}(U:∀ j,S j=true->∀ o,ops[j]? =some o->∀ e∈o.after,Region.binds .any e=true->S e.on=true)(i:Nat):
 ∀ j,S j=true->((io ops.toList []).getD j 0).testBit i=true->S i=true:=by
 intro j
 induction j using Nat.strongRecOn with
 |_ j ih=>
  intro hj hb;cases C:ops[j]? with
  |none=>
   obtain⟨l,h1,h2⟩:=Ip ops.toList []
   have:(io ops.toList []).getD j 0=0:=by
    rw[h1];simp only[List.nil_append];have:ops.size<=j:=by simpa using C
    simp[List.getElem?_eq_none (show l.length<=j by simpa[h2] using this)]
   rw[this] at hb;simp at hb
  |some o=>
   have h1:=EX ops.toList [] j o (by simpa using C);simp only[List.length_nil,Nat.zero_add] at h1;rw[h1] at hb;rcases EK _ i _ 0 hb with h2|⟨e,he,X,h2⟩
   .simp at h2
   .have J:=U j hj o C e (by simpa using he) X;rcases h2 with rfl|h2
    .exact J
    .rcases Nat.lt_or_ge e.on j with af|M
     .refine ih e.on af J ?_;simpa[List.getElem?_take,af] using h2
     .simp[List.getElem?_take,Nat.not_lt.2 M] at h2
theorem NV{bs:List Nat}{n i j:Nat}(C:i<j)(hj:j<n)(h:(bs.getD j 0).testBit i=false):(i,j)∈unordered bs n:=by
 unfold unordered;rw[List.mem_flatMap];exact⟨j,by simp[hj],by rw[List.mem_map];exact⟨i,by simp only[List.mem_filter,List.mem_range];exact⟨C,by rw[h];rfl⟩,rfl⟩⟩
theorem zL{us:List (Nat×Option Row)}:∀ {m:Mem} {i:Nat},i∉us.map (·.1)->cC m us i=m i:=by
 induction us with
 |nil=>intro m i _;rfl
 |cons u us ih=>
  intro m i h;obtain⟨j,r⟩:=u;simp only[List.map_cons,List.mem_cons,not_or] at h;simp only[cC];rw[ih h.2,aA _ _ h.1]
theorem Iv{us:List (Nat×Option Row)}:∀ {m m':Mem} {i:Nat},(i∈us.map (·.1)\/m i=m' i)->cC m us i=cC m' us i:=by
 induction us with
 |nil=>intro m m' i h;simpa[cC] using h
 |cons u us ih=>
  intro m m' i h;obtain⟨j,r⟩:=u;simp only[cC];refine ih ?_;by_cases hj:i=j
  .right;subst hj;rw[ah,ah]
  .rcases h with h|h
   .left;simp only[List.map_cons,List.mem_cons] at h;exact h.resolve_left hj
   .right;rw[aA _ _ hj,aA _ _ hj,h]
theorem YH{a b:List (Nat×Option Row)}(m:Mem)(h:∀ i∈a.map (·.1),i∉b.map (·.1)):cC (cC m a) b=cC (cC m b) a:=by
 funext i;by_cases ha:i∈a.map (·.1)
 .rw[zL (h i ha)];exact Iv (.inl ha)
 .rw[zL (m:=cC m b) ha];exact Iv (.inr (zL ha))
def pd(env:Env)(d:Option Nat)(v:D):Env:=match d with
 |some t=>up env t v
 |none=>env
theorem B6{env:Env}{d:Option Nat}{v:D}{t:Nat}(h:d≠some t):pd env d v t=env t:=by
 cases d with
 |none=>rfl
 |some u=>exact aA _ _ fun e=>h (by rw[e])
theorem Iw{env env':Env}{d:Option Nat}{v:D}{t:Nat}(h:d=some t\/env t=env' t):pd env d v t=pd env' d v t:=by
 cases d with
 |none=>simpa[pd] using h
 |some u=>
  by_cases hu:t=u
  .subst hu;simp[pd,ah]
  .simp only[pd,aA _ _ hu];rcases h with h|h
   .simp only[aH] at h;exact absurd h.symm hu
   .exact h
theorem YI(env:Env){d d':Option Nat}(v C:D)(h:∀ t,d=some t->d'≠some t):pd (pd env d v) d' C=pd (pd env d' C) d v:=by
 funext t;by_cases hd:d=some t
 .rw[B6 (h t hd)];exact Iw (.inl hd)
 .rw[B6 (env:=pd env d' C) hd];exact Iw (.inr (B6 hd))
def wD(st:St)(o:Oper)(p:dh):St:=St.put ⟨st.env,cC st.mem p.aQ,st.nx+p.new⟩ o.dst p.val
theorem JB(st:St)(o:Oper)(p:dh):(wD st o p).env=pd st.env o.dst p.val:=by unfold wD;rw[Xy];rfl
theorem Fl(st:St)(o:Oper)(p:dh):(wD st o p).mem=cC st.mem p.aQ:=Ot _ _ _
theorem vo(st:St)(o:Oper)(p:dh):(wD st o p).nx=st.nx+p.new:=BX _ _ _
section
variable(oo:Nat->Oper)(pp:Nat->dh)(st₀:St)
def fe(S:Nat->Bool):Nat->St
 |0=>st₀
 |k+1=>if S k then wD (fe S k) (oo k) (pp k) else fe S k
def fC:Nat->St:=fe oo pp st₀ fun _=>true
theorem qC(k:Nat):fC oo pp st₀ (k+1)=wD (fC oo pp st₀ k) (oo k) (pp k):=rfl
theorem R1(k:Nat):∀ n,k<=n->fe oo pp st₀ (fun j=>decide (j<k)) n=fC oo pp st₀ k:=by
 have below:∀ n,n<=k->fe oo pp st₀ (fun j=>decide (j<k)) n=fC oo pp st₀ n:=by
  intro n
  induction n with
  |zero=>intro _;rfl
  |succ n ih=>
   intro h;have hd:decide (n<k)=true:=by simp;omega
   rw[qC, <- ih oG];simp only[fe,hd,if_true]
 intro n h
 induction n with
 |zero=>
  have:k=0:=by omega
  subst this;rfl
 |succ n ih=>
  rcases Nat.lt_or_ge n k with af|C
  .have:k=n+1:=by omega
   subst this;exact below (n+1) (bd _)
  .have hd:decide (n<k)=false:=by simpa using C
   simp only[fe,hd,Bool.false_eq_true,if_false];exact ih C
theorem abG{S T:Nat->Bool}{t:Nat}:∀ n,(∀ j,j<n->S j≠T j->(oo j).dst≠some t)->(fe oo pp st₀ S n).env t=(fe oo pp st₀ T n).env t:=by
 intro n
 induction n with
 |zero=>intro _;rfl
 |succ n ih=>
  intro h;have h1:=ih fun j hj=>h j oG;have h2:=h n oG;simp only[fe];cases C:S n<;>cases J:T n<;>simp only[Bool.false_eq_true,if_false,if_true,JB]
  .exact h1
  .rw[B6 (h2 (by simp[C,J]))];exact h1
  .rw[B6 (h2 (by simp[C,J]))];exact h1
  .exact Iw (.inr h1)
theorem abH{S T:Nat->Bool}{i:Nat}:∀ n,(∀ j,j<n->S j≠T j->i∉(pp j).wr)->(fe oo pp st₀ S n).mem i=(fe oo pp st₀ T n).mem i:=by
 intro n
 induction n with
 |zero=>intro _;rfl
 |succ n ih=>
  intro h;have h1:=ih fun j hj=>h j oG;have h2:=h n oG;simp only[fe];cases C:S n<;>cases J:T n<;>simp only[Bool.false_eq_true,if_false,if_true,Fl]
  .exact h1
  .rw[zL (h2 (by simp[C,J]))];exact h1
  .rw[zL (h2 (by simp[C,J]))];exact h1
  .exact Iv (.inr h1)
theorem Jc{S T:Nat->Bool}:∀ n,(∀ j,j<n->S j=T j)->fe oo pp st₀ S n=fe oo pp st₀ T n:=by
 intro n
 induction n with
 |zero=>intro _;rfl
 |succ n ih=>
  intro h;simp only[fe,ih fun j hj=>h j oG,h n oG]
theorem abI{S:Nat->Bool}{k:Nat}(hk:S k=false):∀ n,k<n->(∀ j,k<j->j<n->S j=true->(∀ t,(oo k).dst=some t->(oo j).dst≠some t)/\∀ i∈(pp k).wr,i∉(pp j).wr)->
 (fe oo pp st₀ (fun j=>if j=k then true else S j) n).env=pd (fe oo pp st₀ S n).env (oo k).dst (pp k).val/\
 (fe oo pp st₀ (fun j=>if j=k then true else S j) n).mem=cC (fe oo pp st₀ S n).mem (pp k).aQ:=by
 intro n
 induction n with
 |zero=>intro h;omega
 |succ n ih=>
  intro jK h;rcases Nat.lt_or_ge k n with af|X
  .obtain⟨h1,h2⟩:=ih af fun j hj iJ=>h j hj oG;have C:n≠k:=by omega
   simp only[fe,if_neg C];cases U:S n with
   |false=>simp only[Bool.false_eq_true,if_false];exact⟨h1,h2⟩
   |true=>
    obtain⟨J,M⟩:=h n af oG U;simp only[if_true,JB,Fl,h1,h2];exact⟨YI _ _ _ J,YH _ M⟩
  .have:n=k:=by omega
   subst this;have e:fe oo pp st₀ (fun j=>if j=n then true else S j) n=fe oo pp st₀ S n:=Jc oo pp st₀ n fun j hj=>by simp only[if_neg (show j≠n by omega)]
   simp only[fe,if_true,hk,Bool.false_eq_true,if_false,JB,Fl,e];exact⟨trivial,trivial⟩
theorem oO{j k:Nat}(h:j<=k):(fC oo pp st₀ j).nx<=(fC oo pp st₀ k).nx:=by
 induction k with
 |zero=>have:j=0:=by omega
        subst this;exact bd _
 |succ k ih=>
  rcases Nat.lt_or_ge j (k+1) with af|C
  .rw[qC,vo];have:=ih oG;omega
  .have:j=k+1:=by omega
   subst this;exact bd _
end
section
variable{P:Program}{ops:Array Oper}{cf:List (Nat×Nat)}{Q:Exit->St->Prop}
def Fm(P:Program)(ops:Array Oper)(cf:List (Nat×Nat))(Q:Exit->St->Prop):List Oper->List dh->St->jJ->Prop
 |[],[],st,tr=>(∀ q∈cf,pC tr q.1 q.2)/\Q .normal st
 |o::os,p::ps,st,tr=>p.Ok P ops o st/\p.sx (cW o.op) st/\Fm P ops cf Q os ps (wD st o p) (tr++[(p.rd,p.wr)])
 |_,_,_,_=>False
theorem Ix{Y:eg}:∀ (os:List Oper) (st:St) (tr:jJ),aq P Y ops true cf Q os st tr->∃ ps,Fm P ops cf Q os ps st tr
 |[],st,tr,h=>⟨[],h⟩
 |o::os,st,tr,h=>by
  simp only[aq] at h;rcases IL h with⟨p,h1,h2,C⟩|⟨h1,_⟩|⟨h1,_⟩
  .obtain⟨ps,J⟩:=Ix os _ _ C;exact⟨p::ps,h1,h2,J⟩
  .cases h1
  .cases h1
instance:Inhabited dh:=⟨⟨.u,[],[],0⟩⟩
theorem Iy(oo:Nat->Oper)(pp:Nat->dh)(st₀:St):∀ (os:List Oper) (ps:List dh) (k:Nat) (tr:jJ),(∀ j o,os[j]? =some o->oo (k+j)=o)->(∀ j p,ps[j]? =some p->pp (k+j)=p)->tr.length=k->
 (∀ j,j<k->tr.getD j ([],[])=((pp j).rd,(pp j).wr))->Fm P ops cf Q os ps (fC oo pp st₀ k) tr->
 (∀ j,k<=j->j<k+os.length->(pp j).Ok P ops (oo j) (fC oo pp st₀ j)/\(pp j).sx (cW (oo j).op) (fC oo pp st₀ j))/\Q .normal (fC oo pp st₀ (k+os.length))/\
 ∃ C:jJ,(∀ j,j<k+os.length->C.getD j ([],[])=((pp j).rd,(pp j).wr))/\∀ q∈cf,pC C q.1 q.2
 |[],[],k,tr,ho,hp,hl,ht,h=>⟨fun j h1 h2=>absurd h2 oP,h.2,tr,ht,h.1⟩
 |[],_::_,_,_,_,_,_,_,h=>h.elim
 |_::_,[],_,_,_,_,_,_,h=>h.elim
 |o::os,p::ps,k,tr,ho,hp,hl,ht,h=>by
  have e1:oo k=o:=ho 0 o rfl;have e2:pp k=p:=hp 0 p rfl;obtain⟨h1,h2,U⟩:=h;have J:Fm P ops cf Q os ps (fC oo pp st₀ (k+1)) (tr++[(p.rd,p.wr)]):=by rw[qC,e1,e2];exact U
  obtain⟨a1,a2,C,a3,a4⟩:=Iy oo pp st₀ os ps (k+1) _ (fun j x hj=>by have:=ho (j+1) x (by simpa using hj);rw[<- this];congr 1;omega)
   (fun j x hj=>by have:=hp (j+1) x (by simpa using hj);rw[<- this];congr 1;omega) (by simp[hl])
   (fun j hj=>by
    rcases Nat.lt_or_ge j k with af|M
    .rw[<- ht j af];simp[List.getElem?_append_left (show j<tr.length by omega)]
    .have:j=k:=by omega
     subst this;simp[<- hl,List.getElem?_append_right,e2]
     rw[hl,e2];exact⟨rfl,rfl⟩) J
  have e3:k+(o::os).length=k+1+os.length:=by simp;omega
  rw[e3];refine⟨fun j hj X=>?_,a2,C,a3,a4⟩;rcases Nat.lt_or_ge k j with af|M
  .exact a1 j af X
  .have:j=k:=by omega
   subst this;rw[e1,e2];exact⟨h1,h2⟩
def Ka(P:Program)(F:Nat->Prop)(ops:Array Oper)(Q:Exit->St->Prop)(N₀:Nat)(β₀:aC)(w₀:World)(a₀:Act)(r:Option Nat)(n:Nat)(o:Oper)(st:St):Prop:=
 ∀ (β:aC) (w:World) (a:Act),ew P F st β w a->fW N₀ β₀ w₀ a₀ st β w a->∀ K:Act->World->Prop,(∀ a' w',dX P F N₀ β₀ w₀ a₀ Q .normal a' w'->K a' w')->pP r n P ops (dX P F N₀ β₀ w₀ a₀ Q) o K a w
theorem Wv(h:bT ops=some cf):(∀ (i:Nat) (o:Oper),ops[i]? =some o->∀ e∈o.after,Region.binds .any e=true->e.on<i)/\
 (∀ q∈unordered (io ops.toList []) ops.size,IK ops q.1 q.2=true)/\(∀ q∈unordered (io ops.toList []) ops.size,Fk ops q.1 q.2=true->q∈cf):=by
 unfold bT at h;simp only at h;split at h
 .rename_i hc;simp only[bc] at hc;cases h;refine⟨fun i o hi e he hb=>?_,fun q hq=>bQ.1 hc.2 q hq,fun q hq hm=>by rw[List.mem_filter];exact⟨hq,hm⟩⟩
  have h1:=bQ.1 hc.1 (o,i) (by
   rw[List.mem_zipIdx_iff_getElem?]
   simpa using hi)
  have h2:=bQ.1 h1 e (by simpa using he);simpa[hb] using h2
 .cases h
variable{F:Nat->Prop}{N₀:Nat}{β₀:aC}{w₀:World}{a₀:Act}
structure DS(P:Program)(F:Nat->Prop)(oo:Nat->Oper)(pp:Nat->dh)(st₀:St)(n:Nat)(N₀:Nat)(β₀:aC)(w₀:World)(a₀:Act)(S:Nat->Bool)(β:aC)(w:World)(a:Act):Prop where
 e:gH F β w (fe oo pp st₀ S n).env a
 m:aK P F (fe oo pp st₀ S n).mem β w
 free:∀ i,st₀.nx<=i->(∀ k,k<n->S k=true->¬ ((fC oo pp st₀ k).nx<=i/\i<(fC oo pp st₀ k).nx+(pp k).new))->β i=none
 step:Step β₀ w₀ β w
 grow:∀ i,i<N₀->β₀ i=none->β i=none
 size:a.tmps.size=a₀.tmps.size
 defers:a.defers=a₀.defers
theorem aab{oo:Nat->Oper}{pp:Nat->dh}{st₀:St}(hi:bT ops=some cf)(DU:∀ j o,ops[j]? =some o->oo j=o)(af:vB a₀.tmps.size ops=true)
 (J:Nat) (fO:J<=ops.size) (bK:∀ j,j<J->(pp j).Ok P ops (oo j) (fC oo pp st₀ j)/\(pp j).sx (cW (oo j).op) (fC oo pp st₀ j)) (hQ:J=ops.size->Q .normal (fC oo pp st₀ ops.size))
 (hL:J<ops.size->J+1=ops.size/\(∀ i,i<J->((io ops.toList []).getD J 0).testBit i=true)/\∀ r n,Ka P F ops Q N₀ β₀ w₀ a₀ r n (oo J) (fC oo pp st₀ J))
 (bg:∃ mg:jJ,(∀ j,j<J->mg.getD j ([],[])=((pp j).rd,(pp j).wr))/\∀ q∈cf,pC mg q.1 q.2)
 (iI:∀ i,st₀.nx<=i->st₀.mem i=none) (hN:N₀<=st₀.nx) (r:Option Nat) (n:Nat):
 ∀ (eh:Nat) (listed:Array Bool) (β:aC) (w:World) (a:Act),listed.size=ops.size->listed.toList.countP (fun b=> !b)<=eh->(J<ops.size->listed.getD J false=false)->
  (∀ j,listed.getD j false=true->∀ o,ops[j]? =some o->∀ e∈o.after,Region.binds .any e=true->listed.getD e.on false=true)->
  DS P F oo pp st₀ ops.size N₀ β₀ w₀ a₀ (fun j=>listed.getD j false) β w a->
  wpAnyIn (Fe r) n P .any ops (dX P F N₀ β₀ w₀ a₀ Q) eh listed a w:=by
 obtain⟨Mq,hta,jG⟩:=Wv hi;obtain⟨mg,TQ,ag0⟩:=bg
 have UO:∀ k,k<=J->∀ i,(fC oo pp st₀ k).nx<=i->(fC oo pp st₀ k).mem i=none:=by
  intro k
  induction k with
  |zero=>intro _ i hi;exact iI i hi
  |succ k ih=>
   intro hk i hi;rw[qC,vo] at hi;rw[qC,Fl];have h1:=(bK k oG).2.wr;rw[zL,ih oG i oG];intro jh;rcases h1 i jh with h2|h2
   .exact h2 (ih oG i oG)
   .omega
 have yP:∀ i j,i<j->j<ops.size->((io ops.toList []).getD j 0).testBit i=false->
  (∀ x∈(pp i).wr,x∉(pp j).wr)/\(∀ x∈(pp i).wr,x∈(pp j).rd->(fC oo pp st₀ j).mem x=none)/\(∀ x∈(pp j).wr,x∈(pp i).rd->(fC oo pp st₀ i).mem x=none):=by
  intro i j mf hj hb;have hu:=NV mf hj hb
  have iJ:j<J:=by
   rcases Nat.lt_or_ge j J with h|h
   .exact h
   .obtain⟨q1,q2,_⟩:=hL oG;have:j=J:=by omega
    subst this;rw[q2 i mf] at hb;cases hb
  have Mr:ops[i]? =some (oo i):=by
   have:i<ops.size:=by omega
   rw[DU i ops[i] (by simp[this])];simp[this]
  have DV:ops[j]? =some (oo j):=by
   rw[DU j ops[j] (by simp[hj])];simp[hj]
  obtain⟨ti,UP,UQ,t3i⟩:=(bK i oG).2;obtain⟨tj,t0j,t1j,t3j⟩:=(bK j iJ).2;by_cases fc:Fk ops i j=true
  .have h1:=ag0 _ (jG _ hu fc);unfold pC at h1;simp only[TQ i oG,TQ j iJ] at h1;exact⟨fun x hx=>(h1.1 x hx).2,fun x hx hr=>absurd hr (h1.1 x hx).1,fun x hx hr=>absurd hr (h1.2 x hx)⟩
  .simp only[Fk,Mr,DV,bc,Bool.or_eq_true,beq_iff_eq,bne_iff_ne,Bool.not_eq_true',ne_eq] at fc
   have hk:∀ o:Oper,cW o.op=0\/cW o.op=1\/cW o.op=2\/cW o.op=3:=fun o=>by
    unfold cW;split<;>simp
   have nil:∀ p:dh,p.aQ=[]->∀ x,x∉p.wr:=fun p hp x hx=>by simp[dh.wr,hp] at hx
   rcases hk (oo j) with kj|kj|kj|kj
   .have:=t0j kj;exact⟨fun x _=>nil _ this.2 x,fun x _ hr=>(by rw[this.1] at hr;cases hr),fun x hx=>absurd hx (nil _ this.2 x)⟩
   .by_cases k0:cW (oo i).op=0
    .have:=UP k0;exact⟨fun x hx=>absurd hx (nil _ this.2 x),fun x hx=>absurd hx (nil _ this.2 x),fun x _ hr=>by rw[this.1] at hr;cases hr⟩
    .have k1:cW (oo i).op=1:=by
      rcases hk (oo i) with h|h|h|h
      .exact absurd h k0
      .exact h
      .exact absurd ⟨⟨.inl kj,oG⟩,by simp[h]⟩ fc
      .exact absurd ⟨⟨.inl kj,oG⟩,by simp[h]⟩ fc
     exact⟨fun x hx=>absurd hx (nil _ (UQ k1) x),fun x hx=>absurd hx (nil _ (UQ k1) x),fun x hx=>absurd hx (nil _ (t1j kj) x)⟩
   .by_cases k0:cW (oo i).op=0
    .have:=UP k0;exact⟨fun x hx=>absurd hx (nil _ this.2 x),fun x hx=>absurd hx (nil _ this.2 x),fun x _ hr=>by rw[this.1] at hr;cases hr⟩
    .exact absurd ⟨⟨.inr kj,oG⟩,by simp[kj]⟩ fc
   .have cv:=oO oo pp st₀ (show i+1<=j by omega);rw[qC,vo] at cv;obtain⟨h1,h2⟩:=t3j kj
    have Ms:∀ x∈(pp i).wr,x<(fC oo pp st₀ j).nx:=fun x hx=>by
     rcases ti x hx with h|h
     .rcases Nat.lt_or_ge x (fC oo pp st₀ i).nx with h'|h'
      .omega
      .exact absurd (UO i oG x h') h
     .omega
    refine⟨fun x hx hxj=>?_,fun x _ hr=>(by rw[h1] at hr;cases hr),fun x hx _=>UO i oG x ?_⟩
    .have:=Ms x hx;have:=h2 x hxj;omega
    .have:=h2 x hx;omega
 have Lo:∀ i j,i<j->j<ops.size->((io ops.toList []).getD j 0).testBit i=false->(oo i).apart ops (oo j)=true:=by
  intro i j mf hj hb;have h1:=hta _ (NV mf hj hb)
  have Mr:ops[i]? =some (oo i):=by
   have:i<ops.size:=by omega
   rw[DU i ops[i] (by simp[this])];simp[this]
  have DV:ops[j]? =some (oo j):=by
   rw[DU j ops[j] (by simp[hj])];simp[hj]
  simpa[IK,Mr,DV] using h1
 have pZ:∀ listed:Array Bool,listed.size=ops.size->Region.ready .any ops listed=[]->∀ k,k<ops.size->listed.getD k false=true:=by
  intro listed bA hr k
  induction k using Nat.strongRecOn with
  |_ k ih=>
   intro hk;cases hl:listed.getD k false with
   |true=>rfl
   |false=>
    exfalso
    have:k∈Region.ready .any ops listed:=by
     rw[mem_ready];refine⟨?_,ops[k],by simp[hk],fun e he hb=>?_⟩
     .have hZ:k<listed.size:=by omega
      simpa[hZ] using hl
     .have h1:=Mq k ops[k] (by simp[hk]) e he hb;exact ih e.on h1 oG
    rw[hr] at this;cases this
 have done:∀ (listed:Array Bool) (β:aC) (w:World) (a:Act),listed.size=ops.size->(J<ops.size->listed.getD J false=false)->DS P F oo pp st₀ ops.size N₀ β₀ w₀ a₀ (fun j=>listed.getD j false) β w a->Region.ready .any ops listed=[]->
  dX P F N₀ β₀ w₀ a₀ Q .normal a w:=by
  intro listed β w a bA kJ C hr
  have Bh:J=ops.size:=by
   rcases Nat.lt_or_ge J ops.size with h|h
   .have h1:=kJ h;rw[pZ listed bA hr J h] at h1;cases h1
   .omega
  have hQ:=hQ Bh;have e:fe oo pp st₀ (fun j=>listed.getD j false) ops.size=fC oo pp st₀ ops.size:=Jc oo pp st₀ _ fun j hj=>pZ listed bA hr j hj;have h1:=C.e;have h2:=C.m;rw[e] at h1 h2;refine⟨fC oo pp st₀ ops.size,β,hQ,⟨h1,h2,fun i hi=>C.free i ?_ fun k hk _ h=>?_⟩,⟨C.step,?_,C.grow,C.size,C.defers⟩⟩
  .exact Nat.le_trans (oO oo pp st₀ (Nat.zero_le _)) hi
  .have:=oO oo pp st₀ (show k+1<=ops.size by omega);rw[qC,vo] at this;omega
  .exact Nat.le_trans hN (oO oo pp st₀ (Nat.zero_le _))
 intro eh
 induction eh with
 |zero=>
  intro listed β w a bA hc kJ di C
  have hr:Region.ready .any ops listed=[]:=by
   cases oz:Region.ready .any ops listed with
   |nil=>rfl
   |cons x xs=>
    exfalso;have hx:x∈Region.ready .any ops listed:=by rw[oz];simp
    rw[mem_ready] at hx;obtain⟨h1,o,M,_⟩:=hx;have yQ:x<ops.size:=(Array.getElem?_eq_some_iff.1 M).1;have yF:x<listed.size:=by omega
    have:listed[x]=false:=by simpa[yF] using h1
    have h2:0<listed.toList.countP (fun b=> !b):=List.countP_pos_iff.2 ⟨listed[x],oS,by simp[this]⟩;omega
  exact⟨hr,done listed β w a bA kJ C hr⟩
 |succ eh ih=>
  intro listed β w a bA hc kJ di C;refine⟨done listed β w a bA kJ C,fun k hk=>?_⟩;rw[mem_ready] at hk;obtain⟨yR,o,M,q7⟩:=hk;have jK:k<ops.size:=(Array.getElem?_eq_some_iff.1 M).1;have gj:k<listed.size:=by omega
  have yS:listed[k]=false:=by simpa[gj] using yR
  have uE:listed.getD k false=false:=by simp[gj,yS]
  have eo:oo k=o:=DU k o M;by_cases G6:k=J
  ·
    subst G6;obtain⟨q1,q2,q3⟩:=hL jK
    have bp:∀ j,j<k->listed.getD j false=true:=by
     intro j hj;have hb:=q2 j hj;have h1:=EX ops.toList [] k o (by simpa using M);simp only[List.length_nil,Nat.zero_add] at h1;rw[h1] at hb;rcases EK _ j _ 0 hb with h2|⟨e,he,lm,h2⟩
     .simp at h2
     .have uD:=q7 e (by simpa using he) lm;rcases h2 with rfl|h2
      .exact uD
      .have af:=Mq k o M e (by simpa using he) lm;have U:((io ops.toList []).getD e.on 0).testBit j=true:=by simpa[List.getElem?_take,af] using h2
       exact Iu (S:=fun j=>listed.getD j false) di j e.on uD U
    have DW:fe oo pp st₀ (fun j=>listed.getD j false) ops.size=fC oo pp st₀ k:=by
     rw[<- R1 oo pp st₀ k ops.size oG];refine Jc oo pp st₀ _ fun j hj=>?_;rcases Nat.lt_or_ge j k with h|h
     .simp[bp j h,h]
     .have:j=k:=by omega
      subst this;simp[uE]
    refine Ij M ?_;rw[<- eo];have h1:=C.e;have h2:=C.m;rw[DW] at h1 h2;refine q3 r n β w a ⟨h1,h2,fun i hi=>C.free i ?_ fun j hj hS h=>?_⟩ ⟨C.step,?_,C.grow,C.size,C.defers⟩ _ fun a' w' hp=>?_
    .exact Nat.le_trans (oO oo pp st₀ (Nat.zero_le _)) hi
    .rcases Nat.lt_or_ge j k with af|bq
     .have:=oO oo pp st₀ (show j+1<=k by omega);rw[qC,vo] at this;omega
     .have:j=k:=by omega
      subst this;simp only[uE] at hS;cases hS
    .exact Nat.le_trans hN (oO oo pp st₀ (Nat.zero_le _))
    .have hr:Region.ready .any ops (listed.setIfInBounds k true)=[]:=by
      cases oz:Region.ready .any ops (listed.setIfInBounds k true) with
      |nil=>rfl
      |cons x xs=>
       exfalso;have hx:x∈Region.ready .any ops (listed.setIfInBounds k true):=by rw[oz];simp
       rw[mem_ready] at hx;obtain⟨g1,o',DX,_⟩:=hx;have yQ:x<ops.size:=(Array.getElem?_eq_some_iff.1 DX).1;by_cases UR:x=k
       .subst UR;simp[gj] at g1
       .have U:=bp x oG;rw[getD_set_ne true (Ne.symm UR)] at g1;have sL:x<listed.size:=by omega
        simp[sL] at g1 U;rw[g1] at U;cases U
     cases eh with
     |zero=>exact⟨hr,hp⟩
     |succ eh=>exact⟨fun _=>hp,fun i hi=>by rw[hr] at hi;cases hi⟩
  have hkm:k<J:=by
   rcases Nat.lt_or_ge k J with h|h
   .exact h
   .have:=(hL oG).1;omega
  obtain⟨sM,ami⟩:=bK k hkm
  have TR:∀ j,j<k->listed.getD j false=false->((io ops.toList []).getD k 0).testBit j=false:=by
   intro j sN hj;cases hb:((io ops.toList []).getD k 0).testBit j with
   |false=>rfl
   |true=>
    exfalso;have h1:=EX ops.toList [] k o (by simpa using M);simp only[List.length_nil,Nat.zero_add] at h1;rw[h1] at hb;rcases EK _ j _ 0 hb with h2|⟨e,he,lm,h2⟩
    .simp at h2
    .have uD:=q7 e (by simpa using he) lm;rcases h2 with rfl|h2
     .rw[hj] at uD;cases uD
     .have af:=Mq k o M e (by simpa using he) lm;have U:((io ops.toList []).getD e.on 0).testBit j=true:=by simpa[List.getElem?_take,af] using h2
      have:=Iu (S:=fun j=>listed.getD j false) di j e.on uD U;rw[hj] at this;cases this
  have G7:∀ j,k<j->listed.getD j false=true->((io ops.toList []).getD j 0).testBit k=false:=by
   intro j gg hj;cases hb:((io ops.toList []).getD j 0).testBit k with
   |false=>rfl
   |true=>
    exfalso;have:=Iu (S:=fun j=>listed.getD j false) di k j hj hb;rw[uE] at this;cases this
  have SH:∀ j,j<ops.size->listed.getD j false≠decide (j<k)->(j<k/\listed.getD j false=false)\/(k<j/\listed.getD j false=true):=by
   intro j hj X;rcases Nat.lt_trichotomy j k with h|h|h
   .left;refine⟨h,?_⟩;simpa[h] using X
   .subst h;simp[uE] at X
   .right;refine⟨h,?_⟩;have:¬ j<k:=by omega
    simpa[this] using X
  have DW:=R1 oo pp st₀ k ops.size oG;refine Ij M ?_;rw[<- eo];refine sM F β w a (fe oo pp st₀ (fun j=>listed.getD j false) ops.size).mem (fe oo pp st₀ (fun j=>listed.getD j false) ops.size).env (fC oo pp st₀ ops.size).nx ?_ C.e C.m ?_ ?_ ?_ r n _ _ ?_
  .intro t ht;rw[<- DW];refine abG oo pp st₀ _ fun j hj X=>?_;rcases SH j hj X with⟨h1,h2⟩|⟨h1,h2⟩
   .have:=(Oper.apart_spec (Lo j k h1 jK (TR j h1 h2))).1;exact fun hd=>this t hd ht
   .have:=(Oper.apart_spec (Lo k j h1 hj (G7 j h1 h2))).2.2;exact fun hd=>this t hd ht
  .intro i hi X;rw[<- DW] at X ⊢;refine abH oo pp st₀ _ fun j hj Lp hw=>?_;rw[DW] at X;rcases SH j hj Lp with⟨h1,h2⟩|⟨h1,h2⟩
   .exact X ((yP j k h1 jK (TR j h1 h2)).2.1 i hw hi)
   .exact X ((yP k j h1 hj (G7 j h1 h2)).2.2 i hw hi)
  .intro i h1 h2;refine C.free i (Nat.le_trans (oO oo pp st₀ (Nat.zero_le _)) h1) fun j hj hS U=>?_;rcases Nat.lt_trichotomy j k with h|h|h
   .have:=oO oo pp st₀ (show j+1<=k by omega);rw[qC,vo] at this;omega
   .subst h;simp only[uE] at hS;cases hS
   .have:=oO oo pp st₀ (show k+1<=j by omega);rw[qC,vo] at this;omega
  .intro i hi;refine C.free i (Nat.le_trans (oO oo pp st₀ (Nat.zero_le _)) hi) fun j hj _ U=>?_;have:=oO oo pp st₀ (show j+1<=ops.size by omega);rw[qC,vo] at this;omega
  .intro v w' β' g1 g2 g3 g4
   have hS':(fun j=>(listed.setIfInBounds k true).getD j false)=(fun j=>if j=k then true else listed.getD j false):=by
    funext j;by_cases hj:j=k
    .subst hj;simp[gj]
    .rw[if_neg hj,getD_set_ne false (Ne.symm hj)]
   obtain⟨ae,am⟩:=abI oo pp st₀ (S:=fun j=>listed.getD j false) (k:=k) uE ops.size jK fun j gg hj Hy=>
    ⟨(Oper.apart_spec (Lo k j gg hj (G7 j gg Hy))).2.1,(yP k j gg hj (G7 j gg Hy)).1⟩
   refine ih _ β' w' _ (by simpa using bA) ?_ (fun h=>by rw[getD_set_ne false (fun e=>G6 e)];exact kJ h) ?_ ?_
   .have:(listed.setIfInBounds k true).toList=listed.toList.set k true:=by simp
    rw[this,List.countP_set (by simpa using gj)];have h2:0<listed.toList.countP (fun b=> !b):=List.countP_pos_iff.2 ⟨listed[k],oS,by simp[yS]⟩;have U:listed.toList[k]'(by simpa using gj)=false:=by simpa using yS
    rw[U];simp only[Bool.not_false,if_true,Bool.not_true,Bool.false_eq_true,if_false];omega
   .intro j hj o' DX e he hb;by_cases sN:j=k
    .subst sN;rw[M] at DX;cases DX;exact getD_set_true (q7 e he hb)
    .rw[getD_set_ne false (Ne.symm sN)] at hj;exact getD_set_true (di j hj o' DX e he hb)
   .rw[hS'];refine⟨?_,by rw[am];exact g2,fun i hi hn=>?_,C.step.trans g3,fun i hi hn=>?_,by rw[EY];exact C.size,by rw[put_defers];exact C.defers⟩
    .rw[ae];have hd:∀ t,(oo k).dst=some t->t<a.tmps.size:=fun t ht=>by rw[C.size];rw[eo] at ht;exact Iz af M t ht
     have he:=C.e.step g3;cases ag1:(oo k).dst with
     |none=>exact he
     |some t=>exact he.put (some t) _ _ g1 (fun u hu=>hd u (by rw[ag1];exact hu))
    .have h1:=hn k jK oS;have h2:=C.free i hi fun j hj Hy=>hn j hj (by by_cases sN:j=k<;>simp[sN,Hy]);exact g4 i h2 oG
    .exact g4 i (C.grow i hi hn) (.inl (Nat.lt_of_lt_of_le (Nat.lt_of_lt_of_le hi hN) (oO oo pp st₀ (Nat.zero_le _))))
theorem abJ{o:Oper}{st:St}{r:Option Nat}{n:Nat}{i:Nat}(ho:ops[i]? =some o)(af:vB a₀.tmps.size ops=true)(h:aq P cY ops false [] Q [o] st []):Ka P F ops Q N₀ β₀ w₀ a₀ r n o st:=by
 intro β w a hs J K hK;have hd:∀ t,o.dst=some t->t<a.tmps.size:=fun t ht=>by rw[J.size];exact Iz af ho t ht
 simp only[aq] at h;rcases IL h with⟨p,h1,_,C⟩|⟨_,f,args,h1,h2,C,X⟩|⟨_,l,args,h1,h2,C,X⟩
 .exact Pb h1 hs hd r n _ fun β' a' w' M U=>hK _ _ ⟨_,β',C.2,M,J.trans U⟩
 .exact Ou h1 h2 C X hs hd r n _ fun d m' ai β' a' w' hp M U=>hK _ _ ⟨_,β',hp.2,M,J.trans U⟩
 .exact X.elim
theorem Xz(h:CW ops=true):0<ops.size/\∀ i,i<ops.size - 1->((io ops.toList []).getD (ops.size - 1) 0).testBit i=true:=by
 unfold CW at h;simp only[bc,bQ,List.mem_range] at h;exact⟨by simpa using h.1,h.2⟩
theorem W0{Y:eg}{st:St}{β:aC}{w:World}{a:Act}{r:Option Nat}{n id:Nat}(gU:P.follows .mixedOrders=true)(hi:bT ops=some cf)(af:vB a₀.tmps.size ops=true)
 (h:CB P Y ops cf Q st) (hs:ew P F st β w a) (M:fW N₀ β₀ w₀ a₀ st β w a):(Code.region id ops true).wpIn (Fe r) n P (dX P F N₀ β₀ w₀ a₀ Q) a w:=by
 refine wpIn_region_any gU ?_
 obtain⟨ps,C,fO,bK,hQ,hL,bg⟩:∃ (ps:List dh) (C:Nat),C<=ops.size/\
  (∀ j,j<C->(ps.getD j default).Ok P ops (ops.toList.getD j default) (fC (fun j=>ops.toList.getD j default) (fun j=>ps.getD j default) st j)/\(ps.getD j default).sx (cW (ops.toList.getD j default).op) (fC (fun j=>ops.toList.getD j default) (fun j=>ps.getD j default) st j))/\
  (C=ops.size->Q .normal (fC (fun j=>ops.toList.getD j default) (fun j=>ps.getD j default) st ops.size))/\
  (C<ops.size->C+1=ops.size/\(∀ i,i<C->((io ops.toList []).getD C 0).testBit i=true)/\∀ r n,Ka P F ops Q N₀ β₀ w₀ a₀ r n (ops.toList.getD C default) (fC (fun j=>ops.toList.getD j default) (fun j=>ps.getD j default) st C))/\
  ∃ mg:jJ,(∀ j,j<C->mg.getD j ([],[])=((ps.getD j default).rd,(ps.getD j default).wr))/\∀ q∈cf,pC mg q.1 q.2:=by
  rcases h with h|⟨hl,h⟩
  .obtain⟨ps,X⟩:=Ix _ _ _ h;have J:=Iy (fun j=>ops.toList.getD j default) (fun j=>ps.getD j default) st ops.toList ps 0 [] (fun j o hj=>by simp at hj;simp[hj]) (fun j p hj=>by simp[hj]) rfl oS X;simp only[Nat.zero_add,Array.length_toList] at J;obtain⟨h1,h2,U⟩:=J;exact⟨ps,ops.size,bd _,fun j hj=>h1 j (Nat.zero_le _) hj,fun _=>h2,fun h=>absurd h (Nat.lt_irrefl _),U⟩
  .obtain⟨hp,hb⟩:=Xz hl;obtain⟨ps,X⟩:=Ix _ _ _ h;have hlen:(ops.toList.take (ops.size - 1)).length=ops.size - 1:=by simp
   have J:=Iy (fun j=>ops.toList.getD j default) (fun j=>ps.getD j default) st (ops.toList.take (ops.size - 1)) ps 0 [] (fun j o hj=>by
    have ln:j<ops.size - 1:=by rw[<- hlen];exact(bC.1 hj).1
    rw[List.getElem?_take,if_pos ln] at hj
    simp at hj;simp[hj]) (fun j p hj=>by simp[hj]) rfl oS X
   rw[hlen] at J;simp only[Nat.zero_add] at J;obtain⟨h1,h2,U⟩:=J;refine⟨ps,ops.size - 1,oG,fun j hj=>h1 j (Nat.zero_le _) hj,fun h=>by omega,fun _=>⟨oG,hb,fun r n=>?_⟩,U⟩
   have hx:ops[ops.size - 1]? =some (ops.toList.getD (ops.size - 1) default):=by
    have af:ops.size - 1<ops.size:=by omega
    simp[af]
   refine abJ hx af ?_;have h4:=h2.2
   have hd:ops.toList.drop (ops.size - 1)=[ops.toList.getD (ops.size - 1) default]:=by
    have af:ops.size - 1<ops.toList.length:=by simp;omega
    rw[List.drop_eq_getElem_cons af,List.drop_eq_nil_of_le oP];have og:ops.size - 1<ops.size:=by omega
    simp[List.getD,og]
   rw[hd] at h4;exact h4
 have GD:fe (fun j=>ops.toList.getD j default) (fun j=>ps.getD j default) st (fun j=>(Array.replicate ops.size false).getD j false) ops.size=st:=by
  have:∀ n,fe (fun j=>ops.toList.getD j default) (fun j=>ps.getD j default) st (fun j=>(Array.replicate ops.size false).getD j false) n=st:=by
   intro n
   induction n with
   |zero=>rfl
   |succ n ih=>
    have:(Array.replicate ops.size false).getD n false=false:=by simp[Array.getD_eq_getD_getElem?,Array.getElem?_replicate];split<;>rfl
    simp only[fe,this,Bool.false_eq_true,if_false];exact ih
  exact this _
 have US:Step β w β { w with drawn:=w.drawn+1 }:=⟨bd _,fun _ _ h=>⟨rfl,h⟩,fun _ _ h=>.inl h,rfl,rfl⟩
 refine aab (st₀:=st) (oo:=fun j=>ops.toList.getD j default) (pp:=fun j=>ps.getD j default) hi (fun j o hj=>by simp[hj]) af C fO bK hQ hL bg (fun i hi=>?_) M.le r n ops.size _ β _ a oS ?_ (fun h=>?_) ?_ ?_
 .cases hm:st.mem i with
  |none=>rfl
  |some row=>
   obtain⟨p,hp,_⟩:=hs.m.row i row hm;rw[hs.n i hi] at hp;cases hp
 .simpa using List.countP_le_length (p:=fun b=> !b) (l:=(Array.replicate ops.size false).toList)
 .simp[Array.getD_eq_getD_getElem?,Array.getElem?_replicate];split<;>rfl
 .intro j hj;exfalso;have:(Array.replicate ops.size false).getD j false=false:=by simp[Array.getD_eq_getD_getElem?,Array.getElem?_replicate];split<;>rfl
  rw[this] at hj;cases hj
 .refine⟨?_,?_,fun i hi _=>hs.n i hi,M.step.trans US,M.grow,M.size,M.defers⟩
  .rw[GD];exact hs.e.step US
  .rw[GD];exact hs.m.ext (bd _) fun _ _=>rfl
end
section
variable{P:Program}{F:Nat->Prop}
theorem PV{β β':aC}{w:World}{m:Mem}(hm:aK P F m β w){i:Nat}{cs:List D}{e:TypeId}(ao:m i=some (.cells cs e))(hβ:β'=up β i (some .dead)){d:D}{v:Value}(h:R F β w d v):
 R F β' w (cF i cs (P.cellsOf e) d) v:=by
 have hs:Step β w β' w:=by rw[hβ];exact zF β w i
 have fV:=h.step hs;obtain⟨p,hp,hr⟩:=hm.row i _ ao;unfold cF;split
 .rename_i j off n;split
  .rename_i U;subst U;cases h with
   |kF _ _ _ _ h1 _=>
    rw[h1] at hp;cases hp;cases hr
   |iH _ a h1=>
    rw[h1] at hp;cases hp;cases hr;simp only[List.drop_nil,List.take_nil];exact .gf a 0
   |jF _ _ a b o len room sz h1=>
    simp only[Nat.zero_mul,List.take_zero];exact .gf a 0
   |rs _ _ _ cap b o len room sz h1 hn de h2 h3=>
    rw[h1] at hp;cases hp;have J:β j=some (.cells b o len room sz):=h1;obtain⟨X,hl,bA,_⟩:=hr.rd;have M:=(X.drop off).take (n*P.cellsOf e);obtain⟨us,u1,u2⟩:=M;refine .sl _ n b (o+off) cap us (hm.nf j _ b J rfl) ?_ (hm.lt j _ b J rfl) hn de u1 fun k d hk=>(u2 k d hk).step hs;rw[hβ];intro k q hq;by_cases C:k=j
    .subst C;rw[ah] at hq;cases hq;simp[Pl.bG]
    .rw[aA _ _ C] at hq;exact hm.qz J rfl hq C
  .exact fV
 .rename_i j off;split
  .rename_i U;subst U;cases h with
   |qe _ _ _ h1 _=>
    rw[h1] at hp;cases hp;cases hr
   |rp _ _ b o len room sz h1=>
    rw[h1] at hp;cases hp;obtain⟨X,hl,bA,_⟩:=hr.rd;obtain⟨us,u1,u2⟩:=X.drop off;refine .pt _ b (o+off) us (hm.nf j _ b h1 rfl) ?_ (hm.lt j _ b h1 rfl) u1 fun k d hk=>(u2 k d hk).step hs;rw[hβ];intro k q hq;by_cases C:k=j
    .subst C;rw[ah] at hq;cases hq;simp[Pl.bG]
    .rw[aA _ _ C] at hq;exact hm.qz h1 rfl hq C
  .exact fV
 .exact fV
theorem Z'{β β':aC}{w:World}{m:Mem}(hm:aK P F m β w){i:Nat}{es:List (Value×D)}(ao:m i=some (.map es))(M:β'=up β i (some .dead)){d:D}{v:Value}(h:R F β w d v):R F β' w (yE i es d) v:=by
 have hs:Step β w β' w:=by rw[M];exact zF β w i
 unfold yE;split
 .rename_i j;split
  .rename_i U;subst U;obtain⟨r,ms,clock,h1,rfl,X,h4,h5,J⟩:=h.Cx hm ao;refine .im es r ms clock (hm.nf j _ r h1 rfl) ?_ X h4 h5 (fun k x m hx hm=>(J k x m hx hm).1) fun k x m hx hm=>(J k x m hx hm).2.step hs;rw[M];intro k q hq;by_cases C:k=j
   .subst C;rw[ah] at hq;cases hq;simp[Pl.bG]
   .rw[aA _ _ C] at hq;exact hm.qz h1 rfl hq C
  .exact h.step hs
 .exact h.step hs
section subst
variable{σ:D->D}{β β':aC}{w:World}
theorem O9(C:∀ {d v},R F β w d v->R F β' w (σ d) v){d:D}{v:Value}(h:R F β w d v):R F β' w (pb σ d) v:=by
 unfold pb;split
 .rename_i ds;obtain⟨vs,rfl,hl,hh⟩:=h.rP;refine .agg _ vs (by simpa using hl) fun k d v hd hv=>?_;simp only[List.getElem?_map,cO] at hd;obtain⟨d',J,rfl⟩:=hd;exact C (hh k d' v J hv)
 .cases h with
  |cq c d _ h1 h2=>exact .cq _ _ v (fun hc=>C (h1 hc)) h2
 .exact C h
theorem EV(C:∀ {d v},R F β w d v->R F β' w (σ d) v){d:D}{v:Value}(h:R F β w d v):R F β' w (sub σ d) v:=by
 have map:∀ (ds:List D) (vs:List Value),(∀ (k:Nat) (d:D) (v:Value),ds[k]? =some d->vs[k]? =some v->R F β w d v)->
  ∀ (k:Nat) (d:D) (v:Value),(ds.map (pb σ))[k]? =some d->vs[k]? =some v->R F β' w d v:=fun ds vs hh k d v hd hv=>by
  simp only[List.getElem?_map,cO] at hd;obtain⟨d',J,rfl⟩:=hd;exact O9 C (hh k d' v J hv)
 unfold sub;split
 .rename_i ds;obtain⟨vs,rfl,hl,hh⟩:=h.Cg;exact .aL _ vs (by simpa using hl) (map ds vs hh)
 .rename_i f fs ds;cases h with
  |fn _ _ _ us vs hl mb h1 h2=>exact .fn f _ _ us vs (by simpa using hl) (by simpa using mb) (map fs us h1) (map ds vs h2)
 .exact O9 C h
theorem abE(J:∀ {d v},R F β w d v->R F β' w (σ d) v)(hs:Step β w β' w){r:Row}{p:Pl}(h:cu P F β w r p):cu P F β' w (r.sub σ) p:=by
 cases h with
 |nil C=>exact .nil C
 |cells ds C b o room sz c hc hr hlen bA hh=>
  have:=cu.cells (P:=P) (F:=F) (β:=β') (w:=w) (ds.map (Abs.sub σ)) C b o room sz c hc hr (by simpa using hlen) bA fun k d hk=>by
   simp only[List.getElem?_map,cO] at hk;obtain⟨d',U,rfl⟩:=hk;obtain⟨v,h1,h2,X⟩:=hh k d' U;exact⟨v,h1,EV J h2,X⟩
  simpa[Row.sub] using this
 |map es r ms clock hc hl dY hh=>
  refine .map _ r ms clock hc (by simpa using hl) (by simpa[List.map_map,Function.comp_def] using dY) fun k x mm hk M=>?_;simp only[List.getElem?_map,cO] at hk;obtain⟨x',yF,rfl⟩:=hk;obtain⟨h1,h2⟩:=hh k x' mm yF M;exact⟨h1,EV J h2⟩
 |raw r o hc=>exact .raw r o hc
 |bs u x T b v hc bA hx h1=>exact .bs u _ T b v hc bA (EV J hx) h1
 |hD f r _ F₂ h1 h2 h=>exact(cu.hD f r p F₂ h1 h2 h).step hs fun _ _=>rfl
end subst
theorem N4{σ:D->D}{env:Env}{m:Mem}{nx i:Nat}{row:Row}(h:m i=some row){w:World}{a:Act}{β:aC}(hs:ew P F ⟨env,m,nx⟩ β w a)(U:∀ {d v},R F β w d v->R F (up β i (some .dead)) w (σ d) v):
 ∃ β',ew P F ⟨fun t=>sub σ (env t),fun j=>if j=i then none else(m j).map (Row.sub σ),nx⟩ β' w a/\fW nx β w a ⟨fun t=>sub σ (env t),fun j=>if j=i then none else(m j).map (Row.sub σ),nx⟩ β' w a:=by
 have M:=zF β w i;have hm:=hs.m;simp only at hm
 have J:∀ j q b,up β i (some .dead) j=some q->q.bG=some b->j≠i/\β j=some q:=fun j q b hq e=>by
  by_cases hj:j=i
  .subst hj;rw[ah] at hq;cases hq;simp[Pl.bG] at e
  .rw[aA _ _ hj] at hq;exact⟨hj,hq⟩
 have hi:∃ p,β i=some p:=by
  obtain⟨p,hp,_⟩:=hm.row i _ h;exact⟨p,hp⟩
 refine⟨up β i (some .dead),⟨fun t=>EV U (hs.e t),⟨fun j r hj=>?_,fun j k q X b hq fT e1 e2=>hm.inj j k q X b (J j q b hq e1).2 (J k X b fT e2).2 e1 e2,
  fun j q b hq e1=>hm.lt j q b (J j q b hq e1).2 e1,fun j q b hq e1=>hm.nf j q b (J j q b hq e1).2 e1,hm.fb⟩,fun j hj=>?_⟩,⟨M,bd _,fun j hj hn=>?_,rfl,rfl⟩⟩
 .simp only at hj;by_cases C:j=i
  .rw[if_pos C] at hj;cases hj
  .rw[if_neg C] at hj;simp only[cO] at hj;obtain⟨r',jk,rfl⟩:=hj;obtain⟨q,hq,ao⟩:=hm.row j r' jk;exact⟨q,by rw[aA _ _ C];exact hq,abE U M ao⟩
 .have C:j≠i:=fun e1=>by
   subst e1;obtain⟨p,hp⟩:=hi;rw[hs.n j hj] at hp;cases hp
  rw[aA _ _ C];exact hs.n j hj
 .have C:j≠i:=fun e1=>by
   subst e1;obtain⟨p,hp⟩:=hi;rw[hn] at hp;cases hp
  rw[aA _ _ C];exact hn
theorem aaa{β:aC}{w:World}{cs cs':List D}{e:TypeId}{p:Pl}(hl:cs'.length=cs.length)(M:∀ (k:Nat) (d d':D),cs[k]? =some d->cs'[k]? =some d'->Wk d d')(h:cu P F β w (.cells cs e) p):cu P F β w (.cells cs' e) p:=by
 cases h with
 |nil _=>
  have:cs'=[]:=List.length_eq_zero_iff.1 (by simpa using hl);subst this;exact .nil e
 |cells _ _ b o room sz c hc hr hlen bA hh=>
  rw[<- hl];refine .cells cs' e b o room sz c hc hr oG bA fun k d' C=>?_;have hk:k<cs.length:=by rw[<- hl];exact(bC.1 C).1
  obtain⟨v,h1,h2,J⟩:=hh k cs[k] (by simp[hk]);exact⟨v,h1,M k cs[k] d' (by simp[hk]) C _ _ _ _ h2,J⟩
theorem Io{st st':St}(h:aJ P st st'){w:World}{a:Act}:∀ {β:aC},ew P F st β w a->∃ β',ew P F st' β' w a/\fW st.nx β w a st' β' w a:=by
 induction h with
 |refl st=>exact fun {β} hs=>⟨β,hs,fW.refl st β w a⟩
 |trans _ _ ih₁ ih₂=>
  intro β hs;obtain⟨β₁,h1,h2⟩:=ih₁ hs;obtain⟨β₂,U,X⟩:=ih₂ h1;exact⟨β₂,U,h2.trans X⟩
 |forget env env' m nx h=>
  intro β hs;refine⟨β,⟨fun t=>?_,hs.m,hs.n⟩,⟨Step.refl β w,bd _,fun _ _ h=>h,rfl,rfl⟩⟩;rcases h t with h1|h1
  .simp only[h1];exact hs.e t
  .simp only[h1];exact .u _
 |drop env m m' nx h=>
  intro β hs;refine⟨β,⟨hs.e,⟨fun i r hi=>?_,hs.m.inj,hs.m.lt,hs.m.nf,hs.m.fb⟩,hs.n⟩,⟨Step.refl β w,bd _,fun _ _ h=>h,rfl,rfl⟩⟩;rcases h i with h1|h1
  .exact hs.m.row i r (h1.symm.trans hi)
  .simp only at hi;rw[h1] at hi;cases hi
 |nw env env' m m' nx h fc=>
  intro β hs;refine⟨β,⟨fun t=>h t _ _ _ _ (hs.e t),⟨fun i r hi=>?_,hs.m.inj,hs.m.lt,hs.m.nf,hs.m.fb⟩,hs.n⟩,⟨Step.refl β w,bd _,fun _ _ h=>h,rfl,rfl⟩⟩;rcases fc i with h1|⟨cs,cs',e,h1,h2,U,X⟩
  .exact hs.m.row i r (h1.symm.trans hi)
  .simp only at hi;rw[h2] at hi;cases hi;obtain⟨p,hp,hr⟩:=hs.m.row i _ h1;exact⟨p,hp,aaa U X hr⟩
 |freeze env m nx i cs e h=>
  intro β hs;exact N4 h hs fun hr=>PV hs.m h rfl hr
 |Ch env m nx i es h=>
  intro β hs;exact N4 h hs fun hr=>Z' hs.m h rfl hr
 |r4 env m nx t e h=>
  intro β hs;have hm:=hs.m;have hn:β nx=none:=hs.n nx (bd _);simp only at hm
  have C:∀ j q b,up β nx (some .nil) j=some q->q.bG=some b->j≠nx/\β j=some q:=fun j q b hq e=>by
   by_cases hj:j=nx
   .subst hj;rw[ah] at hq;cases hq;simp[Pl.bG] at e
   .rw[aA _ _ hj] at hq;exact⟨hj,hq⟩
  have M:Step β w (up β nx (some .nil)) w:=by
   refine⟨bd _,fun b _ hf=>⟨rfl,fun j q hq e1=>?_⟩,fun j q hq=>.inl ?_,rfl,rfl⟩
   .exact hf j q (C j q b hq e1).2 e1
   .rw[aA _ _ (fun e1=>by rw[e1,hn] at hq;cases hq)];exact hq
  refine⟨up β nx (some .nil),⟨fun u=>?_,⟨fun j r hj=>?_,fun j k q q' b hq fT e1 e2=>hm.inj j k q q' b (C j q b hq e1).2 (C k q' b fT e2).2 e1 e2,
   fun j q b hq e1=>hm.lt j q b (C j q b hq e1).2 e1,fun j q b hq e1=>hm.nf j q b (C j q b hq e1).2 e1,hm.fb⟩,fun j hj=>?_⟩,⟨M,Nat.le_succ _,fun j hj hb=>?_,rfl,rfl⟩⟩
  .by_cases hu:u=t
   .subst hu;have h1:=hs.e u;simp only at h1;rw[h] at h1;obtain⟨x,hx⟩:=h1.tQ;simp only[ah,hx];exact .iH nx x (ah _ _ _)
   .simp only[aA _ _ hu];exact(hs.e u).step M
  .simp only at hj;by_cases J:j=nx
   .subst J;rw[ah] at hj;cases hj;exact⟨.nil,ah _ _ _,.nil e⟩
   .rw[aA _ _ J] at hj;obtain⟨q,hq,ao⟩:=hm.row j r hj;exact⟨q,by rw[aA _ _ J];exact hq,ao.step M fun _ _=>rfl⟩
  .simp only at hj;rw[aA _ _ (show j≠nx by omega)];exact hs.n j (by simp only;omega)
  .simp only at hj;rw[aA _ _ (show j≠nx by omega)];exact hb
def gA(N:Nat):Code->Bool
 | .region _ ops _=>vB N ops
 | .seq a b=>gA N a&&gA N b
 | .cond _ a b=>gA N a&&gA N b
 | .block _ b=>gA N b
 | .loop b=>gA N b
 | .scope b=>gA N b
 | .rangeFunc _ ps a b=>(ps.toList.all fun t=>Nat.blt t N)&&(gA N a&&gA N b)
 |_=>true
theorem Wt{Fc:Fence}{n:Nat}{Q:Exit->Act->World->Prop}{c:Code}(J:Nat->Act->World->Prop){j₀:Nat}{a:Act}{w:World}(h₀:J j₀ a w)
 (round:∀ j a w,J j a w->c.wpIn Fc n P (Exit.then (fun a' w'=>∃ X,X<j/\J X a' w') Q) a w):(Code.loop c).wpIn Fc n P Q a w:=by
 intro b k cs Bc hb hr
 have key:∀ j a w,J j a w->
  ∃ e a' w',Q e a' w'/\ArrivesIn (Machine.fenced P Fc) P (lone (b.atR a (.code c::.inLoop c::k)) cs w) b k cs e a' w':=by
  intro j
  induction j using Nat.strongRecOn with
  |_ j ih=>
   intro a w hI;obtain⟨e,M,U,hq,C⟩:=round j a w hI b (.inLoop c::k) cs Bc hb hr;cases e with
   |normal=>
    obtain⟨X,af,hI₁⟩:=hq;obtain⟨e₂,a₂,w₂,hq₂,adR⟩:=ih X af M U hI₁;exact⟨e₂,a₂,w₂,hq₂,.of_steps (StepsIn.trans C (.one (fenced_calm hb hr rfl) stepR_inLoop)) adR⟩
   |exit id=>exact⟨_,M,U,hq,.pass (x:=.inLoop c) rfl (fun _ _=>.inl oS) C⟩
   |goto l=>exact⟨_,M,U,hq,.pass (x:=.inLoop c) rfl (fun _ _=>.inl oS) C⟩
   |ret=>exact⟨_,M,U,hq,.pass (x:=.inLoop c) rfl (fun _ _=>.inl oS) C⟩
   |panic ch=>exact⟨_,M,U,hq,.pass (x:=.inLoop c) rfl (fun _ _=>.inl oS) C⟩
   |outgrown=>exact⟨_,M,U,hq,.pass (x:=.inLoop c) rfl (fun _ _=>.inl oS) C⟩
 obtain⟨e,a',w',hq,C⟩:=key _ a w h₀;exact⟨e,a',w',hq,.of_steps (.one (fenced_calm hb hr rfl) stepR_loop) C⟩
def mark(b:Nat):Deferred:={ target:=.collected b,args:= #[] }
def Marks(β:aC)(w:World)(lo:Nat):List Deferred->Nat->Prop
 |[],_=>True
 |d::ds,hi=>∃ b,d=mark b/\lo<=b/\b<hi/\w.heap[b]? =some (.deferred (some []))/\β.free b/\Marks β w lo ds b
theorem Marks.step{β β':aC}{w w':World}(hs:Step β w β' w'){lo:Nat}:∀ {ds:List Deferred} {hi:Nat},hi<=w.heap.size->Marks β w lo ds hi->Marks β' w' lo ds hi
 |[],_,_,_=>trivial
 |d::ds,hi,hle,⟨b,h1,h2,h3,h4,h5,h6⟩=>by
  obtain⟨C,J⟩:=hs.c7 b oG h5;exact⟨b,h1,h2,h3,C.trans h4,J,Marks.step hs oG h6⟩
theorem Marks.mono{β:aC}{w:World}{lo hi C:Nat}(h:hi<=C):∀ {ds:List Deferred},Marks β w lo ds hi->Marks β w lo ds C
 |[],_=>trivial
 |_::_,⟨b,h1,h2,h3,h4⟩=>⟨b,h1,h2,oG,h4⟩
theorem Marks.append{β:aC}{w:World}{lo mid:Nat}(J:lo<=mid){C:List Deferred}:∀ {ds:List Deferred} {hi:Nat},mid<=hi->Marks β w mid ds hi->Marks β w lo C mid->Marks β w lo (ds++C) hi
 |[],_,hle,_,h'=>Marks.mono hle h'
 |_::_,_,_,⟨b,h1,h2,h3,h4,h5,h6⟩,h'=>⟨b,h1,oG,h3,h4,h5,Marks.append J h2 h6 h'⟩
structure ov(N:Nat)(β:aC)(w:World)(a:Act)(st':St)(β':aC)(w':World)(a':Act):Prop where
 step:Step β w β' w'
 le:N<=st'.nx
 grow:∀ i,i<N->β i=none->β' i=none
 size:a'.tmps.size=a.tmps.size
 defers:∃ ds,a'.defers=ds++a.defers/\Marks β' w' w.heap.size ds w'.heap.size
theorem fW.yG{N:Nat}{β β':aC}{w w':World}{a a':Act}{st':St}(h:fW N β w a st' β' w' a'):ov N β w a st' β' w' a':=
 ⟨h.step,h.le,h.grow,h.size,[],h.defers,trivial⟩
theorem ov.trans{N:Nat}{β β₁ β₂:aC}{w X w₂:World}{a C J:Act}{M U:St}(h:ov N β w a M β₁ X C)(k:ov M.nx β₁ X C U β₂ w₂ J):ov N β w a U β₂ w₂ J:=by
 obtain⟨ds,e1,h1⟩:=h.defers;obtain⟨wv,e2,h2⟩:=k.defers
 exact⟨h.step.trans k.step,Nat.le_trans h.le k.le,fun i hi hn=>k.grow i (Nat.lt_of_lt_of_le hi h.le) (h.grow i hi hn),k.size.trans h.size,wv++ds,by rw[e2,e1,List.append_assoc],
  Marks.append h.step.size k.step.size h2 (h1.step k.step (bd _))⟩
theorem ov.since{N:Nat}{β β₁ β₂:aC}{w X w₂:World}{a C J:Act}{M U:St}(h:ov N β w a M β₁ X C)(k:fW M.nx β₁ X C U β₂ w₂ J):ov N β w a U β₂ w₂ J:=h.trans k.yG
def SG(P:Program)(F:Nat->Prop)(N:Nat)(β:aC)(w:World)(a:Act)(Q:Exit->St->Prop)(e:Exit)(a':Act)(w':World):Prop:=
 ∃ st' β',Q e st'/\ew P F st' β' w' a'/\ov N β w a st' β' w' a'
theorem nq.base{J:aC}{C:World}{β:aC}{w:World}(hs:Step J C β w){l:Nat}{args:List D}{m:Mem}{nx:Nat}{K:D->Mem->Nat->Prop}(h:nq P F J C l args m nx K):nq P F β w l args m nx K:=
 fun β' w' us M=>h β' w' us (hs.trans M)
theorem qz{β:aC}{i:Nat}{p:Option Pl}{b:Nat}(h:β.free b)(hp:∀ q,p=some q->q.bG≠some b):aC.free (up β i p) b:=fun j q hq=>by
 by_cases hj:j=i
 .subst hj;rw[ah] at hq;exact hp q hq
 .rw[aA _ _ hj] at hq;exact h j q hq
theorem R.oe{β:aC}{w:World}{l:Nat}(C:F l)(o:Obj){d:D}{v:Value}(h:R F β w d v):R F β (w.putObj l o) d v:=
 h.gen oS (fun b _ hb hf=>⟨tx (World.putObj_heap_other fun e=>hb (e▸C)),hf,hb⟩) fun _ _ _ h=>.inl h
theorem cu.oe{β:aC}{w:World}{l:Nat}(C:F l)(o:Obj){r:Row}{p:Pl}(hp:∀ b,p.bG=some b->b≠l)(h:cu P F β w r p):cu P F β (w.putObj l o) r p:=
 h.gen oS (fun b _ hb hf=>⟨tx (World.putObj_heap_other fun e=>hb (e▸C)),hf,hb⟩) (fun _ _ _ h=>.inl h) fun b hb=>World.putObj_heap_other (hp b hb)
theorem aK.oe{m:Mem}{β:aC}{w:World}{l:Nat}(C:F l)(J:∀ t∈uc,t.1≠l)(o:Obj)(h:aK P F m β w):aK P F m β (w.putObj l o):=
 ⟨fun i r hi=>by
  obtain⟨p,hp,hr⟩:=h.row i r hi
  exact⟨p,hp,hr.oe C o fun b hb e=>h.nf i p b hp hb (e▸C)⟩,h.inj,fun i p b hp hb=>by simpa using h.lt i p b hp hb,h.nf,h.fb.next (fun b hb=>by simpa using h.fb.lt b hb) (fun _ h=>h) fun t ht _=>World.putObj_heap_other fun e=>J t ht e⟩
theorem ew.oe{st:St}{β:aC}{w:World}{a:Act}{l:Nat}(C:F l)(J:∀ t∈uc,t.1≠l)(o:Obj)(h:ew P F st β w a):ew P F st β (w.putObj l o) a:=
 ⟨fun t=>(h.e t).oe C o,h.m.oe C J o,h.n⟩
theorem R.nw{F':Nat->Prop}(C:∀ b,F' b->F b){β:aC}{w:World}{d:D}{v:Value}(h:R F β w d v):R F' β w d v:=
 h.gen (bd _) (fun b _ hb hf=>⟨ki.refl w b,hf,fun e=>hb (C b e)⟩) fun _ _ _ h=>.inl h
theorem aK.nw{F':Nat->Prop}(C:∀ b,F' b->F b)(J:∀ t∈uc,F' t.1){m:Mem}{β:aC}{w:World}(h:aK P F m β w):aK P F' m β w:=
 ⟨fun i r hi=>by
  obtain⟨p,hp,hr⟩:=h.row i r hi
  exact⟨p,hp,hr.gen (bd _) (fun b _ hb hf=>⟨ki.refl w b,hf,fun e=>hb (C b e)⟩) (fun _ _ _ h=>.inl h) fun _ _=>rfl⟩,h.inj,h.lt,fun i p b hp hb e=>h.nf i p b hp hb (C b e),⟨fun b hb=>h.fb.lt b (C b hb),fun t ht=>⟨J t ht,(h.fb.me t ht).2⟩⟩⟩
theorem Ja{β:aC}{b:Nat}(h:¬ β.free b):∃ i p,β i=some p/\p.bG=some b:=by
 unfold aC.free at h;simp only[Classical.not_forall] at h;obtain⟨i,p,hp,hb⟩:=h;exact⟨i,p,hp,Decidable.not_not.1 hb⟩
structure View(il n₀:Nat)(f:Nat->Option Nat)(mc:Mem)(nc:Nat)(m:Mem)(nx:Nat):Prop where
 low:n₀<=nc
 lt:il<nx
 id:∀ i,i<n₀->f i=some i
 wz:∀ i,i<nc->∃ j,f i=some j/\j<nx/\j≠il
 out:∀ i,nc<=i->f i=none
 inj:∀ i i' j,f i=some j->f i'=some j->i=i'
 rows:∀ i r,mc i=some r->∃ j,f i=some j/\m j=some (r.l6 f)
theorem View.l7{il n₀:Nat}{f:Nat->Option Nat}{mc:Mem}{nc:Nat}{m:Mem}{nx:Nat}(h:View il n₀ f mc nc m nx){i j:Nat}(hf:f i=some j):i<nc/\j<nx/\j≠il:=by
 rcases Nat.lt_or_ge i nc with af|C
 .obtain⟨M,h1,h2,J⟩:=h.wz i af;rw[hf] at h1;cases h1;exact⟨af,h2,J⟩
 .rw[h.out i C] at hf;cases hf
theorem View.ext{il n₀:Nat}{f:Nat->Option Nat}{mc:Mem}{nc:Nat}{m m':Mem}{nx J:Nat}(h:View il n₀ f mc nc m nx)(C:nx<=J)(he:∀ i,i<nx->m' i=m i):View il n₀ f mc nc m' J:=
 ⟨h.low,Nat.lt_of_lt_of_le h.lt C,h.id,fun i hi=>by
  obtain⟨j,h1,h2,M⟩:=h.wz i hi;exact⟨j,h1,oG,M⟩,h.out,h.inj,fun i r hi=>by
  obtain⟨j,h1,h2⟩:=h.rows i r hi
  exact⟨j,h1,(he j (h.l7 h1).2.1).trans h2⟩⟩
theorem YG{f:Nat->Option Nat}{m:Mem}{β:aC}{w:World}(hm:aK P F m β w){b:Nat}(h:hidden F β f b):b<w.heap.size:=by
 rcases h with h|⟨h,_⟩
 .exact hm.fb.lt b h
 .obtain⟨i,p,hp,hb⟩:=Ja h;exact hm.lt i p b hp hb
theorem View.enter{il n₀:Nat}{f:Nat->Option Nat}{mc:Mem}{nc:Nat}{m:Mem}{nx:Nat}(h:View il n₀ f mc nc m nx){β:aC}{w:World}(hm:aK P F m β w):
 aK P (hidden F β f) mc (β.via f) w/\∀ i,nc<=i->(β.via f) i=none:=by
 have look:∀ i p,(β.via f) i=some p->∃ j,f i=some j/\β j=some p:=fun i p hp=>Option.bind_eq_some_iff.1 hp;refine⟨⟨fun i r hi=>?_,fun i i' p q b hp hq e J=>?_,fun i p b hp e=>?_,fun i p b hp e C=>?_,hm.fb.next (fun b hb=>YG hm hb) (fun _ h=>.inl h) fun _ _ _=>rfl⟩,fun i hi=>?_⟩
 .obtain⟨j,h1,h2⟩:=h.rows i r hi;obtain⟨p,hp,hr⟩:=hm.row j _ h2;exact⟨p,by simp[aC.via,h1,hp],hr.seen⟩
 .obtain⟨j,h1,h2⟩:=look i p hp;obtain⟨X,M,U⟩:=look i' q hq;have:=hm.inj j X p q b h2 U e J;subst this;exact h.inj i i' j h1 M
 .obtain⟨j,h1,h2⟩:=look i p hp;exact hm.lt j p b h2 e
 .obtain⟨j,h1,h2⟩:=look i p hp;rcases C with C|⟨_,C⟩
  .exact hm.nf j p b h2 e C
  .exact C i p hp e
 .simp[aC.via,h.out i hi]
theorem aK.pO{m:Mem}{β:aC}{w:World}{i l:Nat}{o:Obj}(h:aK P F m β w)(hm:m i=some (.raw l o)):β i=some (.raw l)/\w.heap[l]? =some o/\¬ F l/\l<w.heap.size:=by
 obtain⟨p,hp,hr⟩:=h.row i _ hm;cases hr with
 |raw _ _ hc=>exact⟨hp,hc,h.nf i _ l hp rfl,h.lt i _ l hp rfl⟩
theorem View.vd{il n₀:Nat}{f:Nat->Option Nat}{mc:Mem}{nc:Nat}{m:Mem}{nx:Nat}(h:View il n₀ f mc nc m nx){β:aC}{w:World}(hm:aK P F m β w){j:Nat}{p:Pl}{b:Nat}(hj:∀ i,f i≠some j)(hp:β j=some p)(hb:p.bG=some b):
 (β.via f).free b/\hidden F β f b:=by
 have C:(β.via f).free b:=fun i q hq e=>by
  obtain⟨J,h1,h2⟩:=Option.bind_eq_some_iff.1 hq;exact hj i (hm.inj J j q p b h2 hp e hb▸h1)
 exact⟨C,.inr ⟨fun e=>e j p hp hb,C⟩⟩
structure o7(l:Nat)(β:aC)(w:World)(β':aC)(w':World):Prop where
 size:w.heap.size<=w'.heap.size
 c7:∀ b,b<w.heap.size->b≠l->β.free b->w'.heap[b]? =w.heap[b]? /\β'.free b
 keep:∀ i p,β i=some p->β' i=some p\/β' i=some .dead
 out:Out w w'
theorem Step.x{β β':aC}{w w':World}(h:Step β w β' w')(l:Nat):o7 l β w β' w':=⟨h.size,fun b hb _=>h.c7 b hb,h.keep,h.out⟩
theorem o7.trans{l:Nat}{X β₂ β₃:aC}{J M U:World}(h:o7 l X J β₂ M)(k:o7 l β₂ M β₃ U):o7 l X J β₃ U:=by
 refine⟨Nat.le_trans h.size k.size,fun b hb C hf=>?_,fun i p hp=>?_,h.out.trans k.out⟩
 .obtain⟨h1,h2⟩:=h.c7 b hb C hf;obtain⟨k1,k2⟩:=k.c7 b (Nat.lt_of_lt_of_le hb h.size) C h2;exact⟨k1.trans h1,k2⟩
 .rcases h.keep i p hp with h1|h1
  .exact k.keep i p h1
  .right;rcases k.keep i _ h1 with h2|h2<;>exact h2
theorem o7.put(l:Nat)(β:aC)(w:World)(o:Obj):o7 l β w β (w.putObj l o):=⟨oS,fun b _ C hf=>⟨World.putObj_heap_other C,hf⟩,fun _ _ h=>.inl h,rfl,rfl⟩
theorem EJ{n j:Nat}{f:Nat->Option Nat}(C:∀ i i' j,f i=some j->f i'=some j->i=i'):
 (∀ i,(range n).find? (fun i=>f i==some j)=some i->f i=some j/\i<n)/\(∀ i,i<n->f i=some j->(range n).find? (fun i=>f i==some j)=some i):=by
 refine⟨fun i hi=>⟨by simpa using List.find?_some hi,by simpa using List.mem_of_find?_eq_some hi⟩,fun i hi hf=>?_⟩;cases h:(range n).find? (fun i=>f i==some j) with
 |none=>
  have:=List.find?_eq_none.1 h i (by simpa using hi);simp[hf] at this
 |some k=>rw[C i k j hf (by simpa using List.find?_some h)]
theorem View.adS{il n₀:Nat}{f:Nat->Option Nat}{mc:Mem}{nc:Nat}{m:Mem}{nx:Nat}(h:View il n₀ f mc nc m nx){β:aC}{w:World}(hm:aK P F m β w)(hn:∀ i,nx<=i->β i=none){l:Nat}{o o':Obj}(hl:m il=some (.raw l o))
 {m':Mem} {J:Nat} {β':aC} {w':World} (fB:aK P (hidden F β f) m' β' w') (hs:o7 l (β.via f) w β' w') (hM:∀ i,J<=i->β' i=none) (hle:nc<=J) (hg:∀ i,i<nc->(β.via f) i=none->β' i=none) (ho:w'.heap[l]? =some o'):
 ∃ f' M gI C,View il n₀ f' m' J M gI/\M il=some (.raw l o')/\aK P F M C w'/\(∀ i,gI<=i->C i=none)/\Step β w C w'/\nx<=gI/\∀ i,i<nx->β i=none->C i=none:=by
 obtain⟨yH,rk,DO,af⟩:=hm.pO hl
 let f':Nat->Option Nat:=fun i=>if i<nc then f i else if i<J then some (nx+(i - nc)) else none
 have qS:∀ i,i<nc->f' i=f i:=fun i hi=>by simp[f',hi]
 have xM:∀ i,nc<=i->i<J->f' i=some (nx+(i - nc)):=fun i h1 h2=>by simp[f',h2,Nat.not_lt.2 h1]
 have CR:∀ i,J<=i->f' i=none:=fun i h1=>by simp[f',Nat.not_lt.2 h1,Nat.not_lt.2 (Nat.le_trans hle h1)]
 have lF:∀ i j,f' i=some j->(f i=some j/\i<nc/\j<nx)\/(nc<=i/\i<J/\j=nx+(i - nc)):=fun i j hf=>by
  rcases Nat.lt_or_ge i nc with h1|h1
  .rw[qS i h1] at hf;exact .inl ⟨hf,h.l7 hf |>.1,(h.l7 hf).2.1⟩
  .rcases Nat.lt_or_ge i J with h2|h2
   .rw[xM i h1 h2] at hf;cases hf;exact .inr ⟨h1,h2,rfl⟩
   .rw[CR i h2] at hf;cases hf
 have xN:∀ i i' j,f' i=some j->f' i'=some j->i=i':=fun i i' j h1 h2=>by
  rcases lF i j h1 with⟨a1,a2,a3⟩|⟨a1,a2,a3⟩<;>rcases lF i' j h2 with⟨b1,b2,b3⟩|⟨b1,b2,b3⟩
  .exact h.inj i i' j a1 b1
  .omega
  .omega
  .omega
 let inv:Nat->Option Nat:=fun j=>(range J).find? fun i=>f' i==some j
 have mG:∀ i j,inv j=some i->f' i=some j:=fun i j hi=>((EJ xN).1 i hi).1;have yj:∀ i j,f' i=some j->inv j=some i:=fun i j hf=>(EJ xN).2 i (by rcases lF i j hf with h1|h1<;>omega) hf
 have Le:∀ j,inv j=none->∀ i,f i≠some j:=fun j hj i hf=>by
  have:=yj i j (by rw[qS i (h.l7 hf).1];exact hf);rw[hj] at this;cases this
 let C:aC:=fun j=>match inv j with|some i=>β' i|none=>β j
 let M:Mem:=fun j=>match inv j with|some i=>(m' i).map (Row.l6 f')|none=>if j=il then some (.raw l o') else m j
 have βs:∀ i j,f' i=some j->C j=β' i:=fun i j hf=>by simp[C,yj i j hf]
 have βn:∀ j,inv j=none->C j=β j:=fun j hj=>by simp[C,hj]
 have J':inv il=none:=by
  cases hi:inv il with
  |none=>rfl
  |some i=>
   rcases lF i il (mG i il hi) with⟨a1,a2,a3⟩|⟨a1,a2,a3⟩
   .exact absurd rfl (h.l7 a1).2.2
   .have:=h.lt;omega
 have via:C.via f'=β':=by
  funext i;simp only[aC.via];cases hf:f' i with
  |some j=>exact βs i j hf
  |none=>
   rcases Nat.lt_or_ge i J with h1|h1
   .rcases Nat.lt_or_ge i nc with h2|h2
    .obtain⟨j,h3,_⟩:=h.wz i h2;rw[qS i h2,h3] at hf;cases hf
    .rw[xM i h2 h1] at hf;cases hf
   .exact(hM i h1).symm
 have look:∀ j p,C j=some p->(∃ i,inv j=some i/\f' i=some j/\β' i=some p)\/(inv j=none/\β j=some p):=fun j p hp=>by
  cases hi:inv j with
  |some i=>exact .inl ⟨i,rfl,mG i j hi,by rw[<- βs i j (mG i j hi)];exact hp⟩
  |none=>exact .inr ⟨rfl,by rw[<- βn j hi];exact hp⟩
 have Lf:∀ b,β.free b->b≠l:=fun b hb e=>hb il _ yH (e▸rfl)
 have c7:∀ b,b<w.heap.size->β.free b->w'.heap[b]? =w.heap[b]? /\C.free b:=fun b hb hf=>by
  obtain⟨h1,h2⟩:=hs.c7 b hb (Lf b hf) (aC.oU hf f);refine⟨h1,fun j p hp=>?_⟩;rcases look j p hp with⟨i,_,_,U⟩|⟨_,U⟩
  .exact h2 i p U
  .exact hf j p U
 have keep:∀ j p,β j=some p->C j=some p\/C j=some .dead:=fun j p hp=>by
  cases hi:inv j with
  |none=>exact .inl ((βn j hi).trans hp)
  |some i=>
   have hf:=mG i j hi;rw[βs i j hf];rcases lF i j hf with⟨a1,a2,a3⟩|⟨a1,a2,a3⟩
   .exact hs.keep i p (by simp[aC.via,a1,hp])
   .rw[hn j oG] at hp;cases hp
 have X:∀ j p b,inv j=none->β j=some p->p.bG=some b->hidden F β f b/\(b≠l->b<w.heap.size/\w'.heap[b]? =w.heap[b]?):=fun j p b hj hp hb=>by
  obtain⟨h1,h2⟩:=h.vd hm (Le j hj) hp hb;exact⟨h2,fun aE=>⟨hm.lt j p b hp hb,(hs.c7 b (hm.lt j p b hp hb) aE h1).1⟩⟩
 refine⟨f',M,nx+(J - nc),C,⟨Nat.le_trans h.low hle,by have:=h.lt;omega,fun i hi=>?_,fun i hi=>?_,CR,xN,fun i r hi=>?_⟩,?_,⟨fun j r hj=>?_,fun i j p q b hp hq e e'=>?_,fun j p b hp e=>?_,fun j p b hp e hF=>?_,?_⟩,fun i hi=>?_,⟨hs.size,c7,keep,hs.out⟩,oG,fun i hi hb=>?_⟩
 .rw[qS i (Nat.lt_of_lt_of_le hi h.low)];exact h.id i hi
 .rcases Nat.lt_or_ge i nc with h1|h1
  .obtain⟨j,h2,h3,U⟩:=h.wz i h1;exact⟨j,by rw[qS i h1];exact h2,oG,U⟩
  .exact⟨_,xM i h1 hi,oG,by have:=h.lt;omega⟩
 .obtain⟨p,hp,_⟩:=fB.row i r hi
  have:∃ j,f' i=some j:=by
   rw[<- via] at hp;obtain⟨j,h1,_⟩:=Option.bind_eq_some_iff.1 hp;exact⟨j,h1⟩
  obtain⟨j,hj⟩:=this;exact⟨j,hj,by simp[M,yj i j hj,hi]⟩
 .simp[M,J']
 .cases hi:inv j with
  |some i=>
   simp only[M,hi,cO] at hj;obtain⟨r0,wA,rfl⟩:=hj;obtain⟨p,hp,hr⟩:=fB.row i r0 wA;refine⟨p,(βs i j (mG i j hi)).trans hp,cu.G3 (F':=hidden F β f) (by rw[via];exact hr) (fun b hb=>.inl hb) fun b g1 g2=>?_⟩;obtain⟨k,q,hq,yI⟩:=Ja g1;rcases look k q hq with⟨i',_,_,U⟩|⟨h3,U⟩
   .exact absurd yI (g2 i' q (by rw[via];exact U))
   .exact(X k q b h3 U yI).1
  |none=>
   simp only[M,hi] at hj;split at hj
   .rename_i e;subst e;cases hj;exact⟨.raw l,(βn j hi).trans yH,.raw l o' ho⟩
   .rename_i aE;obtain⟨p,hp,hr⟩:=hm.row j r hj;refine⟨p,(βn j hi).trans hp,hr.gen hs.size (fun b hb g1 g2=>⟨tx (c7 b hb g2).1,(c7 b hb g2).2,g1⟩) (fun i p _=>keep i p) fun b hb=>?_⟩;exact((X j p b hi hp hb).2 fun e=>aE (hm.inj j il p _ b hp yH hb (e▸rfl))).2
 .rcases look i p hp with⟨i',a1,a2,a3⟩|⟨a1,a2⟩<;>rcases look j q hq with⟨j',b1,b2,b3⟩|⟨b1,b2⟩
  .have:=fB.inj i' j' p q b a3 b3 e e';subst this;rw[a2] at b2;cases b2;rfl
  .exact absurd (X j q b b1 b2 e').1 (fB.nf i' p b a3 e)
  .exact absurd (X i p b a1 a2 e).1 (fB.nf j' q b b3 e')
  .exact hm.inj i j p q b a2 b2 e e'
 .rcases look j p hp with⟨i',a1,a2,a3⟩|⟨a1,a2⟩
  .exact fB.lt i' p b a3 e
  .exact Nat.lt_of_lt_of_le (hm.lt j p b a2 e) hs.size
 .rcases look j p hp with⟨i',a1,a2,a3⟩|⟨a1,a2⟩
  .exact fB.nf i' p b a3 e (.inl hF)
  .exact hm.nf j p b a2 e hF
 .exact hm.fb.next (fun b hb=>Nat.lt_of_lt_of_le (hm.fb.lt b hb) hs.size) (fun _ h=>h) fun t _ hF=>(c7 _ (hm.fb.lt _ hF) fun i p hp e=>hm.nf i p _ hp e hF).1
 .cases cr:inv i with
  |none=>exact(βn i cr).trans (hn i oG)
  |some i0=>
   rcases lF i0 i (mG i0 i cr) with⟨a1,a2,a3⟩|⟨a1,a2,a3⟩<;>omega
 .cases cr:inv i with
  |none=>exact(βn i cr).trans hb
  |some i0=>
   have hf:=mG i0 i cr;rw[βs i0 i hf];rcases lF i0 i hf with⟨a1,a2,a3⟩|⟨a1,a2,a3⟩
   .exact hg i0 a2 (by simp[aC.via,a1,hb])
   .omega
theorem It{β:aC}{w:World}:∀ (ts:List Tmp) (ds:List D) (vs:List Value) (env:Env) (tmps:Array Value),vs.length=ds.length->(∀ (k:Nat) (d:D) (v:Value),ds[k]? =some d->vs[k]? =some v->R F β w d v)->
 (∀ t,t∈ts->t<tmps.size)->gH F β w env { tmps:=tmps,defers:=[] }->
 gH F β w (ni env ts ds) { tmps:=(ts.zip vs).foldl (fun tmps (t,a)=>tmps.setIfInBounds t a) tmps,defers:=[] }/\((ts.zip vs).foldl (fun tmps (t,a)=>tmps.setIfInBounds t a) tmps).size=tmps.size
 |[],_,_,env,tmps,_,_,_,h=>by simpa[ni] using h
 |_::_,[],[],env,tmps,_,_,_,h=>by simpa[ni] using h
 |_::_,[],_::_,_,_,hl,_,_,_=>by simp at hl
 |_::_,_::_,[],_,_,hl,_,_,_=>by simp at hl
 |t::ts,d::ds,v::vs,env,tmps,hl,hR,af,h=>by
  have h1:gH F β w (up env t d) { tmps:=tmps.setIfInBounds t v,defers:=[] }:=by
   have:=h.put (some t) d v (hR 0 d v rfl rfl) (fun u hu=>by cases hu;exact af t oS);simpa[Act.put,up] using this
  have:=It ts ds vs (up env t d) (tmps.setIfInBounds t v) (by simpa using hl) (fun k d v hd hv=>hR (k+1) d v (by simpa using hd) (by simpa using hv)) (fun u hu=>by simpa using af u (by simp[hu])) h1;simp only[ni,List.zip_cons_cons,List.foldl_cons];exact⟨this.1,by rw[this.2];simp⟩
theorem BL{c:Code}{b:Frame}{a:Act}{k:List Item}{cs:List Frame}{w:World}:step P (lone (b.atR a (.code (.scope c)::k)) cs w)=.next (lone (b.atR a (.code c::.inScope c::k)) cs w):=
 step_lone_go (by simp[stepG,stepG.exec,Frame.atR])
theorem Wu{c:Code}{b:Frame}{a:Act}{k:List Item}{cs:List Frame}{w:World}:step P (lone (b.atR a (.inScope c::k)) cs w)=.next (lone (b.atR a k) cs w):=
 step_lone_go (by simp[stepG,stepG.exec,Frame.atR])
theorem Et{I:Machine->Prop}{m:Machine}{b:Frame}{c:Code}{k:List Item}{cs:List Frame}{e:Exit}{a:Act}{w:World}
 (hn:e≠ .normal) (hg:∀ l,e≠ .goto l) (h:ArrivesIn I P m b (.inScope c::k) cs e a w):ArrivesIn I P m b k cs e a w:=by
 cases e with
 |normal=>exact absurd rfl hn
 |exit id=>exact⟨fun k' hk=>h.1 k' (by simp[exitTo,hk]),fun hr hk=>h.2 hr (by simp[exitTo,hk])⟩
 |goto l=>exact absurd rfl (hg l)
 |ret=>exact h
 |panic chain=>exact h
 |outgrown=>exact h
theorem Xx{U:Fence}{n:Nat}{Q:Exit->Act->World->Prop}{a:Act}{w:World}{c:Code}(h:c.wpIn U n P (Exit.noGoto Q) a w):(Code.scope c).wpIn U n P Q a w:=by
 intro b k cs X hb hr;have h0:(lone (b.atR a (.code (.scope c)::k)) cs w).fenced P U:=fenced_calm hb hr rfl;obtain⟨e,C,M,hq,J⟩:=h b (.inScope c::k) cs X hb hr;cases e with
 |normal=>exact⟨.normal,C,M,hq,.head h0 BL (StepsIn.trans J (.one (fenced_calm hb hr rfl) Wu))⟩
 |goto l=>exact hq.elim
 |exit id=>exact⟨.exit id,C,M,hq,.of_steps (.one h0 BL) (Et (c:=c) oS oS J)⟩
 |ret=>exact⟨.ret,C,M,hq,.of_steps (.one h0 BL) (Et (c:=c) oS oS J)⟩
 |panic ch=>exact⟨.panic ch,C,M,hq,.of_steps (.one h0 BL) (Et (c:=c) oS oS J)⟩
 |outgrown=>exact⟨.outgrown,C,M,hq,.of_steps (.one h0 BL) (Et (c:=c) oS oS J)⟩
def Jump(env:Env)(Q:Exit->St->Prop):Code->Mem->Nat->Prop
 | .ret,m,nx=>Q .ret ⟨env,m,nx⟩
 | .exit id,m,nx=>Q (.exit id) ⟨env,m,nx⟩
 |_,_,_=>False
def vm(il l:Nat)(n₀:Nat)(o:Obj)(I:Mem->Nat->Prop)(m:Mem)(nx:Nat):Prop:=∃ f mc nc,View il n₀ f mc nc m nx/\m il=some (.raw l o)/\I mc nc
theorem vm.closed{il l n₀:Nat}{o:Obj}{I:Mem->Nat->Prop}:qQ (vm il l n₀ o I):=by
 rintro m nx m' M ⟨f,mc,nc,h1,h2,J⟩ C he;exact⟨f,mc,nc,h1.ext C he,(he il h1.lt).trans h2,J⟩
theorem Pa(ps:Array Tmp)(us:Array Value)(tmps:Array Value):
 (ps.zip us).foldl (fun tmps (t,a)=>tmps.setIfInBounds t a) tmps=(ps.toList.zip us.toList).foldl (fun tmps (t,a)=>tmps.setIfInBounds t a) tmps:=by
 rw[<- Array.foldl_toList];simp
theorem NU{β:aC}{w:World}{a:Act}{g:Operand}{f:FuncId}{fs cs:List D}(C:R F β w (.fn (.func f) fs cs) (a.eval g))(he:nZ P f=true)(l:Nat)(w':World):
 ∃ (us vs:List Value) (d:Deferred),us.length=fs.length/\vs.length=cs.length/\(∀ (k:Nat) (d:D) (v:Value),fs[k]? =some d->us[k]? =some v->R F β w d v)/\(∀ (k:Nat) (d:D) (v:Value),cs[k]? =some d->vs[k]? =some v->R F β w d v)/\
  (resolve a.eval (rangeCall g l) 0).run P w'=.ok d w'/\(invoke d.target d.args).run P w'=.ok (.enter f (us.toArray++ #[.func (.yield l) #[] #[]]++vs.toArray)) w':=by
 generalize hv:a.eval g=v at C;cases C with
 |fn _ _ _ us vs hl mb hh J=>
 refine⟨us,vs,{ target:=.fn (.func f) vs.toArray,args:=us.toArray++ #[.func (.yield l) #[] #[]] },hl,mb,hh,J,?_,?_⟩
 .simp only[resolve,hv,Sem.run_bind,Deferred.ofValue];simp[go_sem]
 .simp only[invoke];unfold callFunc;unfold nZ at he;simp only[Sem.run_bind,run_program,Result.andThen_ok];split at he
  .rename_i fn U;simp only[bc,Bool.not_eq_true'] at he
   have hb:fn.body.isNone=false:=by
    cases M:fn.body<;>simp_all
   rw[U];simp only[he.1,hb,Bool.false_eq_true,if_false,Sem.run_pure]
  .cases he
theorem Rs.append{β:aC}{w:World}{aS bs:List D}{xs ys:Array Value}(h:Rs F β w aS xs)(k:Rs F β w bs ys):Rs F β w (aS++bs) (xs++ys):=by
 refine⟨by simp[h.1,k.1],fun j d v hd hv=>?_⟩;rcases Nat.lt_or_ge j aS.length with hj|hj
 .rw[List.getElem?_append_left hj] at hd;rw[Array.getElem?_append_left (by rw[h.1];exact hj)] at hv;exact h.2 j d v hd hv
 .rw[List.getElem?_append_right hj] at hd;rw[Array.getElem?_append_right (by rw[h.1];exact hj),h.1] at hv;exact k.2 _ d v hd hv
theorem EW(gU:P.follows .mixedOrders=true):∀ (c:Code) (F:Nat->Prop) (r:Option Nat) (n:Nat) (Y:eg) (rf:Bool) (N₀:Nat) (β₀:aC) (w₀:World) (a₀:Act),(rf=true->r=none)->
 (∀ l args m nx K,Y l args m nx K->nq P F β₀ w₀ l args m nx K)->gA a₀.tmps.size c=true->∀ (Q:Exit->St->Prop) (st:St) (β:aC) (w:World) (a:Act),
 AW P Y rf c Q st->ew P F st β w a->ov N₀ β₀ w₀ a₀ st β w a->c.wpIn (Fe r) n P (SG P F N₀ β₀ w₀ a₀ Q) a w:=by
 intro c
 induction c with
 |skip=>exact fun F r n Y rf N₀ β₀ w₀ a₀ X U _ Q st β w a h hs J=>wpIn_skip ⟨st,β,h,hs,J⟩
 |ret=>exact fun F r n Y rf N₀ β₀ w₀ a₀ X U _ Q st β w a h hs J=>wpIn_ret ⟨st,β,h,hs,J⟩
 |exit id=>exact fun F r n Y rf N₀ β₀ w₀ a₀ X U _ Q st β w a h hs J=>wpIn_exit ⟨st,β,h,hs,J⟩
 |label l=>exact fun F r n Y rf N₀ β₀ w₀ a₀ X U _ Q st β w a h hs J=>wpIn_label ⟨st,β,h,hs,J⟩
 |region id ops draw=>
  intro F r n Y rf N₀ β₀ w₀ a₀ X U af Q st β w a h hs J;have og:vB a.tmps.size ops=true:=by rw[J.size];exact af
  cases draw with
  |false=>
   refine wpIn_mono (WZ (N:=st.nx) (β₀:=β) (w₀:=w) (a₀:=a) (fun l args m nx K hy=>(U l args m nx K hy).base J.step) og h hs (fW.refl st β w a)) fun e a' w' hp=>?_;obtain⟨st',β',hq,cK,dH⟩:=hp;exact⟨st',β',hq,cK,J.since dH⟩
  |true=>
   simp only[AW] at h;split at h
   .rename_i cf jG;refine wpIn_mono (W0 (N₀:=st.nx) (β₀:=β) (w₀:=w) (a₀:=a) gU jG og h hs (fW.refl st β w a)) fun e a' w' hp=>?_;obtain⟨st',β',hq,cK,dH⟩:=hp;exact⟨st',β',hq,cK,J.since dH⟩
   .exact h.elim
 |seq x y Bd Be=>
  intro F r n Y rf N₀ β₀ w₀ a₀ X U af Q st β w a h hs J;simp only[gA,bc] at af;refine wpIn_seq (wpIn_mono (Bd F r n Y rf N₀ β₀ w₀ a₀ X U af.1 _ st β w a h hs J) fun e a' w' hp=>?_);obtain⟨st',β',hq,cK,dH⟩:=hp;cases e with
  |normal=>
   obtain⟨fJ,hg,hy⟩:=hq;obtain⟨dP,pc,CT⟩:=Io hg cK;exact Be F r n Y rf N₀ β₀ w₀ a₀ X U af.2 Q fJ dP w' a' hy pc (dH.since CT)
  |_=>exact⟨st',β',hq,cK,dH⟩
 |cond c x y Bd Be=>
  intro F r n Y rf N₀ β₀ w₀ a₀ X U af Q st β w a h hs J;simp only[gA,bc] at af;obtain⟨ha,h⟩:=h;have hR:=(hs.e.opd c).tw _ ha;split at h
  .rename_i t ht;rw[ht] at hR;exact wpIn_cond_split hR.cV.1 (fun e=>Bd F r n Y rf N₀ β₀ w₀ a₀ X U af.1 Q st β w a (h.1 e) hs J) fun e=>Be F r n Y rf N₀ β₀ w₀ a₀ X U af.2 Q st β w a (h.2 e) hs J
  .rename_i ht;rw[ht] at hR;obtain⟨b,hb⟩:=hR.F8;exact wpIn_cond_split hb (fun _=>Bd F r n Y rf N₀ β₀ w₀ a₀ X U af.1 Q st β w a h.1 hs J) fun _=>Be F r n Y rf N₀ β₀ w₀ a₀ X U af.2 Q st β w a h.2 hs J
  .exact h.elim
 |scope b ih=>
  intro F r n Y rf N₀ β₀ w₀ a₀ X U af Q st β w a h hs J;refine Xx (wpIn_mono (ih F r n Y rf N₀ β₀ w₀ a₀ X U af _ st β w a h hs J) fun e a' w' hp=>?_);obtain⟨st',β',hq,cK,dH⟩:=hp;cases e with
  |goto l=>exact hq.elim
  |_=>exact⟨st',β',hq,cK,dH⟩
 |block id b ih=>
  intro F r n Y rf N₀ β₀ w₀ a₀ X U af Q st β w a h hs J;refine wpIn_block (wpIn_mono (ih F r n Y rf N₀ β₀ w₀ a₀ X U af _ st β w a h hs J) fun e a' w' hp=>?_);obtain⟨st',β',hq,cK,dH⟩:=hp;cases e with
  |exit i=>
   simp only[fv] at hq;simp only[Exit.inBlock];split at hq
   .rename_i hi;rw[if_pos hi];exact⟨st',β',hq,cK,dH⟩
   .rename_i hi;rw[if_neg hi];exact⟨st',β',hq,cK,dH⟩
  |_=>exact⟨st',β',hq,cK,dH⟩
 |loop b ih=>
  intro F r n Y rf N₀ β₀ w₀ a₀ X U af Q st β w a h hs J;obtain⟨I,μ,hI,tI⟩:=h;refine Wt (fun j a w=>∃ st β,I st/\μ st=j/\ew P F st β w a/\ov N₀ β₀ w₀ a₀ st β w a) ⟨st,β,hI,rfl,hs,J⟩ ?_;rintro j a w ⟨st,β,hI,hμ,hs,J⟩;refine wpIn_mono (ih F r n Y rf N₀ β₀ w₀ a₀ X U af _ st β w a (tI st hI) hs J) fun e a' w' hp=>?_;obtain⟨st',β',hq,cK,dH⟩:=hp;cases e with
  |normal=>
   obtain⟨iq,hg,Hw,agX⟩:=hq;obtain⟨dP,pc,CT⟩:=Io hg cK;exact⟨μ iq,oG,iq,dP,Hw,rfl,pc,dH.since CT⟩
  |_=>exact⟨st',β',hq,cK,dH⟩
 |rangeFunc g ps assign body uw ux=>
  intro F r n Y rf N₀ β₀ w₀ a₀ X U af Q st β w a h hs J;obtain⟨env,mem,nx⟩:=st;obtain⟨Lg,jB,f,fs,cs,xs,I,tR,yk,xO,yJ,tI,xP⟩:=h;simp only at jB tR yJ tI xP;have hr:=X Lg;subst hr;simp only[gA,bc,bQ,Nat.blt_eq] at af;obtain⟨rm,Lh,Li⟩:=af;have bA:a.tmps.size=a₀.tmps.size:=J.size;have hR:=(hs.e.opd g).tw _ jB;simp only[tR] at hR;refine wpIn_rangeFunc fun fn sK=>?_;obtain⟨C,kx⟩:∃ C:LoopState->Option Code->Loop,C=fun st pe=>{ state:=st,pending:=pe,fn,tmps:=a.tmps,params:=ps,assign,body,defers:=w.heap.size }:=⟨_,rfl⟩
  obtain⟨W1,rr⟩:∃ W1,(w.alloc (.deferred (some []))).alloc (.loop (C .ready none))=W1:=⟨_,rfl⟩
  obtain⟨us,vs,d,yK,ow,hu,hv,nz,hinv⟩:=NU (P:=P) hR yk.1 (w.heap.size+1) W1;have hn:∀ i,nx<=i->β i=none:=hs.n;have uy:∀ t∈uc,t.1≠w.heap.size+1:=fun t ht e=>by have:=hs.m.fb.lt _ (hs.m.fb.me t ht).1;omega
  have DO:¬ F (w.heap.size+1):=fun e=>by have:=hs.m.fb.lt _ e;omega
  let f₀:Nat->Option Nat:=fun i=>if i<nx then some i else none
  have Dq:β.via f₀=β:=by
   funext i;simp only[aC.via,f₀];split
   .rfl
   .exact(hn i oG).symm
  have kG:aK P F (fun i=>(mem i).map (Row.l6 f₀)) β w:=⟨fun i r hi=>by
   simp only[cO] at hi;obtain⟨r0,h1,rfl⟩:=hi;obtain⟨p,hp,hr⟩:=hs.m.row i r0 h1
   exact⟨p,hp,cu.G3 (F':=F) (by rw[Dq];exact hr) (fun _ h=>h) fun b g1 g2=>absurd (Dq▸g2) g1⟩,hs.m.inj,hs.m.lt,hs.m.nf,hs.m.fb⟩
  have uz:Step β w β (w.alloc (.deferred (some []))):=zK oS fun b hb=>heap_alloc_old w _ hb;have iI:aK P F (fun i=>(mem i).map (Row.l6 f₀)) β (w.alloc (.deferred (some []))):=kG.ext oS fun b hb=>heap_alloc_old w _ hb
  have Mh:aK P F (up (fun i=>(mem i).map (Row.l6 f₀)) nx (some (.raw (w.heap.size+1) (.loop (C .ready none))))) (up β nx (some (.raw (w.heap.size+1)))) W1:=by
   rw[<- rr];refine iI.alloc (hn nx (bd _)) _ _ _ (fun b hb=>by simp only[Pl.bG,aH] at hb;simp;omega) (.raw _ _ ?_);have:=World.alloc_heap_new (w.alloc (.deferred (some []))) (.loop (C .ready none))
   rwa[World.size_alloc] at this
  have mP:Step β w (up β nx (some (.raw (w.heap.size+1)))) W1:=by
   rw[<- rr];exact uz.trans (zB iI _ (hn nx (bd _)) _ (fun b hb=>by simp only[Pl.bG,aH] at hb;simp;omega))
  have Mi:W1.heap[w.heap.size]? =some (.deferred (some [])):=by
   rw[<- rr];rw[heap_alloc_old _ _ oS];exact World.alloc_heap_new w _
  have Cy:aC.free (up β nx (some (.raw (w.heap.size+1)))) w.heap.size:=
   qz (fun i p hp e=>by have:=hs.m.lt i p _ hp e;omega) (by rintro q hq;cases hq;simp[Pl.bG])
  have agY:W1.heap.size=w.heap.size+2:=by rw[<- rr];simp
  have JA:∀ i,nx<=i->mem i=none:=fun i hi=>by
   cases hm:mem i with
   |none=>rfl
   |some row=>
    obtain⟨p,hp,_⟩:=hs.m.row i row hm;rw[hn i hi] at hp;cases hp
  have own:∀ {f:Nat->Option Nat} {mc:Mem} {nc:Nat} {m:Mem} {gK:Nat} {β2:aC} {w2:World},View nx nx f mc nc m gK->Step (up β nx (some (.raw (w.heap.size+1)))) W1 β2 w2->
   ∀ {d:D} {v:Value},R F β w d v->R (hidden F β2 f) (β2.via f) w2 d v:=fun {_ _ _ _ _ _ _} M cZ {d v} h=>by
   have yl:=mP.trans cZ;refine h.gen yl.size (fun b hb hf kZ=>?_) fun i p _ hp=>?_
   .obtain⟨g1,g2⟩:=yl.c7 b hb kZ;exact⟨tx g1,aC.oU g2 _,fun e=>e.elim hf fun e=>e.1 g2⟩
   .have hi:i<nx:=by
     rcases Nat.lt_or_ge i nx with h1|h1
     .exact h1
     .rw[hn i h1] at hp;cases hp
    simp only[aC.via,M.id i hi,Option.bind_some];exact yl.keep i p hp
  refine⟨w.heap.size+1,[mark w.heap.size],W1,d,W1,f,_,W1,?_,nz,fun f' _=>trivial,hinv,fun hd=>by simp at hd,Jb ?_⟩
  .rw[<- rr,kx];exact run_enterLoop_outer _ _ _ _ _
  refine(yk.2 F (w.heap.size+1) (fun k=>vm nx (w.heap.size+1) nx (.loop (C .ready none)) (I k)) (fun m k=>∃ c,vm nx (w.heap.size+1) nx (.loop (C .done (some c))) (Jump env Q c) m k)
   (up (fun i=>(mem i).map (Row.l6 f₀)) nx (some (.raw (w.heap.size+1) (.loop (C .ready none))))) (nx+1) (up β nx (some (.raw (w.heap.size+1)))) W1 _ (fun k=>vm.closed) ?_ Mh ?_ ?_ ?_ ?_).mono ?_
  .rintro m k m' k' ⟨c,hc⟩ hle he;exact⟨c,vm.closed m k m' k' hc hle he⟩
  .intro i hi;rw[aA _ _ (show i≠nx by omega)];exact hn i oG
  .refine Rs.append (Rs.append ?_ ?_) ?_
   .exact⟨by simp[yK],fun k d v hd hv=>(hu k d v hd (by simpa using hv)).step mP⟩
   .refine⟨rfl,fun k d v hd hv=>?_⟩;cases k with
    |zero=>
     simp only[List.getElem?_cons_zero,aH] at hd;simp only[List.getElem?_toArray,List.getElem?_cons_zero,aH] at hv;subst hd;subst hv;exact .fn _ [] [] [] [] rfl rfl oS oS
    |succ k=>simp at hd
   .exact⟨by simp[ow],fun k d v hd DP=>(hv k d v hd (by simpa using DP)).step mP⟩
  .rintro k x m k' hx ⟨g,mc,nc,M,ei,Mj⟩ β2 w2 uA Lj hP Hx uB;obtain⟨DQ,qT,_,ym⟩:=hP.pO ei;have Lk:uA.size=ps.size:=by rw[uB.1];exact(xO x (bu hx)).1
   have hy:=run_yield (P:=P) (args:=uA) qT (by rw[kx];exact Lk);simp only[kx,Pa] at hy;refine⟨fn,_,assign,body,hy,fun n'=>?_⟩;obtain⟨yL,jY⟩:=M.enter hP;have ru:hidden F β2 g (w.heap.size+1):=(M.vd hP (fun i e=>(M.l7 e).2.2 rfl) DQ rfl).2;have Cz:(β2.via g).free (w.heap.size+1):=(M.vd hP (fun i e=>(M.l7 e).2.2 rfl) DQ rfl).1;have Mk:gH (hidden F β2 g) (β2.via g) w2 env { tmps:=a.tmps,defers:=[] }:=fun t=>own M Lj (hs.e t)
   obtain⟨Ml,Dr⟩:=It ps.toList x uA.toList env a.tmps (by simp[uB.1]) (fun j d v hd hv=>
    ((xO x (bu hx)).2 d (bu hd) F β2 w2 v (uB.2 j d v hd (by simpa using hv))).gen (bd _)
     (fun b _ hb _=>⟨ki.refl _ b,aC.oU (uU hb).2 _,fun e=>e.elim (uU hb).1 fun e=>e.1 (uU hb).2⟩) (fun i p _ hp=>by cases hp)) (fun t ht=>by rw[bA];exact rm t ht) Mk
   have Ll:=uw (hidden F β2 g) (some (w.heap.size+1)) n' cY false nc (β2.via g) w2
    { tmps:=(ps.toList.zip uA.toList).foldl (fun tmps (t,a)=>tmps.setIfInBounds t a) a.tmps,defers:=[] } oS (fun _ _ _ _ _ h=>h.elim) (by show gA (Array.size _) assign=true;rw[Dr,bA];exact Lh) _ ⟨ni env ps.toList x,mc,nc⟩ (β2.via g) w2 _
    (tI k mc nc x hx Mj) ⟨Ml,yL,jY⟩ (fW.refl ⟨ni env ps.toList x,mc,nc⟩ _ _ _).yG
   refine roundIn_of_wpIn trivial (wpIn_mono Ll fun e a3 w3 hp=>?_);obtain⟨iq,β3,yM,Bf,gv⟩:=hp;cases e with
   |normal=>
    have xQ:w.heap.size+1<w3.heap.size:=Nat.lt_of_lt_of_le ym gv.step.size;have KB:w3.heap[w.heap.size+1]? =some (.loop (C .ready none)):=(gv.step.c7 _ ym Cz).1.trans qT;refine⟨_,run_beginRound KB (by rw[kx]),?_⟩;have Lm:=Bf.oe (l:=w.heap.size+1) ru uy (.loop { C .ready none with state:=.busy });have KC:=ux (hidden F β2 g) (some (w.heap.size+1)) n' cY false iq.nx β3 _ a3 oS (fun _ _ _ _ _ h=>h.elim) (by rw[gv.size];show gA (Array.size _) body=true;rw[Dr,bA];exact Li) _ iq β3 _ a3 yM Lm (fW.refl iq _ _ _).yG;refine wpIn_mono KC fun e a4 w4 Mm=>?_;obtain⟨DR,β4,uC,DT,qf⟩:=Mm;have KD:w.heap.size+1<w4.heap.size:=Nat.lt_of_lt_of_le (by simpa using xQ) qf.step.size
    have KE:w4.heap[w.heap.size+1]? =some (.loop { C .ready none with state:=.busy }):=
     (qf.step.c7 _ (by simpa using xQ) (gv.step.c7 _ ym Cz).2).1.trans (World.putObj_heap_same xQ)
    have fin:∀ (jump:Option Code) (K:D->Mem->Nat->Prop),(∀ f' dI gI,View nx nx f' DR.mem DR.nx dI gI->dI nx=some (.raw (w.heap.size+1) (.loop (C (if jump.isNone then .ready else .done) jump)))->K (.s (.bool jump.isNone)) dI gI)->
     ∃ v w',(Instr.endRound (w.heap.size+1) jump).run P w4=.ok v w'/\∃ v' d m' ai β',Ending.returned v=.returned v'/\K d m' ai/\aK P F m' β' w'/\(∀ i,ai<=i->β' i=none)/\R F β' w' d v'/\Step β2 w2 β' w'/\k'<=ai/\∀ i,i<k'->β2 i=none->β' i=none:=fun jump K hK=>by
     have df:=run_endRound (P:=P) jump KE;have e1:∀ s p,({ ({ C .ready none with state:=.busy }:Loop) with state:=s,pending:=p }:Loop)=C s p:=fun s p=>by rw[kx]
     rw[e1] at df
     obtain⟨f',dI,gI,dP,v1,v2,v3,v4,v5,v6,v7⟩:=M.adS hP Hx ei (o':=.loop (C (if jump.isNone then .ready else .done) jump)) (DT.m.oe ru uy _)
      (((gv.step.x _).trans (o7.put _ β3 w3 _)).trans ((qf.step.x _).trans (o7.put _ β4 w4 _))) DT.n (Nat.le_trans gv.le qf.le) (fun i hi hb=>qf.grow i (Nat.lt_of_lt_of_le hi gv.le) (gv.grow i hi hb)) (World.putObj_heap_same KD)
     exact⟨_,_,df,.bool jump.isNone,_,dI,gI,dP,rfl,hK f' dI gI v1 v2,v3,v4,.s _ rfl,v5,v6,v7⟩
    cases e with
    |normal=>exact fin none _ fun f' dI gI v1 v2=>.inl ⟨rfl,f',_,_,v1,v2,uC⟩
    |ret=>exact fin (some .ret) _ fun f' dI gI v1 v2=>.inr ⟨rfl,.ret,f',_,_,v1,v2,uC⟩
    |exit id=>exact fin (some (.exit id)) _ fun f' dI gI v1 v2=>.inr ⟨rfl,.exit id,f',_,_,v1,v2,uC⟩
    |_=>exact uC.elim
   |_=>exact yM.elim
  .refine⟨f₀,mem,nx,⟨bd _,oG,fun i hi=>by simp[f₀,hi],fun i hi=>⟨i,by simp[f₀,hi],oG,oG⟩,fun i hi=>by simp[f₀,Nat.not_lt.2 hi],fun i i' j h1 h2=>?_,fun i r hi=>?_⟩,ah _ _ _,yJ⟩
   .simp only[f₀,Option.ite_none_right_eq_some,aH] at h1 h2;omega
   .have af:i<nx:=by
     rcases Nat.lt_or_ge i nx with h1|h1
     .exact h1
     .rw[JA i h1] at hi;cases hi
    exact⟨i,by simp[f₀,af],by rw[aA _ _ (show i≠nx by omega),hi];rfl⟩
  .rintro e w6 ⟨v,d6,m6,Mn,β6,rfl,Ds,pj,hn6,_,ky,agZ,Ln⟩
   have fin:∀ {g:Nat->Option Nat} {mc:Mem} {nc:Nat} (o':Obj),View nx nx g mc nc m6 Mn->
    ew P F ⟨env,mc,nc⟩ (β6.via g) (w6.putObj (w.heap.size+1) o') { a with defers:=[mark w.heap.size]++a.defers }/\
    ov N₀ β₀ w₀ a₀ ⟨env,mc,nc⟩ (β6.via g) (w6.putObj (w.heap.size+1) o') { a with defers:=[mark w.heap.size]++a.defers }:=fun {g mc nc} o' M=>by
    obtain⟨yL,jY⟩:=M.enter pj
    have ru:hidden F β6 g (w.heap.size+1):=by
     have hβ:β6 nx=some (.raw (w.heap.size+1))\/β6 nx=some .dead:=ky.keep nx _ (ah _ _ _);rcases hβ with hβ|hβ
     .exact(M.vd pj (fun i e=>(M.l7 e).2.2 rfl) hβ rfl).2
     .exfalso;rcases Ds with⟨f',Mo,gu,_,yn,_⟩|⟨c,f',Mo,gu,_,yn,_⟩
      .rw[(pj.pO yn).1] at hβ;cases hβ
      .rw[(pj.pO yn).1] at hβ;cases hβ
    refine⟨⟨fun t=>((own M ky (hs.e t)).oe ru o').nw fun b hb=>.inl hb,(yL.oe ru uy o').nw (fun b hb=>.inl hb) fun t ht=>(hs.m.fb.me t ht).1,jY⟩,J.trans ⟨⟨?_,fun b hb hf=>?_,fun i p hp=>?_,(mP.out.trans ky.out).trans ⟨rfl,rfl⟩⟩,M.low,fun i hi hb=>?_,rfl,[mark w.heap.size],rfl,?_⟩⟩
    .have:=ky.size;simp;omega
    .obtain⟨g1,g2⟩:=mP.c7 b hb hf;obtain⟨g3,g4⟩:=ky.c7 b oG g2;exact⟨(World.putObj_heap_other oG).trans (g3.trans g1),aC.oU g4 _⟩
    .have hi:i<nx:=by
      rcases Nat.lt_or_ge i nx with h1|h1
      .exact h1
      .rw[hn i h1] at hp;cases hp
     simp only[aC.via,M.id i hi,Option.bind_some];exact(mP.trans ky).keep i p hp
    .have hi:i<nx:=hi;simp only[aC.via,M.id i hi,Option.bind_some];exact Ln i oG (by rw[aA _ _ oG];exact hb)
    .refine⟨w.heap.size,rfl,bd _,?_,?_,?_,trivial⟩
     .have:=ky.size;simp;omega
     .exact(World.putObj_heap_other oG).trans ((ky.c7 _ oG Cy).1.trans Mi)
     .exact aC.oU (ky.c7 _ oG Cy).2 _
   rcases Ds with⟨g,mc,nc,M,ei,hI⟩|⟨c,g,mc,nc,M,ei,hj⟩
   .have df:(Instr.endLoop (w.heap.size+1)).run P w6=.ok none (w6.putObj (w.heap.size+1) (.loop (C .exhausted none))):=by
     have:=run_endLoop (P:=P) (pj.pO ei).2.1 (by rw[kx];simp);rw[kx] at this ⊢;exact this
    obtain⟨g1,g2⟩:=fin (.loop (C .exhausted none)) M;exact⟨none,_,df,⟨env,mc,nc⟩,_,xP mc nc hI,g1,g2⟩
   .have df:(Instr.endLoop (w.heap.size+1)).run P w6=.ok (some c) (w6.putObj (w.heap.size+1) (.loop (C .exhausted (some c)))):=by
     have:=run_endLoop (P:=P) (pj.pO ei).2.1 (by rw[kx];simp);rw[kx] at this ⊢;exact this
    obtain⟨g1,g2⟩:=fin (.loop (C .exhausted (some c))) M;refine⟨some c,_,df,?_⟩;cases c with
    |ret=>exact wpIn_ret ⟨⟨env,mc,nc⟩,_,hj,g1,g2⟩
    |exit id=>exact wpIn_exit ⟨⟨env,mc,nc⟩,_,hj,g1,g2⟩
    |_=>exact hj.elim
 |_=>intro F r n Y rf N₀ β₀ w₀ a₀ X U af Q st β w a h;exact h.elim
end
section
variable{P:Program}{F:Nat->Prop}{fn:Func}
def AM(tmps:Array Value):ResultVar->Sem Value
 | .tmp t=>pure (tmps.getD t undef)
 | .cell x t=>do loadVar t (<- asAddr (tmps.getD x undef))
theorem XA(fn:Func)(tmps:Array Value):results fn tmps=(do
 let vs<- fn.results.mapM (AM tmps)
 pure (if h:vs.size=1 then vs[0] else .tuple vs)):=by
 unfold results;congr 1
theorem abO{st:St}{β:aC}{w:World}{a:Act}(hs:ew P F st β w a){r:ResultVar}{p:Prop}{d:D}(h:nC P st r=some (p,d))(hp:p):
 ∃ v,(AM a.tmps r).run P w=.ok v w/\R F β w d v:=by
 unfold nC at h;split at h
 .cases h;exact⟨_,by simp[AM],hs.e _⟩
 .rename_i x t;have hx:=hs.e x;split at h
  .rename_i i off C;rw[C] at hx;split at h
   .rename_i cs e hm;cases h;obtain⟨b,o,room,sz,M,hv,ao⟩:=hx.Gd hs.m hm;obtain⟨u,hu,hr⟩:=Ey (P:=P) hp.1 (ao.rd.1.drop off) oP;refine⟨u,?_,hr⟩;simp only[AM,hv,Sem.run_bind];simp[asAddr,hu]
   .cases h
  .rename_i cs C;rw[C] at hx;cases h;obtain⟨b,o,hv,_,_,_,J⟩:=hx.Ge;obtain⟨u,hu,hr⟩:=Ey (P:=P) hp.1 J hp.2;refine⟨u,?_,hr⟩;simp only[AM,hv,Sem.run_bind];simp[asAddr,hu]
  .cases h
theorem PZ{st:St}{β:aC}{w:World}{a:Act}(hs:ew P F st β w a){K:List D->Prop}:∀ (rs:List ResultVar) (acc:List D),nD P st rs acc K->
 ∃ vs ds,(rs.mapM (AM a.tmps)).run P w=.ok vs w/\vs.length=ds.length/\K (acc++ds)/\
  ∀ (k:Nat) (d:D) (v:Value),ds[k]? =some d->vs[k]? =some v->R F β w d v
 |[],acc,h=>⟨[],[],oS,rfl,by simpa[nD] using h,oS⟩
 |r::rs,acc,h=>by
  simp only[nD] at h;split at h
  .rename_i p d hr;obtain⟨v,h1,h2⟩:=abO hs hr h.1;obtain⟨vs,ds,C,J,M,U⟩:=PZ hs rs _ h.2;refine⟨v::vs,d::ds,?_,by simp[J],by simpa using M,fun k d' X hd hv=>?_⟩
   .rw[List.mapM_cons];simp only[Sem.run_bind];rw[h1];simp only[Result.andThen_ok,Sem.run_bind];rw[C];simp
   .cases k with
    |zero=>simp at hd hv;subst hd;subst hv;exact h2
    |succ k=>exact U k d' X (by simpa using hd) (by simpa using hv)
  .exact h.elim
theorem N5{st:St}{β:aC}{w:World}{a:Act}(hs:ew P F st β w a){K:D->Prop}(h:nD P st fn.results.toList [] fun ds=>K (pY ds)):
 ∃ v d,(results fn a.tmps).run P w=.ok v w/\K d/\R F β w d v:=by
 obtain⟨vs,ds,h1,h2,C,J⟩:=PZ hs _ _ h;simp only[List.nil_append] at C;refine⟨if h:vs.toArray.size=1 then vs.toArray[0] else .tuple vs.toArray,pY ds,?_,C,?_⟩
 .rw[XA,Array.mapM_eq_mapM_toList];simp only[Sem.run_bind,map_eq_pure_bind,bind_assoc];rw[h1];simp
 .split
  .rename_i bA;simp only[List.size_toArray] at bA;obtain⟨v,rfl⟩:=List.length_eq_one_iff.1 bA;obtain⟨d,rfl⟩:=List.length_eq_one_iff.1 (show ds.length=1 by simpa using h2.symm);exact J 0 d v rfl rfl
  .rename_i bA;simp only[List.size_toArray] at bA
   have:pY ds=.aL ds:=by
    unfold pY;split
    .rename_i d;simp at h2;exact absurd h2 bA
    .rfl
   rw[this];exact .aL ds vs h2 J
theorem Ww{w:World}{b:Nat}{x:Option (List Deferred)}(h:w.heap[b]? =some (.deferred x))(o:Nat):w.cell? ⟨b,o,none⟩=none:=by
 simp[World.cell?,h]
theorem R.P3{w:World}{b:Nat}{x:Option (List Deferred)}(hb:w.heap[b]? =some (.deferred x))(o:Obj)(J:Nat):ki w (w.putObj b o) J:=by
 refine⟨fun k u hu=>?_,fun ms c hm=>?_⟩
 .have C:J≠b:=fun e=>by rw[e,Ww hb] at hu;cases hu
  exact(cell_of_heap (World.putObj_heap_other C)).trans hu
 .have C:J≠b:=fun e=>by rw[e,hb] at hm;cases hm
  exact(World.putObj_heap_other C).trans hm
theorem ew.fX{st:St}{β:aC}{w:World}{a:Act}{b:Nat}{x:Option (List Deferred)}(hb:w.heap[b]? =some (.deferred x))(hf:β.free b)(o:Obj)(h:ew P F st β w a):ew P F st β (w.putObj b o) a:=
 ⟨fun t=>(h.e t).gen oS (fun C _ h1 h2=>⟨R.P3 hb o C,h2,h1⟩) fun _ _ _ h=>.inl h,⟨fun i r hi=>by
  obtain⟨p,hp,hr⟩:=h.m.row i r hi;exact⟨p,hp,hr.gen oS (fun C _ h1 h2=>⟨R.P3 hb o C,h2,h1⟩) (fun _ _ _ h=>.inl h) fun c hc=>World.putObj_heap_other fun e=>hf i p hp (e▸hc)⟩,
  h.m.inj,fun i p c hp hc=>by simpa using h.m.lt i p c hp hc,h.m.nf,h.m.fb.next (fun c hc=>by simpa using h.m.fb.lt c hc) (fun _ h=>h) fun t ht _=>World.putObj_heap_other fun e=>abF (h.m.fb.me t ht).2 x (by rw[e];exact hb)⟩,h.n⟩
theorem Marks.put{β:aC}{w:World}{lo b:Nat}(o:Obj):∀ {ds:List Deferred} {hi:Nat},hi<=b->Marks β w lo ds hi->Marks β (w.putObj b o) lo ds hi
 |[],_,_,_=>trivial
 |_::_,_,hle,⟨c,h1,h2,h3,h4,h5,h6⟩=>⟨c,h1,h2,h3,(World.putObj_heap_other oG).trans h4,h5,Marks.put o oG h6⟩
theorem Ik{n:Nat}{tmps:Array Value}{R:Ending->World->Prop}{st:St}{β₀ β:aC}{w₀:World}{a:Act}:∀ (ds:List Deferred) (hi:Nat) (w:World),Marks β w w₀.heap.size ds hi->ew P F st β w a->Step β₀ w₀ β w->
 (∀ w',ew P F st β w' a->Step β₀ w₀ β w'->∃ v,(results fn tmps).run P w'=.ok v w'/\R (.returned v) w')->LeavesInM (Fe none) n P fn tmps R ds .returning w
 |[],_,w,_,hs,cZ,K=>K w hs cZ
 |d::ds,hi,w,⟨b,h1,h2,h3,h4,h5,h6⟩,hs,cZ,K=>by
  subst h1;refine⟨oS,.inl ⟨b,_,rfl,run_takeDeferred h4,Ik ds b _ (h6.put _ (bd _)) (hs.fX h4 h5 _) ?_ K⟩⟩;refine⟨by simpa using cZ.size,fun c hc hf=>?_,cZ.keep,cZ.out.trans ⟨rfl,rfl⟩⟩;obtain⟨C,J⟩:=cZ.c7 c hc hf;exact⟨(World.putObj_heap_other oG).trans C,J⟩
theorem zM(gU:P.follows .mixedOrders=true){Y:eg}{f:FuncId}{c:Code}(hf:P.funcs[f]? =some fn)(hb:fn.body=some c)(af:gA fn.ntmps c=true){args:List D}(hn:Nat.ble args.length fn.ntmps=true){m:Mem}{nx:Nat}{K:D->St->Prop}
 (h:AW P Y true c (gV P fn.results.toList K) ⟨ig args,m,nx⟩) {β:aC} {w:World} {vs:Array Value} (hY:∀ l args m nx K,Y l args m nx K->nq P F β w l args m nx K) (hm:aK P F m β w) (cv:∀ i,nx<=i->β i=none) (C:Rs F β w args vs):
 Calls P f vs w fun e w'=>∃ v d st' β',e=.returned v/\K d st'/\R F β' w' d v/\aK P F st'.mem β' w'/\(∀ i,st'.nx<=i->β' i=none)/\Step β w β' w'/\nx<=st'.nx/\∀ i,i<nx->β i=none->β' i=none:=by
 have hle:args.length<=fn.ntmps:=by simpa using hn
 refine(callsIn_wide (n:=0)).1 (callsIn_of_wp_marks hf hb trivial ?_)
 have bA:(vs++Array.replicate (fn.ntmps - vs.size) undef).size=fn.ntmps:=by
  simp only[Array.size_append,Array.size_replicate,C.1];omega
 let a₀:Act:={ tmps:=vs++Array.replicate (fn.ntmps - vs.size) undef,defers:=[] }
 have hE:gH F β w (ig args) a₀:=fun t=>by
  unfold ig;rcases Nat.lt_or_ge t args.length with af|bq
  .have h1:args.getD t .u=args[t]:=by simp[af]
   have h2:a₀.tmps.getD t undef=vs[t]'(by rw[C.1];exact af):=by
    show(vs++Array.replicate (fn.ntmps - vs.size) undef).getD t undef=_;have U:t<vs.size:=by rw[C.1];exact af
    simp[Array.getD_eq_getD_getElem?,Array.getElem?_append_left U,U]
   rw[h1,h2];exact C.2 t _ _ (by simp[af]) (by simp[C.1,af])
  .have h1:args.getD t .u=.u:=by simp[bq]
   rw[h1];exact .u _
 have:=EW gU c F none 0 Y true nx β w a₀ (fun _=>rfl) hY (by show gA (vs++Array.replicate (fn.ntmps - vs.size) undef).size c=true;rw[bA];exact af) _ ⟨ig args,m,nx⟩ β w a₀ h ⟨hE,hm,cv⟩ (fW.refl ⟨ig args,m,nx⟩ β w a₀).yG;refine wpIn_mono this fun e a' w' hp=>?_;obtain⟨st',β',hq,cK,J⟩:=hp
 have X:(nD P st' fn.results.toList [] fun ds=>K (pY ds) st')->LeavesInM (Fe none) 0 P fn a'.tmps (fun e w'=>∃ v d st' β',e=.returned v/\K d st'/\R F β' w' d v/\aK P F st'.mem β' w'/\(∀ i,st'.nx<=i->β' i=none)/\Step β w β' w'/\nx<=st'.nx/\∀ i,i<nx->β i=none->β' i=none) a'.defers .returning w':=fun hq=>by
  obtain⟨ds,h1,h2⟩:=J.defers;rw[h1,show a₀.defers=[] from rfl,List.append_nil];refine Ik ds _ w' h2 cK J.step fun w'' M KK=>?_;obtain⟨v,d,g1,g2,g3⟩:=N5 (K:=fun d=>K d st') M hq;exact⟨v,g1,v,d,st',β',rfl,g2,g3,M.m,M.n,KK,J.le,J.grow⟩
 cases e with
 |normal=>exact X hq
 |ret=>exact X hq
 |_=>exact hq.elim
theorem EL{w:World}(C:FB F w):aK P F (fun _=>none) gz w:=
 ⟨fun i r h=>oH,fun i j p q b h=>oH,fun i p b h=>oH,fun i p b h=>oH,C⟩
theorem Eu{β':aC}{w w':World}(h:Step gz w β' w'):Kept w w':=
 ⟨h.size,fun b hb=>(h.c7 b hb fun i p hp=>by cases hp).1,h.out⟩
theorem Tr.Aw{d:D}(h:Tr d){β:aC}{w:World}{v:Value}(hv:R F β w d v):R F gz w d v:=
 (h F β w v hv).lift fun b hb=>⟨fun e=>hb (.inl e),fun i p hp=>by cases hp⟩
structure ld(P:Program)(f:FuncId)(fn:Func)(c:Code):Prop where
 hf:P.funcs[f]? =some fn
 hb:fn.body=some c
 af:gA fn.ntmps c=true
 he:nZ P f=true
theorem P4(J:P.follows .mixedOrders=true){f:FuncId}{c:Code}(hf:ld P f fn c){args:List D}(hn:Nat.ble args.length fn.ntmps=true){m:Mem}{nx:Nat}{dX:D->Mem->Nat->Prop}
 (h:AW P cY true c (gV P fn.results.toList fun d st=>dX d st.mem st.nx) ⟨ig args,m,nx⟩):fG P f args m nx dX:=
 ⟨hf.he,fun F β w vs hm C hR=>(zM J hf.hf hf.hb hf.af hn h (fun _ _ _ _ _ h=>h.elim) hm C hR).mono fun e w' ⟨v,d,st',β',h1,h2,M,U,X,h6,h7,h8⟩=>⟨v,d,st'.mem,st'.nx,β',h1,h2,U,X,M,h6,h7,h8⟩⟩
theorem aae(C:P.follows .mixedOrders=true){f:FuncId}{c:Code}(hf:ld P f fn c){args:List D}(hn:Nat.ble args.length fn.ntmps=true)(ht:∀ a∈args,Tr a){r:D}(hr:Tr r)
 (h:AW P cY true c (gV P fn.results.toList fun d _=>d=r) ⟨ig args,fun _=>none,0⟩):aB P f args r:=
 ⟨hf.he,ht,fun F w vs U X=>(zM C hf.hf hf.hb hf.af hn h (fun _ _ _ _ _ h=>h.elim) (EL U) (fun _ _=>rfl) X).mono fun e w' hp=>by
  obtain⟨v,d,st',β',h1,rfl,J,h4,h5,M,h7,h8⟩:=hp
  exact⟨v,h1,hr.Aw J,Eu M⟩⟩
theorem P5 (gU:P.follows .mixedOrders=true){f:FuncId}{c:Code}(hf:ld P f fn c){args:List D}(hn:Nat.ble args.length fn.ntmps=true)(ht:∀ a∈args,Tr a){es:List D}(kK:∀ a∈es,Tr a){k:Nat}{t:TypeId}
 (h:AW P cY true c (gV P fn.results.toList fun d st=>∃ i,d=.rs i 0 k/\st.mem i=some (.cells es t)) ⟨ig args,fun _=>none,0⟩):ko P f args es k t:=
 ⟨hf.he,ht,fun F w vs hF hR=>(zM gU hf.hf hf.hb hf.af hn h (fun _ _ _ _ _ h=>h.elim) (EL hF) (fun _ _=>rfl) hR).mono fun e w' hp=>by
  obtain⟨v,d,st',β',h1,⟨i,rfl,hi⟩,h3,J,h5,M,h7,h8⟩:=hp;obtain⟨p,hp,ao⟩:=J.row i _ hi;refine⟨v,p,h1,?_,fun b hb=>⟨?_,J.lt i p b hp hb⟩,?_,?_,Eu M⟩
  .rintro rfl;cases ao
  .rcases Nat.lt_or_ge b w.heap.size with af|U
   .exact absurd hb ((M.c7 b af fun i p hp=>by cases hp).2 i p hp)
   .exact U
  .have lift:∀ d∈es,∀ u,R F β' w' d u->R (fun x=>F x\/p.bG=some x) gz w' d u:=fun d hd u hu=>
    (kK d hd F β' w' u hu).lift fun b hb=>⟨fun e=>hb (by
     rcases e with e|e
     .exact .inl e
     .exact .inr fun kZ=>kZ i p hp e),fun i p hp=>by cases hp⟩
   cases ao with
   |nil _=>exact .nil _
   |cells _ _ b o room sz c q1 q2 q3 q4 q5=>
    refine .cells es t b o room sz c q1 q2 q3 q4 fun j d hd=>?_;obtain⟨u,u1,u2,u3⟩:=q5 j d hd;exact⟨u,u1,lift d (bu hd) u u2,u3⟩
  .cases h3 with
   |kF _ _ _ _ C _=>rw[C] at hp;cases hp;cases ao
   |iH _ a C=>rw[C] at hp;cases hp;exact .iH 0 a (ah _ _ _)
   |jF _ _ a b o len room sz C=>rw[C] at hp;cases hp;exact .jF 0 0 a b o len room sz (ah _ _ _)
   |rs _ _ _ cap b o len room sz C X g2 g3 g4=>rw[C] at hp;cases hp;exact .rs 0 0 k cap b o len room sz (ah _ _ _) X g2 g3 g4⟩
def TT(J:Nat)(xs:List (List D))(I:Nat->Mem->Nat->Prop)(Stop:Mem->Nat->Prop):eg:=fun l args m nx dX=>
 l=J/\∃ k,xs[k]? =some args/\I k m nx/\∀ d m' C,QY I Stop k d m' C->dX d m' C
theorem nq.mono{β:aC}{w:World}{l:Nat}{args:List D}{m:Mem}{nx:Nat}{K K':D->Mem->Nat->Prop}(hk:∀ d m nx,K d m nx->K' d m nx)(h:nq P F β w l args m nx K):nq P F β w l args m nx K':=
 fun β' w' us h1 h2 U X=>by
  obtain⟨f,tmps,assign,body,J,M⟩:=h β' w' us h1 h2 U X;exact⟨f,tmps,assign,body,J,fun n=>RoundIn.mono (F:=Fence.wide) (M n) fun e w' ⟨v,d,m',C,β',q1,q2,q3⟩=>⟨v,d,m',C,β',q1,hk _ _ _ q2,q3⟩⟩
theorem ac7(X:P.follows .mixedOrders=true){f:FuncId}{c:Code}(hf:ld P f fn c){fs cs:List D}(hn:Nat.ble (fs.length+1+cs.length) fn.ntmps=true){xs:List (List D)}
 (h:∀ (l:Nat) (I:Nat->Mem->Nat->Prop) (Stop:Mem->Nat->Prop) (m:Mem) (nx:Nat),(∀ k,qQ (I k))->qQ Stop->I 0 m nx->
  AW P (TT l xs I Stop) true c (gV P fn.results.toList fun _ st=>I xs.length st.mem st.nx\/Stop st.mem st.nx) ⟨ig (fs++[.fn (.yield l) [] []]++cs),m,nx⟩):vT P f fs cs xs:=
 ⟨hf.he,fun F l I Stop m nx β w vs hI J hm U hR hy h0=>
  (zM X hf.hf hf.hb hf.af (by simpa[Nat.add_assoc,Nat.add_comm,Nat.add_left_comm] using hn) (h l I Stop m nx hI J h0) (fun l' args m' M K hK=>by
   obtain⟨rfl,k,h1,h2,C⟩:=hK
   exact(hy k args m' M h1 h2).mono C) hm U hR).mono fun e w' ⟨v,d,st',β',h1,h2,C,h4,h5,h6,h7,h8⟩=>⟨v,d,st'.mem,st'.nx,β',h1,h2,h4,h5,C,h6,h7,h8⟩⟩
end
section
variable{P:Program}{Y:eg}{rf:Bool}{Q:Exit->St->Prop}{st:St}
theorem Q8(c a b):AW P Y rf (.cond c a b) Q st=((opd st.env c).ask/\match (opd st.env c).core with
 | .s (.bool t)=>(t=true->AW P Y rf a Q st)/\(t=false->AW P Y rf b Q st)
 | .ub=>AW P Y rf a Q st/\AW P Y rf b Q st
 |_=>False):=rfl
theorem Q9{b:Code}(I:St->Prop)(μ:St->Nat)(h0:I st)(h:∀ st',I st'->AW P Y rf b (fL (fun J=>∃ C,aJ P J C/\I C/\μ C<μ st') Q) st'):AW P Y rf (.loop b) Q st:=⟨I,μ,h0,h⟩
theorem fG.mono{f:FuncId}{args:List D}{m:Mem}{nx:Nat}{dX J:D->Mem->Nat->Prop}(h:fG P f args m nx dX)(hp:∀ d m' C,dX d m' C->J d m' C):fG P f args m nx J:=
 ⟨h.1,fun F β w vs hm hn U=>(h.2 F β w vs hm hn U).mono fun e w' ⟨v,d,m',C,β',h1,h2,M⟩=>⟨v,d,m',C,β',h1,hp _ _ _ h2,M⟩⟩
theorem r5.mono{dr:Bool}{f:FuncId}{args:List D}{K K':D->Mem->Nat->List Nat->List Nat->Prop}(hk:∀ d m nx rd wr,K d m nx rd wr->K' d m nx rd wr)(h:r5 P dr st f args K):r5 P dr st f args K':=by
 rcases h with⟨r,h1,h2⟩|⟨M,rds,r,h1,h2,C,J⟩|⟨es,n,t,h1,h2⟩|⟨h1,h2⟩|⟨r,aQ,rds,h1,h2,C⟩|⟨es,n,t,aQ,rds,h1,h2,C,J⟩
 .exact .inl ⟨r,h1,hk _ _ _ _ _ h2⟩
 .exact .inr (.inl ⟨M,rds,r,h1,h2,C,hk _ _ _ _ _ J⟩)
 .exact .inr (.inr (.inl ⟨es,n,t,h1,hk _ _ _ _ _ h2⟩))
 .exact .inr (.inr (.inr (.inl ⟨h1,h2.mono fun d m nx h=>hk _ _ _ _ _ h⟩)))
 .exact .inr (.inr (.inr (.inr (.inl ⟨r,aQ,rds,h1,h2,hk _ _ _ _ _ C⟩))))
 .exact .inr (.inr (.inr (.inr (.inr ⟨es,n,t,aQ,rds,h1,h2,C,hk _ _ _ _ _ J⟩))))
class dy(Y:eg):Prop where
 mono:∀ l args m nx K K',(∀ d m nx,K d m nx->K' d m nx)->Y l args m nx K->Y l args m nx K'
instance:dy cY:=⟨fun _ _ _ _ _ _ _ h=>h⟩
instance{l:Nat}{xs:List (List D)}{I:Nat->Mem->Nat->Prop}{Stop:Mem->Nat->Prop}:dy (TT l xs I Stop):=⟨fun _ _ _ _ _ _ hk ⟨h1,k,h2,C,J⟩=>⟨h1,k,h2,C,fun d m nx h=>hk _ _ _ (J d m nx h)⟩⟩
theorem iK.mono[dy Y]{ops:Array Oper}{dr:Bool}{o:Oper}{K K':St->List Nat->List Nat->Prop}(hk:∀ st rd wr,K st rd wr->K' st rd wr)(h:iK P Y ops dr o st K):iK P Y ops dr o st K':=by
 unfold iK at h ⊢;split at h
 .refine⟨h.1,?_⟩;have h:=h.2;split at h
  .exact h.mono fun _ _ _ _ _ h=>hk _ _ _ h
  .split at h
   .exact⟨h.1,dy.mono _ _ _ _ _ _ (fun _ _ _ h=>hk _ _ _ h) h.2⟩
   .split at h
    .exact⟨h.1,hk _ _ _ h.2⟩
    .exact h
 .split at h
  .exact h
  .split at h
   .rcases h with⟨r,h1,h2⟩|⟨h1,h2⟩
    .exact .inl ⟨r,h1,hk _ _ _ h2⟩
    .exact .inr ⟨fun hc=>⟨(h1 hc).1,(h1 hc).2.mono fun _ _ _ _ _ h=>hk _ _ _ h⟩,fun hc=>hk _ _ _ (h2 hc)⟩
   .split at h
    .exact⟨fun hc=>⟨(h.1 hc).1,(h.1 hc).2.1,dy.mono _ _ _ _ _ _ (fun _ _ _ h=>hk _ _ _ h) (h.1 hc).2.2⟩,fun hc=>hk _ _ _ (h.2 hc)⟩
    split at h
    .split at h
     .rename_i hc;rw[if_pos hc];exact⟨h.1,hk _ _ _ h.2⟩
     .rename_i hc;rw[if_neg hc];exact⟨fun hc=>⟨(h.1 hc).1,(h.1 hc).2.1,hk _ _ _ (h.1 hc).2.2⟩,fun hc=>hk _ _ _ (h.2 hc)⟩
    .exact⟨h.1,hk _ _ _ h.2⟩
theorem aq.mono[dy Y]{ops:Array Oper}{dr:Bool}{cf:List (Nat×Nat)}{Q C:Exit->St->Prop}(hq:∀ st,Q .normal st->C .normal st):∀ (l:List Oper) (st:St) (tr:jJ),aq P Y ops dr cf Q l st tr->aq P Y ops dr cf C l st tr
 |[],st,tr,h=>⟨h.1,hq _ h.2⟩
 |o::l,st,tr,h=>h.elim (fun h=>.inl (iK.mono (fun st' rd wr h=>aq.mono hq l st' _ h) h)) fun⟨h1,h2,e,J,M⟩=>.inr ⟨h1,h2,e,J,aq.mono hq l _ _ M⟩
theorem tz:∀ (c:Code) {Y:eg} [dy Y] {rf:Bool} {Q C:Exit->St->Prop} {st:St},(∀ e st,Q e st->C e st)->AW P Y rf c Q st->AW P Y rf c C st:=by
 intro c
 induction c with
 |skip=>intro Y _ rf;exact fun hq h=>hq _ _ h
 |ret=>intro Y _ rf;exact fun hq h=>hq _ _ h
 |exit id=>intro Y _ rf;exact fun hq h=>hq _ _ h
 |region id ops draw=>
  intro Y _ rf Q C st hq h;cases draw with
  |false=>exact aq.mono (hq .normal) _ _ _ h
  |true=>
   simp only[AW] at h ⊢;split at h
   .exact h.elim (fun h=>.inl (aq.mono (hq .normal) _ _ _ h)) fun h=>.inr ⟨h.1,aq.mono (fun st hs=>⟨hs.1,aq.mono (hq .normal) _ _ _ hs.2⟩) _ _ _ h.2⟩
   .exact h
 |seq a b J M=>
  intro Y _ rf Q C st hq h;refine J (fun e st' h=>?_) h;cases e with
  |normal=>obtain⟨U,hg,hb⟩:=h;exact⟨U,hg,M hq hb⟩
  |_=>exact hq _ _ h
 |cond c a b J M=>
  intro Y _ rf Q C st hq h;refine⟨h.1,?_⟩;have h:=h.2;split at h
  .exact⟨fun ht=>J hq (h.1 ht),fun ht=>M hq (h.2 ht)⟩
  .exact⟨J hq h.1,M hq h.2⟩
  .exact h
 |block id b ih=>
  intro Y _ rf Q C st hq h;refine ih (fun e st' h=>?_) h;cases e with
  |exit i=>
   simp only[fv] at h ⊢;split at h
   .rename_i hi;rw[if_pos hi];exact hq _ _ h
   .rename_i hi;rw[if_neg hi];exact hq _ _ h
  |_=>exact hq _ _ h
 |scope b ih=>
  intro Y _ rf Q C st hq h;refine ih (fun e st' h=>?_) h;cases e with
  |goto l=>exact h
  |_=>exact hq _ _ h
 |loop b ih=>
  intro Y _ rf Q C st hq h;obtain⟨I,μ,h0,h1⟩:=h;refine⟨I,μ,h0,fun st' hi=>ih (fun e U h=>?_) (h1 st' hi)⟩;cases e with
  |normal=>exact h
  |_=>exact hq _ _ h
 |label l=>intro Y _ rf;exact fun hq h=>hq _ _ h
 |rangeFunc g ps assign body J M=>
  intro Y _ rf Q C st hq h;obtain⟨X,jB,f,fs,cs,xs,I,tR,yk,xO,yJ,tI,xP⟩:=h;refine⟨X,jB,f,fs,cs,xs,I,tR,yk,xO,yJ,fun k m nx x hx hI=>J (fun e s h=>?_) (tI k m nx x hx hI),fun m nx h=>hq _ _ (xP m nx h)⟩;cases e with
  |normal=>
   refine M (fun e s h=>?_) h;cases e with
   |normal=>exact h
   |ret=>exact hq _ _ h
   |exit id=>exact hq _ _ h
   |_=>exact h
  |_=>exact h
 |_=>intro Y _ rf;exact fun _ h=>h.elim
theorem least{p:Nat->Prop}:∀ j,p j->∃ i,p i/\∀ k,p k->i<=k:=by
 intro j
 induction j using Nat.strongRecOn with
 |_ j ih=>
  intro hj;by_cases h:∃ k,k<j/\p k
  .obtain⟨k,hk,hp⟩:=h;exact ih k hk hp
  .exact⟨j,hj,fun k hk=>Nat.le_of_not_lt fun af=>h ⟨k,af,hk⟩⟩
open Classical in
theorem P9[dy Y]{b:Code}(J:Nat->St->Prop){j₀:Nat}(h0:J j₀ st)(h:∀ j st',J j st'->AW P Y rf b (fL (fun fJ=>∃ U,aJ P fJ U/\∃ M,M<j/\J M U) Q) st'):AW P Y rf (.loop b) Q st:=by
 have C:∀ st,(∃ j,J j st)->∃ i,J i st/\∀ k,J k st->i<=k:=fun st ⟨j,hj⟩=>least j hj
 let μ:St->Nat:=fun st=>if h:∃ j,J j st then Classical.choose (C st h) else 0
 have hμ:∀ st,(hj:∃ j,J j st)->J (μ st) st/\∀ k,J k st->μ st<=k:=fun st hj=>by
  have:μ st=Classical.choose (C st hj):=by simp only[μ];rw[dif_pos hj]
  rw[this];exact Classical.choose_spec (C st hj)
 refine Q9 (fun st=>∃ j,J j st) μ ⟨j₀,h0⟩ fun st' hj=>tz b (fun e fJ hq=>?_) (h (μ st') st' (hμ st' hj).1);cases e with
 |normal=>
  obtain⟨U,hg,M,af,X⟩:=hq;exact⟨U,hg,⟨M,X⟩,Nat.lt_of_le_of_lt ((hμ U ⟨M,X⟩).2 M X) af⟩
 |_=>exact hq
end
section
variable{P:Program}{F:Nat->Prop}{β:aC}{w:World}
theorem Tr.cq{c:Bool}{d:D}(h:Tr d):Tr (.cq c d):=fun F β w v hv=>by
 cases hv with
 |cq _ _ _ h1 h2=>exact .cq c d v (fun hc=>h F β w v (h1 hc)) h2
theorem Tr.agg{cs:List D}(h:∀ d∈cs,Tr d):Tr (.agg cs):=fun F β w v hv=>by
 obtain⟨vs,rfl,hl,hh⟩:=hv.rP;exact .agg cs vs hl fun k d u hd hu=>h d (bu hd) F β w u (hh k d u hd hu)
theorem Tr.aL{cs:List D}(h:∀ d∈cs,Tr d):Tr (.aL cs):=fun F β w v hv=>by
 obtain⟨vs,rfl,hl,hh⟩:=hv.Cg;exact .aL cs vs hl fun k d u hd hu=>h d (bu hd) F β w u (hh k d u hd hu)
theorem Tr.sl{cs:List D}{n:Nat}(h:∀ d∈cs,Tr d):Tr (.sl cs n):=fun F β w v hv=>by
 cases hv with
 |gf a cap=>exact .gf a cap
 |sl _ _ b o cap us hf hb af oh de hc hh=>
  exact .sl cs n b o cap us (fun e=>e.elim hf fun e=>e hb) (fun i p hp=>by cases hp) af oh de hc fun k d hd=>h d (bu hd) F β w _ (hh k d hd)
theorem Tr.pt{cs:List D}(h:∀ d∈cs,Tr d):Tr (.pt cs):=fun F β w v hv=>by
 cases hv with
 |pt _ b o us hf hb af hc hh=>
  exact .pt cs b o us (fun e=>e.elim hf fun e=>e hb) (fun i p hp=>by cases hp) af hc fun k d hd=>h d (bu hd) F β w _ (hh k d hd)
theorem Tr.fn{f:Fn}{fs cs:List D}(h:∀ d∈fs,Tr d)(h':∀ d∈cs,Tr d):Tr (.fn f fs cs):=fun F β w v hv=>by
 cases hv with
 |fn _ _ _ us vs hl mb h1 h2=>
  exact .fn f fs cs us vs hl mb (fun k d u hd hu=>h d (bu hd) F β w u (h1 k d u hd hu)) fun k d u hd hu=>h' d (bu hd) F β w u (h2 k d u hd hu)
theorem Tr.im{es:List (Value×D)}(h:∀ x∈es,Tr x.2):Tr (.im es):=fun F β w v hv=>by
 cases hv with
 |im _ r ms clock hf hb hc hl dY hk hh=>
  exact .im es r ms clock (fun e=>e.elim hf fun e=>e hb) (fun i p hp=>by cases hp) hc hl dY hk fun k x m hx hm=>h x (bu hx) F β w _ (hh k x m hx hm)
theorem Tr.s(x:Value):Tr (.s x):=fun F β w v hv=>by
 obtain⟨rfl,h⟩:=hv.cV;exact .s _ h
theorem Tr.ub:Tr .ub:=fun F β w v hv=>by
 obtain⟨b,rfl⟩:=hv.F8;exact .ub b
theorem Tr.u:Tr .u:=fun F β w v _=>.u v
theorem Tr.z:Tr .z:=fun F β w v hv=>by
 obtain⟨a,rfl⟩:=hv.tQ;exact .z a
theorem Tr.nil:∀ a∈([]:List D),Tr a:=fun _ h=>by cases h
theorem Tr.cons{d:D}{l:List D}(h:Tr d)(hl:∀ a∈l,Tr a):∀ a∈d::l,Tr a:=fun a ha=>by
 cases ha with
 |head=>exact h
 |tail _ ha=>exact hl a ha
theorem Tr.map{α:Type}{f:α->D}{l:List α}(h:∀ x,Tr (f x)):∀ a∈l.map f,Tr a:=fun a ha=>by
 obtain⟨x,_,rfl⟩:=List.mem_map.1 ha;exact h x
theorem Tr.flat{α:Type}{f:α->List D}{l:List α}(h:∀ x,∀ a∈f x,Tr a):∀ a∈l.flatMap f,Tr a:=fun a ha=>by
 obtain⟨x,_,hx⟩:=List.mem_flatMap.1 ha;exact h x a hx
end
def ay:List (Nat×D)->Env
 |[],_=>.u
 |(t,d)::l,j=>if j=t then d else ay l j
def kW:List (Nat×D)->Env->Prop
 |[],_=>True
 |(t,d)::l,env=>env t=d/\kW l env
theorem py:∀ {l:List (Nat×D)} {env:Env},kW l env->∀ t,ay l t=env t\/ay l t=.u
 |[],_,_,_=>.inr rfl
 |(k,d)::l,env,h,t=>by
  simp only[ay];by_cases ht:t=k
  .subst ht;rw[if_pos rfl];exact .inl h.1.symm
  .rw[if_neg ht];exact py h.2 t
def fM(env:Env):List Operand->Prop
 |[]=>True
 |x::xs=>(opd env x).ask/\fM env xs
theorem Qi{env:Env}:∀ {l:List Operand},fM env l->∀ x∈l,(opd env x).ask
 |[],_,x,h=>by cases h
 |y::l,h,x,hx=>by
  cases hx with
  |head=>exact h.1
  |tail _ hx=>exact Qi h.2 x hx
theorem oQ{env:Env}{o:Op}(h:fM env o.operands.toList):asks env o:=by
 have:=Qi h;unfold asks;cases o<;>first|exact this|exact this _ cA
section
variable{P:Program}{Y:eg}{rf:Bool}
structure Ef(P:Program)(op:Op)(env:Env)(m:Mem)(nx:Nat)(e:du):Prop where
 ok:bf P op (a6 env op) m nx=some e
 nc:dF (a6 env op) op=none
 ny:kV (a6 env op) op=none
variable{ops:Array Oper}{dr:Bool}{cf:List (Nat×Nat)}{Q:Exit->St->Prop}{rest:List Oper}{env:Env}{m:Mem}{nx:Nat}{tr:jJ}{t:Nat}{op:Op}{ty:TypeId}{pos:String}{after:Array Edge}
 {pre:Prop} {v:D} {rd:List Nat}
theorem xC{d:Option Nat}{e:du}(he:Ef P op env m nx e)(ha:asks env op)(hp:e.pre)(K:aq P Y ops dr cf Q rest (St.put ⟨env,cC m e.aQ,nx+e.new⟩ d e.val) (tr++[(e.rd,e.aQ.map (·.1))])):
 aq P Y ops dr cf Q (⟨d,op,ty,pos,after,none⟩::rest) ⟨env,m,nx⟩ tr:=by
 simp only[aq];refine .inl ?_;simp only[iK];rw[he.nc,he.ny,he.ok];exact⟨ha,hp,K⟩
theorem aw(he:Ef P op env m nx ⟨pre,v,[],rd,0⟩)(ha:fM env op.operands.toList)(hp:pre)(K:aq P Y ops dr cf Q rest ⟨up env t v,m,nx⟩ (tr++[(rd,[])])):
 aq P Y ops dr cf Q (⟨some t,op,ty,pos,after,none⟩::rest) ⟨env,m,nx⟩ tr:=xC he (oQ ha) hp K
theorem zW{c a b:Operand}{g:Bool}(hc:(opd env c).core=.s (.bool g)):Ef P (.pick c a b) env m nx ⟨(g=true->(opd env a).ask/\(opd env a).core.eX.isSome=true)/\(g=false->(opd env b).ask/\(opd env b).core.eX.isSome=true),
 .s (.bool (if g then(opd env a).core.eX.getD false else(opd env b).core.eX.getD false)),[],[],0⟩:=⟨by simp only[bf,a6,hc,D.eX],rfl,rfl⟩
theorem Rr{c a b:Operand}{g x y:Bool}(hc:opd env c=.s (.bool g))(ha:(opd env a).core=.s (.bool x))(hb:(opd env b).core=.s (.bool y))(h1:g=true->(opd env a).ask)(h2:g=false->(opd env b).ask)
 (K:aq P Y ops dr cf Q rest ⟨up env t (.s (.bool (if g then x else y))),m,nx⟩ (tr++[([],[])])):
 aq P Y ops dr cf Q (⟨some t,.pick c a b,ty,pos,after,none⟩::rest) ⟨env,m,nx⟩ tr:=by
 refine xC (zW (g:=g) (by rw[hc];rfl)) (by simp only[asks,hc,D.ask]) ⟨fun h=>⟨h1 h,by rw[ha];rfl⟩,fun h=>⟨h2 h,by rw[hb];rfl⟩⟩ ?_;simp only[ha,hb,D.eX,Option.getD_some];exact K
theorem Qj{c a b:Operand}{x:Bool}(hc:opd env c=.s (.bool true))(ha:(opd env a).core=.s (.bool x))(h1:(opd env a).ask)
 (K:aq P Y ops dr cf Q rest ⟨up env t (.s (.bool x)),m,nx⟩ (tr++[([],[])])):
 aq P Y ops dr cf Q (⟨some t,.pick c a b,ty,pos,after,none⟩::rest) ⟨env,m,nx⟩ tr:=by
 refine xC (zW (g:=true) (by rw[hc];rfl)) (by simp only[asks,hc,D.ask]) ⟨fun _=>⟨h1,by rw[ha];rfl⟩,fun h=>by cases h⟩ ?_;simp only[ha,D.eX,Option.getD_some,if_true];exact K
theorem Qk{c a b:Operand}{y:Bool}(hc:opd env c=.s (.bool false))(hb:(opd env b).core=.s (.bool y))(h2:(opd env b).ask)
 (K:aq P Y ops dr cf Q rest ⟨up env t (.s (.bool y)),m,nx⟩ (tr++[([],[])])):
 aq P Y ops dr cf Q (⟨some t,.pick c a b,ty,pos,after,none⟩::rest) ⟨env,m,nx⟩ tr:=by
 refine xC (zW (g:=false) (by rw[hc];rfl)) (by simp only[asks,hc,D.ask]) ⟨fun h=>oH,fun _=>⟨h2,by rw[hb];rfl⟩⟩ ?_;simp only[hb,D.eX,Option.getD_some,Bool.false_eq_true,if_false];exact K
theorem bN{i:Nat}{row:Option Row}(he:Ef P op env m nx ⟨pre,v,[(i,row)],rd,0⟩)(ha:fM env op.operands.toList)(hp:pre)(K:aq P Y ops dr cf Q rest ⟨env,up m i row,nx⟩ (tr++[(rd,[i])])):
 aq P Y ops dr cf Q (⟨none,op,ty,pos,after,none⟩::rest) ⟨env,m,nx⟩ tr:=xC he (oQ ha) hp K
theorem eI{row:Row}(he:Ef P op env m nx ⟨pre,v,[(nx,some row)],rd,1⟩)(ha:fM env op.operands.toList)(hp:pre)(K:aq P Y ops dr cf Q rest ⟨up env t v,up m nx (some row),nx+1⟩ (tr++[(rd,[nx])])):
 aq P Y ops dr cf Q (⟨some t,op,ty,pos,after,none⟩::rest) ⟨env,m,nx⟩ tr:=xC he (oQ ha) hp K
theorem ji{i:Nat}{row:Row}(he:Ef P op env m nx ⟨pre,v,[(i,none),(nx,some row)],rd,1⟩)(ha:fM env op.operands.toList)(hp:pre)(K:aq P Y ops dr cf Q rest ⟨up env t v,up (up m i none) nx (some row),nx+1⟩ (tr++[(rd,[i,nx])])):
 aq P Y ops dr cf Q (⟨some t,op,ty,pos,after,none⟩::rest) ⟨env,m,nx⟩ tr:=xC he (oQ ha) hp K
theorem bt{j:Nat}{b c:Bool}{u:Nat}(hj:(ops[j]?).bind (·.dst)=some u)(hg:jQ (env u) b=some c)(he:Ef P op env m nx ⟨pre,v,[],rd,0⟩)(ha:c=true->fM env op.operands.toList/\pre)
 (K:aq P Y ops dr cf Q rest ⟨up env t (.cq c v),m,nx⟩ (tr++[(rd,[])])):aq P Y ops dr cf Q (⟨some t,op,ty,pos,after,some (j,b)⟩::rest) ⟨env,m,nx⟩ tr:=by
 simp only[aq];refine .inl ?_;simp only[iK];rw[hj];simp only[Option.bind_some];rw[hg,he.nc,he.ny,he.ok];exact⟨fun hc=>⟨oQ (ha hc).1,(ha hc).2⟩,K⟩
theorem E4{j:Nat}{b0 C:Bool}{u:Nat}(hj:(ops[j]?).bind (·.dst)=some u)(hg:jQ (env u) b0=some C){c a b:Operand}{g x y:Bool}(hc:(opd env c).core=.s (.bool g))(ha:(opd env a).core=.s (.bool x))(hb:(opd env b).core=.s (.bool y))
 (h0:C=true->(opd env c).ask) (h1:C=true->g=true->(opd env a).ask) (h2:C=true->g=false->(opd env b).ask)
 (K:aq P Y ops dr cf Q rest ⟨up env t (.cq C (.s (.bool (if g then x else y)))),m,nx⟩ (tr++[([],[])])):
 aq P Y ops dr cf Q (⟨some t,.pick c a b,ty,pos,after,some (j,b0)⟩::rest) ⟨env,m,nx⟩ tr:=by
 have he:=zW (P:=P) (env:=env) (m:=m) (nx:=nx) (a:=a) (b:=b) hc;simp only[ha,hb,D.eX,Option.getD_some,Option.isSome_some,and_true] at he;simp only[aq];refine .inl ?_;simp only[iK];rw[hj];simp only[Option.bind_some];rw[hg,he.nc,he.ny,he.ok];exact⟨fun hc=>⟨by simp only[asks];exact h0 hc,h1 hc,h2 hc⟩,K⟩
theorem ad'{j:Nat}{b:Bool}{u:Nat}{d:Option Nat}{e:du}(hj:(ops[j]?).bind (·.dst)=some u)(hg:jQ (env u) b=some true)(he:Ef P op env m nx e)(ha:fM env op.operands.toList)(hp:e.pre)
 (K:e.aQ=[]->e.new=0->aq P Y ops dr cf Q rest (St.put ⟨env,m,nx⟩ d (.cq true e.val)) (tr++[(e.rd,[])]))
 (K':aq P Y ops dr cf Q rest (St.put ⟨env,cC m e.aQ,nx+e.new⟩ d e.val) (tr++[(e.rd,e.aQ.map (·.1))])):aq P Y ops dr cf Q (⟨d,op,ty,pos,after,some (j,b)⟩::rest) ⟨env,m,nx⟩ tr:=by
 simp only[aq];refine .inl ?_;simp only[iK];rw[hj];simp only[Option.bind_some];rw[hg,he.nc,he.ny,he.ok];simp only;split
 .rename_i h;simp only[bc,List.isEmpty_iff,beq_iff_eq] at h;exact⟨fun _=>⟨oQ ha,hp⟩,K h.1 h.2⟩
 .exact⟨fun _=>⟨oQ ha,hp,K'⟩,oS⟩
theorem SZ{j:Nat}{b:Bool}{u:Nat}{d:Option Nat}(hj:(ops[j]?).bind (·.dst)=some u)(hg:jQ (env u) b=some false)
 (K:∀ (x:D) rd,aq P Y ops dr cf Q rest (St.put ⟨env,m,nx⟩ d (.cq false x)) (tr++[(rd,[])])):aq P Y ops dr cf Q (⟨d,op,ty,pos,after,some (j,b)⟩::rest) ⟨env,m,nx⟩ tr:=by
 simp only[aq];refine .inl ?_;simp only[iK];rw[hj];simp only[Option.bind_some];rw[hg];simp only;split
 .exact .inr ⟨oS,fun _=>K .u []⟩
 .split
  .exact⟨oS,fun _=>K .u []⟩
  .split
   .split
    .exact⟨oS,K _ _⟩
    .exact⟨oS,fun _=>K .u []⟩
   .exact⟨trivial,K .u []⟩
theorem iY{j:Nat}{b:Bool}{u t:Nat}(hj:(ops[j]?).bind (·.dst)=some u)(hg:jQ (env u) b=some false)
 (K:∀ (x:D) rd,aq P Y ops dr cf Q rest ⟨up env t (.cq false x),m,nx⟩ (tr++[(rd,[])])):aq P Y ops dr cf Q (⟨some t,op,ty,pos,after,some (j,b)⟩::rest) ⟨env,m,nx⟩ tr:=SZ hj hg K
theorem Fv{f:FuncId}{args:List D}{d:Option Nat}(hc:dF (a6 env op) op=some (f,args))(ha:fM env op.operands.toList)(h:r5 P dr ⟨env,m,nx⟩ f args fun r m nx rd wr=>aq P Y ops dr cf Q rest (St.put ⟨env,m,nx⟩ d r) (tr++[(rd,wr)])):
 aq P Y ops dr cf Q (⟨d,op,ty,pos,after,none⟩::rest) ⟨env,m,nx⟩ tr:=by
 simp only[aq];refine .inl ?_;simp only[iK];rw[hc];exact⟨oQ ha,h⟩
theorem o8{f:FuncId}{args:List D}{r:D}(h:aB P f args r)(hc:dF (a6 env op) op=some (f,args))(ha:fM env op.operands.toList)(K:aq P Y ops dr cf Q rest ⟨up env t r,m,nx⟩ (tr++[([],[])])):
 aq P Y ops dr cf Q (⟨some t,op,ty,pos,after,none⟩::rest) ⟨env,m,nx⟩ tr:=Fv hc ha (.inl ⟨r,h,K⟩)
theorem KR{f:FuncId}{args es:List D}{n:Nat}{C:TypeId}(h:ko P f args es n C)(hc:dF (a6 env op) op=some (f,args))(ha:fM env op.operands.toList)(K:aq P Y ops dr cf Q rest ⟨up env t (.rs nx 0 n),up m nx (some (.cells es C)),nx+1⟩ (tr++[([],[nx])])):
 aq P Y ops dr cf Q (⟨some t,op,ty,pos,after,none⟩::rest) ⟨env,m,nx⟩ tr:=Fv hc ha (.inr (.inr (.inl ⟨es,n,C,h,K⟩)))
theorem gn{f:FuncId}{args:List D}{d:Option Nat}{dX:D->Mem->Nat->Prop}(h:fG P f args m nx dX)(hc:dF (a6 env op) op=some (f,args))(ha:fM env op.operands.toList)
 (K:∀ r m' C,dX r m' C->aq P Y ops false cf Q rest (St.put ⟨env,m',C⟩ d r) (tr++[([],[])])):
 aq P Y ops false cf Q (⟨d,op,ty,pos,after,none⟩::rest) ⟨env,m,nx⟩ tr:=Fv hc ha (.inr (.inr (.inr (.inl ⟨rfl,h.mono K⟩))))
theorem S0{f:FuncId}{args C:List D}{r:D}{rds:List Nat}(h:aB P f C r)(hs:r.gp=true)(J:jj P rds m args C)(hc:dF (a6 env op) op=some (f,args))(ha:fM env op.operands.toList)
 (K:aq P Y ops dr cf Q rest ⟨up env t r,m,nx⟩ (tr++[(rds,[])])):aq P Y ops dr cf Q (⟨some t,op,ty,pos,after,none⟩::rest) ⟨env,m,nx⟩ tr:=Fv hc ha (.inr (.inl ⟨C,rds,r,J,h,hs,K⟩))
theorem tL{j:Nat}{b c:Bool}{u:Nat}{f:FuncId}{args:List D}{r:D}(hj:(ops[j]?).bind (·.dst)=some u)(hg:jQ (env u) b=some c)(hc:dF (a6 env op) op=some (f,args))(h:c=true->fM env op.operands.toList/\aB P f args r)
 (K:aq P Y ops dr cf Q rest ⟨up env t (.cq c r),m,nx⟩ (tr++[([],[])])):aq P Y ops dr cf Q (⟨some t,op,ty,pos,after,some (j,b)⟩::rest) ⟨env,m,nx⟩ tr:=by
 simp only[aq];refine .inl ?_;simp only[iK];rw[hj];simp only[Option.bind_some];rw[hg,hc];exact .inl ⟨r,fun C=>⟨oQ (h C).1,(h C).2⟩,K⟩
theorem aaA{j:Nat}{b:Bool}{u:Nat}{d:Option Nat}{f:FuncId}{args:List D}(hj:(ops[j]?).bind (·.dst)=some u)(hg:jQ (env u) b=some true)(hc:dF (a6 env op) op=some (f,args))(ha:fM env op.operands.toList)
 (h:r5 P dr ⟨env,m,nx⟩ f args fun r m nx rd wr=>aq P Y ops dr cf Q rest (St.put ⟨env,m,nx⟩ d r) (tr++[(rd,wr)])):aq P Y ops dr cf Q (⟨d,op,ty,pos,after,some (j,b)⟩::rest) ⟨env,m,nx⟩ tr:=by
 simp only[aq];refine .inl ?_;simp only[iK];rw[hj];simp only[Option.bind_some];rw[hg,hc];exact .inr ⟨fun _=>⟨oQ ha,h⟩,oS⟩
theorem Lz{l:Nat}{args:List D}{d:Option Nat}(hc:dF (a6 env op) op=none)(hy:kV (a6 env op) op=some (l,args))(ha:fM env op.operands.toList)(h:Y l args m nx fun r m' C=>aq P Y ops false cf Q rest (St.put ⟨env,m',C⟩ d r) (tr++[([],[])])):
 aq P Y ops false cf Q (⟨d,op,ty,pos,after,none⟩::rest) ⟨env,m,nx⟩ tr:=by
 simp only[aq];refine .inl ?_;simp only[iK];rw[hc,hy];exact⟨oQ ha,trivial,h⟩
theorem KS{j:Nat}{b:Bool}{u:Nat}{l:Nat}{args:List D}{d:Option Nat}(hj:(ops[j]?).bind (·.dst)=some u)(hg:jQ (env u) b=some true)(hc:dF (a6 env op) op=none)(hy:kV (a6 env op) op=some (l,args))(ha:fM env op.operands.toList)
 (h:Y l args m nx fun r m' C=>aq P Y ops false cf Q rest (St.put ⟨env,m',C⟩ d r) (tr++[([],[])])):aq P Y ops false cf Q (⟨d,op,ty,pos,after,some (j,b)⟩::rest) ⟨env,m,nx⟩ tr:=by
 simp only[aq];refine .inl ?_;simp only[iK];rw[hj];simp only[Option.bind_some];rw[hg,hc,hy];exact⟨fun _=>⟨oQ ha,trivial,h⟩,oS⟩
def eT(K:St->Prop):Exit->St->Prop
 | .normal,st=>K st
 |_,_=>True
theorem aa{K:St->Prop}{st:St}(h:K st):aq P Y ops dr [] (eT K) [] st tr:=⟨oS,h⟩
theorem cz{K:St->Prop}{st:St}(hc:∀ q∈cf,pC tr q.1 q.2)(h:K st):aq P Y ops dr cf (eT K) [] st tr:=⟨hc,h⟩
variable{st:St}{a b c:Code}
theorem aq.iD{cf:List (Nat×Nat)}{K:St->Prop}{Q:Exit->St->Prop}[dy Y]{l:List Oper}(h:aq P Y ops dr cf (eT K) l st tr)(hk:∀ st,K st->Q .normal st):aq P Y ops dr cf Q l st tr:=
 aq.mono (Q:=eT K) (fun st h=>hk st h) l st tr h
theorem lB[dy Y]{id:Nat}(h:aq P Y ops false [] (eT fun st=>Q .normal st) ops.toList st []):AW P Y rf (.region id ops false) Q st:=aq.iD h fun _ h=>h
theorem Ah[dy Y]{id:Nat}(hi:bT ops=some cf)(h:aq P Y ops true cf (eT fun st=>Q .normal st) ops.toList st []):AW P Y rf (.region id ops true) Q st:=by
 show match bT ops with
  |some cf=>CB P Y ops cf Q st
  |none=>False
 rw[hi];exact .inl (aq.iD h fun _ h=>h)
theorem JP[dy Y]{id:Nat}(hi:bT ops=some cf)(hl:CW ops=true)(h:aq P cY ops true cf (eT fun st=>aq P cY ops false [] (eT fun st=>Q .normal st) (ops.toList.drop (ops.size - 1)) st []) (ops.toList.take (ops.size - 1)) st []):AW P Y rf (.region id ops true) Q st:=by
 show match bT ops with
  |some cf=>CB P Y ops cf Q st
  |none=>False
 rw[hi];exact .inr ⟨hl,aq.iD h fun _ h=>⟨rfl,aq.iD h fun _ h=>h⟩⟩
theorem WD[dy Y]{id:Nat}(hi:bT ops=some cf)(hl:CW ops=true)(h:aq P cY ops true cf (eT fun st=>aq P cY ops false [] (eT fun st=>∃ st',aJ P st st'/\AW P Y rf b Q st') (ops.toList.drop (ops.size - 1)) st []) (ops.toList.take (ops.size - 1)) st []):AW P Y rf (.seq (.region id ops true) b) Q st:=
 JP (rf:=rf) (id:=id) hi hl (aq.iD h fun _ h=>aq.iD h fun st h=>h)
theorem aj[dy Y]{id:Nat}(h:aq P Y ops false [] (eT fun st=>AW P Y rf b Q st) ops.toList st []):AW P Y rf (.seq (.region id ops false) b) Q st:=
 lB (rf:=rf) (id:=id) (aq.iD h fun st h=>⟨st,.refl st,h⟩)
theorem eA[dy Y]{id:Nat}(hi:bT ops=some cf)(h:aq P Y ops true cf (eT fun st=>AW P Y rf b Q st) ops.toList st []):AW P Y rf (.seq (.region id ops true) b) Q st:=
 Ah (rf:=rf) (id:=id) hi (aq.iD h fun st h=>⟨st,.refl st,h⟩)
theorem bJ{st':St}(hg:aJ P st st')(h:AW P Y rf b Q st'):∃ C,aJ P st C/\AW P Y rf b Q C:=⟨st',hg,h⟩
theorem az[dy Y]{id:Nat}(h:aq P Y ops false [] (eT fun st=>∃ st',aJ P st st'/\AW P Y rf b Q st') ops.toList st []):AW P Y rf (.seq (.region id ops false) b) Q st:=
 lB (rf:=rf) (id:=id) (aq.iD h fun _ h=>h)
theorem BK[dy Y]{id:Nat}(hi:bT ops=some cf)(h:aq P Y ops true cf (eT fun st=>∃ st',aJ P st st'/\AW P Y rf b Q st') ops.toList st []):AW P Y rf (.seq (.region id ops true) b) Q st:=
 Ah (rf:=rf) (id:=id) hi (aq.iD h fun _ h=>h)
theorem SP[dy Y](J:St->Prop)(h:AW P Y rf a (fL J Q) st)(k:∀ st,J st->AW P Y rf b Q st):AW P Y rf (.seq a b) Q st:=
 tz a (fun e st h=>by
  cases e with
  |normal=>exact⟨st,.refl st,k st h⟩
  |_=>exact h) h
theorem iz[dy Y](J:St->Prop)(h:AW P Y rf a (fL J Q) st)(k:∀ st,J st->∃ st',aJ P st st'/\AW P Y rf b Q st'):AW P Y rf (.seq a b) Q st:=
 tz a (fun e st h=>by
  cases e with
  |normal=>exact k st h
  |_=>exact h) h
theorem cx[dy Y](h:AW P Y rf b Q st):AW P Y rf (.seq .skip b) Q st:=⟨st,.refl st,h⟩
theorem eQ(h:Q .ret st):AW P Y rf (.seq .ret b) Q st:=h
theorem ta{id:Nat}(h:Q (.exit id) st):AW P Y rf (.seq (.exit id) b) Q st:=h
theorem Xj{l:Nat}(h:AW P Y rf b Q st):AW P Y rf (.seq (.label l) b) Q st:=⟨st,.refl st,h⟩
theorem aF[dy Y](h:AW P Y rf (.seq a (.seq b c)) Q st):AW P Y rf (.seq (.seq a b) c) Q st:=by
 refine tz a (fun e st h=>?_) h;cases e with
 |normal=>
  obtain⟨st',hg,h⟩:=h;refine⟨st',hg,tz b (fun e st h=>?_) h⟩;cases e<;>exact h
 |_=>exact h
theorem aO{c:Operand}{x y:Code}{g:Bool}(hc:opd st.env c=.s (.bool g))(ht:g=true->AW P Y rf x Q st)(hf:g=false->AW P Y rf y Q st):AW P Y rf (.cond c x y) Q st:=by
 rw[Q8];rw[hc];exact⟨trivial,ht,hf⟩
theorem cQ{c:Operand}{x y:Code}{g:Bool}(hc:opd st.env c=.s (.bool g))(ht:g=true->AW P Y rf (.seq x b) Q st)(hf:g=false->AW P Y rf (.seq y b) Q st):AW P Y rf (.seq (.cond c x y) b) Q st:=aO hc ht hf
theorem Rt{c:Operand}{x y:Code}(hc:opd st.env c=.ub)(ht:AW P Y rf x Q st)(hf:AW P Y rf y Q st):AW P Y rf (.cond c x y) Q st:=by
 rw[Q8];rw[hc];exact⟨trivial,ht,hf⟩
theorem pz{id:Nat}(h:AW P Y rf b (fv id Q) st):AW P Y rf (.block id b) Q st:=h
theorem abR[dy Y]{α:Type}(S:α->St)(J:α->Prop)(μ:α->Nat)(U:α)(h0:st=S U)(hJ:J U)(h:∀ x,J x->AW P Y rf b (fL (fun st'=>∃ M C,aJ P st' M/\M=S C/\J C/\μ C<μ x) Q) (S x)):AW P Y rf (.loop b) Q st:=by
 refine P9 (fun j st=>∃ x,st=S x/\J x/\μ x=j) (j₀:=μ U) ⟨U,h0,hJ,rfl⟩ ?_;rintro j st ⟨x,rfl,hx,rfl⟩;refine tz b (fun e st' hq=>?_) (h x hx);cases e with
 |normal=>
  obtain⟨M,C,h1,h2,X,h4⟩:=hq;exact⟨M,h1,μ C,h4,C,h2,X,rfl⟩
 |_=>exact hq
end
theorem GM{P:Program}{Y:eg}{rf:Bool}{Q:Exit->St->Prop}{st:St}{c:Operand}{x y:Code}(K:AW P Y rf y Q st)(h:opd st.env c=.s (.bool false):=by exact rfl):AW P Y rf (.cond c x y) Q st:=aO h (fun h=>by cases h) fun _=>K
theorem S3{P:Program}{Y:eg}{rf:Bool}{Q:Exit->St->Prop}{st:St}{c:Operand}{x y:Code}(K:AW P Y rf x Q st)(h:opd st.env c=.s (.bool true):=by exact rfl):AW P Y rf (.cond c x y) Q st:=aO h (fun _=>K) fun h=>by cases h
theorem qU{P:Program}{Y:eg}{rf:Bool}{Q:Exit->St->Prop}{st:St}{c:Operand}{x y b:Code}(K:AW P Y rf (.seq y b) Q st)(h:opd st.env c=.s (.bool false):=by exact rfl):AW P Y rf (.seq (.cond c x y) b) Q st:=aO h (fun h=>by cases h) fun _=>K
theorem GN{P:Program}{Y:eg}{rf:Bool}{Q:Exit->St->Prop}{st:St}{c:Operand}{x y b:Code}(K:AW P Y rf (.seq x b) Q st)(h:opd st.env c=.s (.bool true):=by exact rfl):AW P Y rf (.seq (.cond c x y) b) Q st:=aO h (fun _=>K) fun h=>by cases h
section
variable{P:Program}{env:Env}{m:Mem}{nx:Nat}{t:TypeId}{x y a:Operand}{d v:D}{k:IntKind}{n n':Int}{p q:TypeId}
theorem dL(hx:(opd env x).core=v):Ef P (.move x) env m nx ⟨True,v,[],[],0⟩:=⟨by simp only[bf,a6,hx],rfl,rfl⟩
theorem jO(hx:(opd env x).core=v):Ef P (.assign x) env m nx ⟨True,v,[],[],0⟩:=⟨by simp only[bf,a6,hx],rfl,rfl⟩
theorem acV(op:BinOp)(v:Value)(y:Operand):mH P m op t (.s v) y=none:=by
 unfold mH;split<;>first|rfl|(rename_i h;cases h)
theorem acW{op:BinOp}{v w:Value}(h:∀ a b,v=.bool a->w=.bool b->False):vS P op t (.s v) (.s w)=(q6 op v w).map fun r=>(r.1,.s r.2):=by
 cases v<;>cases w<;>first|rfl|exact(h _ _ rfl rfl).elim
theorem lR{op:BinOp}{v w u:Value}{pre:Prop}(hx:(opd env x).core=.s v)(hy:(opd env y).core=.s w)(hn:∀ a b,v=.bool a->w=.bool b->False)(hb:q6 op v w=some (pre,u)):Ef P (.binOp op t x y p) env m nx ⟨pre,.s u,[],[],0⟩:=
 ⟨by simp only[bf,a6,hx,hy,acV,acW hn,hb,Option.map_some],rfl,rfl⟩
section ints
variable(hx:(opd env x).core=.s (.int k n))(hy:(opd env y).core=.s (.int k n'))
include hx hy
theorem GF:Ef P (.binOp .lss t x y p) env m nx ⟨k=k,.s (.bool (decide (n<n'))),[],[],0⟩:=lR hx hy oS rfl
theorem KF:Ef P (.binOp .leq t x y p) env m nx ⟨k=k,.s (.bool (decide (n<=n'))),[],[],0⟩:=lR hx hy oS rfl
theorem KG:Ef P (.binOp .gtr t x y p) env m nx ⟨k=k,.s (.bool (decide (n'<n))),[],[],0⟩:=lR hx hy oS rfl
theorem CX:Ef P (.binOp .geq t x y p) env m nx ⟨k=k,.s (.bool (decide (n'<=n))),[],[],0⟩:=lR hx hy oS rfl
theorem GG:Ef P (.binOp .eql t x y p) env m nx ⟨k=k,.s (.bool (n==n')),[],[],0⟩:=lR hx hy oS rfl
theorem KH:Ef P (.binOp .neq t x y p) env m nx ⟨k=k,.s (.bool (n !=n')),[],[],0⟩:=lR hx hy oS rfl
theorem acX:Ef P (.binOp .add t x y p) env m nx ⟨k=k,.s (.int k (k.wrap (n+n'))),[],[],0⟩:=lR hx hy oS rfl
theorem acY:Ef P (.binOp .sub t x y p) env m nx ⟨k=k,.s (.int k (k.wrap (n - n'))),[],[],0⟩:=lR hx hy oS rfl
theorem acZ:Ef P (.binOp .quo t x y p) env m nx ⟨k=k/\n'≠0,.s (.int k (k.wrap (n.tdiv n'))),[],[],0⟩:=lR hx hy oS rfl
theorem adU:Ef P (.binOp .rem t x y p) env m nx ⟨k=k/\n'≠0,.s (.int k (n.tmod n')),[],[],0⟩:=lR hx hy oS rfl
theorem SI:Ef P (.binOp .and t x y p) env m nx ⟨k=k,.s (.int k (lA .and k n n')),[],[],0⟩:=lR hx hy oS rfl
theorem ag2:Ef P (.binOp .or t x y p) env m nx ⟨k=k,.s (.int k (lA .or k n n')),[],[],0⟩:=lR hx hy oS rfl
end ints
theorem adV{k':IntKind}(hx:(opd env x).core=.s (.int k n))(hy:(opd env y).core=.s (.int k' n')):Ef P (.binOp .shl t x y p) env m nx ⟨0<=n',.s (.int k (k.wrap (n*2 ^ (min n'.toNat k.bits)))),[],[],0⟩:=lR hx hy oS rfl
theorem adW{k':IntKind}(hx:(opd env x).core=.s (.int k n))(hy:(opd env y).core=.s (.int k' n')):Ef P (.binOp .shr t x y p) env m nx ⟨0<=n',.s (.int k (n.fdiv (2 ^ (min n'.toNat k.bits)))),[],[],0⟩:=lR hx hy oS rfl
theorem i64_in(n:Int)(h: -9223372036854775808<=n/\n<=9223372036854775807):IntKind.i64.wrap n=n:=Go.IntWalk.i64_in n h
theorem GH(hx:(opd env x).core=.s (.int .i64 n))(hy:(opd env y).core=.s (.int .i64 n'))(hb: -9223372036854775808<=n+n'/\n+n'<=9223372036854775807):Ef P (.binOp .add t x y p) env m nx ⟨IntKind.i64=IntKind.i64,.s (.int .i64 (n+n')),[],[],0⟩:=by
 have:=acX (P:=P) (m:=m) (nx:=nx) (t:=t) (p:=p) hx hy
 rwa[i64_in _ hb] at this
theorem KI(hx:(opd env x).core=.s (.int .i64 n))(hy:(opd env y).core=.s (.int .i64 n'))(hb: -9223372036854775808<=n - n'/\n - n'<=9223372036854775807):Ef P (.binOp .sub t x y p) env m nx ⟨IntKind.i64=IntKind.i64,.s (.int .i64 (n - n')),[],[],0⟩:=by
 have:=acY (P:=P) (m:=m) (nx:=nx) (t:=t) (p:=p) hx hy
 rwa[i64_in _ hb] at this
section strings
variable{s s':ByteArray}(hx:(opd env x).core=.s (.string s))(hy:(opd env y).core=.s (.string s'))
include hx hy
theorem Kb:Ef P (.binOp .eql t x y p) env m nx ⟨True,.s (.bool (s.toList==s'.toList)),[],[],0⟩:=lR hx hy oS rfl
theorem ac0:Ef P (.binOp .neq t x y p) env m nx ⟨True,.s (.bool !(s.toList==s'.toList)),[],[],0⟩:=lR hx hy oS rfl
theorem R2:Ef P (.binOp .geq t x y p) env m nx ⟨True,.s (.bool !(Op.bytesLess s.toList s'.toList)),[],[],0⟩:=lR hx hy oS rfl
end strings
theorem SJ{b:Bool}(hx:(opd env x).core=.s (.bool b)):Ef P (.unOp .not t x) env m nx ⟨True,.s (.bool !b),[],[],0⟩:=⟨by simp only[bf,a6,hx,yO,Option.map_some],rfl,rfl⟩
theorem Fo{z:List D}(hz:a8 P t=z):Ef P (.alloc t) env m nx ⟨aG P t=true,.rp nx 0,[(nx,some (.cells z t))],[],1⟩:=⟨by simp only[bf,hz],rfl,rfl⟩
theorem SK{cs:List D}(hx:(opd env x).core=d)(hc:d.cells=cs):Ef P (.box t x) env m nx ⟨cs.all D.one=true,.rp nx 0,[(nx,some (.cells cs t))],[],1⟩:=⟨by simp only[bf,a6,hx,hc],rfl,rfl⟩
theorem F9(hx:(opd env x).core=d)(hc:d.cells=[d]):Ef P (.box t x) env m nx ⟨[d].all D.one=true,.rp nx 0,[(nx,some (.cells [d] t))],[],1⟩:=SK hx hc
theorem r6{cs:List D}(hx:(opd env x).core=.agg cs):Ef P (.box t x) env m nx ⟨cs.all D.one=true,.rp nx 0,[(nx,some (.cells cs t))],[],1⟩:=SK hx rfl
theorem R3{cs:List D}(hx:(opd env x).core=.pt (v::cs))(ha:bm P t=false):Ef P (.load t x) env m nx ⟨aG P t=true/\P.cellsOf t<=(v::cs).length,v,[],[],0⟩:=⟨by simp[bf,a6,hx,gE,ha],rfl,rfl⟩
theorem j4{cs vs:List D}{n:Nat}(hx:(opd env x).core=.pt cs)(ha:bm P t=true)(hc:P.cellsOf t=n)(hv:cs.take n=vs):Ef P (.load t x) env m nx ⟨aG P t=true/\P.cellsOf t<=cs.length,.agg vs,[],[],0⟩:=⟨by simp[bf,a6,hx,gE,ha,hc,hv],rfl,rfl⟩
theorem j5{i off:Nat}{cs cs':List D}{e:TypeId}(hx:(opd env x).core=.rp i off)(hm:m i=some (.cells cs e))(hd:cs.drop off=v::cs')(ha:bm P t=false):Ef P (.load t x) env m nx ⟨aG P t=true/\off+P.cellsOf t<=cs.length,v,[],[i],0⟩:=⟨by simp[bf,a6,hx,hm,gE,ha,hd],rfl,rfl⟩
theorem fg{i off:Nat}{cs vs:List D}{e:TypeId}{n:Nat}(hx:(opd env x).core=.rp i off)(hm:m i=some (.cells cs e))(ha:bm P t=true)(hc:P.cellsOf t=n)(hv:(cs.drop off).take n=vs):Ef P (.load t x) env m nx ⟨aG P t=true/\off+P.cellsOf t<=cs.length,.agg vs,[],[i],0⟩:=⟨by simp[bf,a6,hx,hm,gE,ha,hc,hv],rfl,rfl⟩
theorem Q3{i off:Nat}{cs cs' vs:List D}{e:TypeId}(hx:(opd env x).core=.rp i off)(hy:(opd env y).core=d)(hm:m i=some (.cells cs e))(hv:d.cells=vs)(hs:gB cs off vs=cs'):
 Ef P (.store t x y) env m nx ⟨aG P t=true/\vs.length=P.cellsOf t/\off+P.cellsOf t<=cs.length/\vs.all D.one=true,.aL [],[(i,some (.cells cs' e))],[i],0⟩:=⟨by simp only[bf,a6,hx,hy,hm,hv,hs],rfl,rfl⟩
theorem eK{i off:Nat}{cs cs':List D}{e:TypeId}(hx:(opd env x).core=.rp i off)(hy:(opd env y).core=d)(hm:m i=some (.cells cs e))(hv:d.cells=[d])(hs:cs.set off d=cs'):
 Ef P (.store t x y) env m nx ⟨aG P t=true/\[d].length=P.cellsOf t/\off+P.cellsOf t<=cs.length/\[d].all D.one=true,.aL [],[(i,some (.cells cs' e))],[i],0⟩:=Q3 hx hy hm hv hs
theorem fq{i off:Nat}{cs cs' vs:List D}{e:TypeId}(hx:(opd env x).core=.rp i off)(hy:(opd env y).core=.agg vs)(hm:m i=some (.cells cs e))(hs:gB cs off vs=cs'):
 Ef P (.store t x y) env m nx ⟨aG P t=true/\vs.length=P.cellsOf t/\off+P.cellsOf t<=cs.length/\vs.all D.one=true,.aL [],[(i,some (.cells cs' e))],[i],0⟩:=Q3 hx hy hm rfl hs
theorem Q4{cs:List D}{j off:Nat}{C:TypeId}(hx:(opd env x).core=.pt cs)(hf:bV P t j=some (off,C)):Ef P (.fieldAddr t x j) env m nx ⟨0<P.cellsOf C,.pt (cs.drop off),[],[],0⟩:=⟨by simp only[bf,a6,hx,hf],rfl,rfl⟩
theorem rK{i o:Nat}{j off:Nat}{C:TypeId}{r:Row}(hx:(opd env x).core=.rp i o)(hm:m i=some r)(hf:bV P t j=some (off,C)):Ef P (.fieldAddr t x j) env m nx ⟨0<P.cellsOf C,.rp i (o+off),[],[i],0⟩:=⟨by simp only[bf,a6,hx,hf,hm],rfl,rfl⟩
theorem Ga{i o:Nat}{r:Row}(hx:(opd env x).core=.rp i o)(hm:m i=some r):Ef P (.nilCheck x) env m nx ⟨True,.rp i o,[],[i],0⟩:=⟨by simp only[bf,a6,hx,hm],rfl,rfl⟩
theorem KJ{es cs:List D}{l sz:Nat}{e:TypeId}(hx:(opd env x).core=.sl es l)(hy:(opd env y).core=.s (.int k n))(he:aD P t=e)(hs:P.cellsOf e=sz)(hd:es.drop (n.toNat*sz)=cs):
 Ef P (.indexAddr t x y) env m nx ⟨bh P t=true/\0<=n/\n<l/\(n.toNat+1)*sz<=es.length,.pt cs,[],[],0⟩:=⟨by simp only[bf,a6,hx,hy,he,hs,hd],rfl,rfl⟩
theorem Gb{j off l sz:Nat}{e:TypeId}{r:Row}(hx:(opd env x).core=.rs j off l)(hy:(opd env y).core=.s (.int k n))(hm:m j=some r)(he:aD P t=e)(hs:P.cellsOf e=sz):
 Ef P (.indexAddr t x y) env m nx ⟨bh P t=true/\0<=n/\n<l,.rp j (off+n.toNat*sz),[],[j],0⟩:=⟨by simp only[bf,a6,hx,hy,hm,he,hs],rfl,rfl⟩
theorem ac1{j off sz l:Nat}{e:TypeId}{r:Row}(hx:(opd env x).core=.rp j off)(hy:(opd env y).core=.s (.int k n))(hm:m j=some r)(he:aD P t=e)(hs:P.cellsOf e=sz)(hl:oi P t=l):
 Ef P (.indexAddr t x y) env m nx ⟨nM P t=true/\0<=n/\n<l,.rp j (off+n.toNat*sz),[],[j],0⟩:=⟨by simp only[bf,a6,hx,hy,hm,he,hs,hl],rfl,rfl⟩
section builtins
theorem vE{b:Builtin}{ts:Array TypeId}{args:Array Operand}{aS:List D}{e:du}(hs:ts.size=args.size)(ha:args.toList.map (fun x=>(opd env x).core)=aS)(hb:fE P m nx b ts aS=some e):Ef P (.call { callee:=.builtin b,args:=args,argTypes:=ts }) env m nx e:=
 ⟨by simp only[bf];rw[if_pos hs];simp only[a6];rw[ha,hb],rfl,rfl⟩
theorem SL{es:List D}{l:Nat}(hx:(opd env x).core=.sl es l):Ef P (.call { callee:=.builtin .len,args:= #[x],argTypes:= #[t] }) env m nx ⟨bh P t=true,.s (.int .i64 l),[],[],0⟩:=vE (aS:=[.sl es l]) rfl (by simp[hx]) rfl
theorem Gc{i off l:Nat}{r:Row}(hx:(opd env x).core=.rs i off l)(hm:m i=some r):Ef P (.call { callee:=.builtin .len,args:= #[x],argTypes:= #[t] }) env m nx ⟨bh P t=true,.s (.int .i64 l),[],[i],0⟩:=vE (aS:=[.rs i off l]) rfl (by simp[hx]) (by simp[fE,nB,hm])
theorem ac2(hx:(opd env x).core=.z):Ef P (.call { callee:=.builtin .len,args:= #[x],argTypes:= #[t] }) env m nx ⟨bh P t=true,.s (.int .i64 0),[],[],0⟩:=vE (aS:=[.z]) rfl (by simp[hx]) rfl
theorem Kc{b:ByteArray}(hx:(opd env x).core=.s (.string b)):Ef P (.call { callee:=.builtin .len,args:= #[x],argTypes:= #[t] }) env m nx ⟨fN P t=true,.s (.int .i64 b.size),[],[],0⟩:=vE (aS:=[.s (.string b)]) rfl (by simp[hx]) rfl
theorem adX{k:IntKind}(hx:(opd env x).core=.s (.int k n))(hy:(opd env y).core=.s (.int k n')):Ef P (.call { callee:=.builtin .min,args:= #[x,y],argTypes:= #[t,t] }) env m nx ⟨k=k,.s (.int k (if n'<n then n' else n)),[],[],0⟩:=vE (aS:=[.s (.int k n),.s (.int k n')]) rfl (by simp[hx,hy]) rfl
structure Cells(m:Mem)(sz:Nat)(d:D)(p:Prop)(rd:List Nat)(k:Nat)(news:List D):Prop where
 ok:jq m sz d=some (p,rd,k,news)
theorem qD{es news:List D}{k sz:Nat}(h:es.take (k*sz)=news):Cells m sz (.sl es k) (k*sz<=es.length) [] k news:=⟨by simp[jq,h]⟩
theorem kO{i off k sz:Nat}{cs news:List D}{e:TypeId}(hm:m i=some (.cells cs e))(h:(cs.drop off).take (k*sz)=news):Cells m sz (.rs i off k) (off+k*sz<=cs.length) [i] k news:=⟨by simp[jq,hm,h]⟩
theorem Ae{p:Prop}{rd:List Nat}{c sz:Nat}{news:List D}{e:TypeId}(hx:(opd env x).core=.z)(hy:(opd env y).core=d)(he:aD P t=e)(hs:P.cellsOf e=sz)(hc:Cells m sz d p rd c news):
 Ef P (.call { callee:=.builtin .append,args:= #[x,y],argTypes:= #[t,t] }) env m nx ⟨bh P t=true/\p/\0<sz/\c<=maxLen/\c*P.bytesOf e<=140737488355328,.rs nx 0 c,[(nx,some (.cells news e))],rd,1⟩:=by
 refine vE (aS:=[.z,d]) rfl (by simp[hx,hy]) ?_;simp only[fE];rw[if_pos oS];simp only[qI,Array.getD_eq_getD_getElem?,List.getElem?_toArray,List.getElem?_cons_zero,Option.getD_some,he,hs,hc.ok]
theorem iX{p:Prop}{rd:List Nat}{c sz i off l:Nat}{cs cs' news:List D}{e:TypeId}(hx:(opd env x).core=.rs i off l)(hm:m i=some (.cells cs e))(hy:(opd env y).core=d)(he:aD P t=e)(hs:P.cellsOf e=sz)(hc:Cells m sz d p rd c news)(hn:cs.drop off++news=cs'):
 Ef P (.call { callee:=.builtin .append,args:= #[x,y],argTypes:= #[t,t] }) env m nx ⟨bh P t=true/\e=e/\p/\0<sz/\off+l*sz=cs.length/\l+c<=maxLen/\(l+c)*P.bytesOf e<=140737488355328/\i∉rd,.rs nx 0 (l+c),[(i,none),(nx,some (.cells cs' e))],i::rd,1⟩:=by
 refine vE (aS:=[.rs i off l,d]) rfl (by simp[hx,hy]) ?_;simp only[fE];rw[if_pos oS];simp only[qI,Array.getD_eq_getD_getElem?,List.getElem?_toArray,List.getElem?_cons_zero,Option.getD_some,he,hs,hc.ok,hm,hn]
end builtins
theorem pw{cs cs':List D}{j:Nat}(hx:(opd env x).core=.aL cs)(hd:cs.drop j=v::cs'):Ef P (.extract x j) env m nx ⟨j<cs.length,v,[],[],0⟩:=by
 have h:cs[j]? =some v:=by
  have:(cs.drop j)[0]? =some v:=by rw[hd];rfl
  simpa using this
 exact⟨by simp[bf,a6,hx,h],rfl,rfl⟩
theorem abK{ps:Array (Nat×Operand)}{fs:Array Field}{cs z:List D}{C:List (Nat×D)}(hu:P.underlying t=some (.struct fs))(hz:a8 P t=z)(hq:(ps.toList.map fun q=>(q.1,(opd env q.2).core))=C)
 (hf:gF (fun i=>(fs[i]?).map fun f=>(f.offset,P.cellsOf f.type)) z C=some cs):Ef P (.build t ps) env m nx ⟨aG P t=true/\fs.toList.all (fun f=>(P.info? f.type).isSome)=true,.agg cs,[],[],0⟩:=
 ⟨by simp only[bf,a6,hu,hz,hq,hf,Option.map_some],rfl,rfl⟩
theorem EZ{ps:Array (Nat×Operand)}{fs:Array Field}{C:List (Nat×Nat)}{cs z:List D}{J:List (Nat×D)}(hu:P.underlying t=some (.struct fs))(hp:(fs.toList.map fun(f:Field)=>(f.offset,P.cellsOf f.type))=C)(hz:a8 P t=z)(hq:(ps.toList.map fun q=>(q.1,(opd env q.2).core))=J)
 (hf:gF (fun i=>C[i]?) z J=some cs):Ef P (.build t ps) env m nx ⟨aG P t=true/\fs.toList.all (fun f=>(P.info? f.type).isSome)=true,.agg cs,[],[],0⟩:=by
 refine abK hu hz hq ?_
 have:(fun(i:Nat)=>(fs[i]?).map fun(f:Field)=>(f.offset,P.cellsOf f.type))=fun(i:Nat)=>C[i]? :=by
  funext i;rw[<- hp];simp
 rw[this];exact hf
theorem tc{ps:Array (Nat×Operand)}{l sz:Nat}{e:TypeId}{cs z:List D}{C:List (Nat×D)}(he:aD P t=e)(hs:P.cellsOf e=sz)(hz:a8 P e=z)(hq:(ps.toList.map fun q=>(q.1,(opd env q.2).core))=C)
 (hf:gF (fun i=>some (i*sz,sz)) (dx l z) C=some cs):Ef P (.buildSlice t l ps) env m nx ⟨cs.all D.one=true/\l*sz<=2 ^ 24/\bh P t=true/\l<=maxLen,.rs nx 0 l,[(nx,some (.cells cs e))],[],1⟩:=
 ⟨by simp only[bf,a6,he,hs,hz,hq,hf,Option.map_some],rfl,rfl⟩
theorem Kd{f:Fn}{fs cs:Array Operand}{J C:List D}(hf:fs.toList.map (fun x=>(opd env x).core)=J)(hc:cs.toList.map (fun x=>(opd env x).core)=C):Ef P (.makeFunc f fs cs) env m nx ⟨True,.fn f J C,[],[],0⟩:=⟨by simp only[bf,a6,hf,hc],rfl,rfl⟩
theorem adY:Ef P (.makeMap t none) env m nx ⟨True,.mp nx,[(nx,some (.map []))],[],1⟩:=⟨by simp only[bf],rfl,rfl⟩
theorem B7{e:TypeId}{z:List D}(hx:(opd env x).core=.s (.int .i64 n))(hy:(opd env y).core=.s (.int .i64 n'))(he:aD P t=e)(hz:a8 P e=z):
 Ef P (.makeSlice t x y) env m nx ⟨0<=n/\n=n'/\n<=9223372036854775807/\P.bytesOf e*n<=281474976710656/\bh P t=true,.rs nx 0 n.toNat,[(nx,some (.cells (dx n.toNat z) e))],[],1⟩:=⟨by simp only[bf,a6,hx,hy,he,hz],rfl,rfl⟩
theorem ac3{src:TypeId}{k':IntKind}(hx:(opd env x).core=.s (.int k n))(hu:P.underlying t=some (.int k')):Ef P (.convert src t x) env m nx ⟨aG P src=true,.s (.int k' (k'.wrap n)),[],[],0⟩:=⟨by simp only[bf,a6,hx,hu],rfl,rfl⟩
theorem abL{src e:TypeId}{b:ByteArray}(hx:(opd env x).core=.s (.string b))(hu:P.underlying t=some (.slice e))(he:P.underlying e=some (.int .u8)):
 Ef P (.convert src t x) env m nx ⟨fN P src=true/\b.size<=maxLen,.sl (b.data.toList.map fun c=>.s (.int .u8 c.toNat)) b.size,[],[],0⟩:=⟨by simp only[bf,a6,hx,hu,he],rfl,rfl⟩
def qE(b:ByteArray):List Int:=b.data.toList.map fun c=>(c.toNat:Int)
theorem Wf(b:ByteArray):(qE b).length=b.size:=by unfold qE;rw[List.length_map];rfl
theorem PX{src e:TypeId}{b:ByteArray}(hx:(opd env x).core=.s (.string b))(hu:P.underlying t=some (.slice e))(he:P.underlying e=some (.int .u8)):
 Ef P (.convert src t x) env m nx ⟨fN P src=true/\b.size<=maxLen,.sl ((qE b).map fun n=>.s (.int .u8 n)) (qE b).length,[],[],0⟩:=by
 have:=abL (P:=P) (env:=env) (m:=m) (nx:=nx) (t:=t) (src:=src) hx hu he;have h:(qE b).map (fun n=>D.s (.int .u8 n))=b.data.toList.map (fun c=>D.s (.int .u8 c.toNat)):=by rw[qE,List.map_map];rfl
 rw[Wf,h];exact this
theorem JC{es es':List D}{l:Nat}{lo hi:Option Operand}{a b:Int}{e:TypeId}{sz:Nat}(hx:(opd env x).core=.sl es l)(he:aD P t=e)(hs:P.cellsOf e=sz)
 (ha:dW (lo.map fun x=>(opd env x).core) 0=some a) (hb:dW (hi.map fun x=>(opd env x).core) l=some b) (hd:(es.drop (a.toNat*sz)).take ((b - a).toNat*sz)=es'):
 Ef P (.slice t x lo hi none) env m nx ⟨bh P t=true/\0<=a/\a<=b/\b<=l,.sl es' (b - a).toNat,[],[],0⟩:=by
 refine⟨?_,rfl,rfl⟩;show mw P m t (opd env x).core (lo.map fun x=>(opd env x).core) (hi.map fun x=>(opd env x).core) (Option.map (fun x=>(opd env x).core) none)=_;rw[hx];simp only[mw,Option.map_none,ha,hb,he,hs,hd]
theorem E0{i off l:Nat}{cs:List D}{lo hi:Option Operand}{a b:Int}{e:TypeId}{sz:Nat}(hx:(opd env x).core=.rs i off l)(hm:m i=some (.cells cs e))(he:aD P t=e)(hs:P.cellsOf e=sz)
 (ha:dW (lo.map fun x=>(opd env x).core) 0=some a) (hb:dW (hi.map fun x=>(opd env x).core) l=some b):
 Ef P (.slice t x lo hi none) env m nx ⟨(bh P t=true/\sz=sz)/\0<=a/\a<=b/\b<=l,.rs i (off+a.toNat*sz) (b - a).toNat,[],[i],0⟩:=by
 refine⟨?_,rfl,rfl⟩;show mw P m t (opd env x).core (lo.map fun x=>(opd env x).core) (hi.map fun x=>(opd env x).core) (Option.map (fun x=>(opd env x).core) none)=_;rw[hx];simp only[mw,hm,Option.map_none,ha,hb,he,hs]
theorem E2{i:Nat}{es:List (Value×D)}{key:Value}{ok:Bool}{kt:TypeId}(hx:(opd env x).core=.mp i)(hm:m i=some (.map es))(hk:pX (opd env y).core=some key)(ht:eE P t=kt)(hg:fy P t ok (cM key es)=v):
 Ef P (.lookup t x y ok) env m nx ⟨fK P t=true/\cE P kt key=true/\es.all (fun e=>cE P kt e.1)=true,v,[],[i],0⟩:=by
 refine⟨?_,rfl,rfl⟩;show n1 P m t (opd env x).core (opd env y).core ok=_;simp only[n1,hk,hx,hm,ht,hg]
theorem zG{es:List (Value×D)}{key:Value}{ok:Bool}{kt:TypeId}(hx:(opd env x).core=.im es)(hk:pX (opd env y).core=some key)(ht:eE P t=kt)(hg:fy P t ok (cM key es)=v):
 Ef P (.lookup t x y ok) env m nx ⟨fK P t=true/\cE P kt key=true/\es.all (fun e=>cE P kt e.1)=true,v,[],[],0⟩:=by
 refine⟨?_,rfl,rfl⟩;show n1 P m t (opd env x).core (opd env y).core ok=_;simp only[n1,hk,hx,ht,hg]
theorem xA{i:Nat}{es:List (Value×D)}{key:Value}{z:Operand}{kt:TypeId}(hx:(opd env x).core=.mp i)(hm:m i=some (.map es))(hk:pX (opd env y).core=some key)(hz:(opd env z).core=v)(ht:eE P t=kt):
 Ef P (.mapUpdate t x y z) env m nx ⟨fK P t=true/\cE P kt key=true/\es.all (fun e=>cE P kt e.1)=true,.aL [],[(i,some (.map (fX key v es)))],[i],0⟩:=by
 refine⟨?_,rfl,rfl⟩;show nd P m t (opd env x).core (opd env y).core (opd env z).core=_;simp only[nd,hk,hx,hm,ht,hz]
end
theorem mZ{α:Type}{f:α->D}:∀ {l:List α} {k:Nat} {x:α},l[k]? =some x->(l.map f).drop k=f x::(l.drop (k+1)).map f
 |[],k,x,h=>by simp at h
 |a::l,0,x,h=>by simp at h;subst h;rfl
 |a::l,k+1,x,h=>by simpa using mZ (f:=f) (l:=l) (k:=k) (by simpa using h)
theorem Pc{α:Type}{f:α->List D}{sz:Nat}(hs:∀ x,(f x).length=sz):∀ {l:List α} {k:Nat} {x:α},l[k]? =some x->(l.flatMap f).drop (k*sz)=f x++(l.drop (k+1)).flatMap f
 |[],k,x,h=>by simp at h
 |a::l,0,x,h=>by simp at h;subst h;simp
 |a::l,k+1,x,h=>by
  have h1:(k+1)*sz=(f a).length+k*sz:=by rw[hs];rw[Nat.add_mul];omega
  simp only[List.flatMap_cons,h1,List.drop_append,List.drop_succ_cons];rw[List.drop_of_length_le oG];have:(f a).length+k*sz - (f a).length=k*sz:=by omega
  rw[this];simpa using Pc hs (l:=l) (k:=k) (by simpa using h)
theorem Ex{α:Type}{f:α->List D}{sz:Nat}(hs:∀ x,(f x).length=sz):∀ (l:List α),(l.flatMap f).length=l.length*sz
 |[]=>by simp
 |a::l=>by simp only[List.flatMap_cons,List.length_append,hs,Ex hs l,List.length_cons,Nat.add_mul];omega
section
variable{P:Program}{env:Env}{m:Mem}{nx:Nat}{t e:TypeId}{x y:Operand}{k:IntKind}
theorem CC{α:Type}{f:α->D}{l:List α}{i n:Nat}{z:α}(hx:(opd env x).core=.sl (l.map f) n)(hy:(opd env y).core=.s (.int k i))(he:aD P t=e)(hs:P.cellsOf e=1)(hz:l[i]? =some z):
 Ef P (.indexAddr t x y) env m nx ⟨bh P t=true/\0<=(i:Int)/\(i:Int)<n/\((i:Int).toNat+1)*1<=(l.map f).length,.pt (f z::(l.drop (i+1)).map f),[],[],0⟩:=
 KJ hx hy he hs (by rw[jZ,Nat.mul_one];exact mZ hz)
theorem R4{α:Type}{f:α->D}{l:List α}{i:Nat}{z:α}(ht:bh P t=true)(hz:l[i]? =some z):bh P t=true/\0<=(i:Int)/\(i:Int)<l.length/\((i:Int).toNat+1)*1<=(l.map f).length:=by
 have:=(bC.1 hz).1;exact⟨ht,oG,oG,by simp;omega⟩
theorem r7{α:Type}{f:α->List D}{sz:Nat}{l:List α}{i n:Nat}{z:α}(hx:(opd env x).core=.sl (l.flatMap f) n)(hy:(opd env y).core=.s (.int k i))(he:aD P t=e)(hs:P.cellsOf e=sz)(hl:∀ x,(f x).length=sz)(hz:l[i]? =some z):
 Ef P (.indexAddr t x y) env m nx ⟨bh P t=true/\0<=(i:Int)/\(i:Int)<n/\((i:Int).toNat+1)*sz<=(l.flatMap f).length,.pt (f z++(l.drop (i+1)).flatMap f),[],[],0⟩:=
 KJ hx hy he hs (by rw[jZ];exact Pc hl hz)
theorem r8{α:Type}{f:α->List D}{sz:Nat}{l:List α}{i:Nat}{z:α}(ht:bh P t=true)(hl:∀ x,(f x).length=sz)(hz:l[i]? =some z):bh P t=true/\0<=(i:Int)/\(i:Int)<l.length/\((i:Int).toNat+1)*sz<=(l.flatMap f).length:=by
 have:=(bC.1 hz).1;refine⟨ht,oG,oG,?_⟩;rw[Ex hl,jZ];exact Nat.mul_le_mul_right _ this
theorem R5{v:D}{cs:List D}(ht:aG P t=true)(hc:P.cellsOf t=1):aG P t=true/\P.cellsOf t<=(v::cs).length:=⟨ht,by rw[hc];simp⟩
theorem j6{v:D}{cs cs':List D}{off:Nat}(ht:aG P t=true)(hc:P.cellsOf t=1)(hd:cs.drop off=v::cs'):aG P t=true/\off+P.cellsOf t<=cs.length:=by
 refine⟨ht,?_⟩;have:(cs.drop off).length=cs'.length+1:=by rw[hd];rfl
 rw[List.length_drop] at this;omega
theorem j7{n:Nat}{cs:List D}(ht:aG P t=true)(hc:P.cellsOf t=n)(hl:n<=cs.length):aG P t=true/\P.cellsOf t<=cs.length:=⟨ht,by rw[hc];exact hl⟩
theorem fh{n off:Nat}{cs:List D}(ht:aG P t=true)(hc:P.cellsOf t=n)(hl:off+n<=cs.length):aG P t=true/\off+P.cellsOf t<=cs.length:=⟨ht,by rw[hc];exact hl⟩
theorem pQ{n:Nat}(hc:P.cellsOf t=n+1):0<P.cellsOf t:=by omega
theorem bX{n off:Nat}{cs vs:List D}(ht:aG P t=true)(hc:P.cellsOf t=n)(hv:vs.length=n/\off+n<=cs.length)(C:vs.all D.one=true):aG P t=true/\vs.length=P.cellsOf t/\off+P.cellsOf t<=cs.length/\vs.all D.one=true:=
 ⟨ht,by rw[hc];exact hv.1,by rw[hc];exact hv.2,C⟩
end
section
variable{P:Program}{K:D->St->Prop}{st:St}
theorem vq(h:K (.aL []) st):gV P [] K .ret st:=h
theorem vr(h:K (.aL []) st):gV P [] K .normal st:=h
theorem aI{t:Nat}{d:D}(hd:st.env t=d)(h:K d st):gV P [.tmp t] K .ret st:=⟨trivial,by subst hd;exact h⟩
theorem gl{t u:Nat}{d e:D}(hd:st.env t=d)(he:st.env u=e)(h:K (.aL [d,e]) st):gV P [.tmp t,.tmp u] K .ret st:=⟨trivial,trivial,by subst hd;subst he;exact h⟩
theorem gN{a i off n:Nat}{ty e:TypeId}{cs vs:List D}(ha:st.env a=.rp i off)(hm:st.mem i=some (.cells cs e))(hg:bm P ty=true)(hc:P.cellsOf ty=n)(hv:(cs.drop off).take n=vs)(ht:aG P ty=true)(hl:off+n<=cs.length):
 ∃ p,nC P st (.cell a ty)=some (p,.agg vs)/\p:=⟨aG P ty=true/\off+n<=cs.length,by simp only[nC,ha,hm,gE,hg,if_true,hc,hv],ht,hl⟩
theorem s9{a i off:Nat}{ty e:TypeId}{cs cs':List D}{v:D}(ha:st.env a=.rp i off)(hm:st.mem i=some (.cells cs e))(hg:bm P ty=false)(hc:P.cellsOf ty=1)(hv:cs.drop off=v::cs')(ht:aG P ty=true):
 ∃ p,nC P st (.cell a ty)=some (p,v)/\p:=by
 have hl:off+1<=cs.length:=by
  have:(cs.drop off).length=cs'.length+1:=by rw[hv];rfl
  rw[List.length_drop] at this;omega
 exact⟨aG P ty=true/\off+1<=cs.length,by simp only[nC,ha,hm,gE,hg,Bool.false_eq_true,if_false,hc,hv,List.headD_cons],ht,hl⟩
theorem r9{a:Nat}{ty:TypeId}{d:D}(hr:∃ p,nC P st (.cell a ty)=some (p,d)/\p)(h:K d st):gV P [.cell a ty] K .ret st:=by
 obtain⟨p,h1,h2⟩:=hr;simp only[gV,nD,h1];exact⟨h2,h⟩
theorem mX{a t:Nat}{ty:TypeId}{d e:D}(hr:∃ p,nC P st (.cell a ty)=some (p,d)/\p)(he:st.env t=e)(h:K (.aL [d,e]) st):gV P [.cell a ty,.tmp t] K .ret st:=by
 obtain⟨p,h1,h2⟩:=hr;simp only[gV,nD,h1];exact⟨h2,trivial,by subst he;exact h⟩
end
section
variable{P:Program}{Y:eg}{rf:Bool}{Q:Exit->St->Prop}{st:St}
theorem au{l:List (Nat×D)}{env:Env}{m:Mem}{nx:Nat}(h:kW l env):aJ P ⟨env,m,nx⟩ ⟨ay l,m,nx⟩:=.forget env _ m nx (py h)
def Ls(P:Program):List (Nat×List D×TypeId)->Mem->Prop
 |[],_=>True
 |(i,cs,e)::fs,m=>m i=some (.cells cs e)/\Ls P fs (fun j=>if j=i then none else(m j).map (Row.sub (cF i cs (P.cellsOf e))))
def Bl(P:Program):List (Nat×List D×TypeId)->D->D
 |[],d=>d
 |(i,cs,e)::fs,d=>Bl P fs (sub (cF i cs (P.cellsOf e)) d)
theorem Pe:∀ {fs:List (Nat×List D×TypeId)} {env:Env} {m:Mem} {nx:Nat},Ls P fs m->∃ m',aJ P ⟨env,m,nx⟩ ⟨fun t=>Bl P fs (env t),m',nx⟩
 |[],env,m,nx,_=>⟨m,.refl _⟩
 |(i,cs,e)::fs,env,m,nx,⟨h1,h2⟩=>by
  obtain⟨m',h⟩:=Pe (env:=fun t=>sub (cF i cs (P.cellsOf e)) (env t)) (nx:=nx) h2;exact⟨m',(aJ.freeze env m nx i cs e h1).trans h⟩
theorem dD{env:Env}{m:Mem}{nx:Nat}(fs:List (Nat×List D×TypeId))(hf:Ls P fs m){l:List (Nat×D)}(hl:kW l fun t=>Bl P fs (env t)):aJ P ⟨env,m,nx⟩ ⟨ay l,fun _=>none,nx⟩:=by
 obtain⟨m',h⟩:=Pe (env:=env) (nx:=nx) hf;exact h.trans ((aJ.forget _ _ _ _ (py hl)).trans (aJ.drop _ _ _ _ fun _=>.inr rfl))
def k6(fU id:Nat)(next:St->Prop)(Q:Exit->St->Prop):Exit->St->Prop
 | .normal,s=>next s
 | .exit i,s=>if i=fU then next s else if i=id then Q .normal s else Q (.exit i) s
 |e,s=>Q e s
def xU(P:Program){α:Type}(S:α->St)(J:α->Prop)(μ:α->Nat)(x:α)(s:St):Prop:=∃ C,aJ P s (S C)/\J C/\μ C<μ x
theorem bi{α:Type}{S:α->St}{J:α->Prop}{μ:α->Nat}{x:α}{s:St}(C:α)(hg:aJ P s (S C))(M:J C)(U:μ C<μ x):xU P S J μ x s:=⟨C,hg,M,U⟩
theorem Cm[dy Y]{b:Code}{α:Type}(S:α->St)(J:α->Prop)(μ:α->Nat)(C:α)(hg:aJ P st (S C))(X:J C)(h:∀ x,J x->AW P Y rf b (fL (xU P S J μ x) Q) (S x)){a:Code}(ha:∀ st,Q .normal st->Q .normal st):
 ∃ st',aJ P st st'/\AW P Y rf (.loop b) Q st':=
 ⟨S C,hg,abR S J μ C rfl X fun x hx=>tz b (fun e st' hq=>by
  cases e with
  |normal=>
   obtain⟨M,h1,h2,U⟩:=hq;exact⟨S M,M,h1,rfl,h2,U⟩
  |_=>exact hq) (h x hx)⟩
variable{id fU t i1 i2 i3 i4:Nat}{rc ri:Array Oper}{body rest:Code}{α:Type}
theorem JJ[dy Y]{ri:Array Oper}{next:St->Prop}{s:St}(h:AW P Y rf body (k6 fU id (fun s=>aq P Y ri false [] (eT next) ri.toList s []) Q) s):
 AW P Y rf (.seq (.block fU body) (.region i3 ri false)) (fL next (fv id Q)) s:=by
 refine tz body (fun e s h=>?_) h;have hr:∀ s,aq P Y ri false [] (eT next) ri.toList s []->∃ s',aJ P s s'/\AW P Y rf (.region i3 ri false) (fL next (fv id Q)) s':=fun s h=>⟨s,.refl s,lB (rf:=rf) (id:=i3) (aq.iD h fun _ h=>h)⟩
 cases e with
 |normal=>exact hr s h
 |exit i=>
  simp only[k6] at h;simp only[fv];split at h
  .rename_i hi;rw[if_pos hi];exact hr s h
  .rename_i hi;rw[if_neg hi];simp only[fL,fv];exact h
 |_=>exact h
theorem cy[dy Y](S:α->St)(J:α->Prop)(μ:α->Nat)(C:α)(hg:aJ P st (S C))(U:J C)
 (h:∀ x,J x->aq P Y rc false [] (eT fun s=>∃ g,opd s.env (.tmp t)=.s (.bool g)/\(g=true->AW P Y rf body (k6 fU id (fun s=>aq P Y ri false [] (eT (xU P S J μ x)) ri.toList s []) Q) s)/\(g=false->Q .normal s)) rc.toList (S x) []):
 ∃ st',aJ P st st'/\AW P Y rf (.block id (.loop (.seq (.region i1 rc false) (.seq (.cond (.tmp t) .skip (.exit id)) (.seq (.block fU body) (.region i3 ri false)))))) Q st':=by
 refine Cm (Q:=fv id Q) S J μ C hg U (fun x hx=>?_) (a:=.skip) fun _ h=>h;refine lB (rf:=rf) (id:=i1) (aq.iD (h x hx) fun s hs=>?_);obtain⟨g,h1,h2,M⟩:=hs;refine⟨s,.refl s,cQ h1 (fun X=>?_) fun yW=>?_⟩
 .exact cx (JJ (h2 X))
 .refine ta ?_;simp only[fL,fv,if_true];exact M yW
theorem k7[dy Y](S:α->St)(J:α->Prop)(μ:α->Nat)(C:α)(hg:aJ P st (S C))(U:J C)
 (h:∀ x,J x->aq P Y rc false [] (eT fun s=>∃ g,opd s.env (.tmp t)=.s (.bool g)/\(g=true->AW P Y rf body (k6 fU id (fun s=>aq P Y ri false [] (eT (xU P S J μ x)) ri.toList s []) Q) s)/\(g=false->Q .normal s)) rc.toList (S x) []):
 ∃ st',aJ P st st'/\AW P Y rf (.block id (.loop (.seq (.seq (.region i1 rc false) (.cond (.tmp t) .skip (.exit id))) (.seq (.block fU body) (.region i3 ri false))))) Q st':=by
 refine Cm (Q:=fv id Q) S J μ C hg U (fun x hx=>?_) (a:=.skip) fun _ h=>h;refine aF (lB (rf:=rf) (id:=i1) (aq.iD (h x hx) fun s hs=>?_));obtain⟨g,h1,h2,M⟩:=hs;refine⟨s,.refl s,cQ h1 (fun X=>?_) fun yW=>?_⟩
 .exact cx (JJ (h2 X))
 .refine ta ?_;simp only[fL,fv,if_true];exact M yW
theorem P'[dy Y]{next:St->Prop}{s:St}(h:AW P Y rf body (k6 fU id next Q) s):AW P Y rf (.block fU body) (fL next (fv id Q)) s:=by
 refine tz body (fun e s h=>?_) h;cases e with
 |exit i=>
  simp only[k6] at h;simp only[fv];split at h
  .rename_i hi;rw[if_pos hi];exact h
  .rename_i hi;rw[if_neg hi];simp only[fL,fv];exact h
 |_=>exact h
theorem abS[dy Y](S:α->St)(J:α->Prop)(μ:α->Nat)(C:α)(hg:aJ P st (S C))(U:J C)
 (h:∀ x,J x->aq P Y rc false [] (eT fun s=>∃ g,opd s.env (.tmp t)=.s (.bool g)/\(g=true->AW P Y rf body (k6 fU id (xU P S J μ x) Q) s)/\(g=false->Q .normal s)) rc.toList (S x) []):
 ∃ st',aJ P st st'/\AW P Y rf (.block id (.loop (.seq (.seq (.region i1 rc false) (.cond (.tmp t) .skip (.exit id))) (.block fU body)))) Q st':=by
 refine Cm (Q:=fv id Q) S J μ C hg U (fun x hx=>?_) (a:=.skip) fun _ h=>h;refine aF (lB (rf:=rf) (id:=i1) (aq.iD (h x hx) fun s hs=>?_));obtain⟨g,h1,h2,M⟩:=hs;refine⟨s,.refl s,cQ h1 (fun X=>?_) fun yW=>?_⟩
 .exact cx (P' (h2 X))
 .refine ta ?_;simp only[fL,fv,if_true];exact M yW
theorem cT{s:St}(h:Q .normal s):AW P Y rf .skip Q s:=h
theorem bH{s:St}(h:Q .ret s):AW P Y rf .ret Q s:=h
theorem cm{next:St->Prop}{s:St}(h:Q .ret s):k6 fU id next Q .ret s:=h
theorem bE{K:St->Prop}{s:St}(h:Q .ret s):fL K Q .ret s:=h
theorem eB{s:St}(h:Q .ret s):fv id Q .ret s:=h
theorem Fu{s:St}(h:Q .ret s):CA Q .ret s:=h
theorem Gg{next:St->Prop}{s:St}(h:next s):k6 fU id next Q (.exit fU) s:=by simp only[k6,if_true];exact h
theorem abT{next:St->Prop}{s:St}(C:id≠fU)(h:Q .normal s):k6 fU id next Q (.exit id) s:=by simp only[k6,if_neg C,if_true];exact h
theorem ad3{i:Nat}{next:St->Prop}{s:St}(h2:i≠fU)(h1:i≠id)(h:Q (.exit i) s):k6 fU id next Q (.exit i) s:=by simp only[k6,if_neg h2,if_neg h1];exact h
theorem wZ[dy Y]{a:Code}(h:AW P Y rf a (fv id (fL (fun st=>AW P Y rf rest Q st) Q)) st):AW P Y rf (.seq (.block id a) rest) Q st:=SP (fun st=>AW P Y rf rest Q st) (pz h) fun _ h=>h
theorem vt{s:St}(h:AW P Y rf rest Q s):AW P Y rf .skip (fv id (fL (fun st=>AW P Y rf rest Q st) Q)) s:=h
theorem xB[dy Y]{a:Code}(h:AW P Y rf a (fL (fun st=>AW P Y rf rest Q st) Q) st):AW P Y rf (.seq a rest) Q st:=SP _ h fun _ h=>h
theorem sd[dy Y]{r:Array Oper}{i:Nat}{J:St->Prop}(h:aq P Y r false [] (eT J) r.toList st []):AW P Y rf (.region i r false) (fL J Q) st:=lB (rf:=rf) (id:=i) (aq.iD h fun _ h=>h)
theorem n2[dy Y]{r:Array Oper}{i:Nat}{J:St->Prop}(h:aq P Y r false [] (eT J) r.toList st []):AW P Y rf (.region i r false) (fv id (fL J Q)) st:=lB (rf:=rf) (id:=i) (aq.iD h fun _ h=>h)
theorem cI{J:St->Prop}(h:J st):AW P Y rf .skip (fL J Q) st:=h
theorem Ji{J:St->Prop}(h:J st):AW P Y rf .skip (fv id (fL J Q)) st:=h
theorem cn[dy Y]{a:Code}(R:St->Prop)(h:∃ st',aJ P st st'/\AW P Y rf a (fL R Q) st')(k:∀ s,R s->∃ s',aJ P s s'/\AW P Y rf rest Q s'):∃ st',aJ P st st'/\AW P Y rf (.seq a rest) Q st':=by
 obtain⟨st',hg,h⟩:=h;exact⟨st',hg,iz R h k⟩
end
def Real(d:D):Prop:=∃ F β w v,R F β w d v
theorem Real.sl{es:List D}{n:Nat}(h:Real (.sl es n)):n<=maxLen/\∀ d∈es,Real d:=by
 obtain⟨F,β,w,v,h⟩:=h;cases h with
 |gf=>simp[maxLen]
 |sl _ _ b o cap us hf hb af oh de hc hh=>
  refine⟨Nat.le_trans oh de,fun d hd=>?_⟩;obtain⟨k,hk⟩:=dw hd;exact⟨F,β,w,_,hh k d hk⟩
theorem Real.agg{cs:List D}(h:Real (.agg cs)):∀ d∈cs,Real d:=by
 obtain⟨F,β,w,v,h⟩:=h;obtain⟨vs,rfl,hl,hh⟩:=h.rP;intro d hd;obtain⟨k,hk⟩:=dw hd;have:k<vs.length:=by rw[hl];exact(bC.1 hk).1
 exact⟨F,β,w,_,hh k d vs[k] hk (by simp[this])⟩
theorem Rb{F:Nat->Prop}{β:aC}{w:World}{args:List D}{vs:Array Value}(h:Rs F β w args vs):∀ a∈args,Real a:=fun a ha=>by
 obtain⟨k,hk⟩:=dw ha;have:k<vs.size:=by rw[h.1];exact(bC.1 hk).1
 exact⟨F,β,w,vs[k],h.2 k a _ hk (by simp[this])⟩
theorem mq{P:Program}{f:FuncId}{args:List D}{r:D}(he:nZ P f=true)(ht:∀ a∈args,Tr a)(h:(∀ a∈args,Real a)->aB P f args r):aB P f args r:=
 ⟨he,ht,fun F w vs J C=>(h (Rb C)).2.2 F w vs J C⟩
theorem XH{P:Program}{f:FuncId}{args es:List D}{n:Nat}{t:TypeId}(he:nZ P f=true)(ht:∀ a∈args,Tr a)(h:(∀ a∈args,Real a)->ko P f args es n t):ko P f args es n t:=
 ⟨he,ht,fun F w vs J C=>(h (Rb C)).2.2 F w vs J C⟩
section
variable{P:Program}{m:Mem}{rds:List Nat}
theorem cH{a:D}(h:Tr a):Sn P rds m a a:=fun _ _ _ _ _ hv=>h.Aw hv
theorem Az{i off n:Nat}{cs es:List D}{e:TypeId}(hm:m i=some (.cells cs e))(hi:i∈rds)(J:(cs.drop off).take (n*P.cellsOf e)=es)(ht:∀ a∈es,Tr a):Sn P rds m (.rs i off n) (.sl es n):=fun F β w v hl hv=>by
 subst J;obtain⟨p,hp,hr,M⟩:=hl i hi _ hm;cases hv with
 |kF _ _ _ _ h1 _=>rw[h1] at hp;cases hp;cases hr
 |iH _ a h1=>
  rw[h1] at hp;cases hp;cases hr;simp only[List.drop_nil,List.take_nil];exact .gf a 0
 |jF _ _ a b o len room sz h1=>
  simp only[Nat.zero_mul,List.take_zero];exact .gf a 0
 |rs _ _ _ cap b o len room sz h1 hn de h2 h3=>
  rw[h1] at hp;cases hp
  have af:b<w.heap.size:=by
   cases hr with
   |cells _ _ _ _ _ _ c hb _ _ _ _=>exact(Array.getElem?_eq_some_iff.1 hb).1
  obtain⟨C,hl,bA,_⟩:=hr.rd;obtain⟨us,U,X⟩:=(C.drop off).take (n*P.cellsOf e);exact .sl _ n b (o+off) cap us (M b rfl) (fun k q hq=>by cases hq) af hn de U fun k d hk=>(ht d (bu hk)).Aw (X k d hk)
variable{Y:eg}{rf:Bool}{ops:Array Oper}{dr:Bool}{cf:List (Nat×Nat)}{Q:Exit->St->Prop}{rest:List Oper}{env:Env}{nx:Nat}{tr:jJ}{t:Nat}{op:Op}{ty:TypeId}{pos:String}{after:Array Edge}
 {pre:Prop} {v:D} {rd:List Nat}
theorem Kl{j:Nat}{b:Bool}{u:Nat}{row:Row}(hj:(ops[j]?).bind (·.dst)=some u)(hg:jQ (env u) b=some true)(he:Ef P op env m nx ⟨pre,v,[(nx,some row)],rd,1⟩)(ha:fM env op.operands.toList)(hp:pre)
 (K:aq P Y ops dr cf Q rest ⟨up env t v,up m nx (some row),nx+1⟩ (tr++[(rd,[nx])])):aq P Y ops dr cf Q (⟨some t,op,ty,pos,after,some (j,b)⟩::rest) ⟨env,m,nx⟩ tr:=
 ad' hj hg he ha hp (fun h=>by cases h) K
theorem se{j:Nat}{b:Bool}{u:Nat}{f:FuncId}{args C:List D}{r:D}{rds:List Nat}(h:aB P f C r)(hs:r.gp=true)(hj:(ops[j]?).bind (·.dst)=some u)(hg:jQ (env u) b=some true)(hc:dF (a6 env op) op=some (f,args))(J:jj P rds m args C)(ha:fM env op.operands.toList)
 (K:aq P Y ops dr cf Q rest ⟨up env t r,m,nx⟩ (tr++[(rds,[])])):aq P Y ops dr cf Q (⟨some t,op,ty,pos,after,some (j,b)⟩::rest) ⟨env,m,nx⟩ tr:=
 aaA hj hg hc ha (.inr (.inl ⟨C,rds,r,J,h,hs,K⟩))
end
section
variable{P:Program}{Y:eg}{rf:Bool}{ops:Array Oper}{dr:Bool}{cf:List (Nat×Nat)}{Q:Exit->St->Prop}{rest:List Oper}{env:Env}{m:Mem}{nx:Nat}{tr:jJ}{t:Nat}{ty:TypeId}{pos:String}{after:Array Edge}
theorem B0{j:Nat}{b0 C:Bool}{u:Nat}(hj:(ops[j]?).bind (·.dst)=some u)(hg:jQ (env u) b0=some C){c a b:Operand}{x:Bool}(hc:(opd env c).core=.s (.bool true))(ha:(opd env a).core=.s (.bool x))
 (h0:C=true->(opd env c).ask) (h1:C=true->(opd env a).ask) (K:aq P Y ops dr cf Q rest ⟨up env t (.cq C (.s (.bool x))),m,nx⟩ (tr++[([],[])])):
 aq P Y ops dr cf Q (⟨some t,.pick c a b,ty,pos,after,some (j,b0)⟩::rest) ⟨env,m,nx⟩ tr:=by
 have he:=zW (P:=P) (env:=env) (m:=m) (nx:=nx) (a:=a) (b:=b) hc;simp only[ha,D.eX,Option.getD_some,if_true] at he;simp only[aq];refine .inl ?_;simp only[iK];rw[hj];simp only[Option.bind_some];rw[hg,he.nc,he.ny,he.ok];exact⟨fun hc=>⟨by simp only[asks];exact h0 hc,fun _=>⟨h1 hc,rfl⟩,fun h=>by cases h⟩,K⟩
theorem EP{j:Nat}{b0 C:Bool}{u:Nat}(hj:(ops[j]?).bind (·.dst)=some u)(hg:jQ (env u) b0=some C){c a b:Operand}{y:Bool}(hc:(opd env c).core=.s (.bool false))(hb:(opd env b).core=.s (.bool y))
 (h0:C=true->(opd env c).ask) (h1:C=true->(opd env b).ask) (K:aq P Y ops dr cf Q rest ⟨up env t (.cq C (.s (.bool y))),m,nx⟩ (tr++[([],[])])):
 aq P Y ops dr cf Q (⟨some t,.pick c a b,ty,pos,after,some (j,b0)⟩::rest) ⟨env,m,nx⟩ tr:=by
 have he:=zW (P:=P) (env:=env) (m:=m) (nx:=nx) (a:=a) (b:=b) hc;simp only[hb,D.eX,Option.getD_some,Bool.false_eq_true,if_false] at he;simp only[aq];refine .inl ?_;simp only[iK];rw[hj];simp only[Option.bind_some];rw[hg,he.nc,he.ny,he.ok];exact⟨fun hc=>⟨by simp only[asks];exact h0 hc,fun h=>oH,fun _=>⟨h1 hc,rfl⟩⟩,K⟩
variable{id:Nat}{st:St}
theorem Qh[dy Y]{i:Nat}{J:St->Prop}(hi:bT ops=some cf)(h:aq P Y ops true cf (eT J) ops.toList st []):AW P Y rf (.region i ops true) (fv id (fL J Q)) st:=Ah (rf:=rf) (id:=i) hi (aq.iD h fun _ h=>h)
theorem ab3[dy Y]{i:Nat}{J:St->Prop}(hi:bT ops=some cf)(h:aq P Y ops true cf (eT J) ops.toList st []):AW P Y rf (.region i ops true) (fL J Q) st:=Ah (rf:=rf) (id:=i) hi (aq.iD h fun _ h=>h)
theorem aaB{r:Option Row}{i:Nat}(h:m i=r):∀ j,up (fun _=>none) i r j=m j\/up (fun _=>none) i r j=none:=fun j=>by
 by_cases hj:j=i
 .subst hj;left;rw[ah,h]
 .right;rw[aA _ _ hj]
theorem Co[dy Y]{i fU:Nat}{next:St->Prop}(hi:bT ops=some cf)(h:aq P Y ops true cf (eT next) ops.toList st []):AW P Y rf (.region i ops true) (k6 fU id next Q) st:=Ah (rf:=rf) (id:=i) hi (aq.iD h fun _ h=>h)
theorem fF[dy Y]{i fU:Nat}{next:St->Prop}(h:aq P Y ops false [] (eT next) ops.toList st []):AW P Y rf (.region i ops false) (k6 fU id next Q) st:=lB (rf:=rf) (id:=i) (aq.iD h fun _ h=>h)
def br:List (Nat×Row)->Mem
 |[],_=>none
 |(i,r)::l,j=>if j=i then some r else br l j
def CI:List (Nat×Row)->Mem->Prop
 |[],_=>True
 |(i,r)::l,m=>m i=some r/\CI l m
theorem JO:∀ {l:List (Nat×Row)} {m:Mem},CI l m->∀ i,br l i=m i\/br l i=none
 |[],_,_,_=>.inr rfl
 |(k,r)::l,m,h,i=>by
  simp only[br];by_cases hi:i=k
  .subst hi;rw[if_pos rfl];exact .inl h.1.symm
  .rw[if_neg hi];exact JO h.2 i
theorem bZ{l:List (Nat×D)}{ml:List (Nat×Row)}{m:Mem}{nx:Nat}(h:kW l env)(hm:CI ml m):aJ P ⟨env,m,nx⟩ ⟨ay l,br ml,nx⟩:=(aJ.forget env _ m nx (py h)).trans (.drop _ _ _ _ (JO hm))
end
theorem ag{α:Type}{f:Nat->α}{k j:Nat}{v r:α}(h:j≠k)(hf:f j=r):up f k v j=r:=(aA f v h).trans hf
theorem amL{β:Sort _}{M m:Mem}{i:Nat}{r:Option Row}(h:M=m)(x:β)(k:β->m i=r:=by intro x;repeat (first|exact x|exact rfl|exact ah _ _ _|refine ag (by omega) ?_)):M i=r:=h ▸ k x
theorem amM{β:Sort _}{p:Prop}(x:β)(k:β->p:=by intro x;dsimp only;repeat (first|exact x|exact ah _ _ _|refine ag (by omega) ?_)):p:=k x
theorem lU{i off sz:Nat}{cs:List D}:sub (cF i cs sz) (.rp i off)=.pt (cs.drop off):=by simp[sub,pb,cF]
theorem AF{i off n sz:Nat}{cs:List D}:sub (cF i cs sz) (.rs i off n)=.sl ((cs.drop off).take (n*sz)) n:=by simp[sub,pb,cF]
theorem gk{i j off sz:Nat}{cs:List D}(h:j≠i):sub (cF i cs sz) (.rp j off)=.rp j off:=by simp[sub,pb,cF,h]
theorem zR{i j off n sz:Nat}{cs:List D}(h:j≠i):sub (cF i cs sz) (.rs j off n)=.rs j off n:=by simp[sub,pb,cF,h]
theorem B2{α:Type}{f:α->List D}{sz:Nat}(hs:∀ x,(f x).length=sz):∀ (l:List α) (k:Nat),(l.flatMap f).take (k*sz)=(l.take k).flatMap f
 |[],k=>by simp
 |x::l,0=>by simp
 |x::l,k+1=>by
  rw[List.flatMap_cons,List.take_succ_cons,List.flatMap_cons, <- B2 hs l k,show(k+1)*sz=(f x).length+k*sz by rw[hs x,Nat.add_mul];omega,List.take_length_add_append]
theorem acB{α:Type}{f:α->List D}{sz k:Nat}{l:List α}(hs:∀ x,(f x).length=sz)(hk:k<=l.length):
 D.sl (((l.flatMap f).drop ((0:Int).toNat*sz)).take (((k:Int) - 0).toNat*sz)) ((k:Int) - 0).toNat=D.sl ((l.take k).flatMap f) (l.take k).length:=by
 have h1:((k:Int) - 0).toNat=k:=by omega
 have h2:(0:Int).toNat*sz=0:=by simp
 rw[h1,h2,List.drop_zero,B2 hs,List.length_take,Nat.min_eq_left hk]
section
variable{P:Program}{env:Env}{m:Mem}{nx:Nat}{x y z:Operand}{t:TypeId}{v:D}
theorem aaG{i:Nat}{es:List (Value×D)}{key:Value}{kt:TypeId}(hx:(opd env x).core=.mp i)(hm:m i=some (.map es))(hk:pX (opd env y).core=some key)(hz:(opd env z).core=v)(ht:eE P t=kt):
 Ef P (.insert t x y z) env m nx ⟨fK P t=true/\cE P kt key=true/\es.all (fun e=>cE P kt e.1)=true,.aL [],[(i,some (.map (fX key v es)))],[i],0⟩:=by
 refine⟨?_,rfl,rfl⟩;show nd P m t (opd env x).core (opd env y).core (opd env z).core=_;simp only[nd,hk,hx,hm,ht,hz]
variable{n n':Int}{k:IntKind}{c:Bool}{p:TypeId}{n0:Nat}
theorem Sd(hx:(opd env x).core=.s (.int k n))(hy:(opd env y).core=.s (.int k n'))(hd:decide (n'<n)=c):Ef P (.binOp .gtr t x y p) env m nx ⟨k=k,.s (.bool c),[],[],0⟩:=by subst hd;exact KG hx hy
theorem adi(hx:(opd env x).core=.s (.int k n))(hy:(opd env y).core=.s (.int k n'))(hd:decide (n<=n')=c):Ef P (.binOp .leq t x y p) env m nx ⟨k=k,.s (.bool c),[],[],0⟩:=by subst hd;exact KF hx hy
theorem Ai(hx:(opd env x).core=.s (.int k n))(hy:(opd env y).core=.s (.int k n'))(hd:(n==n')=c):Ef P (.binOp .eql t x y p) env m nx ⟨k=k,.s (.bool c),[],[],0⟩:=by subst hd;exact GG hx hy
theorem Sc(hx:(opd env x).core=.s (.int k n))(hy:(opd env y).core=.s (.int k n'))(hd:(n !=n')=c):Ef P (.binOp .neq t x y p) env m nx ⟨k=k,.s (.bool c),[],[],0⟩:=by subst hd;exact KH hx hy
theorem Sf(hx:(opd env x).core=.s (.int k n))(hy:(opd env y).core=.s (.int k n')){r:Int}(hd:k.wrap (n.tdiv n')=r):Ef P (.binOp .quo t x y p) env m nx ⟨k=k/\n'≠0,.s (.int k r),[],[],0⟩:=by subst hd;exact acZ hx hy
theorem Sg(hx:(opd env x).core=.s (.int k n))(hy:(opd env y).core=.s (.int k n')){r:Int}(hd:n.tmod n'=r):Ef P (.binOp .rem t x y p) env m nx ⟨k=k/\n'≠0,.s (.int k r),[],[],0⟩:=by subst hd;exact adU hx hy
theorem Aj(hx:(opd env x).core=.s (.int k n))(hy:(opd env y).core=.s (.int k n'))(hd:decide (n'<=n)=c):Ef P (.binOp .geq t x y p) env m nx ⟨k=k,.s (.bool c),[],[],0⟩:=by subst hd;exact CX hx hy
theorem ab4{j i l:Nat}{e:TypeId}{r:Row}(hx:(opd env x).core=.rp j 0)(hy:(opd env y).core=.s (.int k (i:Int)))(hm:m j=some r)(he:aD P t=e)(hs:P.cellsOf e=1)(hl:oi P t=l):
 Ef P (.indexAddr t x y) env m nx ⟨nM P t=true/\i<l,.rp j i,[],[j],0⟩:=by
 have h:=ac1 (P:=P) (env:=env) (m:=m) (nx:=nx) (t:=t) hx hy hm he hs hl;have h1:0+((i:Int)).toNat*1=i:=by simp
 have h2:(nM P t=true/\(0:Int)<=(i:Int)/\(i:Int)<l)=(nM P t=true/\i<l):=by
  apply propext;constructor
  .rintro⟨a,_,b⟩;exact⟨a,oG⟩
  .rintro⟨a,b⟩;exact⟨a,oG,oG⟩
 rw[h1,h2] at h;exact h
theorem nr{l:List D}{n:Nat}(h:l.length=n):(l.drop 0).take n=l:=by rw[List.drop_zero,dt oG]
theorem Sw{l:List D}{n:Nat}(h:l.length=n):l.take n=l:=dt oG
theorem JQ{z l:List D}(hz:z.length=20)(hl:l.length=20):gB z 0 l=l:=by
 unfold gB;split
 .simp at hl
 .rw[List.take_zero,List.nil_append,List.drop_eq_nil_of_le oG,List.append_nil]
theorem Gj{es:List D}(hx:(opd env x).core=.sl es 0):Ef P (.binOp .eql t x (.const (.slice none 0 0)) p) env m nx ⟨bh P t=true,.ub,[],[],0⟩:=⟨by simp only[bf,a6,hx,mH,if_true],rfl,rfl⟩
theorem Gk{es:List D}{l:Nat}(hx:(opd env x).core=.sl es l)(hl:l≠0):Ef P (.binOp .eql t x (.const (.slice none 0 0)) p) env m nx ⟨bh P t=true,.s (.bool false),[],[],0⟩:=⟨by simp only[bf,a6,hx,mH,if_neg hl],rfl,rfl⟩
theorem vO{i off n sz:Nat}{cs es:List D}{e:TypeId}(hs:P.cellsOf e=sz)(h:(cs.drop off).take (n*sz)=es):Bl P [(i,cs,e)] (.rs i off n)=.sl es n:=by subst hs h;exact AF
theorem w9(h:env n0=.z):aJ P ⟨env,m,nx⟩ ⟨ay [(n0,.sl [] 0)],fun _=>none,nx+1⟩:=by
 have h1:=aJ.r4 (P:=P) env m nx n0 0 h;have h2:=dD (P:=P) (env:=up env n0 (.rs nx 0 0)) (m:=up m nx (some (.cells [] 0))) (nx:=nx+1) [(nx,[],0)] ⟨ah _ _ _,trivial⟩ (l:=[(n0,.sl [] 0)]) ⟨(congrArg _ (ah _ _ _)).trans (vO (sz:=P.cellsOf 0) rfl oS),trivial⟩;exact h1.trans h2
theorem mO{rds:List Nat}:Sn P rds m .z (.sl [] 0):=fun F β w v _ hv=>by
 obtain⟨x,rfl⟩:=hv.tQ;exact .gf x 0
theorem adH{rds:List Nat}{aS bs:List D}(h:jj P rds m aS bs):Sn P rds m (.agg aS) (.agg bs):=fun F β w v hl hv=>by
 obtain⟨vs,rfl,hn,hh⟩:=hv.rP;obtain⟨h1,h2⟩:=CQ hl h;refine .agg _ vs oG fun k d u hd hu=>?_;have hk:k<aS.length:=by rw[h1];exact(bC.1 hd).1
 exact h2 k aS[k] d (by simp[hk]) hd u (hh k aS[k] u (by simp[hk]) hu)
theorem QF{l:List (Nat×D)}{m':Mem}(h:kW l env)(hm:∀ i,m' i=m i\/m' i=none):aJ P ⟨env,m,nx⟩ ⟨ay l,m',nx⟩:=(aJ.forget env _ m nx (py h)).trans (.drop _ _ _ _ hm)
def Mb:List (Nat×List (Value×D))->Mem->Prop
 |[],_=>True
 |(i,es)::fs,m=>m i=some (.map es)/\Mb fs (fun j=>if j=i then none else(m j).map (Row.sub (yE i es)))
def NN:List (Nat×List (Value×D))->D->D
 |[],d=>d
 |(i,es)::fs,d=>NN fs (sub (yE i es) d)
theorem PC:∀ {fs:List (Nat×List (Value×D))} {env:Env} {m:Mem} {nx:Nat},Mb fs m->∃ m',aJ P ⟨env,m,nx⟩ ⟨fun t=>NN fs (env t),m',nx⟩
 |[],env,m,nx,_=>⟨m,.refl _⟩
 |(i,es)::fs,env,m,nx,⟨h1,h2⟩=>by
  obtain⟨m',h⟩:=PC (env:=fun t=>sub (yE i es) (env t)) (nx:=nx) h2;exact⟨m',(aJ.Ch env m nx i es h1).trans h⟩
theorem abq(fs:List (Nat×List (Value×D)))(hf:Mb fs m){l:List (Nat×D)}(hl:kW l fun t=>NN fs (env t)):aJ P ⟨env,m,nx⟩ ⟨ay l,fun _=>none,nx⟩:=by
 obtain⟨m',h⟩:=PC (P:=P) (env:=env) (nx:=nx) hf;exact h.trans ((aJ.forget _ _ _ _ (py hl)).trans (aJ.drop _ _ _ _ fun _=>.inr rfl))
end
end Go.Abs
namespace Go.Argus
open Go.Abs
abbrev I(n:Int):D:=.s (.int .i64 n)
abbrev U8(n:Int):D:=.s (.int .u8 n)
abbrev B(b:Bool):D:=.s (.bool b)
abbrev S(s:ByteArray):D:=.s (.string s)
abbrev aP(l:List Int):D:=.sl (l.map I) l.length
abbrev iy(l:List Int):D:=.sl (l.map U8) l.length
abbrev bU(l:List ByteArray):D:=.sl (l.map S) l.length
structure cU where
 op:Int
 to:Int
 a:Int
 b:Int
 n:Int
 args:List Int
structure iE where
 name:ByteArray
 to:Int
structure End where
 kind:Int
 a:Int
 b:Int
 to:Int
 gL:Int
 name:ByteArray
 ins:cU
 args:List Int
 aR:List iE
 others:Int
structure bI where
 ins:List cU
 fin:End
structure ap where
 name:ByteArray
 iter:Bool
 args:Int
 result:Int
 aU:List Int
 cg:List Int
 signals:List ByteArray
 blocks:List bI
def ct(x:cU):List D:=[U8 x.op,I x.to,I x.a,I x.b,I x.n,aP x.args]
def gP(w:iE):List D:=[S w.name,I w.to]
def lC(l:List iE):D:=.sl (l.flatMap gP) l.length
def lH(l:List cU):D:=.sl (l.flatMap ct) l.length
def bD(x:End):List D:=[U8 x.kind,I x.a,I x.b,I x.to,I x.gL,S x.name,U8 x.ins.op,I x.ins.to,I x.ins.a,I x.ins.b,I x.ins.n,aP x.ins.args,aP x.args,lC x.aR,I x.others]
def bS(b:bI):List D:=lH b.ins::bD b.fin
def cG(l:List bI):D:=.sl (l.flatMap bS) l.length
def aX(f:ap):List D:=[S f.name,B f.iter,I f.args,U8 f.result,iy f.aU,iy f.cg,bU f.signals,cG f.blocks]
def aY(p q:D)(f:ap):List D:=[S f.name,B f.iter,I f.args,U8 f.result,iy f.aU,iy f.cg,bU f.signals,cG f.blocks,p,q]
@[simp] theorem al6 (p q : D) (x : ap) : (aY p q x).length = 10 := rfl
@[simp] theorem al' (x : cU) : (ct x).length = 6 := rfl
@[simp] theorem al7 (x : iE) : (gP x).length = 2 := rfl
@[simp] theorem ama (x : End) : (bD x).length = 15 := rfl
@[simp] theorem al3 (x : bI) : (bS x).length = 16 := rfl
@[simp] theorem al8 (x : ap) : (aX x).length = 8 := rfl
theorem Pj(x:cU):(ct x).length=6:=rfl
theorem IT(x:iE):(gP x).length=2:=rfl
theorem uV(x:bI):(bS x).length=16:=rfl
theorem uW(x:ap):(aX x).length=8:=rfl
def mI{α:Type}(p:α->Bool)(l:List α):Int:=match l.findIdx? p with
 |some i=>i
 |none=> -1
theorem td{α:Type}{p:α->Bool}{l:List α}{k:Nat}{x:α}(hx:l[k]? =some x)(hp:p x=true)(h:∀ j y,j<k->l[j]? =some y->p y=false):mI p l=k:=by
 have:l.findIdx? p=some k:=by
  rw[List.findIdx?_eq_some_iff_getElem];obtain⟨hk,he⟩:=bC.1 hx;refine⟨hk,by rw[he];exact hp,fun j hj=>?_⟩;have:=h j l[j] hj (by simp[show j<l.length by omega]);simp[this]
 simp[mI,this]
theorem w8{α:Type}{p:α->Bool}{l:List α}(h:∀ (j:Nat) y,l[j]? =some y->p y=false):mI p l= -1:=by
 have:l.findIdx? p=none:=by
  rw[List.findIdx?_eq_none_iff];intro x hx;obtain⟨j,hj⟩:=dw hx;exact h j x hj
 simp[mI,this]
theorem zP{α:Type}(p:α->Bool)(l:List α):decide (0<=mI p l)=l.any p:=by
 unfold mI;cases h:l.findIdx? p with
 |none=>
  rw[List.findIdx?_eq_none_iff] at h;have:l.any p=false:=List.any_eq_false.2 fun x hx=>by simp[h x hx]
  simp[this]
 |some i=>
  obtain⟨hi,hp,_⟩:=List.findIdx?_eq_some_iff_getElem.1 h;have:l.any p=true:=List.any_eq_true.2 ⟨l[i],oS,hp⟩;simp[this]
theorem dn(l:List Int):Tr (aP l):=.sl (.map fun _=>.s _)
theorem oV(l:List Int):Tr (iy l):=.sl (.map fun _=>.s _)
theorem iV(l:List ByteArray):Tr (bU l):=.sl (.map fun _=>.s _)
theorem xi(x:cU):∀ a∈ct x,Tr a:=.cons (.s _) (.cons (.s _) (.cons (.s _) (.cons (.s _) (.cons (.s _) (.cons (dn _) .nil)))))
theorem Ff(x:iE):∀ a∈gP x,Tr a:=.cons (.s _) (.cons (.s _) .nil)
theorem iU(l:List iE):Tr (lC l):=.sl (.flat Ff)
theorem acC(l:List cU):Tr (lH l):=.sl (.flat xi)
theorem qJ(x:End):∀ a∈bD x,Tr a:=.cons (.s _) (.cons (.s _) (.cons (.s _) (.cons (.s _) (.cons (.s _) (.cons (.s _) (.cons (.s _) (.cons (.s _) (.cons (.s _) (.cons (.s _) (.cons (.s _) (.cons (dn _) (.cons (dn _) (.cons (iU _) (.cons (.s _) .nil))))))))))))))
theorem Pv(x:bI):∀ a∈bS x,Tr a:=.cons (acC _) (qJ _)
theorem PE(l:List bI):Tr (cG l):=.sl (.flat Pv)
theorem na(x:ap):∀ a∈aX x,Tr a:=.cons (.s _) (.cons (.s _) (.cons (.s _) (.cons (.s _) (.cons (oV _) (.cons (oV _) (.cons (iV _) (.cons (PE _) .nil)))))))
theorem Cd{p q:D}(hp:Tr p)(hq:Tr q)(x:ap):∀ a∈aY p q x,Tr a:=.cons (.s _) (.cons (.s _) (.cons (.s _) (.cons (.s _) (.cons (oV _) (.cons (oV _) (.cons (iV _) (.cons (PE _) (.cons hp (.cons hq .nil)))))))))
theorem j9{p q:D}(hp:Tr p)(hq:Tr q)(x:ap):Tr (.agg (aY p q x)):=.agg (Cd hp hq x)
theorem rL{p q:D}{f:ap}(h1:p.one=true)(h2:q.one=true):(aY p q f).all D.one=true:=by
 simp only[aY,List.all_cons,List.all_nil,h1,h2];rfl
abbrev cL(n:Int):D:=.s (.int .u64 n)
abbrev gq(w:List Int):D:=.agg (w.map cL)
theorem nF(w:List Int):(w.map cL).all D.one=true:=bQ.2 fun x hx=>by obtain⟨y,_,rfl⟩:=List.mem_map.1 hx;rfl
theorem aaF{w:List Int}{i:Nat}{x:Int}:((w.map cL).set i (cL x)).all D.one=true:=by rw[<- List.map_set];exact nF _
theorem p6(w:List Int):Tr (gq w):=.agg (.map fun _=>.s _)
def wm(a b:Int):Int:=lA .and .u64 a b
def NB(a b:Int):Int:=lA .or .u64 a b
def C0(w:List Int)(m:Nat):List Int:=w.set (m / 64) (NB (w.getD (m / 64) 0) (IntKind.u64.wrap (1*2 ^ (min (m % 64) 64))))
def p0(w:List Int)(m:Nat):Bool:=wm ((w.getD (m / 64) 0).fdiv (2 ^ (min (m % 64) 64))) 1==1
def qV(w:List Int)(n:Int):List Int:=if 0<=n then C0 w n.toNat else w
def gS(w v:List Int):Nat->List Int
 |0=>w
 |k+1=>(gS w v k).set k (wm ((gS w v k).getD k 0) (v.getD k 0))
def mC(w v:List Int):List Int:=gS w v 20
@[simp] theorem PF (w v : List Int) : ∀ k, (gS w v k).length = w.length
 |0=>rfl
 |k+1=>by simp[gS,PF w v k]
@[simp] theorem amd (w : List Int) (m : Nat) : (C0 w m).length = w.length := by simp [C0]
@[simp] theorem ame (w : List Int) (n : Int) : (qV w n).length = w.length := by unfold qV; split <;> simp
@[simp] theorem Px (w v : List Int) : (mC w v).length = w.length := PF w v 20
theorem wrap_i64{n:Nat}(h:n<2 ^ 62):IntKind.i64.wrap (n:Int)=n:=by
 unfold IntKind.wrap;simp[IntKind.signed,IntKind.bits];omega
theorem S8{m:Nat}(h:m<2 ^ 62):IntKind.i64.wrap ((m:Int).tdiv 64)=((m / 64:Nat):Int):=by
 rw[show(m:Int).tdiv 64=((m / 64:Nat):Int) from by rw[Int.tdiv_eq_ediv_of_nonneg oG];omega];exact wrap_i64 oG
theorem S9(m:Nat):(m:Int).tmod 64=((m % 64:Nat):Int):=by rw[Int.tmod_eq_emod_of_nonneg oG];omega
theorem ib(a b:Int):(a==b)=decide (a=b):=rfl
def jo(n a b:Int):Bool:=decide (a<=n)&&decide (n<=b)
def E'(b:Int):Bool:=decide (b<33)||decide (126<b)
def n6(s:ByteArray):Bool:=jo s.size 1 120&& !(qE s).any E'
def Fa(b:Int):Bool:=(decide (b<97)||decide (122<b))&&(decide (b<48)||decide (57<b))
def isName(s:ByteArray):Bool:=jo s.size 1 12&& !(qE s).any Fa
def Cc(C k:Int):Bool:=decide (k<1)||decide (C<k)
def tC(l:List Int)(C:Int):Bool:= !l.any (Cc C)
def dv(l:List Int)(r:Int):Int:=if 0<=r then l.getD r.toNat 0 else 0
theorem Jt{l:List Int}{i:Nat}{x:Int}(h:l[i]? =some x):dv l i=x:=by
 simp[dv,dC,h]
theorem Pz{l:List Int}{r:Int}(h:¬ (0<=r/\r<l.length)):dv l r=0:=by
 unfold dv;split
 .rename_i h0;have:l.length<=r.toNat:=by omega
  simp[dC,List.getElem?_eq_none this]
 .rfl
theorem kQ{n a b:Int}:jo n a b=true↔a<=n/\n<=b:=by simp[jo]
theorem ZP{n a b:Int}:jo n a b=false↔¬ (a<=n/\n<=b):=by
 rw[<- Bool.not_eq_true,kQ]
def n7(l:List Int)(r:Int):Bool:=dv l r==1||dv l r==2
def qL(l rs:List Int):Bool:=rs.all (n7 l)
def yg(l cg:List Int)(r n:Int):Bool:=jo n 0 (cg.length - 1)&&(dv l r==dv cg n)
def o2(l:List Int)(r want of:Int):Bool:=
 if want=0 then r==0 else if want=1 then dv l r==1 else if want=2 then dv l r==2 else if want=3 then n7 l r
 else dv l r !=0&&dv l r==of
structure Shape where
 to:Int
 a:Int
 b:Int
 args:Int
 low:Int
 high:Int
def jt(s:Shape):List D:=[I s.to,I s.a,I s.b,I s.args,I s.low,I s.high]
@[simp] theorem al4 (x : Shape) : (jt x).length = 6 := rfl
theorem PB(x:Shape):∀ a∈jt x,Tr a:=.cons (.s _) (.cons (.s _) (.cons (.s _) (.cons (.s _) (.cons (.s _) (.cons (.s _) .nil)))))
def zU(l:List Int)(x:cU)(s:Shape):Int:=if s.to=0\/s.to=1 then dv l x.a else dv l x.to
def wY(l:List Int)(x:cU)(s:Shape):Bool:=if s.args=5 then jo x.args.length 1 6&&qL l x.args else if s.args=6 then decide ((x.args.length:Int)=1)&&qL l x.args else decide ((x.args.length:Int)=0)
def vi(l:List Int)(x:cU)(s:Shape):Bool:=
 o2 l x.to s.to 0&&(o2 l x.a s.a (zU l x s)&&(o2 l x.b s.b (zU l x s)&&(wY l x s&&jo x.n s.low s.high)))
def qd(l:List (Int×Shape)):List (Value×D):=l.map fun x=>(.int .u8 x.1,.agg (jt x.2))
def z7:Shape:=⟨0,0,0,0,0,0⟩
def ju(l:List (Int×Shape))(op:Int):Option Shape:=(l.find? fun x=>x.1==op).map (·.2)
def n8:List (Int×Shape):=[(1,⟨1,0,0,0, -1000000000,1000000000⟩),(2,⟨3,4,0,0,0,0⟩),(3,⟨1,1,1,0,0,0⟩),(4,⟨1,1,1,0,0,0⟩),(5,⟨1,3,4,0,0,0⟩),(6,⟨1,1,1,0,0,0⟩),(7,⟨1,1,1,0,0,0⟩),(8,⟨1,1,0,0,0,0⟩),
 (9,⟨2,0,0,0,0,1⟩),(10,⟨2,0,0,5,0,5⟩),(11,⟨3,2,0,0,0,5⟩),(12,⟨0,2,3,0,0,5⟩),(13,⟨1,2,0,0,0,0⟩),(14,⟨1,2,0,0,0,0⟩),(15,⟨0,1,0,0,0,0⟩)]
def nk:List (Int×Shape):=[(30,⟨1,1,1,0,0,0⟩),(31,⟨1,1,1,0,0,0⟩),(32,⟨1,1,1,0,0,0⟩),(33,⟨1,1,1,0,0,0⟩),(34,⟨1,1,1,0,0,0⟩),(35,⟨0,2,3,0,0,0⟩),(36,⟨3,2,0,0,0,0⟩),(37,⟨3,2,1,0,0,0⟩),(38,⟨0,2,1,6,0,0⟩)]
theorem AK(l:List (Int×Shape)):Tr (.im (qd l)):=.im fun x hx=>by
 obtain⟨y,_,rfl⟩:=List.mem_map.1 hx;exact .agg (PB _)
theorem RK(op:Int):∀ l:List (Int×Shape),(cM (.int .u8 op) (qd l)).map (·.2)=(ju l op).map fun s=>.agg (jt s)
 |[]=>rfl
 |(o,s)::l=>by
  have ih:=RK op l;unfold qd at ih ⊢;simp only[List.map_cons,cM,kH,pW,ju,List.find?_cons] at ih ⊢;by_cases h:o=op
  .subst h;simp
  .have hb:(o==op)=false:=by simpa using h
   simp only[hb,beq_self_eq_true,Bool.and_false,Bool.false_eq_true,if_false,Option.map_map] at ih ⊢;exact ih
theorem Sy{P:Program}{t:TypeId}{C:D}(hz:lQ P (lb P t)=C)(op:Int)(l:List (Int×Shape))(J:C=.agg (jt z7)):fy P t true (cM (.int .u8 op) (qd l))=.aL [.agg (jt ((ju l op).getD z7)),.s (.bool (ju l op).isSome)]:=by
 have h:=RK op l;cases h1:cM (.int .u8 op) (qd l) with
 |none=>
  rw[h1] at h;have:ju l op=none:=by simpa using h.symm
  simp only[fy,this,hz,J,Option.getD_none,Option.isSome_none,if_true]
 |some x=>
  rw[h1] at h;cases h2:ju l op with
  |none=>rw[h2] at h;simp at h
  |some s=>
   rw[h2] at h;obtain⟨i,d⟩:=x;simp only[Option.map_some,aH] at h;subst h;simp[fy]
theorem RJ{P:Program}{kt:TypeId}(hk:P.underlying kt=some (.int .u8))(l:List (Int×Shape)):(qd l).all (fun e=>cE P kt e.1)=true:=by
 refine bQ.2 fun x hx=>?_;obtain⟨y,_,rfl⟩:=List.mem_map.1 hx;simp[cE,hk]
def dm(a b:Int):Bool:=decide (a=b)
def tO(x:cU):Bool:=decide ((x.args.length:Int)=0)
def kY(f:ap)(b:Int)(x:cU)(phis:Bool)(ahead:Int):Bool:=
 if x.op=16 then dm x.to 0&&(dm (dv f.aU x.a) 3&&(dm x.b 0&&(dm x.n 0&&tO x)))
 else if x.op=17 then dm x.a 0&&(dm x.b 0&&(tO x&&yg f.aU f.cg x.to x.n))
 else if x.op=18 then dm x.to 0&&(dm x.b 0&&(tO x&&yg f.aU f.cg x.a x.n))
 else if x.op=19 then phis&&(decide (0<b)&&(n7 f.aU x.to&&(dm x.a 0&&(dm x.b 0&&(dm x.n 0&&(dm x.args.length ahead&& !x.args.any fun r=> !dm (dv f.aU r) (dv f.aU x.to)))))))
 else(ju n8 x.op).isSome&&vi f.aU x ((ju n8 x.op).getD z7)
def Gn(x:cU):Bool:=decide (x.op=0)&&(decide (x.to=0)&&(decide (x.a=0)&&(decide (x.b=0)&&(decide (x.n=0)&&decide ((x.args.length:Int)=0)))))
def vP(x:End):Bool:=decide (x.kind=0)&&(decide (x.a=0)&&(decide (x.b=0)&&(decide (x.to=0)&&(decide (x.gL=0)&&(x.name.toList==[]&&(decide (x.others= -1)&&(decide ((x.args.length:Int)=0)&&(decide ((x.aR.length:Int)=0)&&Gn x.ins))))))))
def ek(f:ap)(n:Int):Bool:=jo n 0 (f.blocks.length - 1)
def qY(f:ap)(wsq:List iE)(i:Nat)(w:iE):Bool:=isName w.name&&(ek f w.to&& !(wsq.take i).any fun v=>v.name.toList==w.name.toList)
def Gp(f:ap)(wsq:List iE):Bool:=wsq.zipIdx.all fun x=>qY f wsq x.2 x.1
theorem Xq{f:ap}{wsq:List iE}(h:∀ (i:Nat) w,wsq[i]? =some w->qY f wsq i w=true):Gp f wsq=true:=by
 refine bQ.2 fun x hx=>?_;obtain⟨h1,h2⟩:=List.mem_zipIdx' hx;exact h x.2 x.1 (by rw[h2];simp[h1])
theorem WQ{f:ap}{wsq:List iE}{i:Nat}{w:iE}(C:wsq[i]? =some w)(h:qY f wsq i w=false):Gp f wsq=false:=by
 refine Bool.eq_false_iff.2 fun ht=>?_;have hx:(w,i)∈wsq.zipIdx:=List.mem_zipIdx_iff_getElem?.2 C;have:=bQ.1 ht _ hx;rw[h] at this;cases this
def nY(f:ap)(x:End):Bool:=Gp f x.aR&&(decide ((x.aR.length:Int)<=7)&&(decide (x.others= -1)||ek f x.others))
def xF:cU:=⟨0,0,0,0,0,[]⟩
def eL(f:ap)(x:End):Bool×End:=
 let r:End:={ x with kind:=0 }
 if x.kind=1 then(ek f x.to,{ r with to:=0 })
 else if x.kind=2 then(dm (dv f.aU x.a) 1&&(ek f x.to&&ek f x.gL),{ r with a:=0,to:=0,gL:=0 })
 else if x.kind=3 then(if f.result≠0/\f.iter=false then dm (dv f.aU x.a) f.result else dm x.a (-1),{ r with a:=0 })
 else if x.kind=4 then(isName x.name,{ r with name:=.empty })
 else if x.kind=5 then((ju nk x.ins.op).isSome&&(vi f.aU x.ins ((ju nk x.ins.op).getD z7)&&(ek f x.to&&nY f x)),{ r with ins:=xF,to:=0,aR:=[],others:= -1 })
 else if x.kind=6 then(n6 x.name&&(decide ((x.args.length:Int)<=6)&&(qL f.aU x.args&&((dm x.a (-1)||n7 f.aU x.a)&&(ek f x.to&&nY f x)))),{ r with name:=.empty,args:=[],a:=0,to:=0,aR:=[],others:= -1 })
 else if x.kind=7 then(n6 x.name&&(decide ((x.args.length:Int)<=6)&&(qL f.aU x.args&&(dm (dv f.aU x.a) 3&&ek f x.to))),{ r with name:=.empty,args:=[],a:=0,to:=0 })
 else if x.kind=8 then(dm (dv f.aU x.a) 3&&(n7 f.aU x.b&&(ek f x.to&&(ek f x.gL&&nY f x))),{ r with a:=0,b:=0,to:=0,gL:=0,aR:=[],others:= -1 })
 else if x.kind=9 then(f.iter&&(dm (dv f.aU x.a) f.result&&ek f x.to),{ r with a:=0,to:=0 })
 else(false,r)
def bO(l:List Int)(n:Int):Bool:=l.any fun c=>n==c
def mY(n:Int):Int:=1200+n
def tv:List Int:=[1,2,3,4,5,6,7,8,9,10,11,13,14,17,19]
def xe:List Int:=[30,31,32,33,34,36,37]
def j8(x:cU):Int:=if bO tv x.op then x.to else if bO xe x.op then x.to else -1
def jN(x:End):Int:=if x.kind=5 then j8 x.ins else if bO [6,7] x.kind then x.a else if x.kind=8 then x.b else -1
def tF:List Int:=[2,8,11,13,14,15,16,18,36]
def xq:List Int:=[3,4,5,6,7,12,30,31,32,33,34,35,37]
def ed(x:cU):List Int:=if bO tF x.op then [x.a] else if bO xq x.op then [x.a,x.b] else if x.op=10 then x.args else if x.op=38 then x.a::x.b::x.args else []
def dT(x:End):List Int:=if bO [2,8,9] x.kind then [x.a] else if x.kind=3 then(if x.a≠ -1 then [x.a] else []) else if x.kind=5 then ed x.ins else if bO [6,7] x.kind then x.args else []
def jb(f:ap)(x:End):Bool:=(eL f x).1&&vP (eL f x).2
end Go.Argus
namespace Go.Argus
section
variable{κ:Type}[DecidableEq κ]
def lE:List κ->List κ->List κ
 |acc,[]=>acc
 |acc,k::ks=>lE (if k∈acc then acc else acc++[k]) ks
def aV(ks:List κ):List κ:=lE [] ks
def aT(ks:List κ):List Nat:=ks.map fun k=>(aV ks).idxOf k
theorem NS(acc a b:List κ):lE acc (a++b)=lE (lE acc a) b:=by
 induction a generalizing acc with
 |nil=>rfl
 |cons k a ih=>simp only[List.cons_append,lE,ih]
theorem Pk(ks:List κ)(k:κ):aV (ks++[k])=if k∈aV ks then aV ks else aV ks++[k]:=by
 unfold aV;rw[NS];rfl
theorem Ws{acc ks:List κ}(h:acc.Nodup):(lE acc ks).Nodup:=by
 induction ks generalizing acc with
 |nil=>exact h
 |cons k ks ih=>
  simp only[lE];refine ih ?_;split
  .exact h
  .rename_i hk;exact List.nodup_append.2 ⟨h,oS,fun a ha b hb=>by simp at hb;subst hb;exact fun e=>hk (e▸ha)⟩
theorem WV{acc ks:List κ}{x:κ}:x∈lE acc ks↔x∈acc\/x∈ks:=by
 induction ks generalizing acc with
 |nil=>simp[lE]
 |cons k ks ih=>
  simp only[lE,ih,List.mem_cons];by_cases h:k∈acc
  .simp only[if_pos h];constructor
   .rintro(h|h)<;>simp[h]
   .rintro(h1|rfl|h1)
    .exact .inl h1
    .exact .inl h
    .exact .inr h1
  .simp only[if_neg h,List.mem_append,List.mem_cons,List.not_mem_nil,or_false,or_assoc]
theorem zE(ks:List κ):(aV ks).Nodup:=Ws oS
theorem lD{ks:List κ}{x:κ}:x∈aV ks↔x∈ks:=by unfold aV;rw[WV];simp
theorem Wm(acc ks:List κ):acc<+:lE acc ks:=by
 induction ks generalizing acc with
 |nil=>exact List.prefix_refl _
 |cons k ks ih=>
  simp only[lE];refine List.IsPrefix.trans ?_ (ih _);split
  .exact List.prefix_refl _
  .exact List.prefix_append _ _
theorem EB(a b:List κ):aV a<+:aV (a++b):=by unfold aV;rw[NS];exact Wm _ _
theorem IC{a b:List κ}(h:a<+:b){x:κ}(hx:x∈a):b.idxOf x=a.idxOf x:=by
 obtain⟨c,rfl⟩:=h;rw[List.idxOf_append,if_pos hx]
@[simp] theorem B9 (ks : List κ) : (aT ks).length = ks.length := by simp [aT]
theorem tA(ks:List κ):(aV ks).length<=ks.length:=List.Nodup.length_le_of_subset (zE ks) fun x hx=>lD.1 hx
theorem zS{ks:List κ}{i:Nat}{k:κ}(h:ks[i]? =some k):(aT ks)[i]? =some ((aV ks).idxOf k):=by simp[aT,h]
theorem Cq{ks:List κ}{i n:Nat}(h:(aT ks)[i]? =some n):n<(aV ks).length:=by
 unfold aT at h;rw[List.getElem?_map] at h;obtain⟨k,hk,rfl⟩:=cO.1 h;exact List.idxOf_lt_length_of_mem (lD.2 (bu hk))
theorem RU{l:List κ}{x y:κ}(hx:x∈l)(h:l.idxOf x=l.idxOf y):x=y:=by
 have h1:=List.idxOf_lt_length_of_mem hx;have e1:l[l.idxOf x]=x:=List.getElem_idxOf h1;have h2:l.idxOf y<l.length:=h▸h1;have e2:l[l.idxOf y]=y:=List.getElem_idxOf h2;rw[<- e1, <- e2];congr 1
theorem B'{ks:List κ}{i j:Nat}{a b:κ}(hi:ks[i]? =some a)(hj:ks[j]? =some b):(aT ks)[i]? =(aT ks)[j]? ↔a=b:=by
 rw[zS hi,zS hj];constructor
 .intro h;exact RU (lD.2 (bu hi)) (by simpa using h)
 .rintro rfl;rfl
end
theorem Ih{α:Type}[DecidableEq α]:∀ {l m:List α},m.Nodup->(∀ x∈m,x∈l)->l.length<=m.length->l.Nodup
 |[],_,_,_,_=>List.nodup_nil
 |a::l,m,hm,hc,hl=>by
  have h1:a∉l:=fun ha=>by
   have:=List.Nodup.length_le_of_subset hm (l₂:=l) fun x hx=>by
    rcases List.mem_cons.1 (hc x hx) with rfl|h
    .exact ha
    .exact h
   simp at hl;omega
  refine List.nodup_cons.2 ⟨h1,?_⟩;by_cases ha:a∈m
  .refine Ih (m:=m.erase a) (hm.erase a) (fun x hx=>?_) ?_
   .have C:x≠a:=by rintro rfl;exact(List.Nodup.mem_erase_iff hm).1 hx |>.1 rfl
    rcases List.mem_cons.1 (hc x (List.mem_of_mem_erase hx)) with rfl|h
    .exact absurd rfl C
    .exact h
   .rw[List.length_erase_of_mem ha];simp at hl;omega
  .refine Ih (m:=m) hm (fun x hx=>?_) (by simp at hl;omega);rcases List.mem_cons.1 (hc x hx) with rfl|h
   .exact absurd hx ha
   .exact h
section
variable{κ ι:Type}[DecidableEq κ][DecidableEq ι]
theorem PN{a:List κ}{b:List ι}{g:ι->κ}(h:a=b.map g):(aV a).length<=(aV b).length:=by
 have:=List.Nodup.length_le_of_subset (zE a) (l₂:=(aV b).map g) fun x hx=>by
  rw[lD,h] at hx;obtain⟨y,hy,rfl⟩:=List.mem_map.1 hx;exact List.mem_map_of_mem (lD.2 hy)
 simpa using this
theorem Z3{a:List κ}{b:List ι}{g:ι->κ}(h:a=b.map g)(hl:(aV b).length<=(aV a).length){x y:ι}(hx:x∈b)(hy:y∈b)(e:g x=g y):x=y:=by
 have hn:((aV b).map g).Nodup:=Ih (zE a) (fun z hz=>by
  rw[lD,h] at hz;obtain⟨w,C,rfl⟩:=List.mem_map.1 hz
  exact List.mem_map_of_mem (lD.2 C)) (by simpa using hl)
 obtain⟨i,hi⟩:=dw (lD.2 hx);obtain⟨j,hj⟩:=dw (lD.2 hy);have h1:((aV b).map g)[i]? =some (g x):=by simp[hi]
 have h2:((aV b).map g)[j]? =some (g y):=by simp[hj]
 have af:i<((aV b).map g).length:=(bC.1 h1).1
 have J:i=j:=by
  rw[<- e] at h2;exact(List.getElem?_inj af hn).1 (h1.trans h2.symm)
 subst J;rw[hi] at hj;exact Option.some.inj hj
theorem xc(ks:List κ):(aV (aT ks)).length=(aV ks).length:=by
 refine Nat.le_antisymm (PN (g:=fun k=>(aV ks).idxOf k) rfl) ?_
 have hn:((aV ks).map fun k=>(aV ks).idxOf k).Nodup:=by
  refine List.pairwise_map.2 ((zE ks).imp_of_mem fun {a b} ha hb C e=>C (RU ha e))
 have:=List.Nodup.length_le_of_subset hn (l₂:=aV (aT ks)) fun x hx=>by
  obtain⟨k,hk,rfl⟩:=List.mem_map.1 hx;rw[lD];exact List.mem_map_of_mem (f:=fun k=>(aV ks).idxOf k) (lD.1 hk)
 simpa using this
end
def lV(ca:List (List Nat))(clq:List Nat)(i:Nat):List Nat:=clq.getD i 0::(ca.getD i []).map fun t=>clq.getD t 0
def eS(ca:List (List Nat))(clq:List Nat):List (List Nat):=(range ca.length).map (lV ca clq)
def xk(ca:List (List Nat)):Nat->List Nat->Nat->List Nat
 |0,clq,_=>clq
 |eh+1,clq,many=>if(aV (eS ca clq)).length=many then aT (eS ca clq) else xk ca eh (aT (eS ca clq)) (aV (eS ca clq)).length
def lP(sn:List Nat)(ca:List (List Nat)):List Nat:=xk ca (sn.length+1) sn (aV sn).length
@[simp] theorem amb (ca : List (List Nat)) (clq : List Nat) : (eS ca clq).length = ca.length := by simp [eS]
theorem zD{ca:List (List Nat)}{clq:List Nat}{i:Nat}(h:i<ca.length):(eS ca clq)[i]? =some (lV ca clq i):=by simp[eS,h]
theorem PQ{ca:List (List Nat)}{clq:List Nat}(h:clq.length=ca.length):clq=(eS ca clq).map fun k=>k.headD 0:=by
 refine List.ext_getElem? fun i=>?_;by_cases hi:i<clq.length
 .rw[List.getElem?_map,zD oG];simp[lV,dC,hi]
 .rw[List.getElem?_eq_none oG,List.getElem?_eq_none oP]
theorem Pn{ca:List (List Nat)}{clq:List Nat}(h:clq.length=ca.length):(aV clq).length<=(aV (eS ca clq)).length:=PN (PQ h)
theorem Oq{ca:List (List Nat)}{p:List Nat->Prop}(hs:∀ clq,clq.length=ca.length->p clq->p (aT (eS ca clq))):∀ (eh:Nat) (clq:List Nat) (many:Nat),clq.length=ca.length->many=(aV clq).length->ca.length<eh+many->p clq->
 ∃ C,C.length=ca.length/\p C/\(aV (eS ca C)).length=(aV C).length/\xk ca eh clq many=aT (eS ca C)
 |0,clq,many,h1,h2,h3,h4=>by
  have:=tA clq;omega
 |eh+1,clq,many,h1,h2,h3,h4=>by
  unfold xk;split
  .rename_i h;exact⟨clq,h1,h4,oG,rfl⟩
  .rename_i h;have:=Pn h1;exact Oq hs eh _ _ oS (xc _).symm oG (hs clq h1 h4)
theorem EI{sn:List Nat}{ca:List (List Nat)}{p:List Nat->Prop}(hl:sn.length=ca.length)(h0:p sn)(hs:∀ clq,clq.length=ca.length->p clq->p (aT (eS ca clq))):
 ∃ C,C.length=ca.length/\p C/\(aV (eS ca C)).length=(aV C).length/\lP sn ca=aT (eS ca C):=
 Oq hs _ _ _ hl rfl oG h0
theorem ng{α:Type}{l:List α}{i:Nat}{d x:α}(h:l[i]? =some x):l.getD i d=x:=by simp[dC,h]
theorem dZ{α:Type}{l:List α}{i:Nat}{d:α}(h:i<l.length):l[i]? =some (l.getD i d):=by simp[dC,h]
theorem Cf{ca:List (List Nat)}{clq:List Nat}{i j:Nat}(hi:i<ca.length)(hj:j<ca.length):(aT (eS ca clq)).getD i 0=(aT (eS ca clq)).getD j 0↔lV ca clq i=lV ca clq j:=by
 rw[<- B' (zD (clq:=clq) hi) (zD (clq:=clq) hj),dZ (d:=0) oP,dZ (d:=0) (l:=aT _) (i:=j) oP];simp
def uk(ca:List (List Nat)):Prop:=∀ (i:Nat) t,t∈ca.getD i []->t<ca.length
structure qQ(sn:List Nat)(ca:List (List Nat))(d:Nat->Nat):Prop where
 sh:∀ i j,i<ca.length->j<ca.length->d i=d j->sn.getD i 0=sn.getD j 0
 ca:∀ i j,i<ca.length->j<ca.length->d i=d j->(ca.getD i []).map d=(ca.getD j []).map d
theorem J5{d e:Nat->Nat}{n:Nat}(h:∀ i j,i<n->j<n->d i=d j->e i=e j):∀ {a b:List Nat},(∀ t∈a,t<n)->(∀ t∈b,t<n)->a.map d=b.map d->a.map e=b.map e
 |[],[],_,_,_=>rfl
 |[],_::_,_,_,e=>by simp at e
 |_::_,[],_,_,e=>by simp at e
 |x::a,y::b,ha,hb,e=>by
  simp only[List.map_cons,List.cons.injEq] at e ⊢;exact⟨h x y (ha x oS) (hb y oS) e.1,J5 h (fun t ht=>ha t (List.mem_cons_of_mem _ ht)) (fun t ht=>hb t (List.mem_cons_of_mem _ ht)) e.2⟩
theorem WW{sn:List Nat}{ca:List (List Nat)}(hl:sn.length=ca.length)(J:uk ca):qQ sn ca fun i=>(lP sn ca).getD i 0:=by
 obtain⟨clq,h1,h2,M,C⟩:=EI (p:=fun clq=>∀ i j,i<ca.length->j<ca.length->clq.getD i 0=clq.getD j 0->sn.getD i 0=sn.getD j 0) hl (fun i j _ _ h=>h) fun clq U hp i j hi hj h=>by
  rw[Cf hi hj] at h;exact hp i j hi hj (by simpa[lV] using(List.cons.inj h).1)
 have hk:∀ i j,i<ca.length->j<ca.length->clq.getD i 0=clq.getD j 0->lV ca clq i=lV ca clq j:=fun i j hi hj h=>
  Z3 (PQ h1) (Nat.le_of_eq M) (bu (zD hi)) (bu (zD hj)) (by simpa[lV] using h)
 refine⟨fun i j hi hj h=>?_,fun i j hi hj h=>?_⟩
 .rw[C,Cf hi hj] at h;exact h2 i j hi hj (List.cons.inj h).1
 .rw[C,Cf hi hj] at h;rw[C];exact J5 (d:=fun t=>clq.getD t 0) (n:=ca.length) (fun a b ha hb e=>(Cf ha hb).2 (hk a b ha hb e)) (J i) (J j) (List.cons.inj h).2
theorem WX{sn:List Nat}{ca:List (List Nat)}(hl:sn.length=ca.length)(C:uk ca){d:Nat->Nat}(hd:qQ sn ca d){i j:Nat}(hi:i<ca.length)(hj:j<ca.length)(h:d i=d j):(lP sn ca).getD i 0=(lP sn ca).getD j 0:=by
 have J:∀ clq:List Nat,clq.length=ca.length->(∀ i j,i<ca.length->j<ca.length->d i=d j->clq.getD i 0=clq.getD j 0)->∀ i j,i<ca.length->j<ca.length->d i=d j->(aT (eS ca clq)).getD i 0=(aT (eS ca clq)).getD j 0:=fun clq _ hp i j hi hj h=>by
  rw[Cf hi hj];unfold lV;rw[hp i j hi hj h,J5 hp (C i) (C j) (hd.ca i j hi hj h)]
 obtain⟨clq,h1,h2,U,M⟩:=EI (p:=fun clq=>∀ i j,i<ca.length->j<ca.length->d i=d j->clq.getD i 0=clq.getD j 0) hl hd.sh J;rw[M];exact J clq h1 h2 i j hi hj h
theorem Ya{sn:List Nat}{ca:List (List Nat)}(hl:sn.length=ca.length):(lP sn ca).length=ca.length:=by
 obtain⟨clq,h1,h2,J,C⟩:=EI (p:=fun _=>True) hl trivial fun _ _ _=>trivial;rw[C];simp
theorem ER{sn:List Nat}{ca:List (List Nat)}(hl:sn.length=ca.length):∃ ks:List (List Nat),ks.length=ca.length/\lP sn ca=aT ks:=by
 obtain⟨clq,h1,h2,J,C⟩:=EI (p:=fun _=>True) hl trivial fun _ _ _=>trivial;exact⟨_,oS,C⟩
def B4(clq:List Nat)(m:Nat):List (List Nat):=(range m).map fun k=>(range clq.length).filter fun i=>clq.getD i 0==k
theorem Zk{κ:Type}[DecidableEq κ](ks:List κ)(i:Nat):(aT ks).take i=aT (ks.take i):=by
 unfold aT;rw[<- List.map_take];refine List.map_congr_left fun k hk=>?_
 have hp:aV (ks.take i)<+:aV ks:=by
  have:=EB (ks.take i) (ks.drop i)
  rwa[List.take_append_drop] at this
 exact IC hp (lD.2 hk)
def entries(c:List (List Int)):List (Int×Nat):=c.zipIdx.flatMap fun x=>x.1.map fun i=>(i,x.2)
def iG(es:List (Int×Nat))(i:Int):Bool:=es.any fun e=>e.1==i
def dR(es:List (Int×Nat))(i:Int):Nat:=match es.find? fun e=>e.1==i with
 |some e=>e.2
 |none=>0
def rh(N:Nat)(c:List (List Int))(n:Nat)(x:List Int)(k:Nat):Bool:=match x[k]? with
 |none=>true
 |some i=> !(iG (entries (c.take n)++(x.take k).map fun j=>(j,n)) i)&&(decide (0<=i)&&(decide (i<N)&&(decide (k=0)||decide (x.getD (k - 1) 0<i))))
def s8(c:List (List Int))(n:Nat):Int:=if n=0 then -1 else(c.getD (n - 1) []).headD 0
def Ak(c:List (List Int))(n:Nat)(x:List Int):Bool:=match x with
 |[]=>false
 |a::_=>decide (s8 c n<a)
def mD(N:Nat)(c:List (List Int))(n:Nat):Bool:=match c[n]? with
 |none=>true
 |some x=>Ak c n x&&(range x.length).all (rh N c n x)
def vL(sn:List Nat)(ca:List (List Nat))(es:List (Int×Nat))(a i:Int):Bool:=
 sn.getD i.toNat 0==sn.getD a.toNat 0&&decide ((ca.getD i.toNat []).map (fun(t:Nat)=>dR es t)=(ca.getD a.toNat []).map fun(t:Nat)=>dR es t)
def qK(sn:List Nat)(ca:List (List Nat))(es:List (Int×Nat))(x:List Int):Bool:=(x.drop 1).all (vL sn ca es (x.headD 0))
def lx(sn:List Nat)(ca:List (List Nat))(c:List (List Int)):Bool:=
 (range c.length).all (mD ca.length c)&&(decide ((entries c).length=ca.length)&&c.all (qK sn ca (entries c)))
theorem NR{c:List (List Int)}{n:Nat}{x:List Int}(h:c[n]? =some x):entries (c.take (n+1))=entries (c.take n)++x.map fun i=>(i,n):=by
 have hn:n<c.length:=(bC.1 h).1;unfold entries;rw[List.take_add_one,h,List.zipIdx_append,List.flatMap_append];simp[List.length_take,Nat.min_eq_left (Nat.le_of_lt hn)]
theorem uT{c:List (List Int)}{i:Int}{n:Nat}:(i,n)∈entries c↔∃ x,c[n]? =some x/\i∈x:=by
 unfold entries;simp only[List.mem_flatMap,List.mem_map,bP];constructor
 .rintro⟨⟨x,m⟩,hx,j,hj,rfl,rfl⟩;exact⟨x,List.mem_zipIdx_iff_getElem?.1 hx,hj⟩
 .rintro⟨x,hx,hi⟩;exact⟨(x,n),List.mem_zipIdx_iff_getElem?.2 hx,i,hi,rfl,rfl⟩
theorem Jx{es:List (Int×Nat)}{i:Int}:iG es i=true↔∃ n,(i,n)∈es:=by
 unfold iG;rw[List.any_eq_true];constructor
 .rintro⟨⟨j,n⟩,h,e⟩;simp at e;subst e;exact⟨n,h⟩
 .rintro⟨n,h⟩;exact⟨_,h,oS⟩
theorem PR{es:List (Int×Nat)}{i:Int}:iG es i=true↔i∈es.map (·.1):=by
 rw[Jx,List.mem_map];constructor
 .rintro⟨n,h⟩;exact⟨_,h,rfl⟩
 .rintro⟨⟨j,n⟩,h,rfl⟩;exact⟨n,h⟩
theorem Fi{es:List (Int×Nat)}(hn:(es.map (·.1)).Nodup){i:Int}{n:Nat}(h:(i,n)∈es):dR es i=n:=by
 unfold dR;cases hf:es.find? fun e=>e.1==i with
 |none=>
  rw[List.find?_eq_none] at hf;exact absurd (hf _ h) oS
 |some e=>
  have h1:=List.find?_some hf;have h2:=List.mem_of_find?_eq_some hf;simp at h1;obtain⟨a,ha⟩:=dw h;obtain⟨b,hb⟩:=dw h2;have e1:(es.map (·.1))[a]? =some i:=by simp[ha]
  have e2:(es.map (·.1))[b]? =some i:=by simp[hb,h1]
  have C:a=b:=(List.getElem?_inj (bC.1 e1).1 hn).1 (e1.trans e2.symm);subst C;rw[ha] at hb;cases hb;rfl
structure SE(N:Nat)(c:List (List Int)):Prop where
 nodup:((entries c).map (·.1)).Nodup
 BG:∀ e∈entries c,0<=e.1/\e.1<N
 ne:∀ x∈c,x≠[]
theorem EG{N:Nat}{c:List (List Int)}(h:(range c.length).all (mD N c)=true):∀ n,n<=c.length->((entries (c.take n)).map (·.1)).Nodup/\∀ e∈entries (c.take n),0<=e.1/\e.1<N
 |0,_=>⟨by simp[entries],by simp[entries]⟩
 |n+1,hn=>by
  obtain⟨h1,h2⟩:=EG h n oG;obtain⟨x,hx⟩:∃ x,c[n]? =some x:=⟨_,a7 oG⟩
  have hr:=bQ.1 h n (List.mem_range.2 oG);unfold mD at hr;rw[hx] at hr;simp only[bc] at hr
  have hk:∀ k,k<=x.length->((entries (c.take n)++(x.take k).map fun i=>(i,n)).map (·.1)).Nodup/\∀ e∈entries (c.take n)++(x.take k).map fun i=>(i,n),0<=e.1/\e.1<N:=by
   intro k
   induction k with
   |zero=>intro _;simpa using⟨h1,fun a b h=>h2 (a,b) h⟩
   |succ k ih=>
    intro hk;obtain⟨C,J⟩:=ih oG;obtain⟨i,hi⟩:∃ i,x[k]? =some i:=⟨_,a7 oG⟩
    have he:=bQ.1 hr.2 k (List.mem_range.2 oG);unfold rh at he;rw[hi] at he;simp only[bc,Bool.not_eq_true',decide_eq_true_eq] at he;obtain⟨e1,e2,e3,_⟩:=he;rw[List.take_add_one,hi];simp only[Option.toList_some,List.map_append,List.map_cons,List.map_nil, <- List.append_assoc];refine⟨?_,fun e he=>?_⟩
    .rw[<- List.map_append];refine List.nodup_append.2 ⟨C,oS,fun a ha b hb=>?_⟩;simp only[List.mem_cons,List.not_mem_nil,or_false] at hb;subst hb;rintro rfl;rw[<- PR,e1] at ha;cases ha
    .rw[List.mem_append] at he;rcases he with he|he
     .exact J e he
     .simp only[List.mem_cons,List.not_mem_nil,or_false] at he;subst he;exact⟨e2,e3⟩
  have:=hk x.length (bd _);rw[List.take_length] at this
  rwa[NR hx]
theorem QS{sn:List Nat}{ca:List (List Nat)}{c:List (List Int)}(h:lx sn ca c=true):SE ca.length c/\(entries c).length=ca.length/\∀ x∈c,qK sn ca (entries c) x=true:=by
 unfold lx at h;simp only[bc,decide_eq_true_eq] at h;obtain⟨h1,h2,C⟩:=h;have:=EG h1 c.length (bd _);rw[List.take_length] at this;refine⟨⟨this.1,this.2,fun x hx e=>?_⟩,h2,fun x hx=>bQ.1 C x hx⟩;obtain⟨n,hn⟩:=dw hx;have hr:=bQ.1 h1 n (List.mem_range.2 (bC.1 hn).1);unfold mD at hr;rw[hn,e] at hr;simp[Ak] at hr
theorem Yt{N:Nat}{c:List (List Int)}(h:SE N c)(hl:(entries c).length=N){i:Nat}(hi:i<N):∃ n,((i:Int),n)∈entries c:=by
 rw[<- Jx,PR];refine Classical.byContradiction fun hn=>?_
 have:((entries c).map fun e=>e.1.toNat).Nodup:=by
  refine List.pairwise_map.2 ((List.pairwise_map.1 h.nodup).imp_of_mem fun {a b} ha hb C e=>C ?_);have:=h.BG a ha;have:=h.BG b hb;omega
 have h2:(i::(entries c).map fun e=>e.1.toNat).Nodup:=by
  refine List.nodup_cons.2 ⟨fun hm=>hn ?_,this⟩;obtain⟨e,he,h1⟩:=List.mem_map.1 hm;have:=(h.BG e he).1;exact List.mem_map.2 ⟨e,he,oG⟩
 have:=List.Nodup.length_le_of_subset h2 (l₂:=range N) fun x hx=>by
  rcases List.mem_cons.1 hx with rfl|hx
  .exact List.mem_range.2 hi
  .obtain⟨e,he,rfl⟩:=List.mem_map.1 hx;have:=h.BG e he;exact List.mem_range.2 oG
 simp at this;omega
theorem Yu{sn:List Nat}{ca:List (List Nat)}{c:List (List Int)}(h:lx sn ca c=true):qQ sn ca fun i=>dR (entries c) i:=by
 obtain⟨hp,hl,hr⟩:=QS h
 have key:∀ i,i<ca.length->∃ n x,c[n]? =some x/\(i:Int)∈x/\dR (entries c) i=n/\sn.getD i 0=sn.getD (x.headD 0).toNat 0/\(ca.getD i []).map (fun(t:Nat)=>dR (entries c) t)=(ca.getD (x.headD 0).toNat []).map fun(t:Nat)=>dR (entries c) t:=fun i hi=>by
  obtain⟨n,hn⟩:=Yt hp hl hi;obtain⟨x,hx,hm⟩:=uT.1 hn;refine⟨n,x,hx,hm,Fi hp.nodup hn,?_⟩;cases x with
  |nil=>simp at hm
  |cons a x=>
   rcases List.mem_cons.1 hm with e|e
   .simp[<- e]
   .have:=hr _ (bu hx);unfold qK at this;have:=bQ.1 this i e;unfold vL at this;simpa using this
 refine⟨fun i j hi hj e=>?_,fun i j hi hj e=>?_⟩<;>obtain⟨n,x,h1,h2,C,J,M⟩:=key i hi<;>obtain⟨m,y,k1,k2,k3,k4,k5⟩:=key j hj
 .have:n=m:=by rw[<- C, <- k3];exact e
  subst this;rw[h1] at k1;cases k1;rw[J,k4]
 .have:n=m:=by rw[<- C, <- k3];exact e
  subst this;rw[h1] at k1;cases k1;rw[M,k5]
theorem Yb{sn:List Nat}{ca:List (List Nat)}(hl:sn.length=ca.length)(M:uk ca){c:List (List Int)}(h:lx sn ca c=true){x:List Int}(hx:x∈c){a b:Int}(ha:a∈x)(hb:b∈x):
 0<=a/\a<ca.length/\0<=b/\b<ca.length/\(lP sn ca).getD a.toNat 0=(lP sn ca).getD b.toNat 0:=by
 obtain⟨hp,U,hr⟩:=QS h;obtain⟨n,hn⟩:=dw hx;have C:(a,n)∈entries c:=uT.2 ⟨x,hn,ha⟩;have J:(b,n)∈entries c:=uT.2 ⟨x,hn,hb⟩;have h1:=hp.BG _ C;have h2:=hp.BG _ J;refine⟨h1.1,h1.2,h2.1,h2.2,WX hl M (Yu h) oG oG ?_⟩;rw[show((a.toNat:Nat):Int)=a by omega,show((b.toNat:Nat):Int)=b by omega,Fi hp.nodup C,Fi hp.nodup J]
abbrev al(l:List Nat):List Int:=l.map fun(n:Nat)=>(n:Int)
def eu(clq:List Nat)(m:Nat):List (List Int):=(B4 clq m).map al
theorem uZ{clq:List Nat}{m n:Nat}(h:n<m):(eu clq m)[n]? =some (al ((range clq.length).filter fun i=>clq.getD i 0==n)):=by
 unfold eu B4;simp[h]
theorem Cb(clq:List Nat)(m:Nat):(eu clq m).length=m:=by simp[eu,B4]
theorem EU{clq:List Nat}{n i:Nat}:i∈(range clq.length).filter (fun i=>clq.getD i 0==n)↔i<clq.length/\clq.getD i 0=n:=by simp
theorem Wn{clq:List Nat}{m:Nat}{i:Int}{n:Nat}(h:(i,n)∈entries (eu clq m)):n<m/\∃ j:Nat,i=j/\j<clq.length/\clq.getD j 0=n:=by
 obtain⟨x,hx,hi⟩:=uT.1 h;have hn:n<m:=by have:=(bC.1 hx).1;rwa[Cb] at this
 rw[uZ hn] at hx;cases hx;obtain⟨j,hj,rfl⟩:=List.mem_map.1 hi;exact⟨hn,j,rfl,EU.1 hj⟩
theorem Xs{clq:List Nat}{m j:Nat}(hj:j<clq.length)(hm:clq.getD j 0<m):((j:Int),clq.getD j 0)∈entries (eu clq m):=
 uT.2 ⟨_,uZ hm,List.mem_map.2 ⟨j,EU.2 ⟨hj,rfl⟩,rfl⟩⟩
theorem We{c:List (List Int)}{n:Nat}{i:Int}{k:Nat}(h:(i,k)∈entries (c.take n)):k<n/\(i,k)∈entries c:=by
 obtain⟨x,hx,hi⟩:=uT.1 h;rw[List.getElem?_take] at hx;split at hx
 .rename_i hk;exact⟨hk,uT.2 ⟨x,hx,hi⟩⟩
 .cases hx
section
variable{κ:Type}[DecidableEq κ]
theorem Yv{ks:List κ}{a n:Nat}(ha:(aT ks)[a]? =some (n+1))(hf:∀ j:Nat,j<a->(aT ks)[j]? ≠some (n+1)):∃ j:Nat,j<a/\(aT ks)[j]? =some n:=by
 have qm:a<ks.length:=by have:=(bC.1 ha).1;simpa using this
 obtain⟨k,hk⟩:∃ k,ks[a]? =some k:=⟨_,a7 qm⟩
 have hp:aV (ks.take (a+1))<+:aV ks:=by
  have:=EB (ks.take (a+1)) (ks.drop (a+1))
  rwa[List.take_append_drop] at this
 have hs:ks.take (a+1)=ks.take a++[k]:=by rw[List.take_add_one,hk];rfl
 have J:k∉aV (ks.take a):=fun hm=>by
  obtain⟨j,hj⟩:=dw (lD.1 hm);have C:j<a:=by have:=(bC.1 hj).1;simp at this;omega
  rw[List.getElem?_take,if_pos C] at hj;exact hf j C (((B' hj hk).2 rfl).trans ha)
 have U:aV (ks.take (a+1))=aV (ks.take a)++[k]:=by rw[hs,Pk,if_neg J]
 have LW:(aV ks).idxOf k=(aV (ks.take a)).length:=by
  rw[IC hp (by rw[U];simp),U,List.idxOf_append,if_neg J];simp
 have hn:(aV (ks.take a)).length=n+1:=by
  rw[zS hk] at ha;rw[<- LW];exact Option.some.inj ha
 have af:n<(aV (ks.take a)).length:=by omega
 obtain⟨q,hq⟩:∃ q,(aV (ks.take a))[n]? =some q:=⟨_,a7 af⟩
 obtain⟨j,hj⟩:=dw (lD.1 (bu hq));have C:j<a:=by have:=(bC.1 hj).1;simp at this;omega
 rw[List.getElem?_take,if_pos C] at hj;refine⟨j,C,?_⟩;rw[zS hj]
 have wE:aV (ks.take a)<+:aV ks:=by
  have:=EB (ks.take a) (ks.drop a)
  rwa[List.take_append_drop] at this
 obtain⟨r,hr⟩:=wE;have M:(aV ks)[n]? =some q:=by rw[<- hr,List.getElem?_append_left af];exact hq
 have X:q∈aV ks:=bu M;have h1:=List.idxOf_lt_length_of_mem X;have h2:(aV ks)[(aV ks).idxOf q]? =some q:=by rw[a7 h1,List.getElem_idxOf]
 exact congrArg some ((List.getElem?_inj h1 (zE ks)).1 (h2.trans M.symm))
theorem Pp{ks:List κ}{n:Nat}(h:n<(aV ks).length):∃ j:Nat,(aT ks)[j]? =some n:=by
 obtain⟨q,hq⟩:∃ q,(aV ks)[n]? =some q:=⟨_,a7 h⟩
 have C:q∈aV ks:=bu hq;obtain⟨j,hj⟩:=dw (lD.1 C);refine⟨j,?_⟩;rw[zS hj];have h1:=List.idxOf_lt_length_of_mem C;have h2:(aV ks)[(aV ks).idxOf q]? =some q:=by rw[a7 h1,List.getElem_idxOf]
 exact congrArg some ((List.getElem?_inj h1 (zE ks)).1 (h2.trans hq.symm))
end
theorem RV{l:List Nat}(h:l.Pairwise (·<·)){i j:Nat}(C:i<j){a b:Nat}(ha:l[i]? =some a)(hb:l[j]? =some b):a<b:=by
 obtain⟨h1,rfl⟩:=bC.1 ha;obtain⟨h2,rfl⟩:=bC.1 hb;exact List.pairwise_iff_getElem.1 h i j h1 h2 C
theorem PS(N:Nat)(p:Nat->Bool):((range N).filter p).Pairwise (·<·):=List.Pairwise.filter _ List.pairwise_lt_range
theorem O3{N:Nat}{p:Nat->Bool}{a:Nat}{l:List Nat}(h:(range N).filter p=a::l):∀ j,j<N->p j=true->a<=j:=fun j hj hp=>by
 have hm:j∈(range N).filter p:=by simp[hj,hp]
 have ha:=PS N p;rw[h] at hm ha;rcases List.mem_cons.1 hm with rfl|hm
 .exact bd _
 .exact Nat.le_of_lt ((List.pairwise_cons.1 ha).1 j hm)
theorem acJ{κ:Type}[DecidableEq κ]{ks:List κ}{n:Nat}(hn:n<(aV ks).length):mD ks.length (eu (aT ks) (aV ks).length) n=true:=by
 unfold mD;rw[uZ hn,B9];simp only[bc];have af:∀ j,j<ks.length->(aT ks)[j]? =some ((aT ks).getD j 0):=fun j hj=>dZ (by simpa using hj);refine⟨?_,?_⟩
 .cases hc:(range ks.length).filter fun i=>(aT ks).getD i 0==n with
  |nil=>
   obtain⟨j,hj⟩:=Pp hn;have dj:j<ks.length:=by have:=(bC.1 hj).1;simpa using this
   have:j∈(range ks.length).filter fun i=>(aT ks).getD i 0==n:=by simp only[List.mem_filter,List.mem_range,beq_iff_eq];exact⟨dj,ng hj⟩
   rw[hc] at this;cases this
  |cons a l=>
   show decide (s8 _ n<(a:Int))=true;rw[decide_eq_true_eq];have C:a∈(range ks.length).filter fun i=>(aT ks).getD i 0==n:=by rw[hc];simp
   simp only[List.mem_filter,List.mem_range,beq_iff_eq] at C;unfold s8;split
   .omega
   .rename_i h0;obtain⟨m,rfl⟩:∃ m,n=m+1:=⟨n - 1,oG⟩
    have J:=O3 hc
    obtain⟨j,BH,hj⟩:=Yv (ks:=ks) (a:=a) (n:=m) (by rw[af a C.1,C.2]) fun j hj e=>by
     have:=J j oG (by rw[ng e];simp);omega
    rw[show m+1 - 1=m by omega,ng (uZ (show m<_ by omega)),B9];cases rv:(range ks.length).filter fun i=>(aT ks).getD i 0==m with
    |nil=>
     have:j∈(range ks.length).filter fun i=>(aT ks).getD i 0==m:=by simp only[List.mem_filter,List.mem_range,beq_iff_eq];exact⟨oG,ng hj⟩
     rw[rv] at this;cases this
    |cons a' l'=>
     have:=O3 rv j oG (by rw[ng hj];simp);show(a':Int)<a;omega
 .refine bQ.2 fun k hk=>?_;have U:=PS ks.length fun i=>(aT ks).getD i 0==n;have jh:∀ i,i∈(range ks.length).filter (fun i=>(aT ks).getD i 0==n)->i<ks.length/\(aT ks).getD i 0=n:=fun i hi=>by simpa using hi
  generalize hx:(range ks.length).filter (fun i=>(aT ks).getD i 0==n)=x at*
  unfold rh;cases hi:(al x)[k]? with
  |none=>rfl
  |some i=>
   rw[List.getElem?_map] at hi;obtain⟨j,hj,rfl⟩:=cO.1 hi;obtain⟨lp,uv⟩:=jh j (bu hj);simp only[bc,Bool.not_eq_true',decide_eq_true_eq,Bool.or_eq_true];refine⟨?_,oG,oG,?_⟩
   .rw[Bool.eq_false_iff];intro h;obtain⟨q,hq⟩:=Jx.1 h;rw[List.mem_append] at hq;rcases hq with hq|hq
    .obtain⟨h1,h2⟩:=We hq;obtain⟨_,M,e,_,h3⟩:=Wn h2;have:j=M:=by omega
     subst this;rw[uv] at h3;omega
    .rw[List.mem_map] at hq;obtain⟨y,hy,e⟩:=hq;rw[<- List.map_take,List.mem_map] at hy;obtain⟨M,ln,rfl⟩:=hy;simp only[bP] at e;have:M=j:=by omega
     subst this;obtain⟨p,hp⟩:=dw ln;have X:p<k:=by have:=(bC.1 hp).1;simp at this;omega
     rw[List.getElem?_take,if_pos X] at hp;have:=RV U X hp hj;omega
   .by_cases h0:k=0
    .exact .inl h0
    .right;have gj:k<x.length:=(bC.1 hj).1;obtain⟨b,hb⟩:∃ b,x[k - 1]? =some b:=⟨_,a7 oG⟩
     rw[ng (l:=al x) (i:=k - 1) (x:=(b:Int)) (by rw[List.getElem?_map,hb];rfl)];have:=RV U (show k - 1<k by omega) hb hj;omega
theorem ady{sn:List Nat}{ca:List (List Nat)}(hl:sn.length=ca.length)(M:uk ca):lx sn ca (eu (lP sn ca) (aV (lP sn ca)).length)=true:=by
 obtain⟨ks,hk,hs⟩:=ER hl;have di:=WW hl M;have hm:(aV (lP sn ca)).length=(aV ks).length:=by rw[hs,xc]
 rw[hm];generalize hr:lP sn ca=r at*
 subst hs
 have U:(range (eu (aT ks) (aV ks).length).length).all (mD ca.length (eu (aT ks) (aV ks).length))=true:=
  bQ.2 fun n hn=>by rw[<- hk];exact acJ (by simpa[Cb] using hn)
 have bp:∀ j,j<ca.length->((j:Int),(aT ks).getD j 0)∈entries (eu (aT ks) (aV ks).length):=fun j hj=>
  Xs (by simpa[hk] using hj) (Cq (dZ (by simpa[hk] using hj)))
 have hn:=EG U _ (bd _);rw[List.take_length] at hn;have J:∀ t:Nat,t<ca.length->dR (entries (eu (aT ks) (aV ks).length)) t=(aT ks).getD t 0:=fun t ht=>Fi hn.1 (bp t ht);have X:∀ l:List Nat,(∀ t∈l,t<ca.length)->l.map (fun(t:Nat)=>dR (entries (eu (aT ks) (aV ks).length)) t)=l.map fun t=>(aT ks).getD t 0:=fun l h=>List.map_congr_left fun t ht=>J t (h t ht);unfold lx;simp only[bc,decide_eq_true_eq];refine⟨U,Nat.le_antisymm ?_ ?_,bQ.2 fun x hx=>bQ.2 fun i hi=>?_⟩
 .have h1:((entries (eu (aT ks) (aV ks).length)).map fun e=>e.1.toNat).Nodup:=by
   refine List.pairwise_map.2 ((List.pairwise_map.1 hn.1).imp_of_mem fun {a b} ha hb C e=>C ?_);have:=hn.2 a ha;have:=hn.2 b hb;omega
  have:=List.Nodup.length_le_of_subset h1 (l₂:=range ca.length) fun x hx=>by
   obtain⟨e,he,rfl⟩:=List.mem_map.1 hx;have:=hn.2 e he;exact List.mem_range.2 oG
  simpa using this
 .have h1:((range ca.length).map fun(j:Nat)=>(j:Int)).Nodup:=List.pairwise_map.2 (List.nodup_range.imp fun C e=>C oG)
  have:=List.Nodup.length_le_of_subset h1 (l₂:=(entries (eu (aT ks) (aV ks).length)).map (·.1)) fun x hx=>by
   obtain⟨j,hj,rfl⟩:=List.mem_map.1 hx;exact List.mem_map.2 ⟨_,bp j (List.mem_range.1 hj),rfl⟩
  simpa using this
 .obtain⟨n,hx⟩:=dw hx;have wS:n<(aV ks).length:=by have:=(bC.1 hx).1;rwa[Cb] at this
  rw[uZ wS] at hx;cases hx;have jh:∀ i,i∈(range (aT ks).length).filter (fun i=>(aT ks).getD i 0==n)->i<ca.length/\(aT ks).getD i 0=n:=fun i hi=>by simpa[hk] using hi
  generalize hxx:(range (aT ks).length).filter (fun i=>(aT ks).getD i 0==n)=x at*
  cases x with
  |nil=>simp at hi
  |cons a x=>
   simp only[al,List.map_cons,List.drop_succ_cons,List.drop_zero,List.mem_map] at hi;obtain⟨j,hj,rfl⟩:=hi;obtain⟨a1,a2⟩:=jh a oS;obtain⟨j1,j2⟩:=jh j (List.mem_cons_of_mem _ hj);unfold vL;have e1:=di.sh j a j1 a1 (j2.trans a2.symm);have e2:=di.ca j a j1 a1 (j2.trans a2.symm);simp only[al,List.map_cons,List.headD_cons,jZ,bc,beq_iff_eq,decide_eq_true_eq];exact⟨e1,by rw[X _ (M j),X _ (M a)];exact e2⟩
def atR(c:List (List Int))(n:Int):Int:=mI (fun x=>x.any fun i=>i==n) c
theorem adw{clq:List Nat}{m i:Nat}(hi:i<clq.length)(hm:clq.getD i 0<m):atR (eu clq m) (i:Int)=(clq.getD i 0:Nat):=by
 refine td (uZ hm) ?_ fun j y hj hy=>?_
 .exact List.any_eq_true.2 ⟨(i:Int),List.mem_map.2 ⟨i,EU.2 ⟨hi,rfl⟩,rfl⟩,oS⟩
 .rw[uZ (show j<m by omega)] at hy;cases hy;refine List.any_eq_false.2 fun z hz e=>?_;obtain⟨k,hk,rfl⟩:=List.mem_map.1 hz;have:=(EU.1 hk).2;have e:(k:Int)=i:=by simpa using e
  have:k=i:=by omega
  subst this;omega
abbrev PW:=(Nat×Nat)×List Nat
def oa(ca:List (List Nat))(p:Nat×Nat)(k:Nat):Nat×Nat:=((ca.getD p.1 []).getD k 0,(ca.getD p.2 []).getD k 0)
def vN(ca:List (List Nat))(fr:Nat×Nat)(x:PW)(st:List (Nat×Nat)×List PW)(k:Nat):List (Nat×Nat)×List PW:=
 if oa ca x.1 k≠fr/\oa ca x.1 k∉st.1 then(st.1++[oa ca x.1 k],st.2++[(oa ca x.1 k,x.2++[k])]) else st
def oW(ca:List (List Nat))(fr:Nat×Nat)(x:PW)(st:List (Nat×Nat)×List PW)(n:Nat):List (Nat×Nat)×List PW:=(range n).foldl (vN ca fr x) st
def vM(sn:List Nat)(ca:List (List Nat))(fr:Nat×Nat)(st:List (Nat×Nat)×List PW):List (Nat×Nat)×List PW:=match st.2 with
 |[]=>st
 |x::_=>if sn.getD x.1.1 0=sn.getD x.1.2 0 then((oW ca fr x st (ca.getD x.1.1 []).length).1,(oW ca fr x st (ca.getD x.1.1 []).length).2.drop 1) else(st.1,st.2.drop 1)
def sf(sn:List Nat)(ca:List (List Nat))(fr:Nat×Nat):Nat->List (Nat×Nat)×List PW->List PW
 |0,_=>[]
 |f+1,st=>match st.2 with
  |[]=>[]
  |x::_=>x::sf sn ca fr f (vM sn ca fr st)
def pT(sn:List Nat)(ca:List (List Nat))(a b:Nat):List PW:=sf sn ca (a,b) (ca.length*ca.length+2) ([],[((a,b),[])])
def Gm(sn:List Nat)(ca:List (List Nat))(a b:Nat):Option PW:=(pT sn ca a b).find? fun x=>sn.getD x.1.1 0 !=sn.getD x.1.2 0
section
variable{sn:List Nat}{ca:List (List Nat)}
inductive sG(sn:List Nat)(ca:List (List Nat))(fr:Nat×Nat):List Nat->Nat×Nat->Prop
 |nil:sG sn ca fr [] fr
 |snoc (w:List Nat) (p:Nat×Nat) (k:Nat) (h:sG sn ca fr w p) (hs:sn.getD p.1 0=sn.getD p.2 0) (hk:k<(ca.getD p.1 []).length):sG sn ca fr (w++[k]) (oa ca p k)
structure BI(sn:List Nat)(ca:List (List Nat))(fr:Nat×Nat)(Y:List PW)(S:List (Nat×Nat))(O:List PW):Prop where
 lead:∀ x∈Y++O,sG sn ca fr x.2 x.1
 pR:(Y++O).map (·.1)=fr::S
 nodup:(fr::S).Nodup
 zw:(Y++O).Pairwise fun x y=>x.2.length<=y.2.length
 Md:∀ x∈O,∀ y∈O,x.2.length<=y.2.length+1
 done:∀ x∈Y,sn.getD x.1.1 0=sn.getD x.1.2 0->∀ k,k<(ca.getD x.1.1 []).length->∃ y∈Y++O,y.1=oa ca x.1 k/\y.2.length<=x.2.length+1
theorem JW{fr:Nat×Nat}{x:PW}(hs:sn.getD x.1.1 0=sn.getD x.1.2 0)(hx:sG sn ca fr x.2 x.1){Y:List PW}:∀ (n:Nat) {S:List (Nat×Nat)} {O:List PW},n<=(ca.getD x.1.1 []).length->BI sn ca fr Y S (x::O)->
 ∃ C:List PW,(oW ca fr x (S,x::O) n).2=x::C/\BI sn ca fr Y (oW ca fr x (S,x::O) n).1 (x::C)/\(∀ y∈C,y.2.length<=x.2.length+1)/\∀ k,k<n->∃ y∈Y++x::C,y.1=oa ca x.1 k/\y.2.length<=x.2.length+1
 |0,S,O,_,h=>⟨O,rfl,h,fun y hy=>h.Md y (List.mem_cons_of_mem _ hy) x oS,fun k hk=>by omega⟩
 |n+1,S,O,hn,h=>by
  obtain⟨C,h1,h2,M,h4⟩:=JW hs hx n (S:=S) (O:=O) oG h;have hE:oW ca fr x (S,x::O) (n+1)=vN ca fr x (oW ca fr x (S,x::O) n) n:=by unfold oW;rw[List.range_succ,List.foldl_append];rfl
  have hp:oW ca fr x (S,x::O) n=((oW ca fr x (S,x::O) n).1,x::C):=by rw[<- h1]
  generalize (oW ca fr x (S,x::O) n).1=S' at*
  rw[hE,hp]
  have J:∀ y∈Y++x::C,y.2.length<=x.2.length+1:=fun y hy=>by
   rcases List.mem_append.1 hy with hy|hy
   .have:=(List.pairwise_append.1 h2.zw).2.2 y hy x oS;omega
   .rcases List.mem_cons.1 hy with rfl|hy
    .omega
    .exact M y hy
  unfold vN;split
  .rename_i hq;refine⟨C++[(oa ca x.1 n,x.2++[n])],rfl,⟨fun y hy=>?_,?_,?_,?_,fun y hy z hz=>?_,fun y hy BJ k hk=>?_⟩,fun y hy=>?_,fun k hk=>?_⟩
   .rw[<- List.cons_append, <- List.append_assoc,List.mem_append] at hy;rcases hy with hy|hy
    .exact h2.lead y hy
    .simp only[List.mem_cons,List.not_mem_nil,or_false] at hy;subst hy;exact .snoc _ _ _ hx hs oG
   .rw[<- List.cons_append, <- List.append_assoc,List.map_append,h2.pR];rfl
   .rw[<- List.cons_append];refine List.nodup_append.2 ⟨h2.nodup,oS,fun a ha b hb=>?_⟩;simp only[List.mem_cons,List.not_mem_nil,or_false] at hb;subst hb;rintro rfl;rcases List.mem_cons.1 ha with e|e
    .exact hq.1 e
    .exact hq.2 e
   .rw[<- List.cons_append, <- List.append_assoc];refine List.pairwise_append.2 ⟨h2.zw,oS,fun a ha b hb=>?_⟩;simp only[List.mem_cons,List.not_mem_nil,or_false] at hb;subst hb;have:=J a ha;simp;omega
   .have Bs:∀ u∈x::(C++[(oa ca x.1 n,x.2++[n])]),x.2.length<=u.2.length/\u.2.length<=x.2.length+1:=fun u hu=>by
     rw[<- List.cons_append,List.mem_append] at hu;rcases hu with hu|hu
     .refine⟨?_,J u (List.mem_append_right _ hu)⟩;rcases List.mem_cons.1 hu with rfl|hu
      .exact bd _
      .exact(List.pairwise_cons.1 (List.pairwise_append.1 h2.zw).2.1).1 u hu
     .simp only[List.mem_cons,List.not_mem_nil,or_false] at hu;subst hu;simp
    have:=(Bs y hy).2;have:=(Bs z hz).1;omega
   .obtain⟨z,hz,U⟩:=h2.done y hy BJ k hk;exact⟨z,by rw[<- List.cons_append, <- List.append_assoc];exact List.mem_append_left _ hz,U⟩
   .rcases List.mem_append.1 hy with hy|hy
    .exact M y hy
    .simp only[List.mem_cons,List.not_mem_nil,or_false] at hy;subst hy;simp
   .by_cases X:k=n
    .subst X;exact⟨(oa ca x.1 k,x.2++[k]),oS,rfl,oS⟩
    .obtain⟨z,hz,U⟩:=h4 k oG;exact⟨z,by rw[<- List.cons_append, <- List.append_assoc];exact List.mem_append_left _ hz,U⟩
  .rename_i hq;refine⟨C,rfl,h2,M,fun k hk=>?_⟩;by_cases X:k=n
   .subst X
    have hm:oa ca x.1 k∈fr::S':=by
     refine Classical.byContradiction fun hc=>hq ⟨fun e=>hc (by rw[e];simp),fun e=>hc (List.mem_cons_of_mem _ e)⟩
    rw[<- h2.pR,List.mem_map] at hm;obtain⟨z,hz,e⟩:=hm;exact⟨z,hz,e,J z hz⟩
   .exact h4 k oG
theorem Ry{fr:Nat×Nat}{Y:List PW}{S:List (Nat×Nat)}{x:PW}{O:List PW}(h:BI sn ca fr Y S (x::O)):BI sn ca fr (Y++[x]) (vM sn ca fr (S,x::O)).1 (vM sn ca fr (S,x::O)).2:=by
 have C:∀ A B:List PW,A++x::B=(A++[x])++B:=fun A B=>by simp
 unfold vM;simp only;split
 .rename_i hs;obtain⟨U,h1,h2,X,M⟩:=JW hs (h.lead x oS) (ca.getD x.1.1 []).length (bd _) h;rw[h1];refine⟨by rw[<- C];exact h2.lead,by rw[<- C];exact h2.pR,h2.nodup,by rw[<- C];exact h2.zw,fun y hy z hz=>h2.Md y (List.mem_cons_of_mem _ hy) z (List.mem_cons_of_mem _ hz),fun y hy J k hk=>?_⟩;rw[List.drop_succ_cons,List.drop_zero, <- C];rcases List.mem_append.1 hy with hy|hy
  .exact h2.done y hy J k hk
  .simp only[List.mem_cons,List.not_mem_nil,or_false] at hy;subst hy;exact M k hk
 .rename_i hs;refine⟨by rw[<- C];exact h.lead,by rw[<- C];exact h.pR,h.nodup,by rw[<- C];exact h.zw,fun y hy z hz=>h.Md y (List.mem_cons_of_mem _ hy) z (List.mem_cons_of_mem _ hz),fun y hy J k hk=>?_⟩;rw[List.drop_succ_cons,List.drop_zero, <- C];rcases List.mem_append.1 hy with hy|hy
  .exact h.done y hy J k hk
  .simp only[List.mem_cons,List.not_mem_nil,or_false] at hy;subst hy;exact absurd J hs
theorem JV(C:uk ca)(hlen:∀ a b,a<ca.length->b<ca.length->sn.getD a 0=sn.getD b 0->(ca.getD a []).length=(ca.getD b []).length){fr:Nat×Nat}(h1:fr.1<ca.length)(h2:fr.2<ca.length){w:List Nat}{p:Nat×Nat}(h:sG sn ca fr w p):p.1<ca.length/\p.2<ca.length:=by
 induction h with
 |nil=>exact⟨h1,h2⟩
 |snoc w p k h hs hk ih=>
  have J:k<(ca.getD p.2 []).length:=by rw[<- hlen p.1 p.2 ih.1 ih.2 hs];exact hk
  exact⟨C p.1 _ (bu (dZ hk)),C p.2 _ (bu (dZ J))⟩
theorem Gl{N:Nat}{fr:Nat×Nat}{Y:List PW}{S:List (Nat×Nat)}{O:List PW}(h:BI sn ca fr Y S O)(af:∀ w p,sG sn ca fr w p->p.1<N/\p.2<N):Y.length+O.length<=N*N:=by
 have h1:((fr::S).map fun p=>p.1*N+p.2).Nodup:=by
  refine List.pairwise_map.2 (h.nodup.imp_of_mem fun {a b} ha hb J e=>J ?_);rw[<- h.pR,List.mem_map] at ha hb;obtain⟨x,hx,rfl⟩:=ha;obtain⟨y,hy,rfl⟩:=hb;have a1:=af _ _ (h.lead x hx);have a2:=af _ _ (h.lead y hy);have C:0<N:=by omega
  have e1:(x.1.1*N+x.1.2) / N=x.1.1:=by rw[Nat.mul_comm,Nat.mul_add_div C,Nat.div_eq_of_lt a1.2,Nat.add_zero]
  have e2:(y.1.1*N+y.1.2) / N=y.1.1:=by rw[Nat.mul_comm,Nat.mul_add_div C,Nat.div_eq_of_lt a2.2,Nat.add_zero]
  have e3:(x.1.1*N+x.1.2) % N=x.1.2:=by rw[Nat.mul_comm,Nat.mul_add_mod,Nat.mod_eq_of_lt a1.2]
  have e4:(y.1.1*N+y.1.2) % N=y.1.2:=by rw[Nat.mul_comm,Nat.mul_add_mod,Nat.mod_eq_of_lt a2.2]
  exact Prod.ext (by rw[<- e1,e,e2]) (by rw[<- e3,e,e4])
 have:=List.Nodup.length_le_of_subset h1 (l₂:=range (N*N)) fun v hv=>by
  obtain⟨p,hp,rfl⟩:=List.mem_map.1 hv;rw[<- h.pR,List.mem_map] at hp;obtain⟨x,hx,rfl⟩:=hp;have a1:=af _ _ (h.lead x hx);refine List.mem_range.2 ?_
  have:x.1.1*N+N<=N*N:=by
   rw[<- Nat.succ_mul];exact Nat.mul_le_mul_right _ a1.1
  omega
 have e:=congrArg List.length h.pR;simp at e this;omega
theorem RW{fr:Nat×Nat}{N:Nat}(af:∀ w p,sG sn ca fr w p->p.1<N/\p.2<N):∀ (f:Nat) {Y:List PW} {st:List (Nat×Nat)×List PW},BI sn ca fr Y st.1 st.2->N*N<f+Y.length->∃ S,BI sn ca fr (Y++sf sn ca fr f st) S []
 |0,Y,st,h,hf=>by
  have:=Gl h af;omega
 |f+1,Y,(S,[]),h,hf=>⟨S,by simpa[sf] using h⟩
 |f+1,Y,(S,x::O),h,hf=>by
  obtain⟨C,h'⟩:=RW af f (Ry h) oP;refine⟨C,?_⟩;simpa[sf] using h'
end
def KX(sn:List Nat)(ca:List (List Nat)):Prop:=∀ a b,a<ca.length->b<ca.length->sn.getD a 0=sn.getD b 0->(ca.getD a []).length=(ca.getD b []).length
section
variable{sn:List Nat}{ca:List (List Nat)}{a b:Nat}
theorem RA(C:uk ca)(hlen:KX sn ca)(ha:a<ca.length)(hb:b<ca.length):∃ S,BI sn ca (a,b) (pT sn ca a b) S []:=by
 have h0:BI sn ca (a,b) [] [] [((a,b),[])]:=by
  refine⟨fun x hx=>?_,rfl,oS,oS,fun x hx y hy=>?_,fun x hx=>by simp at hx⟩
  .simp only[List.nil_append,List.mem_cons,List.not_mem_nil,or_false] at hx;subst hx;exact .nil
  .simp only[List.mem_cons,List.not_mem_nil,or_false] at hx hy;subst hx hy;omega
 obtain⟨S,h⟩:=RW (N:=ca.length) (fun w p=>JV C hlen ha hb) (ca.length*ca.length+2) (Y:=[]) (st:=([],[((a,b),[])])) h0 oS;exact⟨S,by rw[List.nil_append] at h;exact h⟩
end
section
variable{sn:List Nat}{ca:List (List Nat)}{a b:Nat}
end
end Go.Argus
namespace Go.Proofs.Tryz.K
open Go.Abs
theorem c1:prog.cellsOf 1=1:=kr
theorem a1:bm prog 1=false:=kr
theorem t1:aG prog 1=true:=kr
theorem b1:prog.bytesOf 1=8:=kr
theorem b2:prog.bytesOf 2=8:=kr
theorem a2:bm prog 2=false:=kr
theorem t2:aG prog 2=true:=kr
theorem z2:a8 prog 2=[.s (.int .i64 0)]:=kr
theorem c3:prog.cellsOf 3=1:=kr
theorem b3:prog.bytesOf 3=8:=kr
theorem a3:bm prog 3=false:=kr
theorem t3:aG prog 3=true:=kr
theorem z3:a8 prog 3=[.s (.int .i64 0)]:=kr
theorem c4:prog.cellsOf 4=1:=kr
theorem b4:prog.bytesOf 4=1:=kr
theorem a4:bm prog 4=false:=kr
theorem t4:aG prog 4=true:=kr
theorem z4:a8 prog 4=[.s (.bool false)]:=kr
theorem c5:prog.cellsOf 5=1:=kr
theorem b5:prog.bytesOf 5=1:=kr
theorem a5:bm prog 5=false:=kr
theorem t5:aG prog 5=true:=kr
theorem z5:a8 prog 5=[.s (.int .u8 0)]:=kr
theorem b6:prog.bytesOf 6=1:=kr
theorem b7:prog.bytesOf 7=24:=kr
theorem b8:prog.bytesOf 8=24:=kr
theorem c9:prog.cellsOf 9=1:=kr
theorem b9:prog.bytesOf 9=16:=kr
theorem a9:bm prog 9=false:=kr
theorem t9:aG prog 9=true:=kr
theorem z9:a8 prog 9=[.s (.string "".toUTF8)]:=kr
theorem ly:prog.bytesOf 10=16:=kr
theorem NL:aD prog 15=321:=kr
theorem NM:aD prog 16=324:=kr
theorem NG:aD prog 17=331:=kr
theorem H7:aD prog 22=48:=kr
theorem Ho:bh prog 22=true:=kr
theorem Vn:aD prog 23=43:=kr
theorem Uc:bh prog 23=true:=kr
theorem BB:prog.cellsOf 27=1:=kr
theorem HZ:bm prog 27=false:=kr
theorem t27:aG prog 27=true:=kr
theorem a31:bm prog 31=false:=kr
theorem t31:aG prog 31=true:=kr
theorem z31:a8 prog 31=[.s .nilFunc]:=kr
theorem rE:aD prog 34=9:=kr
theorem uh:bh prog 34=true:=kr
theorem a37:bm prog 37=false:=kr
theorem t37:aG prog 37=true:=kr
theorem z37:a8 prog 37=[.s .nilFunc]:=kr
theorem sX:prog.cellsOf 43=1:=kr
theorem Ea:prog.bytesOf 43=24:=kr
theorem HY:bm prog 43=false:=kr
theorem t43:aG prog 43=true:=kr
theorem wH:aD prog 43=3:=kr
theorem yu:bh prog 43=true:=kr
theorem HO:aD prog 45=5:=kr
theorem AU:bh prog 45=true:=kr
theorem a46:bm prog 46=false:=kr
theorem t46:aG prog 46=true:=kr
theorem z46:a8 prog 46=[.z]:=kr
theorem M6:aD prog 46=59:=kr
theorem LN:bh prog 46=true:=kr
theorem oE:prog.cellsOf 48=8:=kr
theorem Nk:prog.bytesOf 48=136:=kr
theorem zc:bm prog 48=true:=kr
theorem t48:aG prog 48=true:=kr
theorem a51:bm prog 51=false:=kr
theorem t51:aG prog 51=true:=kr
theorem z51:a8 prog 51=[.s .nilFunc]:=kr
theorem Vj:aD prog 52=54:=kr
theorem Ub:bh prog 52=true:=kr
theorem a53:bm prog 53=true:=kr
theorem t53:aG prog 53=true:=kr
theorem z53:a8 prog 53=[.s (.int .u8 0),.s (.int .i64 0),.s (.int .i64 0),.s (.int .i64 0),.s (.int .i64 0),.z]:=kr
theorem M4:prog.cellsOf 54=6:=kr
theorem M3:prog.bytesOf 54=64:=kr
theorem MZ:aD prog 55=79:=kr
theorem DB:bh prog 55=true:=kr
theorem HQ:prog.cellsOf 59=16:=kr
theorem M5:prog.bytesOf 59=200:=kr
theorem z59:a8 prog 59=[.z,.s (.int .u8 0),.s (.int .i64 0),.s (.int .i64 0),.s (.int .i64 0),.s (.int .i64 0),.s (.string "".toUTF8),.s (.int .u8 0),.s (.int .i64 0),.s (.int .i64 0),.s (.int .i64 0),.s (.int .i64 0),.z,.z,.z,.s (.int .i64 0)]:=kr
theorem a70:bm prog 70=true:=kr
theorem t70:aG prog 70=true:=kr
theorem z70:a8 prog 70=[.s (.int .u8 0),.s (.int .i64 0)]:=kr
theorem a72:bm prog 72=true:=kr
theorem t72:aG prog 72=true:=kr
theorem z72:a8 prog 72=[.s (.int .u8 0),.s (.string "".toUTF8),.s (.int .u8 0),.s (.int .i64 0),.z,.s (.int .i64 0)]:=kr
theorem a75:bm prog 75=false:=kr
theorem t75:aG prog 75=true:=kr
theorem z75:a8 prog 75=[.s .nilFunc]:=kr
theorem a76:bm prog 76=false:=kr
theorem t76:aG prog 76=true:=kr
theorem z76:a8 prog 76=[.s .nilFunc]:=kr
theorem HP:prog.cellsOf 79=2:=kr
theorem Vi:prog.bytesOf 79=24:=kr
theorem mU:prog.cellsOf 82=3:=kr
theorem sV:bm prog 82=true:=kr
theorem t82:aG prog 82=true:=kr
theorem wM:prog.cellsOf 86=4:=kr
theorem Bw:bm prog 86=true:=kr
theorem t86:aG prog 86=true:=kr
theorem Ej:aD prog 92=4:=kr
theorem DC:bh prog 92=true:=kr
theorem UG:prog.cellsOf 113=10:=kr
theorem UF:bm prog 113=true:=kr
theorem t113:aG prog 113=true:=kr
theorem LS:prog.cellsOf 121=2:=kr
theorem t121:aG prog 121=true:=kr
theorem Hk:a8 prog 121=[.s (.int .i64 0),.s (.int .i64 0)]:=kr
theorem a127:bm prog 127=false:=kr
theorem t127:aG prog 127=true:=kr
theorem z127:a8 prog 127=[.s .nilFunc]:=kr
theorem a164:bm prog 164=false:=kr
theorem t164:aG prog 164=true:=kr
theorem z164:a8 prog 164=[.s .nilFunc]:=kr
theorem a171:bm prog 171=false:=kr
theorem t171:aG prog 171=true:=kr
theorem z171:a8 prog 171=[.s .nilFunc]:=kr
theorem a173:bm prog 173=true:=kr
theorem t173:aG prog 173=true:=kr
theorem z173:a8 prog 173=[.s (.int .i64 0),.s (.int .i64 0),.z]:=kr
theorem um:prog.cellsOf 174=3:=kr
theorem Un:prog.bytesOf 174=40:=kr
theorem Ui:bm prog 174=true:=kr
theorem t174:aG prog 174=true:=kr
theorem Hj:a8 prog 174=[.s (.int .i64 0),.s (.int .i64 0),.z]:=kr
theorem A3:aD prog 175=174:=kr
theorem AH:bh prog 175=true:=kr
theorem q9:prog.cellsOf 201=20:=kr
theorem Uz:prog.bytesOf 201=160:=kr
theorem a201:bm prog 201=true:=kr
theorem t201:aG prog 201=true:=kr
theorem z201:a8 prog 201=[.s (.int .u64 0),.s (.int .u64 0),.s (.int .u64 0),.s (.int .u64 0),.s (.int .u64 0),.s (.int .u64 0),.s (.int .u64 0),.s (.int .u64 0),.s (.int .u64 0),.s (.int .u64 0),.s (.int .u64 0),.s (.int .u64 0),.s (.int .u64 0),.s (.int .u64 0),.s (.int .u64 0),.s (.int .u64 0),.s (.int .u64 0),.s (.int .u64 0),.s (.int .u64 0),.s (.int .u64 0)]:=kr
theorem a212:bm prog 212=true:=kr
theorem t212:aG prog 212=true:=kr
theorem z212:a8 prog 212=[.s (.pointer none),.z]:=kr
theorem a213:bm prog 213=true:=kr
theorem t213:aG prog 213=true:=kr
theorem z213:a8 prog 213=[.s (.pointer none),.z]:=kr
theorem a232:bm prog 232=false:=kr
theorem t232:aG prog 232=true:=kr
theorem z232:a8 prog 232=[.s .nilFunc]:=kr
theorem a233:bm prog 233=false:=kr
theorem t233:aG prog 233=true:=kr
theorem z233:a8 prog 233=[.s .nilFunc]:=kr
theorem L':bm prog 237=true:=kr
theorem Ma:a8 prog 237=[.s (.int .i64 0),.s (.int .i64 0),.s (.int .i64 0),.s (.int .i64 0),.s (.int .i64 0),.s (.int .i64 0)]:=kr
theorem mixed:prog.follows .mixedOrders=true:=kr
end Go.Proofs.Tryz.K
namespace Go.Proofs
open Go.Shelf
def Tryz.zz:Go.Shelf.Ren:=⟨fun|156=>199|165=>236|166=>119|169=>120|240=>160|241=>246|276=>225|277=>254|n=>n,fun|31=>34|9=>9|3=>3|4=>4|0=>0|20=>20|72=>183|76=>186|70=>181|37=>45|75=>185|127=>229|164=>269|5=>5|80=>188|n=>n,fun|n=>n⟩
theorem Tryz.JR:Go.Proofs.Lays.n156 Tryz.prog Tryz.zz:={
 mixed:=kr
 f156:= Tryz.func199.trans (congrArg some kr)
 f165:= Tryz.func236.trans (congrArg some kr)
 f166:= Tryz.func119.trans (congrArg some kr)
 f169:= Tryz.func120.trans (congrArg some kr)
 f240:= Tryz.func160.trans (congrArg some kr)
 f241:= Tryz.func246.trans (congrArg some kr)
 f276:= Tryz.func225.trans (congrArg some kr)
 f277:= Tryz.func254.trans (congrArg some kr)
 t0:= Tryz.underlying0
 a0:= Tryz.isAgg0
 z0:= Tryz.sizeOf0
 v0:= Tryz.zeroValue0
 t3:= Tryz.underlying3
 a3:= Tryz.isAgg3
 z3:= Tryz.sizeOf3
 v3:= Tryz.zeroValue3
 t4:= Tryz.underlying4
 a4:= Tryz.isAgg4
 z4:= Tryz.sizeOf4
 v4:= Tryz.zeroValue4
 t9:= Tryz.underlying9
 a9:= Tryz.isAgg9
 z9:= Tryz.sizeOf9
 v9:= Tryz.zeroValue9
 t20:= Tryz.underlying20
 a20:= Tryz.isAgg20
 z20:= Tryz.sizeOf20
 v20:= Tryz.zeroValue20
 t31:= Tryz.underlying34
 a31:= Tryz.isAgg34
 z31:= Tryz.sizeOf34
 v31:= Tryz.zeroValue34
 t37:= Tryz.underlying45
 a37:= Tryz.isAgg45
 z37:= Tryz.sizeOf45
 v37:= Tryz.zeroValue45
 t70:= Tryz.underlying181
 a70:= Tryz.isAgg181
 z70:= Tryz.sizeOf181
 v70:= Tryz.zeroValue181
 t72:= Tryz.underlying183
 a72:= Tryz.isAgg183
 z72:= Tryz.sizeOf183
 v72:= Tryz.zeroValue183
 t75:= Tryz.underlying185
 a75:= Tryz.isAgg185
 z75:= Tryz.sizeOf185
 v75:= Tryz.zeroValue185
 t76:= Tryz.underlying186
 a76:= Tryz.isAgg186
 z76:= Tryz.sizeOf186
 v76:= Tryz.zeroValue186
 t127:= Tryz.underlying229
 a127:= Tryz.isAgg229
 z127:= Tryz.sizeOf229
 v127:= Tryz.zeroValue229
 t164:= Tryz.underlying269
 a164:= Tryz.isAgg269
 z164:= Tryz.sizeOf269
 v164:= Tryz.zeroValue269 }
theorem Tryz.Ig:Builder.Extra Tryz.prog Tryz.zz:={
 sizeBuilder:=kr
 liesBuilder:=kr
 t5:= Tryz.underlying5
 a5:= Tryz.isAgg5
 z5:= Tryz.sizeOf5
 v5:= Tryz.zeroValue5
 infoByte:=kr
 cellsByte:=kr
 sizeByte:=kr
 neB5:=by decide }
open Go.RowKit in
theorem Tryz.strings_Join_none(a:Option Addr)(c:Nat)(sep:ByteArray)(w:World):
 Calls Tryz.prog 199 #[.slice a 0 c,.string sep] w fun e w'=>e=.returned (.string ⟨#[]⟩)/\w'=w:=Any.strings_Join_none Tryz.JR Tryz.Ig a c sep w
open Go.RowKit in
theorem Tryz.strings_Join(C o c:Nat)(xs:List ByteArray)(sep:ByteArray)(w:World)(U:∀ (j:Nat) x,xs[j]? =some x->w.cell? ⟨C,o+j,none⟩=some (.string x))(M:C<w.heap.size)(J:xs.length<=140737488355328)(oh:xs.length<=c)(hlen:(Lib.join (xs.map (·.data.toList)) sep.data.toList).length<=140737488355328):
 Calls Tryz.prog 199 #[.slice (some ⟨C,o,none⟩) xs.length c,.string sep] w fun e w'=>e=.returned (.string ⟨(Lib.join (xs.map (·.data.toList)) sep.data.toList).toArray⟩)/\Below w.heap.size w w':=Any.strings_Join Tryz.JR Tryz.Ig C o c xs sep w U M J oh hlen
def Tryz.WT:Go.Shelf.Ren:=⟨fun|171=>145|243=>200|246=>237|283=>247|284=>248|285=>249|286=>250|129=>256|317=>255|318=>257|319=>258|320=>259|337=>270|338=>271|n=>n,fun|3=>3|9=>9|2=>2|4=>4|171=>291|0=>0|53=>199|37=>45|5=>5|173=>294|212=>200|51=>300|20=>20|213=>301|46=>69|232=>316|233=>317|n=>n,fun|17=>0|18=>2|19=>3|n=>n⟩
theorem Tryz.abr:Go.Proofs.LaysM.n171 Tryz.prog Tryz.WT:={
 mixed:=kr
 f129:= Tryz.func256.trans (congrArg some kr)
 f171:= Tryz.func145.trans (congrArg some kr)
 f243:= Tryz.func200.trans (congrArg some kr)
 f246:= Tryz.func237.trans (congrArg some kr)
 f283:= Tryz.func247.trans (congrArg some kr)
 f284:= Tryz.func248.trans (congrArg some kr)
 f285:= Tryz.func249.trans (congrArg some kr)
 f286:= Tryz.func250.trans (congrArg some kr)
 f317:= Tryz.func255.trans (congrArg some kr)
 f318:= Tryz.func257.trans (congrArg some kr)
 f319:= Tryz.func258.trans (congrArg some kr)
 f320:= Tryz.func259.trans (congrArg some kr)
 f337:= Tryz.func270.trans (congrArg some kr)
 f338:= Tryz.func271.trans (congrArg some kr)
 t0:= Tryz.underlying0
 a0:= Tryz.isAgg0
 z0:= Tryz.sizeOf0
 v0:= Tryz.zeroValue0
 t2:= Tryz.underlying2
 a2:= Tryz.isAgg2
 z2:= Tryz.sizeOf2
 v2:= Tryz.zeroValue2
 t3:= Tryz.underlying3
 a3:= Tryz.isAgg3
 z3:= Tryz.sizeOf3
 v3:= Tryz.zeroValue3
 t4:= Tryz.underlying4
 a4:= Tryz.isAgg4
 z4:= Tryz.sizeOf4
 v4:= Tryz.zeroValue4
 t5:= Tryz.underlying5
 a5:= Tryz.isAgg5
 z5:= Tryz.sizeOf5
 v5:= Tryz.zeroValue5
 t9:= Tryz.underlying9
 a9:= Tryz.isAgg9
 z9:= Tryz.sizeOf9
 v9:= Tryz.zeroValue9
 t20:= Tryz.underlying20
 a20:= Tryz.isAgg20
 z20:= Tryz.sizeOf20
 v20:= Tryz.zeroValue20
 t37:= Tryz.underlying45
 a37:= Tryz.isAgg45
 z37:= Tryz.sizeOf45
 v37:= Tryz.zeroValue45
 t46:= Tryz.underlying69
 a46:= Tryz.isAgg69
 z46:= Tryz.sizeOf69
 v46:= Tryz.zeroValue69
 t51:= Tryz.underlying300
 a51:= Tryz.isAgg300
 z51:= Tryz.sizeOf300
 v51:= Tryz.zeroValue300
 t53:= Tryz.underlying199
 a53:= Tryz.isAgg199
 z53:= Tryz.sizeOf199
 v53:= Tryz.zeroValue199
 t171:= Tryz.underlying291
 a171:= Tryz.isAgg291
 z171:= Tryz.sizeOf291
 v171:= Tryz.zeroValue291
 t173:= Tryz.underlying294
 a173:= Tryz.isAgg294
 z173:= Tryz.sizeOf294
 v173:= Tryz.zeroValue294
 t212:= Tryz.underlying200
 a212:= Tryz.isAgg200
 z212:= Tryz.sizeOf200
 v212:= Tryz.zeroValue200
 t213:= Tryz.underlying301
 a213:= Tryz.isAgg301
 z213:= Tryz.sizeOf301
 t232:= Tryz.underlying316
 a232:= Tryz.isAgg316
 z232:= Tryz.sizeOf316
 v232:= Tryz.zeroValue316
 t233:= Tryz.underlying317
 a233:= Tryz.isAgg317
 z233:= Tryz.sizeOf317
 v233:= Tryz.zeroValue317
 g17:=kr
 g18:=kr
 g19:=kr
 i0:=kr
 i2:=kr
 i3:=kr
 i4:=kr
 i5:=kr
 i9:=kr
 i20:=kr
 i37:=kr
 i46:=kr
 i51:=kr
 i53:=kr
 i171:=kr
 i173:=kr
 i212:=kr
 i232:=kr
 i233:=kr
 m17:=kr
 m18:=kr
 m19:=by kernel_rfl }
end Go.Proofs
section
open Go Go.Abs Go.Proofs Go.Argus
namespace Go.Proofs.Tryz.K
theorem adK{P:Program}{w:World}{name:String}{g:Nat}{cs:Array Value}(hg:P.globalNamed name=some g)(h:∃ e k,w.heap[g]? =some (.cells cs e k)):w.var? P name=some cs:=by
 obtain⟨e,k,h⟩:=h;unfold World.var?;rw[hg];simp only[Option.bind_some,h]
theorem ZX{w:World}{k:Nat}{os:Array Obj}:Kept w (Sort.grow (w.drewN k) os):=by
 refine⟨?_,fun b hb=>?_,rfl,rfl⟩
 .show w.heap.size<=(w.heap++os).size;rw[Array.size_append];omega
 .show(w.heap++os)[b]? =_;rw[Array.getElem?_append_left hb]
theorem Yo{w w':World}(h:Go.RowKit.Below w.heap.size w w'):Kept w w':=⟨h.size,h.block,h.os,h.output⟩
theorem abt(n:Int)(h0: -9223372036854775808<=n)(h1:n<=9223372036854775807)(w:World)(C:∀ t∈uc,As w t):
 Calls prog 145 #[.int .i64 n] w fun e w'=>e=.returned (.string ⟨(Lib.itoa n).toArray⟩)/\Kept w w':=by
 refine(Any.strconv_Itoa Tryz.abr n h0 h1 w (adK (g:=0) kr (C (0,_) (.head _)))).mono fun e w' h=>⟨h.1,?_⟩
 obtain⟨k,os,rfl⟩:=h.2;exact ZX
theorem T4{n:Int}(h0: -9223372036854775808<=n)(h1:n<=9223372036854775807):aB prog 145 [I n] (S ⟨(Lib.itoa n).toArray⟩):=by
 refine⟨by kernel_rfl,by simp[Tr.s],fun F w vs C J=>?_⟩;obtain⟨hs,hr⟩:=J
 have hv:vs= #[.int .i64 n]:=by
  have hs:vs.size=1:=hs;have h2:=(hr 0 _ vs[0] rfl (by simp[hs])).cV.1;apply Array.ext
  .rw[hs];rfl
  .intro i hi _;have:i=0:=by omega
   subst this;exact h2
 subst hv;exact(abt n h0 h1 w fun t ht=>(C.me t ht).2).mono fun e w' h=>⟨_,h.1,.s _ rfl,h.2⟩
def AB(l:List ByteArray)(sep:ByteArray):ByteArray:=⟨(Lib.join (l.map (·.data.toList)) sep.data.toList).toArray⟩
theorem LK{l:List ByteArray}{sep:ByteArray}(hl:l.length<=140737488355328)(hlen:(Lib.join (l.map (·.data.toList)) sep.data.toList).length<=140737488355328):aB prog 199 [bU l,S sep] (S (AB l sep)):=by
 refine⟨by kernel_rfl,by simp[Tr.s,iV],fun F w vs hF hR=>?_⟩;obtain⟨hs,hr⟩:=hR;have hs:vs.size=2:=hs;have h1:=hr 0 _ vs[0] rfl (by simp[hs]);have h2:=(hr 1 _ vs[1] rfl (by simp[hs])).cV.1
 have hv:vs= #[vs[0],.string sep]:=by
  apply Array.ext
  .exact hs
  .intro i hi _;have:i=0\/i=1:=by omega
   rcases this with rfl|rfl
   .rfl
   .exact h2
 rcases h1.tJ with⟨J,g2,a,cap,C⟩|⟨b,o,cap,C,M,h4,h5,h6,U,us,X,h9⟩
 .rw[C] at hv;rw[hv];have oB:l=[]:=by simpa using J
  subst oB;exact(Tryz.strings_Join_none a cap sep w).mono fun e w' h=>⟨_,h.1,.s _ rfl,h.2▸⟨bd _,fun _ _=>rfl,rfl,rfl⟩⟩
 .rw[C] at hv;rw[hv];refine(Tryz.strings_Join b o cap l sep w (fun j x hx=>?_) U hl M hlen).mono fun e w' h=>⟨_,h.1,.s _ rfl,Yo h.2⟩
  have hj:j<l.length:=(bC.1 hx).1;have:=(h9 j (S x) (by simp[hx])).cV.1;rw[(X j (by simpa using hj)).1,this]
end Go.Proofs.Tryz.K
end
namespace Go.Abs
section
variable{P:Program}{Y:eg}{rf:Bool}{ops:Array Oper}{dr:Bool}{cf:List (Nat×Nat)}{Q:Exit->St->Prop}{rest:List Oper}{env:Env}{m:Mem}{nx:Nat}{tr:jJ}{t:Nat}{op:Op}{ty:TypeId}{pos:String}{after:Array Edge}{v:D}{rd:List Nat}
theorem CD{d:Option Nat}{e:du}(he:c6 P (a6 env op) m nx op e)(ha:fM env op.operands.toList)(K:aq P Y ops dr cf Q rest (St.put ⟨env,cC m e.aQ,nx+e.new⟩ d e.val) (tr++[(e.rd,e.aQ.map (·.1))])):
 aq P Y ops dr cf Q (⟨d,op,ty,pos,after,none⟩::rest) ⟨env,m,nx⟩ tr:=.inr ⟨rfl,oQ ha,e,he,K⟩
theorem q8(he:c6 P (a6 env op) m nx op ⟨True,v,[],rd,0⟩)(ha:fM env op.operands.toList)(K:aq P Y ops dr cf Q rest ⟨up env t v,m,nx⟩ (tr++[(rd,[])])):
 aq P Y ops dr cf Q (⟨some t,op,ty,pos,after,none⟩::rest) ⟨env,m,nx⟩ tr:=CD he ha K
theorem G8{row:Row}(he:c6 P (a6 env op) m nx op ⟨True,v,[(nx,some row)],rd,1⟩)(ha:fM env op.operands.toList)(K:aq P Y ops dr cf Q rest ⟨up env t v,up m nx (some row),nx+1⟩ (tr++[(rd,[nx])])):
 aq P Y ops dr cf Q (⟨some t,op,ty,pos,after,none⟩::rest) ⟨env,m,nx⟩ tr:=CD he ha K
theorem ag3{i:Nat}{row:Row}(he:c6 P (a6 env op) m nx op ⟨True,v,[(i,none),(nx,some row)],rd,1⟩)(ha:fM env op.operands.toList)(K:aq P Y ops dr cf Q rest ⟨up env t v,up (up m i none) nx (some row),nx+1⟩ (tr++[(rd,[i,nx])])):
 aq P Y ops dr cf Q (⟨some t,op,ty,pos,after,none⟩::rest) ⟨env,m,nx⟩ tr:=CD he ha K
theorem ag4{i:Nat}(he:c6 P (a6 env op) m nx op ⟨True,v,[(i,none)],rd,0⟩)(ha:fM env op.operands.toList)(K:aq P Y ops dr cf Q rest ⟨up env t v,up m i none,nx⟩ (tr++[(rd,[i])])):
 aq P Y ops dr cf Q (⟨some t,op,ty,pos,after,none⟩::rest) ⟨env,m,nx⟩ tr:=CD he ha K
theorem TS{i:Nat}{row:Option Row}(he:c6 P (a6 env op) m nx op ⟨True,v,[(i,row)],rd,0⟩)(ha:fM env op.operands.toList)(K:aq P Y ops dr cf Q rest ⟨env,up m i row,nx⟩ (tr++[(rd,[i])])):
 aq P Y ops dr cf Q (⟨none,op,ty,pos,after,none⟩::rest) ⟨env,m,nx⟩ tr:=CD he ha K
variable{x y z:Operand}{src dst tt u p:TypeId}{a b:ByteArray}{l:List Int}{i off n:Nat}{cs es:List D}{k k':IntKind}
theorem adZ(hx:(opd env x).core=.s (.string a))(hy:(opd env y).core=.s (.string b))(h:a.size+b.size<=maxLen):c6 P (a6 env (.binOp .add tt x y p)) m nx (.binOp .add tt x y p) ⟨True,.s (.string (a++b)),[],[],0⟩:=.add tt p x y a b hx hy h
theorem ac4{r:Int}(hx:(opd env x).core=.s (.int k r))(hs:P.underlying src=some (.int k'))(hd:fN P dst=true)(h:0<=r/\r<128):c6 P (a6 env (.convert src dst x)) m nx (.convert src dst x) ⟨True,.s (.string (mkStr [r])),[],[],0⟩:=.rune src dst x k k' r hx hs hd h.1 h.2
theorem ad0{h c:Operand}(hx:(opd env x).core=.sl es n)(hh:(opd env h).core=.s (.int k n))(hc:(opd env c).core=.s (.int k' n))(ht:bh P tt=true)(hn:n*P.cellsOf (aD P tt)=es.length):c6 P (a6 env (.slice tt x none (some h) (some c))) m nx (.slice tt x none (some h) (some c)) ⟨True,.sc es n,[],[],0⟩:=.cut tt x h c es n k k' hx hh hc ht hn
theorem YJ{s:Operand}{e:TypeId}(hs:(opd env s).core=.z)(hx:(opd env x).core=.s (.string b))(he:aD P tt=e)(ht:qg P tt)(hu:fN P u=true)(hb:b.size<=140737488355328)(h1:P.bytesOf e=1):
 c6 P (a6 env (.call { callee:=.builtin .append,args:= #[s,x],argTypes:= #[tt,u] })) m nx (.call { callee:=.builtin .append,args:= #[s,x],argTypes:= #[tt,u] }) ⟨True,.rs nx 0 b.size,[(nx,some (.cells (fj b) e))],[],1⟩:=by
 subst he;exact .xf _ s x tt u b rfl hs hx ht hu (by unfold maxLen;omega) (by rw[h1];omega)
theorem aac{s:Operand}{e:TypeId}(hs:(opd env s).core=.rs i off n)(hx:(opd env x).core=.s (.string b))(hi:m i=some (.cells cs e))(he:aD P tt=e)(ht:qg P tt)(hu:fN P u=true)(hf:off+n=cs.length)(hb:n+b.size<=140737488355328)(h1:P.bytesOf e=1):
 c6 P (a6 env (.call { callee:=.builtin .append,args:= #[s,x],argTypes:= #[tt,u] })) m nx (.call { callee:=.builtin .append,args:= #[s,x],argTypes:= #[tt,u] }) ⟨True,.rs nx 0 (n+b.size),[(i,none),(nx,some (.cells (cs.drop off++fj b) e))],[i],1⟩:=by
 subst he;exact .xx _ s x tt u b i off n cs rfl hs hx hi ht hu hf (by unfold maxLen;omega) (by rw[h1];omega)
theorem abM{s:Operand}{e:TypeId}{news:List D}{C sz:Nat}{pp:Prop}(hs:(opd env s).core=.sc es n)(he:aD P tt=e)(hc:P.cellsOf e=sz)(hx:jq m sz (opd env x).core=some (pp,rd,C,news))(hp:pp)(ht:bh P tt=true)(hn:n*sz=es.length)(hk:0<C)(hz:0<sz)(hm:n+C<=maxLen)(hb:(n+C)*P.bytesOf e<=140737488355328):
 c6 P (a6 env (.call { callee:=.builtin .append,args:= #[s,x],argTypes:= #[tt,tt] })) m nx (.call { callee:=.builtin .append,args:= #[s,x],argTypes:= #[tt,tt] }) ⟨True,.rs nx 0 (n+C),[(nx,some (.cells (es++news) e))],rd,1⟩:=by
 subst he;subst hc;exact .xS _ s x tt es news n C pp rd rfl hs hx hp ht hn hk hz hm hb
theorem abN{s:Operand}{r:Row}(hs:(opd env s).core=.rs i off n)(hi:m i=some r)(hn:0<n):c6 P (a6 env (.call { callee:=.builtin .unsafeSliceData,args:= #[s],argTypes:= #[tt] })) m nx (.call { callee:=.builtin .unsafeSliceData,args:= #[s],argTypes:= #[tt] }) ⟨True,.rp i off,[],[i],0⟩:=.xT _ s tt i off n r rfl hs hi hn
theorem ac5{s:Operand}{e:TypeId}(hp:(opd env x).core=.rp i off)(hn:(opd env y).core=.s (.int k n))(C:l.length=n)(hi:m i=some (.cells cs e))(hl:(cs.drop off).take n=lM l)(h0:0<n)(ht:P.underlying tt=some (.pointer e))(he:P.cellsOf e=1)(hm:n<=maxLen)(hr:∀ x∈l,0<=x/\x<256):
 c6 P (a6 env (.call { callee:=.builtin .unsafeString,args:= #[x,y],argTypes:= #[tt,u] })) m nx (.call { callee:=.builtin .unsafeString,args:= #[x,y],argTypes:= #[tt,u] }) ⟨True,.s (.string (mkStr l)),[(i,none)],[i],0⟩:=by
 subst C;exact .yq _ x y tt u e l i off cs k rfl hp hn hi hl (List.length_pos_iff.1 h0) ht he hm hr
theorem Ke{es:List (Value×D)}(hx:(opd env x).core=.mp i)(hi:m i=some (.map es))(ht:fK P tt=true):c6 P (a6 env (.call { callee:=.builtin .len,args:= #[x],argTypes:= #[tt] })) m nx (.call { callee:=.builtin .len,args:= #[x],argTypes:= #[tt] }) ⟨True,.s (.int .i64 es.length),[],[i],0⟩:=.yp _ x tt i es rfl hx hi ht
theorem aad(hb:G5 tt=true)(ht:aG P tt=true)(hz:a8 P tt=[.s (.pointer none),.z]):c6 P (a6 env (.alloc tt)) m nx (.alloc tt) ⟨True,.rp nx 0,[(nx,some (.bs false .z tt))],[],1⟩:=.Ad tt hb ht hz
theorem ac6{d:D}(hb:G5 tt=true)(hx:((opd env x).core).cells=[.s (.pointer none),d])(hd:d.one=true)(hs:P.cellsOf tt=2):c6 P (a6 env (.box tt x)) m nx (.box tt x) ⟨True,.rp nx 0,[(nx,some (.bs false d tt))],[],1⟩:=.AL tt x d hb hx hd hs
theorem Fp{q:Bool}{d:D}{T:TypeId}(ha:(opd env x).core=.rp i 1)(hi:m i=some (.bs q d T))(ht:aG P tt=true)(hg:bm P tt=false):c6 P (a6 env (.load tt x)) m nx (.load tt x) ⟨True,d,[],[i],0⟩:=.Au tt x i q d T ha hi ht hg
theorem PY{q:Bool}{d d':D}{T:TypeId}(ha:(opd env x).core=.rp i 1)(hi:m i=some (.bs q d T))(ht:aG P tt=true)(hg:bm P tt=false)(hy:(opd env y).core=d')(h1:d'.one=true):c6 P (a6 env (.store tt x y)) m nx (.store tt x y) ⟨True,.aL [],[(i,some (.bs q d' T))],[i],0⟩:=by
 subst hy;exact .xy tt x y i q d T ha hi ht hg h1
end
end Go.Abs
section
open Go Go.Abs Go.Proofs Go.Argus
open Go.Shelf Go.RowKit
namespace Go.Proofs.Tryz.K
theorem Ru:Go.Proofs.Lays.n240 prog Tryz.zz:={ Tryz.JR with }
theorem U4:Builder.X72 prog Tryz.zz:={ Tryz.Ig with }
set_option maxRecDepth 100000 in
theorem XY{T:TypeId}(hl:liesAt prog prog.depth T (2 / prog.cellsOf T) 0 183 1=true)(b:Nat)(w:World)(h0:w.cell? ⟨b,0,none⟩=some (.pointer none))(U:w.shape? b=some (T,2))(hfz:w.frozen? ⟨b,0,none⟩=false):
 Calls prog 160 #[.pointer (some ⟨b,0,none⟩)] w fun e w'=>e=.returned (.tuple #[])/\w'=w.setCell ⟨b,0,none⟩ (.pointer (some ⟨b,0,none⟩)):=by
 have L:=Ru;have X:=U4;obtain⟨j,hj,C⟩:=cO.1 X.sizeBuilder;have mixed:=L.mixed;have t72:=L.t72;have a72:=L.a72;have z72:=L.z72;have M:=L.v72;have U5:=run_underlying L.t72;have t70:=L.t70;have a70:=L.a70;have z70:=L.z70;have J:=L.v70;have U6:=run_underlying L.t70;have t9:=L.t9;have a9:=L.a9;have z9:=L.z9;have v9:=L.v9;have u9:=run_underlying L.t9;have t4:=L.t4;have a4:=L.a4;have z4:=L.z4;have v4:=L.v4;have u4:=run_underlying L.t4;have t164:=L.t164;have a164:=L.a164;have z164:=L.z164;have v164:=L.v164;have amt:=run_underlying L.t164;show Calls prog (Tryz.zz.f 240) _ _ _
 go_enter L.f240,Body.n240_ntmps Tryz.zz
 go_wp2
 rw[Lib.run_to_unsafe w ⟨b,0,none⟩ L.t70 L.t164 hj (by rw[C];decide) U (Nat.zero_lt_succ 1)];simp only[Result.andThen];rw[Oper.upon_value]
 go_wp2
 rw[run_callFunc_extern L.f276 kr kr kr (e:=Extern.AbiNoEscape.same) kr];rw[Lib.run_noEscape];simp only[Result.andThen];rw[Oper.upon_value]
 go_wp2
 rw[Lib.run_from_unsafe w ⟨b,0,none⟩ L.t164 L.t70 hj U hl];simp only[Result.andThen];rw[Oper.upon_value]
 go_wp2
 go_end0
 exact⟨rfl,rfl⟩
theorem ab6{m:Mem}{i:Nat}{r:Row}(h:m i=some r):up m i (some r)=m:=by
 funext j;by_cases hj:j=i
 .subst hj;rw[ah,h]
 .rw[aA _ _ hj]
theorem ahJ{m:Mem}{nx j:Nat}{u:Bool}{x:D}{T:TypeId}(hj:m j=some (.bs u x T))(hl:liesAt prog prog.depth T (2 / prog.cellsOf T) 0 183 1=true):
 fG prog 160 [.rp j 0] m nx fun d m' ai=>d=.aL []/\m'=up m j (some (.bs true x T))/\ai=nx:=by
 refine⟨by kernel_rfl,fun F β w vs hm M U=>?_⟩;have hs:vs.size=1:=U.1;have h0:=U.2 0 _ vs[0] rfl (by simp[hs]);obtain⟨b,v,hβ,hv,hb,hT,hx,h1⟩:=Kh hm h0 hj
 have HJ:vs= #[.pointer (some ⟨b,0,none⟩)]:=by
  apply Array.ext
  .exact hs
  .intro i hi _;have:i=0:=by omega
   subst this;exact hv
 subst HJ;have C:w.cell? ⟨b,0,none⟩=some (.pointer (if u then some ⟨b,0,none⟩ else none)):=by rw[Lib.cell_of_heap hb];rfl
 cases u with
 |true=>
  refine(Any.Builder_copyCheck_used Ru U4 b w C).mono fun e w' h=>?_;obtain⟨rfl,rfl⟩:=h;exact⟨_,_,_,_,β,rfl,⟨rfl,(ab6 hj).symm▸rfl,rfl⟩,hm,M,.aL [] [] rfl oS,Step.refl _ _,bd _,fun _ _ h=>h⟩
 |false=>
  refine(XY hl b w C (by simp[World.shape?,hb]) (by simp[World.frozen?,hb])).mono fun e w' h=>?_;obtain⟨rfl,rfl⟩:=h;have hh:(w.setCell ⟨b,0,none⟩ (.pointer (some ⟨b,0,none⟩))).heap[b]? =some (.cells #[.pointer (some ⟨b,0,none⟩),v] T (0,0)):=by simp[World.setCell,Array.getElem?_modify,hb]
  have X:∀ k,k≠b->(w.setCell ⟨b,0,none⟩ (.pointer (some ⟨b,0,none⟩))).heap[k]? =w.heap[k]? :=fun k hk=>Below.heap_setCell _ _ _ _ hk;have bA:(w.setCell ⟨b,0,none⟩ (.pointer (some ⟨b,0,none⟩))).heap.size=w.heap.size:=by simp[World.setCell]
  have J:=BQ hm hβ rfl oG X;have fB:=hm.write hβ rfl bA X (.bs true x T) (.bs true x T b v hh hT (hx.step J) h1);exact⟨_,_,_,_,β,rfl,⟨rfl,rfl,rfl⟩,fB,M,.aL [] [] rfl oS,J,bd _,fun _ _ h=>h⟩
theorem ab7:liesAt prog prog.depth 213 (2 / prog.cellsOf 213) 0 183 1=true:=kr
end Go.Proofs.Tryz.K
end
namespace Go.Proofs.Tryz.K
open Go.Abs
noncomputable def bo(f:Func):Code:=(f.body).getD .skip
abbrev FO(n:FuncId)(f:Func)(c:Code):=ld prog n f c
theorem fo{n:FuncId}{f:Func}{c:Code}(h1:prog.funcs[n]? =some f:=by kernel_rfl)(h2:f.body=some c:=by kernel_rfl)(C:gA f.ntmps c=true:=by kernel_rfl)(J:nZ prog n=true:=by kernel_rfl):FO n f c:=⟨h1,h2,C,J⟩
noncomputable def ik:=bo Tryz.f5
theorem ok5:FO 5 Tryz.f5 ik:=fo
noncomputable def fx:=bo Tryz.f13
theorem Uv:FO 13 Tryz.f13 fx:=fo
noncomputable def tP:=bo Tryz.f14
theorem Ut:FO 14 Tryz.f14 tP:=fo
noncomputable def mz:=bo Tryz.f15
theorem ajy:FO 15 Tryz.f15 mz:=fo
noncomputable def xH:=bo Tryz.f16
theorem aiv:FO 16 Tryz.f16 xH:=fo
noncomputable def ep:=bo Tryz.f18
theorem Ue:FO 18 Tryz.f18 ep:=fo
noncomputable def pI:=bo Tryz.f20
theorem Ux:FO 20 Tryz.f20 pI:=fo
noncomputable def jd:=bo Tryz.f22
theorem ai7:FO 22 Tryz.f22 jd:=fo
noncomputable def vz:=bo Tryz.f24
theorem ai3:FO 24 Tryz.f24 vz:=fo
noncomputable def pJ:=bo Tryz.f27
theorem Uy:FO 27 Tryz.f27 pJ:=fo
noncomputable def pK:=bo Tryz.f28
theorem Uu:FO 28 Tryz.f28 pK:=fo
noncomputable def je:=bo Tryz.f30
theorem ah1:FO 30 Tryz.f30 je:=fo
noncomputable def o3:=bo Tryz.f35
theorem aiO:FO 35 Tryz.f35 o3:=fo
noncomputable def Gq:=bo Tryz.f39
theorem ajl:FO 39 Tryz.f39 Gq:=fo
noncomputable def Sl:=bo Tryz.f42
theorem ajq:FO 42 Tryz.f42 Sl:=fo
noncomputable def gC:=bo Tryz.f43
theorem ain:FO 43 Tryz.f43 gC:=fo
noncomputable def jx:=bo Tryz.f44
theorem aiq:FO 44 Tryz.f44 jx:=fo
noncomputable def pL:=bo Tryz.f45
theorem ais:FO 45 Tryz.f45 pL:=fo
noncomputable def Gr:=bo Tryz.f48
theorem aib:FO 48 Tryz.f48 Gr:=fo
noncomputable def o4:=bo Tryz.f49
theorem aiz:FO 49 Tryz.f49 o4:=fo
noncomputable def Gs:=bo Tryz.f50
theorem aix:FO 50 Tryz.f50 Gs:=fo
noncomputable def nn:=bo Tryz.f55
theorem aiW:FO 55 Tryz.f55 nn:=fo
noncomputable def gm:=bo Tryz.f56
theorem ai0:FO 56 Tryz.f56 gm:=fo
noncomputable def gD:=bo Tryz.f57
theorem aii:FO 57 Tryz.f57 gD:=fo
noncomputable def Gt:=bo Tryz.f58
theorem ai5:FO 58 Tryz.f58 Gt:=fo
noncomputable def vA:=bo Tryz.f63
theorem ajT:FO 63 Tryz.f63 vA:=fo
noncomputable def dM:=bo Tryz.f64
theorem ahZ:FO 64 Tryz.f64 dM:=fo
noncomputable def o1:=bo Tryz.f65
theorem ah3:FO 65 Tryz.f65 o1:=fo
noncomputable def CO:=bo Tryz.f67
theorem ail:FO 67 Tryz.f67 CO:=fo
noncomputable def xI:=bo Tryz.f70
theorem aiK:FO 70 Tryz.f70 xI:=fo
noncomputable def Gu:=bo Tryz.f71
theorem aiF:FO 71 Tryz.f71 Gu:=fo
noncomputable def pM:=bo Tryz.f72
theorem Uw:FO 72 Tryz.f72 pM:=fo
noncomputable def Gv:=bo Tryz.f73
theorem ajH:FO 73 Tryz.f73 Gv:=fo
noncomputable def xJ:=bo Tryz.f74
theorem ahV:FO 74 Tryz.f74 xJ:=fo
noncomputable def Gw:=bo Tryz.f76
theorem ahM:FO 76 Tryz.f76 Gw:=fo
noncomputable def Sm:=bo Tryz.f81
theorem ajr:FO 81 Tryz.f81 Sm:=fo
noncomputable def np:=bo Tryz.f82
theorem aif:FO 82 Tryz.f82 np:=fo
noncomputable def sg:=bo Tryz.f83
theorem aid:FO 83 Tryz.f83 sg:=fo
noncomputable def Gx:=bo Tryz.f86
theorem aiU:FO 86 Tryz.f86 Gx:=fo
noncomputable def Gy:=bo Tryz.f87
theorem aiS:FO 87 Tryz.f87 Gy:=fo
noncomputable def Gz:=bo Tryz.f88
theorem aiQ:FO 88 Tryz.f88 Gz:=fo
noncomputable def sk:=bo Tryz.f89
theorem T0:FO 89 Tryz.f89 sk:=fo
noncomputable def GA:=bo Tryz.f90
theorem aiY:FO 90 Tryz.f90 GA:=fo
noncomputable def An:=bo Tryz.f91
theorem ah5:FO 91 Tryz.f91 An:=fo
noncomputable def Ao:=bo Tryz.f92
theorem ah7:FO 92 Tryz.f92 Ao:=fo
noncomputable def xG:=bo Tryz.f93
theorem ajZ:FO 93 Tryz.f93 xG:=fo
noncomputable def Ap:=bo Tryz.f94
theorem ah9:FO 94 Tryz.f94 Ap:=fo
noncomputable def dN:=bo Tryz.f97
theorem ajR:FO 97 Tryz.f97 dN:=fo
noncomputable def fS:=bo Tryz.f98
theorem ajO:FO 98 Tryz.f98 fS:=fo
noncomputable def o5:=bo Tryz.f99
theorem ahX:FO 99 Tryz.f99 o5:=fo
noncomputable def rR:=bo Tryz.f100
theorem aeQ:FO 100 Tryz.f100 rR:=fo
noncomputable def dE:=bo Tryz.f111
theorem Td:FO 111 Tryz.f111 dE:=fo
noncomputable def Fx:=bo Tryz.f112
theorem aeX:FO 112 Tryz.f112 Fx:=fo
noncomputable def kf:=bo Tryz.f114
theorem afe:FO 114 Tryz.f114 kf:=fo
noncomputable def rS:=bo Tryz.f115
theorem aeO:FO 115 Tryz.f115 rS:=fo
noncomputable def Fy:=bo Tryz.f116
theorem aeM:FO 116 Tryz.f116 Fy:=fo
noncomputable def z8:=bo Tryz.f119
theorem aev:FO 119 Tryz.f119 z8:=fo
noncomputable def Cs:=bo Tryz.f120
theorem aeK:FO 120 Tryz.f120 Cs:=fo
noncomputable def rT:=bo Tryz.f122
theorem Tt:FO 122 Tryz.f122 rT:=fo
noncomputable def Ct:=bo Tryz.f123
theorem agq:FO 123 Tryz.f123 Ct:=fo
noncomputable def Fz:=bo Tryz.f124
theorem afU:FO 124 Tryz.f124 Fz:=fo
noncomputable def FA:=bo Tryz.f125
theorem af2:FO 125 Tryz.f125 FA:=fo
noncomputable def FC:=bo Tryz.f126
theorem aeg:FO 126 Tryz.f126 FC:=fo
noncomputable def FD:=bo Tryz.f127
theorem afY:FO 127 Tryz.f127 FD:=fo
noncomputable def FE:=bo Tryz.f128
theorem afW:FO 128 Tryz.f128 FE:=fo
noncomputable def eR:=bo Tryz.f129
theorem agw:FO 129 Tryz.f129 eR:=fo
noncomputable def n3:=bo Tryz.f130
theorem afO:FO 130 Tryz.f130 n3:=fo
noncomputable def mv:=bo Tryz.f131
theorem agu:FO 131 Tryz.f131 mv:=fo
noncomputable def eC:=bo Tryz.f132
theorem afM:FO 132 Tryz.f132 eC:=fo
noncomputable def iW:=bo Tryz.f133
theorem afE:FO 133 Tryz.f133 iW:=fo
noncomputable def xr:=bo Tryz.f134
theorem afC:FO 134 Tryz.f134 xr:=fo
noncomputable def FF:=bo Tryz.f135
theorem ael:FO 135 Tryz.f135 FF:=fo
noncomputable def FG:=bo Tryz.f144
theorem aeE:FO 144 Tryz.f144 FG:=fo
noncomputable def J1:=bo Tryz.f146
theorem aeG:FO 146 Tryz.f146 J1:=fo
noncomputable def FH:=bo Tryz.f147
theorem aeB:FO 147 Tryz.f147 FH:=fo
noncomputable def FI:=bo Tryz.f148
theorem aeI:FO 148 Tryz.f148 FI:=fo
noncomputable def Aa:=bo Tryz.f162
theorem ago:FO 162 Tryz.f162 Aa:=fo
noncomputable def FJ:=bo Tryz.f163
theorem aed:FO 163 Tryz.f163 FJ:=fo
noncomputable def FK:=bo Tryz.f164
theorem afQ:FO 164 Tryz.f164 FK:=fo
noncomputable def FL:=bo Tryz.f165
theorem af0:FO 165 Tryz.f165 FL:=fo
noncomputable def rU:=bo Tryz.f166
theorem S6:FO 166 Tryz.f166 rU:=fo
noncomputable def FM:=bo Tryz.f167
theorem afS:FO 167 Tryz.f167 FM:=fo
noncomputable def FN:=bo Tryz.f168
theorem TC:FO 168 Tryz.f168 FN:=fo
noncomputable def Ab:=bo Tryz.f169
theorem TD:FO 169 Tryz.f169 Ab:=fo
noncomputable def oY:=bo Tryz.f170
theorem agd:FO 170 Tryz.f170 oY:=fo
noncomputable def rV:=bo Tryz.f171
theorem TF:FO 171 Tryz.f171 rV:=fo
noncomputable def FP:=bo Tryz.f172
theorem af9:FO 172 Tryz.f172 FP:=fo
noncomputable def FQ:=bo Tryz.f173
theorem agj:FO 173 Tryz.f173 FQ:=fo
noncomputable def FR:=bo Tryz.f174
theorem afA:FO 174 Tryz.f174 FR:=fo
noncomputable def FT:=bo Tryz.f175
theorem aeS:FO 175 Tryz.f175 FT:=fo
noncomputable def Cu:=bo Tryz.f176
theorem TE:FO 176 Tryz.f176 Cu:=fo
noncomputable def Cv:=bo Tryz.f177
theorem ags:FO 177 Tryz.f177 Cv:=fo
noncomputable def RL:=bo Tryz.f178
theorem agN:FO 178 Tryz.f178 RL:=fo
noncomputable def xt:=bo Tryz.f179
theorem aen:FO 179 Tryz.f179 xt:=fo
noncomputable def rW:=bo Tryz.f180
theorem aep:FO 180 Tryz.f180 rW:=fo
noncomputable def eV:=bo Tryz.f181
theorem agG:FO 181 Tryz.f181 eV:=fo
noncomputable def FU:=bo Tryz.f182
theorem agA:FO 182 Tryz.f182 FU:=fo
noncomputable def vj:=bo Tryz.f183
theorem aer:FO 183 Tryz.f183 vj:=fo
noncomputable def lK:=bo Tryz.f184
theorem agI:FO 184 Tryz.f184 lK:=fo
noncomputable def tG:=bo Tryz.f185
theorem ae3:FO 185 Tryz.f185 tG:=fo
noncomputable def pB:=bo Tryz.f186
theorem agE:FO 186 Tryz.f186 pB:=fo
noncomputable def rX:=bo Tryz.f201
theorem Tb:FO 201 Tryz.f201 rX:=fo
noncomputable def rY:=bo Tryz.f202
theorem Tc:FO 202 Tryz.f202 rY:=fo
noncomputable def FV:=bo Tryz.f203
theorem aez:FO 203 Tryz.f203 FV:=fo
noncomputable def rZ:=bo Tryz.f223
theorem S7:FO 223 Tryz.f223 rZ:=fo
noncomputable def r3:=bo Tryz.f226
theorem S5:FO 226 Tryz.f226 r3:=fo
noncomputable def n4:=bo Tryz.f227
theorem agb:FO 227 Tryz.f227 n4:=fo
noncomputable def FW:=bo Tryz.f228
theorem aej:FO 228 Tryz.f228 FW:=fo
noncomputable def FX:=bo Tryz.f229
theorem agl:FO 229 Tryz.f229 FX:=fo
noncomputable def FY:=bo Tryz.f230
theorem af7:FO 230 Tryz.f230 FY:=fo
noncomputable def FZ:=bo Tryz.f231
theorem agh:FO 231 Tryz.f231 FZ:=fo
noncomputable def jv:=bo Tryz.f232
theorem afw:FO 232 Tryz.f232 jv:=fo
noncomputable def Ac:=bo Tryz.f233
theorem afy:FO 233 Tryz.f233 Ac:=fo
noncomputable def qM:=bo Tryz.f234
theorem aeU:FO 234 Tryz.f234 qM:=fo
noncomputable def fR:=bo Tryz.f235
theorem agC:FO 235 Tryz.f235 fR:=fo
noncomputable def F0:=bo Tryz.f244
theorem ae7:FO 244 Tryz.f244 F0:=fo
noncomputable def F1:=bo Tryz.f245
theorem aft:FO 245 Tryz.f245 F1:=fo
noncomputable def xu:=bo Tryz.f251
theorem ae5:FO 251 Tryz.f251 xu:=fo
noncomputable def eW:=bo Tryz.f252
theorem afr:FO 252 Tryz.f252 eW:=fo
noncomputable def RM:=bo Tryz.f253
theorem agO:FO 253 Tryz.f253 RM:=fo
noncomputable def RN:=bo Tryz.f256
theorem agP:FO 256 Tryz.f256 RN:=fo
noncomputable def qN:=bo Tryz.f260
theorem afp:FO 260 Tryz.f260 qN:=fo
noncomputable def F3:=bo Tryz.f266
theorem afn:FO 266 Tryz.f266 F3:=fo
noncomputable def RO:=bo Tryz.f269
theorem agQ:FO 269 Tryz.f269 RO:=fo
noncomputable def F4:=bo Tryz.f277
theorem afl:FO 277 Tryz.f277 F4:=fo
theorem bl{f:FuncId}{fn:Func}{c:Code}(hf:ld Tryz.prog f fn c){args:List D}(ht:∀ a∈args,Tr a){r:D}(hr:Tr r)(h:AW Tryz.prog cY true c (gV Tryz.prog fn.results.toList fun d _=>d=r) ⟨ig args,fun _=>none,0⟩)(hn:Nat.ble args.length fn.ntmps=true:=by kernel_rfl):aB Tryz.prog f args r:=aae mixed hf hn ht hr h
theorem HK{f:FuncId}{fn:Func}{c:Code}(hf:ld Tryz.prog f fn c){args:List D}(ht:∀ a∈args,Tr a){es:List D}(C:∀ a∈es,Tr a){k:Nat}{t:TypeId}(h:AW Tryz.prog cY true c (gV Tryz.prog fn.results.toList fun d st=>∃ i,d=.rs i 0 k∧st.mem i=some (.cells es t)) ⟨ig args,fun _=>none,0⟩)(hn:Nat.ble args.length fn.ntmps=true:=by kernel_rfl):ko Tryz.prog f args es k t:=P5 mixed hf hn ht C h
theorem uL{f:FuncId}{fn:Func}{c:Code}(hf:ld Tryz.prog f fn c){args:List D}{m:Mem}{nx:Nat}{dX:D->Mem->Nat->Prop}(h:AW Tryz.prog cY true c (gV Tryz.prog fn.results.toList fun d st=>dX d st.mem st.nx) ⟨ig args,m,nx⟩)(hn:Nat.ble args.length fn.ntmps=true:=by kernel_rfl):fG Tryz.prog f args m nx dX:=P4 mixed hf hn h
def dU(P:Program)(t:TypeId):Array Field:=match P.underlying t with|some (.struct fs)=>fs|_=> #[]
theorem u3:prog.underlying 3=some (.int .i64):=kr
theorem u5:prog.underlying 5=some (.int .u8):=kr
theorem u8:prog.underlying 8=some (.struct (dU prog 8)):=kr
theorem U6:prog.underlying 70=some (.struct (dU prog 70)):=kr
theorem U5:prog.underlying 72=some (.struct (dU prog 72)):=kr
theorem A1:eE prog 93=3:=kr
theorem A2:fK prog 93=true:=kr
theorem K4:eE prog 105=9:=kr
theorem K5:fK prog 105=true:=kr
theorem Lb:lb prog 111=237:=kr
theorem Ul:prog.underlying 121=some (.struct (dU prog 121)):=kr
theorem Tn:((dU prog 121).toList.map fun f=>(f.offset,prog.cellsOf f.type))=[(0,1),(1,1)]:=kr
theorem To:((dU prog 121).toList.all fun f=>(prog.info? f.type).isSome)=true:=kr
theorem Dc:eE prog 144=9:=kr
theorem Dd:fK prog 144=true:=kr
theorem KZ:eE prog 172=121:=kr
theorem K0:fK prog 172=true:=kr
theorem Um:prog.underlying 174=some (.struct (dU prog 174)):=kr
theorem Tq:((dU prog 174).toList.map fun f=>(f.offset,prog.cellsOf f.type))=[(0,2),(2,1)]:=kr
theorem Ts:((dU prog 174).toList.all fun f=>(prog.info? f.type).isSome)=true:=kr
theorem K7:eE prog 194=3:=kr
theorem K8:fK prog 194=true:=kr
end Go.Proofs.Tryz.K
