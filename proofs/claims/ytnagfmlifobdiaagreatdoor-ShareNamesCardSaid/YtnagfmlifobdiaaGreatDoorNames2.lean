/- Part 2. -/
import Derived.Test.YtnagfmlifobdiaaGreatDoorNames1
import Derived.Ground.NamesProg
import Derived.Ground.SlgnProg
import Derived.IntWalk
import Derived.RangeFuncRecord
import Derived.Scope
import Derived.Shelf.LaysM
import Derived.Shelf.Strconv.Itoa0
import Derived.Shelf.Strconv.Itoa1
import Derived.Shelf.Strconv.Itoa2
import Derived.Shelf.Strconv.Itoa3
import Derived.Shelf.Strings.Builder1
import Derived.Shelf.Strings.Builder2
import Derived.Shelf.Strings.OnBuilder
import Derived.Test.YtnagfmlifobdiaaGreatDoorChecked
set_option linter.all false
set_option maxHeartbeats 1000000
open List(range)
namespace Go.Abs
structure ej(P:Program)(F:Nat->Prop)(st:St)(β:aC)(w:World)(a:Act):Prop where
 e:gI F β w st.env a
 m:aJ P F st.mem β w
 n:∀ i,st.nx<=i->β i=none
structure fU(N:Nat)(β:aC)(w:World)(a:Act)(st':St)(β':aC)(w':World)(a':Act):Prop where
 step:Step β w β' w'
 le:N<=st'.nx
 grow:∀ i,i<N->β i=none->β' i=none
 size:a'.tmps.size=a.tmps.size
 defers:a'.defers=a.defers
theorem fU.trans{N:Nat}{β β₁ β₂:aC}{w X w₂:World}{a C J:Act}{U M:St}(h:fU N β w a U β₁ X C)(k:fU U.nx β₁ X C M β₂ w₂ J):fU N β w a M β₂ w₂ J:=
 ⟨h.step.trans k.step,Nat.le_trans h.le k.le,fun i hi hn=>k.grow i (Nat.lt_of_lt_of_le hi h.le) (h.grow i hi hn),k.size.trans h.size,k.defers.trans h.defers⟩
theorem fU.refl(st:St)(β:aC)(w:World)(a:Act):fU st.nx β w a st β w a:=⟨Step.refl β w,a8 _,fun _ _ h=>h,rfl,rfl⟩
def dX(P:Program)(F:Nat->Prop)(N:Nat)(β:aC)(w:World)(a:Act)(Q:Exit->St->Prop)(e:Exit)(a':Act)(w':World):Prop:=
 ∃ st' β',Q e st'/\ej P F st' β' w' a'/\fU N β w a st' β' w' a'
section
variable{P:Program}{F:Nat->Prop}{ops:Array Oper}{o:Oper}{st:St}{β:aC}{w:World}{a:Act}
theorem E4(a:Act)(d:Option Nat)(v:Value):(a.put d v).tmps.size=a.tmps.size:=by
 cases d<;>simp[Act.put]
theorem put_defers(a:Act)(d:Option Nat)(v:Value):(a.put d v).defers=a.defers:=by
 cases d<;>rfl
theorem XE(st:St)(d:Option Nat)(x:D):(st.put d x).env=(match d with|some t=>up st.env t x|none=>st.env):=by
 cases d<;>rfl
theorem OS(st:St)(d:Option Nat)(x:D):(st.put d x).mem=st.mem:=by cases d<;>rfl
theorem B5(st:St)(d:Option Nat)(x:D):(st.put d x).nx=st.nx:=by cases d<;>rfl
theorem ej.put{st':St}{β':aC}{w':World}{d:Option Nat}{x:D}{v:Value}(he:gI F β' w' st'.env a)(hd:∀ t,d=some t->t<a.tmps.size)(hv:R F β' w' x v)(hm:aJ P F st'.mem β' w')(hn:∀ i,st'.nx<=i->β' i=none):
 ej P F (st'.put d x) β' w' (a.put d v):=by
 refine⟨?_,by rw[OS];exact hm,by rw[B5];exact hn⟩;cases d with
 |none=>exact he
 |some t=>exact he.put (some t) x v hv hd
theorem PG{p:dp}(hp:p.Ok P ops o st)(hs:ej P F st β w a)(hd:∀ t,o.dst=some t->t<a.tmps.size)(r:Option Nat)(n:Nat)(C:Exit->Act->World->Prop){K:Act->World->Prop}
 (U:∀ β' a' w',ej P F (St.put ⟨st.env,cB st.mem p.aQ,st.nx+p.new⟩ o.dst p.val) β' w' a'->fU st.nx β w a (St.put ⟨st.env,cB st.mem p.aQ,st.nx+p.new⟩ o.dst p.val) β' w' a'->K a' w'):
 pP r n P ops C o K a w:=by
 refine hp F β w a st.mem st.env st.nx (fun _ _=>rfl) hs.e hs.m (fun _ _ _=>rfl) (fun i h _=>hs.n i h) hs.n r n C K fun v w' β' h1 h2 J M=>?_;refine U β' _ w' (ej.put (st':=⟨st.env,cB st.mem p.aQ,st.nx+p.new⟩) (hs.e.step J) hd h1 h2 fun i hi=>M i (hs.n i (by simp only at hi;omega)) (.inr hi)) ⟨J,by rw[B5];simp,fun i hi hb=>M i hb (.inl hi),E4 _ _ _,put_defers _ _ _⟩
theorem aaM{Y:ea}{dr:Bool}{K:St->List Nat->List Nat->Prop}(h:iW P Y ops dr o st K):
 (∃ p:dp,p.Ok P ops o st/\p.sI (cY o.op) st/\K (St.put ⟨st.env,cB st.mem p.aQ,st.nx+p.new⟩ o.dst p.val) p.rd p.wr)\/
 (dr=false/\∃ f args,iM ops o st true/\asks st.env o.op/\dJ (aX st.env o.op) o.op=some (f,args)/\fD P f args st.mem st.nx fun r m nx=>K (St.put ⟨st.env,m,nx⟩ o.dst r) [] [])\/
 (dr=false/\∃ l args,iM ops o st true/\asks st.env o.op/\kW (aX st.env o.op) o.op=some (l,args)/\Y l args st.mem st.nx fun r m nx=>K (St.put ⟨st.env,m,nx⟩ o.dst r) [] []):=by
 have X:∀ {x},dJ (aX st.env o.op) o.op=some x->cY o.op=2:=fun {x} hx=>by
  cases ho:o.op with
  |call c=>
   rw[ho] at hx;simp only[dJ] at hx;split at hx
   .rename_i f hf;unfold cY;split<;>first|rfl|(rename_i h1;cases h1;cases hf)|skip
    all_goals simp_all
   .cases hx
  |_=>rw[ho] at hx;simp[dJ] at hx
 have J:∀ {x} (p:dp),dJ (aX st.env o.op) o.op=some x->(∀ i∈p.wr,st.mem i≠none\/(st.nx<=i/\i<st.nx+p.new))->p.sI (cY o.op) st:=fun {x} p hx C=>by
  have:=X hx;exact⟨C,oG,oG,oG⟩
 have call:∀ {f args},iM ops o st true->asks st.env o.op->dJ (aX st.env o.op) o.op=some (f,args)->r8 P dr st f args (fun r m nx rd wr=>K (St.put ⟨st.env,m,nx⟩ o.dst r) rd wr)->
  (∃ p:dp,p.Ok P ops o st/\p.sI (cY o.op) st/\K (St.put ⟨st.env,cB st.mem p.aQ,st.nx+p.new⟩ o.dst p.val) p.rd p.wr)\/
  (dr=false/\∃ f args,iM ops o st true/\asks st.env o.op/\dJ (aX st.env o.op) o.op=some (f,args)/\fD P f args st.mem st.nx fun r m nx=>K (St.put ⟨st.env,m,nx⟩ o.dst r) [] [])\/
  (dr=false/\∃ l args,iM ops o st true/\asks st.env o.op/\kW (aX st.env o.op) o.op=some (l,args)/\Y l args st.mem st.nx fun r m nx=>K (St.put ⟨st.env,m,nx⟩ o.dst r) [] []):=fun {f args} C ha hc hk=>by
  rcases hk with⟨r,h1,h2⟩|⟨dV,rds,r,h1,h2,M,h4⟩|⟨es,n,t,h1,h2⟩|⟨h1,h2⟩|⟨r,aQ,rds,h1,h2,M⟩|⟨es,n,t,aQ,rds,h1,h2,M,h4⟩
  .exact .inl ⟨⟨r,[],[],0⟩,RL C ha hc h1,J _ hc (by simp[dp.wr]),h2⟩
  .exact .inl ⟨⟨r,[],rds,0⟩,ach C ha hc h1 h2 M,J _ hc (by simp[dp.wr]),h4⟩
  .exact .inl ⟨⟨.rs st.nx 0 n,[(st.nx,some (.cells es t))],[],1⟩,ads C ha hc h1,J _ hc (by simp[dp.wr]),h2⟩
  .exact .inr (.inl ⟨h1,f,args,C,ha,hc,h2⟩)
  .exact .inl ⟨⟨r,aQ,rds,0⟩,adt C ha hc h1,J _ hc fun i hi=>.inl (h2 i hi).2,M⟩
  .refine .inl ⟨⟨.rs st.nx 0 n,aQ++[(st.nx,some (.cells es t))],rds,1⟩,aaE C ha hc h1 h2 M,J _ hc fun i hi=>?_,?_⟩
   .simp only[dp.wr,List.map_append,List.mem_append,List.map_cons,List.map_nil,List.mem_singleton] at hi;rcases hi with hi|rfl
    .obtain⟨x,hx,rfl⟩:=List.mem_map.1 hi;obtain⟨r,hr,_⟩:=h1.1 _ (h1.2.1 x hx).1;exact .inl (by simp[hr])
    .exact .inr ⟨a8 _,Nat.lt_succ_self _⟩
   .show K _ _ (dp.wr _);rw[Js,dp.wr,List.map_append];exact h4
 have op:∀ {e:dw},iM ops o st true->asks st.env o.op->ba P o.op (aX st.env o.op) st.mem st.nx=some e->e.pre->K (St.put ⟨st.env,cB st.mem e.aQ,st.nx+e.new⟩ o.dst e.val) e.rd (e.aQ.map (·.1))->
  (∃ p:dp,p.Ok P ops o st/\p.sI (cY o.op) st/\K (St.put ⟨st.env,cB st.mem p.aQ,st.nx+p.new⟩ o.dst p.val) p.rd p.wr):=fun {e} C ha h hp hk=>by
  obtain⟨t1,t2,t3,t4⟩:=QA h;exact⟨⟨e.val,e.aQ,e.rd,e.new⟩,Ss C ha h hp,⟨t1,t2,t3,t4⟩,hk⟩
 have skip:∀ {d:D},iM ops o st false->(∀ F β w,R F β w d undef)->K (st.put o.dst d) [] []->
  (∃ p:dp,p.Ok P ops o st/\p.sI (cY o.op) st/\K (St.put ⟨st.env,cB st.mem p.aQ,st.nx+p.new⟩ o.dst p.val) p.rd p.wr):=fun {d} C hd hk=>
  ⟨⟨d,[],[],0⟩,RK C d hd,⟨by simp[dp.wr],fun _=>⟨rfl,rfl⟩,fun _=>rfl,fun _=>⟨rfl,by simp[dp.wr]⟩⟩,hk⟩
 have U:∀ (F:Nat->Prop) β w,R F β w tZ undef:=fun F β w=>.cn false .u undef oS fun _=>rfl;unfold iW at h;split at h
 .rename_i hg;have C:=O6 (ops:=ops) (st:=st) hg;obtain⟨ha,h⟩:=h;split at h
  .rename_i f args hc;exact call C ha hc h
  .split at h
   .rename_i l args hy;exact .inr (.inr ⟨h.1,l,args,C,ha,hy,h.2⟩)
   .split at h
    .rename_i e he;exact .inl (op C ha he h.1 h.2)
    .exact h.elim
 .rename_i j b hg;split at h
  .exact h.elim
  .rename_i c hc;simp only[Option.bind_eq_some_iff] at hc;obtain⟨t,⟨oj,D2,hjt⟩,hc⟩:=hc;have C:iM ops o st c:=X3 hg (t:=t) (by simp[D2,hjt]) hc;split at h
   .rename_i f args mB;rcases h with⟨r,h1,h2⟩|⟨h1,h2⟩
    .refine .inl ⟨⟨.cn c r,[],[],0⟩,Sr C fun gw=>?_,J _ mB (by simp[dp.wr]),h2⟩;subst gw;exact RL C (h1 rfl).1 mB (h1 rfl).2
    .cases c with
     |true=>exact call C (h1 rfl).1 mB (h1 rfl).2
     |false=>exact .inl (skip C U (h2 rfl))
   .split at h
    .rename_i l args hy;cases c with
     |true=>exact .inr (.inr ⟨(h.1 rfl).2.1,l,args,C,(h.1 rfl).1,hy,(h.1 rfl).2.2⟩)
     |false=>exact .inl (skip C U (h.2 rfl))
    .split at h
     .rename_i e he;split at h
      .rename_i vY;simp only[bf,List.isEmpty_iff,beq_iff_eq] at vY;obtain⟨h1,h2⟩:=h;obtain⟨t1,t2,t3,t4⟩:=QA he;refine .inl ⟨⟨.cn c e.val,[],e.rd,0⟩,Sr C fun gw=>?_,⟨by simp[dp.wr],fun hk=>⟨(t2 hk).1,rfl⟩,fun _=>rfl,fun hk=>⟨(t4 hk).1,by simp[dp.wr]⟩⟩,h2⟩;subst gw;have:=Ss C (h1 rfl).1 he (h1 rfl).2;rw[vY.1,vY.2] at this;exact this
      .obtain⟨h1,h2⟩:=h;cases c with
       |true=>exact .inl (op C (h1 rfl).1 he (h1 rfl).2.1 (h1 rfl).2.2)
       |false=>exact .inl (skip C U (h2 rfl))
     .obtain⟨rfl,h⟩:=h;exact .inl (skip C U h)
theorem IP{Y:ea}{dr:Bool}{K:St->List Nat->List Nat->Prop}(h:iW P Y ops dr o st K\/T3 P o st K):
 (∃ p:dp,p.Ok P ops o st/\p.sI (cY o.op) st/\K (St.put ⟨st.env,cB st.mem p.aQ,st.nx+p.new⟩ o.dst p.val) p.rd p.wr)\/
 (dr=false/\∃ f args,iM ops o st true/\asks st.env o.op/\dJ (aX st.env o.op) o.op=some (f,args)/\fD P f args st.mem st.nx fun r m nx=>K (St.put ⟨st.env,m,nx⟩ o.dst r) [] [])\/
 (dr=false/\∃ l args,iM ops o st true/\asks st.env o.op/\kW (aX st.env o.op) o.op=some (l,args)/\Y l args st.mem st.nx fun r m nx=>K (St.put ⟨st.env,m,nx⟩ o.dst r) [] []):=by
 rcases h with h|⟨h1,h2,e,C,J⟩
 .exact aaM h
 .obtain⟨t1,t2,t3,t4⟩:=C.tidy;exact .inl ⟨⟨e.val,e.aQ,e.rd,e.new⟩,aca (O6 h1) h2 C,⟨t1,t2,t3,t4⟩,J⟩
theorem OT{f:FuncId}{args:List D}{dX:D->Mem->Nat->Prop}(hw:iM ops o st true)(ha:asks st.env o.op)(hc:dJ (aX st.env o.op) o.op=some (f,args))(h:fD P f args st.mem st.nx dX)
 (hs:ej P F st β w a) (hd:∀ t,o.dst=some t->t<a.tmps.size) (r:Option Nat) (n:Nat) (M:Exit->Act->World->Prop) {K:Act->World->Prop}
 (hK:∀ d m' C β' a' w',dX d m' C->ej P F (St.put ⟨st.env,m',C⟩ o.dst d) β' w' a'->fU st.nx β w a (St.put ⟨st.env,m',C⟩ o.dst d) β' w' a'->K a' w'):
 pP r n P ops M o K a w:=by
 refine zV (hw F β w a st.env (fun _ _=>rfl) hs.e) hs.e ha hc h.1 fun vs hR=>?_;refine(h.2 F β w vs hs.m hs.n hR).mono fun e w' hp=>?_;obtain⟨v,d,m',C,β',h1,h2,U,X,h5,J,h7,h8⟩:=hp;refine⟨v,h1,hK d m' C β' _ w' h2 (ej.put (st':=⟨st.env,m',C⟩) (hs.e.step J) hd h5 U X) ⟨J,by rw[B5];exact h7,h8,E4 _ _ _,put_defers _ _ _⟩⟩
theorem Xr{env:Env}{l:Nat}{args:List D}(J:gI F β w env a)(ha:asks env o.op)(h:kW (aX env o.op) o.op=some (l,args)):
 ∃ vs,(execOp a.eval o).run P w=(Instr.yield l vs).run P w/\Rs F β w args vs:=by
 obtain⟨dst,op,type,pos,after,guard⟩:=o;simp only at ha h;cases op with
 |call c=>
  simp only[kW] at h;have C:∀ x∈(Op.call c).operands.toList,R F β w (aX env (.call c) x) (a.eval x):=fun x hx=>(J.opd x).tD _ (ha x hx);split at h
  .rename_i g hg;split at h
   .rename_i X hk;simp only[aG,bP] at h;obtain⟨rfl,rfl⟩:=h;have h1:=C g (by simp[Op.operands,Call.operands,hg]);rw[hk] at h1;obtain⟨q1,M⟩:=Cz (F:=F) (β:=β) (w:=w) (xs:=c.args) (ρ:=aX env (.call c)) (a:=a) (fun x hx=>C x (by simp[Op.operands,Call.operands];exact .inr hx));generalize hv:a.eval g=v at h1;cases h1 with
    |fn _ _ _ us vs hl l7 hh U=>
    have e1:us=[]:=List.eq_nil_of_length_eq_zero (by simpa using hl);have e2:vs=[]:=List.eq_nil_of_length_eq_zero (by simpa using l7);subst e1 e2;refine⟨c.args.map a.eval,?_,oS,fun j d u hd hu=>M j d u hd (by simpa using hu)⟩;unfold execOp;simp only[resolve,hg,Sem.run_bind,hv,Deferred.ofValue,Sem.run_pure,Result.andThen_ok,invoke];simp
   .cases h
  .cases h
 |_=>simp[kW] at h
theorem WY{op:Op}{ρ:Operand->D}{x:Nat×List D}(h:kW ρ op=some x):∀ c,op≠ .defer c:=fun c hc=>by
 subst hc;simp[kW] at h
theorem X4{l:Nat}{args:List D}{dX:D->Mem->Nat->Prop}(hw:iM ops o st true)(ha:asks st.env o.op)(hc:kW (aX st.env o.op) o.op=some (l,args)){U:aC}{M:World}(h:nn P F U M l args st.mem st.nx dX)(hb:Step U M β w)
 (hs:ej P F st β w a) (hd:∀ t,o.dst=some t->t<a.tmps.size) (r:Option Nat) (n:Nat) (X:Exit->Act->World->Prop) {K:Act->World->Prop}
 (hK:∀ d m' C β' a' w',dX d m' C->ej P F (St.put ⟨st.env,m',C⟩ o.dst d) β' w' a'->fU st.nx β w a (St.put ⟨st.env,m',C⟩ o.dst d) β' w' a'->K a' w'):
 pP r n P ops X o K a w:=by
 obtain⟨vs,h1,h2⟩:=Xr (P:=P) hs.e ha hc;obtain⟨f,tmps,assign,body,h3,h4⟩:=h β w vs hb hs.m hs.n h2;unfold pP;rw[hw F β w a st.env (fun _ _=>rfl) hs.e,if_pos rfl];refine⟨fun _ _=>trivial,?_⟩;rw[Kw (WY hc),h1,h3];refine⟨oS,?_⟩;have h5:=h4 (n - 1);refine RoundIn.mono (F:=Fe r) (show RoundIn (Fe r) (n - 1) P l f tmps assign body w _ from h5) fun e w' hp=>?_;obtain⟨v,d,m',C,β',rfl,g2,g3,g4,g5,J,g7,g8⟩:=hp;exact hK d m' C β' _ w' g2 (ej.put (st':=⟨st.env,m',C⟩) (hs.e.step J) hd g5 g3 g4) ⟨J,by rw[B5];exact g7,g8,E4 _ _ _,put_defers _ _ _⟩
def vG(N:Nat)(ops:Array Oper):Bool:=ops.toList.all fun o=>match o.dst with
 |some t=>Nat.blt t N
 |none=>true
theorem ID{N:Nat}(h:vG N ops=true){i:Nat}{o:Oper}(hi:ops[i]? =some o):∀ t,o.dst=some t->t<N:=fun t ht=>by
 have h1:=bS.1 h o (by simpa using Array.mem_of_getElem? hi);rw[ht] at h1;simpa using h1
theorem aaN{Y:ea}{r:Option Nat}{n:Nat}{cf:List (Nat×Nat)}{Q:Exit->St->Prop}{N:Nat}{β₀:aC}{w₀:World}{a₀:Act}(hY:∀ l args m nx dX,Y l args m nx dX->nn P F β₀ w₀ l args m nx dX)(af:vG a₀.tmps.size ops=true):
 ∀ (rest:List Oper) (k:Nat) (st:St) (tr:jL) (β:aC) (w:World) (a:Act),ops.toList.drop k=rest->aq P Y ops false cf Q rest st tr->ej P F st β w a->fU N β₀ w₀ a₀ st β w a->
  wpOpsIn (Fe r) n P ops (dX P F N β₀ w₀ a₀ Q) (List.range' k rest.length) a w:=by
 intro rest
 induction rest with
 |nil=>
  intro k st tr β w a hk h hs C;simp only[List.length_nil,List.range'_zero,wpOpsIn];exact⟨st,β,h.2,hs,C⟩
 |cons o rest ih=>
  intro k st tr β w a hk h hs C
  have ho:ops[k]? =some o:=by
   have:(ops.toList.drop k)[0]? =some o:=by rw[hk];rfl
   simpa using this
  have iq:ops.toList.drop (k+1)=rest:=by
   have:(ops.toList.drop k).drop 1=rest:=by rw[hk];rfl
   simpa[List.drop_drop,Nat.add_comm] using this
  simp only[List.length_cons,List.range'_succ,wpOpsIn_cons];refine Im ho ?_;have hd:∀ t,o.dst=some t->t<a.tmps.size:=fun t ht=>by rw[C.size];exact ID af ho t ht
  simp only[aq] at h;rcases IP h with⟨p,h1,_,U⟩|⟨_,f,args,h1,h2,U,X⟩|⟨_,l,args,h1,h2,U,X⟩
  .exact PG h1 hs hd r n _ fun β' a' w' J M=>ih (k+1) _ _ β' w' a' iq U J (C.trans M)
  .exact OT h1 h2 U X hs hd r n _ fun d m' ai β' a' w' hp J M=>ih (k+1) _ _ β' w' a' iq hp J (C.trans M)
  .exact X4 h1 h2 U (hY _ _ _ _ _ X) C.step hs hd r n _ fun d m' ai β' a' w' hp J M=>ih (k+1) _ _ β' w' a' iq hp J (C.trans M)
theorem W7{Y:ea}{r:Option Nat}{n id:Nat}{cf:List (Nat×Nat)}{Q:Exit->St->Prop}{N:Nat}{β₀:aC}{w₀:World}{a₀:Act}(J:∀ l args m nx dX,Y l args m nx dX->nn P F β₀ w₀ l args m nx dX)(af:vG a₀.tmps.size ops=true)
 (h:aq P Y ops false cf Q ops.toList st []) (hs:ej P F st β w a) (C:fU N β₀ w₀ a₀ st β w a):(Code.region id ops false).wpIn (Fe r) n P (dX P F N β₀ w₀ a₀ Q) a w:=by
 refine wpIn_region ?_;have:=aaN J (r:=r) (n:=n) af ops.toList 0 st [] β w a oS h hs C;rw[List.range_eq_range'];simpa using this
end
theorem ER(acc:List Nat)(i:Nat):∀ (l:List Edge) (s:Nat),(l.foldl (fun s e=>if Region.binds .any e then s||| 2 ^ e.on||| acc.getD e.on 0 else s) s).testBit i=true->
 s.testBit i=true\/∃ e∈l,Region.binds .any e=true/\(i=e.on\/(acc.getD e.on 0).testBit i=true)
 |[],s,h=>.inl h
 |e::l,s,h=>by
  rw[List.foldl_cons] at h;rcases ER acc i l _ h with h1|⟨C,J,hb⟩
  .by_cases hb:Region.binds .any e=true
   .rw[if_pos hb] at h1;simp only[Nat.testBit_or,Bool.or_eq_true,Nat.testBit_two_pow,decide_eq_true_eq] at h1;rcases h1 with(h1|h1)|h1
    .exact .inl h1
    .exact .inr ⟨e,oS,hb,.inl h1.symm⟩
    .exact .inr ⟨e,oS,hb,.inr h1⟩
   .rw[if_neg hb] at h1;exact .inl h1
  .exact .inr ⟨C,by simp[J],hb⟩
theorem It:∀ (os:List Oper) (acc:List Nat),∃ l,iB os acc=acc++l/\l.length=os.length
 |[],acc=>⟨[],by simp[iB],rfl⟩
 |o::os,acc=>by
  obtain⟨l,h1,h2⟩:=It os (acc++[AA acc o]);exact⟨AA acc o::l,by simp[iB,h1],by simp[h2]⟩
theorem E3:∀ (os:List Oper) (acc:List Nat) (k:Nat) (o:Oper),os[k]? =some o->(iB os acc).getD (acc.length+k) 0=AA ((iB os acc).take (acc.length+k)) o
 |[],acc,k,o,h=>by simp at h
 |x::os,acc,0,o,h=>by
  simp only[List.getElem?_cons_zero,aG] at h;subst h;obtain⟨l,h1,h2⟩:=It os (acc++[AA acc x]);simp[iB,h1]
 |x::os,acc,k+1,o,h=>by
  have:=E3 os (acc++[AA acc x]) k o (by simpa using h);simp only[List.length_append,List.length_cons,List.length_nil] at this;have e:acc.length+(k+1)=acc.length+(0+1)+k:=by omega
  rw[e];exact this
theorem Iy{ops:Array Oper}{S:Nat->Bool}(U:∀ j,S j=true->∀ o,ops[j]? =some o->∀ e∈o.after,Region.binds .any e=true->S e.on=true)(i:Nat):
 ∀ j,S j=true->((iB ops.toList []).getD j 0).testBit i=true->S i=true:=by
 intro j
 induction j using Nat.strongRecOn with
 |_ j ih=>
  intro hj hb;cases C:ops[j]? with
  |none=>
   obtain⟨l,h1,h2⟩:=It ops.toList []
   have:(iB ops.toList []).getD j 0=0:=by
    rw[h1];simp only[List.nil_append];have:ops.size<=j:=by simpa using C
    simp[List.getElem?_eq_none (show l.length<=j by simpa[h2] using this)]
   rw[this] at hb;simp at hb
  |some o=>
   have h1:=E3 ops.toList [] j o (by simpa using C);simp only[List.length_nil,Nat.zero_add] at h1;rw[h1] at hb;rcases ER _ i _ 0 hb with h2|⟨e,he,X,h2⟩
   .simp at h2
   .have J:=U j hj o C e (by simpa using he) X;rcases h2 with rfl|h2
    .exact J
    .rcases Nat.lt_or_ge e.on j with af|M
     .refine ih e.on af J ?_;simpa[List.getElem?_take,af] using h2
     .simp[List.getElem?_take,Nat.not_lt.2 M] at h2
theorem Oh{bs:List Nat}{n i j:Nat}(C:i<j)(hj:j<n)(h:(bs.getD j 0).testBit i=false):(i,j)∈unordered bs n:=by
 unfold unordered;rw[List.mem_flatMap];exact⟨j,by simp[hj],by rw[List.mem_map];exact⟨i,by simp only[List.mem_filter,List.mem_range];exact⟨C,by rw[h];rfl⟩,rfl⟩⟩
theorem zS{us:List (Nat×Option Row)}:∀ {m:Mem} {i:Nat},i∉us.map (·.1)->cB m us i=m i:=by
 induction us with
 |nil=>intro m i _;rfl
 |cons u us ih=>
  intro m i h;obtain⟨j,r⟩:=u;simp only[List.map_cons,List.mem_cons,not_or] at h;simp only[cB];rw[ih h.2,az _ _ h.1]
theorem Iz{us:List (Nat×Option Row)}:∀ {m m':Mem} {i:Nat},(i∈us.map (·.1)\/m i=m' i)->cB m us i=cB m' us i:=by
 induction us with
 |nil=>intro m m' i h;simpa[cB] using h
 |cons u us ih=>
  intro m m' i h;obtain⟨j,r⟩:=u;simp only[cB];refine ih ?_;by_cases hj:i=j
  .right;subst hj;rw[ah,ah]
  .rcases h with h|h
   .left;simp only[List.map_cons,List.mem_cons] at h;exact h.resolve_left hj
   .right;rw[az _ _ hj,az _ _ hj,h]
theorem YL{a b:List (Nat×Option Row)}(m:Mem)(h:∀ i∈a.map (·.1),i∉b.map (·.1)):cB (cB m a) b=cB (cB m b) a:=by
 funext i;by_cases ha:i∈a.map (·.1)
 .rw[zS (h i ha)];exact Iz (.inl ha)
 .rw[zS (m:=cB m b) ha];exact Iz (.inr (zS ha))
def pf(env:Env)(d:Option Nat)(v:D):Env:=match d with
 |some t=>up env t v
 |none=>env
theorem Cd{env:Env}{d:Option Nat}{v:D}{t:Nat}(h:d≠some t):pf env d v t=env t:=by
 cases d with
 |none=>rfl
 |some u=>exact az _ _ fun e=>h (by rw[e])
theorem IA{env env':Env}{d:Option Nat}{v:D}{t:Nat}(h:d=some t\/env t=env' t):pf env d v t=pf env' d v t:=by
 cases d with
 |none=>simpa[pf] using h
 |some u=>
  by_cases hu:t=u
  .subst hu;simp[pf,ah]
  .simp only[pf,az _ _ hu];rcases h with h|h
   .simp only[aG] at h;exact absurd h.symm hu
   .exact h
theorem YM(env:Env){d d':Option Nat}(v C:D)(h:∀ t,d=some t->d'≠some t):pf (pf env d v) d' C=pf (pf env d' C) d v:=by
 funext t;by_cases hd:d=some t
 .rw[Cd (h t hd)];exact IA (.inl hd)
 .rw[Cd (env:=pf env d' C) hd];exact IA (.inr (Cd hd))
def wF(st:St)(o:Oper)(p:dp):St:=St.put ⟨st.env,cB st.mem p.aQ,st.nx+p.new⟩ o.dst p.val
theorem JL(st:St)(o:Oper)(p:dp):(wF st o p).env=pf st.env o.dst p.val:=by unfold wF;rw[XE];rfl
theorem Fp(st:St)(o:Oper)(p:dp):(wF st o p).mem=cB st.mem p.aQ:=OS _ _ _
theorem vu(st:St)(o:Oper)(p:dp):(wF st o p).nx=st.nx+p.new:=B5 _ _ _
section
variable(oo:Nat->Oper)(pp:Nat->dp)(st₀:St)
def fe(S:Nat->Bool):Nat->St
 |0=>st₀
 |k+1=>if S k then wF (fe S k) (oo k) (pp k) else fe S k
def fz:Nat->St:=fe oo pp st₀ fun _=>true
theorem qG(k:Nat):fz oo pp st₀ (k+1)=wF (fz oo pp st₀ k) (oo k) (pp k):=rfl
theorem Sg(k:Nat):∀ n,k<=n->fe oo pp st₀ (fun j=>decide (j<k)) n=fz oo pp st₀ k:=by
 have below:∀ n,n<=k->fe oo pp st₀ (fun j=>decide (j<k)) n=fz oo pp st₀ n:=by
  intro n
  induction n with
  |zero=>intro _;rfl
  |succ n ih=>
   intro h;have hd:decide (n<k)=true:=by simp;omega
   rw[qG, <- ih oG];simp only[fe,hd,if_true]
 intro n h
 induction n with
 |zero=>
  have:k=0:=by omega
  subst this;rfl
 |succ n ih=>
  rcases Nat.lt_or_ge n k with af|C
  .have:k=n+1:=by omega
   subst this;exact below (n+1) (a8 _)
  .have hd:decide (n<k)=false:=by simpa using C
   simp only[fe,hd,Bool.false_eq_true,if_false];exact ih C
theorem abW{S T:Nat->Bool}{t:Nat}:∀ n,(∀ j,j<n->S j≠T j->(oo j).dst≠some t)->(fe oo pp st₀ S n).env t=(fe oo pp st₀ T n).env t:=by
 intro n
 induction n with
 |zero=>intro _;rfl
 |succ n ih=>
  intro h;have h1:=ih fun j hj=>h j oG;have h2:=h n oG;simp only[fe];cases C:S n<;>cases J:T n<;>simp only[Bool.false_eq_true,if_false,if_true,JL]
  .exact h1
  .rw[Cd (h2 (by simp[C,J]))];exact h1
  .rw[Cd (h2 (by simp[C,J]))];exact h1
  .exact IA (.inr h1)
theorem abX{S T:Nat->Bool}{i:Nat}:∀ n,(∀ j,j<n->S j≠T j->i∉(pp j).wr)->(fe oo pp st₀ S n).mem i=(fe oo pp st₀ T n).mem i:=by
 intro n
 induction n with
 |zero=>intro _;rfl
 |succ n ih=>
  intro h;have h1:=ih fun j hj=>h j oG;have h2:=h n oG;simp only[fe];cases C:S n<;>cases J:T n<;>simp only[Bool.false_eq_true,if_false,if_true,Fp]
  .exact h1
  .rw[zS (h2 (by simp[C,J]))];exact h1
  .rw[zS (h2 (by simp[C,J]))];exact h1
  .exact Iz (.inr h1)
theorem Jh{S T:Nat->Bool}:∀ n,(∀ j,j<n->S j=T j)->fe oo pp st₀ S n=fe oo pp st₀ T n:=by
 intro n
 induction n with
 |zero=>intro _;rfl
 |succ n ih=>
  intro h;simp only[fe,ih fun j hj=>h j oG,h n oG]
theorem abY{S:Nat->Bool}{k:Nat}(hk:S k=false):∀ n,k<n->(∀ j,k<j->j<n->S j=true->(∀ t,(oo k).dst=some t->(oo j).dst≠some t)/\∀ i∈(pp k).wr,i∉(pp j).wr)->
 (fe oo pp st₀ (fun j=>if j=k then true else S j) n).env=pf (fe oo pp st₀ S n).env (oo k).dst (pp k).val/\
 (fe oo pp st₀ (fun j=>if j=k then true else S j) n).mem=cB (fe oo pp st₀ S n).mem (pp k).aQ:=by
 intro n
 induction n with
 |zero=>intro h;omega
 |succ n ih=>
  intro io h;rcases Nat.lt_or_ge k n with af|X
  .obtain⟨h1,h2⟩:=ih af fun j hj iV=>h j hj oG;have C:n≠k:=by omega
   simp only[fe,if_neg C];cases U:S n with
   |false=>simp only[Bool.false_eq_true,if_false];exact⟨h1,h2⟩
   |true=>
    obtain⟨J,M⟩:=h n af oG U;simp only[if_true,JL,Fp,h1,h2];exact⟨YM _ _ _ J,YL _ M⟩
  .have:n=k:=by omega
   subst this;have e:fe oo pp st₀ (fun j=>if j=n then true else S j) n=fe oo pp st₀ S n:=Jh oo pp st₀ n fun j hj=>by simp only[if_neg (show j≠n by omega)]
   simp only[fe,if_true,hk,Bool.false_eq_true,if_false,JL,Fp,e];exact⟨trivial,trivial⟩
theorem oO{j k:Nat}(h:j<=k):(fz oo pp st₀ j).nx<=(fz oo pp st₀ k).nx:=by
 induction k with
 |zero=>have:j=0:=by omega
        subst this;exact a8 _
 |succ k ih=>
  rcases Nat.lt_or_ge j (k+1) with af|C
  .rw[qG,vu];have:=ih oG;omega
  .have:j=k+1:=by omega
   subst this;exact a8 _
end
section
variable{P:Program}{ops:Array Oper}{cf:List (Nat×Nat)}{Q:Exit->St->Prop}
def Fq(P:Program)(ops:Array Oper)(cf:List (Nat×Nat))(Q:Exit->St->Prop):List Oper->List dp->St->jL->Prop
 |[],[],st,tr=>(∀ q∈cf,pE tr q.1 q.2)/\Q .normal st
 |o::os,p::ps,st,tr=>p.Ok P ops o st/\p.sI (cY o.op) st/\Fq P ops cf Q os ps (wF st o p) (tr++[(p.rd,p.wr)])
 |_,_,_,_=>False
theorem IB{Y:ea}:∀ (os:List Oper) (st:St) (tr:jL),aq P Y ops true cf Q os st tr->∃ ps,Fq P ops cf Q os ps st tr
 |[],st,tr,h=>⟨[],h⟩
 |o::os,st,tr,h=>by
  simp only[aq] at h;rcases IP h with⟨p,h1,h2,C⟩|⟨h1,_⟩|⟨h1,_⟩
  .obtain⟨ps,J⟩:=IB os _ _ C;exact⟨p::ps,h1,h2,J⟩
  .cases h1
  .cases h1
instance:Inhabited dp:=⟨⟨.u,[],[],0⟩⟩
theorem IC(oo:Nat->Oper)(pp:Nat->dp)(st₀:St):∀ (os:List Oper) (ps:List dp) (k:Nat) (tr:jL),(∀ j o,os[j]? =some o->oo (k+j)=o)->(∀ j p,ps[j]? =some p->pp (k+j)=p)->tr.length=k->
 (∀ j,j<k->tr.getD j ([],[])=((pp j).rd,(pp j).wr))->Fq P ops cf Q os ps (fz oo pp st₀ k) tr->
 (∀ j,k<=j->j<k+os.length->(pp j).Ok P ops (oo j) (fz oo pp st₀ j)/\(pp j).sI (cY (oo j).op) (fz oo pp st₀ j))/\Q .normal (fz oo pp st₀ (k+os.length))/\
 ∃ C:jL,(∀ j,j<k+os.length->C.getD j ([],[])=((pp j).rd,(pp j).wr))/\∀ q∈cf,pE C q.1 q.2
 |[],[],k,tr,ho,hp,hl,ht,h=>⟨fun j h1 h2=>absurd h2 oP,h.2,tr,ht,h.1⟩
 |[],_::_,_,_,_,_,_,_,h=>h.elim
 |_::_,[],_,_,_,_,_,_,h=>h.elim
 |o::os,p::ps,k,tr,ho,hp,hl,ht,h=>by
  have e1:oo k=o:=ho 0 o rfl;have e2:pp k=p:=hp 0 p rfl;obtain⟨h1,h2,U⟩:=h;have J:Fq P ops cf Q os ps (fz oo pp st₀ (k+1)) (tr++[(p.rd,p.wr)]):=by rw[qG,e1,e2];exact U
  obtain⟨a1,a2,C,a3,a4⟩:=IC oo pp st₀ os ps (k+1) _ (fun j x hj=>by have:=ho (j+1) x (by simpa using hj);rw[<- this];congr 1;omega)
   (fun j x hj=>by have:=hp (j+1) x (by simpa using hj);rw[<- this];congr 1;omega) (by simp[hl])
   (fun j hj=>by
    rcases Nat.lt_or_ge j k with af|M
    .rw[<- ht j af];simp[List.getElem?_append_left (show j<tr.length by omega)]
    .have:j=k:=by omega
     subst this;simp[<- hl,List.getElem?_append_right,e2]
     rw[hl,e2];exact⟨rfl,rfl⟩) J
  have e3:k+(o::os).length=k+1+os.length:=by simp;omega
  rw[e3];refine⟨fun j hj X=>?_,a2,C,a3,a4⟩;rcases Nat.lt_or_ge k j with af|M
  .exact a1 j af X
  .have:j=k:=by omega
   subst this;rw[e1,e2];exact⟨h1,h2⟩
def Km(P:Program)(F:Nat->Prop)(ops:Array Oper)(Q:Exit->St->Prop)(N₀:Nat)(β₀:aC)(w₀:World)(a₀:Act)(r:Option Nat)(n:Nat)(o:Oper)(st:St):Prop:=
 ∀ (β:aC) (w:World) (a:Act),ej P F st β w a->fU N₀ β₀ w₀ a₀ st β w a->∀ K:Act->World->Prop,(∀ a' w',dX P F N₀ β₀ w₀ a₀ Q .normal a' w'->K a' w')->pP r n P ops (dX P F N₀ β₀ w₀ a₀ Q) o K a w
theorem WH(h:bT ops=some cf):(∀ (i:Nat) (o:Oper),ops[i]? =some o->∀ e∈o.after,Region.binds .any e=true->e.on<i)/\
 (∀ q∈unordered (iB ops.toList []) ops.size,IN ops q.1 q.2=true)/\(∀ q∈unordered (iB ops.toList []) ops.size,Fo ops q.1 q.2=true->q∈cf):=by
 unfold bT at h;simp only at h;split at h
 .rename_i hc;simp only[bf] at hc;cases h;refine⟨fun i o hi e he hb=>?_,fun q hq=>bS.1 hc.2 q hq,fun q hq hm=>by rw[List.mem_filter];exact⟨hq,hm⟩⟩
  have h1:=bS.1 hc.1 (o,i) (by
   rw[List.mem_zipIdx_iff_getElem?]
   simpa using hi)
  have h2:=bS.1 h1 e (by simpa using he);simpa[hb] using h2
 .cases h
variable{F:Nat->Prop}{N₀:Nat}{β₀:aC}{w₀:World}{a₀:Act}
structure DS(P:Program)(F:Nat->Prop)(oo:Nat->Oper)(pp:Nat->dp)(st₀:St)(n:Nat)(N₀:Nat)(β₀:aC)(w₀:World)(a₀:Act)(S:Nat->Bool)(β:aC)(w:World)(a:Act):Prop where
 e:gI F β w (fe oo pp st₀ S n).env a
 m:aJ P F (fe oo pp st₀ S n).mem β w
 free:∀ i,st₀.nx<=i->(∀ k,k<n->S k=true->¬ ((fz oo pp st₀ k).nx<=i/\i<(fz oo pp st₀ k).nx+(pp k).new))->β i=none
 step:Step β₀ w₀ β w
 grow:∀ i,i<N₀->β₀ i=none->β i=none
 size:a.tmps.size=a₀.tmps.size
 defers:a.defers=a₀.defers
theorem aak{oo:Nat->Oper}{pp:Nat->dp}{st₀:St}(hi:bT ops=some cf)(D1:∀ j o,ops[j]? =some o->oo j=o)(af:vG a₀.tmps.size ops=true)
 (J:Nat) (fM:J<=ops.size) (bL:∀ j,j<J->(pp j).Ok P ops (oo j) (fz oo pp st₀ j)/\(pp j).sI (cY (oo j).op) (fz oo pp st₀ j)) (hQ:J=ops.size->Q .normal (fz oo pp st₀ ops.size))
 (hL:J<ops.size->J+1=ops.size/\(∀ i,i<J->((iB ops.toList []).getD J 0).testBit i=true)/\∀ r n,Km P F ops Q N₀ β₀ w₀ a₀ r n (oo J) (fz oo pp st₀ J))
 (bh:∃ l9:jL,(∀ j,j<J->l9.getD j ([],[])=((pp j).rd,(pp j).wr))/\∀ q∈cf,pE l9 q.1 q.2)
 (iU:∀ i,st₀.nx<=i->st₀.mem i=none) (hN:N₀<=st₀.nx) (r:Option Nat) (n:Nat):
 ∀ (eb:Nat) (listed:Array Bool) (β:aC) (w:World) (a:Act),listed.size=ops.size->listed.toList.countP (fun b=> !b)<=eb->(J<ops.size->listed.getD J false=false)->
  (∀ j,listed.getD j false=true->∀ o,ops[j]? =some o->∀ e∈o.after,Region.binds .any e=true->listed.getD e.on false=true)->
  DS P F oo pp st₀ ops.size N₀ β₀ w₀ a₀ (fun j=>listed.getD j false) β w a->
  wpAnyIn (Fe r) n P .any ops (dX P F N₀ β₀ w₀ a₀ Q) eb listed a w:=by
 obtain⟨MF,hta,jJ⟩:=WH hi;obtain⟨l9,T4,ag9⟩:=bh
 have U3:∀ k,k<=J->∀ i,(fz oo pp st₀ k).nx<=i->(fz oo pp st₀ k).mem i=none:=by
  intro k
  induction k with
  |zero=>intro _ i hi;exact iU i hi
  |succ k ih=>
   intro hk i hi;rw[qG,vu] at hi;rw[qG,Fp];have h1:=(bL k oG).2.wr;rw[zS,ih oG i oG];intro kB;rcases h1 i kB with h2|h2
   .exact h2 (ih oG i oG)
   .omega
 have yV:∀ i j,i<j->j<ops.size->((iB ops.toList []).getD j 0).testBit i=false->
  (∀ x∈(pp i).wr,x∉(pp j).wr)/\(∀ x∈(pp i).wr,x∈(pp j).rd->(fz oo pp st₀ j).mem x=none)/\(∀ x∈(pp j).wr,x∈(pp i).rd->(fz oo pp st₀ i).mem x=none):=by
  intro i j po hj hb;have hu:=Oh po hj hb
  have iV:j<J:=by
   rcases Nat.lt_or_ge j J with h|h
   .exact h
   .obtain⟨q1,q2,_⟩:=hL oG;have:j=J:=by omega
    subst this;rw[q2 i po] at hb;cases hb
  have MG:ops[i]? =some (oo i):=by
   have:i<ops.size:=by omega
   rw[D1 i ops[i] (by simp[this])];simp[this]
  have D2:ops[j]? =some (oo j):=by
   rw[D1 j ops[j] (by simp[hj])];simp[hj]
  obtain⟨ti,U4,U5,t3i⟩:=(bL i oG).2;obtain⟨tj,t0j,t1j,t3j⟩:=(bL j iV).2;by_cases fc:Fo ops i j=true
  .have h1:=ag9 _ (jJ _ hu fc);unfold pE at h1;simp only[T4 i oG,T4 j iV] at h1;exact⟨fun x hx=>(h1.1 x hx).2,fun x hx hr=>absurd hr (h1.1 x hx).1,fun x hx hr=>absurd hr (h1.2 x hx)⟩
  .simp only[Fo,MG,D2,bf,Bool.or_eq_true,beq_iff_eq,bne_iff_ne,Bool.not_eq_true',ne_eq] at fc
   have hk:∀ o:Oper,cY o.op=0\/cY o.op=1\/cY o.op=2\/cY o.op=3:=fun o=>by
    unfold cY;split<;>simp
   have nil:∀ p:dp,p.aQ=[]->∀ x,x∉p.wr:=fun p hp x hx=>by simp[dp.wr,hp] at hx
   rcases hk (oo j) with kj|kj|kj|kj
   .have:=t0j kj;exact⟨fun x _=>nil _ this.2 x,fun x _ hr=>(by rw[this.1] at hr;cases hr),fun x hx=>absurd hx (nil _ this.2 x)⟩
   .by_cases k0:cY (oo i).op=0
    .have:=U4 k0;exact⟨fun x hx=>absurd hx (nil _ this.2 x),fun x hx=>absurd hx (nil _ this.2 x),fun x _ hr=>by rw[this.1] at hr;cases hr⟩
    .have k1:cY (oo i).op=1:=by
      rcases hk (oo i) with h|h|h|h
      .exact absurd h k0
      .exact h
      .exact absurd ⟨⟨.inl kj,oG⟩,by simp[h]⟩ fc
      .exact absurd ⟨⟨.inl kj,oG⟩,by simp[h]⟩ fc
     exact⟨fun x hx=>absurd hx (nil _ (U5 k1) x),fun x hx=>absurd hx (nil _ (U5 k1) x),fun x hx=>absurd hx (nil _ (t1j kj) x)⟩
   .by_cases k0:cY (oo i).op=0
    .have:=U4 k0;exact⟨fun x hx=>absurd hx (nil _ this.2 x),fun x hx=>absurd hx (nil _ this.2 x),fun x _ hr=>by rw[this.1] at hr;cases hr⟩
    .exact absurd ⟨⟨.inr kj,oG⟩,by simp[kj]⟩ fc
   .have cx:=oO oo pp st₀ (show i+1<=j by omega);rw[qG,vu] at cx;obtain⟨h1,h2⟩:=t3j kj
    have MH:∀ x∈(pp i).wr,x<(fz oo pp st₀ j).nx:=fun x hx=>by
     rcases ti x hx with h|h
     .rcases Nat.lt_or_ge x (fz oo pp st₀ i).nx with h'|h'
      .omega
      .exact absurd (U3 i oG x h') h
     .omega
    refine⟨fun x hx hxj=>?_,fun x _ hr=>(by rw[h1] at hr;cases hr),fun x hx _=>U3 i oG x ?_⟩
    .have:=MH x hx;have:=h2 x hxj;omega
    .have:=h2 x hx;omega
 have LC:∀ i j,i<j->j<ops.size->((iB ops.toList []).getD j 0).testBit i=false->(oo i).apart ops (oo j)=true:=by
  intro i j po hj hb;have h1:=hta _ (Oh po hj hb)
  have MG:ops[i]? =some (oo i):=by
   have:i<ops.size:=by omega
   rw[D1 i ops[i] (by simp[this])];simp[this]
  have D2:ops[j]? =some (oo j):=by
   rw[D1 j ops[j] (by simp[hj])];simp[hj]
  simpa[IN,MG,D2] using h1
 have p0:∀ listed:Array Bool,listed.size=ops.size->Region.ready .any ops listed=[]->∀ k,k<ops.size->listed.getD k false=true:=by
  intro listed bB hr k
  induction k using Nat.strongRecOn with
  |_ k ih=>
   intro hk;cases hl:listed.getD k false with
   |true=>rfl
   |false=>
    exfalso
    have:k∈Region.ready .any ops listed:=by
     rw[mem_ready];refine⟨?_,ops[k],by simp[hk],fun e he hb=>?_⟩
     .have iq:k<listed.size:=by omega
      simpa[iq] using hl
     .have h1:=MF k ops[k] (by simp[hk]) e he hb;exact ih e.on h1 oG
    rw[hr] at this;cases this
 have done:∀ (listed:Array Bool) (β:aC) (w:World) (a:Act),listed.size=ops.size->(J<ops.size->listed.getD J false=false)->DS P F oo pp st₀ ops.size N₀ β₀ w₀ a₀ (fun j=>listed.getD j false) β w a->Region.ready .any ops listed=[]->
  dX P F N₀ β₀ w₀ a₀ Q .normal a w:=by
  intro listed β w a bB ma C hr
  have Bn:J=ops.size:=by
   rcases Nat.lt_or_ge J ops.size with h|h
   .have h1:=ma h;rw[p0 listed bB hr J h] at h1;cases h1
   .omega
  have hQ:=hQ Bn;have e:fe oo pp st₀ (fun j=>listed.getD j false) ops.size=fz oo pp st₀ ops.size:=Jh oo pp st₀ _ fun j hj=>p0 listed bB hr j hj;have h1:=C.e;have h2:=C.m;rw[e] at h1 h2;refine⟨fz oo pp st₀ ops.size,β,hQ,⟨h1,h2,fun i hi=>C.free i ?_ fun k hk _ h=>?_⟩,⟨C.step,?_,C.grow,C.size,C.defers⟩⟩
  .exact Nat.le_trans (oO oo pp st₀ (Nat.zero_le _)) hi
  .have:=oO oo pp st₀ (show k+1<=ops.size by omega);rw[qG,vu] at this;omega
  .exact Nat.le_trans hN (oO oo pp st₀ (Nat.zero_le _))
 intro eb
 induction eb with
 |zero=>
  intro listed β w a bB hc ma dz C
  have hr:Region.ready .any ops listed=[]:=by
   cases oB:Region.ready .any ops listed with
   |nil=>rfl
   |cons x xs=>
    exfalso;have hx:x∈Region.ready .any ops listed:=by rw[oB];simp
    rw[mem_ready] at hx;obtain⟨h1,o,M,_⟩:=hx;have yW:x<ops.size:=(Array.getElem?_eq_some_iff.1 M).1;have yL:x<listed.size:=by omega
    have:listed[x]=false:=by simpa[yL] using h1
    have h2:0<listed.toList.countP (fun b=> !b):=List.countP_pos_iff.2 ⟨listed[x],oS,by simp[this]⟩;omega
  exact⟨hr,done listed β w a bB ma C hr⟩
 |succ eb ih=>
  intro listed β w a bB hc ma dz C;refine⟨done listed β w a bB ma C,fun k hk=>?_⟩;rw[mem_ready] at hk;obtain⟨yX,o,M,ra⟩:=hk;have io:k<ops.size:=(Array.getElem?_eq_some_iff.1 M).1;have iF:k<listed.size:=by omega
  have yY:listed[k]=false:=by simpa[iF] using yX
  have uL:listed.getD k false=false:=by simp[iF,yY]
  have eo:oo k=o:=D1 k o M;by_cases G':k=J
  ·
    subst G';obtain⟨q1,q2,q3⟩:=hL io
    have bp:∀ j,j<k->listed.getD j false=true:=by
     intro j hj;have hb:=q2 j hj;have h1:=E3 ops.toList [] k o (by simpa using M);simp only[List.length_nil,Nat.zero_add] at h1;rw[h1] at hb;rcases ER _ j _ 0 hb with h2|⟨e,he,lq,h2⟩
     .simp at h2
     .have uK:=ra e (by simpa using he) lq;rcases h2 with rfl|h2
      .exact uK
      .have af:=MF k o M e (by simpa using he) lq;have U:((iB ops.toList []).getD e.on 0).testBit j=true:=by simpa[List.getElem?_take,af] using h2
       exact Iy (S:=fun j=>listed.getD j false) dz j e.on uK U
    have D3:fe oo pp st₀ (fun j=>listed.getD j false) ops.size=fz oo pp st₀ k:=by
     rw[<- Sg oo pp st₀ k ops.size oG];refine Jh oo pp st₀ _ fun j hj=>?_;rcases Nat.lt_or_ge j k with h|h
     .simp[bp j h,h]
     .have:j=k:=by omega
      subst this;simp[uL]
    refine Im M ?_;rw[<- eo];have h1:=C.e;have h2:=C.m;rw[D3] at h1 h2;refine q3 r n β w a ⟨h1,h2,fun i hi=>C.free i ?_ fun j hj hS h=>?_⟩ ⟨C.step,?_,C.grow,C.size,C.defers⟩ _ fun a' w' hp=>?_
    .exact Nat.le_trans (oO oo pp st₀ (Nat.zero_le _)) hi
    .rcases Nat.lt_or_ge j k with af|bl
     .have:=oO oo pp st₀ (show j+1<=k by omega);rw[qG,vu] at this;omega
     .have:j=k:=by omega
      subst this;simp only[uL] at hS;cases hS
    .exact Nat.le_trans hN (oO oo pp st₀ (Nat.zero_le _))
    .have hr:Region.ready .any ops (listed.setIfInBounds k true)=[]:=by
      cases oB:Region.ready .any ops (listed.setIfInBounds k true) with
      |nil=>rfl
      |cons x xs=>
       exfalso;have hx:x∈Region.ready .any ops (listed.setIfInBounds k true):=by rw[oB];simp
       rw[mem_ready] at hx;obtain⟨g1,o',D4,_⟩:=hx;have yW:x<ops.size:=(Array.getElem?_eq_some_iff.1 D4).1;by_cases U6:x=k
       .subst U6;simp[iF] at g1
       .have U:=bp x oG;rw[getD_set_ne true (Ne.symm U6)] at g1;have yZ:x<listed.size:=by omega
        simp[yZ] at g1 U;rw[g1] at U;cases U
     cases eb with
     |zero=>exact⟨hr,hp⟩
     |succ eb=>exact⟨fun _=>hp,fun i hi=>by rw[hr] at hi;cases hi⟩
  have hkm:k<J:=by
   rcases Nat.lt_or_ge k J with h|h
   .exact h
   .have:=(hL oG).1;omega
  obtain⟨sS,ams⟩:=bL k hkm
  have T5:∀ j,j<k->listed.getD j false=false->((iB ops.toList []).getD k 0).testBit j=false:=by
   intro j sT hj;cases hb:((iB ops.toList []).getD k 0).testBit j with
   |false=>rfl
   |true=>
    exfalso;have h1:=E3 ops.toList [] k o (by simpa using M);simp only[List.length_nil,Nat.zero_add] at h1;rw[h1] at hb;rcases ER _ j _ 0 hb with h2|⟨e,he,lq,h2⟩
    .simp at h2
    .have uK:=ra e (by simpa using he) lq;rcases h2 with rfl|h2
     .rw[hj] at uK;cases uK
     .have af:=MF k o M e (by simpa using he) lq;have U:((iB ops.toList []).getD e.on 0).testBit j=true:=by simpa[List.getElem?_take,af] using h2
      have:=Iy (S:=fun j=>listed.getD j false) dz j e.on uK U;rw[hj] at this;cases this
  have Ha:∀ j,k<j->listed.getD j false=true->((iB ops.toList []).getD j 0).testBit k=false:=by
   intro j gd hj;cases hb:((iB ops.toList []).getD j 0).testBit k with
   |false=>rfl
   |true=>
    exfalso;have:=Iy (S:=fun j=>listed.getD j false) dz k j hj hb;rw[uL] at this;cases this
  have SZ:∀ j,j<ops.size->listed.getD j false≠decide (j<k)->(j<k/\listed.getD j false=false)\/(k<j/\listed.getD j false=true):=by
   intro j hj X;rcases Nat.lt_trichotomy j k with h|h|h
   .left;refine⟨h,?_⟩;simpa[h] using X
   .subst h;simp[uL] at X
   .right;refine⟨h,?_⟩;have:¬ j<k:=by omega
    simpa[this] using X
  have D3:=Sg oo pp st₀ k ops.size oG;refine Im M ?_;rw[<- eo];refine sS F β w a (fe oo pp st₀ (fun j=>listed.getD j false) ops.size).mem (fe oo pp st₀ (fun j=>listed.getD j false) ops.size).env (fz oo pp st₀ ops.size).nx ?_ C.e C.m ?_ ?_ ?_ r n _ _ ?_
  .intro t ht;rw[<- D3];refine abW oo pp st₀ _ fun j hj X=>?_;rcases SZ j hj X with⟨h1,h2⟩|⟨h1,h2⟩
   .have:=(Oper.apart_spec (LC j k h1 io (T5 j h1 h2))).1;exact fun hd=>this t hd ht
   .have:=(Oper.apart_spec (LC k j h1 hj (Ha j h1 h2))).2.2;exact fun hd=>this t hd ht
  .intro i hi X;rw[<- D3] at X ⊢;refine abX oo pp st₀ _ fun j hj LD hw=>?_;rw[D3] at X;rcases SZ j hj LD with⟨h1,h2⟩|⟨h1,h2⟩
   .exact X ((yV j k h1 io (T5 j h1 h2)).2.1 i hw hi)
   .exact X ((yV k j h1 hj (Ha j h1 h2)).2.2 i hw hi)
  .intro i h1 h2;refine C.free i (Nat.le_trans (oO oo pp st₀ (Nat.zero_le _)) h1) fun j hj hS U=>?_;rcases Nat.lt_trichotomy j k with h|h|h
   .have:=oO oo pp st₀ (show j+1<=k by omega);rw[qG,vu] at this;omega
   .subst h;simp only[uL] at hS;cases hS
   .have:=oO oo pp st₀ (show k+1<=j by omega);rw[qG,vu] at this;omega
  .intro i hi;refine C.free i (Nat.le_trans (oO oo pp st₀ (Nat.zero_le _)) hi) fun j hj _ U=>?_;have:=oO oo pp st₀ (show j+1<=ops.size by omega);rw[qG,vu] at this;omega
  .intro v w' β' g1 g2 g3 g4
   have hS':(fun j=>(listed.setIfInBounds k true).getD j false)=(fun j=>if j=k then true else listed.getD j false):=by
    funext j;by_cases hj:j=k
    .subst hj;simp[iF]
    .rw[if_neg hj,getD_set_ne false (Ne.symm hj)]
   obtain⟨ae,am⟩:=abY oo pp st₀ (S:=fun j=>listed.getD j false) (k:=k) uL ops.size io fun j gd hj HB=>
    ⟨(Oper.apart_spec (LC k j gd hj (Ha j gd HB))).2.1,(yV k j gd hj (Ha j gd HB)).1⟩
   refine ih _ β' w' _ (by simpa using bB) ?_ (fun h=>by rw[getD_set_ne false (fun e=>G' e)];exact ma h) ?_ ?_
   .have:(listed.setIfInBounds k true).toList=listed.toList.set k true:=by simp
    rw[this,List.countP_set (by simpa using iF)];have h2:0<listed.toList.countP (fun b=> !b):=List.countP_pos_iff.2 ⟨listed[k],oS,by simp[yY]⟩;have U:listed.toList[k]'(by simpa using iF)=false:=by simpa using yY
    rw[U];simp only[Bool.not_false,if_true,Bool.not_true,Bool.false_eq_true,if_false];omega
   .intro j hj o' D4 e he hb;by_cases sT:j=k
    .subst sT;rw[M] at D4;cases D4;exact getD_set_true (ra e he hb)
    .rw[getD_set_ne false (Ne.symm sT)] at hj;exact getD_set_true (dz j hj o' D4 e he hb)
   .rw[hS'];refine⟨?_,by rw[am];exact g2,fun i hi hn=>?_,C.step.trans g3,fun i hi hn=>?_,by rw[E4];exact C.size,by rw[put_defers];exact C.defers⟩
    .rw[ae];have hd:∀ t,(oo k).dst=some t->t<a.tmps.size:=fun t ht=>by rw[C.size];rw[eo] at ht;exact ID af M t ht
     have he:=C.e.step g3;cases ag':(oo k).dst with
     |none=>exact he
     |some t=>exact he.put (some t) _ _ g1 (fun u hu=>hd u (by rw[ag'];exact hu))
    .have h1:=hn k io oS;have h2:=C.free i hi fun j hj HB=>hn j hj (by by_cases sT:j=k<;>simp[sT,HB]);exact g4 i h2 oG
    .exact g4 i (C.grow i hi hn) (.inl (Nat.lt_of_lt_of_le (Nat.lt_of_lt_of_le hi hN) (oO oo pp st₀ (Nat.zero_le _))))
theorem abZ{o:Oper}{st:St}{r:Option Nat}{n:Nat}{i:Nat}(ho:ops[i]? =some o)(af:vG a₀.tmps.size ops=true)(h:aq P cZ ops false [] Q [o] st []):Km P F ops Q N₀ β₀ w₀ a₀ r n o st:=by
 intro β w a hs J K hK;have hd:∀ t,o.dst=some t->t<a.tmps.size:=fun t ht=>by rw[J.size];exact ID af ho t ht
 simp only[aq] at h;rcases IP h with⟨p,h1,_,C⟩|⟨_,f,args,h1,h2,C,X⟩|⟨_,l,args,h1,h2,C,X⟩
 .exact PG h1 hs hd r n _ fun β' a' w' M U=>hK _ _ ⟨_,β',C.2,M,J.trans U⟩
 .exact OT h1 h2 C X hs hd r n _ fun d m' ai β' a' w' hp M U=>hK _ _ ⟨_,β',hp.2,M,J.trans U⟩
 .exact X.elim
theorem XF(h:CZ ops=true):0<ops.size/\∀ i,i<ops.size - 1->((iB ops.toList []).getD (ops.size - 1) 0).testBit i=true:=by
 unfold CZ at h;simp only[bf,bS,List.mem_range] at h;exact⟨by simpa using h.1,h.2⟩
theorem W9{Y:ea}{st:St}{β:aC}{w:World}{a:Act}{r:Option Nat}{n id:Nat}(gX:P.follows .mixedOrders=true)(hi:bT ops=some cf)(af:vG a₀.tmps.size ops=true)
 (h:CE P Y ops cf Q st) (hs:ej P F st β w a) (M:fU N₀ β₀ w₀ a₀ st β w a):(Code.region id ops true).wpIn (Fe r) n P (dX P F N₀ β₀ w₀ a₀ Q) a w:=by
 refine wpIn_region_any gX ?_
 obtain⟨ps,C,fM,bL,hQ,hL,bh⟩:∃ (ps:List dp) (C:Nat),C<=ops.size/\
  (∀ j,j<C->(ps.getD j default).Ok P ops (ops.toList.getD j default) (fz (fun j=>ops.toList.getD j default) (fun j=>ps.getD j default) st j)/\(ps.getD j default).sI (cY (ops.toList.getD j default).op) (fz (fun j=>ops.toList.getD j default) (fun j=>ps.getD j default) st j))/\
  (C=ops.size->Q .normal (fz (fun j=>ops.toList.getD j default) (fun j=>ps.getD j default) st ops.size))/\
  (C<ops.size->C+1=ops.size/\(∀ i,i<C->((iB ops.toList []).getD C 0).testBit i=true)/\∀ r n,Km P F ops Q N₀ β₀ w₀ a₀ r n (ops.toList.getD C default) (fz (fun j=>ops.toList.getD j default) (fun j=>ps.getD j default) st C))/\
  ∃ l9:jL,(∀ j,j<C->l9.getD j ([],[])=((ps.getD j default).rd,(ps.getD j default).wr))/\∀ q∈cf,pE l9 q.1 q.2:=by
  rcases h with h|⟨hl,h⟩
  .obtain⟨ps,X⟩:=IB _ _ _ h;have J:=IC (fun j=>ops.toList.getD j default) (fun j=>ps.getD j default) st ops.toList ps 0 [] (fun j o hj=>by simp at hj;simp[hj]) (fun j p hj=>by simp[hj]) rfl oS X;simp only[Nat.zero_add,Array.length_toList] at J;obtain⟨h1,h2,U⟩:=J;exact⟨ps,ops.size,a8 _,fun j hj=>h1 j (Nat.zero_le _) hj,fun _=>h2,fun h=>absurd h (Nat.lt_irrefl _),U⟩
  .obtain⟨hp,hb⟩:=XF hl;obtain⟨ps,X⟩:=IB _ _ _ h;have hlen:(ops.toList.take (ops.size - 1)).length=ops.size - 1:=by simp
   have J:=IC (fun j=>ops.toList.getD j default) (fun j=>ps.getD j default) st (ops.toList.take (ops.size - 1)) ps 0 [] (fun j o hj=>by
    have mO:j<ops.size - 1:=by rw[<- hlen];exact(bK.1 hj).1
    rw[List.getElem?_take,if_pos mO] at hj
    simp at hj;simp[hj]) (fun j p hj=>by simp[hj]) rfl oS X
   rw[hlen] at J;simp only[Nat.zero_add] at J;obtain⟨h1,h2,U⟩:=J;refine⟨ps,ops.size - 1,oG,fun j hj=>h1 j (Nat.zero_le _) hj,fun h=>by omega,fun _=>⟨oG,hb,fun r n=>?_⟩,U⟩
   have hx:ops[ops.size - 1]? =some (ops.toList.getD (ops.size - 1) default):=by
    have af:ops.size - 1<ops.size:=by omega
    simp[af]
   refine abZ hx af ?_;have h4:=h2.2
   have hd:ops.toList.drop (ops.size - 1)=[ops.toList.getD (ops.size - 1) default]:=by
    have af:ops.size - 1<ops.toList.length:=by simp;omega
    rw[List.drop_eq_getElem_cons af,List.drop_eq_nil_of_le oP];have oh:ops.size - 1<ops.size:=by omega
    simp[List.getD,oh]
   rw[hd] at h4;exact h4
 have GK:fe (fun j=>ops.toList.getD j default) (fun j=>ps.getD j default) st (fun j=>(Array.replicate ops.size false).getD j false) ops.size=st:=by
  have:∀ n,fe (fun j=>ops.toList.getD j default) (fun j=>ps.getD j default) st (fun j=>(Array.replicate ops.size false).getD j false) n=st:=by
   intro n
   induction n with
   |zero=>rfl
   |succ n ih=>
    have:(Array.replicate ops.size false).getD n false=false:=by simp[Array.getD_eq_getD_getElem?,Array.getElem?_replicate];split<;>rfl
    simp only[fe,this,Bool.false_eq_true,if_false];exact ih
  exact this _
 have HC:Step β w β { w with drawn:=w.drawn+1 }:=⟨a8 _,fun _ _ h=>⟨rfl,h⟩,fun _ _ h=>.inl h,rfl,rfl⟩
 refine aak (st₀:=st) (oo:=fun j=>ops.toList.getD j default) (pp:=fun j=>ps.getD j default) hi (fun j o hj=>by simp[hj]) af C fM bL hQ hL bh (fun i hi=>?_) M.le r n ops.size _ β _ a oS ?_ (fun h=>?_) ?_ ?_
 .cases hm:st.mem i with
  |none=>rfl
  |some row=>
   obtain⟨p,hp,_⟩:=hs.m.row i row hm;rw[hs.n i hi] at hp;cases hp
 .simpa using List.countP_le_length (p:=fun b=> !b) (l:=(Array.replicate ops.size false).toList)
 .simp[Array.getD_eq_getD_getElem?,Array.getElem?_replicate];split<;>rfl
 .intro j hj;exfalso;have:(Array.replicate ops.size false).getD j false=false:=by simp[Array.getD_eq_getD_getElem?,Array.getElem?_replicate];split<;>rfl
  rw[this] at hj;cases hj
 .refine⟨?_,?_,fun i hi _=>hs.n i hi,M.step.trans HC,M.grow,M.size,M.defers⟩
  .rw[GK];exact hs.e.step HC
  .rw[GK];exact hs.m.ext (a8 _) fun _ _=>rfl
end
section
variable{P:Program}{F:Nat->Prop}
theorem Qk{β β':aC}{w:World}{m:Mem}(hm:aJ P F m β w){i:Nat}{cs:List D}{e:TypeId}(ap:m i=some (.cells cs e))(hβ:β'=up β i (some .dead)){d:D}{v:Value}(h:R F β w d v):
 R F β' w (cE i cs (P.cellsOf e) d) v:=by
 have hs:Step β w β' w:=by rw[hβ];exact zL β w i
 have gT:=h.step hs;obtain⟨p,hp,hr⟩:=hm.row i _ ap;unfold cE;split
 .rename_i j off n;split
  .rename_i U;subst U;cases h with
   |kH _ _ _ _ h1 _=>
    rw[h1] at hp;cases hp;cases hr
   |iT _ a h1=>
    rw[h1] at hp;cases hp;cases hr;simp only[List.drop_nil,List.take_nil];exact .fZ a 0
   |jI _ _ a b o len room sz h1=>
    simp only[Nat.zero_mul,List.take_zero];exact .fZ a 0
   |rs _ _ _ cap b o len room sz h1 hn dk h2 h3=>
    rw[h1] at hp;cases hp;have J:β j=some (.cells b o len room sz):=h1;obtain⟨X,hl,bB,_⟩:=hr.rd;have M:=(X.drop off).take (n*P.cellsOf e);obtain⟨us,u1,u2⟩:=M;refine .sl _ n b (o+off) cap us (hm.nf j _ b J rfl) ?_ (hm.lt j _ b J rfl) hn dk u1 fun k d hk=>(u2 k d hk).step hs;rw[hβ];intro k q hq;by_cases C:k=j
    .subst C;rw[ah] at hq;cases hq;simp[Pl.bF]
    .rw[az _ _ C] at hq;exact hm.qC J rfl hq C
  .exact gT
 .rename_i j off;split
  .rename_i U;subst U;cases h with
   |qf _ _ _ h1 _=>
    rw[h1] at hp;cases hp;cases hr
   |rp _ _ b o len room sz h1=>
    rw[h1] at hp;cases hp;obtain⟨X,hl,bB,_⟩:=hr.rd;obtain⟨us,u1,u2⟩:=X.drop off;refine .pt _ b (o+off) us (hm.nf j _ b h1 rfl) ?_ (hm.lt j _ b h1 rfl) u1 fun k d hk=>(u2 k d hk).step hs;rw[hβ];intro k q hq;by_cases C:k=j
    .subst C;rw[ah] at hq;cases hq;simp[Pl.bF]
    .rw[az _ _ C] at hq;exact hm.qC h1 rfl hq C
  .exact gT
 .exact gT
theorem aai{β β':aC}{w:World}{m:Mem}(hm:aJ P F m β w){i:Nat}{es:List (Value×D)}(ap:m i=some (.map es))(M:β'=up β i (some .dead)){d:D}{v:Value}(h:R F β w d v):R F β' w (yK i es d) v:=by
 have hs:Step β w β' w:=by rw[M];exact zL β w i
 unfold yK;split
 .rename_i j;split
  .rename_i U;subst U;obtain⟨r,ms,clock,h1,rfl,X,h4,h5,J⟩:=h.CA hm ap;refine .im es r ms clock (hm.nf j _ r h1 rfl) ?_ X h4 h5 (fun k x m hx hm=>(J k x m hx hm).1) fun k x m hx hm=>(J k x m hx hm).2.step hs;rw[M];intro k q hq;by_cases C:k=j
   .subst C;rw[ah] at hq;cases hq;simp[Pl.bF]
   .rw[az _ _ C] at hq;exact hm.qC h1 rfl hq C
  .exact h.step hs
 .exact h.step hs
section subst
variable{σ:D->D}{β β':aC}{w:World}
theorem PE(C:∀ {d v},R F β w d v->R F β' w (σ d) v){d:D}{v:Value}(h:R F β w d v):R F β' w (pc σ d) v:=by
 unfold pc;split
 .rename_i ds;obtain⟨vs,rfl,hl,hh⟩:=h.rS;refine .agg _ vs (by simpa using hl) fun k d v hd hv=>?_;simp only[List.getElem?_map,cP] at hd;obtain⟨d',J,rfl⟩:=hd;exact C (hh k d' v J hv)
 .cases h with
  |cn c d _ h1 h2=>exact .cn _ _ v (fun hc=>C (h1 hc)) h2
 .exact C h
theorem E0(C:∀ {d v},R F β w d v->R F β' w (σ d) v){d:D}{v:Value}(h:R F β w d v):R F β' w (sub σ d) v:=by
 have map:∀ (ds:List D) (vs:List Value),(∀ (k:Nat) (d:D) (v:Value),ds[k]? =some d->vs[k]? =some v->R F β w d v)->
  ∀ (k:Nat) (d:D) (v:Value),(ds.map (pc σ))[k]? =some d->vs[k]? =some v->R F β' w d v:=fun ds vs hh k d v hd hv=>by
  simp only[List.getElem?_map,cP] at hd;obtain⟨d',J,rfl⟩:=hd;exact PE C (hh k d' v J hv)
 unfold sub;split
 .rename_i ds;obtain⟨vs,rfl,hl,hh⟩:=h.Cl;exact .aL _ vs (by simpa using hl) (map ds vs hh)
 .rename_i f fs ds;cases h with
  |fn _ _ _ us vs hl l7 h1 h2=>exact .fn f _ _ us vs (by simpa using hl) (by simpa using l7) (map fs us h1) (map ds vs h2)
 .exact PE C h
theorem abU(J:∀ {d v},R F β w d v->R F β' w (σ d) v)(hs:Step β w β' w){r:Row}{p:Pl}(h:cw P F β w r p):cw P F β' w (r.sub σ) p:=by
 cases h with
 |nil C=>exact .nil C
 |cells ds C b o room sz c hc hr hlen bB hh=>
  have:=cw.cells (P:=P) (F:=F) (β:=β') (w:=w) (ds.map (Abs.sub σ)) C b o room sz c hc hr (by simpa using hlen) bB fun k d hk=>by
   simp only[List.getElem?_map,cP] at hk;obtain⟨d',U,rfl⟩:=hk;obtain⟨v,h1,h2,X⟩:=hh k d' U;exact⟨v,h1,E0 J h2,X⟩
  simpa[Row.sub] using this
 |map es r ms clock hc hl dY hh=>
  refine .map _ r ms clock hc (by simpa using hl) (by simpa[List.map_map,Function.comp_def] using dY) fun k x mm hk M=>?_;simp only[List.getElem?_map,cP] at hk;obtain⟨x',yL,rfl⟩:=hk;obtain⟨h1,h2⟩:=hh k x' mm yL M;exact⟨h1,E0 J h2⟩
 |raw r o hc=>exact .raw r o hc
 |bs u x T b v hc bB hx h1=>exact .bs u _ T b v hc bB (E0 J hx) h1
 |ig f r _ F₂ h1 h2 h=>exact(cw.ig f r p F₂ h1 h2 h).step hs fun _ _=>rfl
end subst
theorem Ou{σ:D->D}{env:Env}{m:Mem}{nx i:Nat}{row:Row}(h:m i=some row){w:World}{a:Act}{β:aC}(hs:ej P F ⟨env,m,nx⟩ β w a)(U:∀ {d v},R F β w d v->R F (up β i (some .dead)) w (σ d) v):
 ∃ β',ej P F ⟨fun t=>sub σ (env t),fun j=>if j=i then none else(m j).map (Row.sub σ),nx⟩ β' w a/\fU nx β w a ⟨fun t=>sub σ (env t),fun j=>if j=i then none else(m j).map (Row.sub σ),nx⟩ β' w a:=by
 have M:=zL β w i;have hm:=hs.m;simp only at hm
 have J:∀ j q b,up β i (some .dead) j=some q->q.bF=some b->j≠i/\β j=some q:=fun j q b hq e=>by
  by_cases hj:j=i
  .subst hj;rw[ah] at hq;cases hq;simp[Pl.bF] at e
  .rw[az _ _ hj] at hq;exact⟨hj,hq⟩
 have hi:∃ p,β i=some p:=by
  obtain⟨p,hp,_⟩:=hm.row i _ h;exact⟨p,hp⟩
 refine⟨up β i (some .dead),⟨fun t=>E0 U (hs.e t),⟨fun j r hj=>?_,fun j k q X b hq gL e1 e2=>hm.inj j k q X b (J j q b hq e1).2 (J k X b gL e2).2 e1 e2,
  fun j q b hq e1=>hm.lt j q b (J j q b hq e1).2 e1,fun j q b hq e1=>hm.nf j q b (J j q b hq e1).2 e1,hm.fb⟩,fun j hj=>?_⟩,⟨M,a8 _,fun j hj hn=>?_,rfl,rfl⟩⟩
 .simp only at hj;by_cases C:j=i
  .rw[if_pos C] at hj;cases hj
  .rw[if_neg C] at hj;simp only[cP] at hj;obtain⟨r',jo,rfl⟩:=hj;obtain⟨q,hq,ap⟩:=hm.row j r' jo;exact⟨q,by rw[az _ _ C];exact hq,abU U M ap⟩
 .have C:j≠i:=fun e1=>by
   subst e1;obtain⟨p,hp⟩:=hi;rw[hs.n j hj] at hp;cases hp
  rw[az _ _ C];exact hs.n j hj
 .have C:j≠i:=fun e1=>by
   subst e1;obtain⟨p,hp⟩:=hi;rw[hn] at hp;cases hp
  rw[az _ _ C];exact hn
theorem aaj{β:aC}{w:World}{cs cs':List D}{e:TypeId}{p:Pl}(hl:cs'.length=cs.length)(M:∀ (k:Nat) (d d':D),cs[k]? =some d->cs'[k]? =some d'->Wk d d')(h:cw P F β w (.cells cs e) p):cw P F β w (.cells cs' e) p:=by
 cases h with
 |nil _=>
  have:cs'=[]:=List.length_eq_zero_iff.1 (by simpa using hl);subst this;exact .nil e
 |cells _ _ b o room sz c hc hr hlen bB hh=>
  rw[<- hl];refine .cells cs' e b o room sz c hc hr oG bB fun k d' C=>?_;have hk:k<cs.length:=by rw[<- hl];exact(bK.1 C).1
  obtain⟨v,h1,h2,J⟩:=hh k cs[k] (by simp[hk]);exact⟨v,h1,M k cs[k] d' (by simp[hk]) C _ _ _ _ h2,J⟩
theorem Is{st st':St}(h:aI P st st'){w:World}{a:Act}:∀ {β:aC},ej P F st β w a->∃ β',ej P F st' β' w a/\fU st.nx β w a st' β' w a:=by
 induction h with
 |refl st=>exact fun {β} hs=>⟨β,hs,fU.refl st β w a⟩
 |trans _ _ ih₁ ih₂=>
  intro β hs;obtain⟨β₁,h1,h2⟩:=ih₁ hs;obtain⟨β₂,U,X⟩:=ih₂ h1;exact⟨β₂,U,h2.trans X⟩
 |forget env env' m nx h=>
  intro β hs;refine⟨β,⟨fun t=>?_,hs.m,hs.n⟩,⟨Step.refl β w,a8 _,fun _ _ h=>h,rfl,rfl⟩⟩;rcases h t with h1|h1
  .simp only[h1];exact hs.e t
  .simp only[h1];exact .u _
 |drop env m m' nx h=>
  intro β hs;refine⟨β,⟨hs.e,⟨fun i r hi=>?_,hs.m.inj,hs.m.lt,hs.m.nf,hs.m.fb⟩,hs.n⟩,⟨Step.refl β w,a8 _,fun _ _ h=>h,rfl,rfl⟩⟩;rcases h i with h1|h1
  .exact hs.m.row i r (h1.symm.trans hi)
  .simp only at hi;rw[h1] at hi;cases hi
 |nv env env' m m' nx h fc=>
  intro β hs;refine⟨β,⟨fun t=>h t _ _ _ _ (hs.e t),⟨fun i r hi=>?_,hs.m.inj,hs.m.lt,hs.m.nf,hs.m.fb⟩,hs.n⟩,⟨Step.refl β w,a8 _,fun _ _ h=>h,rfl,rfl⟩⟩;rcases fc i with h1|⟨cs,cs',e,h1,h2,U,X⟩
  .exact hs.m.row i r (h1.symm.trans hi)
  .simp only at hi;rw[h2] at hi;cases hi;obtain⟨p,hp,hr⟩:=hs.m.row i _ h1;exact⟨p,hp,aaj U X hr⟩
 |freeze env m nx i cs e h=>
  intro β hs;exact Ou h hs fun hr=>Qk hs.m h rfl hr
 |Cm env m nx i es h=>
  intro β hs;exact Ou h hs fun hr=>aai hs.m h rfl hr
 |o0 env m nx t e h=>
  intro β hs;have hm:=hs.m;have hn:β nx=none:=hs.n nx (a8 _);simp only at hm
  have C:∀ j q b,up β nx (some .nil) j=some q->q.bF=some b->j≠nx/\β j=some q:=fun j q b hq e=>by
   by_cases hj:j=nx
   .subst hj;rw[ah] at hq;cases hq;simp[Pl.bF] at e
   .rw[az _ _ hj] at hq;exact⟨hj,hq⟩
  have M:Step β w (up β nx (some .nil)) w:=by
   refine⟨a8 _,fun b _ hf=>⟨rfl,fun j q hq e1=>?_⟩,fun j q hq=>.inl ?_,rfl,rfl⟩
   .exact hf j q (C j q b hq e1).2 e1
   .rw[az _ _ (fun e1=>by rw[e1,hn] at hq;cases hq)];exact hq
  refine⟨up β nx (some .nil),⟨fun u=>?_,⟨fun j r hj=>?_,fun j k q q' b hq gL e1 e2=>hm.inj j k q q' b (C j q b hq e1).2 (C k q' b gL e2).2 e1 e2,
   fun j q b hq e1=>hm.lt j q b (C j q b hq e1).2 e1,fun j q b hq e1=>hm.nf j q b (C j q b hq e1).2 e1,hm.fb⟩,fun j hj=>?_⟩,⟨M,Nat.le_succ _,fun j hj hb=>?_,rfl,rfl⟩⟩
  .by_cases hu:u=t
   .subst hu;have h1:=hs.e u;simp only at h1;rw[h] at h1;obtain⟨x,hx⟩:=h1.tX;simp only[ah,hx];exact .iT nx x (ah _ _ _)
   .simp only[az _ _ hu];exact(hs.e u).step M
  .simp only at hj;by_cases J:j=nx
   .subst J;rw[ah] at hj;cases hj;exact⟨.nil,ah _ _ _,.nil e⟩
   .rw[az _ _ J] at hj;obtain⟨q,hq,ap⟩:=hm.row j r hj;exact⟨q,by rw[az _ _ J];exact hq,ap.step M fun _ _=>rfl⟩
  .simp only at hj;rw[az _ _ (show j≠nx by omega)];exact hs.n j (by simp only;omega)
  .simp only at hj;rw[az _ _ (show j≠nx by omega)];exact hb
def gB(N:Nat):Code->Bool
 | .region _ ops _=>vG N ops
 | .seq a b=>gB N a&&gB N b
 | .cond _ a b=>gB N a&&gB N b
 | .block _ b=>gB N b
 | .loop b=>gB N b
 | .scope b=>gB N b
 | .rangeFunc _ ps a b=>(ps.toList.all fun t=>Nat.blt t N)&&(gB N a&&gB N b)
 |_=>true
theorem WE{Fc:Fence}{n:Nat}{Q:Exit->Act->World->Prop}{c:Code}(J:Nat->Act->World->Prop){j₀:Nat}{a:Act}{w:World}(h₀:J j₀ a w)
 (round:∀ j a w,J j a w->c.wpIn Fc n P (Exit.then (fun a' w'=>∃ X,X<j/\J X a' w') Q) a w):(Code.loop c).wpIn Fc n P Q a w:=by
 intro b k cs qg hb hr
 have key:∀ j a w,J j a w->
  ∃ e a' w',Q e a' w'/\ArrivesIn (Machine.fenced P Fc) P (lone (b.atR a (.code c::.inLoop c::k)) cs w) b k cs e a' w':=by
  intro j
  induction j using Nat.strongRecOn with
  |_ j ih=>
   intro a w hI;obtain⟨e,M,U,hq,C⟩:=round j a w hI b (.inLoop c::k) cs qg hb hr;cases e with
   |normal=>
    obtain⟨X,af,hI₁⟩:=hq;obtain⟨e₂,a₂,w₂,hq₂,adZ⟩:=ih X af M U hI₁;exact⟨e₂,a₂,w₂,hq₂,.of_steps (StepsIn.trans C (.one (fenced_calm hb hr rfl) stepR_inLoop)) adZ⟩
   |exit id=>exact⟨_,M,U,hq,.pass (x:=.inLoop c) rfl (fun _ _=>.inl oS) C⟩
   |goto l=>exact⟨_,M,U,hq,.pass (x:=.inLoop c) rfl (fun _ _=>.inl oS) C⟩
   |ret=>exact⟨_,M,U,hq,.pass (x:=.inLoop c) rfl (fun _ _=>.inl oS) C⟩
   |panic ch=>exact⟨_,M,U,hq,.pass (x:=.inLoop c) rfl (fun _ _=>.inl oS) C⟩
   |outgrown=>exact⟨_,M,U,hq,.pass (x:=.inLoop c) rfl (fun _ _=>.inl oS) C⟩
 obtain⟨e,a',w',hq,C⟩:=key _ a w h₀;exact⟨e,a',w',hq,.of_steps (.one (fenced_calm hb hr rfl) stepR_loop) C⟩
def mark(b:Nat):Deferred:={ target:=.collected b,args:= #[] }
def Marks(β:aC)(w:World)(lo:Nat):List Deferred->Nat->Prop
 |[],_=>True
 |d::ds,hi=>∃ b,d=mark b/\lo<=b/\b<hi/\w.heap[b]? =some (.deferred (some []))/\β.free b/\Marks β w lo ds b
theorem Marks.step{β β':aC}{w w':World}(hs:Step β w β' w'){lo:Nat}:∀ {ds:List Deferred} {hi:Nat},hi<=w.heap.size->Marks β w lo ds hi->Marks β' w' lo ds hi
 |[],_,_,_=>trivial
 |d::ds,hi,hle,⟨b,h1,h2,h3,h4,h5,h6⟩=>by
  obtain⟨C,J⟩:=hs.de b oG h5;exact⟨b,h1,h2,h3,C.trans h4,J,Marks.step hs oG h6⟩
theorem Marks.mono{β:aC}{w:World}{lo hi C:Nat}(h:hi<=C):∀ {ds:List Deferred},Marks β w lo ds hi->Marks β w lo ds C
 |[],_=>trivial
 |_::_,⟨b,h1,h2,h3,h4⟩=>⟨b,h1,h2,oG,h4⟩
theorem Marks.append{β:aC}{w:World}{lo mid:Nat}(J:lo<=mid){C:List Deferred}:∀ {ds:List Deferred} {hi:Nat},mid<=hi->Marks β w mid ds hi->Marks β w lo C mid->Marks β w lo (ds++C) hi
 |[],_,hle,_,h'=>Marks.mono hle h'
 |_::_,_,_,⟨b,h1,h2,h3,h4,h5,h6⟩,h'=>⟨b,h1,oG,h3,h4,h5,Marks.append J h2 h6 h'⟩
structure oz(N:Nat)(β:aC)(w:World)(a:Act)(st':St)(β':aC)(w':World)(a':Act):Prop where
 step:Step β w β' w'
 le:N<=st'.nx
 grow:∀ i,i<N->β i=none->β' i=none
 size:a'.tmps.size=a.tmps.size
 defers:∃ ds,a'.defers=ds++a.defers/\Marks β' w' w.heap.size ds w'.heap.size
theorem fU.yM{N:Nat}{β β':aC}{w w':World}{a a':Act}{st':St}(h:fU N β w a st' β' w' a'):oz N β w a st' β' w' a':=
 ⟨h.step,h.le,h.grow,h.size,[],h.defers,trivial⟩
theorem oz.trans{N:Nat}{β β₁ β₂:aC}{w X w₂:World}{a C J:Act}{U M:St}(h:oz N β w a U β₁ X C)(k:oz U.nx β₁ X C M β₂ w₂ J):oz N β w a M β₂ w₂ J:=by
 obtain⟨ds,e1,h1⟩:=h.defers;obtain⟨wy,e2,h2⟩:=k.defers
 exact⟨h.step.trans k.step,Nat.le_trans h.le k.le,fun i hi hn=>k.grow i (Nat.lt_of_lt_of_le hi h.le) (h.grow i hi hn),k.size.trans h.size,wy++ds,by rw[e2,e1,List.append_assoc],
  Marks.append h.step.size k.step.size h2 (h1.step k.step (a8 _))⟩
theorem oz.since{N:Nat}{β β₁ β₂:aC}{w X w₂:World}{a C J:Act}{U M:St}(h:oz N β w a U β₁ X C)(k:fU U.nx β₁ X C M β₂ w₂ J):oz N β w a M β₂ w₂ J:=h.trans k.yM
def SY(P:Program)(F:Nat->Prop)(N:Nat)(β:aC)(w:World)(a:Act)(Q:Exit->St->Prop)(e:Exit)(a':Act)(w':World):Prop:=
 ∃ st' β',Q e st'/\ej P F st' β' w' a'/\oz N β w a st' β' w' a'
theorem nn.base{J:aC}{C:World}{β:aC}{w:World}(hs:Step J C β w){l:Nat}{args:List D}{m:Mem}{nx:Nat}{K:D->Mem->Nat->Prop}(h:nn P F J C l args m nx K):nn P F β w l args m nx K:=
 fun β' w' us M=>h β' w' us (hs.trans M)
theorem qC{β:aC}{i:Nat}{p:Option Pl}{b:Nat}(h:β.free b)(hp:∀ q,p=some q->q.bF≠some b):aC.free (up β i p) b:=fun j q hq=>by
 by_cases hj:j=i
 .subst hj;rw[ah] at hq;exact hp q hq
 .rw[az _ _ hj] at hq;exact h j q hq
theorem R.og{β:aC}{w:World}{l:Nat}(C:F l)(o:Obj){d:D}{v:Value}(h:R F β w d v):R F β (w.putObj l o) d v:=
 h.gen oS (fun b _ hb hf=>⟨tE (World.putObj_heap_other fun e=>hb (e▸C)),hf,hb⟩) fun _ _ _ h=>.inl h
theorem cw.og{β:aC}{w:World}{l:Nat}(C:F l)(o:Obj){r:Row}{p:Pl}(hp:∀ b,p.bF=some b->b≠l)(h:cw P F β w r p):cw P F β (w.putObj l o) r p:=
 h.gen oS (fun b _ hb hf=>⟨tE (World.putObj_heap_other fun e=>hb (e▸C)),hf,hb⟩) (fun _ _ _ h=>.inl h) fun b hb=>World.putObj_heap_other (hp b hb)
theorem aJ.og{m:Mem}{β:aC}{w:World}{l:Nat}(C:F l)(J:∀ t∈uk,t.1≠l)(o:Obj)(h:aJ P F m β w):aJ P F m β (w.putObj l o):=
 ⟨fun i r hi=>by
  obtain⟨p,hp,hr⟩:=h.row i r hi
  exact⟨p,hp,hr.og C o fun b hb e=>h.nf i p b hp hb (e▸C)⟩,h.inj,fun i p b hp hb=>by simpa using h.lt i p b hp hb,h.nf,h.fb.next (fun b hb=>by simpa using h.fb.lt b hb) (fun _ h=>h) fun t ht _=>World.putObj_heap_other fun e=>J t ht e⟩
theorem ej.og{st:St}{β:aC}{w:World}{a:Act}{l:Nat}(C:F l)(J:∀ t∈uk,t.1≠l)(o:Obj)(h:ej P F st β w a):ej P F st β (w.putObj l o) a:=
 ⟨fun t=>(h.e t).og C o,h.m.og C J o,h.n⟩
theorem R.nv{F':Nat->Prop}(C:∀ b,F' b->F b){β:aC}{w:World}{d:D}{v:Value}(h:R F β w d v):R F' β w d v:=
 h.gen (a8 _) (fun b _ hb hf=>⟨ki.refl w b,hf,fun e=>hb (C b e)⟩) fun _ _ _ h=>.inl h
theorem aJ.nv{F':Nat->Prop}(C:∀ b,F' b->F b)(J:∀ t∈uk,F' t.1){m:Mem}{β:aC}{w:World}(h:aJ P F m β w):aJ P F' m β w:=
 ⟨fun i r hi=>by
  obtain⟨p,hp,hr⟩:=h.row i r hi
  exact⟨p,hp,hr.gen (a8 _) (fun b _ hb hf=>⟨ki.refl w b,hf,fun e=>hb (C b e)⟩) (fun _ _ _ h=>.inl h) fun _ _=>rfl⟩,h.inj,h.lt,fun i p b hp hb e=>h.nf i p b hp hb (C b e),⟨fun b hb=>h.fb.lt b (C b hb),fun t ht=>⟨J t ht,(h.fb.l8 t ht).2⟩⟩⟩
theorem Jf{β:aC}{b:Nat}(h:¬ β.free b):∃ i p,β i=some p/\p.bF=some b:=by
 unfold aC.free at h;simp only[Classical.not_forall] at h;obtain⟨i,p,hp,hb⟩:=h;exact⟨i,p,hp,Decidable.not_not.1 hb⟩
structure View(il n₀:Nat)(f:Nat->Option Nat)(mc:Mem)(nc:Nat)(m:Mem)(nx:Nat):Prop where
 low:n₀<=nc
 lt:il<nx
 id:∀ i,i<n₀->f i=some i
 wB:∀ i,i<nc->∃ j,f i=some j/\j<nx/\j≠il
 out:∀ i,nc<=i->f i=none
 inj:∀ i i' j,f i=some j->f i'=some j->i=i'
 rows:∀ i r,mc i=some r->∃ j,f i=some j/\m j=some (r.lX f)
theorem View.lY{il n₀:Nat}{f:Nat->Option Nat}{mc:Mem}{nc:Nat}{m:Mem}{nx:Nat}(h:View il n₀ f mc nc m nx){i j:Nat}(hf:f i=some j):i<nc/\j<nx/\j≠il:=by
 rcases Nat.lt_or_ge i nc with af|C
 .obtain⟨M,h1,h2,J⟩:=h.wB i af;rw[hf] at h1;cases h1;exact⟨af,h2,J⟩
 .rw[h.out i C] at hf;cases hf
theorem View.ext{il n₀:Nat}{f:Nat->Option Nat}{mc:Mem}{nc:Nat}{m m':Mem}{nx J:Nat}(h:View il n₀ f mc nc m nx)(C:nx<=J)(he:∀ i,i<nx->m' i=m i):View il n₀ f mc nc m' J:=
 ⟨h.low,Nat.lt_of_lt_of_le h.lt C,h.id,fun i hi=>by
  obtain⟨j,h1,h2,M⟩:=h.wB i hi;exact⟨j,h1,oG,M⟩,h.out,h.inj,fun i r hi=>by
  obtain⟨j,h1,h2⟩:=h.rows i r hi
  exact⟨j,h1,(he j (h.lY h1).2.1).trans h2⟩⟩
theorem YK{f:Nat->Option Nat}{m:Mem}{β:aC}{w:World}(hm:aJ P F m β w){b:Nat}(h:hidden F β f b):b<w.heap.size:=by
 rcases h with h|⟨h,_⟩
 .exact hm.fb.lt b h
 .obtain⟨i,p,hp,hb⟩:=Jf h;exact hm.lt i p b hp hb
theorem View.enter{il n₀:Nat}{f:Nat->Option Nat}{mc:Mem}{nc:Nat}{m:Mem}{nx:Nat}(h:View il n₀ f mc nc m nx){β:aC}{w:World}(hm:aJ P F m β w):
 aJ P (hidden F β f) mc (β.via f) w/\∀ i,nc<=i->(β.via f) i=none:=by
 have look:∀ i p,(β.via f) i=some p->∃ j,f i=some j/\β j=some p:=fun i p hp=>Option.bind_eq_some_iff.1 hp;refine⟨⟨fun i r hi=>?_,fun i i' p q b hp hq e J=>?_,fun i p b hp e=>?_,fun i p b hp e C=>?_,hm.fb.next (fun b hb=>YK hm hb) (fun _ h=>.inl h) fun _ _ _=>rfl⟩,fun i hi=>?_⟩
 .obtain⟨j,h1,h2⟩:=h.rows i r hi;obtain⟨p,hp,hr⟩:=hm.row j _ h2;exact⟨p,by simp[aC.via,h1,hp],hr.seen⟩
 .obtain⟨j,h1,h2⟩:=look i p hp;obtain⟨X,M,U⟩:=look i' q hq;have:=hm.inj j X p q b h2 U e J;subst this;exact h.inj i i' j h1 M
 .obtain⟨j,h1,h2⟩:=look i p hp;exact hm.lt j p b h2 e
 .obtain⟨j,h1,h2⟩:=look i p hp;rcases C with C|⟨_,C⟩
  .exact hm.nf j p b h2 e C
  .exact C i p hp e
 .simp[aC.via,h.out i hi]
theorem aJ.pO{m:Mem}{β:aC}{w:World}{i l:Nat}{o:Obj}(h:aJ P F m β w)(hm:m i=some (.raw l o)):β i=some (.raw l)/\w.heap[l]? =some o/\¬ F l/\l<w.heap.size:=by
 obtain⟨p,hp,hr⟩:=h.row i _ hm;cases hr with
 |raw _ _ hc=>exact⟨hp,hc,h.nf i _ l hp rfl,h.lt i _ l hp rfl⟩
theorem View.vi{il n₀:Nat}{f:Nat->Option Nat}{mc:Mem}{nc:Nat}{m:Mem}{nx:Nat}(h:View il n₀ f mc nc m nx){β:aC}{w:World}(hm:aJ P F m β w){j:Nat}{p:Pl}{b:Nat}(hj:∀ i,f i≠some j)(hp:β j=some p)(hb:p.bF=some b):
 (β.via f).free b/\hidden F β f b:=by
 have C:(β.via f).free b:=fun i q hq e=>by
  obtain⟨J,h1,h2⟩:=Option.bind_eq_some_iff.1 hq;exact hj i (hm.inj J j q p b h2 hp e hb▸h1)
 exact⟨C,.inr ⟨fun e=>e j p hp hb,C⟩⟩
structure o8(l:Nat)(β:aC)(w:World)(β':aC)(w':World):Prop where
 size:w.heap.size<=w'.heap.size
 de:∀ b,b<w.heap.size->b≠l->β.free b->w'.heap[b]? =w.heap[b]? /\β'.free b
 keep:∀ i p,β i=some p->β' i=some p\/β' i=some .dead
 out:Out w w'
theorem Step.x{β β':aC}{w w':World}(h:Step β w β' w')(l:Nat):o8 l β w β' w':=⟨h.size,fun b hb _=>h.de b hb,h.keep,h.out⟩
theorem o8.trans{l:Nat}{X β₂ β₃:aC}{J M U:World}(h:o8 l X J β₂ M)(k:o8 l β₂ M β₃ U):o8 l X J β₃ U:=by
 refine⟨Nat.le_trans h.size k.size,fun b hb C hf=>?_,fun i p hp=>?_,h.out.trans k.out⟩
 .obtain⟨h1,h2⟩:=h.de b hb C hf;obtain⟨k1,k2⟩:=k.de b (Nat.lt_of_lt_of_le hb h.size) C h2;exact⟨k1.trans h1,k2⟩
 .rcases h.keep i p hp with h1|h1
  .exact k.keep i p h1
  .right;rcases k.keep i _ h1 with h2|h2<;>exact h2
theorem o8.put(l:Nat)(β:aC)(w:World)(o:Obj):o8 l β w β (w.putObj l o):=⟨oS,fun b _ C hf=>⟨World.putObj_heap_other C,hf⟩,fun _ _ h=>.inl h,rfl,rfl⟩
theorem EQ{n j:Nat}{f:Nat->Option Nat}(C:∀ i i' j,f i=some j->f i'=some j->i=i'):
 (∀ i,(range n).find? (fun i=>f i==some j)=some i->f i=some j/\i<n)/\(∀ i,i<n->f i=some j->(range n).find? (fun i=>f i==some j)=some i):=by
 refine⟨fun i hi=>⟨by simpa using List.find?_some hi,by simpa using List.mem_of_find?_eq_some hi⟩,fun i hi hf=>?_⟩;cases h:(range n).find? (fun i=>f i==some j) with
 |none=>
  have:=List.find?_eq_none.1 h i (by simpa using hi);simp[hf] at this
 |some k=>rw[C i k j hf (by simpa using List.find?_some h)]
theorem View.ad0{il n₀:Nat}{f:Nat->Option Nat}{mc:Mem}{nc:Nat}{m:Mem}{nx:Nat}(h:View il n₀ f mc nc m nx){β:aC}{w:World}(hm:aJ P F m β w)(hn:∀ i,nx<=i->β i=none){l:Nat}{o o':Obj}(hl:m il=some (.raw l o))
 {m':Mem} {J:Nat} {β':aC} {w':World} (fy:aJ P (hidden F β f) m' β' w') (hs:o8 l (β.via f) w β' w') (ij:∀ i,J<=i->β' i=none) (hle:nc<=J) (hg:∀ i,i<nc->(β.via f) i=none->β' i=none) (ho:w'.heap[l]? =some o'):
 ∃ f' M gJ C,View il n₀ f' m' J M gJ/\M il=some (.raw l o')/\aJ P F M C w'/\(∀ i,gJ<=i->C i=none)/\Step β w C w'/\nx<=gJ/\∀ i,i<nx->β i=none->C i=none:=by
 obtain⟨yN,rr,DW,af⟩:=hm.pO hl
 let f':Nat->Option Nat:=fun i=>if i<nc then f i else if i<J then some (nx+(i - nc)) else none
 have qV:∀ i,i<nc->f' i=f i:=fun i hi=>by simp[f',hi]
 have xO:∀ i,nc<=i->i<J->f' i=some (nx+(i - nc)):=fun i h1 h2=>by simp[f',h2,Nat.not_lt.2 h1]
 have CV:∀ i,J<=i->f' i=none:=fun i h1=>by simp[f',Nat.not_lt.2 h1,Nat.not_lt.2 (Nat.le_trans hle h1)]
 have lD:∀ i j,f' i=some j->(f i=some j/\i<nc/\j<nx)\/(nc<=i/\i<J/\j=nx+(i - nc)):=fun i j hf=>by
  rcases Nat.lt_or_ge i nc with h1|h1
  .rw[qV i h1] at hf;exact .inl ⟨hf,h.lY hf |>.1,(h.lY hf).2.1⟩
  .rcases Nat.lt_or_ge i J with h2|h2
   .rw[xO i h1 h2] at hf;cases hf;exact .inr ⟨h1,h2,rfl⟩
   .rw[CV i h2] at hf;cases hf
 have xP:∀ i i' j,f' i=some j->f' i'=some j->i=i':=fun i i' j h1 h2=>by
  rcases lD i j h1 with⟨a1,a2,a3⟩|⟨a1,a2,a3⟩<;>rcases lD i' j h2 with⟨b1,b2,b3⟩|⟨b1,b2,b3⟩
  .exact h.inj i i' j a1 b1
  .omega
  .omega
  .omega
 let inv:Nat->Option Nat:=fun j=>(range J).find? fun i=>f' i==some j
 have mF:∀ i j,inv j=some i->f' i=some j:=fun i j hi=>((EQ xP).1 i hi).1;have yn:∀ i j,f' i=some j->inv j=some i:=fun i j hf=>(EQ xP).2 i (by rcases lD i j hf with h1|h1<;>omega) hf
 have Lr:∀ j,inv j=none->∀ i,f i≠some j:=fun j hj i hf=>by
  have:=yn i j (by rw[qV i (h.lY hf).1];exact hf);rw[hj] at this;cases this
 let C:aC:=fun j=>match inv j with|some i=>β' i|none=>β j
 let M:Mem:=fun j=>match inv j with|some i=>(m' i).map (Row.lX f')|none=>if j=il then some (.raw l o') else m j
 have βs:∀ i j,f' i=some j->C j=β' i:=fun i j hf=>by simp[C,yn i j hf]
 have βn:∀ j,inv j=none->C j=β j:=fun j hj=>by simp[C,hj]
 have Kl:inv il=none:=by
  cases hi:inv il with
  |none=>rfl
  |some i=>
   rcases lD i il (mF i il hi) with⟨a1,a2,a3⟩|⟨a1,a2,a3⟩
   .exact absurd rfl (h.lY a1).2.2
   .have:=h.lt;omega
 have via:C.via f'=β':=by
  funext i;simp only[aC.via];cases hf:f' i with
  |some j=>exact βs i j hf
  |none=>
   rcases Nat.lt_or_ge i J with h1|h1
   .rcases Nat.lt_or_ge i nc with h2|h2
    .obtain⟨j,h3,_⟩:=h.wB i h2;rw[qV i h2,h3] at hf;cases hf
    .rw[xO i h2 h1] at hf;cases hf
   .exact(ij i h1).symm
 have look:∀ j p,C j=some p->(∃ i,inv j=some i/\f' i=some j/\β' i=some p)\/(inv j=none/\β j=some p):=fun j p hp=>by
  cases hi:inv j with
  |some i=>exact .inl ⟨i,rfl,mF i j hi,by rw[<- βs i j (mF i j hi)];exact hp⟩
  |none=>exact .inr ⟨rfl,by rw[<- βn j hi];exact hp⟩
 have Ls:∀ b,β.free b->b≠l:=fun b hb e=>hb il _ yN (e▸rfl)
 have de:∀ b,b<w.heap.size->β.free b->w'.heap[b]? =w.heap[b]? /\C.free b:=fun b hb hf=>by
  obtain⟨h1,h2⟩:=hs.de b hb (Ls b hf) (aC.oV hf f);refine⟨h1,fun j p hp=>?_⟩;rcases look j p hp with⟨i,_,_,U⟩|⟨_,U⟩
  .exact h2 i p U
  .exact hf j p U
 have keep:∀ j p,β j=some p->C j=some p\/C j=some .dead:=fun j p hp=>by
  cases hi:inv j with
  |none=>exact .inl ((βn j hi).trans hp)
  |some i=>
   have hf:=mF i j hi;rw[βs i j hf];rcases lD i j hf with⟨a1,a2,a3⟩|⟨a1,a2,a3⟩
   .exact hs.keep i p (by simp[aC.via,a1,hp])
   .rw[hn j oG] at hp;cases hp
 have X:∀ j p b,inv j=none->β j=some p->p.bF=some b->hidden F β f b/\(b≠l->b<w.heap.size/\w'.heap[b]? =w.heap[b]?):=fun j p b hj hp hb=>by
  obtain⟨h1,h2⟩:=h.vi hm (Lr j hj) hp hb;exact⟨h2,fun aE=>⟨hm.lt j p b hp hb,(hs.de b (hm.lt j p b hp hb) aE h1).1⟩⟩
 refine⟨f',M,nx+(J - nc),C,⟨Nat.le_trans h.low hle,by have:=h.lt;omega,fun i hi=>?_,fun i hi=>?_,CV,xP,fun i r hi=>?_⟩,?_,⟨fun j r hj=>?_,fun i j p q b hp hq e e'=>?_,fun j p b hp e=>?_,fun j p b hp e hF=>?_,?_⟩,fun i hi=>?_,⟨hs.size,de,keep,hs.out⟩,oG,fun i hi hb=>?_⟩
 .rw[qV i (Nat.lt_of_lt_of_le hi h.low)];exact h.id i hi
 .rcases Nat.lt_or_ge i nc with h1|h1
  .obtain⟨j,h2,h3,U⟩:=h.wB i h1;exact⟨j,by rw[qV i h1];exact h2,oG,U⟩
  .exact⟨_,xO i h1 hi,oG,by have:=h.lt;omega⟩
 .obtain⟨p,hp,_⟩:=fy.row i r hi
  have:∃ j,f' i=some j:=by
   rw[<- via] at hp;obtain⟨j,h1,_⟩:=Option.bind_eq_some_iff.1 hp;exact⟨j,h1⟩
  obtain⟨j,hj⟩:=this;exact⟨j,hj,by simp[M,yn i j hj,hi]⟩
 .simp[M,Kl]
 .cases hi:inv j with
  |some i=>
   simp only[M,hi,cP] at hj;obtain⟨r0,wC,rfl⟩:=hj;obtain⟨p,hp,hr⟩:=fy.row i r0 wC;refine⟨p,(βs i j (mF i j hi)).trans hp,cw.G7 (F':=hidden F β f) (by rw[via];exact hr) (fun b hb=>.inl hb) fun b g1 g2=>?_⟩;obtain⟨k,q,hq,yO⟩:=Jf g1;rcases look k q hq with⟨i',_,_,U⟩|⟨h3,U⟩
   .exact absurd yO (g2 i' q (by rw[via];exact U))
   .exact(X k q b h3 U yO).1
  |none=>
   simp only[M,hi] at hj;split at hj
   .rename_i e;subst e;cases hj;exact⟨.raw l,(βn j hi).trans yN,.raw l o' ho⟩
   .rename_i aE;obtain⟨p,hp,hr⟩:=hm.row j r hj;refine⟨p,(βn j hi).trans hp,hr.gen hs.size (fun b hb g1 g2=>⟨tE (de b hb g2).1,(de b hb g2).2,g1⟩) (fun i p _=>keep i p) fun b hb=>?_⟩;exact((X j p b hi hp hb).2 fun e=>aE (hm.inj j il p _ b hp yN hb (e▸rfl))).2
 .rcases look i p hp with⟨i',a1,a2,a3⟩|⟨a1,a2⟩<;>rcases look j q hq with⟨j',b1,b2,b3⟩|⟨b1,b2⟩
  .have:=fy.inj i' j' p q b a3 b3 e e';subst this;rw[a2] at b2;cases b2;rfl
  .exact absurd (X j q b b1 b2 e').1 (fy.nf i' p b a3 e)
  .exact absurd (X i p b a1 a2 e).1 (fy.nf j' q b b3 e')
  .exact hm.inj i j p q b a2 b2 e e'
 .rcases look j p hp with⟨i',a1,a2,a3⟩|⟨a1,a2⟩
  .exact fy.lt i' p b a3 e
  .exact Nat.lt_of_lt_of_le (hm.lt j p b a2 e) hs.size
 .rcases look j p hp with⟨i',a1,a2,a3⟩|⟨a1,a2⟩
  .exact fy.nf i' p b a3 e (.inl hF)
  .exact hm.nf j p b a2 e hF
 .exact hm.fb.next (fun b hb=>Nat.lt_of_lt_of_le (hm.fb.lt b hb) hs.size) (fun _ h=>h) fun t _ hF=>(de _ (hm.fb.lt _ hF) fun i p hp e=>hm.nf i p _ hp e hF).1
 .cases cq:inv i with
  |none=>exact(βn i cq).trans (hn i oG)
  |some i0=>
   rcases lD i0 i (mF i0 i cq) with⟨a1,a2,a3⟩|⟨a1,a2,a3⟩<;>omega
 .cases cq:inv i with
  |none=>exact(βn i cq).trans hb
  |some i0=>
   have hf:=mF i0 i cq;rw[βs i0 i hf];rcases lD i0 i hf with⟨a1,a2,a3⟩|⟨a1,a2,a3⟩
   .exact hg i0 a2 (by simp[aC.via,a1,hb])
   .omega
theorem Ix{β:aC}{w:World}:∀ (ts:List Tmp) (ds:List D) (vs:List Value) (env:Env) (tmps:Array Value),vs.length=ds.length->(∀ (k:Nat) (d:D) (v:Value),ds[k]? =some d->vs[k]? =some v->R F β w d v)->
 (∀ t,t∈ts->t<tmps.size)->gI F β w env { tmps:=tmps,defers:=[] }->
 gI F β w (nd env ts ds) { tmps:=(ts.zip vs).foldl (fun tmps (t,a)=>tmps.setIfInBounds t a) tmps,defers:=[] }/\((ts.zip vs).foldl (fun tmps (t,a)=>tmps.setIfInBounds t a) tmps).size=tmps.size
 |[],_,_,env,tmps,_,_,_,h=>by simpa[nd] using h
 |_::_,[],[],env,tmps,_,_,_,h=>by simpa[nd] using h
 |_::_,[],_::_,_,_,hl,_,_,_=>by simp at hl
 |_::_,_::_,[],_,_,hl,_,_,_=>by simp at hl
 |t::ts,d::ds,v::vs,env,tmps,hl,hR,af,h=>by
  have h1:gI F β w (up env t d) { tmps:=tmps.setIfInBounds t v,defers:=[] }:=by
   have:=h.put (some t) d v (hR 0 d v rfl rfl) (fun u hu=>by cases hu;exact af t oS);simpa[Act.put,up] using this
  have:=Ix ts ds vs (up env t d) (tmps.setIfInBounds t v) (by simpa using hl) (fun k d v hd hv=>hR (k+1) d v (by simpa using hd) (by simpa using hv)) (fun u hu=>by simpa using af u (by simp[hu])) h1;simp only[nd,List.zip_cons_cons,List.foldl_cons];exact⟨this.1,by rw[this.2];simp⟩
theorem BT{c:Code}{b:Frame}{a:Act}{k:List Item}{cs:List Frame}{w:World}:step P (lone (b.atR a (.code (.scope c)::k)) cs w)=.next (lone (b.atR a (.code c::.inScope c::k)) cs w):=
 step_lone_go (by simp[stepG,stepG.exec,Frame.atR])
theorem WG{c:Code}{b:Frame}{a:Act}{k:List Item}{cs:List Frame}{w:World}:step P (lone (b.atR a (.inScope c::k)) cs w)=.next (lone (b.atR a k) cs w):=
 step_lone_go (by simp[stepG,stepG.exec,Frame.atR])
theorem ED{I:Machine->Prop}{m:Machine}{b:Frame}{c:Code}{k:List Item}{cs:List Frame}{e:Exit}{a:Act}{w:World}
 (hn:e≠ .normal) (hg:∀ l,e≠ .goto l) (h:ArrivesIn I P m b (.inScope c::k) cs e a w):ArrivesIn I P m b k cs e a w:=by
 cases e with
 |normal=>exact absurd rfl hn
 |exit id=>exact⟨fun k' hk=>h.1 k' (by simp[exitTo,hk]),fun hr hk=>h.2 hr (by simp[exitTo,hk])⟩
 |goto l=>exact absurd rfl (hg l)
 |ret=>exact h
 |panic chain=>exact h
 |outgrown=>exact h
theorem XD{U:Fence}{n:Nat}{Q:Exit->Act->World->Prop}{a:Act}{w:World}{c:Code}(h:c.wpIn U n P (Exit.noGoto Q) a w):(Code.scope c).wpIn U n P Q a w:=by
 intro b k cs X hb hr;have h0:(lone (b.atR a (.code (.scope c)::k)) cs w).fenced P U:=fenced_calm hb hr rfl;obtain⟨e,C,M,hq,J⟩:=h b (.inScope c::k) cs X hb hr;cases e with
 |normal=>exact⟨.normal,C,M,hq,.head h0 BT (StepsIn.trans J (.one (fenced_calm hb hr rfl) WG))⟩
 |goto l=>exact hq.elim
 |exit id=>exact⟨.exit id,C,M,hq,.of_steps (.one h0 BT) (ED (c:=c) oS oS J)⟩
 |ret=>exact⟨.ret,C,M,hq,.of_steps (.one h0 BT) (ED (c:=c) oS oS J)⟩
 |panic ch=>exact⟨.panic ch,C,M,hq,.of_steps (.one h0 BT) (ED (c:=c) oS oS J)⟩
 |outgrown=>exact⟨.outgrown,C,M,hq,.of_steps (.one h0 BT) (ED (c:=c) oS oS J)⟩
def Jump(env:Env)(Q:Exit->St->Prop):Code->Mem->Nat->Prop
 | .ret,m,nx=>Q .ret ⟨env,m,nx⟩
 | .exit id,m,nx=>Q (.exit id) ⟨env,m,nx⟩
 |_,_,_=>False
def vt(il l:Nat)(n₀:Nat)(o:Obj)(I:Mem->Nat->Prop)(m:Mem)(nx:Nat):Prop:=∃ f mc nc,View il n₀ f mc nc m nx/\m il=some (.raw l o)/\I mc nc
theorem vt.closed{il l n₀:Nat}{o:Obj}{I:Mem->Nat->Prop}:xx (vt il l n₀ o I):=by
 rintro m nx m' M ⟨f,mc,nc,h1,h2,J⟩ C he;exact⟨f,mc,nc,h1.ext C he,(he il h1.lt).trans h2,J⟩
theorem PF(ps:Array Tmp)(us:Array Value)(tmps:Array Value):
 (ps.zip us).foldl (fun tmps (t,a)=>tmps.setIfInBounds t a) tmps=(ps.toList.zip us.toList).foldl (fun tmps (t,a)=>tmps.setIfInBounds t a) tmps:=by
 rw[<- Array.foldl_toList];simp
theorem Og{β:aC}{w:World}{a:Act}{g:Operand}{f:FuncId}{fs cs:List D}(C:R F β w (.fn (.func f) fs cs) (a.eval g))(he:nY P f=true)(l:Nat)(w':World):
 ∃ (us vs:List Value) (d:Deferred),us.length=fs.length/\vs.length=cs.length/\(∀ (k:Nat) (d:D) (v:Value),fs[k]? =some d->us[k]? =some v->R F β w d v)/\(∀ (k:Nat) (d:D) (v:Value),cs[k]? =some d->vs[k]? =some v->R F β w d v)/\
  (resolve a.eval (rangeCall g l) 0).run P w'=.ok d w'/\(invoke d.target d.args).run P w'=.ok (.enter f (us.toArray++ #[.func (.yield l) #[] #[]]++vs.toArray)) w':=by
 generalize hv:a.eval g=v at C;cases C with
 |fn _ _ _ us vs hl l7 hh J=>
 refine⟨us,vs,{ target:=.fn (.func f) vs.toArray,args:=us.toArray++ #[.func (.yield l) #[] #[]] },hl,l7,hh,J,?_,?_⟩
 .simp only[resolve,hv,Sem.run_bind,Deferred.ofValue];simp[go_sem]
 .simp only[invoke];unfold callFunc;unfold nY at he;simp only[Sem.run_bind,run_program,Result.andThen_ok];split at he
  .rename_i fn U;simp only[bf,Bool.not_eq_true'] at he
   have hb:fn.body.isNone=false:=by
    cases M:fn.body<;>simp_all
   rw[U];simp only[he.1,hb,Bool.false_eq_true,if_false,Sem.run_pure]
  .cases he
theorem Rs.append{β:aC}{w:World}{aS bs:List D}{xs ys:Array Value}(h:Rs F β w aS xs)(k:Rs F β w bs ys):Rs F β w (aS++bs) (xs++ys):=by
 refine⟨by simp[h.1,k.1],fun j d v hd hv=>?_⟩;rcases Nat.lt_or_ge j aS.length with hj|hj
 .rw[List.getElem?_append_left hj] at hd;rw[Array.getElem?_append_left (by rw[h.1];exact hj)] at hv;exact h.2 j d v hd hv
 .rw[List.getElem?_append_right hj] at hd;rw[Array.getElem?_append_right (by rw[h.1];exact hj),h.1] at hv;exact k.2 _ d v hd hv
theorem E2(gX:P.follows .mixedOrders=true):∀ (c:Code) (F:Nat->Prop) (r:Option Nat) (n:Nat) (Y:ea) (rf:Bool) (N₀:Nat) (β₀:aC) (w₀:World) (a₀:Act),(rf=true->r=none)->
 (∀ l args m nx K,Y l args m nx K->nn P F β₀ w₀ l args m nx K)->gB a₀.tmps.size c=true->∀ (Q:Exit->St->Prop) (st:St) (β:aC) (w:World) (a:Act),
 AW P Y rf c Q st->ej P F st β w a->oz N₀ β₀ w₀ a₀ st β w a->c.wpIn (Fe r) n P (SY P F N₀ β₀ w₀ a₀ Q) a w:=by
 intro c
 induction c with
 |skip=>exact fun F r n Y rf N₀ β₀ w₀ a₀ X U _ Q st β w a h hs J=>wpIn_skip ⟨st,β,h,hs,J⟩
 |ret=>exact fun F r n Y rf N₀ β₀ w₀ a₀ X U _ Q st β w a h hs J=>wpIn_ret ⟨st,β,h,hs,J⟩
 |exit id=>exact fun F r n Y rf N₀ β₀ w₀ a₀ X U _ Q st β w a h hs J=>wpIn_exit ⟨st,β,h,hs,J⟩
 |label l=>exact fun F r n Y rf N₀ β₀ w₀ a₀ X U _ Q st β w a h hs J=>wpIn_label ⟨st,β,h,hs,J⟩
 |region id ops draw=>
  intro F r n Y rf N₀ β₀ w₀ a₀ X U af Q st β w a h hs J;have oh:vG a.tmps.size ops=true:=by rw[J.size];exact af
  cases draw with
  |false=>
   refine wpIn_mono (W7 (N:=st.nx) (β₀:=β) (w₀:=w) (a₀:=a) (fun l args m nx K hy=>(U l args m nx K hy).base J.step) oh h hs (fU.refl st β w a)) fun e a' w' hp=>?_;obtain⟨st',β',hq,cL,dL⟩:=hp;exact⟨st',β',hq,cL,J.since dL⟩
  |true=>
   simp only[AW] at h;split at h
   .rename_i cf jJ;refine wpIn_mono (W9 (N₀:=st.nx) (β₀:=β) (w₀:=w) (a₀:=a) gX jJ oh h hs (fU.refl st β w a)) fun e a' w' hp=>?_;obtain⟨st',β',hq,cL,dL⟩:=hp;exact⟨st',β',hq,cL,J.since dL⟩
   .exact h.elim
 |seq x y Bj Bk=>
  intro F r n Y rf N₀ β₀ w₀ a₀ X U af Q st β w a h hs J;simp only[gB,bf] at af;refine wpIn_seq (wpIn_mono (Bj F r n Y rf N₀ β₀ w₀ a₀ X U af.1 _ st β w a h hs J) fun e a' w' hp=>?_);obtain⟨st',β',hq,cL,dL⟩:=hp;cases e with
  |normal=>
   obtain⟨fH,hg,hy⟩:=hq;obtain⟨dQ,pd,CW⟩:=Is hg cL;exact Bk F r n Y rf N₀ β₀ w₀ a₀ X U af.2 Q fH dQ w' a' hy pd (dL.since CW)
  |_=>exact⟨st',β',hq,cL,dL⟩
 |cond c x y Bj Bk=>
  intro F r n Y rf N₀ β₀ w₀ a₀ X U af Q st β w a h hs J;simp only[gB,bf] at af;obtain⟨ha,h⟩:=h;have hR:=(hs.e.opd c).tD _ ha;split at h
  .rename_i t ht;rw[ht] at hR;exact wpIn_cond_split hR.cX.1 (fun e=>Bj F r n Y rf N₀ β₀ w₀ a₀ X U af.1 Q st β w a (h.1 e) hs J) fun e=>Bk F r n Y rf N₀ β₀ w₀ a₀ X U af.2 Q st β w a (h.2 e) hs J
  .rename_i ht;rw[ht] at hR;obtain⟨b,hb⟩:=hR.Gb;exact wpIn_cond_split hb (fun _=>Bj F r n Y rf N₀ β₀ w₀ a₀ X U af.1 Q st β w a h.1 hs J) fun _=>Bk F r n Y rf N₀ β₀ w₀ a₀ X U af.2 Q st β w a h.2 hs J
  .exact h.elim
 |scope b ih=>
  intro F r n Y rf N₀ β₀ w₀ a₀ X U af Q st β w a h hs J;refine XD (wpIn_mono (ih F r n Y rf N₀ β₀ w₀ a₀ X U af _ st β w a h hs J) fun e a' w' hp=>?_);obtain⟨st',β',hq,cL,dL⟩:=hp;cases e with
  |goto l=>exact hq.elim
  |_=>exact⟨st',β',hq,cL,dL⟩
 |block id b ih=>
  intro F r n Y rf N₀ β₀ w₀ a₀ X U af Q st β w a h hs J;refine wpIn_block (wpIn_mono (ih F r n Y rf N₀ β₀ w₀ a₀ X U af _ st β w a h hs J) fun e a' w' hp=>?_);obtain⟨st',β',hq,cL,dL⟩:=hp;cases e with
  |exit i=>
   simp only[fq] at hq;simp only[Exit.inBlock];split at hq
   .rename_i hi;rw[if_pos hi];exact⟨st',β',hq,cL,dL⟩
   .rename_i hi;rw[if_neg hi];exact⟨st',β',hq,cL,dL⟩
  |_=>exact⟨st',β',hq,cL,dL⟩
 |loop b ih=>
  intro F r n Y rf N₀ β₀ w₀ a₀ X U af Q st β w a h hs J;obtain⟨I,μ,hI,tP⟩:=h;refine WE (fun j a w=>∃ st β,I st/\μ st=j/\ej P F st β w a/\oz N₀ β₀ w₀ a₀ st β w a) ⟨st,β,hI,rfl,hs,J⟩ ?_;rintro j a w ⟨st,β,hI,hμ,hs,J⟩;refine wpIn_mono (ih F r n Y rf N₀ β₀ w₀ a₀ X U af _ st β w a (tP st hI) hs J) fun e a' w' hp=>?_;obtain⟨st',β',hq,cL,dL⟩:=hp;cases e with
  |normal=>
   obtain⟨iE,hg,Hz,ag6⟩:=hq;obtain⟨dQ,pd,CW⟩:=Is hg cL;exact⟨μ iE,oG,iE,dQ,Hz,rfl,pd,dL.since CW⟩
  |_=>exact⟨st',β',hq,cL,dL⟩
 |rangeFunc g ps assign body uD uE=>
  intro F r n Y rf N₀ β₀ w₀ a₀ X U af Q st β w a h hs J;obtain⟨env,mem,nx⟩:=st;obtain⟨Lt,jF,f,fs,cs,xs,I,tY,yo,xQ,yP,tP,xR⟩:=h;simp only at jF tY yP tP xR;have hr:=X Lt;subst hr;simp only[gB,bf,bS,Nat.blt_eq] at af;obtain⟨ru,Lu,Lv⟩:=af;have bB:a.tmps.size=a₀.tmps.size:=J.size;have hR:=(hs.e.opd g).tD _ jF;simp only[tY] at hR;refine wpIn_rangeFunc fun fn sR=>?_;obtain⟨C,ky⟩:∃ C:LoopState->Option Code->Loop,C=fun st pe=>{ state:=st,pending:=pe,fn,tmps:=a.tmps,params:=ps,assign,body,defers:=w.heap.size }:=⟨_,rfl⟩
  obtain⟨W1,rv⟩:∃ W1,(w.alloc (.deferred (some []))).alloc (.loop (C .ready none))=W1:=⟨_,rfl⟩
  obtain⟨us,vs,d,yQ,oA,hu,hv,nw,hinv⟩:=Og (P:=P) hR yo.1 (w.heap.size+1) W1;have hn:∀ i,nx<=i->β i=none:=hs.n;have uF:∀ t∈uk,t.1≠w.heap.size+1:=fun t ht e=>by have:=hs.m.fb.lt _ (hs.m.fb.l8 t ht).1;omega
  have DW:¬ F (w.heap.size+1):=fun e=>by have:=hs.m.fb.lt _ e;omega
  let f₀:Nat->Option Nat:=fun i=>if i<nx then some i else none
  have Du:β.via f₀=β:=by
   funext i;simp only[aC.via,f₀];split
   .rfl
   .exact(hn i oG).symm
  have kJ:aJ P F (fun i=>(mem i).map (Row.lX f₀)) β w:=⟨fun i r hi=>by
   simp only[cP] at hi;obtain⟨r0,h1,rfl⟩:=hi;obtain⟨p,hp,hr⟩:=hs.m.row i r0 h1
   exact⟨p,hp,cw.G7 (F':=F) (by rw[Du];exact hr) (fun _ h=>h) fun b g1 g2=>absurd (Du▸g2) g1⟩,hs.m.inj,hs.m.lt,hs.m.nf,hs.m.fb⟩
  have uG:Step β w β (w.alloc (.deferred (some []))):=zR oS fun b hb=>heap_alloc_old w _ hb;have iU:aJ P F (fun i=>(mem i).map (Row.lX f₀)) β (w.alloc (.deferred (some []))):=kJ.ext oS fun b hb=>heap_alloc_old w _ hb
  have Mw:aJ P F (up (fun i=>(mem i).map (Row.lX f₀)) nx (some (.raw (w.heap.size+1) (.loop (C .ready none))))) (up β nx (some (.raw (w.heap.size+1)))) W1:=by
   rw[<- rv];refine iU.alloc (hn nx (a8 _)) _ _ _ (fun b hb=>by simp only[Pl.bF,aG] at hb;simp;omega) (.raw _ _ ?_);have:=World.alloc_heap_new (w.alloc (.deferred (some []))) (.loop (C .ready none))
   rwa[World.size_alloc] at this
  have mN:Step β w (up β nx (some (.raw (w.heap.size+1)))) W1:=by
   rw[<- rv];exact uG.trans (zI iU _ (hn nx (a8 _)) _ (fun b hb=>by simp only[Pl.bF,aG] at hb;simp;omega))
  have Mx:W1.heap[w.heap.size]? =some (.deferred (some [])):=by
   rw[<- rv];rw[heap_alloc_old _ _ oS];exact World.alloc_heap_new w _
  have CB:aC.free (up β nx (some (.raw (w.heap.size+1)))) w.heap.size:=
   qC (fun i p hp e=>by have:=hs.m.lt i p _ hp e;omega) (by rintro q hq;cases hq;simp[Pl.bF])
  have ag7:W1.heap.size=w.heap.size+2:=by rw[<- rv];simp
  have JK:∀ i,nx<=i->mem i=none:=fun i hi=>by
   cases hm:mem i with
   |none=>rfl
   |some row=>
    obtain⟨p,hp,_⟩:=hs.m.row i row hm;rw[hn i hi] at hp;cases hp
  have own:∀ {f:Nat->Option Nat} {mc:Mem} {nc:Nat} {m:Mem} {gM:Nat} {β2:aC} {w2:World},View nx nx f mc nc m gM->Step (up β nx (some (.raw (w.heap.size+1)))) W1 β2 w2->
   ∀ {d:D} {v:Value},R F β w d v->R (hidden F β2 f) (β2.via f) w2 d v:=fun {_ _ _ _ _ _ _} M c7 {d v} h=>by
   have yp:=mN.trans c7;refine h.gen yp.size (fun b hb hf k8=>?_) fun i p _ hp=>?_
   .obtain⟨g1,g2⟩:=yp.de b hb k8;exact⟨tE g1,aC.oV g2 _,fun e=>e.elim hf fun e=>e.1 g2⟩
   .have hi:i<nx:=by
     rcases Nat.lt_or_ge i nx with h1|h1
     .exact h1
     .rw[hn i h1] at hp;cases hp
    simp only[aC.via,M.id i hi,Option.bind_some];exact yp.keep i p hp
  refine⟨w.heap.size+1,[mark w.heap.size],W1,d,W1,f,_,W1,?_,nw,fun f' _=>trivial,hinv,fun hd=>by simp at hd,Jg ?_⟩
  .rw[<- rv,ky];exact run_enterLoop_outer _ _ _ _ _
  refine(yo.2 F (w.heap.size+1) (fun k=>vt nx (w.heap.size+1) nx (.loop (C .ready none)) (I k)) (fun m k=>∃ c,vt nx (w.heap.size+1) nx (.loop (C .done (some c))) (Jump env Q c) m k)
   (up (fun i=>(mem i).map (Row.lX f₀)) nx (some (.raw (w.heap.size+1) (.loop (C .ready none))))) (nx+1) (up β nx (some (.raw (w.heap.size+1)))) W1 _ (fun k=>vt.closed) ?_ Mw ?_ ?_ ?_ ?_).mono ?_
  .rintro m k m' k' ⟨c,hc⟩ hle he;exact⟨c,vt.closed m k m' k' hc hle he⟩
  .intro i hi;rw[az _ _ (show i≠nx by omega)];exact hn i oG
  .refine Rs.append (Rs.append ?_ ?_) ?_
   .exact⟨by simp[yQ],fun k d v hd hv=>(hu k d v hd (by simpa using hv)).step mN⟩
   .refine⟨rfl,fun k d v hd hv=>?_⟩;cases k with
    |zero=>
     simp only[List.getElem?_cons_zero,aG] at hd;simp only[List.getElem?_toArray,List.getElem?_cons_zero,aG] at hv;subst hd;subst hv;exact .fn _ [] [] [] [] rfl rfl oS oS
    |succ k=>simp at hd
   .exact⟨by simp[oA],fun k d v hd DX=>(hv k d v hd (by simpa using DX)).step mN⟩
  .rintro k x m k' hx ⟨g,mc,nc,M,eR,My⟩ β2 w2 uH Lw ik HA uI;obtain⟨DY,qW,_,yq⟩:=ik.pO eR;have Lx:uH.size=ps.size:=by rw[uI.1];exact(xQ x (bD hx)).1
   have hy:=run_yield (P:=P) (args:=uH) qW (by rw[ky];exact Lx);simp only[ky,PF] at hy;refine⟨fn,_,assign,body,hy,fun n'=>?_⟩;obtain⟨yR,jY⟩:=M.enter ik;have ry:hidden F β2 g (w.heap.size+1):=(M.vi ik (fun i e=>(M.lY e).2.2 rfl) DY rfl).2;have CC:(β2.via g).free (w.heap.size+1):=(M.vi ik (fun i e=>(M.lY e).2.2 rfl) DY rfl).1;have Mz:gI (hidden F β2 g) (β2.via g) w2 env { tmps:=a.tmps,defers:=[] }:=fun t=>own M Lw (hs.e t)
   obtain⟨MA,Dv⟩:=Ix ps.toList x uH.toList env a.tmps (by simp[uI.1]) (fun j d v hd hv=>
    ((xQ x (bD hx)).2 d (bD hd) F β2 w2 v (uI.2 j d v hd (by simpa using hv))).gen (a8 _)
     (fun b _ hb _=>⟨ki.refl _ b,aC.oV (uZ hb).2 _,fun e=>e.elim (uZ hb).1 fun e=>e.1 (uZ hb).2⟩) (fun i p _ hp=>by cases hp)) (fun t ht=>by rw[bB];exact ru t ht) Mz
   have Ly:=uD (hidden F β2 g) (some (w.heap.size+1)) n' cZ false nc (β2.via g) w2
    { tmps:=(ps.toList.zip uH.toList).foldl (fun tmps (t,a)=>tmps.setIfInBounds t a) a.tmps,defers:=[] } oS (fun _ _ _ _ _ h=>h.elim) (by show gB (Array.size _) assign=true;rw[Dv,bB];exact Lu) _ ⟨nd env ps.toList x,mc,nc⟩ (β2.via g) w2 _
    (tP k mc nc x hx My) ⟨MA,yR,jY⟩ (fU.refl ⟨nd env ps.toList x,mc,nc⟩ _ _ _).yM
   refine roundIn_of_wpIn trivial (wpIn_mono Ly fun e a3 w3 hp=>?_);obtain⟨iE,β3,yS,Bl,gv⟩:=hp;cases e with
   |normal=>
    have xS:w.heap.size+1<w3.heap.size:=Nat.lt_of_lt_of_le yq gv.step.size;have KP:w3.heap[w.heap.size+1]? =some (.loop (C .ready none)):=(gv.step.de _ yq CC).1.trans qW;refine⟨_,run_beginRound KP (by rw[ky]),?_⟩;have Lz:=Bl.og (l:=w.heap.size+1) ry uF (.loop { C .ready none with state:=.busy });have KQ:=uE (hidden F β2 g) (some (w.heap.size+1)) n' cZ false iE.nx β3 _ a3 oS (fun _ _ _ _ _ h=>h.elim) (by rw[gv.size];show gB (Array.size _) body=true;rw[Dv,bB];exact Lv) _ iE β3 _ a3 yS Lz (fU.refl iE _ _ _).yM;refine wpIn_mono KQ fun e a4 w4 MB=>?_;obtain⟨DZ,β4,uJ,D0,qi⟩:=MB;have KR:w.heap.size+1<w4.heap.size:=Nat.lt_of_lt_of_le (by simpa using xS) qi.step.size
    have KS:w4.heap[w.heap.size+1]? =some (.loop { C .ready none with state:=.busy }):=
     (qi.step.de _ (by simpa using xS) (gv.step.de _ yq CC).2).1.trans (World.putObj_heap_same xS)
    have fin:∀ (jump:Option Code) (K:D->Mem->Nat->Prop),(∀ f' dM gJ,View nx nx f' DZ.mem DZ.nx dM gJ->dM nx=some (.raw (w.heap.size+1) (.loop (C (if jump.isNone then .ready else .done) jump)))->K (.s (.bool jump.isNone)) dM gJ)->
     ∃ v w',(Instr.endRound (w.heap.size+1) jump).run P w4=.ok v w'/\∃ v' d m' ai β',Ending.returned v=.returned v'/\K d m' ai/\aJ P F m' β' w'/\(∀ i,ai<=i->β' i=none)/\R F β' w' d v'/\Step β2 w2 β' w'/\k'<=ai/\∀ i,i<k'->β2 i=none->β' i=none:=fun jump K hK=>by
     have dn:=run_endRound (P:=P) jump KS;have e1:∀ s p,({ ({ C .ready none with state:=.busy }:Loop) with state:=s,pending:=p }:Loop)=C s p:=fun s p=>by rw[ky]
     rw[e1] at dn
     obtain⟨f',dM,gJ,dQ,v1,v2,v3,v4,v5,v6,v7⟩:=M.ad0 ik HA eR (o':=.loop (C (if jump.isNone then .ready else .done) jump)) (D0.m.og ry uF _)
      (((gv.step.x _).trans (o8.put _ β3 w3 _)).trans ((qi.step.x _).trans (o8.put _ β4 w4 _))) D0.n (Nat.le_trans gv.le qi.le) (fun i hi hb=>qi.grow i (Nat.lt_of_lt_of_le hi gv.le) (gv.grow i hi hb)) (World.putObj_heap_same KR)
     exact⟨_,_,dn,.bool jump.isNone,_,dM,gJ,dQ,rfl,hK f' dM gJ v1 v2,v3,v4,.s _ rfl,v5,v6,v7⟩
    cases e with
    |normal=>exact fin none _ fun f' dM gJ v1 v2=>.inl ⟨rfl,f',_,_,v1,v2,uJ⟩
    |ret=>exact fin (some .ret) _ fun f' dM gJ v1 v2=>.inr ⟨rfl,.ret,f',_,_,v1,v2,uJ⟩
    |exit id=>exact fin (some (.exit id)) _ fun f' dM gJ v1 v2=>.inr ⟨rfl,.exit id,f',_,_,v1,v2,uJ⟩
    |_=>exact uJ.elim
   |_=>exact yS.elim
  .refine⟨f₀,mem,nx,⟨a8 _,oG,fun i hi=>by simp[f₀,hi],fun i hi=>⟨i,by simp[f₀,hi],oG,oG⟩,fun i hi=>by simp[f₀,Nat.not_lt.2 hi],fun i i' j h1 h2=>?_,fun i r hi=>?_⟩,ah _ _ _,yP⟩
   .simp only[f₀,Option.ite_none_right_eq_some,aG] at h1 h2;omega
   .have af:i<nx:=by
     rcases Nat.lt_or_ge i nx with h1|h1
     .exact h1
     .rw[JK i h1] at hi;cases hi
    exact⟨i,by simp[f₀,af],by rw[az _ _ (show i≠nx by omega),hi];rfl⟩
  .rintro e w6 ⟨v,d6,m6,MC,β6,rfl,Dw,pk,hn6,_,kz,ag8,LA⟩
   have fin:∀ {g:Nat->Option Nat} {mc:Mem} {nc:Nat} (o':Obj),View nx nx g mc nc m6 MC->
    ej P F ⟨env,mc,nc⟩ (β6.via g) (w6.putObj (w.heap.size+1) o') { a with defers:=[mark w.heap.size]++a.defers }/\
    oz N₀ β₀ w₀ a₀ ⟨env,mc,nc⟩ (β6.via g) (w6.putObj (w.heap.size+1) o') { a with defers:=[mark w.heap.size]++a.defers }:=fun {g mc nc} o' M=>by
    obtain⟨yR,jY⟩:=M.enter pk
    have ry:hidden F β6 g (w.heap.size+1):=by
     have hβ:β6 nx=some (.raw (w.heap.size+1))\/β6 nx=some .dead:=kz.keep nx _ (ah _ _ _);rcases hβ with hβ|hβ
     .exact(M.vi pk (fun i e=>(M.lY e).2.2 rfl) hβ rfl).2
     .exfalso;rcases Dw with⟨f',MD,gu,_,yr,_⟩|⟨c,f',MD,gu,_,yr,_⟩
      .rw[(pk.pO yr).1] at hβ;cases hβ
      .rw[(pk.pO yr).1] at hβ;cases hβ
    refine⟨⟨fun t=>((own M kz (hs.e t)).og ry o').nv fun b hb=>.inl hb,(yR.og ry uF o').nv (fun b hb=>.inl hb) fun t ht=>(hs.m.fb.l8 t ht).1,jY⟩,J.trans ⟨⟨?_,fun b hb hf=>?_,fun i p hp=>?_,(mN.out.trans kz.out).trans ⟨rfl,rfl⟩⟩,M.low,fun i hi hb=>?_,rfl,[mark w.heap.size],rfl,?_⟩⟩
    .have:=kz.size;simp;omega
    .obtain⟨g1,g2⟩:=mN.de b hb hf;obtain⟨g3,g4⟩:=kz.de b oG g2;exact⟨(World.putObj_heap_other oG).trans (g3.trans g1),aC.oV g4 _⟩
    .have hi:i<nx:=by
      rcases Nat.lt_or_ge i nx with h1|h1
      .exact h1
      .rw[hn i h1] at hp;cases hp
     simp only[aC.via,M.id i hi,Option.bind_some];exact(mN.trans kz).keep i p hp
    .have hi:i<nx:=hi;simp only[aC.via,M.id i hi,Option.bind_some];exact LA i oG (by rw[az _ _ oG];exact hb)
    .refine⟨w.heap.size,rfl,a8 _,?_,?_,?_,trivial⟩
     .have:=kz.size;simp;omega
     .exact(World.putObj_heap_other oG).trans ((kz.de _ oG CB).1.trans Mx)
     .exact aC.oV (kz.de _ oG CB).2 _
   rcases Dw with⟨g,mc,nc,M,eR,hI⟩|⟨c,g,mc,nc,M,eR,hj⟩
   .have dn:(Instr.endLoop (w.heap.size+1)).run P w6=.ok none (w6.putObj (w.heap.size+1) (.loop (C .exhausted none))):=by
     have:=run_endLoop (P:=P) (pk.pO eR).2.1 (by rw[ky];simp);rw[ky] at this ⊢;exact this
    obtain⟨g1,g2⟩:=fin (.loop (C .exhausted none)) M;exact⟨none,_,dn,⟨env,mc,nc⟩,_,xR mc nc hI,g1,g2⟩
   .have dn:(Instr.endLoop (w.heap.size+1)).run P w6=.ok (some c) (w6.putObj (w.heap.size+1) (.loop (C .exhausted (some c)))):=by
     have:=run_endLoop (P:=P) (pk.pO eR).2.1 (by rw[ky];simp);rw[ky] at this ⊢;exact this
    obtain⟨g1,g2⟩:=fin (.loop (C .exhausted (some c))) M;refine⟨some c,_,dn,?_⟩;cases c with
    |ret=>exact wpIn_ret ⟨⟨env,mc,nc⟩,_,hj,g1,g2⟩
    |exit id=>exact wpIn_exit ⟨⟨env,mc,nc⟩,_,hj,g1,g2⟩
    |_=>exact hj.elim
 |_=>intro F r n Y rf N₀ β₀ w₀ a₀ X U af Q st β w a h;exact h.elim
end
section
variable{P:Program}{F:Nat->Prop}{fn:Func}
def AR(tmps:Array Value):ResultVar->Sem Value
 | .tmp t=>pure (tmps.getD t undef)
 | .cell x t=>do loadVar t (<- asAddr (tmps.getD x undef))
theorem XG(fn:Func)(tmps:Array Value):results fn tmps=(do
 let vs<- fn.results.mapM (AR tmps)
 pure (if h:vs.size=1 then vs[0] else .tuple vs)):=by
 unfold results;congr 1
theorem ab4{st:St}{β:aC}{w:World}{a:Act}(hs:ej P F st β w a){r:ResultVar}{p:Prop}{d:D}(h:nC P st r=some (p,d))(hp:p):
 ∃ v,(AR a.tmps r).run P w=.ok v w/\R F β w d v:=by
 unfold nC at h;split at h
 .cases h;exact⟨_,by simp[AR],hs.e _⟩
 .rename_i x t;have hx:=hs.e x;split at h
  .rename_i i off C;rw[C] at hx;split at h
   .rename_i cs e hm;cases h;obtain⟨b,o,room,sz,M,hv,ap⟩:=hx.Gg hs.m hm;obtain⟨u,hu,hr⟩:=EH (P:=P) hp.1 (ap.rd.1.drop off) oP;refine⟨u,?_,hr⟩;simp only[AR,hv,Sem.run_bind];simp[asAddr,hu]
   .cases h
  .rename_i cs C;rw[C] at hx;cases h;obtain⟨b,o,hv,_,_,_,J⟩:=hx.Gh;obtain⟨u,hu,hr⟩:=EH (P:=P) hp.1 J hp.2;refine⟨u,?_,hr⟩;simp only[AR,hv,Sem.run_bind];simp[asAddr,hu]
  .cases h
theorem Qn{st:St}{β:aC}{w:World}{a:Act}(hs:ej P F st β w a){K:List D->Prop}:∀ (rs:List ResultVar) (acc:List D),nD P st rs acc K->
 ∃ vs ds,(rs.mapM (AR a.tmps)).run P w=.ok vs w/\vs.length=ds.length/\K (acc++ds)/\
  ∀ (k:Nat) (d:D) (v:Value),ds[k]? =some d->vs[k]? =some v->R F β w d v
 |[],acc,h=>⟨[],[],oS,rfl,by simpa[nD] using h,oS⟩
 |r::rs,acc,h=>by
  simp only[nD] at h;split at h
  .rename_i p d hr;obtain⟨v,h1,h2⟩:=ab4 hs hr h.1;obtain⟨vs,ds,C,J,M,U⟩:=Qn hs rs _ h.2;refine⟨v::vs,d::ds,?_,by simp[J],by simpa using M,fun k d' X hd hv=>?_⟩
   .rw[List.mapM_cons];simp only[Sem.run_bind];rw[h1];simp only[Result.andThen_ok,Sem.run_bind];rw[C];simp
   .cases k with
    |zero=>simp at hd hv;subst hd;subst hv;exact h2
    |succ k=>exact U k d' X (by simpa using hd) (by simpa using hv)
  .exact h.elim
theorem Ov{st:St}{β:aC}{w:World}{a:Act}(hs:ej P F st β w a){K:D->Prop}(h:nD P st fn.results.toList [] fun ds=>K (pZ ds)):
 ∃ v d,(results fn a.tmps).run P w=.ok v w/\K d/\R F β w d v:=by
 obtain⟨vs,ds,h1,h2,C,J⟩:=Qn hs _ _ h;simp only[List.nil_append] at C;refine⟨if h:vs.toArray.size=1 then vs.toArray[0] else .tuple vs.toArray,pZ ds,?_,C,?_⟩
 .rw[XG,Array.mapM_eq_mapM_toList];simp only[Sem.run_bind,map_eq_pure_bind,bind_assoc];rw[h1];simp
 .split
  .rename_i bB;simp only[List.size_toArray] at bB;obtain⟨v,rfl⟩:=List.length_eq_one_iff.1 bB;obtain⟨d,rfl⟩:=List.length_eq_one_iff.1 (show ds.length=1 by simpa using h2.symm);exact J 0 d v rfl rfl
  .rename_i bB;simp only[List.size_toArray] at bB
   have:pZ ds=.aL ds:=by
    unfold pZ;split
    .rename_i d;simp at h2;exact absurd h2 bB
    .rfl
   rw[this];exact .aL ds vs h2 J
theorem WJ{w:World}{b:Nat}{x:Option (List Deferred)}(h:w.heap[b]? =some (.deferred x))(o:Nat):w.cell? ⟨b,o,none⟩=none:=by
 simp[World.cell?,h]
theorem R.Qo{w:World}{b:Nat}{x:Option (List Deferred)}(hb:w.heap[b]? =some (.deferred x))(o:Obj)(J:Nat):ki w (w.putObj b o) J:=by
 refine⟨fun k u hu=>?_,fun ms c hm=>?_⟩
 .have C:J≠b:=fun e=>by rw[e,WJ hb] at hu;cases hu
  exact(cell_of_heap (World.putObj_heap_other C)).trans hu
 .have C:J≠b:=fun e=>by rw[e,hb] at hm;cases hm
  exact(World.putObj_heap_other C).trans hm
theorem ej.fV{st:St}{β:aC}{w:World}{a:Act}{b:Nat}{x:Option (List Deferred)}(hb:w.heap[b]? =some (.deferred x))(hf:β.free b)(o:Obj)(h:ej P F st β w a):ej P F st β (w.putObj b o) a:=
 ⟨fun t=>(h.e t).gen oS (fun C _ h1 h2=>⟨R.Qo hb o C,h2,h1⟩) fun _ _ _ h=>.inl h,⟨fun i r hi=>by
  obtain⟨p,hp,hr⟩:=h.m.row i r hi;exact⟨p,hp,hr.gen oS (fun C _ h1 h2=>⟨R.Qo hb o C,h2,h1⟩) (fun _ _ _ h=>.inl h) fun c hc=>World.putObj_heap_other fun e=>hf i p hp (e▸hc)⟩,
  h.m.inj,fun i p c hp hc=>by simpa using h.m.lt i p c hp hc,h.m.nf,h.m.fb.next (fun c hc=>by simpa using h.m.fb.lt c hc) (fun _ h=>h) fun t ht _=>World.putObj_heap_other fun e=>abV (h.m.fb.l8 t ht).2 x (by rw[e];exact hb)⟩,h.n⟩
theorem Marks.put{β:aC}{w:World}{lo b:Nat}(o:Obj):∀ {ds:List Deferred} {hi:Nat},hi<=b->Marks β w lo ds hi->Marks β (w.putObj b o) lo ds hi
 |[],_,_,_=>trivial
 |_::_,_,hle,⟨c,h1,h2,h3,h4,h5,h6⟩=>⟨c,h1,h2,h3,(World.putObj_heap_other oG).trans h4,h5,Marks.put o oG h6⟩
theorem Io{n:Nat}{tmps:Array Value}{R:Ending->World->Prop}{st:St}{β₀ β:aC}{w₀:World}{a:Act}:∀ (ds:List Deferred) (hi:Nat) (w:World),Marks β w w₀.heap.size ds hi->ej P F st β w a->Step β₀ w₀ β w->
 (∀ w',ej P F st β w' a->Step β₀ w₀ β w'->∃ v,(results fn tmps).run P w'=.ok v w'/\R (.returned v) w')->LeavesInM (Fe none) n P fn tmps R ds .returning w
 |[],_,w,_,hs,c7,K=>K w hs c7
 |d::ds,hi,w,⟨b,h1,h2,h3,h4,h5,h6⟩,hs,c7,K=>by
  subst h1;refine⟨oS,.inl ⟨b,_,rfl,run_takeDeferred h4,Io ds b _ (h6.put _ (a8 _)) (hs.fV h4 h5 _) ?_ K⟩⟩;refine⟨by simpa using c7.size,fun c hc hf=>?_,c7.keep,c7.out.trans ⟨rfl,rfl⟩⟩;obtain⟨C,J⟩:=c7.de c hc hf;exact⟨(World.putObj_heap_other oG).trans C,J⟩
theorem zT(gX:P.follows .mixedOrders=true){Y:ea}{f:FuncId}{c:Code}(hf:P.funcs[f]? =some fn)(hb:fn.body=some c)(af:gB fn.ntmps c=true){args:List D}(hn:Nat.ble args.length fn.ntmps=true){m:Mem}{nx:Nat}{K:D->St->Prop}
 (h:AW P Y true c (gY P fn.results.toList K) ⟨iy args,m,nx⟩) {β:aC} {w:World} {vs:Array Value} (hY:∀ l args m nx K,Y l args m nx K->nn P F β w l args m nx K) (hm:aJ P F m β w) (cx:∀ i,nx<=i->β i=none) (C:Rs F β w args vs):
 Calls P f vs w fun e w'=>∃ v d st' β',e=.returned v/\K d st'/\R F β' w' d v/\aJ P F st'.mem β' w'/\(∀ i,st'.nx<=i->β' i=none)/\Step β w β' w'/\nx<=st'.nx/\∀ i,i<nx->β i=none->β' i=none:=by
 have hle:args.length<=fn.ntmps:=by simpa using hn
 refine(callsIn_wide (n:=0)).1 (callsIn_of_wp_marks hf hb trivial ?_)
 have bB:(vs++Array.replicate (fn.ntmps - vs.size) undef).size=fn.ntmps:=by
  simp only[Array.size_append,Array.size_replicate,C.1];omega
 let a₀:Act:={ tmps:=vs++Array.replicate (fn.ntmps - vs.size) undef,defers:=[] }
 have hE:gI F β w (iy args) a₀:=fun t=>by
  unfold iy;rcases Nat.lt_or_ge t args.length with af|bl
  .have h1:args.getD t .u=args[t]:=by simp[af]
   have h2:a₀.tmps.getD t undef=vs[t]'(by rw[C.1];exact af):=by
    show(vs++Array.replicate (fn.ntmps - vs.size) undef).getD t undef=_;have U:t<vs.size:=by rw[C.1];exact af
    simp[Array.getD_eq_getD_getElem?,Array.getElem?_append_left U,U]
   rw[h1,h2];exact C.2 t _ _ (by simp[af]) (by simp[C.1,af])
  .have h1:args.getD t .u=.u:=by simp[bl]
   rw[h1];exact .u _
 have:=E2 gX c F none 0 Y true nx β w a₀ (fun _=>rfl) hY (by show gB (vs++Array.replicate (fn.ntmps - vs.size) undef).size c=true;rw[bB];exact af) _ ⟨iy args,m,nx⟩ β w a₀ h ⟨hE,hm,cx⟩ (fU.refl ⟨iy args,m,nx⟩ β w a₀).yM;refine wpIn_mono this fun e a' w' hp=>?_;obtain⟨st',β',hq,cL,J⟩:=hp
 have X:(nD P st' fn.results.toList [] fun ds=>K (pZ ds) st')->LeavesInM (Fe none) 0 P fn a'.tmps (fun e w'=>∃ v d st' β',e=.returned v/\K d st'/\R F β' w' d v/\aJ P F st'.mem β' w'/\(∀ i,st'.nx<=i->β' i=none)/\Step β w β' w'/\nx<=st'.nx/\∀ i,i<nx->β i=none->β' i=none) a'.defers .returning w':=fun hq=>by
  obtain⟨ds,h1,h2⟩:=J.defers;rw[h1,show a₀.defers=[] from rfl,List.append_nil];refine Io ds _ w' h2 cL J.step fun w'' M KW=>?_;obtain⟨v,d,g1,g2,g3⟩:=Ov (K:=fun d=>K d st') M hq;exact⟨v,g1,v,d,st',β',rfl,g2,g3,M.m,M.n,KW,J.le,J.grow⟩
 cases e with
 |normal=>exact X hq
 |ret=>exact X hq
 |_=>exact hq.elim
theorem ES{w:World}(C:FB F w):aJ P F (fun _=>none) gA w:=
 ⟨fun i r h=>oH,fun i j p q b h=>oH,fun i p b h=>oH,fun i p b h=>oH,C⟩
theorem EE{β':aC}{w w':World}(h:Step gA w β' w'):Kept w w':=
 ⟨h.size,fun b hb=>(h.de b hb fun i p hp=>by cases hp).1,h.out⟩
theorem Tr.AB{d:D}(h:Tr d){β:aC}{w:World}{v:Value}(hv:R F β w d v):R F gA w d v:=
 (h F β w v hv).lift fun b hb=>⟨fun e=>hb (.inl e),fun i p hp=>by cases hp⟩
structure lj(P:Program)(f:FuncId)(fn:Func)(c:Code):Prop where
 hf:P.funcs[f]? =some fn
 hb:fn.body=some c
 af:gB fn.ntmps c=true
 he:nY P f=true
theorem Qp(J:P.follows .mixedOrders=true){f:FuncId}{c:Code}(hf:lj P f fn c){args:List D}(hn:Nat.ble args.length fn.ntmps=true){m:Mem}{nx:Nat}{dX:D->Mem->Nat->Prop}
 (h:AW P cZ true c (gY P fn.results.toList fun d st=>dX d st.mem st.nx) ⟨iy args,m,nx⟩):fD P f args m nx dX:=
 ⟨hf.he,fun F β w vs hm C hR=>(zT J hf.hf hf.hb hf.af hn h (fun _ _ _ _ _ h=>h.elim) hm C hR).mono fun e w' ⟨v,d,st',β',h1,h2,M,U,X,h6,h7,h8⟩=>⟨v,d,st'.mem,st'.nx,β',h1,h2,U,X,M,h6,h7,h8⟩⟩
theorem aan(C:P.follows .mixedOrders=true){f:FuncId}{c:Code}(hf:lj P f fn c){args:List D}(hn:Nat.ble args.length fn.ntmps=true)(ht:∀ a∈args,Tr a){r:D}(hr:Tr r)
 (h:AW P cZ true c (gY P fn.results.toList fun d _=>d=r) ⟨iy args,fun _=>none,0⟩):aA P f args r:=
 ⟨hf.he,ht,fun F w vs U X=>(zT C hf.hf hf.hb hf.af hn h (fun _ _ _ _ _ h=>h.elim) (ES U) (fun _ _=>rfl) X).mono fun e w' hp=>by
  obtain⟨v,d,st',β',h1,rfl,J,h4,h5,M,h7,h8⟩:=hp
  exact⟨v,h1,hr.AB J,EE M⟩⟩
theorem Qq (gX:P.follows .mixedOrders=true){f:FuncId}{c:Code}(hf:lj P f fn c){args:List D}(hn:Nat.ble args.length fn.ntmps=true)(ht:∀ a∈args,Tr a){es:List D}(kN:∀ a∈es,Tr a){k:Nat}{t:TypeId}
 (h:AW P cZ true c (gY P fn.results.toList fun d st=>∃ i,d=.rs i 0 k/\st.mem i=some (.cells es t)) ⟨iy args,fun _=>none,0⟩):ko P f args es k t:=
 ⟨hf.he,ht,fun F w vs hF hR=>(zT gX hf.hf hf.hb hf.af hn h (fun _ _ _ _ _ h=>h.elim) (ES hF) (fun _ _=>rfl) hR).mono fun e w' hp=>by
  obtain⟨v,d,st',β',h1,⟨i,rfl,hi⟩,h3,J,h5,M,h7,h8⟩:=hp;obtain⟨p,hp,ap⟩:=J.row i _ hi;refine⟨v,p,h1,?_,fun b hb=>⟨?_,J.lt i p b hp hb⟩,?_,?_,EE M⟩
  .rintro rfl;cases ap
  .rcases Nat.lt_or_ge b w.heap.size with af|U
   .exact absurd hb ((M.de b af fun i p hp=>by cases hp).2 i p hp)
   .exact U
  .have lift:∀ d∈es,∀ u,R F β' w' d u->R (fun x=>F x\/p.bF=some x) gA w' d u:=fun d hd u hu=>
    (kN d hd F β' w' u hu).lift fun b hb=>⟨fun e=>hb (by
     rcases e with e|e
     .exact .inl e
     .exact .inr fun k8=>k8 i p hp e),fun i p hp=>by cases hp⟩
   cases ap with
   |nil _=>exact .nil _
   |cells _ _ b o room sz c q1 q2 q3 q4 q5=>
    refine .cells es t b o room sz c q1 q2 q3 q4 fun j d hd=>?_;obtain⟨u,u1,u2,u3⟩:=q5 j d hd;exact⟨u,u1,lift d (bD hd) u u2,u3⟩
  .cases h3 with
   |kH _ _ _ _ C _=>rw[C] at hp;cases hp;cases ap
   |iT _ a C=>rw[C] at hp;cases hp;exact .iT 0 a (ah _ _ _)
   |jI _ _ a b o len room sz C=>rw[C] at hp;cases hp;exact .jI 0 0 a b o len room sz (ah _ _ _)
   |rs _ _ _ cap b o len room sz C X g2 g3 g4=>rw[C] at hp;cases hp;exact .rs 0 0 k cap b o len room sz (ah _ _ _) X g2 g3 g4⟩
def T7(J:Nat)(xs:List (List D))(I:Nat->Mem->Nat->Prop)(Stop:Mem->Nat->Prop):ea:=fun l args m nx dX=>
 l=J/\∃ k,xs[k]? =some args/\I k m nx/\∀ d m' C,Rn I Stop k d m' C->dX d m' C
theorem nn.mono{β:aC}{w:World}{l:Nat}{args:List D}{m:Mem}{nx:Nat}{K K':D->Mem->Nat->Prop}(hk:∀ d m nx,K d m nx->K' d m nx)(h:nn P F β w l args m nx K):nn P F β w l args m nx K':=
 fun β' w' us h1 h2 U X=>by
  obtain⟨f,tmps,assign,body,J,M⟩:=h β' w' us h1 h2 U X;exact⟨f,tmps,assign,body,J,fun n=>RoundIn.mono (F:=Fence.wide) (M n) fun e w' ⟨v,d,m',C,β',q1,q2,q3⟩=>⟨v,d,m',C,β',q1,hk _ _ _ q2,q3⟩⟩
theorem adm(X:P.follows .mixedOrders=true){f:FuncId}{c:Code}(hf:lj P f fn c){fs cs:List D}(hn:Nat.ble (fs.length+1+cs.length) fn.ntmps=true){xs:List (List D)}
 (h:∀ (l:Nat) (I:Nat->Mem->Nat->Prop) (Stop:Mem->Nat->Prop) (m:Mem) (nx:Nat),(∀ k,xx (I k))->xx Stop->I 0 m nx->
  AW P (T7 l xs I Stop) true c (gY P fn.results.toList fun _ st=>I xs.length st.mem st.nx\/Stop st.mem st.nx) ⟨iy (fs++[.fn (.yield l) [] []]++cs),m,nx⟩):vX P f fs cs xs:=
 ⟨hf.he,fun F l I Stop m nx β w vs hI J hm U hR hy h0=>
  (zT X hf.hf hf.hb hf.af (by simpa[Nat.add_assoc,Nat.add_comm,Nat.add_left_comm] using hn) (h l I Stop m nx hI J h0) (fun l' args m' M K hK=>by
   obtain⟨rfl,k,h1,h2,C⟩:=hK
   exact(hy k args m' M h1 h2).mono C) hm U hR).mono fun e w' ⟨v,d,st',β',h1,h2,C,h4,h5,h6,h7,h8⟩=>⟨v,d,st'.mem,st'.nx,β',h1,h2,h4,h5,C,h6,h7,h8⟩⟩
end
section
variable{P:Program}{Y:ea}{rf:Bool}{Q:Exit->St->Prop}{st:St}
theorem Rw(c a b):AW P Y rf (.cond c a b) Q st=((opd st.env c).ask/\match (opd st.env c).core with
 | .s (.bool t)=>(t=true->AW P Y rf a Q st)/\(t=false->AW P Y rf b Q st)
 | .ub=>AW P Y rf a Q st/\AW P Y rf b Q st
 |_=>False):=rfl
theorem Rx{b:Code}(I:St->Prop)(μ:St->Nat)(h0:I st)(h:∀ st',I st'->AW P Y rf b (fJ (fun J=>∃ C,aI P J C/\I C/\μ C<μ st') Q) st'):AW P Y rf (.loop b) Q st:=⟨I,μ,h0,h⟩
theorem fD.mono{f:FuncId}{args:List D}{m:Mem}{nx:Nat}{dX J:D->Mem->Nat->Prop}(h:fD P f args m nx dX)(hp:∀ d m' C,dX d m' C->J d m' C):fD P f args m nx J:=
 ⟨h.1,fun F β w vs hm hn U=>(h.2 F β w vs hm hn U).mono fun e w' ⟨v,d,m',C,β',h1,h2,M⟩=>⟨v,d,m',C,β',h1,hp _ _ _ h2,M⟩⟩
theorem r8.mono{dr:Bool}{f:FuncId}{args:List D}{K K':D->Mem->Nat->List Nat->List Nat->Prop}(hk:∀ d m nx rd wr,K d m nx rd wr->K' d m nx rd wr)(h:r8 P dr st f args K):r8 P dr st f args K':=by
 rcases h with⟨r,h1,h2⟩|⟨M,rds,r,h1,h2,C,J⟩|⟨es,n,t,h1,h2⟩|⟨h1,h2⟩|⟨r,aQ,rds,h1,h2,C⟩|⟨es,n,t,aQ,rds,h1,h2,C,J⟩
 .exact .inl ⟨r,h1,hk _ _ _ _ _ h2⟩
 .exact .inr (.inl ⟨M,rds,r,h1,h2,C,hk _ _ _ _ _ J⟩)
 .exact .inr (.inr (.inl ⟨es,n,t,h1,hk _ _ _ _ _ h2⟩))
 .exact .inr (.inr (.inr (.inl ⟨h1,h2.mono fun d m nx h=>hk _ _ _ _ _ h⟩)))
 .exact .inr (.inr (.inr (.inr (.inl ⟨r,aQ,rds,h1,h2,hk _ _ _ _ _ C⟩))))
 .exact .inr (.inr (.inr (.inr (.inr ⟨es,n,t,aQ,rds,h1,h2,C,hk _ _ _ _ _ J⟩))))
class dD(Y:ea):Prop where
 mono:∀ l args m nx K K',(∀ d m nx,K d m nx->K' d m nx)->Y l args m nx K->Y l args m nx K'
instance:dD cZ:=⟨fun _ _ _ _ _ _ _ h=>h⟩
instance{l:Nat}{xs:List (List D)}{I:Nat->Mem->Nat->Prop}{Stop:Mem->Nat->Prop}:dD (T7 l xs I Stop):=⟨fun _ _ _ _ _ _ hk ⟨h1,k,h2,C,J⟩=>⟨h1,k,h2,C,fun d m nx h=>hk _ _ _ (J d m nx h)⟩⟩
theorem iW.mono[dD Y]{ops:Array Oper}{dr:Bool}{o:Oper}{K K':St->List Nat->List Nat->Prop}(hk:∀ st rd wr,K st rd wr->K' st rd wr)(h:iW P Y ops dr o st K):iW P Y ops dr o st K':=by
 unfold iW at h ⊢;split at h
 .refine⟨h.1,?_⟩;have h:=h.2;split at h
  .exact h.mono fun _ _ _ _ _ h=>hk _ _ _ h
  .split at h
   .exact⟨h.1,dD.mono _ _ _ _ _ _ (fun _ _ _ h=>hk _ _ _ h) h.2⟩
   .split at h
    .exact⟨h.1,hk _ _ _ h.2⟩
    .exact h
 .split at h
  .exact h
  .split at h
   .rcases h with⟨r,h1,h2⟩|⟨h1,h2⟩
    .exact .inl ⟨r,h1,hk _ _ _ h2⟩
    .exact .inr ⟨fun hc=>⟨(h1 hc).1,(h1 hc).2.mono fun _ _ _ _ _ h=>hk _ _ _ h⟩,fun hc=>hk _ _ _ (h2 hc)⟩
   .split at h
    .exact⟨fun hc=>⟨(h.1 hc).1,(h.1 hc).2.1,dD.mono _ _ _ _ _ _ (fun _ _ _ h=>hk _ _ _ h) (h.1 hc).2.2⟩,fun hc=>hk _ _ _ (h.2 hc)⟩
    split at h
    .split at h
     .rename_i hc;rw[if_pos hc];exact⟨h.1,hk _ _ _ h.2⟩
     .rename_i hc;rw[if_neg hc];exact⟨fun hc=>⟨(h.1 hc).1,(h.1 hc).2.1,hk _ _ _ (h.1 hc).2.2⟩,fun hc=>hk _ _ _ (h.2 hc)⟩
    .exact⟨h.1,hk _ _ _ h.2⟩
theorem aq.mono[dD Y]{ops:Array Oper}{dr:Bool}{cf:List (Nat×Nat)}{Q C:Exit->St->Prop}(hq:∀ st,Q .normal st->C .normal st):∀ (l:List Oper) (st:St) (tr:jL),aq P Y ops dr cf Q l st tr->aq P Y ops dr cf C l st tr
 |[],st,tr,h=>⟨h.1,hq _ h.2⟩
 |o::l,st,tr,h=>h.elim (fun h=>.inl (iW.mono (fun st' rd wr h=>aq.mono hq l st' _ h) h)) fun⟨h1,h2,e,J,M⟩=>.inr ⟨h1,h2,e,J,aq.mono hq l _ _ M⟩
theorem tF:∀ (c:Code) {Y:ea} [dD Y] {rf:Bool} {Q C:Exit->St->Prop} {st:St},(∀ e st,Q e st->C e st)->AW P Y rf c Q st->AW P Y rf c C st:=by
 intro c
 induction c with
 |skip=>intro Y _ rf;exact fun hq h=>hq _ _ h
 |ret=>intro Y _ rf;exact fun hq h=>hq _ _ h
 |exit id=>intro Y _ rf;exact fun hq h=>hq _ _ h
 |region id ops draw=>
  intro Y _ rf Q C st hq h;cases draw with
  |false=>exact aq.mono (hq .normal) _ _ _ h
  |true=>
   simp only[AW] at h ⊢;split at h
   .exact h.elim (fun h=>.inl (aq.mono (hq .normal) _ _ _ h)) fun h=>.inr ⟨h.1,aq.mono (fun st hs=>⟨hs.1,aq.mono (hq .normal) _ _ _ hs.2⟩) _ _ _ h.2⟩
   .exact h
 |seq a b J M=>
  intro Y _ rf Q C st hq h;refine J (fun e st' h=>?_) h;cases e with
  |normal=>obtain⟨U,hg,hb⟩:=h;exact⟨U,hg,M hq hb⟩
  |_=>exact hq _ _ h
 |cond c a b J M=>
  intro Y _ rf Q C st hq h;refine⟨h.1,?_⟩;have h:=h.2;split at h
  .exact⟨fun ht=>J hq (h.1 ht),fun ht=>M hq (h.2 ht)⟩
  .exact⟨J hq h.1,M hq h.2⟩
  .exact h
 |block id b ih=>
  intro Y _ rf Q C st hq h;refine ih (fun e st' h=>?_) h;cases e with
  |exit i=>
   simp only[fq] at h ⊢;split at h
   .rename_i hi;rw[if_pos hi];exact hq _ _ h
   .rename_i hi;rw[if_neg hi];exact hq _ _ h
  |_=>exact hq _ _ h
 |scope b ih=>
  intro Y _ rf Q C st hq h;refine ih (fun e st' h=>?_) h;cases e with
  |goto l=>exact h
  |_=>exact hq _ _ h
 |loop b ih=>
  intro Y _ rf Q C st hq h;obtain⟨I,μ,h0,h1⟩:=h;refine⟨I,μ,h0,fun st' hi=>ih (fun e U h=>?_) (h1 st' hi)⟩;cases e with
  |normal=>exact h
  |_=>exact hq _ _ h
 |label l=>intro Y _ rf;exact fun hq h=>hq _ _ h
 |rangeFunc g ps assign body J M=>
  intro Y _ rf Q C st hq h;obtain⟨X,jF,f,fs,cs,xs,I,tY,yo,xQ,yP,tP,xR⟩:=h;refine⟨X,jF,f,fs,cs,xs,I,tY,yo,xQ,yP,fun k m nx x hx hI=>J (fun e s h=>?_) (tP k m nx x hx hI),fun m nx h=>hq _ _ (xR m nx h)⟩;cases e with
  |normal=>
   refine M (fun e s h=>?_) h;cases e with
   |normal=>exact h
   |ret=>exact hq _ _ h
   |exit id=>exact hq _ _ h
   |_=>exact h
  |_=>exact h
 |_=>intro Y _ rf;exact fun _ h=>h.elim
theorem least{p:Nat->Prop}:∀ j,p j->∃ i,p i/\∀ k,p k->i<=k:=by
 intro j
 induction j using Nat.strongRecOn with
 |_ j ih=>
  intro hj;by_cases h:∃ k,k<j/\p k
  .obtain⟨k,hk,hp⟩:=h;exact ih k hk hp
  .exact⟨j,hj,fun k hk=>Nat.le_of_not_lt fun af=>h ⟨k,af,hk⟩⟩
open Classical in
theorem Qu[dD Y]{b:Code}(J:Nat->St->Prop){j₀:Nat}(h0:J j₀ st)(h:∀ j st',J j st'->AW P Y rf b (fJ (fun fH=>∃ U,aI P fH U/\∃ M,M<j/\J M U) Q) st'):AW P Y rf (.loop b) Q st:=by
 have C:∀ st,(∃ j,J j st)->∃ i,J i st/\∀ k,J k st->i<=k:=fun st ⟨j,hj⟩=>least j hj
 let μ:St->Nat:=fun st=>if h:∃ j,J j st then Classical.choose (C st h) else 0
 have hμ:∀ st,(hj:∃ j,J j st)->J (μ st) st/\∀ k,J k st->μ st<=k:=fun st hj=>by
  have:μ st=Classical.choose (C st hj):=by simp only[μ];rw[dif_pos hj]
  rw[this];exact Classical.choose_spec (C st hj)
 refine Rx (fun st=>∃ j,J j st) μ ⟨j₀,h0⟩ fun st' hj=>tF b (fun e fH hq=>?_) (h (μ st') st' (hμ st' hj).1);cases e with
 |normal=>
  obtain⟨U,hg,M,af,X⟩:=hq;exact⟨U,hg,⟨M,X⟩,Nat.lt_of_le_of_lt ((hμ U ⟨M,X⟩).2 M X) af⟩
 |_=>exact hq
end
section
variable{P:Program}{F:Nat->Prop}{β:aC}{w:World}
theorem Tr.cn{c:Bool}{d:D}(h:Tr d):Tr (.cn c d):=fun F β w v hv=>by
 cases hv with
 |cn _ _ _ h1 h2=>exact .cn c d v (fun hc=>h F β w v (h1 hc)) h2
theorem Tr.agg{cs:List D}(h:∀ d∈cs,Tr d):Tr (.agg cs):=fun F β w v hv=>by
 obtain⟨vs,rfl,hl,hh⟩:=hv.rS;exact .agg cs vs hl fun k d u hd hu=>h d (bD hd) F β w u (hh k d u hd hu)
theorem Tr.aL{cs:List D}(h:∀ d∈cs,Tr d):Tr (.aL cs):=fun F β w v hv=>by
 obtain⟨vs,rfl,hl,hh⟩:=hv.Cl;exact .aL cs vs hl fun k d u hd hu=>h d (bD hd) F β w u (hh k d u hd hu)
theorem Tr.sl{cs:List D}{n:Nat}(h:∀ d∈cs,Tr d):Tr (.sl cs n):=fun F β w v hv=>by
 cases hv with
 |fZ a cap=>exact .fZ a cap
 |sl _ _ b o cap us hf hb af oi dk hc hh=>
  exact .sl cs n b o cap us (fun e=>e.elim hf fun e=>e hb) (fun i p hp=>by cases hp) af oi dk hc fun k d hd=>h d (bD hd) F β w _ (hh k d hd)
theorem Tr.pt{cs:List D}(h:∀ d∈cs,Tr d):Tr (.pt cs):=fun F β w v hv=>by
 cases hv with
 |pt _ b o us hf hb af hc hh=>
  exact .pt cs b o us (fun e=>e.elim hf fun e=>e hb) (fun i p hp=>by cases hp) af hc fun k d hd=>h d (bD hd) F β w _ (hh k d hd)
theorem Tr.fn{f:Fn}{fs cs:List D}(h:∀ d∈fs,Tr d)(h':∀ d∈cs,Tr d):Tr (.fn f fs cs):=fun F β w v hv=>by
 cases hv with
 |fn _ _ _ us vs hl l7 h1 h2=>
  exact .fn f fs cs us vs hl l7 (fun k d u hd hu=>h d (bD hd) F β w u (h1 k d u hd hu)) fun k d u hd hu=>h' d (bD hd) F β w u (h2 k d u hd hu)
theorem Tr.im{es:List (Value×D)}(h:∀ x∈es,Tr x.2):Tr (.im es):=fun F β w v hv=>by
 cases hv with
 |im _ r ms clock hf hb hc hl dY hk hh=>
  exact .im es r ms clock (fun e=>e.elim hf fun e=>e hb) (fun i p hp=>by cases hp) hc hl dY hk fun k x m hx hm=>h x (bD hx) F β w _ (hh k x m hx hm)
theorem Tr.s(x:Value):Tr (.s x):=fun F β w v hv=>by
 obtain⟨rfl,h⟩:=hv.cX;exact .s _ h
theorem Tr.ub:Tr .ub:=fun F β w v hv=>by
 obtain⟨b,rfl⟩:=hv.Gb;exact .ub b
theorem Tr.u:Tr .u:=fun F β w v _=>.u v
theorem Tr.z:Tr .z:=fun F β w v hv=>by
 obtain⟨a,rfl⟩:=hv.tX;exact .z a
theorem Tr.nil:∀ a∈([]:List D),Tr a:=fun _ h=>by cases h
theorem Tr.cons{d:D}{l:List D}(h:Tr d)(hl:∀ a∈l,Tr a):∀ a∈d::l,Tr a:=fun a ha=>by
 cases ha with
 |head=>exact h
 |tail _ ha=>exact hl a ha
theorem Tr.map{α:Type}{f:α->D}{l:List α}(h:∀ x,Tr (f x)):∀ a∈l.map f,Tr a:=fun a ha=>by
 obtain⟨x,_,rfl⟩:=List.mem_map.1 ha;exact h x
theorem Tr.flat{α:Type}{f:α->List D}{l:List α}(h:∀ x,∀ a∈f x,Tr a):∀ a∈l.flatMap f,Tr a:=fun a ha=>by
 obtain⟨x,_,hx⟩:=List.mem_flatMap.1 ha;exact h x a hx
end
def ay:List (Nat×D)->Env
 |[],_=>.u
 |(t,d)::l,j=>if j=t then d else ay l j
def kX:List (Nat×D)->Env->Prop
 |[],_=>True
 |(t,d)::l,env=>env t=d/\kX l env
theorem pz:∀ {l:List (Nat×D)} {env:Env},kX l env->∀ t,ay l t=env t\/ay l t=.u
 |[],_,_,_=>.inr rfl
 |(k,d)::l,env,h,t=>by
  simp only[ay];by_cases ht:t=k
  .subst ht;rw[if_pos rfl];exact .inl h.1.symm
  .rw[if_neg ht];exact pz h.2 t
def fK(env:Env):List Operand->Prop
 |[]=>True
 |x::xs=>(opd env x).ask/\fK env xs
theorem QE{env:Env}:∀ {l:List Operand},fK env l->∀ x∈l,(opd env x).ask
 |[],_,x,h=>by cases h
 |y::l,h,x,hx=>by
  cases hx with
  |head=>exact h.1
  |tail _ hx=>exact QE h.2 x hx
theorem oQ{env:Env}{o:Op}(h:fK env o.operands.toList):asks env o:=by
 have:=QE h;unfold asks;cases o<;>first|exact this|exact this _ cz
section
variable{P:Program}{Y:ea}{rf:Bool}
structure Ef(P:Program)(op:Op)(env:Env)(m:Mem)(nx:Nat)(e:dw):Prop where
 ok:ba P op (aX env op) m nx=some e
 nc:dJ (aX env op) op=none
 ny:kW (aX env op) op=none
variable{ops:Array Oper}{dr:Bool}{cf:List (Nat×Nat)}{Q:Exit->St->Prop}{rest:List Oper}{env:Env}{m:Mem}{nx:Nat}{tr:jL}{t:Nat}{op:Op}{ty:TypeId}{pos:String}{after:Array Edge}
 {pre:Prop} {v:D} {rd:List Nat}
theorem xE{d:Option Nat}{e:dw}(he:Ef P op env m nx e)(ha:asks env op)(hp:e.pre)(K:aq P Y ops dr cf Q rest (St.put ⟨env,cB m e.aQ,nx+e.new⟩ d e.val) (tr++[(e.rd,e.aQ.map (·.1))])):
 aq P Y ops dr cf Q (⟨d,op,ty,pos,after,none⟩::rest) ⟨env,m,nx⟩ tr:=by
 simp only[aq];refine .inl ?_;simp only[iW];rw[he.nc,he.ny,he.ok];exact⟨ha,hp,K⟩
theorem au(he:Ef P op env m nx ⟨pre,v,[],rd,0⟩)(ha:fK env op.operands.toList)(hp:pre)(K:aq P Y ops dr cf Q rest ⟨up env t v,m,nx⟩ (tr++[(rd,[])])):
 aq P Y ops dr cf Q (⟨some t,op,ty,pos,after,none⟩::rest) ⟨env,m,nx⟩ tr:=xE he (oQ ha) hp K
theorem z6{c a b:Operand}{g:Bool}(hc:(opd env c).core=.s (.bool g)):Ef P (.pick c a b) env m nx ⟨(g=true->(opd env a).ask/\(opd env a).core.eX.isSome=true)/\(g=false->(opd env b).ask/\(opd env b).core.eX.isSome=true),
 .s (.bool (if g then(opd env a).core.eX.getD false else(opd env b).core.eX.getD false)),[],[],0⟩:=⟨by simp only[ba,aX,hc,D.eX],rfl,rfl⟩
theorem JY{c a b:Operand}{g x y:Bool}(hc:opd env c=.s (.bool g))(ha:(opd env a).core=.s (.bool x))(hb:(opd env b).core=.s (.bool y))(h1:g=true->(opd env a).ask)(h2:g=false->(opd env b).ask)
 (K:aq P Y ops dr cf Q rest ⟨up env t (.s (.bool (if g then x else y))),m,nx⟩ (tr++[([],[])])):
 aq P Y ops dr cf Q (⟨some t,.pick c a b,ty,pos,after,none⟩::rest) ⟨env,m,nx⟩ tr:=by
 refine xE (z6 (g:=g) (by rw[hc];rfl)) (by simp only[asks,hc,D.ask]) ⟨fun h=>⟨h1 h,by rw[ha];rfl⟩,fun h=>⟨h2 h,by rw[hb];rfl⟩⟩ ?_;simp only[ha,hb,D.eX,Option.getD_some];exact K
theorem Ju{c a b:Operand}{x:Bool}(hc:opd env c=.s (.bool true))(ha:(opd env a).core=.s (.bool x))(h1:(opd env a).ask)
 (K:aq P Y ops dr cf Q rest ⟨up env t (.s (.bool x)),m,nx⟩ (tr++[([],[])])):
 aq P Y ops dr cf Q (⟨some t,.pick c a b,ty,pos,after,none⟩::rest) ⟨env,m,nx⟩ tr:=by
 refine xE (z6 (g:=true) (by rw[hc];rfl)) (by simp only[asks,hc,D.ask]) ⟨fun _=>⟨h1,by rw[ha];rfl⟩,fun h=>by cases h⟩ ?_;simp only[ha,D.eX,Option.getD_some,if_true];exact K
theorem Jv{c a b:Operand}{y:Bool}(hc:opd env c=.s (.bool false))(hb:(opd env b).core=.s (.bool y))(h2:(opd env b).ask)
 (K:aq P Y ops dr cf Q rest ⟨up env t (.s (.bool y)),m,nx⟩ (tr++[([],[])])):
 aq P Y ops dr cf Q (⟨some t,.pick c a b,ty,pos,after,none⟩::rest) ⟨env,m,nx⟩ tr:=by
 refine xE (z6 (g:=false) (by rw[hc];rfl)) (by simp only[asks,hc,D.ask]) ⟨fun h=>oH,fun _=>⟨h2,by rw[hb];rfl⟩⟩ ?_;simp only[hb,D.eX,Option.getD_some,Bool.false_eq_true,if_false];exact K
theorem bM{i:Nat}{row:Option Row}(he:Ef P op env m nx ⟨pre,v,[(i,row)],rd,0⟩)(ha:fK env op.operands.toList)(hp:pre)(K:aq P Y ops dr cf Q rest ⟨env,up m i row,nx⟩ (tr++[(rd,[i])])):
 aq P Y ops dr cf Q (⟨none,op,ty,pos,after,none⟩::rest) ⟨env,m,nx⟩ tr:=xE he (oQ ha) hp K
theorem eA{row:Row}(he:Ef P op env m nx ⟨pre,v,[(nx,some row)],rd,1⟩)(ha:fK env op.operands.toList)(hp:pre)(K:aq P Y ops dr cf Q rest ⟨up env t v,up m nx (some row),nx+1⟩ (tr++[(rd,[nx])])):
 aq P Y ops dr cf Q (⟨some t,op,ty,pos,after,none⟩::rest) ⟨env,m,nx⟩ tr:=xE he (oQ ha) hp K
theorem iC{i:Nat}{row:Row}(he:Ef P op env m nx ⟨pre,v,[(i,none),(nx,some row)],rd,1⟩)(ha:fK env op.operands.toList)(hp:pre)(K:aq P Y ops dr cf Q rest ⟨up env t v,up (up m i none) nx (some row),nx+1⟩ (tr++[(rd,[i,nx])])):
 aq P Y ops dr cf Q (⟨some t,op,ty,pos,after,none⟩::rest) ⟨env,m,nx⟩ tr:=xE he (oQ ha) hp K
theorem bd{j:Nat}{b c:Bool}{u:Nat}(hj:(ops[j]?).bind (·.dst)=some u)(hg:jR (env u) b=some c)(he:Ef P op env m nx ⟨pre,v,[],rd,0⟩)(ha:c=true->fK env op.operands.toList/\pre)
 (K:aq P Y ops dr cf Q rest ⟨up env t (.cn c v),m,nx⟩ (tr++[(rd,[])])):aq P Y ops dr cf Q (⟨some t,op,ty,pos,after,some (j,b)⟩::rest) ⟨env,m,nx⟩ tr:=by
 simp only[aq];refine .inl ?_;simp only[iW];rw[hj];simp only[Option.bind_some];rw[hg,he.nc,he.ny,he.ok];exact⟨fun hc=>⟨oQ (ha hc).1,(ha hc).2⟩,K⟩
theorem Cf{j:Nat}{b0 C:Bool}{u:Nat}(hj:(ops[j]?).bind (·.dst)=some u)(hg:jR (env u) b0=some C){c a b:Operand}{g x y:Bool}(hc:(opd env c).core=.s (.bool g))(ha:(opd env a).core=.s (.bool x))(hb:(opd env b).core=.s (.bool y))
 (h0:C=true->(opd env c).ask) (h1:C=true->g=true->(opd env a).ask) (h2:C=true->g=false->(opd env b).ask)
 (K:aq P Y ops dr cf Q rest ⟨up env t (.cn C (.s (.bool (if g then x else y)))),m,nx⟩ (tr++[([],[])])):
 aq P Y ops dr cf Q (⟨some t,.pick c a b,ty,pos,after,some (j,b0)⟩::rest) ⟨env,m,nx⟩ tr:=by
 have he:=z6 (P:=P) (env:=env) (m:=m) (nx:=nx) (a:=a) (b:=b) hc;simp only[ha,hb,D.eX,Option.getD_some,Option.isSome_some,and_true] at he;simp only[aq];refine .inl ?_;simp only[iW];rw[hj];simp only[Option.bind_some];rw[hg,he.nc,he.ny,he.ok];exact⟨fun hc=>⟨by simp only[asks];exact h0 hc,h1 hc,h2 hc⟩,K⟩
theorem aeh{j:Nat}{b:Bool}{u:Nat}{d:Option Nat}{e:dw}(hj:(ops[j]?).bind (·.dst)=some u)(hg:jR (env u) b=some true)(he:Ef P op env m nx e)(ha:fK env op.operands.toList)(hp:e.pre)
 (K:e.aQ=[]->e.new=0->aq P Y ops dr cf Q rest (St.put ⟨env,m,nx⟩ d (.cn true e.val)) (tr++[(e.rd,[])]))
 (K':aq P Y ops dr cf Q rest (St.put ⟨env,cB m e.aQ,nx+e.new⟩ d e.val) (tr++[(e.rd,e.aQ.map (·.1))])):aq P Y ops dr cf Q (⟨d,op,ty,pos,after,some (j,b)⟩::rest) ⟨env,m,nx⟩ tr:=by
 simp only[aq];refine .inl ?_;simp only[iW];rw[hj];simp only[Option.bind_some];rw[hg,he.nc,he.ny,he.ok];simp only;split
 .rename_i h;simp only[bf,List.isEmpty_iff,beq_iff_eq] at h;exact⟨fun _=>⟨oQ ha,hp⟩,K h.1 h.2⟩
 .exact⟨fun _=>⟨oQ ha,hp,K'⟩,oS⟩
theorem Tf{j:Nat}{b:Bool}{u:Nat}{d:Option Nat}(hj:(ops[j]?).bind (·.dst)=some u)(hg:jR (env u) b=some false)
 (K:∀ (x:D) rd,aq P Y ops dr cf Q rest (St.put ⟨env,m,nx⟩ d (.cn false x)) (tr++[(rd,[])])):aq P Y ops dr cf Q (⟨d,op,ty,pos,after,some (j,b)⟩::rest) ⟨env,m,nx⟩ tr:=by
 simp only[aq];refine .inl ?_;simp only[iW];rw[hj];simp only[Option.bind_some];rw[hg];simp only;split
 .exact .inr ⟨oS,fun _=>K .u []⟩
 .split
  .exact⟨oS,fun _=>K .u []⟩
  .split
   .split
    .exact⟨oS,K _ _⟩
    .exact⟨oS,fun _=>K .u []⟩
   .exact⟨trivial,K .u []⟩
theorem jf{j:Nat}{b:Bool}{u t:Nat}(hj:(ops[j]?).bind (·.dst)=some u)(hg:jR (env u) b=some false)
 (K:∀ (x:D) rd,aq P Y ops dr cf Q rest ⟨up env t (.cn false x),m,nx⟩ (tr++[(rd,[])])):aq P Y ops dr cf Q (⟨some t,op,ty,pos,after,some (j,b)⟩::rest) ⟨env,m,nx⟩ tr:=Tf hj hg K
theorem Fy{f:FuncId}{args:List D}{d:Option Nat}(hc:dJ (aX env op) op=some (f,args))(ha:fK env op.operands.toList)(h:r8 P dr ⟨env,m,nx⟩ f args fun r m nx rd wr=>aq P Y ops dr cf Q rest (St.put ⟨env,m,nx⟩ d r) (tr++[(rd,wr)])):
 aq P Y ops dr cf Q (⟨d,op,ty,pos,after,none⟩::rest) ⟨env,m,nx⟩ tr:=by
 simp only[aq];refine .inl ?_;simp only[iW];rw[hc];exact⟨oQ ha,h⟩
theorem qX{f:FuncId}{args:List D}{r:D}(h:aA P f args r)(hc:dJ (aX env op) op=some (f,args))(ha:fK env op.operands.toList)(K:aq P Y ops dr cf Q rest ⟨up env t r,m,nx⟩ (tr++[([],[])])):
 aq P Y ops dr cf Q (⟨some t,op,ty,pos,after,none⟩::rest) ⟨env,m,nx⟩ tr:=Fy hc ha (.inl ⟨r,h,K⟩)
theorem K4{f:FuncId}{args es:List D}{n:Nat}{C:TypeId}(h:ko P f args es n C)(hc:dJ (aX env op) op=some (f,args))(ha:fK env op.operands.toList)(K:aq P Y ops dr cf Q rest ⟨up env t (.rs nx 0 n),up m nx (some (.cells es C)),nx+1⟩ (tr++[([],[nx])])):
 aq P Y ops dr cf Q (⟨some t,op,ty,pos,after,none⟩::rest) ⟨env,m,nx⟩ tr:=Fy hc ha (.inr (.inr (.inl ⟨es,n,C,h,K⟩)))
theorem gm{f:FuncId}{args:List D}{d:Option Nat}{dX:D->Mem->Nat->Prop}(h:fD P f args m nx dX)(hc:dJ (aX env op) op=some (f,args))(ha:fK env op.operands.toList)
 (K:∀ r m' C,dX r m' C->aq P Y ops false cf Q rest (St.put ⟨env,m',C⟩ d r) (tr++[([],[])])):
 aq P Y ops false cf Q (⟨d,op,ty,pos,after,none⟩::rest) ⟨env,m,nx⟩ tr:=Fy hc ha (.inr (.inr (.inr (.inl ⟨rfl,h.mono K⟩))))
theorem Tg{f:FuncId}{args C:List D}{r:D}{rds:List Nat}(h:aA P f C r)(hs:r.gp=true)(J:jn P rds m args C)(hc:dJ (aX env op) op=some (f,args))(ha:fK env op.operands.toList)
 (K:aq P Y ops dr cf Q rest ⟨up env t r,m,nx⟩ (tr++[(rds,[])])):aq P Y ops dr cf Q (⟨some t,op,ty,pos,after,none⟩::rest) ⟨env,m,nx⟩ tr:=Fy hc ha (.inr (.inl ⟨C,rds,r,J,h,hs,K⟩))
theorem tS{j:Nat}{b c:Bool}{u:Nat}{f:FuncId}{args:List D}{r:D}(hj:(ops[j]?).bind (·.dst)=some u)(hg:jR (env u) b=some c)(hc:dJ (aX env op) op=some (f,args))(h:c=true->fK env op.operands.toList/\aA P f args r)
 (K:aq P Y ops dr cf Q rest ⟨up env t (.cn c r),m,nx⟩ (tr++[([],[])])):aq P Y ops dr cf Q (⟨some t,op,ty,pos,after,some (j,b)⟩::rest) ⟨env,m,nx⟩ tr:=by
 simp only[aq];refine .inl ?_;simp only[iW];rw[hj];simp only[Option.bind_some];rw[hg,hc];exact .inl ⟨r,fun C=>⟨oQ (h C).1,(h C).2⟩,K⟩
theorem aaJ{j:Nat}{b:Bool}{u:Nat}{d:Option Nat}{f:FuncId}{args:List D}(hj:(ops[j]?).bind (·.dst)=some u)(hg:jR (env u) b=some true)(hc:dJ (aX env op) op=some (f,args))(ha:fK env op.operands.toList)
 (h:r8 P dr ⟨env,m,nx⟩ f args fun r m nx rd wr=>aq P Y ops dr cf Q rest (St.put ⟨env,m,nx⟩ d r) (tr++[(rd,wr)])):aq P Y ops dr cf Q (⟨d,op,ty,pos,after,some (j,b)⟩::rest) ⟨env,m,nx⟩ tr:=by
 simp only[aq];refine .inl ?_;simp only[iW];rw[hj];simp only[Option.bind_some];rw[hg,hc];exact .inr ⟨fun _=>⟨oQ ha,h⟩,oS⟩
theorem LO{l:Nat}{args:List D}{d:Option Nat}(hc:dJ (aX env op) op=none)(hy:kW (aX env op) op=some (l,args))(ha:fK env op.operands.toList)(h:Y l args m nx fun r m' C=>aq P Y ops false cf Q rest (St.put ⟨env,m',C⟩ d r) (tr++[([],[])])):
 aq P Y ops false cf Q (⟨d,op,ty,pos,after,none⟩::rest) ⟨env,m,nx⟩ tr:=by
 simp only[aq];refine .inl ?_;simp only[iW];rw[hc,hy];exact⟨oQ ha,trivial,h⟩
theorem K5{j:Nat}{b:Bool}{u:Nat}{l:Nat}{args:List D}{d:Option Nat}(hj:(ops[j]?).bind (·.dst)=some u)(hg:jR (env u) b=some true)(hc:dJ (aX env op) op=none)(hy:kW (aX env op) op=some (l,args))(ha:fK env op.operands.toList)
 (h:Y l args m nx fun r m' C=>aq P Y ops false cf Q rest (St.put ⟨env,m',C⟩ d r) (tr++[([],[])])):aq P Y ops false cf Q (⟨d,op,ty,pos,after,some (j,b)⟩::rest) ⟨env,m,nx⟩ tr:=by
 simp only[aq];refine .inl ?_;simp only[iW];rw[hj];simp only[Option.bind_some];rw[hg,hc,hy];exact⟨fun _=>⟨oQ ha,trivial,h⟩,oS⟩
def eP(K:St->Prop):Exit->St->Prop
 | .normal,st=>K st
 |_,_=>True
theorem aa{K:St->Prop}{st:St}(h:K st):aq P Y ops dr [] (eP K) [] st tr:=⟨oS,h⟩
theorem ct{K:St->Prop}{st:St}(hc:∀ q∈cf,pE tr q.1 q.2)(h:K st):aq P Y ops dr cf (eP K) [] st tr:=⟨hc,h⟩
variable{st:St}{a b c:Code}
theorem aq.iQ{cf:List (Nat×Nat)}{K:St->Prop}{Q:Exit->St->Prop}[dD Y]{l:List Oper}(h:aq P Y ops dr cf (eP K) l st tr)(hk:∀ st,K st->Q .normal st):aq P Y ops dr cf Q l st tr:=
 aq.mono (Q:=eP K) (fun st h=>hk st h) l st tr h
theorem jP[dD Y]{id:Nat}(h:aq P Y ops false [] (eP fun st=>Q .normal st) ops.toList st []):AW P Y rf (.region id ops false) Q st:=aq.iQ h fun _ h=>h
theorem An[dD Y]{id:Nat}(hi:bT ops=some cf)(h:aq P Y ops true cf (eP fun st=>Q .normal st) ops.toList st []):AW P Y rf (.region id ops true) Q st:=by
 show match bT ops with
  |some cf=>CE P Y ops cf Q st
  |none=>False
 rw[hi];exact .inl (aq.iQ h fun _ h=>h)
theorem JZ[dD Y]{id:Nat}(hi:bT ops=some cf)(hl:CZ ops=true)(h:aq P cZ ops true cf (eP fun st=>aq P cZ ops false [] (eP fun st=>Q .normal st) (ops.toList.drop (ops.size - 1)) st []) (ops.toList.take (ops.size - 1)) st []):AW P Y rf (.region id ops true) Q st:=by
 show match bT ops with
  |some cf=>CE P Y ops cf Q st
  |none=>False
 rw[hi];exact .inr ⟨hl,aq.iQ h fun _ h=>⟨rfl,aq.iQ h fun _ h=>h⟩⟩
theorem WR[dD Y]{id:Nat}(hi:bT ops=some cf)(hl:CZ ops=true)(h:aq P cZ ops true cf (eP fun st=>aq P cZ ops false [] (eP fun st=>∃ st',aI P st st'/\AW P Y rf b Q st') (ops.toList.drop (ops.size - 1)) st []) (ops.toList.take (ops.size - 1)) st []):AW P Y rf (.seq (.region id ops true) b) Q st:=
 JZ (rf:=rf) (id:=id) hi hl (aq.iQ h fun _ h=>aq.iQ h fun st h=>h)
theorem aj[dD Y]{id:Nat}(h:aq P Y ops false [] (eP fun st=>AW P Y rf b Q st) ops.toList st []):AW P Y rf (.seq (.region id ops false) b) Q st:=
 jP (rf:=rf) (id:=id) (aq.iQ h fun st h=>⟨st,.refl st,h⟩)
theorem ep[dD Y]{id:Nat}(hi:bT ops=some cf)(h:aq P Y ops true cf (eP fun st=>AW P Y rf b Q st) ops.toList st []):AW P Y rf (.seq (.region id ops true) b) Q st:=
 An (rf:=rf) (id:=id) hi (aq.iQ h fun st h=>⟨st,.refl st,h⟩)
theorem bG{st':St}(hg:aI P st st')(h:AW P Y rf b Q st'):∃ C,aI P st C/\AW P Y rf b Q C:=⟨st',hg,h⟩
theorem aw[dD Y]{id:Nat}(h:aq P Y ops false [] (eP fun st=>∃ st',aI P st st'/\AW P Y rf b Q st') ops.toList st []):AW P Y rf (.seq (.region id ops false) b) Q st:=
 jP (rf:=rf) (id:=id) (aq.iQ h fun _ h=>h)
theorem BR[dD Y]{id:Nat}(hi:bT ops=some cf)(h:aq P Y ops true cf (eP fun st=>∃ st',aI P st st'/\AW P Y rf b Q st') ops.toList st []):AW P Y rf (.seq (.region id ops true) b) Q st:=
 An (rf:=rf) (id:=id) hi (aq.iQ h fun _ h=>h)
theorem S7[dD Y](J:St->Prop)(h:AW P Y rf a (fJ J Q) st)(k:∀ st,J st->AW P Y rf b Q st):AW P Y rf (.seq a b) Q st:=
 tF a (fun e st h=>by
  cases e with
  |normal=>exact⟨st,.refl st,k st h⟩
  |_=>exact h) h
theorem iL[dD Y](J:St->Prop)(h:AW P Y rf a (fJ J Q) st)(k:∀ st,J st->∃ st',aI P st st'/\AW P Y rf b Q st'):AW P Y rf (.seq a b) Q st:=
 tF a (fun e st h=>by
  cases e with
  |normal=>exact k st h
  |_=>exact h) h
theorem cI[dD Y](h:AW P Y rf b Q st):AW P Y rf (.seq .skip b) Q st:=⟨st,.refl st,h⟩
theorem ed(h:Q .ret st):AW P Y rf (.seq .ret b) Q st:=h
theorem tm{id:Nat}(h:Q (.exit id) st):AW P Y rf (.seq (.exit id) b) Q st:=h
theorem Xq{l:Nat}(h:AW P Y rf b Q st):AW P Y rf (.seq (.label l) b) Q st:=⟨st,.refl st,h⟩
theorem aB[dD Y](h:AW P Y rf (.seq a (.seq b c)) Q st):AW P Y rf (.seq (.seq a b) c) Q st:=by
 refine tF a (fun e st h=>?_) h;cases e with
 |normal=>
  obtain⟨st',hg,h⟩:=h;refine⟨st',hg,tF b (fun e st h=>?_) h⟩;cases e<;>exact h
 |_=>exact h
theorem aO{c:Operand}{x y:Code}{g:Bool}(hc:opd st.env c=.s (.bool g))(ht:g=true->AW P Y rf x Q st)(hf:g=false->AW P Y rf y Q st):AW P Y rf (.cond c x y) Q st:=by
 rw[Rw];rw[hc];exact⟨trivial,ht,hf⟩
theorem cR{c:Operand}{x y:Code}{g:Bool}(hc:opd st.env c=.s (.bool g))(ht:g=true->AW P Y rf (.seq x b) Q st)(hf:g=false->AW P Y rf (.seq y b) Q st):AW P Y rf (.seq (.cond c x y) b) Q st:=aO hc ht hf
theorem RM{c:Operand}{x y:Code}(hc:opd st.env c=.ub)(ht:AW P Y rf x Q st)(hf:AW P Y rf y Q st):AW P Y rf (.cond c x y) Q st:=by
 rw[Rw];rw[hc];exact⟨trivial,ht,hf⟩
theorem pA{id:Nat}(h:AW P Y rf b (fq id Q) st):AW P Y rf (.block id b) Q st:=h
theorem ab7[dD Y]{α:Type}(S:α->St)(J:α->Prop)(μ:α->Nat)(U:α)(h0:st=S U)(hJ:J U)(h:∀ x,J x->AW P Y rf b (fJ (fun st'=>∃ M C,aI P st' M/\M=S C/\J C/\μ C<μ x) Q) (S x)):AW P Y rf (.loop b) Q st:=by
 refine Qu (fun j st=>∃ x,st=S x/\J x/\μ x=j) (j₀:=μ U) ⟨U,h0,hJ,rfl⟩ ?_;rintro j st ⟨x,rfl,hx,rfl⟩;refine tF b (fun e st' hq=>?_) (h x hx);cases e with
 |normal=>
  obtain⟨M,C,h1,h2,X,h4⟩:=hq;exact⟨M,h1,μ C,h4,C,h2,X,rfl⟩
 |_=>exact hq
end
theorem K6{P:Program}{Y:ea}{rf:Bool}{Q:Exit->St->Prop}{st:St}{c:Operand}{x y:Code}(K:AW P Y rf y Q st)(h:opd st.env c=.s (.bool false):=by exact rfl):AW P Y rf (.cond c x y) Q st:=aO h (fun h=>by cases h) fun _=>K
theorem Th{P:Program}{Y:ea}{rf:Bool}{Q:Exit->St->Prop}{st:St}{c:Operand}{x y:Code}(K:AW P Y rf x Q st)(h:opd st.env c=.s (.bool true):=by exact rfl):AW P Y rf (.cond c x y) Q st:=aO h (fun _=>K) fun h=>by cases h
theorem uc{P:Program}{Y:ea}{rf:Bool}{Q:Exit->St->Prop}{st:St}{c:Operand}{x y b:Code}(K:AW P Y rf (.seq y b) Q st)(h:opd st.env c=.s (.bool false):=by exact rfl):AW P Y rf (.seq (.cond c x y) b) Q st:=aO h (fun h=>by cases h) fun _=>K
theorem xZ{P:Program}{Y:ea}{rf:Bool}{Q:Exit->St->Prop}{st:St}{c:Operand}{x y b:Code}(K:AW P Y rf (.seq x b) Q st)(h:opd st.env c=.s (.bool true):=by exact rfl):AW P Y rf (.seq (.cond c x y) b) Q st:=aO h (fun _=>K) fun h=>by cases h
section
variable{P:Program}{env:Env}{m:Mem}{nx:Nat}{t:TypeId}{x y a:Operand}{d v:D}{k:IntKind}{n n':Int}{p q:TypeId}
theorem cV(hx:(opd env x).core=v):Ef P (.move x) env m nx ⟨True,v,[],[],0⟩:=⟨by simp only[ba,aX,hx],rfl,rfl⟩
theorem jx(hx:(opd env x).core=v):Ef P (.assign x) env m nx ⟨True,v,[],[],0⟩:=⟨by simp only[ba,aX,hx],rfl,rfl⟩
theorem ac'(op:BinOp)(v:Value)(y:Operand):mG P m op t (.s v) y=none:=by
 unfold mG;split<;>first|rfl|(rename_i h;cases h)
theorem ada{op:BinOp}{v w:Value}(h:∀ a b,v=.bool a->w=.bool b->False):vW P op t (.s v) (.s w)=(q9 op v w).map fun r=>(r.1,.s r.2):=by
 cases v<;>cases w<;>first|rfl|exact(h _ _ rfl rfl).elim
theorem lO{op:BinOp}{v w u:Value}{pre:Prop}(hx:(opd env x).core=.s v)(hy:(opd env y).core=.s w)(hn:∀ a b,v=.bool a->w=.bool b->False)(hb:q9 op v w=some (pre,u)):Ef P (.binOp op t x y p) env m nx ⟨pre,.s u,[],[],0⟩:=
 ⟨by simp only[ba,aX,hx,hy,ac',ada hn,hb,Option.map_some],rfl,rfl⟩
section ints
variable(hx:(opd env x).core=.s (.int k n))(hy:(opd env y).core=.s (.int k n'))
include hx hy
theorem GL:Ef P (.binOp .lss t x y p) env m nx ⟨k=k,.s (.bool (decide (n<n'))),[],[],0⟩:=lO hx hy oS rfl
theorem C0:Ef P (.binOp .leq t x y p) env m nx ⟨k=k,.s (.bool (decide (n<=n'))),[],[],0⟩:=lO hx hy oS rfl
theorem GM:Ef P (.binOp .gtr t x y p) env m nx ⟨k=k,.s (.bool (decide (n'<n))),[],[],0⟩:=lO hx hy oS rfl
theorem C':Ef P (.binOp .geq t x y p) env m nx ⟨k=k,.s (.bool (decide (n'<=n))),[],[],0⟩:=lO hx hy oS rfl
theorem GN:Ef P (.binOp .eql t x y p) env m nx ⟨k=k,.s (.bool (n==n')),[],[],0⟩:=lO hx hy oS rfl
theorem KT:Ef P (.binOp .neq t x y p) env m nx ⟨k=k,.s (.bool (n !=n')),[],[],0⟩:=lO hx hy oS rfl
theorem adb:Ef P (.binOp .add t x y p) env m nx ⟨k=k,.s (.int k (k.wrap (n+n'))),[],[],0⟩:=lO hx hy oS rfl
theorem ade:Ef P (.binOp .sub t x y p) env m nx ⟨k=k,.s (.int k (k.wrap (n - n'))),[],[],0⟩:=lO hx hy oS rfl
theorem adf:Ef P (.binOp .quo t x y p) env m nx ⟨k=k/\n'≠0,.s (.int k (k.wrap (n.tdiv n'))),[],[],0⟩:=lO hx hy oS rfl
theorem ad2:Ef P (.binOp .rem t x y p) env m nx ⟨k=k/\n'≠0,.s (.int k (n.tmod n')),[],[],0⟩:=lO hx hy oS rfl
theorem S0:Ef P (.binOp .and t x y p) env m nx ⟨k=k,.s (.int k (lA .and k n n')),[],[],0⟩:=lO hx hy oS rfl
theorem aha:Ef P (.binOp .or t x y p) env m nx ⟨k=k,.s (.int k (lA .or k n n')),[],[],0⟩:=lO hx hy oS rfl
end ints
theorem ad3{k':IntKind}(hx:(opd env x).core=.s (.int k n))(hy:(opd env y).core=.s (.int k' n')):Ef P (.binOp .shl t x y p) env m nx ⟨0<=n',.s (.int k (k.wrap (n*2 ^ (min n'.toNat k.bits)))),[],[],0⟩:=lO hx hy oS rfl
theorem ad4{k':IntKind}(hx:(opd env x).core=.s (.int k n))(hy:(opd env y).core=.s (.int k' n')):Ef P (.binOp .shr t x y p) env m nx ⟨0<=n',.s (.int k (n.fdiv (2 ^ (min n'.toNat k.bits)))),[],[],0⟩:=lO hx hy oS rfl
theorem i64_in(n:Int)(h: -9223372036854775808<=n/\n<=9223372036854775807):IntKind.i64.wrap n=n:=Go.IntWalk.i64_in n h
theorem GO(hx:(opd env x).core=.s (.int .i64 n))(hy:(opd env y).core=.s (.int .i64 n'))(hb: -9223372036854775808<=n+n'/\n+n'<=9223372036854775807):Ef P (.binOp .add t x y p) env m nx ⟨IntKind.i64=IntKind.i64,.s (.int .i64 (n+n')),[],[],0⟩:=by
 have:=adb (P:=P) (m:=m) (nx:=nx) (t:=t) (p:=p) hx hy
 rwa[i64_in _ hb] at this
theorem KU(hx:(opd env x).core=.s (.int .i64 n))(hy:(opd env y).core=.s (.int .i64 n'))(hb: -9223372036854775808<=n - n'/\n - n'<=9223372036854775807):Ef P (.binOp .sub t x y p) env m nx ⟨IntKind.i64=IntKind.i64,.s (.int .i64 (n - n')),[],[],0⟩:=by
 have:=ade (P:=P) (m:=m) (nx:=nx) (t:=t) (p:=p) hx hy
 rwa[i64_in _ hb] at this
section strings
variable{s s':ByteArray}(hx:(opd env x).core=.s (.string s))(hy:(opd env y).core=.s (.string s'))
include hx hy
theorem Kn:Ef P (.binOp .eql t x y p) env m nx ⟨True,.s (.bool (s.toList==s'.toList)),[],[],0⟩:=lO hx hy oS rfl
theorem adg:Ef P (.binOp .neq t x y p) env m nx ⟨True,.s (.bool !(s.toList==s'.toList)),[],[],0⟩:=lO hx hy oS rfl
theorem Si:Ef P (.binOp .geq t x y p) env m nx ⟨True,.s (.bool !(Op.bytesLess s.toList s'.toList)),[],[],0⟩:=lO hx hy oS rfl
end strings
theorem S3{b:Bool}(hx:(opd env x).core=.s (.bool b)):Ef P (.unOp .not t x) env m nx ⟨True,.s (.bool !b),[],[],0⟩:=⟨by simp only[ba,aX,hx,yU,Option.map_some],rfl,rfl⟩
theorem Fs{z:List D}(hz:a6 P t=z):Ef P (.alloc t) env m nx ⟨aH P t=true,.rp nx 0,[(nx,some (.cells z t))],[],1⟩:=⟨by simp only[ba,hz],rfl,rfl⟩
theorem S4{cs:List D}(hx:(opd env x).core=d)(hc:d.cells=cs):Ef P (.box t x) env m nx ⟨cs.all D.one=true,.rp nx 0,[(nx,some (.cells cs t))],[],1⟩:=⟨by simp only[ba,aX,hx,hc],rfl,rfl⟩
theorem Gc(hx:(opd env x).core=d)(hc:d.cells=[d]):Ef P (.box t x) env m nx ⟨[d].all D.one=true,.rp nx 0,[(nx,some (.cells [d] t))],[],1⟩:=S4 hx hc
theorem r9{cs:List D}(hx:(opd env x).core=.agg cs):Ef P (.box t x) env m nx ⟨cs.all D.one=true,.rp nx 0,[(nx,some (.cells cs t))],[],1⟩:=S4 hx rfl
theorem Sj{cs:List D}(hx:(opd env x).core=.pt (v::cs))(ha:bm P t=false):Ef P (.load t x) env m nx ⟨aH P t=true/\P.cellsOf t<=(v::cs).length,v,[],[],0⟩:=⟨by simp[ba,aX,hx,gF,ha],rfl,rfl⟩
theorem j6{cs vs:List D}{n:Nat}(hx:(opd env x).core=.pt cs)(ha:bm P t=true)(hc:P.cellsOf t=n)(hv:cs.take n=vs):Ef P (.load t x) env m nx ⟨aH P t=true/\P.cellsOf t<=cs.length,.agg vs,[],[],0⟩:=⟨by simp[ba,aX,hx,gF,ha,hc,hv],rfl,rfl⟩
theorem j7{i off:Nat}{cs cs':List D}{e:TypeId}(hx:(opd env x).core=.rp i off)(hm:m i=some (.cells cs e))(hd:cs.drop off=v::cs')(ha:bm P t=false):Ef P (.load t x) env m nx ⟨aH P t=true/\off+P.cellsOf t<=cs.length,v,[],[i],0⟩:=⟨by simp[ba,aX,hx,hm,gF,ha,hd],rfl,rfl⟩
theorem eL{i off:Nat}{cs vs:List D}{e:TypeId}{n:Nat}(hx:(opd env x).core=.rp i off)(hm:m i=some (.cells cs e))(ha:bm P t=true)(hc:P.cellsOf t=n)(hv:(cs.drop off).take n=vs):Ef P (.load t x) env m nx ⟨aH P t=true/\off+P.cellsOf t<=cs.length,.agg vs,[],[i],0⟩:=⟨by simp[ba,aX,hx,hm,gF,ha,hc,hv],rfl,rfl⟩
theorem Rq{i off:Nat}{cs cs' vs:List D}{e:TypeId}(hx:(opd env x).core=.rp i off)(hy:(opd env y).core=d)(hm:m i=some (.cells cs e))(hv:d.cells=vs)(hs:gC cs off vs=cs'):
 Ef P (.store t x y) env m nx ⟨aH P t=true/\vs.length=P.cellsOf t/\off+P.cellsOf t<=cs.length/\vs.all D.one=true,.aL [],[(i,some (.cells cs' e))],[i],0⟩:=⟨by simp only[ba,aX,hx,hy,hm,hv,hs],rfl,rfl⟩
theorem eg{i off:Nat}{cs cs':List D}{e:TypeId}(hx:(opd env x).core=.rp i off)(hy:(opd env y).core=d)(hm:m i=some (.cells cs e))(hv:d.cells=[d])(hs:cs.set off d=cs'):
 Ef P (.store t x y) env m nx ⟨aH P t=true/\[d].length=P.cellsOf t/\off+P.cellsOf t<=cs.length/\[d].all D.one=true,.aL [],[(i,some (.cells cs' e))],[i],0⟩:=Rq hx hy hm hv hs
theorem fk{i off:Nat}{cs cs' vs:List D}{e:TypeId}(hx:(opd env x).core=.rp i off)(hy:(opd env y).core=.agg vs)(hm:m i=some (.cells cs e))(hs:gC cs off vs=cs'):
 Ef P (.store t x y) env m nx ⟨aH P t=true/\vs.length=P.cellsOf t/\off+P.cellsOf t<=cs.length/\vs.all D.one=true,.aL [],[(i,some (.cells cs' e))],[i],0⟩:=Rq hx hy hm rfl hs
theorem Rr{cs:List D}{j off:Nat}{C:TypeId}(hx:(opd env x).core=.pt cs)(hf:bX P t j=some (off,C)):Ef P (.fieldAddr t x j) env m nx ⟨0<P.cellsOf C,.pt (cs.drop off),[],[],0⟩:=⟨by simp only[ba,aX,hx,hf],rfl,rfl⟩
theorem rN{i o:Nat}{j off:Nat}{C:TypeId}{r:Row}(hx:(opd env x).core=.rp i o)(hm:m i=some r)(hf:bX P t j=some (off,C)):Ef P (.fieldAddr t x j) env m nx ⟨0<P.cellsOf C,.rp i (o+off),[],[i],0⟩:=⟨by simp only[ba,aX,hx,hf,hm],rfl,rfl⟩
theorem Gd{i o:Nat}{r:Row}(hx:(opd env x).core=.rp i o)(hm:m i=some r):Ef P (.nilCheck x) env m nx ⟨True,.rp i o,[],[i],0⟩:=⟨by simp only[ba,aX,hx,hm],rfl,rfl⟩
theorem KV{es cs:List D}{l sz:Nat}{e:TypeId}(hx:(opd env x).core=.sl es l)(hy:(opd env y).core=.s (.int k n))(he:aD P t=e)(hs:P.cellsOf e=sz)(hd:es.drop (n.toNat*sz)=cs):
 Ef P (.indexAddr t x y) env m nx ⟨bi P t=true/\0<=n/\n<l/\(n.toNat+1)*sz<=es.length,.pt cs,[],[],0⟩:=⟨by simp only[ba,aX,hx,hy,he,hs,hd],rfl,rfl⟩
theorem Ge{j off l sz:Nat}{e:TypeId}{r:Row}(hx:(opd env x).core=.rs j off l)(hy:(opd env y).core=.s (.int k n))(hm:m j=some r)(he:aD P t=e)(hs:P.cellsOf e=sz):
 Ef P (.indexAddr t x y) env m nx ⟨bi P t=true/\0<=n/\n<l,.rp j (off+n.toNat*sz),[],[j],0⟩:=⟨by simp only[ba,aX,hx,hy,hm,he,hs],rfl,rfl⟩
theorem adh{j off sz l:Nat}{e:TypeId}{r:Row}(hx:(opd env x).core=.rp j off)(hy:(opd env y).core=.s (.int k n))(hm:m j=some r)(he:aD P t=e)(hs:P.cellsOf e=sz)(hl:oq P t=l):
 Ef P (.indexAddr t x y) env m nx ⟨nM P t=true/\0<=n/\n<l,.rp j (off+n.toNat*sz),[],[j],0⟩:=⟨by simp only[ba,aX,hx,hy,hm,he,hs,hl],rfl,rfl⟩
section builtins
theorem xW{b:Builtin}{ts:Array TypeId}{args:Array Operand}{aS:List D}{e:dw}(hs:ts.size=args.size)(ha:args.toList.map (fun x=>(opd env x).core)=aS)(hb:fB P m nx b ts aS=some e):Ef P (.call { callee:=.builtin b,args:=args,argTypes:=ts }) env m nx e:=
 ⟨by simp only[ba];rw[if_pos hs];simp only[aX];rw[ha,hb],rfl,rfl⟩
theorem Da{es:List D}{l:Nat}(hx:(opd env x).core=.sl es l):Ef P (.call { callee:=.builtin .len,args:= #[x],argTypes:= #[t] }) env m nx ⟨bi P t=true,.s (.int .i64 l),[],[],0⟩:=xW (aS:=[.sl es l]) rfl (by simp[hx]) rfl
theorem vw{i off l:Nat}{r:Row}(hx:(opd env x).core=.rs i off l)(hm:m i=some r):Ef P (.call { callee:=.builtin .len,args:= #[x],argTypes:= #[t] }) env m nx ⟨bi P t=true,.s (.int .i64 l),[],[i],0⟩:=xW (aS:=[.rs i off l]) rfl (by simp[hx]) (by simp[fB,nA,hm])
theorem Ko{b:ByteArray}(hx:(opd env x).core=.s (.string b)):Ef P (.call { callee:=.builtin .len,args:= #[x],argTypes:= #[t] }) env m nx ⟨fL P t=true,.s (.int .i64 b.size),[],[],0⟩:=xW (aS:=[.s (.string b)]) rfl (by simp[hx]) rfl
theorem ad5{k:IntKind}(hx:(opd env x).core=.s (.int k n))(hy:(opd env y).core=.s (.int k n')):Ef P (.call { callee:=.builtin .min,args:= #[x,y],argTypes:= #[t,t] }) env m nx ⟨k=k,.s (.int k (if n'<n then n' else n)),[],[],0⟩:=xW (aS:=[.s (.int k n),.s (.int k n')]) rfl (by simp[hx,hy]) rfl
structure Cells(m:Mem)(sz:Nat)(d:D)(p:Prop)(rd:List Nat)(k:Nat)(news:List D):Prop where
 ok:jv m sz d=some (p,rd,k,news)
theorem px{es news:List D}{k sz:Nat}(h:es.take (k*sz)=news):Cells m sz (.sl es k) (k*sz<=es.length) [] k news:=⟨by simp[jv,h]⟩
theorem j5{i off k sz:Nat}{cs news:List D}{e:TypeId}(hm:m i=some (.cells cs e))(h:(cs.drop off).take (k*sz)=news):Cells m sz (.rs i off k) (off+k*sz<=cs.length) [i] k news:=⟨by simp[jv,hm,h]⟩
theorem Ak{p:Prop}{rd:List Nat}{c sz:Nat}{news:List D}{e:TypeId}(hx:(opd env x).core=.z)(hy:(opd env y).core=d)(he:aD P t=e)(hs:P.cellsOf e=sz)(hc:Cells m sz d p rd c news):
 Ef P (.call { callee:=.builtin .append,args:= #[x,y],argTypes:= #[t,t] }) env m nx ⟨bi P t=true/\p/\0<sz/\c<=maxLen/\c*P.bytesOf e<=140737488355328,.rs nx 0 c,[(nx,some (.cells news e))],rd,1⟩:=by
 refine xW (aS:=[.z,d]) rfl (by simp[hx,hy]) ?_;simp only[fB];rw[if_pos oS];simp only[qN,Array.getD_eq_getD_getElem?,List.getElem?_toArray,List.getElem?_cons_zero,Option.getD_some,he,hs,hc.ok]
theorem iw{p:Prop}{rd:List Nat}{c sz i off l:Nat}{cs cs' news:List D}{e:TypeId}(hx:(opd env x).core=.rs i off l)(hm:m i=some (.cells cs e))(hy:(opd env y).core=d)(he:aD P t=e)(hs:P.cellsOf e=sz)(hc:Cells m sz d p rd c news)(hn:cs.drop off++news=cs'):
 Ef P (.call { callee:=.builtin .append,args:= #[x,y],argTypes:= #[t,t] }) env m nx ⟨bi P t=true/\e=e/\p/\0<sz/\off+l*sz=cs.length/\l+c<=maxLen/\(l+c)*P.bytesOf e<=140737488355328/\i∉rd,.rs nx 0 (l+c),[(i,none),(nx,some (.cells cs' e))],i::rd,1⟩:=by
 refine xW (aS:=[.rs i off l,d]) rfl (by simp[hx,hy]) ?_;simp only[fB];rw[if_pos oS];simp only[qN,Array.getD_eq_getD_getElem?,List.getElem?_toArray,List.getElem?_cons_zero,Option.getD_some,he,hs,hc.ok,hm,hn]
end builtins
theorem qD{cs cs':List D}{j:Nat}(hx:(opd env x).core=.aL cs)(hd:cs.drop j=v::cs'):Ef P (.extract x j) env m nx ⟨j<cs.length,v,[],[],0⟩:=by
 have h:cs[j]? =some v:=by
  have:(cs.drop j)[0]? =some v:=by rw[hd];rfl
  simpa using this
 exact⟨by simp[ba,aX,hx,h],rfl,rfl⟩
theorem ab0{ps:Array (Nat×Operand)}{fs:Array Field}{cs z:List D}{C:List (Nat×D)}(hu:P.underlying t=some (.struct fs))(hz:a6 P t=z)(hq:(ps.toList.map fun q=>(q.1,(opd env q.2).core))=C)
 (hf:gG (fun i=>(fs[i]?).map fun f=>(f.offset,P.cellsOf f.type)) z C=some cs):Ef P (.build t ps) env m nx ⟨aH P t=true/\fs.toList.all (fun f=>(P.info? f.type).isSome)=true,.agg cs,[],[],0⟩:=
 ⟨by simp only[ba,aX,hu,hz,hq,hf,Option.map_some],rfl,rfl⟩
theorem E5{ps:Array (Nat×Operand)}{fs:Array Field}{C:List (Nat×Nat)}{cs z:List D}{J:List (Nat×D)}(hu:P.underlying t=some (.struct fs))(hp:(fs.toList.map fun(f:Field)=>(f.offset,P.cellsOf f.type))=C)(hz:a6 P t=z)(hq:(ps.toList.map fun q=>(q.1,(opd env q.2).core))=J)
 (hf:gG (fun i=>C[i]?) z J=some cs):Ef P (.build t ps) env m nx ⟨aH P t=true/\fs.toList.all (fun f=>(P.info? f.type).isSome)=true,.agg cs,[],[],0⟩:=by
 refine ab0 hu hz hq ?_
 have:(fun(i:Nat)=>(fs[i]?).map fun(f:Field)=>(f.offset,P.cellsOf f.type))=fun(i:Nat)=>C[i]? :=by
  funext i;rw[<- hp];simp
 rw[this];exact hf
theorem tq{ps:Array (Nat×Operand)}{l sz:Nat}{e:TypeId}{cs z:List D}{C:List (Nat×D)}(he:aD P t=e)(hs:P.cellsOf e=sz)(hz:a6 P e=z)(hq:(ps.toList.map fun q=>(q.1,(opd env q.2).core))=C)
 (hf:gG (fun i=>some (i*sz,sz)) (dC l z) C=some cs):Ef P (.buildSlice t l ps) env m nx ⟨cs.all D.one=true/\l*sz<=2 ^ 24/\bi P t=true/\l<=maxLen,.rs nx 0 l,[(nx,some (.cells cs e))],[],1⟩:=
 ⟨by simp only[ba,aX,he,hs,hz,hq,hf,Option.map_some],rfl,rfl⟩
theorem Kp{f:Fn}{fs cs:Array Operand}{J C:List D}(hf:fs.toList.map (fun x=>(opd env x).core)=J)(hc:cs.toList.map (fun x=>(opd env x).core)=C):Ef P (.makeFunc f fs cs) env m nx ⟨True,.fn f J C,[],[],0⟩:=⟨by simp only[ba,aX,hf,hc],rfl,rfl⟩
theorem ad6:Ef P (.makeMap t none) env m nx ⟨True,.mp nx,[(nx,some (.map []))],[],1⟩:=⟨by simp only[ba],rfl,rfl⟩
theorem Ce{e:TypeId}{z:List D}(hx:(opd env x).core=.s (.int .i64 n))(hy:(opd env y).core=.s (.int .i64 n'))(he:aD P t=e)(hz:a6 P e=z):
 Ef P (.makeSlice t x y) env m nx ⟨0<=n/\n=n'/\n<=9223372036854775807/\P.bytesOf e*n<=281474976710656/\bi P t=true,.rs nx 0 n.toNat,[(nx,some (.cells (dC n.toNat z) e))],[],1⟩:=⟨by simp only[ba,aX,hx,hy,he,hz],rfl,rfl⟩
theorem adi{src:TypeId}{k':IntKind}(hx:(opd env x).core=.s (.int k n))(hu:P.underlying t=some (.int k')):Ef P (.convert src t x) env m nx ⟨aH P src=true,.s (.int k' (k'.wrap n)),[],[],0⟩:=⟨by simp only[ba,aX,hx,hu],rfl,rfl⟩
theorem ab1{src e:TypeId}{b:ByteArray}(hx:(opd env x).core=.s (.string b))(hu:P.underlying t=some (.slice e))(he:P.underlying e=some (.int .u8)):
 Ef P (.convert src t x) env m nx ⟨fL P src=true/\b.size<=maxLen,.sl (b.data.toList.map fun c=>.s (.int .u8 c.toNat)) b.size,[],[],0⟩:=⟨by simp only[ba,aX,hx,hu,he],rfl,rfl⟩
def qH(b:ByteArray):List Int:=b.data.toList.map fun c=>(c.toNat:Int)
theorem Ws(b:ByteArray):(qH b).length=b.size:=by unfold qH;rw[List.length_map];rfl
theorem Ql{src e:TypeId}{b:ByteArray}(hx:(opd env x).core=.s (.string b))(hu:P.underlying t=some (.slice e))(he:P.underlying e=some (.int .u8)):
 Ef P (.convert src t x) env m nx ⟨fL P src=true/\b.size<=maxLen,.sl ((qH b).map fun n=>.s (.int .u8 n)) (qH b).length,[],[],0⟩:=by
 have:=ab1 (P:=P) (env:=env) (m:=m) (nx:=nx) (t:=t) (src:=src) hx hu he;have h:(qH b).map (fun n=>D.s (.int .u8 n))=b.data.toList.map (fun c=>D.s (.int .u8 c.toNat)):=by rw[qH,List.map_map];rfl
 rw[Ws,h];exact this
theorem JM{es es':List D}{l:Nat}{lo hi:Option Operand}{a b:Int}{e:TypeId}{sz:Nat}(hx:(opd env x).core=.sl es l)(he:aD P t=e)(hs:P.cellsOf e=sz)
 (ha:dW (lo.map fun x=>(opd env x).core) 0=some a) (hb:dW (hi.map fun x=>(opd env x).core) l=some b) (hd:(es.drop (a.toNat*sz)).take ((b - a).toNat*sz)=es'):
 Ef P (.slice t x lo hi none) env m nx ⟨bi P t=true/\0<=a/\a<=b/\b<=l,.sl es' (b - a).toNat,[],[],0⟩:=by
 refine⟨?_,rfl,rfl⟩;show mv P m t (opd env x).core (lo.map fun x=>(opd env x).core) (hi.map fun x=>(opd env x).core) (Option.map (fun x=>(opd env x).core) none)=_;rw[hx];simp only[mv,Option.map_none,ha,hb,he,hs,hd]
theorem E6{i off l:Nat}{cs:List D}{lo hi:Option Operand}{a b:Int}{e:TypeId}{sz:Nat}(hx:(opd env x).core=.rs i off l)(hm:m i=some (.cells cs e))(he:aD P t=e)(hs:P.cellsOf e=sz)
 (ha:dW (lo.map fun x=>(opd env x).core) 0=some a) (hb:dW (hi.map fun x=>(opd env x).core) l=some b):
 Ef P (.slice t x lo hi none) env m nx ⟨(bi P t=true/\sz=sz)/\0<=a/\a<=b/\b<=l,.rs i (off+a.toNat*sz) (b - a).toNat,[],[i],0⟩:=by
 refine⟨?_,rfl,rfl⟩;show mv P m t (opd env x).core (lo.map fun x=>(opd env x).core) (hi.map fun x=>(opd env x).core) (Option.map (fun x=>(opd env x).core) none)=_;rw[hx];simp only[mv,hm,Option.map_none,ha,hb,he,hs]
theorem E7{i:Nat}{es:List (Value×D)}{key:Value}{ok:Bool}{kt:TypeId}(hx:(opd env x).core=.mp i)(hm:m i=some (.map es))(hk:pY (opd env y).core=some key)(ht:ez P t=kt)(hg:fv P t ok (cN key es)=v):
 Ef P (.lookup t x y ok) env m nx ⟨fI P t=true/\cC P kt key=true/\es.all (fun e=>cC P kt e.1)=true,v,[],[i],0⟩:=by
 refine⟨?_,rfl,rfl⟩;show nZ P m t (opd env x).core (opd env y).core ok=_;simp only[nZ,hk,hx,hm,ht,hg]
theorem zM{es:List (Value×D)}{key:Value}{ok:Bool}{kt:TypeId}(hx:(opd env x).core=.im es)(hk:pY (opd env y).core=some key)(ht:ez P t=kt)(hg:fv P t ok (cN key es)=v):
 Ef P (.lookup t x y ok) env m nx ⟨fI P t=true/\cC P kt key=true/\es.all (fun e=>cC P kt e.1)=true,v,[],[],0⟩:=by
 refine⟨?_,rfl,rfl⟩;show nZ P m t (opd env x).core (opd env y).core ok=_;simp only[nZ,hk,hx,ht,hg]
theorem xC{i:Nat}{es:List (Value×D)}{key:Value}{z:Operand}{kt:TypeId}(hx:(opd env x).core=.mp i)(hm:m i=some (.map es))(hk:pY (opd env y).core=some key)(hz:(opd env z).core=v)(ht:ez P t=kt):
 Ef P (.mapUpdate t x y z) env m nx ⟨fI P t=true/\cC P kt key=true/\es.all (fun e=>cC P kt e.1)=true,.aL [],[(i,some (.map (fV key v es)))],[i],0⟩:=by
 refine⟨?_,rfl,rfl⟩;show na P m t (opd env x).core (opd env y).core (opd env z).core=_;simp only[na,hk,hx,hm,ht,hz]
end
theorem mY{α:Type}{f:α->D}:∀ {l:List α} {k:Nat} {x:α},l[k]? =some x->(l.map f).drop k=f x::(l.drop (k+1)).map f
 |[],k,x,h=>by simp at h
 |a::l,0,x,h=>by simp at h;subst h;rfl
 |a::l,k+1,x,h=>by simpa using mY (f:=f) (l:=l) (k:=k) (by simpa using h)
theorem IQ{α:Type}{f:α->List D}{sz:Nat}(hs:∀ x,(f x).length=sz):∀ {l:List α} {k:Nat} {x:α},l[k]? =some x->(l.flatMap f).drop (k*sz)=f x++(l.drop (k+1)).flatMap f
 |[],k,x,h=>by simp at h
 |a::l,0,x,h=>by simp at h;subst h;simp
 |a::l,k+1,x,h=>by
  have h1:(k+1)*sz=(f a).length+k*sz:=by rw[hs];rw[Nat.add_mul];omega
  simp only[List.flatMap_cons,h1,List.drop_append,List.drop_succ_cons];rw[List.drop_of_length_le oG];have:(f a).length+k*sz - (f a).length=k*sz:=by omega
  rw[this];simpa using IQ hs (l:=l) (k:=k) (by simpa using h)
theorem tg{α:Type}{f:α->List D}{sz:Nat}(hs:∀ x,(f x).length=sz):∀ (l:List α),(l.flatMap f).length=l.length*sz
 |[]=>by simp
 |a::l=>by simp only[List.flatMap_cons,List.length_append,hs,tg hs l,List.length_cons,Nat.add_mul];omega
section
variable{P:Program}{env:Env}{m:Mem}{nx:Nat}{t e:TypeId}{x y:Operand}{k:IntKind}
theorem Gf{α:Type}{f:α->D}{l:List α}{i n:Nat}{z:α}(hx:(opd env x).core=.sl (l.map f) n)(hy:(opd env y).core=.s (.int k i))(he:aD P t=e)(hs:P.cellsOf e=1)(hz:l[i]? =some z):
 Ef P (.indexAddr t x y) env m nx ⟨bi P t=true/\0<=(i:Int)/\(i:Int)<n/\((i:Int).toNat+1)*1<=(l.map f).length,.pt (f z::(l.drop (i+1)).map f),[],[],0⟩:=
 KV hx hy he hs (by rw[kK,Nat.mul_one];exact mY hz)
theorem Sk{α:Type}{f:α->D}{l:List α}{i:Nat}{z:α}(ht:bi P t=true)(hz:l[i]? =some z):bi P t=true/\0<=(i:Int)/\(i:Int)<l.length/\((i:Int).toNat+1)*1<=(l.map f).length:=by
 have:=(bK.1 hz).1;exact⟨ht,oG,oG,by simp;omega⟩
theorem sd{α:Type}{f:α->List D}{sz:Nat}{l:List α}{i n:Nat}{z:α}(hx:(opd env x).core=.sl (l.flatMap f) n)(hy:(opd env y).core=.s (.int k i))(he:aD P t=e)(hs:P.cellsOf e=sz)(hl:∀ x,(f x).length=sz)(hz:l[i]? =some z):
 Ef P (.indexAddr t x y) env m nx ⟨bi P t=true/\0<=(i:Int)/\(i:Int)<n/\((i:Int).toNat+1)*sz<=(l.flatMap f).length,.pt (f z++(l.drop (i+1)).flatMap f),[],[],0⟩:=
 KV hx hy he hs (by rw[kK];exact IQ hl hz)
theorem se{α:Type}{f:α->List D}{sz:Nat}{l:List α}{i:Nat}{z:α}(ht:bi P t=true)(hl:∀ x,(f x).length=sz)(hz:l[i]? =some z):bi P t=true/\0<=(i:Int)/\(i:Int)<l.length/\((i:Int).toNat+1)*sz<=(l.flatMap f).length:=by
 have:=(bK.1 hz).1;refine⟨ht,oG,oG,?_⟩;rw[tg hl,kK];exact Nat.mul_le_mul_right _ this
theorem Sl{v:D}{cs:List D}(ht:aH P t=true)(hc:P.cellsOf t=1):aH P t=true/\P.cellsOf t<=(v::cs).length:=⟨ht,by rw[hc];simp⟩
theorem j8{v:D}{cs cs':List D}{off:Nat}(ht:aH P t=true)(hc:P.cellsOf t=1)(hd:cs.drop off=v::cs'):aH P t=true/\off+P.cellsOf t<=cs.length:=by
 refine⟨ht,?_⟩;have:(cs.drop off).length=cs'.length+1:=by rw[hd];rfl
 rw[List.length_drop] at this;omega
theorem j9{n:Nat}{cs:List D}(ht:aH P t=true)(hc:P.cellsOf t=n)(hl:n<=cs.length):aH P t=true/\P.cellsOf t<=cs.length:=⟨ht,by rw[hc];exact hl⟩
theorem eM{n off:Nat}{cs:List D}(ht:aH P t=true)(hc:P.cellsOf t=n)(hl:off+n<=cs.length):aH P t=true/\off+P.cellsOf t<=cs.length:=⟨ht,by rw[hc];exact hl⟩
theorem pQ{n:Nat}(hc:P.cellsOf t=n+1):0<P.cellsOf t:=by omega
theorem bU{n off:Nat}{cs vs:List D}(ht:aH P t=true)(hc:P.cellsOf t=n)(hv:vs.length=n/\off+n<=cs.length)(C:vs.all D.one=true):aH P t=true/\vs.length=P.cellsOf t/\off+P.cellsOf t<=cs.length/\vs.all D.one=true:=
 ⟨ht,by rw[hc];exact hv.1,by rw[hc];exact hv.2,C⟩
end
section
variable{P:Program}{K:D->St->Prop}{st:St}
theorem vy(h:K (.aL []) st):gY P [] K .ret st:=h
theorem vz(h:K (.aL []) st):gY P [] K .normal st:=h
theorem aF{t:Nat}{d:D}(hd:st.env t=d)(h:K d st):gY P [.tmp t] K .ret st:=⟨trivial,by subst hd;exact h⟩
theorem gk{t u:Nat}{d e:D}(hd:st.env t=d)(he:st.env u=e)(h:K (.aL [d,e]) st):gY P [.tmp t,.tmp u] K .ret st:=⟨trivial,trivial,by subst hd;subst he;exact h⟩
theorem gy{a i off n:Nat}{ty e:TypeId}{cs vs:List D}(ha:st.env a=.rp i off)(hm:st.mem i=some (.cells cs e))(hg:bm P ty=true)(hc:P.cellsOf ty=n)(hv:(cs.drop off).take n=vs)(ht:aH P ty=true)(hl:off+n<=cs.length):
 ∃ p,nC P st (.cell a ty)=some (p,.agg vs)/\p:=⟨aH P ty=true/\off+n<=cs.length,by simp only[nC,ha,hm,gF,hg,if_true,hc,hv],ht,hl⟩
theorem tl{a i off:Nat}{ty e:TypeId}{cs cs':List D}{v:D}(ha:st.env a=.rp i off)(hm:st.mem i=some (.cells cs e))(hg:bm P ty=false)(hc:P.cellsOf ty=1)(hv:cs.drop off=v::cs')(ht:aH P ty=true):
 ∃ p,nC P st (.cell a ty)=some (p,v)/\p:=by
 have hl:off+1<=cs.length:=by
  have:(cs.drop off).length=cs'.length+1:=by rw[hv];rfl
  rw[List.length_drop] at this;omega
 exact⟨aH P ty=true/\off+1<=cs.length,by simp only[nC,ha,hm,gF,hg,Bool.false_eq_true,if_false,hc,hv,List.headD_cons],ht,hl⟩
theorem qT{a:Nat}{ty:TypeId}{d:D}(hr:∃ p,nC P st (.cell a ty)=some (p,d)/\p)(h:K d st):gY P [.cell a ty] K .ret st:=by
 obtain⟨p,h1,h2⟩:=hr;simp only[gY,nD,h1];exact⟨h2,h⟩
theorem mW{a t:Nat}{ty:TypeId}{d e:D}(hr:∃ p,nC P st (.cell a ty)=some (p,d)/\p)(he:st.env t=e)(h:K (.aL [d,e]) st):gY P [.cell a ty,.tmp t] K .ret st:=by
 obtain⟨p,h1,h2⟩:=hr;simp only[gY,nD,h1];exact⟨h2,trivial,by subst he;exact h⟩
end
section
variable{P:Program}{Y:ea}{rf:Bool}{Q:Exit->St->Prop}{st:St}
theorem av{l:List (Nat×D)}{env:Env}{m:Mem}{nx:Nat}(h:kX l env):aI P ⟨env,m,nx⟩ ⟨ay l,m,nx⟩:=.forget env _ m nx (pz h)
def LH(P:Program):List (Nat×List D×TypeId)->Mem->Prop
 |[],_=>True
 |(i,cs,e)::fs,m=>m i=some (.cells cs e)/\LH P fs (fun j=>if j=i then none else(m j).map (Row.sub (cE i cs (P.cellsOf e))))
def Bs(P:Program):List (Nat×List D×TypeId)->D->D
 |[],d=>d
 |(i,cs,e)::fs,d=>Bs P fs (sub (cE i cs (P.cellsOf e)) d)
theorem PI:∀ {fs:List (Nat×List D×TypeId)} {env:Env} {m:Mem} {nx:Nat},LH P fs m->∃ m',aI P ⟨env,m,nx⟩ ⟨fun t=>Bs P fs (env t),m',nx⟩
 |[],env,m,nx,_=>⟨m,.refl _⟩
 |(i,cs,e)::fs,env,m,nx,⟨h1,h2⟩=>by
  obtain⟨m',h⟩:=PI (env:=fun t=>sub (cE i cs (P.cellsOf e)) (env t)) (nx:=nx) h2;exact⟨m',(aI.freeze env m nx i cs e h1).trans h⟩
theorem dB{env:Env}{m:Mem}{nx:Nat}(fs:List (Nat×List D×TypeId))(hf:LH P fs m){l:List (Nat×D)}(hl:kX l fun t=>Bs P fs (env t)):aI P ⟨env,m,nx⟩ ⟨ay l,fun _=>none,nx⟩:=by
 obtain⟨m',h⟩:=PI (env:=env) (nx:=nx) hf;exact h.trans ((aI.forget _ _ _ _ (pz hl)).trans (aI.drop _ _ _ _ fun _=>.inr rfl))
def k9(fR id:Nat)(next:St->Prop)(Q:Exit->St->Prop):Exit->St->Prop
 | .normal,s=>next s
 | .exit i,s=>if i=fR then next s else if i=id then Q .normal s else Q (.exit i) s
 |e,s=>Q e s
def xX(P:Program){α:Type}(S:α->St)(J:α->Prop)(μ:α->Nat)(x:α)(s:St):Prop:=∃ C,aI P s (S C)/\J C/\μ C<μ x
theorem bg{α:Type}{S:α->St}{J:α->Prop}{μ:α->Nat}{x:α}{s:St}(C:α)(hg:aI P s (S C))(M:J C)(U:μ C<μ x):xX P S J μ x s:=⟨C,hg,M,U⟩
theorem Cr[dD Y]{b:Code}{α:Type}(S:α->St)(J:α->Prop)(μ:α->Nat)(C:α)(hg:aI P st (S C))(X:J C)(h:∀ x,J x->AW P Y rf b (fJ (xX P S J μ x) Q) (S x)){a:Code}(ha:∀ st,Q .normal st->Q .normal st):
 ∃ st',aI P st st'/\AW P Y rf (.loop b) Q st':=
 ⟨S C,hg,ab7 S J μ C rfl X fun x hx=>tF b (fun e st' hq=>by
  cases e with
  |normal=>
   obtain⟨M,h1,h2,U⟩:=hq;exact⟨S M,M,h1,rfl,h2,U⟩
  |_=>exact hq) (h x hx)⟩
variable{id fR t i1 i2 i3 i4:Nat}{rc ri:Array Oper}{body rest:Code}{α:Type}
theorem JS[dD Y]{ri:Array Oper}{next:St->Prop}{s:St}(h:AW P Y rf body (k9 fR id (fun s=>aq P Y ri false [] (eP next) ri.toList s []) Q) s):
 AW P Y rf (.seq (.block fR body) (.region i3 ri false)) (fJ next (fq id Q)) s:=by
 refine tF body (fun e s h=>?_) h;have hr:∀ s,aq P Y ri false [] (eP next) ri.toList s []->∃ s',aI P s s'/\AW P Y rf (.region i3 ri false) (fJ next (fq id Q)) s':=fun s h=>⟨s,.refl s,jP (rf:=rf) (id:=i3) (aq.iQ h fun _ h=>h)⟩
 cases e with
 |normal=>exact hr s h
 |exit i=>
  simp only[k9] at h;simp only[fq];split at h
  .rename_i hi;rw[if_pos hi];exact hr s h
  .rename_i hi;rw[if_neg hi];simp only[fJ,fq];exact h
 |_=>exact h
theorem cy[dD Y](S:α->St)(J:α->Prop)(μ:α->Nat)(C:α)(hg:aI P st (S C))(U:J C)
 (h:∀ x,J x->aq P Y rc false [] (eP fun s=>∃ g,opd s.env (.tmp t)=.s (.bool g)/\(g=true->AW P Y rf body (k9 fR id (fun s=>aq P Y ri false [] (eP (xX P S J μ x)) ri.toList s []) Q) s)/\(g=false->Q .normal s)) rc.toList (S x) []):
 ∃ st',aI P st st'/\AW P Y rf (.block id (.loop (.seq (.region i1 rc false) (.seq (.cond (.tmp t) .skip (.exit id)) (.seq (.block fR body) (.region i3 ri false)))))) Q st':=by
 refine Cr (Q:=fq id Q) S J μ C hg U (fun x hx=>?_) (a:=.skip) fun _ h=>h;refine jP (rf:=rf) (id:=i1) (aq.iQ (h x hx) fun s hs=>?_);obtain⟨g,h1,h2,M⟩:=hs;refine⟨s,.refl s,cR h1 (fun X=>?_) fun y6=>?_⟩
 .exact cI (JS (h2 X))
 .refine tm ?_;simp only[fJ,fq,if_true];exact M y6
theorem kq[dD Y](S:α->St)(J:α->Prop)(μ:α->Nat)(C:α)(hg:aI P st (S C))(U:J C)
 (h:∀ x,J x->aq P Y rc false [] (eP fun s=>∃ g,opd s.env (.tmp t)=.s (.bool g)/\(g=true->AW P Y rf body (k9 fR id (fun s=>aq P Y ri false [] (eP (xX P S J μ x)) ri.toList s []) Q) s)/\(g=false->Q .normal s)) rc.toList (S x) []):
 ∃ st',aI P st st'/\AW P Y rf (.block id (.loop (.seq (.seq (.region i1 rc false) (.cond (.tmp t) .skip (.exit id))) (.seq (.block fR body) (.region i3 ri false))))) Q st':=by
 refine Cr (Q:=fq id Q) S J μ C hg U (fun x hx=>?_) (a:=.skip) fun _ h=>h;refine aB (jP (rf:=rf) (id:=i1) (aq.iQ (h x hx) fun s hs=>?_));obtain⟨g,h1,h2,M⟩:=hs;refine⟨s,.refl s,cR h1 (fun X=>?_) fun y6=>?_⟩
 .exact cI (JS (h2 X))
 .refine tm ?_;simp only[fJ,fq,if_true];exact M y6
theorem Qv[dD Y]{next:St->Prop}{s:St}(h:AW P Y rf body (k9 fR id next Q) s):AW P Y rf (.block fR body) (fJ next (fq id Q)) s:=by
 refine tF body (fun e s h=>?_) h;cases e with
 |exit i=>
  simp only[k9] at h;simp only[fq];split at h
  .rename_i hi;rw[if_pos hi];exact h
  .rename_i hi;rw[if_neg hi];simp only[fJ,fq];exact h
 |_=>exact h
theorem ab8[dD Y](S:α->St)(J:α->Prop)(μ:α->Nat)(C:α)(hg:aI P st (S C))(U:J C)
 (h:∀ x,J x->aq P Y rc false [] (eP fun s=>∃ g,opd s.env (.tmp t)=.s (.bool g)/\(g=true->AW P Y rf body (k9 fR id (xX P S J μ x) Q) s)/\(g=false->Q .normal s)) rc.toList (S x) []):
 ∃ st',aI P st st'/\AW P Y rf (.block id (.loop (.seq (.seq (.region i1 rc false) (.cond (.tmp t) .skip (.exit id))) (.block fR body)))) Q st':=by
 refine Cr (Q:=fq id Q) S J μ C hg U (fun x hx=>?_) (a:=.skip) fun _ h=>h;refine aB (jP (rf:=rf) (id:=i1) (aq.iQ (h x hx) fun s hs=>?_));obtain⟨g,h1,h2,M⟩:=hs;refine⟨s,.refl s,cR h1 (fun X=>?_) fun y6=>?_⟩
 .exact cI (Qv (h2 X))
 .refine tm ?_;simp only[fJ,fq,if_true];exact M y6
theorem cT{s:St}(h:Q .normal s):AW P Y rf .skip Q s:=h
theorem bJ{s:St}(h:Q .ret s):AW P Y rf .ret Q s:=h
theorem cu{next:St->Prop}{s:St}(h:Q .ret s):k9 fR id next Q .ret s:=h
theorem bE{K:St->Prop}{s:St}(h:Q .ret s):fJ K Q .ret s:=h
theorem eu{s:St}(h:Q .ret s):fq id Q .ret s:=h
theorem Fx{s:St}(h:Q .ret s):CD Q .ret s:=h
theorem Gj{next:St->Prop}{s:St}(h:next s):k9 fR id next Q (.exit fR) s:=by simp only[k9,if_true];exact h
theorem ab9{next:St->Prop}{s:St}(C:id≠fR)(h:Q .normal s):k9 fR id next Q (.exit id) s:=by simp only[k9,if_neg C,if_true];exact h
theorem aea{i:Nat}{next:St->Prop}{s:St}(h2:i≠fR)(h1:i≠id)(h:Q (.exit i) s):k9 fR id next Q (.exit i) s:=by simp only[k9,if_neg h2,if_neg h1];exact h
theorem w7[dD Y]{a:Code}(h:AW P Y rf a (fq id (fJ (fun st=>AW P Y rf rest Q st) Q)) st):AW P Y rf (.seq (.block id a) rest) Q st:=S7 (fun st=>AW P Y rf rest Q st) (pA h) fun _ h=>h
theorem vA{s:St}(h:AW P Y rf rest Q s):AW P Y rf .skip (fq id (fJ (fun st=>AW P Y rf rest Q st) Q)) s:=h
theorem xD[dD Y]{a:Code}(h:AW P Y rf a (fJ (fun st=>AW P Y rf rest Q st) Q) st):AW P Y rf (.seq a rest) Q st:=S7 _ h fun _ h=>h
theorem sf[dD Y]{r:Array Oper}{i:Nat}{J:St->Prop}(h:aq P Y r false [] (eP J) r.toList st []):AW P Y rf (.region i r false) (fJ J Q) st:=jP (rf:=rf) (id:=i) (aq.iQ h fun _ h=>h)
theorem n1[dD Y]{r:Array Oper}{i:Nat}{J:St->Prop}(h:aq P Y r false [] (eP J) r.toList st []):AW P Y rf (.region i r false) (fq id (fJ J Q)) st:=jP (rf:=rf) (id:=i) (aq.iQ h fun _ h=>h)
theorem cJ{J:St->Prop}(h:J st):AW P Y rf .skip (fJ J Q) st:=h
theorem Jn{J:St->Prop}(h:J st):AW P Y rf .skip (fq id (fJ J Q)) st:=h
theorem bY[dD Y]{a:Code}(R:St->Prop)(h:∃ st',aI P st st'/\AW P Y rf a (fJ R Q) st')(k:∀ s,R s->∃ s',aI P s s'/\AW P Y rf rest Q s'):∃ st',aI P st st'/\AW P Y rf (.seq a rest) Q st':=by
 obtain⟨st',hg,h⟩:=h;exact⟨st',hg,iL R h k⟩
end
def Real(d:D):Prop:=∃ F β w v,R F β w d v
theorem Real.sl{es:List D}{n:Nat}(h:Real (.sl es n)):n<=maxLen/\∀ d∈es,Real d:=by
 obtain⟨F,β,w,v,h⟩:=h;cases h with
 |fZ=>simp[maxLen]
 |sl _ _ b o cap us hf hb af oi dk hc hh=>
  refine⟨Nat.le_trans oi dk,fun d hd=>?_⟩;obtain⟨k,hk⟩:=eS hd;exact⟨F,β,w,_,hh k d hk⟩
theorem Real.agg{cs:List D}(h:Real (.agg cs)):∀ d∈cs,Real d:=by
 obtain⟨F,β,w,v,h⟩:=h;obtain⟨vs,rfl,hl,hh⟩:=h.rS;intro d hd;obtain⟨k,hk⟩:=eS hd;have:k<vs.length:=by rw[hl];exact(bK.1 hk).1
 exact⟨F,β,w,_,hh k d vs[k] hk (by simp[this])⟩
theorem Rz{F:Nat->Prop}{β:aC}{w:World}{args:List D}{vs:Array Value}(h:Rs F β w args vs):∀ a∈args,Real a:=fun a ha=>by
 obtain⟨k,hk⟩:=eS ha;have:k<vs.size:=by rw[h.1];exact(bK.1 hk).1
 exact⟨F,β,w,vs[k],h.2 k a _ hk (by simp[this])⟩
theorem mo{P:Program}{f:FuncId}{args:List D}{r:D}(he:nY P f=true)(ht:∀ a∈args,Tr a)(h:(∀ a∈args,Real a)->aA P f args r):aA P f args r:=
 ⟨he,ht,fun F w vs J C=>(h (Rz C)).2.2 F w vs J C⟩
theorem XN{P:Program}{f:FuncId}{args es:List D}{n:Nat}{t:TypeId}(he:nY P f=true)(ht:∀ a∈args,Tr a)(h:(∀ a∈args,Real a)->ko P f args es n t):ko P f args es n t:=
 ⟨he,ht,fun F w vs J C=>(h (Rz C)).2.2 F w vs J C⟩
section
variable{P:Program}{m:Mem}{rds:List Nat}
theorem cH{a:D}(h:Tr a):Sn P rds m a a:=fun _ _ _ _ _ hv=>h.AB hv
theorem AF{i off n:Nat}{cs es:List D}{e:TypeId}(hm:m i=some (.cells cs e))(hi:i∈rds)(J:(cs.drop off).take (n*P.cellsOf e)=es)(ht:∀ a∈es,Tr a):Sn P rds m (.rs i off n) (.sl es n):=fun F β w v hl hv=>by
 subst J;obtain⟨p,hp,hr,M⟩:=hl i hi _ hm;cases hv with
 |kH _ _ _ _ h1 _=>rw[h1] at hp;cases hp;cases hr
 |iT _ a h1=>
  rw[h1] at hp;cases hp;cases hr;simp only[List.drop_nil,List.take_nil];exact .fZ a 0
 |jI _ _ a b o len room sz h1=>
  simp only[Nat.zero_mul,List.take_zero];exact .fZ a 0
 |rs _ _ _ cap b o len room sz h1 hn dk h2 h3=>
  rw[h1] at hp;cases hp
  have af:b<w.heap.size:=by
   cases hr with
   |cells _ _ _ _ _ _ c hb _ _ _ _=>exact(Array.getElem?_eq_some_iff.1 hb).1
  obtain⟨C,hl,bB,_⟩:=hr.rd;obtain⟨us,U,X⟩:=(C.drop off).take (n*P.cellsOf e);exact .sl _ n b (o+off) cap us (M b rfl) (fun k q hq=>by cases hq) af hn dk U fun k d hk=>(ht d (bD hk)).AB (X k d hk)
variable{Y:ea}{rf:Bool}{ops:Array Oper}{dr:Bool}{cf:List (Nat×Nat)}{Q:Exit->St->Prop}{rest:List Oper}{env:Env}{nx:Nat}{tr:jL}{t:Nat}{op:Op}{ty:TypeId}{pos:String}{after:Array Edge}
 {pre:Prop} {v:D} {rd:List Nat}
theorem Kx{j:Nat}{b:Bool}{u:Nat}{row:Row}(hj:(ops[j]?).bind (·.dst)=some u)(hg:jR (env u) b=some true)(he:Ef P op env m nx ⟨pre,v,[(nx,some row)],rd,1⟩)(ha:fK env op.operands.toList)(hp:pre)
 (K:aq P Y ops dr cf Q rest ⟨up env t v,up m nx (some row),nx+1⟩ (tr++[(rd,[nx])])):aq P Y ops dr cf Q (⟨some t,op,ty,pos,after,some (j,b)⟩::rest) ⟨env,m,nx⟩ tr:=
 aeh hj hg he ha hp (fun h=>by cases h) K
theorem sg{j:Nat}{b:Bool}{u:Nat}{f:FuncId}{args C:List D}{r:D}{rds:List Nat}(h:aA P f C r)(hs:r.gp=true)(hj:(ops[j]?).bind (·.dst)=some u)(hg:jR (env u) b=some true)(hc:dJ (aX env op) op=some (f,args))(J:jn P rds m args C)(ha:fK env op.operands.toList)
 (K:aq P Y ops dr cf Q rest ⟨up env t r,m,nx⟩ (tr++[(rds,[])])):aq P Y ops dr cf Q (⟨some t,op,ty,pos,after,some (j,b)⟩::rest) ⟨env,m,nx⟩ tr:=
 aaJ hj hg hc ha (.inr (.inl ⟨C,rds,r,J,h,hs,K⟩))
end
section
variable{P:Program}{Y:ea}{rf:Bool}{ops:Array Oper}{dr:Bool}{cf:List (Nat×Nat)}{Q:Exit->St->Prop}{rest:List Oper}{env:Env}{m:Mem}{nx:Nat}{tr:jL}{t:Nat}{ty:TypeId}{pos:String}{after:Array Edge}
theorem B8{j:Nat}{b0 C:Bool}{u:Nat}(hj:(ops[j]?).bind (·.dst)=some u)(hg:jR (env u) b0=some C){c a b:Operand}{x:Bool}(hc:(opd env c).core=.s (.bool true))(ha:(opd env a).core=.s (.bool x))
 (h0:C=true->(opd env c).ask) (h1:C=true->(opd env a).ask) (K:aq P Y ops dr cf Q rest ⟨up env t (.cn C (.s (.bool x))),m,nx⟩ (tr++[([],[])])):
 aq P Y ops dr cf Q (⟨some t,.pick c a b,ty,pos,after,some (j,b0)⟩::rest) ⟨env,m,nx⟩ tr:=by
 have he:=z6 (P:=P) (env:=env) (m:=m) (nx:=nx) (a:=a) (b:=b) hc;simp only[ha,D.eX,Option.getD_some,if_true] at he;simp only[aq];refine .inl ?_;simp only[iW];rw[hj];simp only[Option.bind_some];rw[hg,he.nc,he.ny,he.ok];exact⟨fun hc=>⟨by simp only[asks];exact h0 hc,fun _=>⟨h1 hc,rfl⟩,fun h=>by cases h⟩,K⟩
theorem B9{j:Nat}{b0 C:Bool}{u:Nat}(hj:(ops[j]?).bind (·.dst)=some u)(hg:jR (env u) b0=some C){c a b:Operand}{y:Bool}(hc:(opd env c).core=.s (.bool false))(hb:(opd env b).core=.s (.bool y))
 (h0:C=true->(opd env c).ask) (h1:C=true->(opd env b).ask) (K:aq P Y ops dr cf Q rest ⟨up env t (.cn C (.s (.bool y))),m,nx⟩ (tr++[([],[])])):
 aq P Y ops dr cf Q (⟨some t,.pick c a b,ty,pos,after,some (j,b0)⟩::rest) ⟨env,m,nx⟩ tr:=by
 have he:=z6 (P:=P) (env:=env) (m:=m) (nx:=nx) (a:=a) (b:=b) hc;simp only[hb,D.eX,Option.getD_some,Bool.false_eq_true,if_false] at he;simp only[aq];refine .inl ?_;simp only[iW];rw[hj];simp only[Option.bind_some];rw[hg,he.nc,he.ny,he.ok];exact⟨fun hc=>⟨by simp only[asks];exact h0 hc,fun h=>oH,fun _=>⟨h1 hc,rfl⟩⟩,K⟩
variable{id:Nat}{st:St}
theorem QD[dD Y]{i:Nat}{J:St->Prop}(hi:bT ops=some cf)(h:aq P Y ops true cf (eP J) ops.toList st []):AW P Y rf (.region i ops true) (fq id (fJ J Q)) st:=An (rf:=rf) (id:=i) hi (aq.iQ h fun _ h=>h)
theorem acj[dD Y]{i:Nat}{J:St->Prop}(hi:bT ops=some cf)(h:aq P Y ops true cf (eP J) ops.toList st []):AW P Y rf (.region i ops true) (fJ J Q) st:=An (rf:=rf) (id:=i) hi (aq.iQ h fun _ h=>h)
theorem aaK{r:Option Row}{i:Nat}(h:m i=r):∀ j,up (fun _=>none) i r j=m j\/up (fun _=>none) i r j=none:=fun j=>by
 by_cases hj:j=i
 .subst hj;left;rw[ah,h]
 .right;rw[az _ _ hj]
theorem z7[dD Y]{i fR:Nat}{next:St->Prop}(hi:bT ops=some cf)(h:aq P Y ops true cf (eP next) ops.toList st []):AW P Y rf (.region i ops true) (k9 fR id next Q) st:=An (rf:=rf) (id:=i) hi (aq.iQ h fun _ h=>h)
theorem fC[dD Y]{i fR:Nat}{next:St->Prop}(h:aq P Y ops false [] (eP next) ops.toList st []):AW P Y rf (.region i ops false) (k9 fR id next Q) st:=jP (rf:=rf) (id:=i) (aq.iQ h fun _ h=>h)
def a7:List (Nat×Row)->Mem
 |[],_=>none
 |(i,r)::l,j=>if j=i then some r else a7 l j
def CK:List (Nat×Row)->Mem->Prop
 |[],_=>True
 |(i,r)::l,m=>m i=some r/\CK l m
theorem JX:∀ {l:List (Nat×Row)} {m:Mem},CK l m->∀ i,a7 l i=m i\/a7 l i=none
 |[],_,_,_=>.inr rfl
 |(k,r)::l,m,h,i=>by
  simp only[a7];by_cases hi:i=k
  .subst hi;rw[if_pos rfl];exact .inl h.1.symm
  .rw[if_neg hi];exact JX h.2 i
theorem bQ{l:List (Nat×D)}{ml:List (Nat×Row)}{m:Mem}{nx:Nat}(h:kX l env)(hm:CK ml m):aI P ⟨env,m,nx⟩ ⟨ay l,a7 ml,nx⟩:=(aI.forget env _ m nx (pz h)).trans (.drop _ _ _ _ (JX hm))
end
theorem ag{α:Type}{f:Nat->α}{k j:Nat}{v r:α}(h:j≠k)(hf:f j=r):up f k v j=r:=(az f v h).trans hf
theorem amY{β:Sort _}{M m:Mem}{i:Nat}{r:Option Row}(h:M=m)(x:β)(k:β->m i=r:=by intro x;repeat (first|exact x|exact rfl|exact ah _ _ _|refine ag (by omega) ?_)):M i=r:=h ▸ k x
theorem amZ{β:Sort _}{p:Prop}(x:β)(k:β->p:=by intro x;dsimp only;repeat (first|exact x|exact ah _ _ _|refine ag (by omega) ?_)):p:=k x
theorem lR{i off sz:Nat}{cs:List D}:sub (cE i cs sz) (.rp i off)=.pt (cs.drop off):=by simp[sub,pc,cE]
theorem yh{i off n sz:Nat}{cs:List D}:sub (cE i cs sz) (.rs i off n)=.sl ((cs.drop off).take (n*sz)) n:=by simp[sub,pc,cE]
theorem gi{i j off sz:Nat}{cs:List D}(h:j≠i):sub (cE i cs sz) (.rp j off)=.rp j off:=by simp[sub,pc,cE,h]
theorem xe{i j off n sz:Nat}{cs:List D}(h:j≠i):sub (cE i cs sz) (.rs j off n)=.rs j off n:=by simp[sub,pc,cE,h]
theorem B'{α:Type}{f:α->List D}{sz:Nat}(hs:∀ x,(f x).length=sz):∀ (l:List α) (k:Nat),(l.flatMap f).take (k*sz)=(l.take k).flatMap f
 |[],k=>by simp
 |x::l,0=>by simp
 |x::l,k+1=>by
  rw[List.flatMap_cons,List.take_succ_cons,List.flatMap_cons, <- B' hs l k,show(k+1)*sz=(f x).length+k*sz by rw[hs x,Nat.add_mul];omega,List.take_length_add_append]
theorem acS{α:Type}{f:α->List D}{sz k:Nat}{l:List α}(hs:∀ x,(f x).length=sz)(hk:k<=l.length):
 D.sl (((l.flatMap f).drop ((0:Int).toNat*sz)).take (((k:Int) - 0).toNat*sz)) ((k:Int) - 0).toNat=D.sl ((l.take k).flatMap f) (l.take k).length:=by
 have h1:((k:Int) - 0).toNat=k:=by omega
 have h2:(0:Int).toNat*sz=0:=by simp
 rw[h1,h2,List.drop_zero,B' hs,List.length_take,Nat.min_eq_left hk]
section
variable{P:Program}{env:Env}{m:Mem}{nx:Nat}{x y z:Operand}{t:TypeId}{v:D}
theorem aaP{i:Nat}{es:List (Value×D)}{key:Value}{kt:TypeId}(hx:(opd env x).core=.mp i)(hm:m i=some (.map es))(hk:pY (opd env y).core=some key)(hz:(opd env z).core=v)(ht:ez P t=kt):
 Ef P (.insert t x y z) env m nx ⟨fI P t=true/\cC P kt key=true/\es.all (fun e=>cC P kt e.1)=true,.aL [],[(i,some (.map (fV key v es)))],[i],0⟩:=by
 refine⟨?_,rfl,rfl⟩;show na P m t (opd env x).core (opd env y).core (opd env z).core=_;simp only[na,hk,hx,hm,ht,hz]
variable{n n':Int}{k:IntKind}{c:Bool}{p:TypeId}{n0:Nat}
theorem Ky(hx:(opd env x).core=.s (.int k n))(hy:(opd env y).core=.s (.int k n'))(hd:decide (n'<n)=c):Ef P (.binOp .gtr t x y p) env m nx ⟨k=k,.s (.bool c),[],[],0⟩:=by subst hd;exact GM hx hy
theorem Gm(hx:(opd env x).core=.s (.int k n))(hy:(opd env y).core=.s (.int k n'))(hd:decide (n<=n')=c):Ef P (.binOp .leq t x y p) env m nx ⟨k=k,.s (.bool c),[],[],0⟩:=by subst hd;exact C0 hx hy
theorem CL(hx:(opd env x).core=.s (.int k n))(hy:(opd env y).core=.s (.int k n'))(hd:(n==n')=c):Ef P (.binOp .eql t x y p) env m nx ⟨k=k,.s (.bool c),[],[],0⟩:=by subst hd;exact GN hx hy
theorem Sv(hx:(opd env x).core=.s (.int k n))(hy:(opd env y).core=.s (.int k n'))(hd:(n !=n')=c):Ef P (.binOp .neq t x y p) env m nx ⟨k=k,.s (.bool c),[],[],0⟩:=by subst hd;exact KT hx hy
theorem Sx(hx:(opd env x).core=.s (.int k n))(hy:(opd env y).core=.s (.int k n')){r:Int}(hd:k.wrap (n.tdiv n')=r):Ef P (.binOp .quo t x y p) env m nx ⟨k=k/\n'≠0,.s (.int k r),[],[],0⟩:=by subst hd;exact adf hx hy
theorem Sy(hx:(opd env x).core=.s (.int k n))(hy:(opd env y).core=.s (.int k n')){r:Int}(hd:n.tmod n'=r):Ef P (.binOp .rem t x y p) env m nx ⟨k=k/\n'≠0,.s (.int k r),[],[],0⟩:=by subst hd;exact ad2 hx hy
theorem Ao(hx:(opd env x).core=.s (.int k n))(hy:(opd env y).core=.s (.int k n'))(hd:decide (n'<=n)=c):Ef P (.binOp .geq t x y p) env m nx ⟨k=k,.s (.bool c),[],[],0⟩:=by subst hd;exact C' hx hy
theorem ack{j i l:Nat}{e:TypeId}{r:Row}(hx:(opd env x).core=.rp j 0)(hy:(opd env y).core=.s (.int k (i:Int)))(hm:m j=some r)(he:aD P t=e)(hs:P.cellsOf e=1)(hl:oq P t=l):
 Ef P (.indexAddr t x y) env m nx ⟨nM P t=true/\i<l,.rp j i,[],[j],0⟩:=by
 have h:=adh (P:=P) (env:=env) (m:=m) (nx:=nx) (t:=t) hx hy hm he hs hl;have h1:0+((i:Int)).toNat*1=i:=by simp
 have h2:(nM P t=true/\(0:Int)<=(i:Int)/\(i:Int)<l)=(nM P t=true/\i<l):=by
  apply propext;constructor
  .rintro⟨a,_,b⟩;exact⟨a,oG⟩
  .rintro⟨a,b⟩;exact⟨a,oG,oG⟩
 rw[h1,h2] at h;exact h
theorem np{l:List D}{n:Nat}(h:l.length=n):(l.drop 0).take n=l:=by rw[List.drop_zero,df oG]
theorem SL{l:List D}{n:Nat}(h:l.length=n):l.take n=l:=df oG
theorem J0{z l:List D}(hz:z.length=20)(hl:l.length=20):gC z 0 l=l:=by
 unfold gC;split
 .simp at hl
 .rw[List.take_zero,List.nil_append,List.drop_eq_nil_of_le oG,List.append_nil]
theorem Gn{es:List D}(hx:(opd env x).core=.sl es 0):Ef P (.binOp .eql t x (.const (.slice none 0 0)) p) env m nx ⟨bi P t=true,.ub,[],[],0⟩:=⟨by simp only[ba,aX,hx,mG,if_true],rfl,rfl⟩
theorem Gp{es:List D}{l:Nat}(hx:(opd env x).core=.sl es l)(hl:l≠0):Ef P (.binOp .eql t x (.const (.slice none 0 0)) p) env m nx ⟨bi P t=true,.s (.bool false),[],[],0⟩:=⟨by simp only[ba,aX,hx,mG,if_neg hl],rfl,rfl⟩
theorem vT{i off n sz:Nat}{cs es:List D}{e:TypeId}(hs:P.cellsOf e=sz)(h:(cs.drop off).take (n*sz)=es):Bs P [(i,cs,e)] (.rs i off n)=.sl es n:=by subst hs h;exact yh
theorem xc(h:env n0=.z):aI P ⟨env,m,nx⟩ ⟨ay [(n0,.sl [] 0)],fun _=>none,nx+1⟩:=by
 have h1:=aI.o0 (P:=P) env m nx n0 0 h;have h2:=dB (P:=P) (env:=up env n0 (.rs nx 0 0)) (m:=up m nx (some (.cells [] 0))) (nx:=nx+1) [(nx,[],0)] ⟨ah _ _ _,trivial⟩ (l:=[(n0,.sl [] 0)]) ⟨(congrArg _ (ah _ _ _)).trans (vT (sz:=P.cellsOf 0) rfl oS),trivial⟩;exact h1.trans h2
theorem mM{rds:List Nat}:Sn P rds m .z (.sl [] 0):=fun F β w v _ hv=>by
 obtain⟨x,rfl⟩:=hv.tX;exact .fZ x 0
theorem adR{rds:List Nat}{aS bs:List D}(h:jn P rds m aS bs):Sn P rds m (.agg aS) (.agg bs):=fun F β w v hl hv=>by
 obtain⟨vs,rfl,hn,hh⟩:=hv.rS;obtain⟨h1,h2⟩:=CU hl h;refine .agg _ vs oG fun k d u hd hu=>?_;have hk:k<aS.length:=by rw[h1];exact(bK.1 hd).1
 exact h2 k aS[k] d (by simp[hk]) hd u (hh k aS[k] u (by simp[hk]) hu)
theorem Q5{l:List (Nat×D)}{m':Mem}(h:kX l env)(hm:∀ i,m' i=m i\/m' i=none):aI P ⟨env,m,nx⟩ ⟨ay l,m',nx⟩:=(aI.forget env _ m nx (pz h)).trans (.drop _ _ _ _ hm)
def Mq:List (Nat×List (Value×D))->Mem->Prop
 |[],_=>True
 |(i,es)::fs,m=>m i=some (.map es)/\Mq fs (fun j=>if j=i then none else(m j).map (Row.sub (yK i es)))
def Oa:List (Nat×List (Value×D))->D->D
 |[],d=>d
 |(i,es)::fs,d=>Oa fs (sub (yK i es) d)
theorem P7:∀ {fs:List (Nat×List (Value×D))} {env:Env} {m:Mem} {nx:Nat},Mq fs m->∃ m',aI P ⟨env,m,nx⟩ ⟨fun t=>Oa fs (env t),m',nx⟩
 |[],env,m,nx,_=>⟨m,.refl _⟩
 |(i,es)::fs,env,m,nx,⟨h1,h2⟩=>by
  obtain⟨m',h⟩:=P7 (env:=fun t=>sub (yK i es) (env t)) (nx:=nx) h2;exact⟨m',(aI.Cm env m nx i es h1).trans h⟩
theorem abF(fs:List (Nat×List (Value×D)))(hf:Mq fs m){l:List (Nat×D)}(hl:kX l fun t=>Oa fs (env t)):aI P ⟨env,m,nx⟩ ⟨ay l,fun _=>none,nx⟩:=by
 obtain⟨m',h⟩:=P7 (P:=P) (env:=env) (nx:=nx) hf;exact h.trans ((aI.forget _ _ _ _ (pz hl)).trans (aI.drop _ _ _ _ fun _=>.inr rfl))
end
end Go.Abs
namespace Go.Argus
open Go.Abs
abbrev I(n:Int):D:=.s (.int .i64 n)
abbrev U8(n:Int):D:=.s (.int .u8 n)
abbrev B(b:Bool):D:=.s (.bool b)
abbrev S(s:ByteArray):D:=.s (.string s)
abbrev aP(l:List Int):D:=.sl (l.map I) l.length
abbrev iK(l:List Int):D:=.sl (l.map U8) l.length
abbrev bI(l:List ByteArray):D:=.sl (l.map S) l.length
structure cW where
 op:Int
 to:Int
 a:Int
 b:Int
 n:Int
 args:List Int
structure iR where
 name:ByteArray
 to:Int
structure End where
 kind:Int
 a:Int
 b:Int
 to:Int
 gN:Int
 name:ByteArray
 ins:cW
 args:List Int
 aR:List iR
 others:Int
structure bx where
 ins:List cW
 fin:End
structure al where
 name:ByteArray
 iter:Bool
 args:Int
 result:Int
 aT:List Int
 cm:List Int
 signals:List ByteArray
 blocks:List bx
def cv(x:cW):List D:=[U8 x.op,I x.to,I x.a,I x.b,I x.n,aP x.args]
def gR(w:iR):List D:=[S w.name,I w.to]
def lB(l:List iR):D:=.sl (l.flatMap gR) l.length
def lF(l:List cW):D:=.sl (l.flatMap cv) l.length
def bw(x:End):List D:=[U8 x.kind,I x.a,I x.b,I x.to,I x.gN,S x.name,U8 x.ins.op,I x.ins.to,I x.ins.a,I x.ins.b,I x.ins.n,aP x.ins.args,aP x.args,lB x.aR,I x.others]
def bH(b:bx):List D:=lF b.ins::bw b.fin
def cF(l:List bx):D:=.sl (l.flatMap bH) l.length
def aM(f:al):List D:=[S f.name,B f.iter,I f.args,U8 f.result,iK f.aT,iK f.cm,bI f.signals,cF f.blocks]
def aW(p q:D)(f:al):List D:=[S f.name,B f.iter,I f.args,U8 f.result,iK f.aT,iK f.cm,bI f.signals,cF f.blocks,p,q]
@[simp] theorem amh (p q : D) (x : al) : (aW p q x).length = 10 := rfl
@[simp] theorem amk (x : cW) : (cv x).length = 6 := rfl
@[simp] theorem ami (x : iR) : (gR x).length = 2 := rfl
@[simp] theorem Yh (x : End) : (bw x).length = 15 := rfl
@[simp] theorem BS (x : bx) : (bH x).length = 16 := rfl
@[simp] theorem OK (x : al) : (aM x).length = 8 := rfl
theorem PM(x:cW):(cv x).length=6:=rfl
theorem IX(x:iR):(gR x).length=2:=rfl
theorem u6(x:bx):(bH x).length=16:=rfl
theorem u7(x:al):(aM x).length=8:=rfl
def mH{α:Type}(p:α->Bool)(l:List α):Int:=match l.findIdx? p with
 |some i=>i
 |none=> -1
theorem tu{α:Type}{p:α->Bool}{l:List α}{k:Nat}{x:α}(hx:l[k]? =some x)(hp:p x=true)(h:∀ j y,j<k->l[j]? =some y->p y=false):mH p l=k:=by
 have:l.findIdx? p=some k:=by
  rw[List.findIdx?_eq_some_iff_getElem];obtain⟨hk,he⟩:=bK.1 hx;refine⟨hk,by rw[he];exact hp,fun j hj=>?_⟩;have:=h j l[j] hj (by simp[show j<l.length by omega]);simp[this]
 simp[mH,this]
theorem w9{α:Type}{p:α->Bool}{l:List α}(h:∀ (j:Nat) y,l[j]? =some y->p y=false):mH p l= -1:=by
 have:l.findIdx? p=none:=by
  rw[List.findIdx?_eq_none_iff];intro x hx;obtain⟨j,hj⟩:=eS hx;exact h j x hj
 simp[mH,this]
theorem zW{α:Type}(p:α->Bool)(l:List α):decide (0<=mH p l)=l.any p:=by
 unfold mH;cases h:l.findIdx? p with
 |none=>
  rw[List.findIdx?_eq_none_iff] at h;have:l.any p=false:=List.any_eq_false.2 fun x hx=>by simp[h x hx]
  simp[this]
 |some i=>
  obtain⟨hi,hp,_⟩:=List.findIdx?_eq_some_iff_getElem.1 h;have:l.any p=true:=List.any_eq_true.2 ⟨l[i],oS,hp⟩;simp[this]
theorem du(l:List Int):Tr (aP l):=.sl (.map fun _=>.s _)
theorem oW(l:List Int):Tr (iK l):=.sl (.map fun _=>.s _)
theorem fS(l:List ByteArray):Tr (bI l):=.sl (.map fun _=>.s _)
theorem xj(x:cW):∀ a∈cv x,Tr a:=.cons (.s _) (.cons (.s _) (.cons (.s _) (.cons (.s _) (.cons (.s _) (.cons (du _) .nil)))))
theorem Fk(x:iR):∀ a∈gR x,Tr a:=.cons (.s _) (.cons (.s _) .nil)
theorem jd(l:List iR):Tr (lB l):=.sl (.flat Fk)
theorem acT(l:List cW):Tr (lF l):=.sl (.flat xj)
theorem pB(x:End):∀ a∈bw x,Tr a:=.cons (.s _) (.cons (.s _) (.cons (.s _) (.cons (.s _) (.cons (.s _) (.cons (.s _) (.cons (.s _) (.cons (.s _) (.cons (.s _) (.cons (.s _) (.cons (.s _) (.cons (du _) (.cons (du _) (.cons (jd _) (.cons (.s _) .nil))))))))))))))
theorem PX(x:bx):∀ a∈bH x,Tr a:=.cons (acT _) (pB _)
theorem P8(l:List bx):Tr (cF l):=.sl (.flat PX)
theorem kQ(x:al):∀ a∈aM x,Tr a:=.cons (.s _) (.cons (.s _) (.cons (.s _) (.cons (.s _) (.cons (oW _) (.cons (oW _) (.cons (fS _) (.cons (P8 _) .nil)))))))
theorem Cj{p q:D}(hp:Tr p)(hq:Tr q)(x:al):∀ a∈aW p q x,Tr a:=.cons (.s _) (.cons (.s _) (.cons (.s _) (.cons (.s _) (.cons (oW _) (.cons (oW _) (.cons (fS _) (.cons (P8 _) (.cons hp (.cons hq .nil)))))))))
theorem kb{p q:D}(hp:Tr p)(hq:Tr q)(x:al):Tr (.agg (aW p q x)):=.agg (Cj hp hq x)
theorem rO{p q:D}{f:al}(h1:p.one=true)(h2:q.one=true):(aW p q f).all D.one=true:=by
 simp only[aW,List.all_cons,List.all_nil,h1,h2];rfl
abbrev cM(n:Int):D:=.s (.int .u64 n)
abbrev gq(w:List Int):D:=.agg (w.map cM)
theorem nF(w:List Int):(w.map cM).all D.one=true:=bS.2 fun x hx=>by obtain⟨y,_,rfl⟩:=List.mem_map.1 hx;rfl
theorem aaO{w:List Int}{i:Nat}{x:Int}:((w.map cM).set i (cM x)).all D.one=true:=by rw[<- List.map_set];exact nF _
theorem p7(w:List Int):Tr (gq w):=.agg (.map fun _=>.s _)
def wq(a b:Int):Int:=lA .and .u64 a b
def NX(a b:Int):Int:=lA .or .u64 a b
def Dd(w:List Int)(m:Nat):List Int:=w.set (m / 64) (NX (w.getD (m / 64) 0) (IntKind.u64.wrap (1*2 ^ (min (m % 64) 64))))
def p6(w:List Int)(m:Nat):Bool:=wq ((w.getD (m / 64) 0).fdiv (2 ^ (min (m % 64) 64))) 1==1
def qY(w:List Int)(n:Int):List Int:=if 0<=n then Dd w n.toNat else w
def gU(w v:List Int):Nat->List Int
 |0=>w
 |k+1=>(gU w v k).set k (wq ((gU w v k).getD k 0) (v.getD k 0))
def mC(w v:List Int):List Int:=gU w v 20
@[simp] theorem P9 (w v : List Int) : ∀ k, (gU w v k).length = w.length
 |0=>rfl
 |k+1=>by simp[gU,P9 w v k]
@[simp] theorem amn (w : List Int) (m : Nat) : (Dd w m).length = w.length := by simp [Dd]
@[simp] theorem amo (w : List Int) (n : Int) : (qY w n).length = w.length := by unfold qY; split <;> simp
@[simp] theorem PZ (w v : List Int) : (mC w v).length = w.length := P9 w v 20
theorem wrap_i64{n:Nat}(h:n<2 ^ 62):IntKind.i64.wrap (n:Int)=n:=by
 unfold IntKind.wrap;simp[IntKind.signed,IntKind.bits];omega
theorem Tm{m:Nat}(h:m<2 ^ 62):IntKind.i64.wrap ((m:Int).tdiv 64)=((m / 64:Nat):Int):=by
 rw[show(m:Int).tdiv 64=((m / 64:Nat):Int) from by rw[Int.tdiv_eq_ediv_of_nonneg oG];omega];exact wrap_i64 oG
theorem Tn(m:Nat):(m:Int).tmod 64=((m % 64:Nat):Int):=by rw[Int.tmod_eq_emod_of_nonneg oG];omega
theorem ib(a b:Int):(a==b)=decide (a=b):=rfl
def ju(n a b:Int):Bool:=decide (a<=n)&&decide (n<=b)
def Fh(b:Int):Bool:=decide (b<33)||decide (126<b)
def n5(s:ByteArray):Bool:=ju s.size 1 120&& !(qH s).any Fh
def Fi(b:Int):Bool:=(decide (b<97)||decide (122<b))&&(decide (b<48)||decide (57<b))
def isName(s:ByteArray):Bool:=ju s.size 1 12&& !(qH s).any Fi
def Ci(C k:Int):Bool:=decide (k<1)||decide (C<k)
def tJ(l:List Int)(C:Int):Bool:= !l.any (Ci C)
def dy(l:List Int)(r:Int):Int:=if 0<=r then l.getD r.toNat 0 else 0
theorem JC{l:List Int}{i:Nat}{x:Int}(h:l[i]? =some x):dy l i=x:=by
 simp[dy,dx,h]
theorem P4{l:List Int}{r:Int}(h:¬ (0<=r/\r<l.length)):dy l r=0:=by
 unfold dy;split
 .rename_i h0;have:l.length<=r.toNat:=by omega
  simp[dx,List.getElem?_eq_none this]
 .rfl
theorem kU{n a b:Int}:ju n a b=true↔a<=n/\n<=b:=by simp[ju]
theorem ZY{n a b:Int}:ju n a b=false↔¬ (a<=n/\n<=b):=by
 rw[<- Bool.not_eq_true,kU]
def n6(l:List Int)(r:Int):Bool:=dy l r==1||dy l r==2
def qO(l rs:List Int):Bool:=rs.all (n6 l)
def yk(l cm:List Int)(r n:Int):Bool:=ju n 0 (cm.length - 1)&&(dy l r==dy cm n)
def o4(l:List Int)(r want of:Int):Bool:=
 if want=0 then r==0 else if want=1 then dy l r==1 else if want=2 then dy l r==2 else if want=3 then n6 l r
 else dy l r !=0&&dy l r==of
structure Shape where
 to:Int
 a:Int
 b:Int
 args:Int
 low:Int
 high:Int
def jy(s:Shape):List D:=[I s.to,I s.a,I s.b,I s.args,I s.low,I s.high]
@[simp] theorem amf (x : Shape) : (jy x).length = 6 := rfl
theorem P6(x:Shape):∀ a∈jy x,Tr a:=.cons (.s _) (.cons (.s _) (.cons (.s _) (.cons (.s _) (.cons (.s _) (.cons (.s _) .nil)))))
def zZ(l:List Int)(x:cW)(s:Shape):Int:=if s.to=0\/s.to=1 then dy l x.a else dy l x.to
def wZ(l:List Int)(x:cW)(s:Shape):Bool:=if s.args=5 then ju x.args.length 1 6&&qO l x.args else if s.args=6 then decide ((x.args.length:Int)=1)&&qO l x.args else decide ((x.args.length:Int)=0)
def vq(l:List Int)(x:cW)(s:Shape):Bool:=
 o4 l x.to s.to 0&&(o4 l x.a s.a (zZ l x s)&&(o4 l x.b s.b (zZ l x s)&&(wZ l x s&&ju x.n s.low s.high)))
def qe(l:List (Int×Shape)):List (Value×D):=l.map fun x=>(.int .u8 x.1,.agg (jy x.2))
def Ae:Shape:=⟨0,0,0,0,0,0⟩
def jz(l:List (Int×Shape))(op:Int):Option Shape:=(l.find? fun x=>x.1==op).map (·.2)
def n7:List (Int×Shape):=[(1,⟨1,0,0,0, -1000000000,1000000000⟩),(2,⟨3,4,0,0,0,0⟩),(3,⟨1,1,1,0,0,0⟩),(4,⟨1,1,1,0,0,0⟩),(5,⟨1,3,4,0,0,0⟩),(6,⟨1,1,1,0,0,0⟩),(7,⟨1,1,1,0,0,0⟩),(8,⟨1,1,0,0,0,0⟩),
 (9,⟨2,0,0,0,0,1⟩),(10,⟨2,0,0,5,0,5⟩),(11,⟨3,2,0,0,0,5⟩),(12,⟨0,2,3,0,0,5⟩),(13,⟨1,2,0,0,0,0⟩),(14,⟨1,2,0,0,0,0⟩),(15,⟨0,1,0,0,0,0⟩)]
def ni:List (Int×Shape):=[(30,⟨1,1,1,0,0,0⟩),(31,⟨1,1,1,0,0,0⟩),(32,⟨1,1,1,0,0,0⟩),(33,⟨1,1,1,0,0,0⟩),(34,⟨1,1,1,0,0,0⟩),(35,⟨0,2,3,0,0,0⟩),(36,⟨3,2,0,0,0,0⟩),(37,⟨3,2,1,0,0,0⟩),(38,⟨0,2,1,6,0,0⟩)]
theorem AP(l:List (Int×Shape)):Tr (.im (qe l)):=.im fun x hx=>by
 obtain⟨y,_,rfl⟩:=List.mem_map.1 hx;exact .agg (P6 _)
theorem R2(op:Int):∀ l:List (Int×Shape),(cN (.int .u8 op) (qe l)).map (·.2)=(jz l op).map fun s=>.agg (jy s)
 |[]=>rfl
 |(o,s)::l=>by
  have ih:=R2 op l;unfold qe at ih ⊢;simp only[List.map_cons,cN,kM,pX,jz,List.find?_cons] at ih ⊢;by_cases h:o=op
  .subst h;simp
  .have hb:(o==op)=false:=by simpa using h
   simp only[hb,beq_self_eq_true,Bool.and_false,Bool.false_eq_true,if_false,Option.map_map] at ih ⊢;exact ih
theorem SN{P:Program}{t:TypeId}{C:D}(hz:lN P (lh P t)=C)(op:Int)(l:List (Int×Shape))(J:C=.agg (jy Ae)):fv P t true (cN (.int .u8 op) (qe l))=.aL [.agg (jy ((jz l op).getD Ae)),.s (.bool (jz l op).isSome)]:=by
 have h:=R2 op l;cases h1:cN (.int .u8 op) (qe l) with
 |none=>
  rw[h1] at h;have:jz l op=none:=by simpa using h.symm
  simp only[fv,this,hz,J,Option.getD_none,Option.isSome_none,if_true]
 |some x=>
  rw[h1] at h;cases h2:jz l op with
  |none=>rw[h2] at h;simp at h
  |some s=>
   rw[h2] at h;obtain⟨i,d⟩:=x;simp only[Option.map_some,aG] at h;subst h;simp[fv]
theorem R1{P:Program}{kt:TypeId}(hk:P.underlying kt=some (.int .u8))(l:List (Int×Shape)):(qe l).all (fun e=>cC P kt e.1)=true:=by
 refine bS.2 fun x hx=>?_;obtain⟨y,_,rfl⟩:=List.mem_map.1 hx;simp[cC,hk]
def dt(a b:Int):Bool:=decide (a=b)
def tU(x:cW):Bool:=decide ((x.args.length:Int)=0)
def k6(f:al)(b:Int)(x:cW)(phis:Bool)(ahead:Int):Bool:=
 if x.op=16 then dt x.to 0&&(dt (dy f.aT x.a) 3&&(dt x.b 0&&(dt x.n 0&&tU x)))
 else if x.op=17 then dt x.a 0&&(dt x.b 0&&(tU x&&yk f.aT f.cm x.to x.n))
 else if x.op=18 then dt x.to 0&&(dt x.b 0&&(tU x&&yk f.aT f.cm x.a x.n))
 else if x.op=19 then phis&&(decide (0<b)&&(n6 f.aT x.to&&(dt x.a 0&&(dt x.b 0&&(dt x.n 0&&(dt x.args.length ahead&& !x.args.any fun r=> !dt (dy f.aT r) (dy f.aT x.to)))))))
 else(jz n7 x.op).isSome&&vq f.aT x ((jz n7 x.op).getD Ae)
def Gs(x:cW):Bool:=decide (x.op=0)&&(decide (x.to=0)&&(decide (x.a=0)&&(decide (x.b=0)&&(decide (x.n=0)&&decide ((x.args.length:Int)=0)))))
def vU(x:End):Bool:=decide (x.kind=0)&&(decide (x.a=0)&&(decide (x.b=0)&&(decide (x.to=0)&&(decide (x.gN=0)&&(x.name.toList==[]&&(decide (x.others= -1)&&(decide ((x.args.length:Int)=0)&&(decide ((x.aR.length:Int)=0)&&Gs x.ins))))))))
def eh(f:al)(n:Int):Bool:=ju n 0 (f.blocks.length - 1)
def q7(f:al)(wsq:List iR)(i:Nat)(w:iR):Bool:=isName w.name&&(eh f w.to&& !(wsq.take i).any fun v=>v.name.toList==w.name.toList)
def Gt(f:al)(wsq:List iR):Bool:=wsq.zipIdx.all fun x=>q7 f wsq x.2 x.1
theorem Xx{f:al}{wsq:List iR}(h:∀ (i:Nat) w,wsq[i]? =some w->q7 f wsq i w=true):Gt f wsq=true:=by
 refine bS.2 fun x hx=>?_;obtain⟨h1,h2⟩:=List.mem_zipIdx' hx;exact h x.2 x.1 (by rw[h2];simp[h1])
theorem W2{f:al}{wsq:List iR}{i:Nat}{w:iR}(C:wsq[i]? =some w)(h:q7 f wsq i w=false):Gt f wsq=false:=by
 refine Bool.eq_false_iff.2 fun ht=>?_;have hx:(w,i)∈wsq.zipIdx:=List.mem_zipIdx_iff_getElem?.2 C;have:=bS.1 ht _ hx;rw[h] at this;cases this
def nX(f:al)(x:End):Bool:=Gt f x.aR&&(decide ((x.aR.length:Int)<=7)&&(decide (x.others= -1)||eh f x.others))
def xH:cW:=⟨0,0,0,0,0,[]⟩
def eD(f:al)(x:End):Bool×End:=
 let r:End:={ x with kind:=0 }
 if x.kind=1 then(eh f x.to,{ r with to:=0 })
 else if x.kind=2 then(dt (dy f.aT x.a) 1&&(eh f x.to&&eh f x.gN),{ r with a:=0,to:=0,gN:=0 })
 else if x.kind=3 then(if f.result≠0/\f.iter=false then dt (dy f.aT x.a) f.result else dt x.a (-1),{ r with a:=0 })
 else if x.kind=4 then(isName x.name,{ r with name:=.empty })
 else if x.kind=5 then((jz ni x.ins.op).isSome&&(vq f.aT x.ins ((jz ni x.ins.op).getD Ae)&&(eh f x.to&&nX f x)),{ r with ins:=xH,to:=0,aR:=[],others:= -1 })
 else if x.kind=6 then(n5 x.name&&(decide ((x.args.length:Int)<=6)&&(qO f.aT x.args&&((dt x.a (-1)||n6 f.aT x.a)&&(eh f x.to&&nX f x)))),{ r with name:=.empty,args:=[],a:=0,to:=0,aR:=[],others:= -1 })
 else if x.kind=7 then(n5 x.name&&(decide ((x.args.length:Int)<=6)&&(qO f.aT x.args&&(dt (dy f.aT x.a) 3&&eh f x.to))),{ r with name:=.empty,args:=[],a:=0,to:=0 })
 else if x.kind=8 then(dt (dy f.aT x.a) 3&&(n6 f.aT x.b&&(eh f x.to&&(eh f x.gN&&nX f x))),{ r with a:=0,b:=0,to:=0,gN:=0,aR:=[],others:= -1 })
 else if x.kind=9 then(f.iter&&(dt (dy f.aT x.a) f.result&&eh f x.to),{ r with a:=0,to:=0 })
 else(false,r)
def bO(l:List Int)(n:Int):Bool:=l.any fun c=>n==c
def mX(n:Int):Int:=1200+n
def tC:List Int:=[1,2,3,4,5,6,7,8,9,10,11,13,14,17,19]
def xf:List Int:=[30,31,32,33,34,36,37]
def ka(x:cW):Int:=if bO tC x.op then x.to else if bO xf x.op then x.to else -1
def jO(x:End):Int:=if x.kind=5 then ka x.ins else if bO [6,7] x.kind then x.a else if x.kind=8 then x.b else -1
def tM:List Int:=[2,8,11,13,14,15,16,18,36]
def xr:List Int:=[3,4,5,6,7,12,30,31,32,33,34,35,37]
def dZ(x:cW):List Int:=if bO tM x.op then [x.a] else if bO xr x.op then [x.a,x.b] else if x.op=10 then x.args else if x.op=38 then x.a::x.b::x.args else []
def dT(x:End):List Int:=if bO [2,8,9] x.kind then [x.a] else if x.kind=3 then(if x.a≠ -1 then [x.a] else []) else if x.kind=5 then dZ x.ins else if bO [6,7] x.kind then x.args else []
def jh(f:al)(x:End):Bool:=(eD f x).1&&vU (eD f x).2
end Go.Argus
namespace Go.Argus
section
variable{κ:Type}[DecidableEq κ]
def lC:List κ->List κ->List κ
 |acc,[]=>acc
 |acc,k::ks=>lC (if k∈acc then acc else acc++[k]) ks
def bq(ks:List κ):List κ:=lC [] ks
def br(ks:List κ):List Nat:=ks.map fun k=>(bq ks).idxOf k
theorem Oe(acc a b:List κ):lC acc (a++b)=lC (lC acc a) b:=by
 induction a generalizing acc with
 |nil=>rfl
 |cons k a ih=>simp only[List.cons_append,lC,ih]
theorem Zh(ks:List κ)(k:κ):bq (ks++[k])=if k∈bq ks then bq ks else bq ks++[k]:=by
 unfold bq;rw[Oe];rfl
theorem WD{acc ks:List κ}(h:acc.Nodup):(lC acc ks).Nodup:=by
 induction ks generalizing acc with
 |nil=>exact h
 |cons k ks ih=>
  simp only[lC];refine ih ?_;split
  .exact h
  .rename_i hk;exact List.nodup_append.2 ⟨h,oS,fun a ha b hb=>by simp at hb;subst hb;exact fun e=>hk (e▸ha)⟩
theorem W6{acc ks:List κ}{x:κ}:x∈lC acc ks↔x∈acc\/x∈ks:=by
 induction ks generalizing acc with
 |nil=>simp[lC]
 |cons k ks ih=>
  simp only[lC,ih,List.mem_cons];by_cases h:k∈acc
  .simp only[if_pos h];constructor
   .rintro(h|h)<;>simp[h]
   .rintro(h1|rfl|h1)
    .exact .inl h1
    .exact .inl h
    .exact .inr h1
  .simp only[if_neg h,List.mem_append,List.mem_cons,List.not_mem_nil,or_false,or_assoc]
theorem EP(ks:List κ):(bq ks).Nodup:=WD oS
theorem qJ{ks:List κ}{x:κ}:x∈bq ks↔x∈ks:=by unfold bq;rw[W6];simp
theorem Wy(acc ks:List κ):acc<+:lC acc ks:=by
 induction ks generalizing acc with
 |nil=>exact List.prefix_refl _
 |cons k ks ih=>
  simp only[lC];refine List.IsPrefix.trans ?_ (ih _);split
  .exact List.prefix_refl _
  .exact List.prefix_append _ _
theorem OG(a b:List κ):bq a<+:bq (a++b):=by unfold bq;rw[Oe];exact Wy _ _
theorem Pa{a b:List κ}(h:a<+:b){x:κ}(hx:x∈a):b.idxOf x=a.idxOf x:=by
 obtain⟨c,rfl⟩:=h;rw[List.idxOf_append,if_pos hx]
@[simp] theorem QN (ks : List κ) : (br ks).length = ks.length := by simp [br]
theorem vm(ks:List κ):(bq ks).length<=ks.length:=List.Nodup.length_le_of_subset (EP ks) fun x hx=>qJ.1 hx
theorem Fa{ks:List κ}{i:Nat}{k:κ}(h:ks[i]? =some k):(br ks)[i]? =some ((bq ks).idxOf k):=by simp[br,h]
theorem J4{ks:List κ}{i n:Nat}(h:(br ks)[i]? =some n):n<(bq ks).length:=by
 unfold br at h;rw[List.getElem?_map] at h;obtain⟨k,hk,rfl⟩:=cP.1 h;exact List.idxOf_lt_length_of_mem (qJ.2 (bD hk))
theorem Sa{l:List κ}{x y:κ}(hx:x∈l)(h:l.idxOf x=l.idxOf y):x=y:=by
 have h1:=List.idxOf_lt_length_of_mem hx;have e1:l[l.idxOf x]=x:=List.getElem_idxOf h1;have h2:l.idxOf y<l.length:=h▸h1;have e2:l[l.idxOf y]=y:=List.getElem_idxOf h2;rw[<- e1, <- e2];congr 1
theorem Jz{ks:List κ}{i j:Nat}{a b:κ}(hi:ks[i]? =some a)(hj:ks[j]? =some b):(br ks)[i]? =(br ks)[j]? ↔a=b:=by
 rw[Fa hi,Fa hj];constructor
 .intro h;exact Sa (qJ.2 (bD hi)) (by simpa using h)
 .rintro rfl;rfl
end
section
variable{κ ι:Type}[DecidableEq κ][DecidableEq ι]
theorem Qg{a:List κ}{b:List ι}{g:ι->κ}(h:a=b.map g):(bq a).length<=(bq b).length:=by
 have:=List.Nodup.length_le_of_subset (EP a) (l₂:=(bq b).map g) fun x hx=>by
  rw[qJ,h] at hx;obtain⟨y,hy,rfl⟩:=List.mem_map.1 hx;exact List.mem_map_of_mem (qJ.2 hy)
 simpa using this
theorem Cb(ks:List κ):(bq (br ks)).length=(bq ks).length:=by
 refine Nat.le_antisymm (Qg (g:=fun k=>(bq ks).idxOf k) rfl) ?_
 have hn:((bq ks).map fun k=>(bq ks).idxOf k).Nodup:=by
  refine List.pairwise_map.2 ((EP ks).imp_of_mem fun {a b} ha hb C e=>C (Sa ha e))
 have:=List.Nodup.length_le_of_subset hn (l₂:=bq (br ks)) fun x hx=>by
  obtain⟨k,hk,rfl⟩:=List.mem_map.1 hx;rw[qJ];exact List.mem_map_of_mem (f:=fun k=>(bq ks).idxOf k) (qJ.1 hk)
 simpa using this
end
def sF(ca:List (List Nat))(clq:List Nat)(i:Nat):List Nat:=clq.getD i 0::(ca.getD i []).map fun t=>clq.getD t 0
def fE(ca:List (List Nat))(clq:List Nat):List (List Nat):=(range ca.length).map (sF ca clq)
def xm(ca:List (List Nat)):Nat->List Nat->Nat->List Nat
 |0,clq,_=>clq
 |eb+1,clq,many=>if(bq (fE ca clq)).length=many then br (fE ca clq) else xm ca eb (br (fE ca clq)) (bq (fE ca clq)).length
def xG(sn:List Nat)(ca:List (List Nat)):List Nat:=xm ca (sn.length+1) sn (bq sn).length
@[simp] theorem aml (ca : List (List Nat)) (clq : List Nat) : (fE ca clq).length = ca.length := by simp [fE]
theorem Pe{ca:List (List Nat)}{clq:List Nat}{i:Nat}(h:i<ca.length):(fE ca clq)[i]? =some (sF ca clq i):=by simp[fE,h]
theorem aaa{ca:List (List Nat)}{clq:List Nat}(h:clq.length=ca.length):clq=(fE ca clq).map fun k=>k.headD 0:=by
 refine List.ext_getElem? fun i=>?_;by_cases hi:i<clq.length
 .rw[List.getElem?_map,Pe oG];simp[sF,dx,hi]
 .rw[List.getElem?_eq_none oG,List.getElem?_eq_none oP]
theorem PO{ca:List (List Nat)}{clq:List Nat}(h:clq.length=ca.length):(bq clq).length<=(bq (fE ca clq)).length:=Qg (aaa h)
theorem OR{ca:List (List Nat)}{p:List Nat->Prop}(hs:∀ clq,clq.length=ca.length->p clq->p (br (fE ca clq))):∀ (eb:Nat) (clq:List Nat) (many:Nat),clq.length=ca.length->many=(bq clq).length->ca.length<eb+many->p clq->
 ∃ C,C.length=ca.length/\p C/\(bq (fE ca C)).length=(bq C).length/\xm ca eb clq many=br (fE ca C)
 |0,clq,many,h1,h2,h3,h4=>by
  have:=vm clq;omega
 |eb+1,clq,many,h1,h2,h3,h4=>by
  unfold xm;split
  .rename_i h;exact⟨clq,h1,h4,oG,rfl⟩
  .rename_i h;have:=PO h1;exact OR hs eb _ _ oS (Cb _).symm oG (hs clq h1 h4)
theorem Yz{sn:List Nat}{ca:List (List Nat)}{p:List Nat->Prop}(hl:sn.length=ca.length)(h0:p sn)(hs:∀ clq,clq.length=ca.length->p clq->p (br (fE ca clq))):
 ∃ C,C.length=ca.length/\p C/\(bq (fE ca C)).length=(bq C).length/\xG sn ca=br (fE ca C):=
 OR hs _ _ _ hl rfl oG h0
theorem rU{α:Type}{l:List α}{i:Nat}{d x:α}(h:l[i]? =some x):l.getD i d=x:=by simp[dx,h]
theorem eU{α:Type}{l:List α}{i:Nat}{d:α}(h:i<l.length):l[i]? =some (l.getD i d):=by simp[dx,h]
def DG(ca:List (List Nat)):Prop:=∀ (i:Nat) t,t∈ca.getD i []->t<ca.length
theorem PR{sn:List Nat}{ca:List (List Nat)}(hl:sn.length=ca.length):∃ ks:List (List Nat),ks.length=ca.length/\xG sn ca=br ks:=by
 obtain⟨clq,h1,h2,J,C⟩:=Yz (p:=fun _=>True) hl trivial fun _ _ _=>trivial;exact⟨_,oS,C⟩
def EX(clq:List Nat)(m:Nat):List (List Nat):=(range m).map fun k=>(range clq.length).filter fun i=>clq.getD i 0==k
theorem Zp{κ:Type}[DecidableEq κ](ks:List κ)(i:Nat):(br ks).take i=br (ks.take i):=by
 unfold br;rw[<- List.map_take];refine List.map_congr_left fun k hk=>?_
 have hp:bq (ks.take i)<+:bq ks:=by
  have:=OG (ks.take i) (ks.drop i)
  rwa[List.take_append_drop] at this
 exact Pa hp (qJ.2 hk)
def entries(c:List (List Int)):List (Int×Nat):=c.zipIdx.flatMap fun x=>x.1.map fun i=>(i,x.2)
def iS(es:List (Int×Nat))(i:Int):Bool:=es.any fun e=>e.1==i
def fi(es:List (Int×Nat))(i:Int):Nat:=match es.find? fun e=>e.1==i with
 |some e=>e.2
 |none=>0
def sL(N:Nat)(c:List (List Int))(n:Nat)(x:List Int)(k:Nat):Bool:=match x[k]? with
 |none=>true
 |some i=> !(iS (entries (c.take n)++(x.take k).map fun j=>(j,n)) i)&&(decide (0<=i)&&(decide (i<N)&&(decide (k=0)||decide (x.getD (k - 1) 0<i))))
def wY(c:List (List Int))(n:Nat):Int:=if n=0 then -1 else(c.getD (n - 1) []).headD 0
def CP(c:List (List Int))(n:Nat)(x:List Int):Bool:=match x with
 |[]=>false
 |a::_=>decide (wY c n<a)
def pT(N:Nat)(c:List (List Int))(n:Nat):Bool:=match c[n]? with
 |none=>true
 |some x=>CP c n x&&(range x.length).all (sL N c n x)
def AL(sn:List Nat)(ca:List (List Nat))(es:List (Int×Nat))(a i:Int):Bool:=
 sn.getD i.toNat 0==sn.getD a.toNat 0&&decide ((ca.getD i.toNat []).map (fun(t:Nat)=>fi es t)=(ca.getD a.toNat []).map fun(t:Nat)=>fi es t)
def tI(sn:List Nat)(ca:List (List Nat))(es:List (Int×Nat))(x:List Int):Bool:=(x.drop 1).all (AL sn ca es (x.headD 0))
def qu(sn:List Nat)(ca:List (List Nat))(c:List (List Int)):Bool:=
 (range c.length).all (pT ca.length c)&&(decide ((entries c).length=ca.length)&&c.all (tI sn ca (entries c)))
theorem Od{c:List (List Int)}{n:Nat}{x:List Int}(h:c[n]? =some x):entries (c.take (n+1))=entries (c.take n)++x.map fun i=>(i,n):=by
 have hn:n<c.length:=(bK.1 h).1;unfold entries;rw[List.take_add_one,h,List.zipIdx_append,List.flatMap_append];simp[List.length_take,Nat.min_eq_left (Nat.le_of_lt hn)]
theorem Xv{c:List (List Int)}{i:Int}{n:Nat}:(i,n)∈entries c↔∃ x,c[n]? =some x/\i∈x:=by
 unfold entries;simp only[List.mem_flatMap,List.mem_map,bP];constructor
 .rintro⟨⟨x,m⟩,hx,j,hj,rfl,rfl⟩;exact⟨x,List.mem_zipIdx_iff_getElem?.1 hx,hj⟩
 .rintro⟨x,hx,hi⟩;exact⟨(x,n),List.mem_zipIdx_iff_getElem?.2 hx,i,hi,rfl,rfl⟩
theorem abN{es:List (Int×Nat)}{i:Int}:iS es i=true↔∃ n,(i,n)∈es:=by
 unfold iS;rw[List.any_eq_true];constructor
 .rintro⟨⟨j,n⟩,h,e⟩;simp at e;subst e;exact⟨n,h⟩
 .rintro⟨n,h⟩;exact⟨_,h,oS⟩
theorem aab{es:List (Int×Nat)}{i:Int}:iS es i=true↔i∈es.map (·.1):=by
 rw[abN,List.mem_map];constructor
 .rintro⟨n,h⟩;exact⟨_,h,rfl⟩
 .rintro⟨⟨j,n⟩,h,rfl⟩;exact⟨n,h⟩
theorem Pf{N:Nat}{c:List (List Int)}(h:(range c.length).all (pT N c)=true):∀ n,n<=c.length->((entries (c.take n)).map (·.1)).Nodup/\∀ e∈entries (c.take n),0<=e.1/\e.1<N
 |0,_=>⟨by simp[entries],by simp[entries]⟩
 |n+1,hn=>by
  obtain⟨h1,h2⟩:=Pf h n oG;obtain⟨x,hx⟩:∃ x,c[n]? =some x:=⟨_,aU oG⟩
  have hr:=bS.1 h n (List.mem_range.2 oG);unfold pT at hr;rw[hx] at hr;simp only[bf] at hr
  have hk:∀ k,k<=x.length->((entries (c.take n)++(x.take k).map fun i=>(i,n)).map (·.1)).Nodup/\∀ e∈entries (c.take n)++(x.take k).map fun i=>(i,n),0<=e.1/\e.1<N:=by
   intro k
   induction k with
   |zero=>intro _;simpa using⟨h1,fun a b h=>h2 (a,b) h⟩
   |succ k ih=>
    intro hk;obtain⟨C,J⟩:=ih oG;obtain⟨i,hi⟩:∃ i,x[k]? =some i:=⟨_,aU oG⟩
    have he:=bS.1 hr.2 k (List.mem_range.2 oG);unfold sL at he;rw[hi] at he;simp only[bf,Bool.not_eq_true',decide_eq_true_eq] at he;obtain⟨e1,e2,e3,_⟩:=he;rw[List.take_add_one,hi];simp only[Option.toList_some,List.map_append,List.map_cons,List.map_nil, <- List.append_assoc];refine⟨?_,fun e he=>?_⟩
    .rw[<- List.map_append];refine List.nodup_append.2 ⟨C,oS,fun a ha b hb=>?_⟩;simp only[List.mem_cons,List.not_mem_nil,or_false] at hb;subst hb;rintro rfl;rw[<- aab,e1] at ha;cases ha
    .rw[List.mem_append] at he;rcases he with he|he
     .exact J e he
     .simp only[List.mem_cons,List.not_mem_nil,or_false] at he;subst he;exact⟨e2,e3⟩
  have:=hk x.length (a8 _);rw[List.take_length] at this
  rwa[Od hx]
abbrev ao(l:List Nat):List Int:=l.map fun(n:Nat)=>(n:Int)
def iD(clq:List Nat)(m:Nat):List (List Int):=(EX clq m).map ao
theorem aa'{clq:List Nat}{m n:Nat}(h:n<m):(iD clq m)[n]? =some (ao ((range clq.length).filter fun i=>clq.getD i 0==n)):=by
 unfold iD EX;simp[h]
theorem aa9(clq:List Nat)(m:Nat):(iD clq m).length=m:=by simp[iD,EX]
section
variable{κ:Type}[DecidableEq κ]
theorem Zx{ks:List κ}{n:Nat}(h:n<(bq ks).length):∃ j:Nat,(br ks)[j]? =some n:=by
 obtain⟨q,hq⟩:∃ q,(bq ks)[n]? =some q:=⟨_,aU h⟩
 have C:q∈bq ks:=bD hq;obtain⟨j,hj⟩:=eS (qJ.1 C);refine⟨j,?_⟩;rw[Fa hj];have h1:=List.idxOf_lt_length_of_mem C;have h2:(bq ks)[(bq ks).idxOf q]? =some q:=by rw[aU h1,List.getElem_idxOf]
 exact congrArg some ((List.getElem?_inj h1 (EP ks)).1 (h2.trans hq.symm))
end
def atR(c:List (List Int))(n:Int):Int:=mH (fun x=>x.any fun i=>i==n) c
abbrev PW:=(Nat×Nat)×List Nat
def oa(ca:List (List Nat))(p:Nat×Nat)(k:Nat):Nat×Nat:=((ca.getD p.1 []).getD k 0,(ca.getD p.2 []).getD k 0)
def vS(ca:List (List Nat))(fr:Nat×Nat)(x:PW)(st:List (Nat×Nat)×List PW)(k:Nat):List (Nat×Nat)×List PW:=
 if oa ca x.1 k≠fr/\oa ca x.1 k∉st.1 then(st.1++[oa ca x.1 k],st.2++[(oa ca x.1 k,x.2++[k])]) else st
def oX(ca:List (List Nat))(fr:Nat×Nat)(x:PW)(st:List (Nat×Nat)×List PW)(n:Nat):List (Nat×Nat)×List PW:=(range n).foldl (vS ca fr x) st
def vQ(sn:List Nat)(ca:List (List Nat))(fr:Nat×Nat)(st:List (Nat×Nat)×List PW):List (Nat×Nat)×List PW:=match st.2 with
 |[]=>st
 |x::_=>if sn.getD x.1.1 0=sn.getD x.1.2 0 then((oX ca fr x st (ca.getD x.1.1 []).length).1,(oX ca fr x st (ca.getD x.1.1 []).length).2.drop 1) else(st.1,st.2.drop 1)
def sq(sn:List Nat)(ca:List (List Nat))(fr:Nat×Nat):Nat->List (Nat×Nat)×List PW->List PW
 |0,_=>[]
 |f+1,st=>match st.2 with
  |[]=>[]
  |x::_=>x::sq sn ca fr f (vQ sn ca fr st)
def pU(sn:List Nat)(ca:List (List Nat))(a b:Nat):List PW:=sq sn ca (a,b) (ca.length*ca.length+2) ([],[((a,b),[])])
def Gr(sn:List Nat)(ca:List (List Nat))(a b:Nat):Option PW:=(pU sn ca a b).find? fun x=>sn.getD x.1.1 0 !=sn.getD x.1.2 0
section
variable{sn:List Nat}{ca:List (List Nat)}
inductive sM(sn:List Nat)(ca:List (List Nat))(fr:Nat×Nat):List Nat->Nat×Nat->Prop
 |nil:sM sn ca fr [] fr
 |snoc (w:List Nat) (p:Nat×Nat) (k:Nat) (h:sM sn ca fr w p) (hs:sn.getD p.1 0=sn.getD p.2 0) (hk:k<(ca.getD p.1 []).length):sM sn ca fr (w++[k]) (oa ca p k)
structure BI(sn:List Nat)(ca:List (List Nat))(fr:Nat×Nat)(Y:List PW)(S:List (Nat×Nat))(O:List PW):Prop where
 lead:∀ x∈Y++O,sM sn ca fr x.2 x.1
 pR:(Y++O).map (·.1)=fr::S
 nodup:(fr::S).Nodup
 zE:(Y++O).Pairwise fun x y=>x.2.length<=y.2.length
 Ms:∀ x∈O,∀ y∈O,x.2.length<=y.2.length+1
 done:∀ x∈Y,sn.getD x.1.1 0=sn.getD x.1.2 0->∀ k,k<(ca.getD x.1.1 []).length->∃ y∈Y++O,y.1=oa ca x.1 k/\y.2.length<=x.2.length+1
theorem J9{fr:Nat×Nat}{x:PW}(hs:sn.getD x.1.1 0=sn.getD x.1.2 0)(hx:sM sn ca fr x.2 x.1){Y:List PW}:∀ (n:Nat) {S:List (Nat×Nat)} {O:List PW},n<=(ca.getD x.1.1 []).length->BI sn ca fr Y S (x::O)->
 ∃ C:List PW,(oX ca fr x (S,x::O) n).2=x::C/\BI sn ca fr Y (oX ca fr x (S,x::O) n).1 (x::C)/\(∀ y∈C,y.2.length<=x.2.length+1)/\∀ k,k<n->∃ y∈Y++x::C,y.1=oa ca x.1 k/\y.2.length<=x.2.length+1
 |0,S,O,_,h=>⟨O,rfl,h,fun y hy=>h.Ms y (List.mem_cons_of_mem _ hy) x oS,fun k hk=>by omega⟩
 |n+1,S,O,hn,h=>by
  obtain⟨C,h1,h2,M,h4⟩:=J9 hs hx n (S:=S) (O:=O) oG h;have hE:oX ca fr x (S,x::O) (n+1)=vS ca fr x (oX ca fr x (S,x::O) n) n:=by unfold oX;rw[List.range_succ,List.foldl_append];rfl
  have hp:oX ca fr x (S,x::O) n=((oX ca fr x (S,x::O) n).1,x::C):=by rw[<- h1]
  generalize (oX ca fr x (S,x::O) n).1=S' at*
  rw[hE,hp]
  have J:∀ y∈Y++x::C,y.2.length<=x.2.length+1:=fun y hy=>by
   rcases List.mem_append.1 hy with hy|hy
   .have:=(List.pairwise_append.1 h2.zE).2.2 y hy x oS;omega
   .rcases List.mem_cons.1 hy with rfl|hy
    .omega
    .exact M y hy
  unfold vS;split
  .rename_i hq;refine⟨C++[(oa ca x.1 n,x.2++[n])],rfl,⟨fun y hy=>?_,?_,?_,?_,fun y hy z hz=>?_,fun y hy BQ k hk=>?_⟩,fun y hy=>?_,fun k hk=>?_⟩
   .rw[<- List.cons_append, <- List.append_assoc,List.mem_append] at hy;rcases hy with hy|hy
    .exact h2.lead y hy
    .simp only[List.mem_cons,List.not_mem_nil,or_false] at hy;subst hy;exact .snoc _ _ _ hx hs oG
   .rw[<- List.cons_append, <- List.append_assoc,List.map_append,h2.pR];rfl
   .rw[<- List.cons_append];refine List.nodup_append.2 ⟨h2.nodup,oS,fun a ha b hb=>?_⟩;simp only[List.mem_cons,List.not_mem_nil,or_false] at hb;subst hb;rintro rfl;rcases List.mem_cons.1 ha with e|e
    .exact hq.1 e
    .exact hq.2 e
   .rw[<- List.cons_append, <- List.append_assoc];refine List.pairwise_append.2 ⟨h2.zE,oS,fun a ha b hb=>?_⟩;simp only[List.mem_cons,List.not_mem_nil,or_false] at hb;subst hb;have:=J a ha;simp;omega
   .have Bz:∀ u∈x::(C++[(oa ca x.1 n,x.2++[n])]),x.2.length<=u.2.length/\u.2.length<=x.2.length+1:=fun u hu=>by
     rw[<- List.cons_append,List.mem_append] at hu;rcases hu with hu|hu
     .refine⟨?_,J u (List.mem_append_right _ hu)⟩;rcases List.mem_cons.1 hu with rfl|hu
      .exact a8 _
      .exact(List.pairwise_cons.1 (List.pairwise_append.1 h2.zE).2.1).1 u hu
     .simp only[List.mem_cons,List.not_mem_nil,or_false] at hu;subst hu;simp
    have:=(Bz y hy).2;have:=(Bz z hz).1;omega
   .obtain⟨z,hz,U⟩:=h2.done y hy BQ k hk;exact⟨z,by rw[<- List.cons_append, <- List.append_assoc];exact List.mem_append_left _ hz,U⟩
   .rcases List.mem_append.1 hy with hy|hy
    .exact M y hy
    .simp only[List.mem_cons,List.not_mem_nil,or_false] at hy;subst hy;simp
   .by_cases X:k=n
    .subst X;exact⟨(oa ca x.1 k,x.2++[k]),oS,rfl,oS⟩
    .obtain⟨z,hz,U⟩:=h4 k oG;exact⟨z,by rw[<- List.cons_append, <- List.append_assoc];exact List.mem_append_left _ hz,U⟩
  .rename_i hq;refine⟨C,rfl,h2,M,fun k hk=>?_⟩;by_cases X:k=n
   .subst X
    have hm:oa ca x.1 k∈fr::S':=by
     refine Classical.byContradiction fun hc=>hq ⟨fun e=>hc (by rw[e];simp),fun e=>hc (List.mem_cons_of_mem _ e)⟩
    rw[<- h2.pR,List.mem_map] at hm;obtain⟨z,hz,e⟩:=hm;exact⟨z,hz,e,J z hz⟩
   .exact h4 k oG
theorem RQ{fr:Nat×Nat}{Y:List PW}{S:List (Nat×Nat)}{x:PW}{O:List PW}(h:BI sn ca fr Y S (x::O)):BI sn ca fr (Y++[x]) (vQ sn ca fr (S,x::O)).1 (vQ sn ca fr (S,x::O)).2:=by
 have C:∀ A B:List PW,A++x::B=(A++[x])++B:=fun A B=>by simp
 unfold vQ;simp only;split
 .rename_i hs;obtain⟨U,h1,h2,X,M⟩:=J9 hs (h.lead x oS) (ca.getD x.1.1 []).length (a8 _) h;rw[h1];refine⟨by rw[<- C];exact h2.lead,by rw[<- C];exact h2.pR,h2.nodup,by rw[<- C];exact h2.zE,fun y hy z hz=>h2.Ms y (List.mem_cons_of_mem _ hy) z (List.mem_cons_of_mem _ hz),fun y hy J k hk=>?_⟩;rw[List.drop_succ_cons,List.drop_zero, <- C];rcases List.mem_append.1 hy with hy|hy
  .exact h2.done y hy J k hk
  .simp only[List.mem_cons,List.not_mem_nil,or_false] at hy;subst hy;exact M k hk
 .rename_i hs;refine⟨by rw[<- C];exact h.lead,by rw[<- C];exact h.pR,h.nodup,by rw[<- C];exact h.zE,fun y hy z hz=>h.Ms y (List.mem_cons_of_mem _ hy) z (List.mem_cons_of_mem _ hz),fun y hy J k hk=>?_⟩;rw[List.drop_succ_cons,List.drop_zero, <- C];rcases List.mem_append.1 hy with hy|hy
  .exact h.done y hy J k hk
  .simp only[List.mem_cons,List.not_mem_nil,or_false] at hy;subst hy;exact absurd J hs
theorem J8(C:DG ca)(hlen:∀ a b,a<ca.length->b<ca.length->sn.getD a 0=sn.getD b 0->(ca.getD a []).length=(ca.getD b []).length){fr:Nat×Nat}(h1:fr.1<ca.length)(h2:fr.2<ca.length){w:List Nat}{p:Nat×Nat}(h:sM sn ca fr w p):p.1<ca.length/\p.2<ca.length:=by
 induction h with
 |nil=>exact⟨h1,h2⟩
 |snoc w p k h hs hk ih=>
  have J:k<(ca.getD p.2 []).length:=by rw[<- hlen p.1 p.2 ih.1 ih.2 hs];exact hk
  exact⟨C p.1 _ (bD (eU hk)),C p.2 _ (bD (eU J))⟩
theorem Gq{N:Nat}{fr:Nat×Nat}{Y:List PW}{S:List (Nat×Nat)}{O:List PW}(h:BI sn ca fr Y S O)(af:∀ w p,sM sn ca fr w p->p.1<N/\p.2<N):Y.length+O.length<=N*N:=by
 have h1:((fr::S).map fun p=>p.1*N+p.2).Nodup:=by
  refine List.pairwise_map.2 (h.nodup.imp_of_mem fun {a b} ha hb J e=>J ?_);rw[<- h.pR,List.mem_map] at ha hb;obtain⟨x,hx,rfl⟩:=ha;obtain⟨y,hy,rfl⟩:=hb;have a1:=af _ _ (h.lead x hx);have a2:=af _ _ (h.lead y hy);have C:0<N:=by omega
  have e1:(x.1.1*N+x.1.2) / N=x.1.1:=by rw[Nat.mul_comm,Nat.mul_add_div C,Nat.div_eq_of_lt a1.2,Nat.add_zero]
  have e2:(y.1.1*N+y.1.2) / N=y.1.1:=by rw[Nat.mul_comm,Nat.mul_add_div C,Nat.div_eq_of_lt a2.2,Nat.add_zero]
  have e3:(x.1.1*N+x.1.2) % N=x.1.2:=by rw[Nat.mul_comm,Nat.mul_add_mod,Nat.mod_eq_of_lt a1.2]
  have e4:(y.1.1*N+y.1.2) % N=y.1.2:=by rw[Nat.mul_comm,Nat.mul_add_mod,Nat.mod_eq_of_lt a2.2]
  exact Prod.ext (by rw[<- e1,e,e2]) (by rw[<- e3,e,e4])
 have:=List.Nodup.length_le_of_subset h1 (l₂:=range (N*N)) fun v hv=>by
  obtain⟨p,hp,rfl⟩:=List.mem_map.1 hv;rw[<- h.pR,List.mem_map] at hp;obtain⟨x,hx,rfl⟩:=hp;have a1:=af _ _ (h.lead x hx);refine List.mem_range.2 ?_
  have:x.1.1*N+N<=N*N:=by
   rw[<- Nat.succ_mul];exact Nat.mul_le_mul_right _ a1.1
  omega
 have e:=congrArg List.length h.pR;simp at e this;omega
theorem Sb{fr:Nat×Nat}{N:Nat}(af:∀ w p,sM sn ca fr w p->p.1<N/\p.2<N):∀ (f:Nat) {Y:List PW} {st:List (Nat×Nat)×List PW},BI sn ca fr Y st.1 st.2->N*N<f+Y.length->∃ S,BI sn ca fr (Y++sq sn ca fr f st) S []
 |0,Y,st,h,hf=>by
  have:=Gq h af;omega
 |f+1,Y,(S,[]),h,hf=>⟨S,by simpa[sq] using h⟩
 |f+1,Y,(S,x::O),h,hf=>by
  obtain⟨C,h'⟩:=Sb af f (RQ h) oP;refine⟨C,?_⟩;simpa[sq] using h'
end
def Lb(sn:List Nat)(ca:List (List Nat)):Prop:=∀ a b,a<ca.length->b<ca.length->sn.getD a 0=sn.getD b 0->(ca.getD a []).length=(ca.getD b []).length
section
variable{sn:List Nat}{ca:List (List Nat)}{a b:Nat}
theorem RT(C:DG ca)(hlen:Lb sn ca)(ha:a<ca.length)(hb:b<ca.length):∃ S,BI sn ca (a,b) (pU sn ca a b) S []:=by
 have h0:BI sn ca (a,b) [] [] [((a,b),[])]:=by
  refine⟨fun x hx=>?_,rfl,oS,oS,fun x hx y hy=>?_,fun x hx=>by simp at hx⟩
  .simp only[List.nil_append,List.mem_cons,List.not_mem_nil,or_false] at hx;subst hx;exact .nil
  .simp only[List.mem_cons,List.not_mem_nil,or_false] at hx hy;subst hx hy;omega
 obtain⟨S,h⟩:=Sb (N:=ca.length) (fun w p=>J8 C hlen ha hb) (ca.length*ca.length+2) (Y:=[]) (st:=([],[((a,b),[])])) h0 oS;exact⟨S,by rw[List.nil_append] at h;exact h⟩
end
section
variable{sn:List Nat}{ca:List (List Nat)}{a b:Nat}
end
end Go.Argus
namespace Go.Proofs.Tryz.K
open Go.Abs
theorem c1:prog.cellsOf 1=1:=kr
theorem a1:bm prog 1=false:=kr
theorem t1:aH prog 1=true:=kr
theorem b1:prog.bytesOf 1=8:=kr
theorem b2:prog.bytesOf 2=8:=kr
theorem a2:bm prog 2=false:=kr
theorem t2:aH prog 2=true:=kr
theorem z2:a6 prog 2=[.s (.int .i64 0)]:=kr
theorem c3:prog.cellsOf 3=1:=kr
theorem b3:prog.bytesOf 3=8:=kr
theorem a3:bm prog 3=false:=kr
theorem t3:aH prog 3=true:=kr
theorem z3:a6 prog 3=[.s (.int .i64 0)]:=kr
theorem c4:prog.cellsOf 4=1:=kr
theorem b4:prog.bytesOf 4=1:=kr
theorem a4:bm prog 4=false:=kr
theorem t4:aH prog 4=true:=kr
theorem z4:a6 prog 4=[.s (.bool false)]:=kr
theorem c5:prog.cellsOf 5=1:=kr
theorem b5:prog.bytesOf 5=1:=kr
theorem a5:bm prog 5=false:=kr
theorem t5:aH prog 5=true:=kr
theorem z5:a6 prog 5=[.s (.int .u8 0)]:=kr
theorem b6:prog.bytesOf 6=1:=kr
theorem b7:prog.bytesOf 7=24:=kr
theorem b8:prog.bytesOf 8=24:=kr
theorem c9:prog.cellsOf 9=1:=kr
theorem b9:prog.bytesOf 9=16:=kr
theorem a9:bm prog 9=false:=kr
theorem t9:aH prog 9=true:=kr
theorem z9:a6 prog 9=[.s (.string "".toUTF8)]:=kr
theorem ly:prog.bytesOf 10=16:=kr
theorem N8:aD prog 15=321:=kr
theorem N9:aD prog 16=324:=kr
theorem N3:aD prog 17=331:=kr
theorem Eu:aD prog 22=48:=kr
theorem DJ:bi prog 22=true:=kr
theorem Vz:aD prog 23=43:=kr
theorem Uo:bi prog 23=true:=kr
theorem BJ:prog.cellsOf 27=1:=kr
theorem H3:bm prog 27=false:=kr
theorem t27:aH prog 27=true:=kr
theorem a31:bm prog 31=false:=kr
theorem t31:aH prog 31=true:=kr
theorem z31:a6 prog 31=[.s .nilFunc]:=kr
theorem rE:aD prog 34=9:=kr
theorem ln:bi prog 34=true:=kr
theorem a37:bm prog 37=false:=kr
theorem t37:aH prog 37=true:=kr
theorem z37:a6 prog 37=[.s .nilFunc]:=kr
theorem s6:prog.cellsOf 43=1:=kr
theorem Ej:prog.bytesOf 43=24:=kr
theorem H2:bm prog 43=false:=kr
theorem t43:aH prog 43=true:=kr
theorem zl:aD prog 43=3:=kr
theorem AZ:bi prog 43=true:=kr
theorem HR:aD prog 45=5:=kr
theorem A2:bi prog 45=true:=kr
theorem a46:bm prog 46=false:=kr
theorem t46:aH prog 46=true:=kr
theorem z46:a6 prog 46=[.z]:=kr
theorem Nl:aD prog 46=59:=kr
theorem L2:bi prog 46=true:=kr
theorem mg:prog.cellsOf 48=8:=kr
theorem H':prog.bytesOf 48=136:=kr
theorem wJ:bm prog 48=true:=kr
theorem t48:aH prog 48=true:=kr
theorem a51:bm prog 51=false:=kr
theorem t51:aH prog 51=true:=kr
theorem z51:a6 prog 51=[.s .nilFunc]:=kr
theorem Vv:aD prog 52=54:=kr
theorem Un:bi prog 52=true:=kr
theorem a53:bm prog 53=true:=kr
theorem t53:aH prog 53=true:=kr
theorem z53:a6 prog 53=[.s (.int .u8 0),.s (.int .i64 0),.s (.int .i64 0),.s (.int .i64 0),.s (.int .i64 0),.z]:=kr
theorem Nk:prog.cellsOf 54=6:=kr
theorem Nj:prog.bytesOf 54=64:=kr
theorem Ng:aD prog 55=79:=kr
theorem DF:bi prog 55=true:=kr
theorem NI:prog.cellsOf 57=15:=kr
theorem VP:bm prog 57=true:=kr
theorem t57:aH prog 57=true:=kr
theorem Eh:prog.cellsOf 59=16:=kr
theorem HT:prog.bytesOf 59=200:=kr
theorem z59:a6 prog 59=[.z,.s (.int .u8 0),.s (.int .i64 0),.s (.int .i64 0),.s (.int .i64 0),.s (.int .i64 0),.s (.string "".toUTF8),.s (.int .u8 0),.s (.int .i64 0),.s (.int .i64 0),.s (.int .i64 0),.s (.int .i64 0),.z,.z,.z,.s (.int .i64 0)]:=kr
theorem a70:bm prog 70=true:=kr
theorem t70:aH prog 70=true:=kr
theorem z70:a6 prog 70=[.s (.int .u8 0),.s (.int .i64 0)]:=kr
theorem a72:bm prog 72=true:=kr
theorem t72:aH prog 72=true:=kr
theorem z72:a6 prog 72=[.s (.int .u8 0),.s (.string "".toUTF8),.s (.int .u8 0),.s (.int .i64 0),.z,.s (.int .i64 0)]:=kr
theorem a75:bm prog 75=false:=kr
theorem t75:aH prog 75=true:=kr
theorem z75:a6 prog 75=[.s .nilFunc]:=kr
theorem a76:bm prog 76=false:=kr
theorem t76:aH prog 76=true:=kr
theorem z76:a6 prog 76=[.s .nilFunc]:=kr
theorem HS:prog.cellsOf 79=2:=kr
theorem Vu:prog.bytesOf 79=24:=kr
theorem mT:prog.cellsOf 82=3:=kr
theorem s5:bm prog 82=true:=kr
theorem t82:aH prog 82=true:=kr
theorem wO:prog.cellsOf 86=4:=kr
theorem BD:bm prog 86=true:=kr
theorem t86:aH prog 86=true:=kr
theorem Es:aD prog 92=4:=kr
theorem DH:bi prog 92=true:=kr
theorem UY:prog.cellsOf 113=10:=kr
theorem UX:bm prog 113=true:=kr
theorem t113:aH prog 113=true:=kr
theorem L6:prog.cellsOf 121=2:=kr
theorem t121:aH prog 121=true:=kr
theorem Ho:a6 prog 121=[.s (.int .i64 0),.s (.int .i64 0)]:=kr
theorem a127:bm prog 127=false:=kr
theorem t127:aH prog 127=true:=kr
theorem z127:a6 prog 127=[.s .nilFunc]:=kr
theorem a164:bm prog 164=false:=kr
theorem t164:aH prog 164=true:=kr
theorem z164:a6 prog 164=[.s .nilFunc]:=kr
theorem a171:bm prog 171=false:=kr
theorem t171:aH prog 171=true:=kr
theorem z171:a6 prog 171=[.s .nilFunc]:=kr
theorem a173:bm prog 173=true:=kr
theorem t173:aH prog 173=true:=kr
theorem z173:a6 prog 173=[.s (.int .i64 0),.s (.int .i64 0),.z]:=kr
theorem uy:prog.cellsOf 174=3:=kr
theorem Uz:prog.bytesOf 174=40:=kr
theorem Uu:bm prog 174=true:=kr
theorem t174:aH prog 174=true:=kr
theorem Hn:a6 prog 174=[.s (.int .i64 0),.s (.int .i64 0),.z]:=kr
theorem A':aD prog 175=174:=kr
theorem AM:bi prog 175=true:=kr
theorem rj:prog.cellsOf 201=20:=kr
theorem UQ:prog.bytesOf 201=160:=kr
theorem a201:bm prog 201=true:=kr
theorem t201:aH prog 201=true:=kr
theorem z201:a6 prog 201=[.s (.int .u64 0),.s (.int .u64 0),.s (.int .u64 0),.s (.int .u64 0),.s (.int .u64 0),.s (.int .u64 0),.s (.int .u64 0),.s (.int .u64 0),.s (.int .u64 0),.s (.int .u64 0),.s (.int .u64 0),.s (.int .u64 0),.s (.int .u64 0),.s (.int .u64 0),.s (.int .u64 0),.s (.int .u64 0),.s (.int .u64 0),.s (.int .u64 0),.s (.int .u64 0),.s (.int .u64 0)]:=kr
theorem a212:bm prog 212=true:=kr
theorem t212:aH prog 212=true:=kr
theorem z212:a6 prog 212=[.s (.pointer none),.z]:=kr
theorem a213:bm prog 213=true:=kr
theorem t213:aH prog 213=true:=kr
theorem z213:a6 prog 213=[.s (.pointer none),.z]:=kr
theorem a232:bm prog 232=false:=kr
theorem t232:aH prog 232=true:=kr
theorem z232:a6 prog 232=[.s .nilFunc]:=kr
theorem a233:bm prog 233=false:=kr
theorem t233:aH prog 233=true:=kr
theorem z233:a6 prog 233=[.s .nilFunc]:=kr
theorem Mo:bm prog 237=true:=kr
theorem Mp:a6 prog 237=[.s (.int .i64 0),.s (.int .i64 0),.s (.int .i64 0),.s (.int .i64 0),.s (.int .i64 0),.s (.int .i64 0)]:=kr
theorem mixed:prog.follows .mixedOrders=true:=kr
end Go.Proofs.Tryz.K
namespace Go.Proofs
open Go.Shelf
def Tryz.zH:Go.Shelf.Ren:=⟨fun|156=>199|165=>236|166=>119|169=>120|240=>160|241=>246|276=>225|277=>254|n=>n,fun|31=>34|9=>9|3=>3|4=>4|0=>0|20=>20|72=>183|76=>186|70=>181|37=>45|75=>185|127=>229|164=>269|5=>5|80=>188|n=>n,fun|n=>n⟩
theorem Tryz.J1:Go.Proofs.Lays.n156 Tryz.prog Tryz.zH:={
 mixed:=kr
 f156:= Tryz.func199.trans (congrArg some kr)
 f165:= Tryz.func236.trans (congrArg some kr)
 f166:= Tryz.func119.trans (congrArg some kr)
 f169:= Tryz.func120.trans (congrArg some kr)
 f240:= Tryz.func160.trans (congrArg some kr)
 f241:= Tryz.func246.trans (congrArg some kr)
 f276:= Tryz.func225.trans (congrArg some kr)
 f277:= Tryz.func254.trans (congrArg some kr)
 t0:= Tryz.underlying0
 a0:= Tryz.isAgg0
 z0:= Tryz.sizeOf0
 v0:= Tryz.zeroValue0
 t3:= Tryz.underlying3
 a3:= Tryz.isAgg3
 z3:= Tryz.sizeOf3
 v3:= Tryz.zeroValue3
 t4:= Tryz.underlying4
 a4:= Tryz.isAgg4
 z4:= Tryz.sizeOf4
 v4:= Tryz.zeroValue4
 t9:= Tryz.underlying9
 a9:= Tryz.isAgg9
 z9:= Tryz.sizeOf9
 v9:= Tryz.zeroValue9
 t20:= Tryz.underlying20
 a20:= Tryz.isAgg20
 z20:= Tryz.sizeOf20
 v20:= Tryz.zeroValue20
 t31:= Tryz.underlying34
 a31:= Tryz.isAgg34
 z31:= Tryz.sizeOf34
 v31:= Tryz.zeroValue34
 t37:= Tryz.underlying45
 a37:= Tryz.isAgg45
 z37:= Tryz.sizeOf45
 v37:= Tryz.zeroValue45
 t70:= Tryz.underlying181
 a70:= Tryz.isAgg181
 z70:= Tryz.sizeOf181
 v70:= Tryz.zeroValue181
 t72:= Tryz.underlying183
 a72:= Tryz.isAgg183
 z72:= Tryz.sizeOf183
 v72:= Tryz.zeroValue183
 t75:= Tryz.underlying185
 a75:= Tryz.isAgg185
 z75:= Tryz.sizeOf185
 v75:= Tryz.zeroValue185
 t76:= Tryz.underlying186
 a76:= Tryz.isAgg186
 z76:= Tryz.sizeOf186
 v76:= Tryz.zeroValue186
 t127:= Tryz.underlying229
 a127:= Tryz.isAgg229
 z127:= Tryz.sizeOf229
 v127:= Tryz.zeroValue229
 t164:= Tryz.underlying269
 a164:= Tryz.isAgg269
 z164:= Tryz.sizeOf269
 v164:= Tryz.zeroValue269 }
theorem Tryz.Ik:Builder.Extra Tryz.prog Tryz.zH:={
 sizeBuilder:=kr
 liesBuilder:=kr
 t5:= Tryz.underlying5
 a5:= Tryz.isAgg5
 z5:= Tryz.sizeOf5
 v5:= Tryz.zeroValue5
 infoByte:=kr
 cellsByte:=kr
 sizeByte:=kr
 neB5:=by decide }
open Go.RowKit in
theorem Tryz.strings_Join_none(a:Option Addr)(c:Nat)(sep:ByteArray)(w:World):
 Calls Tryz.prog 199 #[.slice a 0 c,.string sep] w fun e w'=>e=.returned (.string ⟨#[]⟩)/\w'=w:=Any.strings_Join_none Tryz.J1 Tryz.Ik a c sep w
open Go.RowKit in
theorem Tryz.strings_Join(C o c:Nat)(xs:List ByteArray)(sep:ByteArray)(w:World)(U:∀ (j:Nat) x,xs[j]? =some x->w.cell? ⟨C,o+j,none⟩=some (.string x))(M:C<w.heap.size)(J:xs.length<=140737488355328)(oi:xs.length<=c)(hlen:(Lib.join (xs.map (·.data.toList)) sep.data.toList).length<=140737488355328):
 Calls Tryz.prog 199 #[.slice (some ⟨C,o,none⟩) xs.length c,.string sep] w fun e w'=>e=.returned (.string ⟨(Lib.join (xs.map (·.data.toList)) sep.data.toList).toArray⟩)/\Below w.heap.size w w':=Any.strings_Join Tryz.J1 Tryz.Ik C o c xs sep w U M J oi hlen
def Tryz.W4:Go.Shelf.Ren:=⟨fun|171=>145|243=>200|246=>237|283=>247|284=>248|285=>249|286=>250|129=>256|317=>255|318=>257|319=>258|320=>259|337=>270|338=>271|n=>n,fun|3=>3|9=>9|2=>2|4=>4|171=>291|0=>0|53=>199|37=>45|5=>5|173=>294|212=>200|51=>300|20=>20|213=>301|46=>69|232=>316|233=>317|n=>n,fun|17=>0|18=>2|19=>3|n=>n⟩
theorem Tryz.abH:Go.Proofs.LaysM.n171 Tryz.prog Tryz.W4:={
 mixed:=kr
 f129:= Tryz.func256.trans (congrArg some kr)
 f171:= Tryz.func145.trans (congrArg some kr)
 f243:= Tryz.func200.trans (congrArg some kr)
 f246:= Tryz.func237.trans (congrArg some kr)
 f283:= Tryz.func247.trans (congrArg some kr)
 f284:= Tryz.func248.trans (congrArg some kr)
 f285:= Tryz.func249.trans (congrArg some kr)
 f286:= Tryz.func250.trans (congrArg some kr)
 f317:= Tryz.func255.trans (congrArg some kr)
 f318:= Tryz.func257.trans (congrArg some kr)
 f319:= Tryz.func258.trans (congrArg some kr)
 f320:= Tryz.func259.trans (congrArg some kr)
 f337:= Tryz.func270.trans (congrArg some kr)
 f338:= Tryz.func271.trans (congrArg some kr)
 t0:= Tryz.underlying0
 a0:= Tryz.isAgg0
 z0:= Tryz.sizeOf0
 v0:= Tryz.zeroValue0
 t2:= Tryz.underlying2
 a2:= Tryz.isAgg2
 z2:= Tryz.sizeOf2
 v2:= Tryz.zeroValue2
 t3:= Tryz.underlying3
 a3:= Tryz.isAgg3
 z3:= Tryz.sizeOf3
 v3:= Tryz.zeroValue3
 t4:= Tryz.underlying4
 a4:= Tryz.isAgg4
 z4:= Tryz.sizeOf4
 v4:= Tryz.zeroValue4
 t5:= Tryz.underlying5
 a5:= Tryz.isAgg5
 z5:= Tryz.sizeOf5
 v5:= Tryz.zeroValue5
 t9:= Tryz.underlying9
 a9:= Tryz.isAgg9
 z9:= Tryz.sizeOf9
 v9:= Tryz.zeroValue9
 t20:= Tryz.underlying20
 a20:= Tryz.isAgg20
 z20:= Tryz.sizeOf20
 v20:= Tryz.zeroValue20
 t37:= Tryz.underlying45
 a37:= Tryz.isAgg45
 z37:= Tryz.sizeOf45
 v37:= Tryz.zeroValue45
 t46:= Tryz.underlying69
 a46:= Tryz.isAgg69
 z46:= Tryz.sizeOf69
 v46:= Tryz.zeroValue69
 t51:= Tryz.underlying300
 a51:= Tryz.isAgg300
 z51:= Tryz.sizeOf300
 v51:= Tryz.zeroValue300
 t53:= Tryz.underlying199
 a53:= Tryz.isAgg199
 z53:= Tryz.sizeOf199
 v53:= Tryz.zeroValue199
 t171:= Tryz.underlying291
 a171:= Tryz.isAgg291
 z171:= Tryz.sizeOf291
 v171:= Tryz.zeroValue291
 t173:= Tryz.underlying294
 a173:= Tryz.isAgg294
 z173:= Tryz.sizeOf294
 v173:= Tryz.zeroValue294
 t212:= Tryz.underlying200
 a212:= Tryz.isAgg200
 z212:= Tryz.sizeOf200
 v212:= Tryz.zeroValue200
 t213:= Tryz.underlying301
 a213:= Tryz.isAgg301
 z213:= Tryz.sizeOf301
 t232:= Tryz.underlying316
 a232:= Tryz.isAgg316
 z232:= Tryz.sizeOf316
 v232:= Tryz.zeroValue316
 t233:= Tryz.underlying317
 a233:= Tryz.isAgg317
 z233:= Tryz.sizeOf317
 v233:= Tryz.zeroValue317
 g17:=kr
 g18:=kr
 g19:=kr
 i0:=kr
 i2:=kr
 i3:=kr
 i4:=kr
 i5:=kr
 i9:=kr
 i20:=kr
 i37:=kr
 i46:=kr
 i51:=kr
 i53:=kr
 i171:=kr
 i173:=kr
 i212:=kr
 i232:=kr
 i233:=kr
 m17:=kr
 m18:=kr
 m19:=by kernel_rfl }
end Go.Proofs
section
open Go Go.Abs Go.Proofs Go.Argus
namespace Go.Proofs.Tryz.K
theorem adU{P:Program}{w:World}{name:String}{g:Nat}{cs:Array Value}(hg:P.globalNamed name=some g)(h:∃ e k,w.heap[g]? =some (.cells cs e k)):w.var? P name=some cs:=by
 obtain⟨e,k,h⟩:=h;unfold World.var?;rw[hg];simp only[Option.bind_some,h]
theorem Z5{w:World}{k:Nat}{os:Array Obj}:Kept w (Sort.grow (w.drewN k) os):=by
 refine⟨?_,fun b hb=>?_,rfl,rfl⟩
 .show w.heap.size<=(w.heap++os).size;rw[Array.size_append];omega
 .show(w.heap++os)[b]? =_;rw[Array.getElem?_append_left hb]
theorem Yu{w w':World}(h:Go.RowKit.Below w.heap.size w w'):Kept w w':=⟨h.size,h.block,h.os,h.output⟩
theorem abI(n:Int)(h0: -9223372036854775808<=n)(h1:n<=9223372036854775807)(w:World)(C:∀ t∈uk,Ax w t):
 Calls prog 145 #[.int .i64 n] w fun e w'=>e=.returned (.string ⟨(Lib.itoa n).toArray⟩)/\Kept w w':=by
 refine(Any.strconv_Itoa Tryz.abH n h0 h1 w (adU (g:=0) kr (C (0,_) (.head _)))).mono fun e w' h=>⟨h.1,?_⟩
 obtain⟨k,os,rfl⟩:=h.2;exact Z5
theorem Uf{n:Int}(h0: -9223372036854775808<=n)(h1:n<=9223372036854775807):aA prog 145 [I n] (S ⟨(Lib.itoa n).toArray⟩):=by
 refine⟨by kernel_rfl,by simp[Tr.s],fun F w vs C J=>?_⟩;obtain⟨hs,hr⟩:=J
 have hv:vs= #[.int .i64 n]:=by
  have hs:vs.size=1:=hs;have h2:=(hr 0 _ vs[0] rfl (by simp[hs])).cX.1;apply Array.ext
  .rw[hs];rfl
  .intro i hi _;have:i=0:=by omega
   subst this;exact h2
 subst hv;exact(abI n h0 h1 w fun t ht=>(C.l8 t ht).2).mono fun e w' h=>⟨_,h.1,.s _ rfl,h.2⟩
def AH(l:List ByteArray)(sep:ByteArray):ByteArray:=⟨(Lib.join (l.map (·.data.toList)) sep.data.toList).toArray⟩
theorem LY{l:List ByteArray}{sep:ByteArray}(hl:l.length<=140737488355328)(hlen:(Lib.join (l.map (·.data.toList)) sep.data.toList).length<=140737488355328):aA prog 199 [bI l,S sep] (S (AH l sep)):=by
 refine⟨by kernel_rfl,by simp[Tr.s,fS],fun F w vs hF hR=>?_⟩;obtain⟨hs,hr⟩:=hR;have hs:vs.size=2:=hs;have h1:=hr 0 _ vs[0] rfl (by simp[hs]);have h2:=(hr 1 _ vs[1] rfl (by simp[hs])).cX.1
 have hv:vs= #[vs[0],.string sep]:=by
  apply Array.ext
  .exact hs
  .intro i hi _;have:i=0\/i=1:=by omega
   rcases this with rfl|rfl
   .rfl
   .exact h2
 rcases h1.tQ with⟨J,g2,a,cap,C⟩|⟨b,o,cap,C,M,h4,h5,h6,U,us,X,h9⟩
 .rw[C] at hv;rw[hv];have oF:l=[]:=by simpa using J
  subst oF;exact(Tryz.strings_Join_none a cap sep w).mono fun e w' h=>⟨_,h.1,.s _ rfl,h.2▸⟨a8 _,fun _ _=>rfl,rfl,rfl⟩⟩
 .rw[C] at hv;rw[hv];refine(Tryz.strings_Join b o cap l sep w (fun j x hx=>?_) U hl M hlen).mono fun e w' h=>⟨_,h.1,.s _ rfl,Yu h.2⟩
  have hj:j<l.length:=(bK.1 hx).1;have:=(h9 j (S x) (by simp[hx])).cX.1;rw[(X j (by simpa using hj)).1,this]
end Go.Proofs.Tryz.K
end
namespace Go.Abs
section
variable{P:Program}{Y:ea}{rf:Bool}{ops:Array Oper}{dr:Bool}{cf:List (Nat×Nat)}{Q:Exit->St->Prop}{rest:List Oper}{env:Env}{m:Mem}{nx:Nat}{tr:jL}{t:Nat}{op:Op}{ty:TypeId}{pos:String}{after:Array Edge}{v:D}{rd:List Nat}
theorem CF{d:Option Nat}{e:dw}(he:dc P (aX env op) m nx op e)(ha:fK env op.operands.toList)(K:aq P Y ops dr cf Q rest (St.put ⟨env,cB m e.aQ,nx+e.new⟩ d e.val) (tr++[(e.rd,e.aQ.map (·.1))])):
 aq P Y ops dr cf Q (⟨d,op,ty,pos,after,none⟩::rest) ⟨env,m,nx⟩ tr:=.inr ⟨rfl,oQ ha,e,he,K⟩
theorem rh(he:dc P (aX env op) m nx op ⟨True,v,[],rd,0⟩)(ha:fK env op.operands.toList)(K:aq P Y ops dr cf Q rest ⟨up env t v,m,nx⟩ (tr++[(rd,[])])):
 aq P Y ops dr cf Q (⟨some t,op,ty,pos,after,none⟩::rest) ⟨env,m,nx⟩ tr:=CF he ha K
theorem Hb{row:Row}(he:dc P (aX env op) m nx op ⟨True,v,[(nx,some row)],rd,1⟩)(ha:fK env op.operands.toList)(K:aq P Y ops dr cf Q rest ⟨up env t v,up m nx (some row),nx+1⟩ (tr++[(rd,[nx])])):
 aq P Y ops dr cf Q (⟨some t,op,ty,pos,after,none⟩::rest) ⟨env,m,nx⟩ tr:=CF he ha K
theorem ahb{i:Nat}{row:Row}(he:dc P (aX env op) m nx op ⟨True,v,[(i,none),(nx,some row)],rd,1⟩)(ha:fK env op.operands.toList)(K:aq P Y ops dr cf Q rest ⟨up env t v,up (up m i none) nx (some row),nx+1⟩ (tr++[(rd,[i,nx])])):
 aq P Y ops dr cf Q (⟨some t,op,ty,pos,after,none⟩::rest) ⟨env,m,nx⟩ tr:=CF he ha K
theorem ahc{i:Nat}(he:dc P (aX env op) m nx op ⟨True,v,[(i,none)],rd,0⟩)(ha:fK env op.operands.toList)(K:aq P Y ops dr cf Q rest ⟨up env t v,up m i none,nx⟩ (tr++[(rd,[i])])):
 aq P Y ops dr cf Q (⟨some t,op,ty,pos,after,none⟩::rest) ⟨env,m,nx⟩ tr:=CF he ha K
theorem T6{i:Nat}{row:Option Row}(he:dc P (aX env op) m nx op ⟨True,v,[(i,row)],rd,0⟩)(ha:fK env op.operands.toList)(K:aq P Y ops dr cf Q rest ⟨env,up m i row,nx⟩ (tr++[(rd,[i])])):
 aq P Y ops dr cf Q (⟨none,op,ty,pos,after,none⟩::rest) ⟨env,m,nx⟩ tr:=CF he ha K
variable{x y z:Operand}{src dst tt u p:TypeId}{a b:ByteArray}{l:List Int}{i off n:Nat}{cs es:List D}{k k':IntKind}
theorem ad7(hx:(opd env x).core=.s (.string a))(hy:(opd env y).core=.s (.string b))(h:a.size+b.size<=maxLen):dc P (aX env (.binOp .add tt x y p)) m nx (.binOp .add tt x y p) ⟨True,.s (.string (a++b)),[],[],0⟩:=.add tt p x y a b hx hy h
theorem adj{r:Int}(hx:(opd env x).core=.s (.int k r))(hs:P.underlying src=some (.int k'))(hd:fL P dst=true)(h:0<=r/\r<128):dc P (aX env (.convert src dst x)) m nx (.convert src dst x) ⟨True,.s (.string (mkStr [r])),[],[],0⟩:=.rune src dst x k k' r hx hs hd h.1 h.2
theorem ad8{h c:Operand}(hx:(opd env x).core=.sl es n)(hh:(opd env h).core=.s (.int k n))(hc:(opd env c).core=.s (.int k' n))(ht:bi P tt=true)(hn:n*P.cellsOf (aD P tt)=es.length):dc P (aX env (.slice tt x none (some h) (some c))) m nx (.slice tt x none (some h) (some c)) ⟨True,.sc es n,[],[],0⟩:=.cut tt x h c es n k k' hx hh hc ht hn
theorem YN{s:Operand}{e:TypeId}(hs:(opd env s).core=.z)(hx:(opd env x).core=.s (.string b))(he:aD P tt=e)(ht:qj P tt)(hu:fL P u=true)(hb:b.size<=140737488355328)(h1:P.bytesOf e=1):
 dc P (aX env (.call { callee:=.builtin .append,args:= #[s,x],argTypes:= #[tt,u] })) m nx (.call { callee:=.builtin .append,args:= #[s,x],argTypes:= #[tt,u] }) ⟨True,.rs nx 0 b.size,[(nx,some (.cells (fh b) e))],[],1⟩:=by
 subst he;exact .xg _ s x tt u b rfl hs hx ht hu (by unfold maxLen;omega) (by rw[h1];omega)
theorem aal{s:Operand}{e:TypeId}(hs:(opd env s).core=.rs i off n)(hx:(opd env x).core=.s (.string b))(hi:m i=some (.cells cs e))(he:aD P tt=e)(ht:qj P tt)(hu:fL P u=true)(hf:off+n=cs.length)(hb:n+b.size<=140737488355328)(h1:P.bytesOf e=1):
 dc P (aX env (.call { callee:=.builtin .append,args:= #[s,x],argTypes:= #[tt,u] })) m nx (.call { callee:=.builtin .append,args:= #[s,x],argTypes:= #[tt,u] }) ⟨True,.rs nx 0 (n+b.size),[(i,none),(nx,some (.cells (cs.drop off++fh b) e))],[i],1⟩:=by
 subst he;exact .xz _ s x tt u b i off n cs rfl hs hx hi ht hu hf (by unfold maxLen;omega) (by rw[h1];omega)
theorem ab2{s:Operand}{e:TypeId}{news:List D}{C sz:Nat}{pp:Prop}(hs:(opd env s).core=.sc es n)(he:aD P tt=e)(hc:P.cellsOf e=sz)(hx:jv m sz (opd env x).core=some (pp,rd,C,news))(hp:pp)(ht:bi P tt=true)(hn:n*sz=es.length)(hk:0<C)(hz:0<sz)(hm:n+C<=maxLen)(hb:(n+C)*P.bytesOf e<=140737488355328):
 dc P (aX env (.call { callee:=.builtin .append,args:= #[s,x],argTypes:= #[tt,tt] })) m nx (.call { callee:=.builtin .append,args:= #[s,x],argTypes:= #[tt,tt] }) ⟨True,.rs nx 0 (n+C),[(nx,some (.cells (es++news) e))],rd,1⟩:=by
 subst he;subst hc;exact .xU _ s x tt es news n C pp rd rfl hs hx hp ht hn hk hz hm hb
theorem ab3{s:Operand}{r:Row}(hs:(opd env s).core=.rs i off n)(hi:m i=some r)(hn:0<n):dc P (aX env (.call { callee:=.builtin .unsafeSliceData,args:= #[s],argTypes:= #[tt] })) m nx (.call { callee:=.builtin .unsafeSliceData,args:= #[s],argTypes:= #[tt] }) ⟨True,.rp i off,[],[i],0⟩:=.xV _ s tt i off n r rfl hs hi hn
theorem adk{s:Operand}{e:TypeId}(hp:(opd env x).core=.rp i off)(hn:(opd env y).core=.s (.int k n))(C:l.length=n)(hi:m i=some (.cells cs e))(hl:(cs.drop off).take n=lK l)(h0:0<n)(ht:P.underlying tt=some (.pointer e))(he:P.cellsOf e=1)(hm:n<=maxLen)(hr:∀ x∈l,0<=x/\x<256):
 dc P (aX env (.call { callee:=.builtin .unsafeString,args:= #[x,y],argTypes:= #[tt,u] })) m nx (.call { callee:=.builtin .unsafeString,args:= #[x,y],argTypes:= #[tt,u] }) ⟨True,.s (.string (mkStr l)),[(i,none)],[i],0⟩:=by
 subst C;exact .yw _ x y tt u e l i off cs k rfl hp hn hi hl (List.length_pos_iff.1 h0) ht he hm hr
theorem Kq{es:List (Value×D)}(hx:(opd env x).core=.mp i)(hi:m i=some (.map es))(ht:fI P tt=true):dc P (aX env (.call { callee:=.builtin .len,args:= #[x],argTypes:= #[tt] })) m nx (.call { callee:=.builtin .len,args:= #[x],argTypes:= #[tt] }) ⟨True,.s (.int .i64 es.length),[],[i],0⟩:=.yv _ x tt i es rfl hx hi ht
theorem aam(hb:G9 tt=true)(ht:aH P tt=true)(hz:a6 P tt=[.s (.pointer none),.z]):dc P (aX env (.alloc tt)) m nx (.alloc tt) ⟨True,.rp nx 0,[(nx,some (.bs false .z tt))],[],1⟩:=.Aj tt hb ht hz
theorem adl{d:D}(hb:G9 tt=true)(hx:((opd env x).core).cells=[.s (.pointer none),d])(hd:d.one=true)(hs:P.cellsOf tt=2):dc P (aX env (.box tt x)) m nx (.box tt x) ⟨True,.rp nx 0,[(nx,some (.bs false d tt))],[],1⟩:=.AQ tt x d hb hx hd hs
theorem Ft{q:Bool}{d:D}{T:TypeId}(ha:(opd env x).core=.rp i 1)(hi:m i=some (.bs q d T))(ht:aH P tt=true)(hg:bm P tt=false):dc P (aX env (.load tt x)) m nx (.load tt x) ⟨True,d,[],[i],0⟩:=.Az tt x i q d T ha hi ht hg
theorem Qm{q:Bool}{d d':D}{T:TypeId}(ha:(opd env x).core=.rp i 1)(hi:m i=some (.bs q d T))(ht:aH P tt=true)(hg:bm P tt=false)(hy:(opd env y).core=d')(h1:d'.one=true):dc P (aX env (.store tt x y)) m nx (.store tt x y) ⟨True,.aL [],[(i,some (.bs q d' T))],[i],0⟩:=by
 subst hy;exact .xA tt x y i q d T ha hi ht hg h1
end
end Go.Abs
section
open Go Go.Abs Go.Proofs Go.Argus
open Go.Shelf Go.RowKit
namespace Go.Proofs.Tryz.K
theorem RN:Go.Proofs.Lays.n240 prog Tryz.zH:={ Tryz.J1 with }
theorem Vh:Builder.X72 prog Tryz.zH:={ Tryz.Ik with }
set_option maxRecDepth 100000 in
theorem X5{T:TypeId}(hl:liesAt prog prog.depth T (2 / prog.cellsOf T) 0 183 1=true)(b:Nat)(w:World)(h0:w.cell? ⟨b,0,none⟩=some (.pointer none))(U:w.shape? b=some (T,2))(hfz:w.frozen? ⟨b,0,none⟩=false):
 Calls prog 160 #[.pointer (some ⟨b,0,none⟩)] w fun e w'=>e=.returned (.tuple #[])/\w'=w.setCell ⟨b,0,none⟩ (.pointer (some ⟨b,0,none⟩)):=by
 have L:=RN;have X:=Vh;obtain⟨j,hj,C⟩:=cP.1 X.sizeBuilder;have mixed:=L.mixed;have t72:=L.t72;have a72:=L.a72;have z72:=L.z72;have M:=L.v72;have Vi:=run_underlying L.t72;have t70:=L.t70;have a70:=L.a70;have z70:=L.z70;have J:=L.v70;have Vj:=run_underlying L.t70;have t9:=L.t9;have a9:=L.a9;have z9:=L.z9;have v9:=L.v9;have u9:=run_underlying L.t9;have t4:=L.t4;have a4:=L.a4;have z4:=L.z4;have v4:=L.v4;have u4:=run_underlying L.t4;have t164:=L.t164;have a164:=L.a164;have z164:=L.z164;have v164:=L.v164;have amD:=run_underlying L.t164;show Calls prog (Tryz.zH.f 240) _ _ _
 go_enter L.f240,Body.n240_ntmps Tryz.zH
 go_wp2
 rw[Lib.run_to_unsafe w ⟨b,0,none⟩ L.t70 L.t164 hj (by rw[C];decide) U (Nat.zero_lt_succ 1)];simp only[Result.andThen];rw[Oper.upon_value]
 go_wp2
 rw[run_callFunc_extern L.f276 kr kr kr (e:=Extern.AbiNoEscape.same) kr];rw[Lib.run_noEscape];simp only[Result.andThen];rw[Oper.upon_value]
 go_wp2
 rw[Lib.run_from_unsafe w ⟨b,0,none⟩ L.t164 L.t70 hj U hl];simp only[Result.andThen];rw[Oper.upon_value]
 go_wp2
 go_end0
 exact⟨rfl,rfl⟩
theorem acn{m:Mem}{i:Nat}{r:Row}(h:m i=some r):up m i (some r)=m:=by
 funext j;by_cases hj:j=i
 .subst hj;rw[ah,h]
 .rw[az _ _ hj]
theorem ahT{m:Mem}{nx j:Nat}{u:Bool}{x:D}{T:TypeId}(hj:m j=some (.bs u x T))(hl:liesAt prog prog.depth T (2 / prog.cellsOf T) 0 183 1=true):
 fD prog 160 [.rp j 0] m nx fun d m' ai=>d=.aL []/\m'=up m j (some (.bs true x T))/\ai=nx:=by
 refine⟨by kernel_rfl,fun F β w vs hm M U=>?_⟩;have hs:vs.size=1:=U.1;have h0:=U.2 0 _ vs[0] rfl (by simp[hs]);obtain⟨b,v,hβ,hv,hb,hT,hx,h1⟩:=Kt hm h0 hj
 have HN:vs= #[.pointer (some ⟨b,0,none⟩)]:=by
  apply Array.ext
  .exact hs
  .intro i hi _;have:i=0:=by omega
   subst this;exact hv
 subst HN;have C:w.cell? ⟨b,0,none⟩=some (.pointer (if u then some ⟨b,0,none⟩ else none)):=by rw[Lib.cell_of_heap hb];rfl
 cases u with
 |true=>
  refine(Any.Builder_copyCheck_used RN Vh b w C).mono fun e w' h=>?_;obtain⟨rfl,rfl⟩:=h;exact⟨_,_,_,_,β,rfl,⟨rfl,(acn hj).symm▸rfl,rfl⟩,hm,M,.aL [] [] rfl oS,Step.refl _ _,a8 _,fun _ _ h=>h⟩
 |false=>
  refine(X5 hl b w C (by simp[World.shape?,hb]) (by simp[World.frozen?,hb])).mono fun e w' h=>?_;obtain⟨rfl,rfl⟩:=h;have hh:(w.setCell ⟨b,0,none⟩ (.pointer (some ⟨b,0,none⟩))).heap[b]? =some (.cells #[.pointer (some ⟨b,0,none⟩),v] T (0,0)):=by simp[World.setCell,Array.getElem?_modify,hb]
  have X:∀ k,k≠b->(w.setCell ⟨b,0,none⟩ (.pointer (some ⟨b,0,none⟩))).heap[k]? =w.heap[k]? :=fun k hk=>Below.heap_setCell _ _ _ _ hk;have bB:(w.setCell ⟨b,0,none⟩ (.pointer (some ⟨b,0,none⟩))).heap.size=w.heap.size:=by simp[World.setCell]
  have J:=BY hm hβ rfl oG X;have fy:=hm.write hβ rfl bB X (.bs true x T) (.bs true x T b v hh hT (hx.step J) h1);exact⟨_,_,_,_,β,rfl,⟨rfl,rfl,rfl⟩,fy,M,.aL [] [] rfl oS,J,a8 _,fun _ _ h=>h⟩
theorem aco:liesAt prog prog.depth 213 (2 / prog.cellsOf 213) 0 183 1=true:=kr
end Go.Proofs.Tryz.K
end
namespace Go.Proofs.Tryz.K
open Go.Abs
noncomputable def bo(f:Func):Code:=(f.body).getD .skip
abbrev FO(n:FuncId)(f:Func)(c:Code):=lj prog n f c
theorem fo{n:FuncId}{f:Func}{c:Code}(h1:prog.funcs[n]? =some f:=by kernel_rfl)(h2:f.body=some c:=by kernel_rfl)(C:gB f.ntmps c=true:=by kernel_rfl)(J:nY prog n=true:=by kernel_rfl):FO n f c:=⟨h1,h2,C,J⟩
noncomputable def oe:=bo Tryz.f7
theorem ok7:FO 7 Tryz.f7 oe:=fo
noncomputable def fu:=bo Tryz.f13
theorem UG:FO 13 Tryz.f13 fu:=fo
noncomputable def my:=bo Tryz.f15
theorem ajH:FO 15 Tryz.f15 my:=fo
noncomputable def xJ:=bo Tryz.f16
theorem aiE:FO 16 Tryz.f16 xJ:=fo
noncomputable def ei:=bo Tryz.f18
theorem Uq:FO 18 Tryz.f18 ei:=fo
noncomputable def pJ:=bo Tryz.f20
theorem UI:FO 20 Tryz.f20 pJ:=fo
noncomputable def tV:=bo Tryz.f21
theorem UF:FO 21 Tryz.f21 tV:=fo
noncomputable def ji:=bo Tryz.f22
theorem ajh:FO 22 Tryz.f22 ji:=fo
noncomputable def vE:=bo Tryz.f24
theorem ajd:FO 24 Tryz.f24 vE:=fo
noncomputable def pK:=bo Tryz.f27
theorem UK:FO 27 Tryz.f27 pK:=fo
noncomputable def mz:=bo Tryz.f29
theorem ajQ:FO 29 Tryz.f29 mz:=fo
noncomputable def jj:=bo Tryz.f30
theorem ah':FO 30 Tryz.f30 jj:=fo
noncomputable def o5:=bo Tryz.f35
theorem aiY:FO 35 Tryz.f35 o5:=fo
noncomputable def Gu:=bo Tryz.f39
theorem ajv:FO 39 Tryz.f39 Gu:=fo
noncomputable def SC:=bo Tryz.f42
theorem ajz:FO 42 Tryz.f42 SC:=fo
noncomputable def gD:=bo Tryz.f43
theorem aiw:FO 43 Tryz.f43 gD:=fo
noncomputable def jC:=bo Tryz.f44
theorem aiz:FO 44 Tryz.f44 jC:=fo
noncomputable def pL:=bo Tryz.f45
theorem aiB:FO 45 Tryz.f45 pL:=fo
noncomputable def Gv:=bo Tryz.f48
theorem ail:FO 48 Tryz.f48 Gv:=fo
noncomputable def o6:=bo Tryz.f49
theorem aiJ:FO 49 Tryz.f49 o6:=fo
noncomputable def Gw:=bo Tryz.f50
theorem aiH:FO 50 Tryz.f50 Gw:=fo
noncomputable def ss:=bo Tryz.f53
theorem ajM:FO 53 Tryz.f53 ss:=fo
noncomputable def tW:=bo Tryz.f54
theorem UL:FO 54 Tryz.f54 tW:=fo
noncomputable def nj:=bo Tryz.f55
theorem ai6:FO 55 Tryz.f55 nj:=fo
noncomputable def gl:=bo Tryz.f56
theorem ai':FO 56 Tryz.f56 gl:=fo
noncomputable def gE:=bo Tryz.f57
theorem air:FO 57 Tryz.f57 gE:=fo
noncomputable def Gx:=bo Tryz.f58
theorem ajf:FO 58 Tryz.f58 Gx:=fo
noncomputable def n8:=bo Tryz.f61
theorem ajO:FO 61 Tryz.f61 n8:=fo
noncomputable def vF:=bo Tryz.f63
theorem akc:FO 63 Tryz.f63 vF:=fo
noncomputable def dO:=bo Tryz.f64
theorem ah8:FO 64 Tryz.f64 dO:=fo
noncomputable def o3:=bo Tryz.f65
theorem aib:FO 65 Tryz.f65 o3:=fo
noncomputable def CT:=bo Tryz.f67
theorem aiu:FO 67 Tryz.f67 CT:=fo
noncomputable def xK:=bo Tryz.f70
theorem aiU:FO 70 Tryz.f70 xK:=fo
noncomputable def Gy:=bo Tryz.f71
theorem aiP:FO 71 Tryz.f71 Gy:=fo
noncomputable def pM:=bo Tryz.f72
theorem UH:FO 72 Tryz.f72 pM:=fo
noncomputable def Gz:=bo Tryz.f73
theorem aj1:FO 73 Tryz.f73 Gz:=fo
noncomputable def xL:=bo Tryz.f74
theorem ah4:FO 74 Tryz.f74 xL:=fo
noncomputable def GA:=bo Tryz.f76
theorem ahV:FO 76 Tryz.f76 GA:=fo
noncomputable def SD:=bo Tryz.f81
theorem ajA:FO 81 Tryz.f81 SD:=fo
noncomputable def nk:=bo Tryz.f82
theorem aip:FO 82 Tryz.f82 nk:=fo
noncomputable def su:=bo Tryz.f83
theorem ain:FO 83 Tryz.f83 su:=fo
noncomputable def GB:=bo Tryz.f85
theorem ajJ:FO 85 Tryz.f85 GB:=fo
noncomputable def GC:=bo Tryz.f86
theorem ai4:FO 86 Tryz.f86 GC:=fo
noncomputable def GD:=bo Tryz.f87
theorem ai2:FO 87 Tryz.f87 GD:=fo
noncomputable def GF:=bo Tryz.f88
theorem ai0:FO 88 Tryz.f88 GF:=fo
noncomputable def sv:=bo Tryz.f89
theorem Uc:FO 89 Tryz.f89 sv:=fo
noncomputable def GG:=bo Tryz.f90
theorem ai8:FO 90 Tryz.f90 GG:=fo
noncomputable def As:=bo Tryz.f91
theorem aid:FO 91 Tryz.f91 As:=fo
noncomputable def At:=bo Tryz.f92
theorem aif:FO 92 Tryz.f92 At:=fo
noncomputable def xI:=bo Tryz.f93
theorem aki:FO 93 Tryz.f93 xI:=fo
noncomputable def Au:=bo Tryz.f94
theorem aii:FO 94 Tryz.f94 Au:=fo
noncomputable def dP:=bo Tryz.f97
theorem aka:FO 97 Tryz.f97 dP:=fo
noncomputable def fQ:=bo Tryz.f98
theorem aj8:FO 98 Tryz.f98 fQ:=fo
noncomputable def o7:=bo Tryz.f99
theorem ah6:FO 99 Tryz.f99 o7:=fo
noncomputable def rV:=bo Tryz.f100
theorem aeY:FO 100 Tryz.f100 rV:=fo
noncomputable def dI:=bo Tryz.f111
theorem Ts:FO 111 Tryz.f111 dI:=fo
noncomputable def FA:=bo Tryz.f112
theorem ae5:FO 112 Tryz.f112 FA:=fo
noncomputable def kf:=bo Tryz.f114
theorem afn:FO 114 Tryz.f114 kf:=fo
noncomputable def rW:=bo Tryz.f115
theorem aeW:FO 115 Tryz.f115 rW:=fo
noncomputable def FC:=bo Tryz.f116
theorem aeU:FO 116 Tryz.f116 FC:=fo
noncomputable def Af:=bo Tryz.f119
theorem aeD:FO 119 Tryz.f119 Af:=fo
noncomputable def Cv:=bo Tryz.f120
theorem aeS:FO 120 Tryz.f120 Cv:=fo
noncomputable def rX:=bo Tryz.f122
theorem TI:FO 122 Tryz.f122 rX:=fo
noncomputable def Cw:=bo Tryz.f123
theorem agz:FO 123 Tryz.f123 Cw:=fo
noncomputable def FD:=bo Tryz.f124
theorem af3:FO 124 Tryz.f124 FD:=fo
noncomputable def FE:=bo Tryz.f125
theorem aga:FO 125 Tryz.f125 FE:=fo
noncomputable def FF:=bo Tryz.f126
theorem aeo:FO 126 Tryz.f126 FF:=fo
noncomputable def FG:=bo Tryz.f127
theorem af7:FO 127 Tryz.f127 FG:=fo
noncomputable def FH:=bo Tryz.f128
theorem af5:FO 128 Tryz.f128 FH:=fo
noncomputable def eN:=bo Tryz.f129
theorem agF:FO 129 Tryz.f129 eN:=fo
noncomputable def n2:=bo Tryz.f130
theorem afX:FO 130 Tryz.f130 n2:=fo
noncomputable def mu:=bo Tryz.f131
theorem agD:FO 131 Tryz.f131 mu:=fo
noncomputable def ew:=bo Tryz.f132
theorem afV:FO 132 Tryz.f132 ew:=fo
noncomputable def je:=bo Tryz.f133
theorem afN:FO 133 Tryz.f133 je:=fo
noncomputable def xt:=bo Tryz.f134
theorem afL:FO 134 Tryz.f134 xt:=fo
noncomputable def FI:=bo Tryz.f135
theorem aet:FO 135 Tryz.f135 FI:=fo
noncomputable def FJ:=bo Tryz.f144
theorem aeM:FO 144 Tryz.f144 FJ:=fo
noncomputable def Kd:=bo Tryz.f146
theorem aeO:FO 146 Tryz.f146 Kd:=fo
noncomputable def FK:=bo Tryz.f147
theorem aeJ:FO 147 Tryz.f147 FK:=fo
noncomputable def FL:=bo Tryz.f148
theorem aeQ:FO 148 Tryz.f148 FL:=fo
noncomputable def Ag:=bo Tryz.f162
theorem agx:FO 162 Tryz.f162 Ag:=fo
noncomputable def FM:=bo Tryz.f163
theorem ael:FO 163 Tryz.f163 FM:=fo
noncomputable def FN:=bo Tryz.f164
theorem afZ:FO 164 Tryz.f164 FN:=fo
noncomputable def FP:=bo Tryz.f165
theorem af9:FO 165 Tryz.f165 FP:=fo
noncomputable def rY:=bo Tryz.f166
theorem Tk:FO 166 Tryz.f166 rY:=fo
noncomputable def FQ:=bo Tryz.f167
theorem af1:FO 167 Tryz.f167 FQ:=fo
noncomputable def FR:=bo Tryz.f168
theorem TQ:FO 168 Tryz.f168 FR:=fo
noncomputable def Ah:=bo Tryz.f169
theorem TR:FO 169 Tryz.f169 Ah:=fo
noncomputable def oZ:=bo Tryz.f170
theorem agn:FO 170 Tryz.f170 oZ:=fo
noncomputable def rZ:=bo Tryz.f171
theorem TT:FO 171 Tryz.f171 rZ:=fo
noncomputable def FT:=bo Tryz.f172
theorem agi:FO 172 Tryz.f172 FT:=fo
noncomputable def FU:=bo Tryz.f173
theorem ags:FO 173 Tryz.f173 FU:=fo
noncomputable def FV:=bo Tryz.f174
theorem afJ:FO 174 Tryz.f174 FV:=fo
noncomputable def FW:=bo Tryz.f175
theorem ae0:FO 175 Tryz.f175 FW:=fo
noncomputable def Cx:=bo Tryz.f176
theorem TS:FO 176 Tryz.f176 Cx:=fo
noncomputable def Cy:=bo Tryz.f177
theorem agB:FO 177 Tryz.f177 Cy:=fo
noncomputable def R3:=bo Tryz.f178
theorem agW:FO 178 Tryz.f178 R3:=fo
noncomputable def xu:=bo Tryz.f179
theorem aev:FO 179 Tryz.f179 xu:=fo
noncomputable def r3:=bo Tryz.f180
theorem aex:FO 180 Tryz.f180 r3:=fo
noncomputable def eV:=bo Tryz.f181
theorem agP:FO 181 Tryz.f181 eV:=fo
noncomputable def FX:=bo Tryz.f182
theorem agJ:FO 182 Tryz.f182 FX:=fo
noncomputable def vr:=bo Tryz.f183
theorem aez:FO 183 Tryz.f183 vr:=fo
noncomputable def lI:=bo Tryz.f184
theorem agR:FO 184 Tryz.f184 lI:=fo
noncomputable def tN:=bo Tryz.f185
theorem afb:FO 185 Tryz.f185 tN:=fo
noncomputable def pD:=bo Tryz.f186
theorem agN:FO 186 Tryz.f186 pD:=fo
noncomputable def r4:=bo Tryz.f201
theorem Tp:FO 201 Tryz.f201 r4:=fo
noncomputable def r5:=bo Tryz.f202
theorem Tq:FO 202 Tryz.f202 r5:=fo
noncomputable def FY:=bo Tryz.f203
theorem aeH:FO 203 Tryz.f203 FY:=fo
noncomputable def r6:=bo Tryz.f223
theorem Tl:FO 223 Tryz.f223 r6:=fo
noncomputable def r7:=bo Tryz.f226
theorem Tj:FO 226 Tryz.f226 r7:=fo
noncomputable def n3:=bo Tryz.f227
theorem agl:FO 227 Tryz.f227 n3:=fo
noncomputable def FZ:=bo Tryz.f228
theorem aer:FO 228 Tryz.f228 FZ:=fo
noncomputable def F0:=bo Tryz.f229
theorem agu:FO 229 Tryz.f229 F0:=fo
noncomputable def F1:=bo Tryz.f230
theorem agf:FO 230 Tryz.f230 F1:=fo
noncomputable def F3:=bo Tryz.f231
theorem agq:FO 231 Tryz.f231 F3:=fo
noncomputable def jA:=bo Tryz.f232
theorem afF:FO 232 Tryz.f232 jA:=fo
noncomputable def Ai:=bo Tryz.f233
theorem afH:FO 233 Tryz.f233 Ai:=fo
noncomputable def qP:=bo Tryz.f234
theorem ae2:FO 234 Tryz.f234 qP:=fo
noncomputable def fP:=bo Tryz.f235
theorem agL:FO 235 Tryz.f235 fP:=fo
noncomputable def F4:=bo Tryz.f244
theorem aff:FO 244 Tryz.f244 F4:=fo
noncomputable def F5:=bo Tryz.f245
theorem afC:FO 245 Tryz.f245 F5:=fo
noncomputable def xv:=bo Tryz.f251
theorem afd:FO 251 Tryz.f251 xv:=fo
noncomputable def eW:=bo Tryz.f252
theorem afA:FO 252 Tryz.f252 eW:=fo
noncomputable def R4:=bo Tryz.f253
theorem agX:FO 253 Tryz.f253 R4:=fo
noncomputable def R5:=bo Tryz.f256
theorem agY:FO 256 Tryz.f256 R5:=fo
noncomputable def qQ:=bo Tryz.f260
theorem afy:FO 260 Tryz.f260 qQ:=fo
noncomputable def F6:=bo Tryz.f266
theorem afw:FO 266 Tryz.f266 F6:=fo
noncomputable def R6:=bo Tryz.f269
theorem agZ:FO 269 Tryz.f269 R6:=fo
noncomputable def F7:=bo Tryz.f277
theorem afu:FO 277 Tryz.f277 F7:=fo
theorem bj{f:FuncId}{fn:Func}{c:Code}(hf:lj Tryz.prog f fn c){args:List D}(ht:∀ a∈args,Tr a){r:D}(hr:Tr r)(h:AW Tryz.prog cZ true c (gY Tryz.prog fn.results.toList fun d _=>d=r) ⟨iy args,fun _=>none,0⟩)(hn:Nat.ble args.length fn.ntmps=true:=by kernel_rfl):aA Tryz.prog f args r:=aan mixed hf hn ht hr h
theorem HO{f:FuncId}{fn:Func}{c:Code}(hf:lj Tryz.prog f fn c){args:List D}(ht:∀ a∈args,Tr a){es:List D}(C:∀ a∈es,Tr a){k:Nat}{t:TypeId}(h:AW Tryz.prog cZ true c (gY Tryz.prog fn.results.toList fun d st=>∃ i,d=.rs i 0 k∧st.mem i=some (.cells es t)) ⟨iy args,fun _=>none,0⟩)(hn:Nat.ble args.length fn.ntmps=true:=by kernel_rfl):ko Tryz.prog f args es k t:=Qq mixed hf hn ht C h
theorem uR{f:FuncId}{fn:Func}{c:Code}(hf:lj Tryz.prog f fn c){args:List D}{m:Mem}{nx:Nat}{dX:D->Mem->Nat->Prop}(h:AW Tryz.prog cZ true c (gY Tryz.prog fn.results.toList fun d st=>dX d st.mem st.nx) ⟨iy args,m,nx⟩)(hn:Nat.ble args.length fn.ntmps=true:=by kernel_rfl):fD Tryz.prog f args m nx dX:=Qp mixed hf hn h
def dU(P:Program)(t:TypeId):Array Field:=match P.underlying t with|some (.struct fs)=>fs|_=> #[]
theorem u3:prog.underlying 3=some (.int .i64):=kr
theorem u5:prog.underlying 5=some (.int .u8):=kr
theorem u8:prog.underlying 8=some (.struct (dU prog 8)):=kr
theorem Vj:prog.underlying 70=some (.struct (dU prog 70)):=kr
theorem Vi:prog.underlying 72=some (.struct (dU prog 72)):=kr
theorem A8:ez prog 93=3:=kr
theorem A9:fI prog 93=true:=kr
theorem Lh:ez prog 105=9:=kr
theorem Li:fI prog 105=true:=kr
theorem Lo:lh prog 111=237:=kr
theorem Ux:prog.underlying 121=some (.struct (dU prog 121)):=kr
theorem TD:((dU prog 121).toList.map fun f=>(f.offset,prog.cellsOf f.type))=[(0,1),(1,1)]:=kr
theorem TE:((dU prog 121).toList.all fun f=>(prog.info? f.type).isSome)=true:=kr
theorem Dh:ez prog 144=9:=kr
theorem Di:fI prog 144=true:=kr
theorem Ld:ez prog 172=121:=kr
theorem Le:fI prog 172=true:=kr
theorem Uy:prog.underlying 174=some (.struct (dU prog 174)):=kr
theorem TG:((dU prog 174).toList.map fun f=>(f.offset,prog.cellsOf f.type))=[(0,2),(2,1)]:=kr
theorem TH:((dU prog 174).toList.all fun f=>(prog.info? f.type).isSome)=true:=kr
theorem Lk:ez prog 194=3:=kr
theorem Ll:fI prog 194=true:=kr
def zf(i:Nat):Code->Option (Array Oper)
 | .region j o _=>bif Nat.beq i j then some o else none
 | .seq a b=>match zf i a with
  |some x=>some x
  |none=>zf i b
 | .cond _ a b=>match zf i a with
  |some x=>some x
  |none=>zf i b
 | .block _ b=>zf i b
 | .loop b=>zf i b
 | .scope b=>zf i b
 | .rangeFunc _ _ a b=>match zf i a with
  |some x=>some x
  |none=>zf i b
 |_=>none
def Z(b:Code)(i:Nat):Array Oper:=(zf i b).getD #[]
abbrev G(i:Nat)(o:Array Oper):Code:=.region i o false
abbrev G1(b:Code)(i:Nat):Code:=.region i (Z b i) false
abbrev G2(b:Code)(i:Nat):Code:=.region i (Z b i) true
abbrev S1(a b:Code):Code:=.seq a b
abbrev C1(n:Nat)(a b:Code):Code:=.cond (.tmp n) a b
abbrev B1(n:Nat)(a:Code):Code:=.block n a
abbrev X1(n:Nat):Code:=.exit n
abbrev K1:Code:=.skip
theorem ajs:fu=(S1 (G1 fu 0) (S1 (S1 (G1 fu 1) (B1 0 (.loop (S1 (S1 (G1 fu 2) (C1 13 K1 (X1 0))) (S1 (B1 1 (S1 (G1 fu 4) (S1 (S1 (G1 fu 5) (C1 47 (S1 (G1 fu 6) .ret) K1)) (S1 (S1 (G1 fu 7) (B1 2 (.loop (S1 (S1 (G1 fu 8) (C1 52 K1 (X1 2))) (S1 (B1 3 (S1 (G1 fu 10) (C1 61 (S1 (G1 fu 11) .ret) K1))) (G1 fu 9)))))) (S1 (G1 fu 12) (B1 4 (.loop (S1 (S1 (G1 fu 13) (C1 66 K1 (X1 4))) (S1 (B1 5 (S1 (G1 fu 15) (S1 (S1 (G1 fu 16) (C1 106 (S1 (G1 fu 17) .ret) K1)) (S1 (S1 (G1 fu 18) (B1 6 (.loop (S1 (S1 (G1 fu 19) (C1 111 K1 (X1 6))) (S1 (B1 7 (S1 (G1 fu 21) (C1 121 (S1 (G1 fu 22) .ret) K1))) (G1 fu 20)))))) (S1 (G1 fu 23) (B1 8 (.loop (S1 (S1 (G1 fu 24) (C1 127 K1 (X1 8))) (S1 (B1 9 (S1 (G1 fu 26) (C1 138 (S1 (G1 fu 27) .ret) K1))) (G1 fu 25)))))))))) (G1 fu 14)))))))))) (G1 fu 3)))))) (S1 (G1 fu 28) .ret))):=kr
theorem ajI:my=(S1 (G1 my 0) (S1 (G1 my 1) (S1 (G1 my 2) (S1 (G1 my 3) (S1 (G1 my 4) (S1 (G1 my 5) (S1 (G1 my 6) (S1 (G1 my 7) (S1 (G1 my 8) (S1 (G1 my 9) (S1 (S1 (G1 my 10) (C1 107 (S1 (G1 my 11) .ret) K1)) (S1 (G1 my 12) (S1 (G1 my 13) .ret))))))))))))):=kr
theorem Up:xJ=(S1 (G1 xJ 0) (S1 (G1 xJ 1) (S1 (S1 (G1 xJ 2) (C1 12 (S1 (G1 xJ 3) .ret) K1)) (S1 (G1 xJ 4) .ret)))):=kr
theorem Zs:bT (Z ei 29)=some []:=kr
theorem Ur:ei=(S1 (G1 ei 0) (S1 (G1 ei 1) (S1 (S1 (G1 ei 2) (C1 26 (S1 (G1 ei 3) .ret) K1)) (S1 (G1 ei 4) (S1 (G1 ei 5) (S1 (S1 (G1 ei 6) (B1 0 (.loop (S1 (G1 ei 7) (S1 (C1 32 K1 (X1 0)) (S1 (B1 1 (S1 (G1 ei 8) (S1 (S1 (G1 ei 9) (C1 45 (S1 (G1 ei 10) .ret) K1)) (S1 (G1 ei 11) (S1 (G1 ei 12) (B1 2 (.loop (S1 (G1 ei 13) (S1 (C1 52 K1 (X1 2)) (S1 (B1 3 (S1 (G1 ei 14) (S1 (S1 (G1 ei 15) (S1 (G1 ei 16) (C1 85 (S1 (G1 ei 17) .ret) K1))) (G1 ei 18)))) (G1 ei 19))))))))))) (G1 ei 20))))))) (S1 (S1 (G1 ei 21) (C1 95 (S1 (G1 ei 22) .ret) K1)) (S1 (S1 (G1 ei 23) (B1 4 (.loop (S1 (G1 ei 24) (S1 (C1 99 K1 (X1 4)) (S1 (B1 5 (S1 (G1 ei 25) (S1 (G1 ei 26) (B1 6 (.loop (S1 (G1 ei 27) (S1 (C1 106 K1 (X1 6)) (S1 (B1 7 (S1 (G1 ei 28) (S1 (G2 ei 29) (C1 138 (S1 (G1 ei 30) .ret) K1)))) (G1 ei 31))))))))) (G1 ei 32))))))) (S1 (G1 ei 33) .ret))))))))):=kr
theorem abe:bT (Z pJ 6)=some []:=kr
theorem ajx:pJ=(S1 (G1 pJ 0) (S1 (S1 (G1 pJ 1) (C1 10 (S1 (G1 pJ 2) .ret) K1)) (S1 (S1 (G1 pJ 3) (B1 0 (.loop (S1 (S1 (G1 pJ 4) (C1 14 K1 (X1 0))) (S1 (B1 1 (S1 (G2 pJ 6) (C1 26 (S1 (G1 pJ 7) .ret) K1))) (G1 pJ 5)))))) (S1 (G1 pJ 8) .ret)))):=kr
theorem ajr:tV=(S1 (G1 tV 0) (S1 (S1 (G1 tV 1) (B1 0 (.loop (S1 (S1 (G1 tV 2) (C1 7 K1 (X1 0))) (S1 (B1 1 (S1 (G1 tV 4) (C1 15 (S1 (G1 tV 5) .ret) K1))) (G1 tV 3)))))) (S1 (G1 tV 6) .ret))):=kr
theorem abb:bT (Z ji 9)=some []:=kr
theorem aji:ji=(S1 (G1 ji 0) (S1 (G1 ji 1) (S1 (S1 (G1 ji 2) (C1 23 (S1 (G1 ji 3) .ret) K1)) (S1 (G1 ji 4) (S1 (G1 ji 5) (S1 (S1 (G1 ji 6) (B1 0 (.loop (S1 (G1 ji 7) (S1 (C1 37 K1 (X1 0)) (S1 (B1 1 (S1 (G1 ji 8) (G2 ji 9))) (G1 ji 10))))))) (S1 (G1 ji 11) (S1 (S1 (G1 ji 12) (B1 2 (.loop (S1 (G1 ji 13) (S1 (C1 54 K1 (X1 2)) (S1 (B1 3 (S1 (G1 ji 14) (S1 (G1 ji 15) (C1 61 (G1 ji 16) K1)))) (G1 ji 17))))))) (S1 (G1 ji 18) .ret))))))))):=kr
theorem aje:vE=(S1 (G1 vE 0) (S1 (G1 vE 1) (S1 (S1 (G1 vE 2) (C1 17 (S1 (G1 vE 3) .ret) K1)) (S1 (G1 vE 4) (S1 (G1 vE 5) .ret))))):=kr
theorem abf:bT (Z pK 6)=some []:=kr
theorem ajy:pK=(S1 (G1 pK 0) (S1 (S1 (G1 pK 1) (C1 10 (S1 (G1 pK 2) .ret) K1)) (S1 (S1 (G1 pK 3) (B1 0 (.loop (S1 (S1 (G1 pK 4) (C1 14 K1 (X1 0))) (S1 (B1 1 (S1 (G2 pK 6) (C1 25 (S1 (G1 pK 7) .ret) K1))) (G1 pK 5)))))) (S1 (G1 pK 8) .ret)))):=kr
theorem ZL:bT (Z mz 11)=some []:=kr
theorem ajR:mz=(S1 (G1 mz 0) (S1 (G1 mz 1) (S1 (S1 (G1 mz 2) (B1 0 (.loop (S1 (S1 (G1 mz 3) (C1 13 K1 (X1 0))) (S1 (B1 1 (S1 (G1 mz 5) (S1 (G1 mz 6) (S1 (S1 (G1 mz 7) (B1 2 (.loop (S1 (S1 (G1 mz 8) (C1 24 K1 (X1 2))) (S1 (B1 3 (G1 mz 10)) (G1 mz 9)))))) (G2 mz 11))))) (G1 mz 4)))))) (S1 (G1 mz 12) .ret)))):=kr
theorem aaV:bT (Z jj 9)=some []:=kr
theorem aia:jj=(S1 (G1 jj 0) (S1 (S1 (G1 jj 1) (C1 11 (S1 (G1 jj 2) .ret) K1)) (S1 (S1 (G1 jj 3) (B1 0 (.loop (S1 (G1 jj 4) (S1 (C1 15 K1 (X1 0)) (S1 (B1 1 (S1 (G1 jj 5) (S1 (S1 (G1 jj 6) (S1 (G1 jj 7) (C1 22 (S1 (G1 jj 8) .ret) K1))) (S1 (G2 jj 9) (C1 37 (S1 (G1 jj 10) .ret) K1))))) (G1 jj 11))))))) (S1 (S1 (G1 jj 12) (B1 2 (.loop (S1 (G1 jj 13) (S1 (C1 43 K1 (X1 2)) (S1 (B1 3 (S1 (G1 jj 14) (S1 (G1 jj 15) (C1 51 (S1 (G1 jj 16) .ret) K1)))) (G1 jj 17))))))) (S1 (G1 jj 18) .ret))))):=kr
theorem aa7:bT (Z o5 7)=some []:=kr
theorem aiZ:o5=(S1 (G1 o5 0) (S1 (G1 o5 1) (S1 (S1 (G1 o5 2) (C1 21 (S1 (G1 o5 3) .ret) K1)) (S1 (S1 (G1 o5 4) (B1 0 (.rangeFunc (.tmp 27) #[28,29] (S1 (G1 o5 5) (G1 o5 6)) (B1 1 (S1 (G2 o5 7) (C1 42 (S1 (G1 o5 8) .ret) K1)))))) (S1 (G1 o5 9) .ret))))):=kr
theorem ajw:Gu=(S1 (G1 Gu 0) (S1 (G1 Gu 1) .ret)):=kr
theorem Zl:bT (Z gD 20)=some [(0,3),(1,3),(3,6),(4,6),(5,6),(3,7),(4,7),(5,7),(9,11),(10,11)]:=kr
theorem aix:gD=(S1 (G1 gD 0) (S1 (S1 (G1 gD 1) (S1 (G1 gD 2) (C1 21 (S1 (G1 gD 3) .ret) K1))) (S1 (G1 gD 4) (S1 (S1 (G1 gD 5) (B1 0 (.loop (S1 (G1 gD 6) (S1 (C1 28 K1 (X1 0)) (S1 (B1 1 (S1 (G1 gD 7) (G1 gD 8))) (G1 gD 9))))))) (S1 (G1 gD 10) (S1 (S1 (G1 gD 11) (B1 2 (.loop (S1 (G1 gD 12) (S1 (C1 42 K1 (X1 2)) (S1 (B1 3 (S1 (G1 gD 13) (S1 (G1 gD 14) (S1 (S1 (G1 gD 15) (B1 4 (.loop (S1 (G1 gD 16) (S1 (C1 49 K1 (X1 4)) (S1 (B1 5 (S1 (G1 gD 17) (G1 gD 18))) (G1 gD 19))))))) (G2 gD 20))))) (G1 gD 21))))))) (S1 (G1 gD 22) .ret))))))):=kr
theorem aiA:jC=(S1 (G1 jC 0) (.scope (S1 (G1 jC 1) (S1 (.label 0) (S1 (B1 0 (.loop (B1 1 (S1 (G1 jC 2) (S1 (S1 (G1 jC 3) (B1 2 (.loop (S1 (G1 jC 4) (S1 (C1 21 K1 (X1 2)) (S1 (B1 3 (S1 (G1 jC 5) (S1 (G1 jC 6) (S1 (S1 (G1 jC 7) (B1 4 (.loop (S1 (G1 jC 8) (S1 (C1 35 K1 (X1 4)) (S1 (B1 5 (S1 (G1 jC 9) (G1 jC 10))) (G1 jC 11))))))) (G1 jC 12))))) (G1 jC 13))))))) (S1 (G1 jC 14) (S1 (G1 jC 15) (S1 (S1 (G1 jC 16) (C1 60 (X1 0) K1)) (G1 jC 17))))))))) (S1 (G1 jC 18) .ret)))))):=kr
theorem aiC:pL=(S1 (G1 pL 0) (S1 (G1 pL 1) (S1 (S1 (G1 pL 2) (B1 0 (.loop (S1 (G1 pL 3) (S1 (C1 10 K1 (X1 0)) (S1 (B1 1 (S1 (G1 pL 4) (S1 (S1 (G1 pL 5) (C1 17 (G1 pL 6) K1)) (G1 pL 7)))) (G1 pL 8))))))) (S1 (G1 pL 9) .ret)))):=kr
theorem aim:Gv=(S1 (G1 Gv 0) (S1 (G1 Gv 1) .ret)):=kr
theorem aiK:o6=(S1 (G1 o6 0) (S1 (S1 (G1 o6 1) (C1 14 (S1 (G1 o6 2) .ret) K1)) (S1 (S1 (G1 o6 3) (B1 0 (.loop (S1 (G1 o6 4) (S1 (C1 18 K1 (X1 0)) (S1 (B1 1 (S1 (G1 o6 5) (S1 (G1 o6 6) (S1 (G1 o6 7) (C1 30 (S1 (G1 o6 8) .ret) K1))))) (G1 o6 9))))))) (S1 (G1 o6 10) .ret)))):=kr
theorem aiI:Gw=(S1 (G1 Gw 0) (S1 (G1 Gw 1) .ret)):=kr
theorem ajN:ss=(S1 (G1 ss 0) (S1 (G1 ss 1) (S1 (S1 (G1 ss 2) (B1 0 (.loop (S1 (S1 (G1 ss 3) (C1 9 K1 (X1 0))) (S1 (B1 1 (S1 (G1 ss 5) (C1 18 (G1 ss 6) K1))) (G1 ss 4)))))) (S1 (G1 ss 7) .ret)))):=kr
theorem ajL:tW=(S1 (G1 tW 0) (S1 (S1 (G1 tW 1) (B1 0 (.loop (S1 (S1 (G1 tW 2) (C1 9 K1 (X1 0))) (S1 (B1 1 (S1 (G1 tW 4) (C1 18 (S1 (G1 tW 5) .ret) K1))) (G1 tW 3)))))) (S1 (G1 tW 6) .ret))):=kr
theorem ai7:nj=(S1 (G1 nj 0) (S1 (G1 nj 1) (S1 (S1 (G1 nj 2) (C1 16 (S1 (G1 nj 3) .ret) K1)) (S1 (S1 (G1 nj 4) (C1 21 (S1 (G1 nj 5) .ret) K1)) (S1 (S1 (G1 nj 6) (B1 0 (.loop (S1 (G1 nj 7) (S1 (C1 26 K1 (X1 0)) (S1 (B1 1 (S1 (G1 nj 8) (S1 (G1 nj 9) (C1 32 (S1 (G1 nj 10) .ret) K1)))) (G1 nj 11))))))) (S1 (G1 nj 12) .ret)))))):=kr
theorem Zy:bT (Z gl 10)=some [(0,10)]:=kr
theorem ZA:bT (Z gl 14)=some []:=kr
theorem aja:gl=(S1 (G1 gl 0) (S1 (G1 gl 1) (S1 (G1 gl 2) (S1 (S1 (G1 gl 3) (B1 0 (.loop (S1 (G1 gl 4) (S1 (C1 28 K1 (X1 0)) (S1 (B1 1 (S1 (G1 gl 5) (S1 (G1 gl 6) (S1 (S1 (G1 gl 7) (B1 2 (.loop (S1 (G1 gl 8) (S1 (C1 34 K1 (X1 2)) (S1 (B1 3 (S1 (G1 gl 9) (S1 (G2 gl 10) (G1 gl 11)))) (G1 gl 12))))))) (S1 (S1 (G1 gl 13) (C1 58 (G2 gl 14) K1)) (S1 (G1 gl 15) (S1 (G1 gl 16) (B1 4 (.loop (S1 (G1 gl 17) (S1 (C1 73 K1 (X1 4)) (S1 (B1 5 (S1 (G1 gl 18) (G1 gl 19))) (G1 gl 20))))))))))))) (G1 gl 21))))))) (S1 (G1 gl 22) .ret))))):=kr
theorem aaW:bT (Z gE 3)=some [(2,3),(2,4),(2,6),(5,6),(2,7),(5,7),(5,9),(8,9)]:=kr
theorem Zk:bT (Z gE 16)=some [(3,4),(3,5),(3,6),(3,8),(7,8),(3,9),(7,9),(3,10),(7,10),(3,11),(7,11),(7,13),(12,13),(7,14),(12,14)]:=kr
theorem ais:gE=(S1 (G1 gE 0) (S1 (G1 gE 1) (S1 (G1 gE 2) (S1 (G2 gE 3) (S1 (G1 gE 4) (S1 (S1 (G1 gE 5) (B1 0 (.loop (S1 (G1 gE 6) (S1 (C1 33 K1 (X1 0)) (S1 (B1 1 (S1 (G1 gE 7) (S1 (G1 gE 8) (S1 (G1 gE 9) (S1 (S1 (G1 gE 10) (B1 2 (.loop (S1 (G1 gE 11) (S1 (C1 42 K1 (X1 2)) (S1 (B1 3 (S1 (G1 gE 12) (S1 (G1 gE 13) (G1 gE 14)))) (G1 gE 15))))))) (S1 (G2 gE 16) (S1 (S1 (G1 gE 17) (C1 85 (G1 gE 18) K1)) (G1 gE 19)))))))) (G1 gE 20))))))) (S1 (G1 gE 21) .ret))))))):=kr
theorem ajg:Gx=(S1 (G1 Gx 0) (S1 (G1 Gx 1) .ret)):=kr
theorem abo:bT (Z n8 8)=some []:=kr
theorem ajP:n8=(S1 (G1 n8 0) (S1 (G1 n8 1) (S1 (G1 n8 2) (S1 (G1 n8 3) (S1 (S1 (G1 n8 4) (B1 0 (.loop (S1 (S1 (G1 n8 5) (C1 20 K1 (X1 0))) (S1 (B1 1 (S1 (G1 n8 7) (C1 29 (S1 (G2 n8 8) (G1 n8 9)) K1))) (G1 n8 6)))))) (S1 (G1 n8 10) .ret)))))):=kr
theorem akd:vF=(S1 (G1 vF 0) (S1 (B1 0 (S1 (G1 vF 1) (C1 3 (S1 (G1 vF 2) .ret) (S1 (G1 vF 3) (C1 7 (S1 (G1 vF 4) .ret) K1))))) (S1 (G1 vF 5) .ret))):=kr
theorem Jw:bT (Z dO 8)=some []:=kr
theorem EW:bT (Z dO 15)=some []:=kr
theorem ah9:dO=(S1 (G1 dO 0) (S1 (S1 (G1 dO 1) (B1 0 (.loop (S1 (G1 dO 2) (S1 (C1 17 K1 (X1 0)) (S1 (B1 1 (S1 (G1 dO 3) (S1 (G1 dO 4) (S1 (G1 dO 5) (S1 (G1 dO 6) (B1 2 (S1 (G1 dO 7) (C1 31 (S1 (G2 dO 8) (C1 63 (S1 (G1 dO 9) .ret) K1)) (S1 (G1 dO 10) (C1 64 (S1 (G1 dO 11) (C1 80 (S1 (G1 dO 12) .ret) K1)) (S1 (G1 dO 13) (C1 81 (S1 (G1 dO 14) (S1 (G2 dO 15) (C1 103 (S1 (G1 dO 16) .ret) K1))) K1)))))))))))) (G1 dO 17))))))) (S1 (G1 dO 18) .ret))):=kr
theorem aic:o3=(S1 (G1 o3 0) (S1 (G1 o3 1) (S1 (S1 (G1 o3 2) (B1 0 (.loop (S1 (G1 o3 3) (S1 (C1 10 K1 (X1 0)) (S1 (B1 1 (S1 (G1 o3 4) (S1 (G1 o3 5) (C1 22 (G1 o3 6) K1)))) (G1 o3 7))))))) (S1 (G1 o3 8) .ret)))):=kr
theorem aiv:CT=(S1 (G1 CT 0) (S1 (G1 CT 1) (S1 (G1 CT 2) .ret))):=kr
theorem aiV:xK=(S1 (G1 xK 0) (S1 (G1 xK 1) (S1 (S1 (G1 xK 2) (C1 36 (G1 xK 3) K1)) (S1 (G1 xK 4) .ret)))):=kr
theorem aiQ:Gy=(S1 (G1 Gy 0) (S1 (G1 Gy 1) .ret)):=kr
theorem abd:bT (Z pM 6)=some []:=kr
theorem aju:pM=(S1 (G1 pM 0) (S1 (S1 (G1 pM 1) (C1 10 (S1 (G1 pM 2) .ret) K1)) (S1 (S1 (G1 pM 3) (B1 0 (.loop (S1 (S1 (G1 pM 4) (C1 14 K1 (X1 0))) (S1 (B1 1 (S1 (G2 pM 6) (C1 25 (S1 (G1 pM 7) .ret) K1))) (G1 pM 5)))))) (S1 (G1 pM 8) .ret)))):=kr
theorem aj2:Gz=(S1 (G1 Gz 0) (S1 (G1 Gz 1) .ret)):=kr
theorem ah5:xL=(S1 (G1 xL 0) (S1 (G1 xL 1) (S1 (S1 (G1 xL 2) (C1 11 (S1 (G1 xL 3) .ret) K1)) (S1 (G1 xL 4) .ret)))):=kr
theorem ahW:GA=(S1 (G1 GA 0) (S1 (G1 GA 1) .ret)):=kr
theorem aiq:nk=(S1 (G1 nk 0) (S1 (G1 nk 1) (S1 (G1 nk 2) (S1 (S1 (G1 nk 3) (B1 0 (.loop (S1 (G1 nk 4) (S1 (C1 14 K1 (X1 0)) (S1 (B1 1 (S1 (G1 nk 5) (S1 (G1 nk 6) (S1 (S1 (G1 nk 7) (C1 24 (S1 (G1 nk 8) (G1 nk 9)) K1)) (G1 nk 10))))) (G1 nk 11))))))) (S1 (G1 nk 12) .ret))))):=kr
theorem aio:su=(S1 (G1 su 0) (S1 (G1 su 1) (S1 (S1 (G1 su 2) (B1 0 (.loop (S1 (G1 su 3) (S1 (C1 9 K1 (X1 0)) (S1 (B1 1 (S1 (G1 su 4) (G1 su 5))) (G1 su 6))))))) (S1 (G1 su 7) .ret)))):=kr
theorem ajK:GB=(S1 (G1 GB 0) (S1 (G1 GB 1) .ret)):=kr
theorem ai5:GC=(S1 (G1 GC 0) (S1 (G1 GC 1) .ret)):=kr
theorem ai3:GD=(S1 (G1 GD 0) (S1 (G1 GD 1) .ret)):=kr
theorem ai1:GF=(S1 (G1 GF 0) (S1 (G1 GF 1) .ret)):=kr
theorem ahU:sv=(S1 (G1 sv 0) (S1 (S1 (G1 sv 1) (B1 0 (.loop (S1 (G1 sv 2) (S1 (C1 9 K1 (X1 0)) (S1 (B1 1 (S1 (G1 sv 3) (S1 (G1 sv 4) (C1 16 (S1 (G1 sv 5) .ret) K1)))) (G1 sv 6))))))) (S1 (G1 sv 7) .ret))):=kr
theorem ai9:GG=(S1 (G1 GG 0) (S1 (G1 GG 1) .ret)):=kr
theorem aie:As=(S1 (G1 As 0) (S1 (S1 (G1 As 1) (C1 4 (S1 (G1 As 2) .ret) K1)) (S1 (G1 As 3) .ret))):=kr
theorem aih:At=(S1 (G1 At 0) (S1 (S1 (G1 At 1) (C1 4 (S1 (G1 At 2) .ret) K1)) (S1 (G1 At 3) .ret))):=kr
theorem akj:xI=(S1 (G1 xI 0) (S1 (S1 (G1 xI 1) (C1 4 (S1 (G1 xI 2) .ret) K1)) (S1 (G1 xI 3) .ret))):=kr
theorem aij:Au=(S1 (G1 Au 0) (S1 (S1 (G1 Au 1) (C1 4 (S1 (G1 Au 2) .ret) K1)) (S1 (G1 Au 3) .ret))):=kr
theorem ZW:bT (Z dP 10)=some []:=kr
theorem ZX:bT (Z dP 32)=some []:=kr
theorem akb:dP=(S1 (G1 dP 0) (S1 (G1 dP 1) (S1 (G1 dP 2) (S1 (S1 (G1 dP 3) (C1 71 (S1 (G1 dP 4) .ret) K1)) (S1 (S1 (G1 dP 5) (C1 101 (S1 (G1 dP 6) .ret) K1)) (S1 (S1 (G1 dP 7) (B1 0 (.loop (S1 (S1 (G1 dP 8) (C1 106 K1 (X1 0))) (S1 (B1 1 (S1 (G2 dP 10) (C1 120 (S1 (G1 dP 11) .ret) K1))) (G1 dP 9)))))) (S1 (G1 dP 12) (S1 (S1 (G1 dP 13) (B1 2 (.loop (S1 (G1 dP 14) (S1 (C1 126 K1 (X1 2)) (S1 (B1 3 (S1 (G1 dP 15) (S1 (S1 (G1 dP 16) (C1 139 (S1 (G1 dP 17) .ret) K1)) (S1 (G1 dP 18) (C1 143 (S1 (S1 (G1 dP 19) (C1 148 (S1 (G1 dP 20) .ret) K1)) (G1 dP 21)) K1))))) (G1 dP 22))))))) (S1 (G1 dP 23) (S1 (S1 (G1 dP 24) (B1 4 (.loop (S1 (G1 dP 25) (S1 (C1 160 K1 (X1 4)) (S1 (B1 5 (S1 (G1 dP 26) (S1 (G1 dP 27) (S1 (G1 dP 28) (B1 6 (.loop (S1 (G1 dP 29) (S1 (C1 168 K1 (X1 6)) (S1 (B1 7 (S1 (G1 dP 30) (S1 (G1 dP 31) (S1 (G2 dP 32) (C1 187 (S1 (G1 dP 33) .ret) K1))))) (G1 dP 34)))))))))) (G1 dP 35))))))) (S1 (G1 dP 36) .ret))))))))))):=kr
theorem abC:bT (Z fQ 7)=some []:=kr
theorem ZU:bT (Z fQ 17)=some []:=kr
theorem ZV:bT (Z fQ 18)=some [(14,15),(14,16),(14,18),(14,19)]:=kr
theorem aj9:fQ=(S1 (G1 fQ 0) (.scope (S1 (G1 fQ 1) (S1 (G1 fQ 2) (S1 (.label 0) (S1 (S1 (G1 fQ 3) (B1 0 (.loop (S1 (G1 fQ 4) (S1 (C1 28 K1 (X1 0)) (S1 (B1 1 (S1 (G1 fQ 5) (S1 (S1 (G1 fQ 6) (C1 36 (X1 1) K1)) (S1 (S1 (G2 fQ 7) (S1 (G1 fQ 8) (C1 47 (S1 (G1 fQ 9) .ret) K1))) (S1 (G1 fQ 10) (B1 2 (.loop (S1 (G1 fQ 11) (S1 (C1 52 K1 (X1 2)) (S1 (B1 3 (S1 (G1 fQ 12) (S1 (S1 (G1 fQ 13) (C1 57 (X1 1) K1)) (S1 (G1 fQ 14) (B1 4 (.loop (S1 (G1 fQ 15) (S1 (C1 64 K1 (X1 4)) (S1 (B1 5 (S1 (G1 fQ 16) (S1 (G2 fQ 17) (S1 (G2 fQ 18) (C1 104 (S1 (G1 fQ 19) .ret) K1))))) (G1 fQ 20)))))))))) (G1 fQ 21))))))))))) (G1 fQ 22))))))) (S1 (G1 fQ 23) .ret))))))):=kr
theorem aaS:bT (Z o7 6)=some []:=kr
theorem ah7:o7=(S1 (G1 o7 0) (S1 (S1 (G1 o7 1) (C1 13 (S1 (G1 o7 2) .ret) K1)) (S1 (S1 (G1 o7 3) (B1 0 (.loop (S1 (G1 o7 4) (S1 (C1 17 K1 (X1 0)) (S1 (B1 1 (S1 (G1 o7 5) (S1 (G2 o7 6) (C1 32 (S1 (G1 o7 7) .ret) K1)))) (G1 o7 8))))))) (S1 (G1 o7 9) .ret)))):=kr
theorem aeZ:rV=(S1 (G1 rV 0) (S1 (S1 (G1 rV 1) (B1 0 (.loop (S1 (G1 rV 2) (S1 (C1 15 K1 (X1 0)) (S1 (B1 1 (S1 (G1 rV 3) (S1 (G1 rV 4) (C1 28 (S1 (G1 rV 5) .ret) K1)))) (G1 rV 6))))))) (S1 (G1 rV 7) .ret))):=kr
theorem Zd:bT (Z dI 8)=some [(1,6),(2,6),(6,7),(6,8),(6,9),(1,10),(2,10)]:=kr
theorem X6:bT (Z dI 30)=some [(1,5),(2,5)]:=kr
theorem Tt:dI=(S1 (G1 dI 0) (S1 (S1 (G1 dI 1) (S1 (G1 dI 2) (C1 17 (S1 (G1 dI 3) .ret) K1))) (S1 (G1 dI 4) (S1 (G1 dI 5) (S1 (S1 (G1 dI 6) (C1 22 (G1 dI 7) K1)) (S1 (G2 dI 8) (S1 (G1 dI 9) (S1 (G1 dI 10) (S1 (G1 dI 11) (S1 (S1 (G1 dI 12) (B1 0 (.loop (S1 (G1 dI 13) (S1 (C1 56 K1 (X1 0)) (S1 (B1 1 (S1 (G1 dI 14) (S1 (G1 dI 15) (S1 (S1 (G1 dI 16) (B1 2 (.loop (S1 (G1 dI 17) (S1 (C1 66 K1 (X1 2)) (S1 (B1 3 (S1 (G1 dI 18) (G1 dI 19))) (G1 dI 20))))))) (S1 (G1 dI 21) (S1 (G1 dI 22) (S1 (S1 (G1 dI 23) (C1 96 (G1 dI 24) K1)) (S1 (S1 (G1 dI 25) (C1 104 (G1 dI 26) K1)) (S1 (G1 dI 27) (B1 4 (.loop (S1 (G1 dI 28) (S1 (C1 113 K1 (X1 4)) (S1 (B1 5 (S1 (G1 dI 29) (G2 dI 30))) (G1 dI 31))))))))))))))) (G1 dI 32))))))) (S1 (G1 dI 33) .ret))))))))))):=kr
theorem ae6:FA=(S1 (G1 FA 0) (S1 (G1 FA 1) .ret)):=kr
theorem Zu:bT (Z kf 6)=some []:=kr
theorem X9:bT (Z kf 13)=some [(1,13)]:=kr
theorem afo:kf=(S1 (G1 kf 0) (S1 (G1 kf 1) (B1 0 (.loop (S1 (S1 (G1 kf 2) (C1 16 K1 (X1 0))) (S1 (B1 1 (S1 (G1 kf 4) (S1 (S1 (G1 kf 5) (C1 28 .ret K1)) (S1 (S1 (G2 kf 6) (C1 43 (X1 1) K1)) (S1 (G1 kf 7) (B1 2 (.loop (S1 (G1 kf 8) (S1 (C1 53 K1 (X1 2)) (S1 (B1 3 (S1 (G1 kf 9) (S1 (G1 kf 10) (S1 (G1 kf 11) (C1 77 (S1 (G1 kf 12) (G2 kf 13)) K1))))) (G1 kf 14))))))))))) (G1 kf 3))))))):=kr
theorem aeX:rW=(S1 (G1 rW 0) (S1 (S1 (G1 rW 1) (B1 0 (.loop (S1 (G1 rW 2) (S1 (C1 9 K1 (X1 0)) (S1 (B1 1 (S1 (G1 rW 3) (S1 (G1 rW 4) (C1 16 (S1 (G1 rW 5) .ret) K1)))) (G1 rW 6))))))) (S1 (G1 rW 7) .ret))):=kr
theorem aeV:FC=(S1 (G1 FC 0) (S1 (G1 FC 1) .ret)):=kr
theorem aeE:Af=(S1 (G1 Af 0) (S1 (G1 Af 1) (S1 (G1 Af 2) (S1 (G1 Af 3) .ret)))):=kr
theorem Zc:bT (Z Cv 1)=some [(4,6),(4,7),(4,8),(4,9)]:=kr
theorem aeT:Cv=(S1 (G1 Cv 0) (S1 (G2 Cv 1) .ret)):=kr
theorem afr:rX=(S1 (G1 rX 0) (S1 (S1 (G1 rX 1) (B1 0 (.loop (S1 (G1 rX 2) (S1 (C1 9 K1 (X1 0)) (S1 (B1 1 (S1 (G1 rX 3) (S1 (G1 rX 4) (C1 16 (S1 (G1 rX 5) .ret) K1)))) (G1 rX 6))))))) (S1 (G1 rX 7) .ret))):=kr
theorem agA:Cw=(S1 (G1 Cw 0) (S1 (G1 Cw 1) (S1 (G1 Cw 2) .ret))):=kr
theorem af4:FD=(S1 (G1 FD 0) (S1 (G1 FD 1) .ret)):=kr
theorem agb:FE=(S1 (G1 FE 0) (S1 (G1 FE 1) .ret)):=kr
theorem aep:FF=(S1 (G1 FF 0) (S1 (G1 FF 1) .ret)):=kr
theorem af8:FG=(S1 (G1 FG 0) (S1 (G1 FG 1) .ret)):=kr
theorem af6:FH=(S1 (G1 FH 0) (S1 (G1 FH 1) .ret)):=kr
theorem Ys:bT (Z eN 11)=some [(3,4),(3,5),(3,6)]:=kr
theorem Yt:bT (Z eN 28)=some [(7,8),(7,9),(7,10)]:=kr
theorem agG:eN=(S1 (G1 eN 0) (S1 (G1 eN 1) (S1 (G1 eN 2) (S1 (S1 (G1 eN 3) (B1 0 (S1 (G1 eN 4) (C1 13 (G1 eN 5) (S1 (G1 eN 6) (C1 20 (G1 eN 7) (S1 (G1 eN 8) (C1 42 (S1 (G1 eN 9) (S1 (G1 eN 10) (C1 57 (G2 eN 11) K1))) (S1 (G1 eN 12) (C1 66 (G1 eN 13) (S1 (G1 eN 14) (C1 72 (S1 (G1 eN 15) (S1 (G1 eN 16) (G1 eN 17))) (S1 (G1 eN 18) (C1 107 (S1 (G1 eN 19) (G1 eN 20)) (S1 (G1 eN 21) (C1 153 (S1 (G1 eN 22) (G1 eN 23)) (S1 (G1 eN 24) (C1 187 (S1 (G1 eN 25) (G1 eN 26)) (S1 (G1 eN 27) (C1 224 (G2 eN 28) K1)))))))))))))))))))) (S1 (G1 eN 29) .ret))))):=kr
theorem afY:n2=(S1 (G1 n2 0) (S1 (G1 n2 1) (S1 (S1 (G1 n2 2) (B1 0 (.loop (S1 (G1 n2 3) (S1 (C1 18 K1 (X1 0)) (S1 (B1 1 (S1 (G1 n2 4) (S1 (G1 n2 5) (B1 2 (.loop (S1 (G1 n2 6) (S1 (C1 28 K1 (X1 2)) (S1 (B1 3 (S1 (G1 n2 7) (G1 n2 8))) (G1 n2 9))))))))) (G1 n2 10))))))) (S1 (G1 n2 11) .ret)))):=kr
theorem agE:mu=(S1 (G1 mu 0) (S1 (S1 (G1 mu 1) (B1 0 (S1 (G1 mu 2) (C1 17 (S1 (G1 mu 3) .ret) (S1 (G1 mu 4) (C1 45 (S1 (G1 mu 5) .ret) (S1 (G1 mu 6) (C1 69 (S1 (G1 mu 7) .ret) (S1 (G1 mu 8) (C1 93 (S1 (G1 mu 9) (S1 (G1 mu 10) (S1 (G1 mu 11) .ret))) K1)))))))))) (S1 (G1 mu 12) (S1 (G1 mu 13) .ret)))):=kr
theorem ZR:bT (Z ew 1)=some [(4,5),(4,6),(4,7),(4,8)]:=kr
theorem Ym:bT (Z ew 20)=some []:=kr
theorem Yn:bT (Z ew 24)=some [(2,8),(3,8)]:=kr
theorem Yo:bT (Z ew 25)=some []:=kr
theorem afW:ew=(S1 (G1 ew 0) (S1 (G2 ew 1) (S1 (S1 (G1 ew 2) (B1 0 (.loop (S1 (G1 ew 3) (S1 (C1 29 K1 (X1 0)) (S1 (B1 1 (S1 (G1 ew 4) (G1 ew 5))) (G1 ew 6))))))) (S1 (G1 ew 7) (S1 (S1 (G1 ew 8) (B1 2 (.loop (S1 (G1 ew 9) (S1 (C1 45 K1 (X1 2)) (S1 (B1 3 (S1 (G1 ew 10) (G1 ew 11))) (G1 ew 12))))))) (S1 (S1 (G1 ew 13) (B1 4 (.loop (S1 (S1 (G1 ew 14) (C1 55 K1 (X1 4))) (B1 5 (S1 (G1 ew 15) (S1 (G1 ew 16) (B1 6 (.loop (S1 (G1 ew 17) (S1 (C1 61 K1 (X1 6)) (S1 (B1 7 (S1 (G1 ew 18) (S1 (S1 (G1 ew 19) (C1 69 (X1 7) K1)) (S1 (G2 ew 20) (S1 (G1 ew 21) (B1 8 (.loop (S1 (G1 ew 22) (S1 (C1 85 K1 (X1 8)) (S1 (B1 9 (S1 (G1 ew 23) (S1 (G2 ew 24) (S1 (G2 ew 25) (C1 110 (G1 ew 26) K1))))) (G1 ew 27))))))))))) (G1 ew 28))))))))))))) (S1 (G1 ew 29) .ret))))))):=kr
theorem IJ:bT (Z je 10)=some [(6,9)]:=kr
theorem afO:je=(S1 (G1 je 0) (S1 (G1 je 1) (S1 (S1 (G1 je 2) (B1 0 (.loop (S1 (G1 je 3) (S1 (C1 17 K1 (X1 0)) (S1 (B1 1 (S1 (G1 je 4) (S1 (S1 (G1 je 5) (B1 2 (.loop (S1 (G1 je 6) (S1 (C1 24 K1 (X1 2)) (S1 (B1 3 (S1 (G1 je 7) (G1 je 8))) (G1 je 9))))))) (S1 (G2 je 10) (G1 je 11))))) (G1 je 12))))))) (S1 (S1 (G1 je 13) (B1 4 (.loop (S1 (G1 je 14) (S1 (C1 56 K1 (X1 4)) (S1 (B1 5 (S1 (G1 je 15) (G1 je 16))) (G1 je 17))))))) (S1 (G1 je 18) .ret))))):=kr
theorem ZO:bT (Z xt 2)=some [(0,2)]:=kr
theorem afM:xt=(S1 (G1 xt 0) (S1 (S1 (G1 xt 1) (C1 9 (S1 (G2 xt 2) .ret) K1)) (S1 (G1 xt 3) .ret))):=kr
theorem aeu:FI=(S1 (G1 FI 0) (S1 (G1 FI 1) .ret)):=kr
theorem Zb:bT (Z FJ 0)=some [(1,4),(2,4)]:=kr
theorem aeN:FJ=(G2 FJ 0):=kr
theorem aeP:Kd=(G1 Kd 0):=kr
theorem aeK:FK=(S1 (G1 FK 0) (S1 (G1 FK 1) .ret)):=kr
theorem aeR:FL=(S1 (G1 FL 0) (G1 FL 1)):=kr
theorem agy:Ag=(S1 (G1 Ag 0) (S1 (G1 Ag 1) (S1 (G1 Ag 2) (S1 (G1 Ag 3) .ret)))):=kr
theorem aem:FM=(S1 (G1 FM 0) (S1 (G1 FM 1) .ret)):=kr
theorem af0:FN=(S1 (G1 FN 0) (S1 (G1 FN 1) .ret)):=kr
theorem af':FP=(S1 (G1 FP 0) (S1 (G1 FP 1) .ret)):=kr
theorem aen:rY=(S1 (G1 rY 0) (S1 (S1 (G1 rY 1) (B1 0 (.loop (S1 (G1 rY 2) (S1 (C1 9 K1 (X1 0)) (S1 (B1 1 (S1 (G1 rY 3) (S1 (G1 rY 4) (C1 16 (S1 (G1 rY 5) .ret) K1)))) (G1 rY 6))))))) (S1 (G1 rY 7) .ret))):=kr
theorem af2:FQ=(S1 (G1 FQ 0) (S1 (G1 FQ 1) .ret)):=kr
theorem agd:FR=(S1 (G1 FR 0) (S1 (G1 FR 1) .ret)):=kr
theorem age:Ah=(S1 (G1 Ah 0) (S1 (S1 (G1 Ah 1) (C1 12 (S1 (G1 Ah 2) .ret) K1)) (S1 (G1 Ah 3) .ret))):=kr
theorem ago:oZ=(S1 (G1 oZ 0) (S1 (G1 oZ 1) (S1 (S1 (G1 oZ 2) (C1 20 (G1 oZ 3) K1)) (S1 (G1 oZ 4) (S1 (S1 (G1 oZ 5) (B1 0 (S1 (G1 oZ 6) (C1 31 (G1 oZ 7) (S1 (G1 oZ 8) (C1 43 (G1 oZ 9) K1)))))) (S1 (G1 oZ 10) .ret)))))):=kr
theorem agw:rZ=(S1 (G1 rZ 0) (S1 (S1 (G1 rZ 1) (B1 0 (.loop (S1 (G1 rZ 2) (S1 (C1 11 K1 (X1 0)) (S1 (B1 1 (S1 (G1 rZ 3) (S1 (G1 rZ 4) (C1 33 (S1 (G1 rZ 5) .ret) K1)))) (G1 rZ 6))))))) (S1 (G1 rZ 7) .ret))):=kr
theorem agj:FT=(S1 (G1 FT 0) (S1 (G1 FT 1) .ret)):=kr
theorem agt:FU=(S1 (G1 FU 0) (S1 (G1 FU 1) .ret)):=kr
theorem afK:FV=(S1 (G1 FV 0) (S1 (G1 FV 1) .ret)):=kr
theorem ae1:FW=(S1 (G1 FW 0) (S1 (G1 FW 1) .ret)):=kr
theorem P5:bT (Z Cx 1)=some [(10,11),(10,12),(10,13),(10,15),(10,16)]:=kr
theorem agk:Cx=(S1 (G1 Cx 0) (S1 (G2 Cx 1) .ret)):=kr
theorem ZZ:bT (Z Cy 1)=some [(2,3)]:=kr
theorem agC:Cy=(S1 (G1 Cy 0) (S1 (G2 Cy 1) .ret)):=kr
theorem Y8:bT (Z xu 2)=some []:=kr
theorem aew:xu=(S1 (G1 xu 0) (S1 (S1 (G1 xu 1) (C1 6 (G2 xu 2) K1)) (S1 (G1 xu 3) .ret))):=kr
theorem Y9:bT (Z r3 4)=some []:=kr
theorem aey:r3=(S1 (G1 r3 0) (S1 (S1 (G1 r3 1) (B1 0 (.loop (S1 (G1 r3 2) (S1 (C1 7 K1 (X1 0)) (S1 (B1 1 (S1 (G1 r3 3) (G2 r3 4))) (G1 r3 5))))))) (S1 (G1 r3 6) .ret))):=kr
theorem agQ:eV=(S1 (G1 eV 0) (S1 (S1 (G1 eV 1) (B1 0 (S1 (S1 (G1 eV 2) (C1 5 K1 (S1 (G1 eV 3) (C1 5 K1 (S1 (G1 eV 4) (C1 5 K1 (S1 (G1 eV 5) (C1 5 K1 (S1 (G1 eV 6) (C1 5 K1 (S1 (G1 eV 7) (C1 5 K1 (S1 (G1 eV 8) (C1 5 K1 (S1 (G1 eV 9) (C1 5 K1 (G1 eV 10))))))))))))))))) (C1 5 (S1 (G1 eV 11) .ret) (S1 (S1 (G1 eV 12) (C1 18 K1 (S1 (G1 eV 13) (C1 18 K1 (S1 (G1 eV 14) (C1 18 K1 (S1 (G1 eV 15) (C1 18 K1 (S1 (G1 eV 16) (C1 18 K1 (S1 (G1 eV 17) (C1 18 K1 (S1 (G1 eV 18) (C1 18 K1 (S1 (G1 eV 19) (C1 18 K1 (S1 (G1 eV 20) (C1 18 K1 (S1 (G1 eV 21) (C1 18 K1 (S1 (G1 eV 22) (C1 18 K1 (S1 (G1 eV 23) (C1 18 K1 (G1 eV 24))))))))))))))))))))))))) (C1 18 (S1 (G1 eV 25) .ret) (S1 (G1 eV 26) (C1 37 (S1 (G1 eV 27) .ret) (S1 (G1 eV 28) (C1 42 (S1 (G1 eV 29) .ret) K1)))))))))) (S1 (G1 eV 30) .ret))):=kr
theorem agK:FX=(S1 (G1 FX 0) (S1 (G1 FX 1) .ret)):=kr
theorem Za:bT (Z vr 2)=some [(0,3)]:=kr
theorem Y':bT (Z vr 3)=some [(0,2)]:=kr
theorem aeA:vr=(S1 (G1 vr 0) (S1 (S1 (G1 vr 1) (C1 7 (S1 (G2 vr 2) .ret) K1)) (S1 (G2 vr 3) .ret))):=kr
theorem agS:lI=(S1 (G1 lI 0) (S1 (S1 (G1 lI 1) (B1 0 (S1 (S1 (G1 lI 2) (C1 5 K1 (S1 (G1 lI 3) (C1 5 K1 (G1 lI 4))))) (C1 5 (S1 (G1 lI 5) .ret) (S1 (G1 lI 6) (C1 12 (S1 (G1 lI 7) (C1 16 (S1 (G1 lI 8) .ret) K1)) (S1 (G1 lI 9) (C1 20 (S1 (G1 lI 10) .ret) (S1 (S1 (G1 lI 11) (C1 25 K1 (G1 lI 12))) (C1 25 (S1 (G1 lI 13) .ret) K1)))))))))) (S1 (G1 lI 14) .ret))):=kr
theorem afc:tN=(S1 (G1 tN 0) (S1 (G1 tN 1) (S1 (S1 (G1 tN 2) (B1 0 (.rangeFunc (.tmp 8) #[9] (G1 tN 3) (B1 1 (S1 (G1 tN 4) (C1 12 (G1 tN 5) K1)))))) (S1 (G1 tN 6) .ret)))):=kr
theorem agO:pD=(S1 (G1 pD 0) (S1 (S1 (G1 pD 1) (B1 0 (S1 (G1 pD 2) (C1 5 (S1 (G1 pD 3) .ret) (S1 (S1 (G1 pD 4) (C1 10 K1 (G1 pD 5))) (C1 10 (S1 (G1 pD 6) .ret) (S1 (G1 pD 7) (C1 15 (S1 (G1 pD 8) .ret) K1)))))))) (S1 (G1 pD 9) .ret))):=kr
theorem aeF:r4=(S1 (G1 r4 0) (S1 (G1 r4 1) (S1 (S1 (G1 r4 2) (B1 0 (.loop (S1 (G1 r4 3) (S1 (C1 11 K1 (X1 0)) (S1 (B1 1 (S1 (G1 r4 4) (G1 r4 5))) (G1 r4 6))))))) (S1 (G1 r4 7) .ret)))):=kr
theorem aeG:r5=(S1 (G1 r5 0) (S1 (G1 r5 1) (S1 (S1 (G1 r5 2) (B1 0 (.loop (S1 (G1 r5 3) (S1 (C1 11 K1 (X1 0)) (S1 (B1 1 (S1 (G1 r5 4) (G1 r5 5))) (G1 r5 6))))))) (S1 (G1 r5 7) .ret)))):=kr
theorem aeI:FY=(S1 (G1 FY 0) (S1 (G1 FY 1) .ret)):=kr
theorem aeq:r6=(S1 (G1 r6 0) (S1 (S1 (G1 r6 1) (B1 0 (.loop (S1 (G1 r6 2) (S1 (C1 9 K1 (X1 0)) (S1 (B1 1 (S1 (G1 r6 3) (S1 (G1 r6 4) (C1 16 (S1 (G1 r6 5) .ret) K1)))) (G1 r6 6))))))) (S1 (G1 r6 7) .ret))):=kr
theorem aek:r7=(S1 (G1 r7 0) (S1 (S1 (G1 r7 1) (B1 0 (.loop (S1 (G1 r7 2) (S1 (C1 9 K1 (X1 0)) (S1 (B1 1 (S1 (G1 r7 3) (S1 (G1 r7 4) (C1 16 (S1 (G1 r7 5) .ret) K1)))) (G1 r7 6))))))) (S1 (G1 r7 7) .ret))):=kr
theorem agm:n3=(S1 (G1 n3 0) (S1 (G1 n3 1) (S1 (S1 (G1 n3 2) (B1 0 (S1 (G1 n3 3) (C1 14 (S1 (G1 n3 4) .ret) (S1 (G1 n3 5) (C1 18 (S1 (G1 n3 6) .ret) (S1 (G1 n3 7) (C1 22 (S1 (G1 n3 8) .ret) (S1 (G1 n3 9) (C1 26 (S1 (G1 n3 10) .ret) K1)))))))))) (S1 (G1 n3 11) .ret)))):=kr
theorem aes:FZ=(S1 (G1 FZ 0) (S1 (G1 FZ 1) .ret)):=kr
theorem agv:F0=(S1 (G1 F0 0) (S1 (G1 F0 1) .ret)):=kr
theorem agh:F1=(S1 (G1 F1 0) (S1 (G1 F1 1) .ret)):=kr
theorem agr:F3=(S1 (G1 F3 0) (S1 (G1 F3 1) .ret)):=kr
theorem ZN:bT (Z jA 6)=some []:=kr
theorem Yj:bT (Z jA 11)=some []:=kr
theorem afG:jA=(S1 (G1 jA 0) (S1 (S1 (G1 jA 1) (C1 8 (S1 (G1 jA 2) .ret) K1)) (S1 (S1 (G1 jA 3) (B1 0 (.loop (S1 (S1 (G1 jA 4) (C1 13 K1 (X1 0))) (S1 (B1 1 (S1 (G2 jA 6) (C1 25 (S1 (G1 jA 7) (S1 (S1 (G1 jA 8) (B1 2 (.loop (S1 (S1 (G1 jA 9) (C1 32 K1 (X1 2))) (S1 (B1 3 (S1 (G2 jA 11) (C1 44 (S1 (G1 jA 12) (G1 jA 13)) K1))) (G1 jA 10)))))) (S1 (G1 jA 14) (S1 (G1 jA 15) .ret)))) K1))) (G1 jA 5)))))) (S1 (G1 jA 16) .ret)))):=kr
theorem afI:Ai=(S1 (G1 Ai 0) (S1 (G1 Ai 1) (S1 (G1 Ai 2) (S1 (G1 Ai 3) .ret)))):=kr
theorem ae3:qP=(S1 (S1 (G1 qP 0) (C1 19 .ret K1)) (S1 (S1 (G1 qP 1) (C1 34 .ret K1)) (S1 (S1 (G1 qP 2) (B1 0 (.loop (S1 (G1 qP 3) (S1 (C1 39 K1 (X1 0)) (S1 (B1 1 (S1 (G1 qP 4) (S1 (G1 qP 5) (C1 46 .ret K1)))) (G1 qP 6))))))) (S1 (G1 qP 7) (C1 65 (G1 qP 8) K1))))):=kr
theorem agM:fP=(S1 (G1 fP 0) (S1 (S1 (G1 fP 1) (B1 0 (S1 (S1 (G1 fP 2) (C1 5 K1 (S1 (G1 fP 3) (C1 5 K1 (S1 (G1 fP 4) (C1 5 K1 (S1 (G1 fP 5) (C1 5 K1 (S1 (G1 fP 6) (C1 5 K1 (S1 (G1 fP 7) (C1 5 K1 (S1 (G1 fP 8) (C1 5 K1 (S1 (G1 fP 9) (C1 5 K1 (S1 (G1 fP 10) (C1 5 K1 (S1 (G1 fP 11) (C1 5 K1 (S1 (G1 fP 12) (C1 5 K1 (S1 (G1 fP 13) (C1 5 K1 (S1 (G1 fP 14) (C1 5 K1 (S1 (G1 fP 15) (C1 5 K1 (G1 fP 16))))))))))))))))))))))))))))) (C1 5 (S1 (G1 fP 17) .ret) (S1 (S1 (G1 fP 18) (C1 23 K1 (S1 (G1 fP 19) (C1 23 K1 (S1 (G1 fP 20) (C1 23 K1 (S1 (G1 fP 21) (C1 23 K1 (S1 (G1 fP 22) (C1 23 K1 (S1 (G1 fP 23) (C1 23 K1 (G1 fP 24))))))))))))) (C1 23 (S1 (G1 fP 25) .ret) K1)))))) (S1 (G1 fP 26) .ret))):=kr
theorem afg:F4=(S1 (G1 F4 0) (S1 (G1 F4 1) .ret)):=kr
theorem afD:F5=(S1 (G1 F5 0) (G1 F5 1)):=kr
theorem afe:xv=(S1 (G1 xv 0) (S1 (S1 (G1 xv 1) (B1 0 (.rangeFunc (.tmp 6) #[7] (G1 xv 2) (B1 1 (G1 xv 3))))) (S1 (G1 xv 4) .ret))):=kr
theorem afB:eW=(S1 (G1 eW 0) (S1 (G1 eW 1) (B1 0 (.loop (B1 1 (S1 (G1 eW 2) (S1 (S1 (G1 eW 3) (C1 23 (S1 (G1 eW 4) .ret) K1)) (S1 (S1 (G1 eW 5) (C1 29 (S1 (G1 eW 6) .ret) K1)) (S1 (S1 (G1 eW 7) (C1 35 (S1 (G1 eW 8) (G1 eW 9)) K1)) (S1 (G1 eW 10) (S1 (S1 (G1 eW 11) (C1 50 (S1 (G1 eW 12) (S1 (G1 eW 13) (G1 eW 14))) K1)) (S1 (S1 (G1 eW 15) (C1 68 (S1 (G1 eW 16) (C1 72 .ret K1)) K1)) (S1 (S1 (G2 eW 17) (C1 87 (S1 (G1 eW 18) (S1 (G1 eW 19) (X1 1))) K1)) (S1 (G1 eW 20) (S1 (G1 eW 21) (S1 (G1 eW 22) (S1 (G1 eW 23) (S1 (G1 eW 24) (C1 113 (S1 (G1 eW 25) (S1 (G1 eW 26) (G1 eW 27))) (S1 (G1 eW 28) (S1 (G1 eW 29) (G1 eW 30)))))))))))))))))))))):=kr
theorem ZE:bT (Z qQ 4)=some []:=kr
theorem ZF:bT (Z qQ 6)=some []:=kr
theorem afz:qQ=(S1 (G1 qQ 0) (B1 0 (.loop (S1 (S1 (G1 qQ 1) (C1 12 K1 (X1 0))) (S1 (B1 1 (S1 (G1 qQ 3) (B1 2 (.loop (S1 (S1 (G2 qQ 4) (C1 30 K1 (X1 2))) (S1 (B1 3 (G2 qQ 6)) (G1 qQ 5))))))) (G1 qQ 2)))))):=kr
theorem afx:F6=(S1 (G1 F6 0) (S1 (G1 F6 1) .ret)):=kr
theorem afv:F7=(S1 (G1 F7 0) (S1 (G1 F7 1) .ret)):=kr
end Go.Proofs.Tryz.K
namespace Go.Abs
open Go.Argus
class V{α:Type}(x:α)(y:outParam α):Prop where h:x=y
section
variable{P:Program}{Y:ea}{ops:Array Oper}{dr:Bool}{cf:List (Nat×Nat)}{Q:Exit->St->Prop}{r:List Oper}{v:Env}{m:Mem}{n:Nat}{q:jL}{x:Oper}{s:St}{e:List Nat×List Nat}
variable{t:Option Nat}{u:Nat}{ty:TypeId}{pos:String}{after:Array Edge}{j:Nat}{b c:Bool}{op:Op}
def SO(P:Program)(Y:ea)(ops:Array Oper)(dr:Bool)(o:Oper)(v:Env)(m:Mem)(n:Nat)(s:St)(e:List Nat×List Nat):Prop:=
 ∀ cf Q r q,aq P Y ops dr cf Q r s (q++[e])->aq P Y ops dr cf Q (o::r) ⟨v,m,n⟩ q
theorem ak{l:List Operand}(h:fK v l:=by repeat' (first|exact trivial|exact hc|exact rfl|refine And.intro ?_ ?_)):fK v l:=h
theorem z(K:∀ (x:D) rd,aq P Y ops dr cf Q r (St.put ⟨v,m,n⟩ t (.cn false x)) (q++[(rd,[])]))(hj:(ops[j]?).bind (·.dst)=some u:=by exact rfl)(hg:jR (v u) b=some false:=by exact rfl):
 aq P Y ops dr cf Q (⟨t,op,ty,pos,after,some (j,b)⟩::r) ⟨v,m,n⟩ q:=Tf hj hg K
theorem cl{f:FuncId}{gs:List D}{d:D}{t:Nat}(h:aA P f gs d)(K:aq P Y ops dr cf Q r ⟨up v t d,m,n⟩ (q++[([],[])]))(hc:dJ (aX v op) op=some (f,gs):=by exact rfl)(ha:fK v op.operands.toList:=by exact ak):
 aq P Y ops dr cf Q (⟨some t,op,ty,pos,after,none⟩::r) ⟨v,m,n⟩ q:=qX h hc ha K
theorem gc{f:FuncId}{gs:List D}{d:D}{t:Nat}(h:aA P f gs d)(K:aq P Y ops dr cf Q r ⟨up v t (.cn c d),m,n⟩ (q++[([],[])]))(hj:(ops[j]?).bind (·.dst)=some u:=by exact rfl)(hg:jR (v u) b=some c:=by exact rfl)(hl:dJ (aX v op) op=some (f,gs):=by exact rfl)(ha:c=true->fK v op.operands.toList:=by exact fun hc=>ak):
 aq P Y ops dr cf Q (⟨some t,op,ty,pos,after,some (j,b)⟩::r) ⟨v,m,n⟩ q:=tS hj hg hl (fun hc=>⟨ha hc,h⟩) K
theorem UP(K:aq P Y ops dr cf Q r s (q++[e]))(h:SO P Y ops dr x v m n s e:=by intro _ _ _ _ k;exact B8 rfl rfl rfl rfl (by first|exact fun _=>trivial|exact fun _=>rfl|exact fun hc=>hc) (by first|exact fun _=>trivial|exact fun _=>rfl|exact fun hc=>hc) k):aq P Y ops dr cf Q (x::r) ⟨v,m,n⟩ q:=h _ _ _ _ K
theorem UO(K:aq P Y ops dr cf Q r s (q++[e]))(h:SO P Y ops dr x v m n s e:=by intro _ _ _ _ k;exact bd rfl rfl (Sv rfl rfl um) (fun hc=>⟨ak,rfl⟩) k):aq P Y ops dr cf Q (x::r) ⟨v,m,n⟩ q:=h _ _ _ _ K
theorem am0(K:aq P Y ops dr cf Q r s (q++[e]))(h:SO P Y ops dr x v m n s e:=by intro _ _ _ _ k;exact bd rfl rfl (cV (v:=.z) rfl) (fun hc=>⟨ak,trivial⟩) k):aq P Y ops dr cf Q (x::r) ⟨v,m,n⟩ q:=h _ _ _ _ K
theorem am1(K:aq P Y ops dr cf Q r s (q++[e]))(h:SO P Y ops dr x v m n s e:=by intro _ _ _ _ k;exact bd rfl rfl (KD rfl) (fun hc=>⟨ak,V.h⟩) k):aq P Y ops dr cf Q (x::r) ⟨v,m,n⟩ q:=h _ _ _ _ K
variable{rf:Bool}{W:Exit->St->Prop}{o:Array Oper}{B:Code}{i:Nat}{k:St}
theorem ws[dD Y](h:aq P Y o false [] (eP fun k=>AW P Y rf B W k) o.toList k []):AW P Y rf (.seq (.region i o false) B) W k:=aj h
theorem er[dD Y](h:aq P Y o false [] (eP fun k=>AW P Y rf B W k) o.toList k []):aq P Y ops dr [] (eP fun k=>AW P Y rf (.seq (.region i o false) B) W k) [] k q:=aa (aj h)
end
end Go.Abs
theorem eH{p:Prop}(h:p:=by repeat' (first|exact trivial|exact rfl|refine And.intro ?_ ?_)):p:=h
