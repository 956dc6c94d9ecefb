/- Part 2. -/
import Derived.Test.YtnagfmlifobdiaaGreatDoorOnce1
import Derived.Ground.NamesProg
import Derived.Ground.SlgnProg
import Derived.IntWalk
import Derived.RangeFuncRecord
import Derived.Scope
import Derived.Shelf.LaysM
import Derived.Shelf.Strconv.Itoa0
import Derived.Shelf.Strconv.Itoa1
import Derived.Shelf.Strconv.Itoa2
import Derived.Shelf.Strconv.Itoa3
import Derived.Shelf.Strings.Builder1
import Derived.Shelf.Strings.Builder2
import Derived.Shelf.Strings.OnBuilder
import Derived.Test.YtnagfmlifobdiaaGreatDoorChecked
set_option linter.all false
set_option maxHeartbeats 1000000
open List(range)
namespace Go.Abs
structure eB(P:Program)(F:Nat->Prop)(st:St)(β:aE)(w:World)(a:Act):Prop where
 e:ia F β w st.env a
 m:aJ P F st.mem β w
 n:∀ i,st.nx<=i->β i=none
structure gk(N:Nat)(β:aE)(w:World)(a:Act)(st':St)(β':aE)(w':World)(a':Act):Prop where
 step:Step β w β' w'
 le:N<=st'.nx
 grow:∀ i,i<N->β i=none->β' i=none
 size:a'.tmps.size=a.tmps.size
 defers:a'.defers=a.defers
theorem gk.trans{N:Nat}{β β₁ β₂:aE}{w M U:World}{a C J:Act}{X xC:St}(h:gk N β w a X β₁ M C)(k:gk X.nx β₁ M C xC β₂ U J):gk N β w a xC β₂ U J:=
 ⟨h.step.trans k.step,Nat.le_trans h.le k.le,fun i hi hn=>k.grow i (Nat.lt_of_lt_of_le hi h.le) (h.grow i hi hn),k.size.trans h.size,k.defers.trans h.defers⟩
theorem gk.refl(st:St)(β:aE)(w:World)(a:Act):gk st.nx β w a st β w a:=⟨Step.refl β w,aZ _,fun _ _ h=>h,rfl,rfl⟩
def eg(P:Program)(F:Nat->Prop)(N:Nat)(β:aE)(w:World)(a:Act)(Q:Exit->St->Prop)(e:Exit)(a':Act)(w':World):Prop:=
 ∃ st' β',Q e st'/\eB P F st' β' w' a'/\gk N β w a st' β' w' a'
section
variable{P:Program}{F:Nat->Prop}{ops:Array Oper}{o:Oper}{st:St}{β:aE}{w:World}{a:Act}
theorem Gh(a:Act)(d:Option Nat)(v:Value):(a.put d v).tmps.size=a.tmps.size:=by
 cases d<;>simp[Act.put]
theorem put_defers(a:Act)(d:Option Nat)(v:Value):(a.put d v).defers=a.defers:=by
 cases d<;>rfl
theorem Zl(st:St)(d:Option Nat)(x:D):(st.put d x).env=(match d with|some t=>up st.env t x|none=>st.env):=by
 cases d<;>rfl
theorem P7(st:St)(d:Option Nat)(x:D):(st.put d x).mem=st.mem:=by cases d<;>rfl
theorem Di(st:St)(d:Option Nat)(x:D):(st.put d x).nx=st.nx:=by cases d<;>rfl
theorem eB.put{st':St}{β':aE}{w':World}{d:Option Nat}{x:D}{v:Value}(he:ia F β' w' st'.env a)(hd:∀ t,d=some t->t<a.tmps.size)(hv:R F β' w' x v)(hm:aJ P F st'.mem β' w')(hn:∀ i,st'.nx<=i->β' i=none):
 eB P F (st'.put d x) β' w' (a.put d v):=by
 refine⟨?_,by rw[P7];exact hm,by rw[Di];exact hn⟩;cases d with
 |none=>exact he
 |some t=>exact he.put (some t) x v hv hd
theorem QR{p:dp}(hp:p.Ok P ops o st)(hs:eB P F st β w a)(hd:∀ t,o.dst=some t->t<a.tmps.size)(r:Option Nat)(n:Nat)(C:Exit->Act->World->Prop){K:Act->World->Prop}
 (U:∀ β' a' w',eB P F (St.put ⟨st.env,cK st.mem p.aU,st.nx+p.new⟩ o.dst p.val) β' w' a'->gk st.nx β w a (St.put ⟨st.env,cK st.mem p.aU,st.nx+p.new⟩ o.dst p.val) β' w' a'->K a' w'):
 qF r n P ops C o K a w:=by
 refine hp F β w a st.mem st.env st.nx (fun _ _=>rfl) hs.e hs.m (fun _ _ _=>rfl) (fun i h _=>hs.n i h) hs.n r n C K fun v w' β' h1 h2 J M=>?_;refine U β' _ w' (eB.put (st':=⟨st.env,cK st.mem p.aU,st.nx+p.new⟩) (hs.e.step J) hd h1 h2 fun i hi=>M i (hs.n i (by simp only at hi;omega)) (.inr hi)) ⟨J,by rw[Di];simp,fun i hi hb=>M i hb (.inl hi),Gh _ _ _,put_defers _ _ _⟩
theorem acw{Y:ej}{dr:Bool}{K:St->List Nat->List Nat->Prop}(h:ju P Y ops dr o st K):
 (∃ p:dp,p.Ok P ops o st/\p.tJ (c7 o.op) st/\K (St.put ⟨st.env,cK st.mem p.aU,st.nx+p.new⟩ o.dst p.val) p.rd p.wr)\/
 (dr=false/\∃ f args,ji ops o st true/\asks st.env o.op/\dJ (a6 st.env o.op) o.op=some (f,args)/\fP P f args st.mem st.nx fun r m nx=>K (St.put ⟨st.env,m,nx⟩ o.dst r) [] [])\/
 (dr=false/\∃ l args,ji ops o st true/\asks st.env o.op/\lM (a6 st.env o.op) o.op=some (l,args)/\Y l args st.mem st.nx fun r m nx=>K (St.put ⟨st.env,m,nx⟩ o.dst r) [] []):=by
 have X:∀ {x},dJ (a6 st.env o.op) o.op=some x->c7 o.op=2:=fun {x} hx=>by
  cases ho:o.op with
  |call c=>
   rw[ho] at hx;simp only[dJ] at hx;split at hx
   .rename_i f hf;unfold c7;split<;>first|rfl|(rename_i h1;cases h1;cases hf)|skip
    all_goals simp_all
   .cases hx
  |_=>rw[ho] at hx;simp[dJ] at hx
 have J:∀ {x} (p:dp),dJ (a6 st.env o.op) o.op=some x->(∀ i∈p.wr,st.mem i≠none\/(st.nx<=i/\i<st.nx+p.new))->p.tJ (c7 o.op) st:=fun {x} p hx C=>by
  have:=X hx;exact⟨C,oG,oG,oG⟩
 have call:∀ {f args},ji ops o st true->asks st.env o.op->dJ (a6 st.env o.op) o.op=some (f,args)->tq P dr st f args (fun r m nx rd wr=>K (St.put ⟨st.env,m,nx⟩ o.dst r) rd wr)->
  (∃ p:dp,p.Ok P ops o st/\p.tJ (c7 o.op) st/\K (St.put ⟨st.env,cK st.mem p.aU,st.nx+p.new⟩ o.dst p.val) p.rd p.wr)\/
  (dr=false/\∃ f args,ji ops o st true/\asks st.env o.op/\dJ (a6 st.env o.op) o.op=some (f,args)/\fP P f args st.mem st.nx fun r m nx=>K (St.put ⟨st.env,m,nx⟩ o.dst r) [] [])\/
  (dr=false/\∃ l args,ji ops o st true/\asks st.env o.op/\lM (a6 st.env o.op) o.op=some (l,args)/\Y l args st.mem st.nx fun r m nx=>K (St.put ⟨st.env,m,nx⟩ o.dst r) [] []):=fun {f args} C ha hc hk=>by
  rcases hk with⟨r,h1,h2⟩|⟨dZ,rds,r,h1,h2,M,h4⟩|⟨es,n,t,h1,h2⟩|⟨h1,h2⟩|⟨r,aU,rds,h1,h2,M⟩|⟨es,n,t,aU,rds,h1,h2,M,h4⟩
  .exact .inl ⟨⟨r,[],[],0⟩,Ta C ha hc h1,J _ hc (by simp[dp.wr]),h2⟩
  .exact .inl ⟨⟨r,[],rds,0⟩,aeb C ha hc h1 h2 M,J _ hc (by simp[dp.wr]),h4⟩
  .exact .inl ⟨⟨.rs st.nx 0 n,[(st.nx,some (.cells es t))],[],1⟩,aff C ha hc h1,J _ hc (by simp[dp.wr]),h2⟩
  .exact .inr (.inl ⟨h1,f,args,C,ha,hc,h2⟩)
  .exact .inl ⟨⟨r,aU,rds,0⟩,afg C ha hc h1,J _ hc fun i hi=>.inl (h2 i hi).2,M⟩
  .refine .inl ⟨⟨.rs st.nx 0 n,aU++[(st.nx,some (.cells es t))],rds,1⟩,acn C ha hc h1 h2 M,J _ hc fun i hi=>?_,?_⟩
   .simp only[dp.wr,List.map_append,List.mem_append,List.map_cons,List.map_nil,List.mem_singleton] at hi;rcases hi with hi|rfl
    .obtain⟨x,hx,rfl⟩:=List.mem_map.1 hi;obtain⟨r,hr,_⟩:=h1.1 _ (h1.2.1 x hx).1;exact .inl (by simp[hr])
    .exact .inr ⟨aZ _,Nat.lt_succ_self _⟩
   .show K _ _ (dp.wr _);rw[KJ,dp.wr,List.map_append];exact h4
 have op:∀ {e:dy},ji ops o st true->asks st.env o.op->bd P o.op (a6 st.env o.op) st.mem st.nx=some e->e.pre->K (St.put ⟨st.env,cK st.mem e.aU,st.nx+e.new⟩ o.dst e.val) e.rd (e.aU.map (·.1))->
  (∃ p:dp,p.Ok P ops o st/\p.tJ (c7 o.op) st/\K (St.put ⟨st.env,cK st.mem p.aU,st.nx+p.new⟩ o.dst p.val) p.rd p.wr):=fun {e} C ha h hp hk=>by
  obtain⟨t1,t2,t3,t4⟩:=RU h;exact⟨⟨e.val,e.aU,e.rd,e.new⟩,TY C ha h hp,⟨t1,t2,t3,t4⟩,hk⟩
 have skip:∀ {d:D},ji ops o st false->(∀ F β w,R F β w d undef)->K (st.put o.dst d) [] []->
  (∃ p:dp,p.Ok P ops o st/\p.tJ (c7 o.op) st/\K (St.put ⟨st.env,cK st.mem p.aU,st.nx+p.new⟩ o.dst p.val) p.rd p.wr):=fun {d} C hd hk=>
  ⟨⟨d,[],[],0⟩,S9 C d hd,⟨by simp[dp.wr],fun _=>⟨rfl,rfl⟩,fun _=>rfl,fun _=>⟨rfl,by simp[dp.wr]⟩⟩,hk⟩
 have U:∀ (F:Nat->Prop) β w,R F β w ve undef:=fun F β w=>.cB false .u undef oS fun _=>rfl;unfold ju at h;split at h
 .rename_i hg;have C:=Qj (ops:=ops) (st:=st) hg;obtain⟨ha,h⟩:=h;split at h
  .rename_i f args hc;exact call C ha hc h
  .split at h
   .rename_i l args hy;exact .inr (.inr ⟨h.1,l,args,C,ha,hy,h.2⟩)
   .split at h
    .rename_i e he;exact .inl (op C ha he h.1 h.2)
    .exact h.elim
 .rename_i j b hg;split at h
  .exact h.elim
  .rename_i c hc;simp only[Option.bind_eq_some_iff] at hc;obtain⟨t,⟨oj,E7,hjt⟩,hc⟩:=hc;have C:ji ops o st c:=ZJ hg (t:=t) (by simp[E7,hjt]) hc;split at h
   .rename_i f args nk;rcases h with⟨r,h1,h2⟩|⟨h1,h2⟩
    .refine .inl ⟨⟨.cB c r,[],[],0⟩,TX C fun gP=>?_,J _ nk (by simp[dp.wr]),h2⟩;subst gP;exact Ta C (h1 rfl).1 nk (h1 rfl).2
    .cases c with
     |true=>exact call C (h1 rfl).1 nk (h1 rfl).2
     |false=>exact .inl (skip C U (h2 rfl))
   .split at h
    .rename_i l args hy;cases c with
     |true=>exact .inr (.inr ⟨(h.1 rfl).2.1,l,args,C,(h.1 rfl).1,hy,(h.1 rfl).2.2⟩)
     |false=>exact .inl (skip C U (h.2 rfl))
    .split at h
     .rename_i e he;split at h
      .rename_i xg;simp only[aW,List.isEmpty_iff,beq_iff_eq] at xg;obtain⟨h1,h2⟩:=h;obtain⟨t1,t2,t3,t4⟩:=RU he;refine .inl ⟨⟨.cB c e.val,[],e.rd,0⟩,TX C fun gP=>?_,⟨by simp[dp.wr],fun hk=>⟨(t2 hk).1,rfl⟩,fun _=>rfl,fun hk=>⟨(t4 hk).1,by simp[dp.wr]⟩⟩,h2⟩;subst gP;have:=TY C (h1 rfl).1 he (h1 rfl).2;rw[xg.1,xg.2] at this;exact this
      .obtain⟨h1,h2⟩:=h;cases c with
       |true=>exact .inl (op C (h1 rfl).1 he (h1 rfl).2.1 (h1 rfl).2.2)
       |false=>exact .inl (skip C U (h2 rfl))
     .obtain⟨rfl,h⟩:=h;exact .inl (skip C U h)
theorem J7{Y:ej}{dr:Bool}{K:St->List Nat->List Nat->Prop}(h:ju P Y ops dr o st K\/Vs P o st K):
 (∃ p:dp,p.Ok P ops o st/\p.tJ (c7 o.op) st/\K (St.put ⟨st.env,cK st.mem p.aU,st.nx+p.new⟩ o.dst p.val) p.rd p.wr)\/
 (dr=false/\∃ f args,ji ops o st true/\asks st.env o.op/\dJ (a6 st.env o.op) o.op=some (f,args)/\fP P f args st.mem st.nx fun r m nx=>K (St.put ⟨st.env,m,nx⟩ o.dst r) [] [])\/
 (dr=false/\∃ l args,ji ops o st true/\asks st.env o.op/\lM (a6 st.env o.op) o.op=some (l,args)/\Y l args st.mem st.nx fun r m nx=>K (St.put ⟨st.env,m,nx⟩ o.dst r) [] []):=by
 rcases h with h|⟨h1,h2,e,C,J⟩
 .exact acw h
 .obtain⟨t1,t2,t3,t4⟩:=C.tidy;exact .inl ⟨⟨e.val,e.aU,e.rd,e.new⟩,ad6 (Qj h1) h2 C,⟨t1,t2,t3,t4⟩,J⟩
theorem P8{f:FuncId}{args:List D}{eg:D->Mem->Nat->Prop}(hw:ji ops o st true)(ha:asks st.env o.op)(hc:dJ (a6 st.env o.op) o.op=some (f,args))(h:fP P f args st.mem st.nx eg)
 (hs:eB P F st β w a) (hd:∀ t,o.dst=some t->t<a.tmps.size) (r:Option Nat) (n:Nat) (M:Exit->Act->World->Prop) {K:Act->World->Prop}
 (hK:∀ d m' C β' a' w',eg d m' C->eB P F (St.put ⟨st.env,m',C⟩ o.dst d) β' w' a'->gk st.nx β w a (St.put ⟨st.env,m',C⟩ o.dst d) β' w' a'->K a' w'):
 qF r n P ops M o K a w:=by
 refine AV (hw F β w a st.env (fun _ _=>rfl) hs.e) hs.e ha hc h.1 fun vs hR=>?_;refine(h.2 F β w vs hs.m hs.n hR).mono fun e w' hp=>?_;obtain⟨v,d,m',C,β',h1,h2,U,X,h5,J,h7,h8⟩:=hp;refine⟨v,h1,hK d m' C β' _ w' h2 (eB.put (st':=⟨st.env,m',C⟩) (hs.e.step J) hd h5 U X) ⟨J,by rw[Di];exact h7,h8,Gh _ _ _,put_defers _ _ _⟩⟩
theorem Y9{env:Env}{l:Nat}{args:List D}(J:ia F β w env a)(ha:asks env o.op)(h:lM (a6 env o.op) o.op=some (l,args)):
 ∃ vs,(execOp a.eval o).run P w=(Instr.yield l vs).run P w/\Rs F β w args vs:=by
 obtain⟨dst,op,type,pos,after,guard⟩:=o;simp only at ha h;cases op with
 |call c=>
  simp only[lM] at h;have C:∀ x∈(Op.call c).operands.toList,R F β w (a6 env (.call c) x) (a.eval x):=fun x hx=>(J.opd x).uF _ (ha x hx);split at h
  .rename_i g hg;split at h
   .rename_i X hk;simp only[aG,bR] at h;obtain⟨rfl,rfl⟩:=h;have h1:=C g (by simp[Op.operands,Call.operands,hg]);rw[hk] at h1;obtain⟨q1,M⟩:=DQ (F:=F) (β:=β) (w:=w) (xs:=c.args) (ρ:=a6 env (.call c)) (a:=a) (fun x hx=>C x (by simp[Op.operands,Call.operands];exact .inr hx));generalize hv:a.eval g=v at h1;cases h1 with
    |fn _ _ _ us vs hl mP hh U=>
    have e1:us=[]:=List.eq_nil_of_length_eq_zero (by simpa using hl);have e2:vs=[]:=List.eq_nil_of_length_eq_zero (by simpa using mP);subst e1 e2;refine⟨c.args.map a.eval,?_,oS,fun j d u hd hu=>M j d u hd (by simpa using hu)⟩;unfold execOp;simp only[resolve,hg,Sem.run_bind,hv,Deferred.ofValue,Sem.run_pure,Result.andThen_ok,invoke];simp
   .cases h
  .cases h
 |_=>simp[lM] at h
theorem YG{op:Op}{ρ:Operand->D}{x:Nat×List D}(h:lM ρ op=some x):∀ c,op≠ .defer c:=fun c hc=>by
 subst hc;simp[lM] at h
theorem ZK{l:Nat}{args:List D}{eg:D->Mem->Nat->Prop}(hw:ji ops o st true)(ha:asks st.env o.op)(hc:lM (a6 st.env o.op) o.op=some (l,args)){U:aE}{M:World}(h:nX P F U M l args st.mem st.nx eg)(hb:Step U M β w)
 (hs:eB P F st β w a) (hd:∀ t,o.dst=some t->t<a.tmps.size) (r:Option Nat) (n:Nat) (X:Exit->Act->World->Prop) {K:Act->World->Prop}
 (hK:∀ d m' C β' a' w',eg d m' C->eB P F (St.put ⟨st.env,m',C⟩ o.dst d) β' w' a'->gk st.nx β w a (St.put ⟨st.env,m',C⟩ o.dst d) β' w' a'->K a' w'):
 qF r n P ops X o K a w:=by
 obtain⟨vs,h1,h2⟩:=Y9 (P:=P) hs.e ha hc;obtain⟨f,tmps,assign,body,h3,h4⟩:=h β w vs hb hs.m hs.n h2;unfold qF;rw[hw F β w a st.env (fun _ _=>rfl) hs.e,if_pos rfl];refine⟨fun _ _=>trivial,?_⟩;rw[LQ (YG hc),h1,h3];refine⟨oS,?_⟩;have h5:=h4 (n - 1);refine RoundIn.mono (F:=Fe r) (show RoundIn (Fe r) (n - 1) P l f tmps assign body w _ from h5) fun e w' hp=>?_;obtain⟨v,d,m',C,β',rfl,g2,g3,g4,g5,J,g7,g8⟩:=hp;exact hK d m' C β' _ w' g2 (eB.put (st':=⟨st.env,m',C⟩) (hs.e.step J) hd g5 g3 g4) ⟨J,by rw[Di];exact g7,g8,Gh _ _ _,put_defers _ _ _⟩
def wQ(N:Nat)(ops:Array Oper):Bool:=ops.toList.all fun o=>match o.dst with
 |some t=>Nat.blt t N
 |none=>true
theorem JU{N:Nat}(h:wQ N ops=true){i:Nat}{o:Oper}(hi:ops[i]? =some o):∀ t,o.dst=some t->t<N:=fun t ht=>by
 have h1:=bS.1 h o (by simpa using Array.mem_of_getElem? hi);rw[ht] at h1;simpa using h1
theorem acx{Y:ej}{r:Option Nat}{n:Nat}{cf:List (Nat×Nat)}{Q:Exit->St->Prop}{N:Nat}{β₀:aE}{w₀:World}{a₀:Act}(hY:∀ l args m nx eg,Y l args m nx eg->nX P F β₀ w₀ l args m nx eg)(af:wQ a₀.tmps.size ops=true):
 ∀ (rest:List Oper) (k:Nat) (st:St) (tr:kf) (β:aE) (w:World) (a:Act),ops.toList.drop k=rest->aq P Y ops false cf Q rest st tr->eB P F st β w a->gk N β₀ w₀ a₀ st β w a->
  wpOpsIn (Fe r) n P ops (eg P F N β₀ w₀ a₀ Q) (List.range' k rest.length) a w:=by
 intro rest
 induction rest with
 |nil=>
  intro k st tr β w a hk h hs C;simp only[List.length_nil,List.range'_zero,wpOpsIn];exact⟨st,β,h.2,hs,C⟩
 |cons o rest ih=>
  intro k st tr β w a hk h hs C
  have ho:ops[k]? =some o:=by
   have:(ops.toList.drop k)[0]? =some o:=by rw[hk];rfl
   simpa using this
  have iO:ops.toList.drop (k+1)=rest:=by
   have:(ops.toList.drop k).drop 1=rest:=by rw[hk];rfl
   simpa[List.drop_drop,Nat.add_comm] using this
  simp only[List.length_cons,List.range'_succ,wpOpsIn_cons];refine JE ho ?_;have hd:∀ t,o.dst=some t->t<a.tmps.size:=fun t ht=>by rw[C.size];exact JU af ho t ht
  simp only[aq] at h;rcases J7 h with⟨p,h1,_,U⟩|⟨_,f,args,h1,h2,U,X⟩|⟨_,l,args,h1,h2,U,X⟩
  .exact QR h1 hs hd r n _ fun β' a' w' J M=>ih (k+1) _ _ β' w' a' iO U J (C.trans M)
  .exact P8 h1 h2 U X hs hd r n _ fun d m' al β' a' w' hp J M=>ih (k+1) _ _ β' w' a' iO hp J (C.trans M)
  .exact ZK h1 h2 U (hY _ _ _ _ _ X) C.step hs hd r n _ fun d m' al β' a' w' hp J M=>ih (k+1) _ _ β' w' a' iO hp J (C.trans M)
theorem YQ{Y:ej}{r:Option Nat}{n id:Nat}{cf:List (Nat×Nat)}{Q:Exit->St->Prop}{N:Nat}{β₀:aE}{w₀:World}{a₀:Act}(J:∀ l args m nx eg,Y l args m nx eg->nX P F β₀ w₀ l args m nx eg)(af:wQ a₀.tmps.size ops=true)
 (h:aq P Y ops false cf Q ops.toList st []) (hs:eB P F st β w a) (C:gk N β₀ w₀ a₀ st β w a):(Code.region id ops false).wpIn (Fe r) n P (eg P F N β₀ w₀ a₀ Q) a w:=by
 refine wpIn_region ?_;have:=acx J (r:=r) (n:=n) af ops.toList 0 st [] β w a oS h hs C;rw[List.range_eq_range'];simpa using this
end
theorem F5(acc:List Nat)(i:Nat):∀ (l:List Edge) (s:Nat),(l.foldl (fun s e=>if Region.binds .any e then s||| 2 ^ e.on||| acc.getD e.on 0 else s) s).testBit i=true->
 s.testBit i=true\/∃ e∈l,Region.binds .any e=true/\(i=e.on\/(acc.getD e.on 0).testBit i=true)
 |[],s,h=>.inl h
 |e::l,s,h=>by
  rw[List.foldl_cons] at h;rcases F5 acc i l _ h with h1|⟨C,J,hb⟩
  .by_cases hb:Region.binds .any e=true
   .rw[if_pos hb] at h1;simp only[Nat.testBit_or,Bool.or_eq_true,Nat.testBit_two_pow,decide_eq_true_eq] at h1;rcases h1 with(h1|h1)|h1
    .exact .inl h1
    .exact .inr ⟨e,oS,hb,.inl h1.symm⟩
    .exact .inr ⟨e,oS,hb,.inr h1⟩
   .rw[if_neg hb] at h1;exact .inl h1
  .exact .inr ⟨C,by simp[J],hb⟩
theorem JK:∀ (os:List Oper) (acc:List Nat),∃ l,ja os acc=acc++l/\l.length=os.length
 |[],acc=>⟨[],by simp[ja],rfl⟩
 |o::os,acc=>by
  obtain⟨l,h1,h2⟩:=JK os (acc++[BA acc o]);exact⟨BA acc o::l,by simp[ja,h1],by simp[h2]⟩
theorem Gg:∀ (os:List Oper) (acc:List Nat) (k:Nat) (o:Oper),os[k]? =some o->(ja os acc).getD (acc.length+k) 0=BA ((ja os acc).take (acc.length+k)) o
 |[],acc,k,o,h=>by simp at h
 |x::os,acc,0,o,h=>by
  simp only[List.getElem?_cons_zero,aG] at h;subst h;obtain⟨l,h1,h2⟩:=JK os (acc++[BA acc x]);simp[ja,h1]
 |x::os,acc,k+1,o,h=>by
  have:=Gg os (acc++[BA acc x]) k o (by simpa using h);simp only[List.length_append,List.length_cons,List.length_nil] at this;have e:acc.length+(k+1)=acc.length+(0+1)+k:=by omega
  rw[e];exact this
theorem JP{ops:Array Oper}{S:Nat->Bool}(U:∀ j,S j=true->∀ o,ops[j]? =some o->∀ e∈o.after,Region.binds .any e=true->S e.on=true)(i:Nat):
 ∀ j,S j=true->((ja ops.toList []).getD j 0).testBit i=true->S i=true:=by
 intro j
 induction j using Nat.strongRecOn with
 |_ j ih=>
  intro hj hb;cases C:ops[j]? with
  |none=>
   obtain⟨l,h1,h2⟩:=JK ops.toList []
   have:(ja ops.toList []).getD j 0=0:=by
    rw[h1];simp only[List.nil_append];have:ops.size<=j:=by simpa using C
    simp[List.getElem?_eq_none (show l.length<=j by simpa[h2] using this)]
   rw[this] at hb;simp at hb
  |some o=>
   have h1:=Gg ops.toList [] j o (by simpa using C);simp only[List.length_nil,Nat.zero_add] at h1;rw[h1] at hb;rcases F5 _ i _ 0 hb with h2|⟨e,he,X,h2⟩
   .simp at h2
   .have J:=U j hj o C e (by simpa using he) X;rcases h2 with rfl|h2
    .exact J
    .rcases Nat.lt_or_ge e.on j with af|M
     .refine ih e.on af J ?_;simpa[List.getElem?_take,af] using h2
     .simp[List.getElem?_take,Nat.not_lt.2 M] at h2
theorem Pv{bs:List Nat}{n i j:Nat}(C:i<j)(hj:j<n)(h:(bs.getD j 0).testBit i=false):(i,j)∈unordered bs n:=by
 unfold unordered;rw[List.mem_flatMap];exact⟨j,by simp[hj],by rw[List.mem_map];exact⟨i,by simp only[List.mem_filter,List.mem_range];exact⟨C,by rw[h];rfl⟩,rfl⟩⟩
theorem AS{us:List (Nat×Option Row)}:∀ {m:Mem} {i:Nat},i∉us.map (·.1)->cK m us i=m i:=by
 induction us with
 |nil=>intro m i _;rfl
 |cons u us ih=>
  intro m i h;obtain⟨j,r⟩:=u;simp only[List.map_cons,List.mem_cons,not_or] at h;simp only[cK];rw[ih h.2,aA _ _ h.1]
theorem JQ{us:List (Nat×Option Row)}:∀ {m m':Mem} {i:Nat},(i∈us.map (·.1)\/m i=m' i)->cK m us i=cK m' us i:=by
 induction us with
 |nil=>intro m m' i h;simpa[cK] using h
 |cons u us ih=>
  intro m m' i h;obtain⟨j,r⟩:=u;simp only[cK];refine ih ?_;by_cases hj:i=j
  .right;subst hj;rw[aj,aj]
  .rcases h with h|h
   .left;simp only[List.map_cons,List.mem_cons] at h;exact h.resolve_left hj
   .right;rw[aA _ _ hj,aA _ _ hj,h]
theorem aap{a b:List (Nat×Option Row)}(m:Mem)(h:∀ i∈a.map (·.1),i∉b.map (·.1)):cK (cK m a) b=cK (cK m b) a:=by
 funext i;by_cases ha:i∈a.map (·.1)
 .rw[AS (h i ha)];exact JQ (.inl ha)
 .rw[AS (m:=cK m b) ha];exact JQ (.inr (AS ha))
def pZ(env:Env)(d:Option Nat)(v:D):Env:=match d with
 |some t=>up env t v
 |none=>env
theorem Du{env:Env}{d:Option Nat}{v:D}{t:Nat}(h:d≠some t):pZ env d v t=env t:=by
 cases d with
 |none=>rfl
 |some u=>exact aA _ _ fun e=>h (by rw[e])
theorem JR{env env':Env}{d:Option Nat}{v:D}{t:Nat}(h:d=some t\/env t=env' t):pZ env d v t=pZ env' d v t:=by
 cases d with
 |none=>simpa[pZ] using h
 |some u=>
  by_cases hu:t=u
  .subst hu;simp[pZ,aj]
  .simp only[pZ,aA _ _ hu];rcases h with h|h
   .simp only[aG] at h;exact absurd h.symm hu
   .exact h
theorem aaq(env:Env){d d':Option Nat}(v C:D)(h:∀ t,d=some t->d'≠some t):pZ (pZ env d v) d' C=pZ (pZ env d' C) d v:=by
 funext t;by_cases hd:d=some t
 .rw[Du (h t hd)];exact JR (.inl hd)
 .rw[Du (env:=pZ env d' C) hd];exact JR (.inr (Du hd))
def xG(st:St)(o:Oper)(p:dp):St:=St.put ⟨st.env,cK st.mem p.aU,st.nx+p.new⟩ o.dst p.val
theorem K3(st:St)(o:Oper)(p:dp):(xG st o p).env=pZ st.env o.dst p.val:=by unfold xG;rw[Zl];rfl
theorem Gz(st:St)(o:Oper)(p:dp):(xG st o p).mem=cK st.mem p.aU:=P7 _ _ _
theorem wI(st:St)(o:Oper)(p:dp):(xG st o p).nx=st.nx+p.new:=Di _ _ _
section
variable(oo:Nat->Oper)(pp:Nat->dp)(st₀:St)
def fv(S:Nat->Bool):Nat->St
 |0=>st₀
 |k+1=>if S k then xG (fv S k) (oo k) (pp k) else fv S k
def fK:Nat->St:=fv oo pp st₀ fun _=>true
theorem rH(k:Nat):fK oo pp st₀ (k+1)=xG (fK oo pp st₀ k) (oo k) (pp k):=rfl
theorem TM(k:Nat):∀ n,k<=n->fv oo pp st₀ (fun j=>decide (j<k)) n=fK oo pp st₀ k:=by
 have below:∀ n,n<=k->fv oo pp st₀ (fun j=>decide (j<k)) n=fK oo pp st₀ n:=by
  intro n
  induction n with
  |zero=>intro _;rfl
  |succ n ih=>
   intro h;have hd:decide (n<k)=true:=by simp;omega
   rw[rH, <- ih oG];simp only[fv,hd,if_true]
 intro n h
 induction n with
 |zero=>
  have:k=0:=by omega
  subst this;rfl
 |succ n ih=>
  rcases Nat.lt_or_ge n k with af|C
  .have:k=n+1:=by omega
   subst this;exact below (n+1) (aZ _)
  .have hd:decide (n<k)=false:=by simpa using C
   simp only[fv,hd,Bool.false_eq_true,if_false];exact ih C
theorem adR{S T:Nat->Bool}{t:Nat}:∀ n,(∀ j,j<n->S j≠T j->(oo j).dst≠some t)->(fv oo pp st₀ S n).env t=(fv oo pp st₀ T n).env t:=by
 intro n
 induction n with
 |zero=>intro _;rfl
 |succ n ih=>
  intro h;have h1:=ih fun j hj=>h j oG;have h2:=h n oG;simp only[fv];cases C:S n<;>cases J:T n<;>simp only[Bool.false_eq_true,if_false,if_true,K3]
  .exact h1
  .rw[Du (h2 (by simp[C,J]))];exact h1
  .rw[Du (h2 (by simp[C,J]))];exact h1
  .exact JR (.inr h1)
theorem adS{S T:Nat->Bool}{i:Nat}:∀ n,(∀ j,j<n->S j≠T j->i∉(pp j).wr)->(fv oo pp st₀ S n).mem i=(fv oo pp st₀ T n).mem i:=by
 intro n
 induction n with
 |zero=>intro _;rfl
 |succ n ih=>
  intro h;have h1:=ih fun j hj=>h j oG;have h2:=h n oG;simp only[fv];cases C:S n<;>cases J:T n<;>simp only[Bool.false_eq_true,if_false,if_true,Gz]
  .exact h1
  .rw[AS (h2 (by simp[C,J]))];exact h1
  .rw[AS (h2 (by simp[C,J]))];exact h1
  .exact JQ (.inr h1)
theorem Ky{S T:Nat->Bool}:∀ n,(∀ j,j<n->S j=T j)->fv oo pp st₀ S n=fv oo pp st₀ T n:=by
 intro n
 induction n with
 |zero=>intro _;rfl
 |succ n ih=>
  intro h;simp only[fv,ih fun j hj=>h j oG,h n oG]
theorem adT{S:Nat->Bool}{k:Nat}(hk:S k=false):∀ n,k<n->(∀ j,k<j->j<n->S j=true->(∀ t,(oo k).dst=some t->(oo j).dst≠some t)/\∀ i∈(pp k).wr,i∉(pp j).wr)->
 (fv oo pp st₀ (fun j=>if j=k then true else S j) n).env=pZ (fv oo pp st₀ S n).env (oo k).dst (pp k).val/\
 (fv oo pp st₀ (fun j=>if j=k then true else S j) n).mem=cK (fv oo pp st₀ S n).mem (pp k).aU:=by
 intro n
 induction n with
 |zero=>intro h;omega
 |succ n ih=>
  intro ki h;rcases Nat.lt_or_ge k n with af|X
  .obtain⟨h1,h2⟩:=ih af fun j hj jt=>h j hj oG;have C:n≠k:=by omega
   simp only[fv,if_neg C];cases U:S n with
   |false=>simp only[Bool.false_eq_true,if_false];exact⟨h1,h2⟩
   |true=>
    obtain⟨J,M⟩:=h n af oG U;simp only[if_true,K3,Gz,h1,h2];exact⟨aaq _ _ _ J,aap _ M⟩
  .have:n=k:=by omega
   subst this;have e:fv oo pp st₀ (fun j=>if j=n then true else S j) n=fv oo pp st₀ S n:=Ky oo pp st₀ n fun j hj=>by simp only[if_neg (show j≠n by omega)]
   simp only[fv,if_true,hk,Bool.false_eq_true,if_false,K3,Gz,e];exact⟨trivial,trivial⟩
theorem pE{j k:Nat}(h:j<=k):(fK oo pp st₀ j).nx<=(fK oo pp st₀ k).nx:=by
 induction k with
 |zero=>have:j=0:=by omega
        subst this;exact aZ _
 |succ k ih=>
  rcases Nat.lt_or_ge j (k+1) with af|C
  .rw[rH,wI];have:=ih oG;omega
  .have:j=k+1:=by omega
   subst this;exact aZ _
end
section
variable{P:Program}{ops:Array Oper}{cf:List (Nat×Nat)}{Q:Exit->St->Prop}
def GA(P:Program)(ops:Array Oper)(cf:List (Nat×Nat))(Q:Exit->St->Prop):List Oper->List dp->St->kf->Prop
 |[],[],st,tr=>(∀ q∈cf,qo tr q.1 q.2)/\Q .normal st
 |o::os,p::ps,st,tr=>p.Ok P ops o st/\p.tJ (c7 o.op) st/\GA P ops cf Q os ps (xG st o p) (tr++[(p.rd,p.wr)])
 |_,_,_,_=>False
theorem JS{Y:ej}:∀ (os:List Oper) (st:St) (tr:kf),aq P Y ops true cf Q os st tr->∃ ps,GA P ops cf Q os ps st tr
 |[],st,tr,h=>⟨[],h⟩
 |o::os,st,tr,h=>by
  simp only[aq] at h;rcases J7 h with⟨p,h1,h2,C⟩|⟨h1,_⟩|⟨h1,_⟩
  .obtain⟨ps,J⟩:=JS os _ _ C;exact⟨p::ps,h1,h2,J⟩
  .cases h1
  .cases h1
instance:Inhabited dp:=⟨⟨.u,[],[],0⟩⟩
theorem JT(oo:Nat->Oper)(pp:Nat->dp)(st₀:St):∀ (os:List Oper) (ps:List dp) (k:Nat) (tr:kf),(∀ j o,os[j]? =some o->oo (k+j)=o)->(∀ j p,ps[j]? =some p->pp (k+j)=p)->tr.length=k->
 (∀ j,j<k->tr.getD j ([],[])=((pp j).rd,(pp j).wr))->GA P ops cf Q os ps (fK oo pp st₀ k) tr->
 (∀ j,k<=j->j<k+os.length->(pp j).Ok P ops (oo j) (fK oo pp st₀ j)/\(pp j).tJ (c7 (oo j).op) (fK oo pp st₀ j))/\Q .normal (fK oo pp st₀ (k+os.length))/\
 ∃ C:kf,(∀ j,j<k+os.length->C.getD j ([],[])=((pp j).rd,(pp j).wr))/\∀ q∈cf,qo C q.1 q.2
 |[],[],k,tr,ho,hp,hl,ht,h=>⟨fun j h1 h2=>absurd h2 oP,h.2,tr,ht,h.1⟩
 |[],_::_,_,_,_,_,_,_,h=>h.elim
 |_::_,[],_,_,_,_,_,_,h=>h.elim
 |o::os,p::ps,k,tr,ho,hp,hl,ht,h=>by
  have e1:oo k=o:=ho 0 o rfl;have e2:pp k=p:=hp 0 p rfl;obtain⟨h1,h2,U⟩:=h;have J:GA P ops cf Q os ps (fK oo pp st₀ (k+1)) (tr++[(p.rd,p.wr)]):=by rw[rH,e1,e2];exact U
  obtain⟨a1,a2,C,a3,a4⟩:=JT oo pp st₀ os ps (k+1) _ (fun j x hj=>by have:=ho (j+1) x (by simpa using hj);rw[<- this];congr 1;omega)
   (fun j x hj=>by have:=hp (j+1) x (by simpa using hj);rw[<- this];congr 1;omega) (by simp[hl])
   (fun j hj=>by
    rcases Nat.lt_or_ge j k with af|M
    .rw[<- ht j af];simp[List.getElem?_append_left (show j<tr.length by omega)]
    .have:j=k:=by omega
     subst this;simp[<- hl,List.getElem?_append_right,e2]
     rw[hl,e2];exact⟨rfl,rfl⟩) J
  have e3:k+(o::os).length=k+1+os.length:=by simp;omega
  rw[e3];refine⟨fun j hj X=>?_,a2,C,a3,a4⟩;rcases Nat.lt_or_ge k j with af|M
  .exact a1 j af X
  .have:j=k:=by omega
   subst this;rw[e1,e2];exact⟨h1,h2⟩
def LH(P:Program)(F:Nat->Prop)(ops:Array Oper)(Q:Exit->St->Prop)(N₀:Nat)(β₀:aE)(w₀:World)(a₀:Act)(r:Option Nat)(n:Nat)(o:Oper)(st:St):Prop:=
 ∀ (β:aE) (w:World) (a:Act),eB P F st β w a->gk N₀ β₀ w₀ a₀ st β w a->∀ K:Act->World->Prop,(∀ a' w',eg P F N₀ β₀ w₀ a₀ Q .normal a' w'->K a' w')->qF r n P ops (eg P F N₀ β₀ w₀ a₀ Q) o K a w
theorem Yr(h:bT ops=some cf):(∀ (i:Nat) (o:Oper),ops[i]? =some o->∀ e∈o.after,Region.binds .any e=true->e.on<i)/\
 (∀ q∈unordered (ja ops.toList []) ops.size,J6 ops q.1 q.2=true)/\(∀ q∈unordered (ja ops.toList []) ops.size,Gy ops q.1 q.2=true->q∈cf):=by
 unfold bT at h;simp only at h;split at h
 .rename_i hc;simp only[aW] at hc;cases h;refine⟨fun i o hi e he hb=>?_,fun q hq=>bS.1 hc.2 q hq,fun q hq hm=>by rw[List.mem_filter];exact⟨hq,hm⟩⟩
  have h1:=bS.1 hc.1 (o,i) (by
   rw[List.mem_zipIdx_iff_getElem?]
   simpa using hi)
  have h2:=bS.1 h1 e (by simpa using he);simpa[hb] using h2
 .cases h
variable{F:Nat->Prop}{N₀:Nat}{β₀:aE}{w₀:World}{a₀:Act}
structure DS(P:Program)(F:Nat->Prop)(oo:Nat->Oper)(pp:Nat->dp)(st₀:St)(n:Nat)(N₀:Nat)(β₀:aE)(w₀:World)(a₀:Act)(S:Nat->Bool)(β:aE)(w:World)(a:Act):Prop where
 e:ia F β w (fv oo pp st₀ S n).env a
 m:aJ P F (fv oo pp st₀ S n).mem β w
 free:∀ i,st₀.nx<=i->(∀ k,k<n->S k=true->¬ ((fK oo pp st₀ k).nx<=i/\i<(fK oo pp st₀ k).nx+(pp k).new))->β i=none
 step:Step β₀ w₀ β w
 grow:∀ i,i<N₀->β₀ i=none->β i=none
 size:a.tmps.size=a₀.tmps.size
 defers:a.defers=a₀.defers
theorem ab2{oo:Nat->Oper}{pp:Nat->dp}{st₀:St}(hi:bT ops=some cf)(E6:∀ j o,ops[j]? =some o->oo j=o)(af:wQ a₀.tmps.size ops=true)
 (J:Nat) (fX:J<=ops.size) (bB:∀ j,j<J->(pp j).Ok P ops (oo j) (fK oo pp st₀ j)/\(pp j).tJ (c7 (oo j).op) (fK oo pp st₀ j)) (hQ:J=ops.size->Q .normal (fK oo pp st₀ ops.size))
 (hL:J<ops.size->J+1=ops.size/\(∀ i,i<J->((ja ops.toList []).getD J 0).testBit i=true)/\∀ r n,LH P F ops Q N₀ β₀ w₀ a₀ r n (oo J) (fK oo pp st₀ J))
 (bg:∃ mR:kf,(∀ j,j<J->mR.getD j ([],[])=((pp j).rd,(pp j).wr))/\∀ q∈cf,qo mR q.1 q.2)
 (js:∀ i,st₀.nx<=i->st₀.mem i=none) (hN:N₀<=st₀.nx) (r:Option Nat) (n:Nat):
 ∀ (ek:Nat) (listed:Array Bool) (β:aE) (w:World) (a:Act),listed.size=ops.size->listed.toList.countP (fun b=> !b)<=ek->(J<ops.size->listed.getD J false=false)->
  (∀ j,listed.getD j false=true->∀ o,ops[j]? =some o->∀ e∈o.after,Region.binds .any e=true->listed.getD e.on false=true)->
  DS P F oo pp st₀ ops.size N₀ β₀ w₀ a₀ (fun j=>listed.getD j false) β w a->
  wpAnyIn (Fe r) n P .any ops (eg P F N₀ β₀ w₀ a₀ Q) ek listed a w:=by
 obtain⟨NV,hta,ke⟩:=Yr hi;obtain⟨mR,Vt,ai0⟩:=bg
 have WE:∀ k,k<=J->∀ i,(fK oo pp st₀ k).nx<=i->(fK oo pp st₀ k).mem i=none:=by
  intro k
  induction k with
  |zero=>intro _ i hi;exact js i hi
  |succ k ih=>
   intro hk i hi;rw[rH,wI] at hi;rw[rH,Gz];have h1:=(bB k oG).2.wr;rw[AS,ih oG i oG];intro jH;rcases h1 i jH with h2|h2
   .exact h2 (ih oG i oG)
   .omega
 have zR:∀ i j,i<j->j<ops.size->((ja ops.toList []).getD j 0).testBit i=false->
  (∀ x∈(pp i).wr,x∉(pp j).wr)/\(∀ x∈(pp i).wr,x∈(pp j).rd->(fK oo pp st₀ j).mem x=none)/\(∀ x∈(pp j).wr,x∈(pp i).rd->(fK oo pp st₀ i).mem x=none):=by
  intro i j ly hj hb;have hu:=Pv ly hj hb
  have jt:j<J:=by
   rcases Nat.lt_or_ge j J with h|h
   .exact h
   .obtain⟨q1,q2,_⟩:=hL oG;have:j=J:=by omega
    subst this;rw[q2 i ly] at hb;cases hb
  have NW:ops[i]? =some (oo i):=by
   have:i<ops.size:=by omega
   rw[E6 i ops[i] (by simp[this])];simp[this]
  have E7:ops[j]? =some (oo j):=by
   rw[E6 j ops[j] (by simp[hj])];simp[hj]
  obtain⟨ti,WG,WH,t3i⟩:=(bB i oG).2;obtain⟨tj,t0j,t1j,t3j⟩:=(bB j jt).2;by_cases fq:Gy ops i j=true
  .have h1:=ai0 _ (ke _ hu fq);unfold qo at h1;simp only[Vt i oG,Vt j jt] at h1;exact⟨fun x hx=>(h1.1 x hx).2,fun x hx hr=>absurd hr (h1.1 x hx).1,fun x hx hr=>absurd hr (h1.2 x hx)⟩
  .simp only[Gy,NW,E7,aW,Bool.or_eq_true,beq_iff_eq,bne_iff_ne,Bool.not_eq_true',ne_eq] at fq
   have hk:∀ o:Oper,c7 o.op=0\/c7 o.op=1\/c7 o.op=2\/c7 o.op=3:=fun o=>by
    unfold c7;split<;>simp
   have nil:∀ p:dp,p.aU=[]->∀ x,x∉p.wr:=fun p hp x hx=>by simp[dp.wr,hp] at hx
   rcases hk (oo j) with kj|kj|kj|kj
   .have:=t0j kj;exact⟨fun x _=>nil _ this.2 x,fun x _ hr=>(by rw[this.1] at hr;cases hr),fun x hx=>absurd hx (nil _ this.2 x)⟩
   .by_cases k0:c7 (oo i).op=0
    .have:=WG k0;exact⟨fun x hx=>absurd hx (nil _ this.2 x),fun x hx=>absurd hx (nil _ this.2 x),fun x _ hr=>by rw[this.1] at hr;cases hr⟩
    .have k1:c7 (oo i).op=1:=by
      rcases hk (oo i) with h|h|h|h
      .exact absurd h k0
      .exact h
      .exact absurd ⟨⟨.inl kj,oG⟩,by simp[h]⟩ fq
      .exact absurd ⟨⟨.inl kj,oG⟩,by simp[h]⟩ fq
     exact⟨fun x hx=>absurd hx (nil _ (WH k1) x),fun x hx=>absurd hx (nil _ (WH k1) x),fun x hx=>absurd hx (nil _ (t1j kj) x)⟩
   .by_cases k0:c7 (oo i).op=0
    .have:=WG k0;exact⟨fun x hx=>absurd hx (nil _ this.2 x),fun x hx=>absurd hx (nil _ this.2 x),fun x _ hr=>by rw[this.1] at hr;cases hr⟩
    .exact absurd ⟨⟨.inr kj,oG⟩,by simp[kj]⟩ fq
   .have cF:=pE oo pp st₀ (show i+1<=j by omega);rw[rH,wI] at cF;obtain⟨h1,h2⟩:=t3j kj
    have NX:∀ x∈(pp i).wr,x<(fK oo pp st₀ j).nx:=fun x hx=>by
     rcases ti x hx with h|h
     .rcases Nat.lt_or_ge x (fK oo pp st₀ i).nx with h'|h'
      .omega
      .exact absurd (WE i oG x h') h
     .omega
    refine⟨fun x hx hxj=>?_,fun x _ hr=>(by rw[h1] at hr;cases hr),fun x hx _=>WE i oG x ?_⟩
    .have:=NX x hx;have:=h2 x hxj;omega
    .have:=h2 x hx;omega
 have MW:∀ i j,i<j->j<ops.size->((ja ops.toList []).getD j 0).testBit i=false->(oo i).apart ops (oo j)=true:=by
  intro i j ly hj hb;have h1:=hta _ (Pv ly hj hb)
  have NW:ops[i]? =some (oo i):=by
   have:i<ops.size:=by omega
   rw[E6 i ops[i] (by simp[this])];simp[this]
  have E7:ops[j]? =some (oo j):=by
   rw[E6 j ops[j] (by simp[hj])];simp[hj]
  simpa[J6,NW,E7] using h1
 have qQ:∀ listed:Array Bool,listed.size=ops.size->Region.ready .any ops listed=[]->∀ k,k<ops.size->listed.getD k false=true:=by
  intro listed bD hr k
  induction k using Nat.strongRecOn with
  |_ k ih=>
   intro hk;cases hl:listed.getD k false with
   |true=>rfl
   |false=>
    exfalso
    have:k∈Region.ready .any ops listed:=by
     rw[mem_ready];refine⟨?_,ops[k],by simp[hk],fun e he hb=>?_⟩
     .have iO:k<listed.size:=by omega
      simpa[iO] using hl
     .have h1:=NV k ops[k] (by simp[hk]) e he hb;exact ih e.on h1 oG
    rw[hr] at this;cases this
 have done:∀ (listed:Array Bool) (β:aE) (w:World) (a:Act),listed.size=ops.size->(J<ops.size->listed.getD J false=false)->DS P F oo pp st₀ ops.size N₀ β₀ w₀ a₀ (fun j=>listed.getD j false) β w a->Region.ready .any ops listed=[]->
  eg P F N₀ β₀ w₀ a₀ Q .normal a w:=by
  intro listed β w a bD l6 C hr
  have Cq:J=ops.size:=by
   rcases Nat.lt_or_ge J ops.size with h|h
   .have h1:=l6 h;rw[qQ listed bD hr J h] at h1;cases h1
   .omega
  have hQ:=hQ Cq;have e:fv oo pp st₀ (fun j=>listed.getD j false) ops.size=fK oo pp st₀ ops.size:=Ky oo pp st₀ _ fun j hj=>qQ listed bD hr j hj;have h1:=C.e;have h2:=C.m;rw[e] at h1 h2;refine⟨fK oo pp st₀ ops.size,β,hQ,⟨h1,h2,fun i hi=>C.free i ?_ fun k hk _ h=>?_⟩,⟨C.step,?_,C.grow,C.size,C.defers⟩⟩
  .exact Nat.le_trans (pE oo pp st₀ (Nat.zero_le _)) hi
  .have:=pE oo pp st₀ (show k+1<=ops.size by omega);rw[rH,wI] at this;omega
  .exact Nat.le_trans hN (pE oo pp st₀ (Nat.zero_le _))
 intro ek
 induction ek with
 |zero=>
  intro listed β w a bD hc l6 cR C
  have hr:Region.ready .any ops listed=[]:=by
   cases px:Region.ready .any ops listed with
   |nil=>rfl
   |cons x xs=>
    exfalso;have hx:x∈Region.ready .any ops listed:=by rw[px];simp
    rw[mem_ready] at hx;obtain⟨h1,o,M,_⟩:=hx;have zS:x<ops.size:=(Array.getElem?_eq_some_iff.1 M).1;have zH:x<listed.size:=by omega
    have:listed[x]=false:=by simpa[zH] using h1
    have h2:0<listed.toList.countP (fun b=> !b):=List.countP_pos_iff.2 ⟨listed[x],oS,by simp[this]⟩;omega
  exact⟨hr,done listed β w a bD l6 C hr⟩
 |succ ek ih=>
  intro listed β w a bD hc l6 cR C;refine⟨done listed β w a bD l6 C,fun k hk=>?_⟩;rw[mem_ready] at hk;obtain⟨zT,o,M,sg⟩:=hk;have ki:k<ops.size:=(Array.getElem?_eq_some_iff.1 M).1;have gC:k<listed.size:=by omega
  have zU:listed[k]=false:=by simpa[gC] using zT
  have vT:listed.getD k false=false:=by simp[gC,zU]
  have eo:oo k=o:=E6 k o M;by_cases Iq:k=J
  ·
    subst Iq;obtain⟨q1,q2,q3⟩:=hL ki
    have bx:∀ j,j<k->listed.getD j false=true:=by
     intro j hj;have hb:=q2 j hj;have h1:=Gg ops.toList [] k o (by simpa using M);simp only[List.length_nil,Nat.zero_add] at h1;rw[h1] at hb;rcases F5 _ j _ 0 hb with h2|⟨e,he,l5,h2⟩
     .simp at h2
     .have vS:=sg e (by simpa using he) l5;rcases h2 with rfl|h2
      .exact vS
      .have af:=NV k o M e (by simpa using he) l5;have U:((ja ops.toList []).getD e.on 0).testBit j=true:=by simpa[List.getElem?_take,af] using h2
       exact JP (S:=fun j=>listed.getD j false) cR j e.on vS U
    have E8:fv oo pp st₀ (fun j=>listed.getD j false) ops.size=fK oo pp st₀ k:=by
     rw[<- TM oo pp st₀ k ops.size oG];refine Ky oo pp st₀ _ fun j hj=>?_;rcases Nat.lt_or_ge j k with h|h
     .simp[bx j h,h]
     .have:j=k:=by omega
      subst this;simp[vT]
    refine JE M ?_;rw[<- eo];have h1:=C.e;have h2:=C.m;rw[E8] at h1 h2;refine q3 r n β w a ⟨h1,h2,fun i hi=>C.free i ?_ fun j hj hS h=>?_⟩ ⟨C.step,?_,C.grow,C.size,C.defers⟩ _ fun a' w' hp=>?_
    .exact Nat.le_trans (pE oo pp st₀ (Nat.zero_le _)) hi
    .rcases Nat.lt_or_ge j k with af|bm
     .have:=pE oo pp st₀ (show j+1<=k by omega);rw[rH,wI] at this;omega
     .have:j=k:=by omega
      subst this;simp only[vT] at hS;cases hS
    .exact Nat.le_trans hN (pE oo pp st₀ (Nat.zero_le _))
    .have hr:Region.ready .any ops (listed.setIfInBounds k true)=[]:=by
      cases px:Region.ready .any ops (listed.setIfInBounds k true) with
      |nil=>rfl
      |cons x xs=>
       exfalso;have hx:x∈Region.ready .any ops (listed.setIfInBounds k true):=by rw[px];simp
       rw[mem_ready] at hx;obtain⟨g1,o',E9,_⟩:=hx;have zS:x<ops.size:=(Array.getElem?_eq_some_iff.1 E9).1;by_cases WJ:x=k
       .subst WJ;simp[gC] at g1
       .have U:=bx x oG;rw[getD_set_ne true (Ne.symm WJ)] at g1;have xH:x<listed.size:=by omega
        simp[xH] at g1 U;rw[g1] at U;cases U
     cases ek with
     |zero=>exact⟨hr,hp⟩
     |succ ek=>exact⟨fun _=>hp,fun i hi=>by rw[hr] at hi;cases hi⟩
  have hkm:k<J:=by
   rcases Nat.lt_or_ge k J with h|h
   .exact h
   .have:=(hL oG).1;omega
  obtain⟨tW,aoI⟩:=bB k hkm
  have Vu:∀ j,j<k->listed.getD j false=false->((ja ops.toList []).getD k 0).testBit j=false:=by
   intro j tX hj;cases hb:((ja ops.toList []).getD k 0).testBit j with
   |false=>rfl
   |true=>
    exfalso;have h1:=Gg ops.toList [] k o (by simpa using M);simp only[List.length_nil,Nat.zero_add] at h1;rw[h1] at hb;rcases F5 _ j _ 0 hb with h2|⟨e,he,l5,h2⟩
    .simp at h2
    .have vS:=sg e (by simpa using he) l5;rcases h2 with rfl|h2
     .rw[hj] at vS;cases vS
     .have af:=NV k o M e (by simpa using he) l5;have U:((ja ops.toList []).getD e.on 0).testBit j=true:=by simpa[List.getElem?_take,af] using h2
      have:=JP (S:=fun j=>listed.getD j false) cR j e.on vS U;rw[hj] at this;cases this
  have Ir:∀ j,k<j->listed.getD j false=true->((ja ops.toList []).getD j 0).testBit k=false:=by
   intro j gz hj;cases hb:((ja ops.toList []).getD j 0).testBit k with
   |false=>rfl
   |true=>
    exfalso;have:=JP (S:=fun j=>listed.getD j false) cR k j hj hb;rw[vT] at this;cases this
  have Uu:∀ j,j<ops.size->listed.getD j false≠decide (j<k)->(j<k/\listed.getD j false=false)\/(k<j/\listed.getD j false=true):=by
   intro j hj X;rcases Nat.lt_trichotomy j k with h|h|h
   .left;refine⟨h,?_⟩;simpa[h] using X
   .subst h;simp[vT] at X
   .right;refine⟨h,?_⟩;have:¬ j<k:=by omega
    simpa[this] using X
  have E8:=TM oo pp st₀ k ops.size oG;refine JE M ?_;rw[<- eo];refine tW F β w a (fv oo pp st₀ (fun j=>listed.getD j false) ops.size).mem (fv oo pp st₀ (fun j=>listed.getD j false) ops.size).env (fK oo pp st₀ ops.size).nx ?_ C.e C.m ?_ ?_ ?_ r n _ _ ?_
  .intro t ht;rw[<- E8];refine adR oo pp st₀ _ fun j hj X=>?_;rcases Uu j hj X with⟨h1,h2⟩|⟨h1,h2⟩
   .have:=(Oper.apart_spec (MW j k h1 ki (Vu j h1 h2))).1;exact fun hd=>this t hd ht
   .have:=(Oper.apart_spec (MW k j h1 hj (Ir j h1 h2))).2.2;exact fun hd=>this t hd ht
  .intro i hi X;rw[<- E8] at X ⊢;refine adS oo pp st₀ _ fun j hj MX hw=>?_;rw[E8] at X;rcases Uu j hj MX with⟨h1,h2⟩|⟨h1,h2⟩
   .exact X ((zR j k h1 ki (Vu j h1 h2)).2.1 i hw hi)
   .exact X ((zR k j h1 hj (Ir j h1 h2)).2.2 i hw hi)
  .intro i h1 h2;refine C.free i (Nat.le_trans (pE oo pp st₀ (Nat.zero_le _)) h1) fun j hj hS U=>?_;rcases Nat.lt_trichotomy j k with h|h|h
   .have:=pE oo pp st₀ (show j+1<=k by omega);rw[rH,wI] at this;omega
   .subst h;simp only[vT] at hS;cases hS
   .have:=pE oo pp st₀ (show k+1<=j by omega);rw[rH,wI] at this;omega
  .intro i hi;refine C.free i (Nat.le_trans (pE oo pp st₀ (Nat.zero_le _)) hi) fun j hj _ U=>?_;have:=pE oo pp st₀ (show j+1<=ops.size by omega);rw[rH,wI] at this;omega
  .intro v w' β' g1 g2 g3 g4
   have hS':(fun j=>(listed.setIfInBounds k true).getD j false)=(fun j=>if j=k then true else listed.getD j false):=by
    funext j;by_cases hj:j=k
    .subst hj;simp[gC]
    .rw[if_neg hj,getD_set_ne false (Ne.symm hj)]
   obtain⟨ae,am⟩:=adT oo pp st₀ (S:=fun j=>listed.getD j false) (k:=k) vT ops.size ki fun j gz hj IV=>
    ⟨(Oper.apart_spec (MW k j gz hj (Ir j gz IV))).2.1,(zR k j gz hj (Ir j gz IV)).1⟩
   refine ih _ β' w' _ (by simpa using bD) ?_ (fun h=>by rw[getD_set_ne false (fun e=>Iq e)];exact l6 h) ?_ ?_
   .have:(listed.setIfInBounds k true).toList=listed.toList.set k true:=by simp
    rw[this,List.countP_set (by simpa using gC)];have h2:0<listed.toList.countP (fun b=> !b):=List.countP_pos_iff.2 ⟨listed[k],oS,by simp[zU]⟩;have U:listed.toList[k]'(by simpa using gC)=false:=by simpa using zU
    rw[U];simp only[Bool.not_false,if_true,Bool.not_true,Bool.false_eq_true,if_false];omega
   .intro j hj o' E9 e he hb;by_cases tX:j=k
    .subst tX;rw[M] at E9;cases E9;exact getD_set_true (sg e he hb)
    .rw[getD_set_ne false (Ne.symm tX)] at hj;exact getD_set_true (cR j hj o' E9 e he hb)
   .rw[hS'];refine⟨?_,by rw[am];exact g2,fun i hi hn=>?_,C.step.trans g3,fun i hi hn=>?_,by rw[Gh];exact C.size,by rw[put_defers];exact C.defers⟩
    .rw[ae];have hd:∀ t,(oo k).dst=some t->t<a.tmps.size:=fun t ht=>by rw[C.size];rw[eo] at ht;exact JU af M t ht
     have he:=C.e.step g3;cases ai1:(oo k).dst with
     |none=>exact he
     |some t=>exact he.put (some t) _ _ g1 (fun u hu=>hd u (by rw[ai1];exact hu))
    .have h1:=hn k ki oS;have h2:=C.free i hi fun j hj IV=>hn j hj (by by_cases tX:j=k<;>simp[tX,IV]);exact g4 i h2 oG
    .exact g4 i (C.grow i hi hn) (.inl (Nat.lt_of_lt_of_le (Nat.lt_of_lt_of_le hi hN) (pE oo pp st₀ (Nat.zero_le _))))
theorem adU{o:Oper}{st:St}{r:Option Nat}{n:Nat}{i:Nat}(ho:ops[i]? =some o)(af:wQ a₀.tmps.size ops=true)(h:aq P c8 ops false [] Q [o] st []):LH P F ops Q N₀ β₀ w₀ a₀ r n o st:=by
 intro β w a hs M K hK;have hd:∀ t,o.dst=some t->t<a.tmps.size:=fun t ht=>by rw[M.size];exact JU af ho t ht
 simp only[aq] at h;rcases J7 h with⟨p,h1,_,C⟩|⟨_,f,args,h1,h2,C,X⟩|⟨_,l,args,h1,h2,C,X⟩
 .exact QR h1 hs hd r n _ fun β' a' w' J U=>hK _ _ ⟨_,β',C.2,J,M.trans U⟩
 .exact P8 h1 h2 C X hs hd r n _ fun d m' al β' a' w' hp J U=>hK _ _ ⟨_,β',hp.2,J,M.trans U⟩
 .exact X.elim
theorem Zm(h:Eh ops=true):0<ops.size/\∀ i,i<ops.size - 1->((ja ops.toList []).getD (ops.size - 1) 0).testBit i=true:=by
 unfold Eh at h;simp only[aW,bS,List.mem_range] at h;exact⟨by simpa using h.1,h.2⟩
theorem YR{Y:ej}{st:St}{β:aE}{w:World}{a:Act}{r:Option Nat}{n id:Nat}(iC:P.follows .mixedOrders=true)(hi:bT ops=some cf)(af:wQ a₀.tmps.size ops=true)
 (h:DW P Y ops cf Q st) (hs:eB P F st β w a) (M:gk N₀ β₀ w₀ a₀ st β w a):(Code.region id ops true).wpIn (Fe r) n P (eg P F N₀ β₀ w₀ a₀ Q) a w:=by
 refine wpIn_region_any iC ?_
 obtain⟨ps,C,fX,bB,hQ,hL,bg⟩:∃ (ps:List dp) (C:Nat),C<=ops.size/\
  (∀ j,j<C->(ps.getD j default).Ok P ops (ops.toList.getD j default) (fK (fun j=>ops.toList.getD j default) (fun j=>ps.getD j default) st j)/\(ps.getD j default).tJ (c7 (ops.toList.getD j default).op) (fK (fun j=>ops.toList.getD j default) (fun j=>ps.getD j default) st j))/\
  (C=ops.size->Q .normal (fK (fun j=>ops.toList.getD j default) (fun j=>ps.getD j default) st ops.size))/\
  (C<ops.size->C+1=ops.size/\(∀ i,i<C->((ja ops.toList []).getD C 0).testBit i=true)/\∀ r n,LH P F ops Q N₀ β₀ w₀ a₀ r n (ops.toList.getD C default) (fK (fun j=>ops.toList.getD j default) (fun j=>ps.getD j default) st C))/\
  ∃ mR:kf,(∀ j,j<C->mR.getD j ([],[])=((ps.getD j default).rd,(ps.getD j default).wr))/\∀ q∈cf,qo mR q.1 q.2:=by
  rcases h with h|⟨hl,h⟩
  .obtain⟨ps,X⟩:=JS _ _ _ h;have J:=JT (fun j=>ops.toList.getD j default) (fun j=>ps.getD j default) st ops.toList ps 0 [] (fun j o hj=>by simp at hj;simp[hj]) (fun j p hj=>by simp[hj]) rfl oS X;simp only[Nat.zero_add,Array.length_toList] at J;obtain⟨h1,h2,U⟩:=J;exact⟨ps,ops.size,aZ _,fun j hj=>h1 j (Nat.zero_le _) hj,fun _=>h2,fun h=>absurd h (Nat.lt_irrefl _),U⟩
  .obtain⟨hp,hb⟩:=Zm hl;obtain⟨ps,X⟩:=JS _ _ _ h;have hlen:(ops.toList.take (ops.size - 1)).length=ops.size - 1:=by simp
   have J:=JT (fun j=>ops.toList.getD j default) (fun j=>ps.getD j default) st (ops.toList.take (ops.size - 1)) ps 0 [] (fun j o hj=>by
    have lz:j<ops.size - 1:=by rw[<- hlen];exact(bI.1 hj).1
    rw[List.getElem?_take,if_pos lz] at hj
    simp at hj;simp[hj]) (fun j p hj=>by simp[hj]) rfl oS X
   rw[hlen] at J;simp only[Nat.zero_add] at J;obtain⟨h1,h2,U⟩:=J;refine⟨ps,ops.size - 1,oG,fun j hj=>h1 j (Nat.zero_le _) hj,fun h=>by omega,fun _=>⟨oG,hb,fun r n=>?_⟩,U⟩
   have hx:ops[ops.size - 1]? =some (ops.toList.getD (ops.size - 1) default):=by
    have af:ops.size - 1<ops.size:=by omega
    simp[af]
   refine adU hx af ?_;have h4:=h2.2
   have hd:ops.toList.drop (ops.size - 1)=[ops.toList.getD (ops.size - 1) default]:=by
    have af:ops.size - 1<ops.toList.length:=by simp;omega
    rw[List.drop_eq_getElem_cons af,List.drop_eq_nil_of_le oP];have pf:ops.size - 1<ops.size:=by omega
    simp[List.getD,pf]
   rw[hd] at h4;exact h4
 have H0:fv (fun j=>ops.toList.getD j default) (fun j=>ps.getD j default) st (fun j=>(Array.replicate ops.size false).getD j false) ops.size=st:=by
  have:∀ n,fv (fun j=>ops.toList.getD j default) (fun j=>ps.getD j default) st (fun j=>(Array.replicate ops.size false).getD j false) n=st:=by
   intro n
   induction n with
   |zero=>rfl
   |succ n ih=>
    have:(Array.replicate ops.size false).getD n false=false:=by simp[Array.getD_eq_getD_getElem?,Array.getElem?_replicate];split<;>rfl
    simp only[fv,this,Bool.false_eq_true,if_false];exact ih
  exact this _
 have WK:Step β w β { w with drawn:=w.drawn+1 }:=⟨aZ _,fun _ _ h=>⟨rfl,h⟩,fun _ _ h=>.inl h,rfl,rfl⟩
 refine ab2 (st₀:=st) (oo:=fun j=>ops.toList.getD j default) (pp:=fun j=>ps.getD j default) hi (fun j o hj=>by simp[hj]) af C fX bB hQ hL bg (fun i hi=>?_) M.le r n ops.size _ β _ a oS ?_ (fun h=>?_) ?_ ?_
 .cases hm:st.mem i with
  |none=>rfl
  |some row=>
   obtain⟨p,hp,_⟩:=hs.m.row i row hm;rw[hs.n i hi] at hp;cases hp
 .simpa using List.countP_le_length (p:=fun b=> !b) (l:=(Array.replicate ops.size false).toList)
 .simp[Array.getD_eq_getD_getElem?,Array.getElem?_replicate];split<;>rfl
 .intro j hj;exfalso;have:(Array.replicate ops.size false).getD j false=false:=by simp[Array.getD_eq_getD_getElem?,Array.getElem?_replicate];split<;>rfl
  rw[this] at hj;cases hj
 .refine⟨?_,?_,fun i hi _=>hs.n i hi,M.step.trans WK,M.grow,M.size,M.defers⟩
  .rw[H0];exact hs.e.step WK
  .rw[H0];exact hs.m.ext (aZ _) fun _ _=>rfl
end
section
variable{P:Program}{F:Nat->Prop}
theorem RD{β β':aE}{w:World}{m:Mem}(hm:aJ P F m β w){i:Nat}{cs:List D}{e:TypeId}(ap:m i=some (.cells cs e))(hβ:β'=up β i (some .dead)){d:D}{v:Value}(h:R F β w d v):
 R F β' w (cM i cs (P.cellsOf e) d) v:=by
 have hs:Step β w β' w:=by rw[hβ];exact AL β w i
 have fG:=h.step hs;obtain⟨p,hp,hr⟩:=hm.row i _ ap;unfold cM;split
 .rename_i j off n;split
  .rename_i U;subst U;cases h with
   |lp _ _ _ _ h1 _=>
    rw[h1] at hp;cases hp;cases hr
   |jr _ a h1=>
    rw[h1] at hp;cases hp;cases hr;simp only[List.drop_nil,List.take_nil];exact .gy a 0
   |j9 _ _ a b o len room sz h1=>
    simp only[Nat.zero_mul,List.take_zero];exact .gy a 0
   |rs _ _ _ cap b o len room sz h1 hn dk h2 h3=>
    rw[h1] at hp;cases hp;have J:β j=some (.cells b o len room sz):=h1;obtain⟨X,hl,bD,_⟩:=hr.rd;have M:=(X.drop off).take (n*P.cellsOf e);obtain⟨us,u1,u2⟩:=M;refine .sl _ n b (o+off) cap us (hm.nf j _ b J rfl) ?_ (hm.lt j _ b J rfl) hn dk u1 fun k d hk=>(u2 k d hk).step hs;rw[hβ];intro k q hq;by_cases C:k=j
    .subst C;rw[aj] at hq;cases hq;simp[Pl.bF]
    .rw[aA _ _ C] at hq;exact hm.rD J rfl hq C
  .exact fG
 .rename_i j off;split
  .rename_i U;subst U;cases h with
   |qY _ _ _ h1 _=>
    rw[h1] at hp;cases hp;cases hr
   |rp _ _ b o len room sz h1=>
    rw[h1] at hp;cases hp;obtain⟨X,hl,bD,_⟩:=hr.rd;obtain⟨us,u1,u2⟩:=X.drop off;refine .pt _ b (o+off) us (hm.nf j _ b h1 rfl) ?_ (hm.lt j _ b h1 rfl) u1 fun k d hk=>(u2 k d hk).step hs;rw[hβ];intro k q hq;by_cases C:k=j
    .subst C;rw[aj] at hq;cases hq;simp[Pl.bF]
    .rw[aA _ _ C] at hq;exact hm.rD h1 rfl hq C
  .exact fG
 .exact fG
theorem ab0{β β':aE}{w:World}{m:Mem}(hm:aJ P F m β w){i:Nat}{es:List (Value×D)}(ap:m i=some (.map es))(M:β'=up β i (some .dead)){d:D}{v:Value}(h:R F β w d v):R F β' w (zG i es d) v:=by
 have hs:Step β w β' w:=by rw[M];exact AL β w i
 unfold zG;split
 .rename_i j;split
  .rename_i U;subst U;obtain⟨r,ms,clock,h1,rfl,X,h4,h5,J⟩:=h.DR hm ap;refine .im es r ms clock (hm.nf j _ r h1 rfl) ?_ X h4 h5 (fun k x m hx hm=>(J k x m hx hm).1) fun k x m hx hm=>(J k x m hx hm).2.step hs;rw[M];intro k q hq;by_cases C:k=j
   .subst C;rw[aj] at hq;cases hq;simp[Pl.bF]
   .rw[aA _ _ C] at hq;exact hm.rD h1 rfl hq C
  .exact h.step hs
 .exact h.step hs
section subst
variable{σ:D->D}{β β':aE}{w:World}
theorem QP(C:∀ {d v},R F β w d v->R F β' w (σ d) v){d:D}{v:Value}(h:R F β w d v):R F β' w (pW σ d) v:=by
 unfold pW;split
 .rename_i ds;obtain⟨vs,rfl,hl,hh⟩:=h.s3;refine .agg _ vs (by simpa using hl) fun k d v hd hv=>?_;simp only[List.getElem?_map,cU] at hd;obtain⟨d',J,rfl⟩:=hd;exact C (hh k d' v J hv)
 .cases h with
  |cB c d _ h1 h2=>exact .cB _ _ v (fun hc=>C (h1 hc)) h2
 .exact C h
theorem Ge(C:∀ {d v},R F β w d v->R F β' w (σ d) v){d:D}{v:Value}(h:R F β w d v):R F β' w (sub σ d) v:=by
 have map:∀ (ds:List D) (vs:List Value),(∀ (k:Nat) (d:D) (v:Value),ds[k]? =some d->vs[k]? =some v->R F β w d v)->
  ∀ (k:Nat) (d:D) (v:Value),(ds.map (pW σ))[k]? =some d->vs[k]? =some v->R F β' w d v:=fun ds vs hh k d v hd hv=>by
  simp only[List.getElem?_map,cU] at hd;obtain⟨d',J,rfl⟩:=hd;exact QP C (hh k d' v J hv)
 unfold sub;split
 .rename_i ds;obtain⟨vs,rfl,hl,hh⟩:=h.DB;exact .aM _ vs (by simpa using hl) (map ds vs hh)
 .rename_i f fs ds;cases h with
  |fn _ _ _ us vs hl mP h1 h2=>exact .fn f _ _ us vs (by simpa using hl) (by simpa using mP) (map fs us h1) (map ds vs h2)
 .exact QP C h
theorem adP(J:∀ {d v},R F β w d v->R F β' w (σ d) v)(hs:Step β w β' w){r:Row}{p:Pl}(h:cC P F β w r p):cC P F β' w (r.sub σ) p:=by
 cases h with
 |nil C=>exact .nil C
 |cells ds C b o room sz c hc hr hlen bD hh=>
  have:=cC.cells (P:=P) (F:=F) (β:=β') (w:=w) (ds.map (Abs.sub σ)) C b o room sz c hc hr (by simpa using hlen) bD fun k d hk=>by
   simp only[List.getElem?_map,cU] at hk;obtain⟨d',U,rfl⟩:=hk;obtain⟨v,h1,h2,X⟩:=hh k d' U;exact⟨v,h1,Ge J h2,X⟩
  simpa[Row.sub] using this
 |map es r ms clock hc hl eh hh=>
  refine .map _ r ms clock hc (by simpa using hl) (by simpa[List.map_map,Function.comp_def] using eh) fun k x mm hk M=>?_;simp only[List.getElem?_map,cU] at hk;obtain⟨x',zH,rfl⟩:=hk;obtain⟨h1,h2⟩:=hh k x' mm zH M;exact⟨h1,Ge J h2⟩
 |raw r o hc=>exact .raw r o hc
 |bs u x T b v hc bD hx h1=>exact .bs u _ T b v hc bD (Ge J hx) h1
 |iK f r _ F₂ h1 h2 h=>exact(cC.iK f r p F₂ h1 h2 h).step hs fun _ _=>rfl
end subst
theorem PF{σ:D->D}{env:Env}{m:Mem}{nx i:Nat}{row:Row}(h:m i=some row){w:World}{a:Act}{β:aE}(hs:eB P F ⟨env,m,nx⟩ β w a)(U:∀ {d v},R F β w d v->R F (up β i (some .dead)) w (σ d) v):
 ∃ β',eB P F ⟨fun t=>sub σ (env t),fun j=>if j=i then none else(m j).map (Row.sub σ),nx⟩ β' w a/\gk nx β w a ⟨fun t=>sub σ (env t),fun j=>if j=i then none else(m j).map (Row.sub σ),nx⟩ β' w a:=by
 have M:=AL β w i;have hm:=hs.m;simp only at hm
 have J:∀ j q b,up β i (some .dead) j=some q->q.bF=some b->j≠i/\β j=some q:=fun j q b hq e=>by
  by_cases hj:j=i
  .subst hj;rw[aj] at hq;cases hq;simp[Pl.bF] at e
  .rw[aA _ _ hj] at hq;exact⟨hj,hq⟩
 have hi:∃ p,β i=some p:=by
  obtain⟨p,hp,_⟩:=hm.row i _ h;exact⟨p,hp⟩
 refine⟨up β i (some .dead),⟨fun t=>Ge U (hs.e t),⟨fun j r hj=>?_,fun j k q X b hq ie e1 e2=>hm.inj j k q X b (J j q b hq e1).2 (J k X b ie e2).2 e1 e2,
  fun j q b hq e1=>hm.lt j q b (J j q b hq e1).2 e1,fun j q b hq e1=>hm.nf j q b (J j q b hq e1).2 e1,hm.fb⟩,fun j hj=>?_⟩,⟨M,aZ _,fun j hj hn=>?_,rfl,rfl⟩⟩
 .simp only at hj;by_cases C:j=i
  .rw[if_pos C] at hj;cases hj
  .rw[if_neg C] at hj;simp only[cU] at hj;obtain⟨r',jL,rfl⟩:=hj;obtain⟨q,hq,ap⟩:=hm.row j r' jL;exact⟨q,by rw[aA _ _ C];exact hq,adP U M ap⟩
 .have C:j≠i:=fun e1=>by
   subst e1;obtain⟨p,hp⟩:=hi;rw[hs.n j hj] at hp;cases hp
  rw[aA _ _ C];exact hs.n j hj
 .have C:j≠i:=fun e1=>by
   subst e1;obtain⟨p,hp⟩:=hi;rw[hn] at hp;cases hp
  rw[aA _ _ C];exact hn
theorem ab1{β:aE}{w:World}{cs cs':List D}{e:TypeId}{p:Pl}(hl:cs'.length=cs.length)(M:∀ (k:Nat) (d d':D),cs[k]? =some d->cs'[k]? =some d'->Wk d d')(h:cC P F β w (.cells cs e) p):cC P F β w (.cells cs' e) p:=by
 cases h with
 |nil _=>
  have:cs'=[]:=List.length_eq_zero_iff.1 (by simpa using hl);subst this;exact .nil e
 |cells _ _ b o room sz c hc hr hlen bD hh=>
  rw[<- hl];refine .cells cs' e b o room sz c hc hr oG bD fun k d' C=>?_;have hk:k<cs.length:=by rw[<- hl];exact(bI.1 C).1
  obtain⟨v,h1,h2,J⟩:=hh k cs[k] (by simp[hk]);exact⟨v,h1,M k cs[k] d' (by simp[hk]) C _ _ _ _ h2,J⟩
theorem JJ{st st':St}(h:aH P st st'){w:World}{a:Act}:∀ {β:aE},eB P F st β w a->∃ β',eB P F st' β' w a/\gk st.nx β w a st' β' w a:=by
 induction h with
 |refl st=>exact fun {β} hs=>⟨β,hs,gk.refl st β w a⟩
 |trans _ _ ih₁ ih₂=>
  intro β hs;obtain⟨β₁,h1,h2⟩:=ih₁ hs;obtain⟨β₂,U,X⟩:=ih₂ h1;exact⟨β₂,U,h2.trans X⟩
 |forget env env' m nx h=>
  intro β hs;refine⟨β,⟨fun t=>?_,hs.m,hs.n⟩,⟨Step.refl β w,aZ _,fun _ _ h=>h,rfl,rfl⟩⟩;rcases h t with h1|h1
  .simp only[h1];exact hs.e t
  .simp only[h1];exact .u _
 |drop env m m' nx h=>
  intro β hs;refine⟨β,⟨hs.e,⟨fun i r hi=>?_,hs.m.inj,hs.m.lt,hs.m.nf,hs.m.fb⟩,hs.n⟩,⟨Step.refl β w,aZ _,fun _ _ h=>h,rfl,rfl⟩⟩;rcases h i with h1|h1
  .exact hs.m.row i r (h1.symm.trans hi)
  .simp only at hi;rw[h1] at hi;cases hi
 |og env env' m m' nx h fq=>
  intro β hs;refine⟨β,⟨fun t=>h t _ _ _ _ (hs.e t),⟨fun i r hi=>?_,hs.m.inj,hs.m.lt,hs.m.nf,hs.m.fb⟩,hs.n⟩,⟨Step.refl β w,aZ _,fun _ _ h=>h,rfl,rfl⟩⟩;rcases fq i with h1|⟨cs,cs',e,h1,h2,U,X⟩
  .exact hs.m.row i r (h1.symm.trans hi)
  .simp only at hi;rw[h2] at hi;cases hi;obtain⟨p,hp,hr⟩:=hs.m.row i _ h1;exact⟨p,hp,ab1 U X hr⟩
 |freeze env m nx i cs e h=>
  intro β hs;exact PF h hs fun hr=>RD hs.m h rfl hr
 |DC env m nx i es h=>
  intro β hs;exact PF h hs fun hr=>ab0 hs.m h rfl hr
 |rW env m nx t e h=>
  intro β hs;have hm:=hs.m;have hn:β nx=none:=hs.n nx (aZ _);simp only at hm
  have C:∀ j q b,up β nx (some .nil) j=some q->q.bF=some b->j≠nx/\β j=some q:=fun j q b hq e=>by
   by_cases hj:j=nx
   .subst hj;rw[aj] at hq;cases hq;simp[Pl.bF] at e
   .rw[aA _ _ hj] at hq;exact⟨hj,hq⟩
  have M:Step β w (up β nx (some .nil)) w:=by
   refine⟨aZ _,fun b _ hf=>⟨rfl,fun j q hq e1=>?_⟩,fun j q hq=>.inl ?_,rfl,rfl⟩
   .exact hf j q (C j q b hq e1).2 e1
   .rw[aA _ _ (fun e1=>by rw[e1,hn] at hq;cases hq)];exact hq
  refine⟨up β nx (some .nil),⟨fun u=>?_,⟨fun j r hj=>?_,fun j k q q' b hq ie e1 e2=>hm.inj j k q q' b (C j q b hq e1).2 (C k q' b ie e2).2 e1 e2,
   fun j q b hq e1=>hm.lt j q b (C j q b hq e1).2 e1,fun j q b hq e1=>hm.nf j q b (C j q b hq e1).2 e1,hm.fb⟩,fun j hj=>?_⟩,⟨M,Nat.le_succ _,fun j hj hb=>?_,rfl,rfl⟩⟩
  .by_cases hu:u=t
   .subst hu;have h1:=hs.e u;simp only at h1;rw[h] at h1;obtain⟨x,hx⟩:=h1.u6;simp only[aj,hx];exact .jr nx x (aj _ _ _)
   .simp only[aA _ _ hu];exact(hs.e u).step M
  .simp only at hj;by_cases J:j=nx
   .subst J;rw[aj] at hj;cases hj;exact⟨.nil,aj _ _ _,.nil e⟩
   .rw[aA _ _ J] at hj;obtain⟨q,hq,ap⟩:=hm.row j r hj;exact⟨q,by rw[aA _ _ J];exact hq,ap.step M fun _ _=>rfl⟩
  .simp only at hj;rw[aA _ _ (show j≠nx by omega)];exact hs.n j (by simp only;omega)
  .simp only at hj;rw[aA _ _ (show j≠nx by omega)];exact hb
def gV(N:Nat):Code->Bool
 | .region _ ops _=>wQ N ops
 | .seq a b=>gV N a&&gV N b
 | .cond _ a b=>gV N a&&gV N b
 | .block _ b=>gV N b
 | .loop b=>gV N b
 | .scope b=>gV N b
 | .rangeFunc _ ps a b=>(ps.toList.all fun t=>Nat.blt t N)&&(gV N a&&gV N b)
 |_=>true
theorem Yp{Fc:Fence}{n:Nat}{Q:Exit->Act->World->Prop}{c:Code}(J:Nat->Act->World->Prop){j₀:Nat}{a:Act}{w:World}(h₀:J j₀ a w)
 (round:∀ j a w,J j a w->c.wpIn Fc n P (Exit.then (fun a' w'=>∃ X,X<j/\J X a' w') Q) a w):(Code.loop c).wpIn Fc n P Q a w:=by
 intro b k cs tT hb hr
 have key:∀ j a w,J j a w->
  ∃ e a' w',Q e a' w'/\ArrivesIn (Machine.fenced P Fc) P (lone (b.atR a (.code c::.inLoop c::k)) cs w) b k cs e a' w':=by
  intro j
  induction j using Nat.strongRecOn with
  |_ j ih=>
   intro a w hI;obtain⟨e,M,U,hq,C⟩:=round j a w hI b (.inLoop c::k) cs tT hb hr;cases e with
   |normal=>
    obtain⟨X,af,hI₁⟩:=hq;obtain⟨e₂,a₂,w₂,hq₂,afM⟩:=ih X af M U hI₁;exact⟨e₂,a₂,w₂,hq₂,.of_steps (StepsIn.trans C (.one (fenced_calm hb hr rfl) stepR_inLoop)) afM⟩
   |exit id=>exact⟨_,M,U,hq,.pass (x:=.inLoop c) rfl (fun _ _=>.inl oS) C⟩
   |goto l=>exact⟨_,M,U,hq,.pass (x:=.inLoop c) rfl (fun _ _=>.inl oS) C⟩
   |ret=>exact⟨_,M,U,hq,.pass (x:=.inLoop c) rfl (fun _ _=>.inl oS) C⟩
   |panic ch=>exact⟨_,M,U,hq,.pass (x:=.inLoop c) rfl (fun _ _=>.inl oS) C⟩
   |outgrown=>exact⟨_,M,U,hq,.pass (x:=.inLoop c) rfl (fun _ _=>.inl oS) C⟩
 obtain⟨e,a',w',hq,C⟩:=key _ a w h₀;exact⟨e,a',w',hq,.of_steps (.one (fenced_calm hb hr rfl) stepR_loop) C⟩
def mark(b:Nat):Deferred:={ target:=.collected b,args:= #[] }
def Marks(β:aE)(w:World)(lo:Nat):List Deferred->Nat->Prop
 |[],_=>True
 |d::ds,hi=>∃ b,d=mark b/\lo<=b/\b<hi/\w.heap[b]? =some (.deferred (some []))/\β.free b/\Marks β w lo ds b
theorem Marks.step{β β':aE}{w w':World}(hs:Step β w β' w'){lo:Nat}:∀ {ds:List Deferred} {hi:Nat},hi<=w.heap.size->Marks β w lo ds hi->Marks β' w' lo ds hi
 |[],_,_,_=>trivial
 |d::ds,hi,hle,⟨b,h1,h2,h3,h4,h5,h6⟩=>by
  obtain⟨C,J⟩:=hs.de b oG h5;exact⟨b,h1,h2,h3,C.trans h4,J,Marks.step hs oG h6⟩
theorem Marks.mono{β:aE}{w:World}{lo hi C:Nat}(h:hi<=C):∀ {ds:List Deferred},Marks β w lo ds hi->Marks β w lo ds C
 |[],_=>trivial
 |_::_,⟨b,h1,h2,h3,h4⟩=>⟨b,h1,h2,oG,h4⟩
theorem Marks.append{β:aE}{w:World}{lo mid:Nat}(J:lo<=mid){C:List Deferred}:∀ {ds:List Deferred} {hi:Nat},mid<=hi->Marks β w mid ds hi->Marks β w lo C mid->Marks β w lo (ds++C) hi
 |[],_,hle,_,h'=>Marks.mono hle h'
 |_::_,_,_,⟨b,h1,h2,h3,h4,h5,h6⟩,h'=>⟨b,h1,oG,h3,h4,h5,Marks.append J h2 h6 h'⟩
structure pv(N:Nat)(β:aE)(w:World)(a:Act)(st':St)(β':aE)(w':World)(a':Act):Prop where
 step:Step β w β' w'
 le:N<=st'.nx
 grow:∀ i,i<N->β i=none->β' i=none
 size:a'.tmps.size=a.tmps.size
 defers:∃ ds,a'.defers=ds++a.defers/\Marks β' w' w.heap.size ds w'.heap.size
theorem gk.zI{N:Nat}{β β':aE}{w w':World}{a a':Act}{st':St}(h:gk N β w a st' β' w' a'):pv N β w a st' β' w' a':=
 ⟨h.step,h.le,h.grow,h.size,[],h.defers,trivial⟩
theorem pv.trans{N:Nat}{β β₁ β₂:aE}{w M U:World}{a C J:Act}{X xC:St}(h:pv N β w a X β₁ M C)(k:pv X.nx β₁ M C xC β₂ U J):pv N β w a xC β₂ U J:=by
 obtain⟨ds,e1,h1⟩:=h.defers;obtain⟨xA,e2,h2⟩:=k.defers
 exact⟨h.step.trans k.step,Nat.le_trans h.le k.le,fun i hi hn=>k.grow i (Nat.lt_of_lt_of_le hi h.le) (h.grow i hi hn),k.size.trans h.size,xA++ds,by rw[e2,e1,List.append_assoc],
  Marks.append h.step.size k.step.size h2 (h1.step k.step (aZ _))⟩
theorem pv.since{N:Nat}{β β₁ β₂:aE}{w M U:World}{a C J:Act}{X xC:St}(h:pv N β w a X β₁ M C)(k:gk X.nx β₁ M C xC β₂ U J):pv N β w a xC β₂ U J:=h.trans k.zI
def Ut(P:Program)(F:Nat->Prop)(N:Nat)(β:aE)(w:World)(a:Act)(Q:Exit->St->Prop)(e:Exit)(a':Act)(w':World):Prop:=
 ∃ st' β',Q e st'/\eB P F st' β' w' a'/\pv N β w a st' β' w' a'
theorem nX.base{J:aE}{C:World}{β:aE}{w:World}(hs:Step J C β w){l:Nat}{args:List D}{m:Mem}{nx:Nat}{K:D->Mem->Nat->Prop}(h:nX P F J C l args m nx K):nX P F β w l args m nx K:=
 fun β' w' us M=>h β' w' us (hs.trans M)
theorem rD{β:aE}{i:Nat}{p:Option Pl}{b:Nat}(h:β.free b)(hp:∀ q,p=some q->q.bF≠some b):aE.free (up β i p) b:=fun j q hq=>by
 by_cases hj:j=i
 .subst hj;rw[aj] at hq;exact hp q hq
 .rw[aA _ _ hj] at hq;exact h j q hq
theorem R.pd{β:aE}{w:World}{l:Nat}(C:F l)(o:Obj){d:D}{v:Value}(h:R F β w d v):R F β (w.putObj l o) d v:=
 h.gen oS (fun b _ hb hf=>⟨uG (World.putObj_heap_other fun e=>hb (e▸C)),hf,hb⟩) fun _ _ _ h=>.inl h
theorem cC.pd{β:aE}{w:World}{l:Nat}(C:F l)(o:Obj){r:Row}{p:Pl}(hp:∀ b,p.bF=some b->b≠l)(h:cC P F β w r p):cC P F β (w.putObj l o) r p:=
 h.gen oS (fun b _ hb hf=>⟨uG (World.putObj_heap_other fun e=>hb (e▸C)),hf,hb⟩) (fun _ _ _ h=>.inl h) fun b hb=>World.putObj_heap_other (hp b hb)
theorem aJ.pd{m:Mem}{β:aE}{w:World}{l:Nat}(C:F l)(J:∀ t∈vu,t.1≠l)(o:Obj)(h:aJ P F m β w):aJ P F m β (w.putObj l o):=
 ⟨fun i r hi=>by
  obtain⟨p,hp,hr⟩:=h.row i r hi
  exact⟨p,hp,hr.pd C o fun b hb e=>h.nf i p b hp hb (e▸C)⟩,h.inj,fun i p b hp hb=>by simpa using h.lt i p b hp hb,h.nf,h.fb.next (fun b hb=>by simpa using h.fb.lt b hb) (fun _ h=>h) fun t ht _=>World.putObj_heap_other fun e=>J t ht e⟩
theorem eB.pd{st:St}{β:aE}{w:World}{a:Act}{l:Nat}(C:F l)(J:∀ t∈vu,t.1≠l)(o:Obj)(h:eB P F st β w a):eB P F st β (w.putObj l o) a:=
 ⟨fun t=>(h.e t).pd C o,h.m.pd C J o,h.n⟩
theorem R.og{F':Nat->Prop}(C:∀ b,F' b->F b){β:aE}{w:World}{d:D}{v:Value}(h:R F β w d v):R F' β w d v:=
 h.gen (aZ _) (fun b _ hb hf=>⟨kV.refl w b,hf,fun e=>hb (C b e)⟩) fun _ _ _ h=>.inl h
theorem aJ.og{F':Nat->Prop}(C:∀ b,F' b->F b)(J:∀ t∈vu,F' t.1){m:Mem}{β:aE}{w:World}(h:aJ P F m β w):aJ P F' m β w:=
 ⟨fun i r hi=>by
  obtain⟨p,hp,hr⟩:=h.row i r hi
  exact⟨p,hp,hr.gen (aZ _) (fun b _ hb hf=>⟨kV.refl w b,hf,fun e=>hb (C b e)⟩) (fun _ _ _ h=>.inl h) fun _ _=>rfl⟩,h.inj,h.lt,fun i p b hp hb e=>h.nf i p b hp hb (C b e),⟨fun b hb=>h.fb.lt b (C b hb),fun t ht=>⟨J t ht,(h.fb.mQ t ht).2⟩⟩⟩
theorem Kw{β:aE}{b:Nat}(h:¬ β.free b):∃ i p,β i=some p/\p.bF=some b:=by
 unfold aE.free at h;simp only[Classical.not_forall] at h;obtain⟨i,p,hp,hb⟩:=h;exact⟨i,p,hp,Decidable.not_not.1 hb⟩
structure View(il n₀:Nat)(f:Nat->Option Nat)(mc:Mem)(nc:Nat)(m:Mem)(nx:Nat):Prop where
 low:n₀<=nc
 lt:il<nx
 id:∀ i,i<n₀->f i=some i
 xD:∀ i,i<nc->∃ j,f i=some j/\j<nx/\j≠il
 out:∀ i,nc<=i->f i=none
 inj:∀ i i' j,f i=some j->f i'=some j->i=i'
 rows:∀ i r,mc i=some r->∃ j,f i=some j/\m j=some (r.mI f)
theorem View.mJ{il n₀:Nat}{f:Nat->Option Nat}{mc:Mem}{nc:Nat}{m:Mem}{nx:Nat}(h:View il n₀ f mc nc m nx){i j:Nat}(hf:f i=some j):i<nc/\j<nx/\j≠il:=by
 rcases Nat.lt_or_ge i nc with af|C
 .obtain⟨M,h1,h2,J⟩:=h.xD i af;rw[hf] at h1;cases h1;exact⟨af,h2,J⟩
 .rw[h.out i C] at hf;cases hf
theorem View.ext{il n₀:Nat}{f:Nat->Option Nat}{mc:Mem}{nc:Nat}{m m':Mem}{nx J:Nat}(h:View il n₀ f mc nc m nx)(C:nx<=J)(he:∀ i,i<nx->m' i=m i):View il n₀ f mc nc m' J:=
 ⟨h.low,Nat.lt_of_lt_of_le h.lt C,h.id,fun i hi=>by
  obtain⟨j,h1,h2,M⟩:=h.xD i hi;exact⟨j,h1,oG,M⟩,h.out,h.inj,fun i r hi=>by
  obtain⟨j,h1,h2⟩:=h.rows i r hi
  exact⟨j,h1,(he j (h.mJ h1).2.1).trans h2⟩⟩
theorem aao{f:Nat->Option Nat}{m:Mem}{β:aE}{w:World}(hm:aJ P F m β w){b:Nat}(h:hidden F β f b):b<w.heap.size:=by
 rcases h with h|⟨h,_⟩
 .exact hm.fb.lt b h
 .obtain⟨i,p,hp,hb⟩:=Kw h;exact hm.lt i p b hp hb
theorem View.enter{il n₀:Nat}{f:Nat->Option Nat}{mc:Mem}{nc:Nat}{m:Mem}{nx:Nat}(h:View il n₀ f mc nc m nx){β:aE}{w:World}(hm:aJ P F m β w):
 aJ P (hidden F β f) mc (β.via f) w/\∀ i,nc<=i->(β.via f) i=none:=by
 have look:∀ i p,(β.via f) i=some p->∃ j,f i=some j/\β j=some p:=fun i p hp=>Option.bind_eq_some_iff.1 hp;refine⟨⟨fun i r hi=>?_,fun i i' p q b hp hq e J=>?_,fun i p b hp e=>?_,fun i p b hp e C=>?_,hm.fb.next (fun b hb=>aao hm hb) (fun _ h=>.inl h) fun _ _ _=>rfl⟩,fun i hi=>?_⟩
 .obtain⟨j,h1,h2⟩:=h.rows i r hi;obtain⟨p,hp,hr⟩:=hm.row j _ h2;exact⟨p,by simp[aE.via,h1,hp],hr.seen⟩
 .obtain⟨j,h1,h2⟩:=look i p hp;obtain⟨X,M,U⟩:=look i' q hq;have:=hm.inj j X p q b h2 U e J;subst this;exact h.inj i i' j h1 M
 .obtain⟨j,h1,h2⟩:=look i p hp;exact hm.lt j p b h2 e
 .obtain⟨j,h1,h2⟩:=look i p hp;rcases C with C|⟨_,C⟩
  .exact hm.nf j p b h2 e C
  .exact C i p hp e
 .simp[aE.via,h.out i hi]
theorem aJ.qE{m:Mem}{β:aE}{w:World}{i l:Nat}{o:Obj}(h:aJ P F m β w)(hm:m i=some (.raw l o)):β i=some (.raw l)/\w.heap[l]? =some o/\¬ F l/\l<w.heap.size:=by
 obtain⟨p,hp,hr⟩:=h.row i _ hm;cases hr with
 |raw _ _ hc=>exact⟨hp,hc,h.nf i _ l hp rfl,h.lt i _ l hp rfl⟩
theorem View.wC{il n₀:Nat}{f:Nat->Option Nat}{mc:Mem}{nc:Nat}{m:Mem}{nx:Nat}(h:View il n₀ f mc nc m nx){β:aE}{w:World}(hm:aJ P F m β w){j:Nat}{p:Pl}{b:Nat}(hj:∀ i,f i≠some j)(hp:β j=some p)(hb:p.bF=some b):
 (β.via f).free b/\hidden F β f b:=by
 have C:(β.via f).free b:=fun i q hq e=>by
  obtain⟨J,h1,h2⟩:=Option.bind_eq_some_iff.1 hq;exact hj i (hm.inj J j q p b h2 hp e hb▸h1)
 exact⟨C,.inr ⟨fun e=>e j p hp hb,C⟩⟩
structure pS(l:Nat)(β:aE)(w:World)(β':aE)(w':World):Prop where
 size:w.heap.size<=w'.heap.size
 de:∀ b,b<w.heap.size->b≠l->β.free b->w'.heap[b]? =w.heap[b]? /\β'.free b
 keep:∀ i p,β i=some p->β' i=some p\/β' i=some .dead
 out:Out w w'
theorem Step.x{β β':aE}{w w':World}(h:Step β w β' w')(l:Nat):pS l β w β' w':=⟨h.size,fun b hb _=>h.de b hb,h.keep,h.out⟩
theorem pS.trans{l:Nat}{X β₂ β₃:aE}{J M U:World}(h:pS l X J β₂ M)(k:pS l β₂ M β₃ U):pS l X J β₃ U:=by
 refine⟨Nat.le_trans h.size k.size,fun b hb C hf=>?_,fun i p hp=>?_,h.out.trans k.out⟩
 .obtain⟨h1,h2⟩:=h.de b hb C hf;obtain⟨k1,k2⟩:=k.de b (Nat.lt_of_lt_of_le hb h.size) C h2;exact⟨k1.trans h1,k2⟩
 .rcases h.keep i p hp with h1|h1
  .exact k.keep i p h1
  .right;rcases k.keep i _ h1 with h2|h2<;>exact h2
theorem pS.put(l:Nat)(β:aE)(w:World)(o:Obj):pS l β w β (w.putObj l o):=⟨oS,fun b _ C hf=>⟨World.putObj_heap_other C,hf⟩,fun _ _ h=>.inl h,rfl,rfl⟩
theorem F4{n j:Nat}{f:Nat->Option Nat}(C:∀ i i' j,f i=some j->f i'=some j->i=i'):
 (∀ i,(range n).find? (fun i=>f i==some j)=some i->f i=some j/\i<n)/\(∀ i,i<n->f i=some j->(range n).find? (fun i=>f i==some j)=some i):=by
 refine⟨fun i hi=>⟨by simpa using List.find?_some hi,by simpa using List.mem_of_find?_eq_some hi⟩,fun i hi hf=>?_⟩;cases h:(range n).find? (fun i=>f i==some j) with
 |none=>
  have:=List.find?_eq_none.1 h i (by simpa using hi);simp[hf] at this
 |some k=>rw[C i k j hf (by simpa using List.find?_some h)]
theorem View.afN{il n₀:Nat}{f:Nat->Option Nat}{mc:Mem}{nc:Nat}{m:Mem}{nx:Nat}(h:View il n₀ f mc nc m nx){β:aE}{w:World}(hm:aJ P F m β w)(hn:∀ i,nx<=i->β i=none){l:Nat}{o o':Obj}(hl:m il=some (.raw l o))
 {m':Mem} {J:Nat} {β':aE} {w':World} (fJ:aJ P (hidden F β f) m' β' w') (hs:pS l (β.via f) w β' w') (iL:∀ i,J<=i->β' i=none) (hle:nc<=J) (hg:∀ i,i<nc->(β.via f) i=none->β' i=none) (ho:w'.heap[l]? =some o'):
 ∃ f' M ic C,View il n₀ f' m' J M ic/\M il=some (.raw l o')/\aJ P F M C w'/\(∀ i,ic<=i->C i=none)/\Step β w C w'/\nx<=ic/\∀ i,i<nx->β i=none->C i=none:=by
 obtain⟨zJ,sx,E0,af⟩:=hm.qE hl
 let f':Nat->Option Nat:=fun i=>if i<nc then f i else if i<J then some (nx+(i - nc)) else none
 have r4:∀ i,i<nc->f' i=f i:=fun i hi=>by simp[f',hi]
 have yX:∀ i,nc<=i->i<J->f' i=some (nx+(i - nc)):=fun i h1 h2=>by simp[f',h2,Nat.not_lt.2 h1]
 have Ec:∀ i,J<=i->f' i=none:=fun i h1=>by simp[f',Nat.not_lt.2 h1,Nat.not_lt.2 (Nat.le_trans hle h1)]
 have mo:∀ i j,f' i=some j->(f i=some j/\i<nc/\j<nx)\/(nc<=i/\i<J/\j=nx+(i - nc)):=fun i j hf=>by
  rcases Nat.lt_or_ge i nc with h1|h1
  .rw[r4 i h1] at hf;exact .inl ⟨hf,h.mJ hf |>.1,(h.mJ hf).2.1⟩
  .rcases Nat.lt_or_ge i J with h2|h2
   .rw[yX i h1 h2] at hf;cases hf;exact .inr ⟨h1,h2,rfl⟩
   .rw[Ec i h2] at hf;cases hf
 have yY:∀ i i' j,f' i=some j->f' i'=some j->i=i':=fun i i' j h1 h2=>by
  rcases mo i j h1 with⟨a1,a2,a3⟩|⟨a1,a2,a3⟩<;>rcases mo i' j h2 with⟨b1,b2,b3⟩|⟨b1,b2,b3⟩
  .exact h.inj i i' j a1 b1
  .omega
  .omega
  .omega
 let inv:Nat->Option Nat:=fun j=>(range J).find? fun i=>f' i==some j
 have nr:∀ i j,inv j=some i->f' i=some j:=fun i j hi=>((F4 yY).1 i hi).1;have zm:∀ i j,f' i=some j->inv j=some i:=fun i j hf=>(F4 yY).2 i (by rcases mo i j hf with h1|h1<;>omega) hf
 have MM:∀ j,inv j=none->∀ i,f i≠some j:=fun j hj i hf=>by
  have:=zm i j (by rw[r4 i (h.mJ hf).1];exact hf);rw[hj] at this;cases this
 let C:aE:=fun j=>match inv j with|some i=>β' i|none=>β j
 let M:Mem:=fun j=>match inv j with|some i=>(m' i).map (Row.mI f')|none=>if j=il then some (.raw l o') else m j
 have βs:∀ i j,f' i=some j->C j=β' i:=fun i j hf=>by simp[C,zm i j hf]
 have βn:∀ j,inv j=none->C j=β j:=fun j hj=>by simp[C,hj]
 have LG:inv il=none:=by
  cases hi:inv il with
  |none=>rfl
  |some i=>
   rcases mo i il (nr i il hi) with⟨a1,a2,a3⟩|⟨a1,a2,a3⟩
   .exact absurd rfl (h.mJ a1).2.2
   .have:=h.lt;omega
 have via:C.via f'=β':=by
  funext i;simp only[aE.via];cases hf:f' i with
  |some j=>exact βs i j hf
  |none=>
   rcases Nat.lt_or_ge i J with h1|h1
   .rcases Nat.lt_or_ge i nc with h2|h2
    .obtain⟨j,h3,_⟩:=h.xD i h2;rw[r4 i h2,h3] at hf;cases hf
    .rw[yX i h2 h1] at hf;cases hf
   .exact(iL i h1).symm
 have look:∀ j p,C j=some p->(∃ i,inv j=some i/\f' i=some j/\β' i=some p)\/(inv j=none/\β j=some p):=fun j p hp=>by
  cases hi:inv j with
  |some i=>exact .inl ⟨i,rfl,nr i j hi,by rw[<- βs i j (nr i j hi)];exact hp⟩
  |none=>exact .inr ⟨rfl,by rw[<- βn j hi];exact hp⟩
 have MN:∀ b,β.free b->b≠l:=fun b hb e=>hb il _ zJ (e▸rfl)
 have de:∀ b,b<w.heap.size->β.free b->w'.heap[b]? =w.heap[b]? /\C.free b:=fun b hb hf=>by
  obtain⟨h1,h2⟩:=hs.de b hb (MN b hf) (aE.pH hf f);refine⟨h1,fun j p hp=>?_⟩;rcases look j p hp with⟨i,_,_,U⟩|⟨_,U⟩
  .exact h2 i p U
  .exact hf j p U
 have keep:∀ j p,β j=some p->C j=some p\/C j=some .dead:=fun j p hp=>by
  cases hi:inv j with
  |none=>exact .inl ((βn j hi).trans hp)
  |some i=>
   have hf:=nr i j hi;rw[βs i j hf];rcases mo i j hf with⟨a1,a2,a3⟩|⟨a1,a2,a3⟩
   .exact hs.keep i p (by simp[aE.via,a1,hp])
   .rw[hn j oG] at hp;cases hp
 have X:∀ j p b,inv j=none->β j=some p->p.bF=some b->hidden F β f b/\(b≠l->b<w.heap.size/\w'.heap[b]? =w.heap[b]?):=fun j p b hj hp hb=>by
  obtain⟨h1,h2⟩:=h.wC hm (MM j hj) hp hb;exact⟨h2,fun aC=>⟨hm.lt j p b hp hb,(hs.de b (hm.lt j p b hp hb) aC h1).1⟩⟩
 refine⟨f',M,nx+(J - nc),C,⟨Nat.le_trans h.low hle,by have:=h.lt;omega,fun i hi=>?_,fun i hi=>?_,Ec,yY,fun i r hi=>?_⟩,?_,⟨fun j r hj=>?_,fun i j p q b hp hq e e'=>?_,fun j p b hp e=>?_,fun j p b hp e hF=>?_,?_⟩,fun i hi=>?_,⟨hs.size,de,keep,hs.out⟩,oG,fun i hi hb=>?_⟩
 .rw[r4 i (Nat.lt_of_lt_of_le hi h.low)];exact h.id i hi
 .rcases Nat.lt_or_ge i nc with h1|h1
  .obtain⟨j,h2,h3,U⟩:=h.xD i h1;exact⟨j,by rw[r4 i h1];exact h2,oG,U⟩
  .exact⟨_,yX i h1 hi,oG,by have:=h.lt;omega⟩
 .obtain⟨p,hp,_⟩:=fJ.row i r hi
  have:∃ j,f' i=some j:=by
   rw[<- via] at hp;obtain⟨j,h1,_⟩:=Option.bind_eq_some_iff.1 hp;exact⟨j,h1⟩
  obtain⟨j,hj⟩:=this;exact⟨j,hj,by simp[M,zm i j hj,hi]⟩
 .simp[M,LG]
 .cases hi:inv j with
  |some i=>
   simp only[M,hi,cU] at hj;obtain⟨r0,xE,rfl⟩:=hj;obtain⟨p,hp,hr⟩:=fJ.row i r0 xE;refine⟨p,(βs i j (nr i j hi)).trans hp,cC.Im (F':=hidden F β f) (by rw[via];exact hr) (fun b hb=>.inl hb) fun b g1 g2=>?_⟩;obtain⟨k,q,hq,zK⟩:=Kw g1;rcases look k q hq with⟨i',_,_,U⟩|⟨h3,U⟩
   .exact absurd zK (g2 i' q (by rw[via];exact U))
   .exact(X k q b h3 U zK).1
  |none=>
   simp only[M,hi] at hj;split at hj
   .rename_i e;subst e;cases hj;exact⟨.raw l,(βn j hi).trans zJ,.raw l o' ho⟩
   .rename_i aC;obtain⟨p,hp,hr⟩:=hm.row j r hj;refine⟨p,(βn j hi).trans hp,hr.gen hs.size (fun b hb g1 g2=>⟨uG (de b hb g2).1,(de b hb g2).2,g1⟩) (fun i p _=>keep i p) fun b hb=>?_⟩;exact((X j p b hi hp hb).2 fun e=>aC (hm.inj j il p _ b hp zJ hb (e▸rfl))).2
 .rcases look i p hp with⟨i',a1,a2,a3⟩|⟨a1,a2⟩<;>rcases look j q hq with⟨j',b1,b2,b3⟩|⟨b1,b2⟩
  .have:=fJ.inj i' j' p q b a3 b3 e e';subst this;rw[a2] at b2;cases b2;rfl
  .exact absurd (X j q b b1 b2 e').1 (fJ.nf i' p b a3 e)
  .exact absurd (X i p b a1 a2 e).1 (fJ.nf j' q b b3 e')
  .exact hm.inj i j p q b a2 b2 e e'
 .rcases look j p hp with⟨i',a1,a2,a3⟩|⟨a1,a2⟩
  .exact fJ.lt i' p b a3 e
  .exact Nat.lt_of_lt_of_le (hm.lt j p b a2 e) hs.size
 .rcases look j p hp with⟨i',a1,a2,a3⟩|⟨a1,a2⟩
  .exact fJ.nf i' p b a3 e (.inl hF)
  .exact hm.nf j p b a2 e hF
 .exact hm.fb.next (fun b hb=>Nat.lt_of_lt_of_le (hm.fb.lt b hb) hs.size) (fun _ h=>h) fun t _ hF=>(de _ (hm.fb.lt _ hF) fun i p hp e=>hm.nf i p _ hp e hF).1
 .cases ct:inv i with
  |none=>exact(βn i ct).trans (hn i oG)
  |some i0=>
   rcases mo i0 i (nr i0 i ct) with⟨a1,a2,a3⟩|⟨a1,a2,a3⟩<;>omega
 .cases ct:inv i with
  |none=>exact(βn i ct).trans hb
  |some i0=>
   have hf:=nr i0 i ct;rw[βs i0 i hf];rcases mo i0 i hf with⟨a1,a2,a3⟩|⟨a1,a2,a3⟩
   .exact hg i0 a2 (by simp[aE.via,a1,hb])
   .omega
theorem JO{β:aE}{w:World}:∀ (ts:List Tmp) (ds:List D) (vs:List Value) (env:Env) (tmps:Array Value),vs.length=ds.length->(∀ (k:Nat) (d:D) (v:Value),ds[k]? =some d->vs[k]? =some v->R F β w d v)->
 (∀ t,t∈ts->t<tmps.size)->ia F β w env { tmps:=tmps,defers:=[] }->
 ia F β w (nT env ts ds) { tmps:=(ts.zip vs).foldl (fun tmps (t,a)=>tmps.setIfInBounds t a) tmps,defers:=[] }/\((ts.zip vs).foldl (fun tmps (t,a)=>tmps.setIfInBounds t a) tmps).size=tmps.size
 |[],_,_,env,tmps,_,_,_,h=>by simpa[nT] using h
 |_::_,[],[],env,tmps,_,_,_,h=>by simpa[nT] using h
 |_::_,[],_::_,_,_,hl,_,_,_=>by simp at hl
 |_::_,_::_,[],_,_,hl,_,_,_=>by simp at hl
 |t::ts,d::ds,v::vs,env,tmps,hl,hR,af,h=>by
  have h1:ia F β w (up env t d) { tmps:=tmps.setIfInBounds t v,defers:=[] }:=by
   have:=h.put (some t) d v (hR 0 d v rfl rfl) (fun u hu=>by cases hu;exact af t oS);simpa[Act.put,up] using this
  have:=JO ts ds vs (up env t d) (tmps.setIfInBounds t v) (by simpa using hl) (fun k d v hd hv=>hR (k+1) d v (by simpa using hd) (by simpa using hv)) (fun u hu=>by simpa using af u (by simp[hu])) h1;simp only[nT,List.zip_cons_cons,List.foldl_cons];exact⟨this.1,by rw[this.2];simp⟩
theorem CW{c:Code}{b:Frame}{a:Act}{k:List Item}{cs:List Frame}{w:World}:step P (lone (b.atR a (.code (.scope c)::k)) cs w)=.next (lone (b.atR a (.code c::.inScope c::k)) cs w):=
 step_lone_go (by simp[stepG,stepG.exec,Frame.atR])
theorem Yq{c:Code}{b:Frame}{a:Act}{k:List Item}{cs:List Frame}{w:World}:step P (lone (b.atR a (.inScope c::k)) cs w)=.next (lone (b.atR a k) cs w):=
 step_lone_go (by simp[stepG,stepG.exec,Frame.atR])
theorem FM{I:Machine->Prop}{m:Machine}{b:Frame}{c:Code}{k:List Item}{cs:List Frame}{e:Exit}{a:Act}{w:World}
 (hn:e≠ .normal) (hg:∀ l,e≠ .goto l) (h:ArrivesIn I P m b (.inScope c::k) cs e a w):ArrivesIn I P m b k cs e a w:=by
 cases e with
 |normal=>exact absurd rfl hn
 |exit id=>exact⟨fun k' hk=>h.1 k' (by simp[exitTo,hk]),fun hr hk=>h.2 hr (by simp[exitTo,hk])⟩
 |goto l=>exact absurd rfl (hg l)
 |ret=>exact h
 |panic chain=>exact h
 |outgrown=>exact h
theorem Zk{U:Fence}{n:Nat}{Q:Exit->Act->World->Prop}{a:Act}{w:World}{c:Code}(h:c.wpIn U n P (Exit.noGoto Q) a w):(Code.scope c).wpIn U n P Q a w:=by
 intro b k cs X hb hr;have h0:(lone (b.atR a (.code (.scope c)::k)) cs w).fenced P U:=fenced_calm hb hr rfl;obtain⟨e,C,M,hq,J⟩:=h b (.inScope c::k) cs X hb hr;cases e with
 |normal=>exact⟨.normal,C,M,hq,.head h0 CW (StepsIn.trans J (.one (fenced_calm hb hr rfl) Yq))⟩
 |goto l=>exact hq.elim
 |exit id=>exact⟨.exit id,C,M,hq,.of_steps (.one h0 CW) (FM (c:=c) oS oS J)⟩
 |ret=>exact⟨.ret,C,M,hq,.of_steps (.one h0 CW) (FM (c:=c) oS oS J)⟩
 |panic ch=>exact⟨.panic ch,C,M,hq,.of_steps (.one h0 CW) (FM (c:=c) oS oS J)⟩
 |outgrown=>exact⟨.outgrown,C,M,hq,.of_steps (.one h0 CW) (FM (c:=c) oS oS J)⟩
def Jump(env:Env)(Q:Exit->St->Prop):Code->Mem->Nat->Prop
 | .ret,m,nx=>Q .ret ⟨env,m,nx⟩
 | .exit id,m,nx=>Q (.exit id) ⟨env,m,nx⟩
 |_,_,_=>False
def wH(il l:Nat)(n₀:Nat)(o:Obj)(I:Mem->Nat->Prop)(m:Mem)(nx:Nat):Prop:=∃ f mc nc,View il n₀ f mc nc m nx/\m il=some (.raw l o)/\I mc nc
theorem wH.closed{il l n₀:Nat}{o:Obj}{I:Mem->Nat->Prop}:tm (wH il l n₀ o I):=by
 rintro m nx m' M ⟨f,mc,nc,h1,h2,J⟩ C he;exact⟨f,mc,nc,h1.ext C he,(he il h1.lt).trans h2,J⟩
theorem QQ(ps:Array Tmp)(us:Array Value)(tmps:Array Value):
 (ps.zip us).foldl (fun tmps (t,a)=>tmps.setIfInBounds t a) tmps=(ps.toList.zip us.toList).foldl (fun tmps (t,a)=>tmps.setIfInBounds t a) tmps:=by
 rw[<- Array.foldl_toList];simp
theorem Pu{β:aE}{w:World}{a:Act}{g:Operand}{f:FuncId}{fs cs:List D}(C:R F β w (.fn (.func f) fs cs) (a.eval g))(he:oY P f=true)(l:Nat)(w':World):
 ∃ (us vs:List Value) (d:Deferred),us.length=fs.length/\vs.length=cs.length/\(∀ (k:Nat) (d:D) (v:Value),fs[k]? =some d->us[k]? =some v->R F β w d v)/\(∀ (k:Nat) (d:D) (v:Value),cs[k]? =some d->vs[k]? =some v->R F β w d v)/\
  (resolve a.eval (rangeCall g l) 0).run P w'=.ok d w'/\(invoke d.target d.args).run P w'=.ok (.enter f (us.toArray++ #[.func (.yield l) #[] #[]]++vs.toArray)) w':=by
 generalize hv:a.eval g=v at C;cases C with
 |fn _ _ _ us vs hl mP hh J=>
 refine⟨us,vs,{ target:=.fn (.func f) vs.toArray,args:=us.toArray++ #[.func (.yield l) #[] #[]] },hl,mP,hh,J,?_,?_⟩
 .simp only[resolve,hv,Sem.run_bind,Deferred.ofValue];simp[go_sem]
 .simp only[invoke];unfold callFunc;unfold oY at he;simp only[Sem.run_bind,run_program,Result.andThen_ok];split at he
  .rename_i fn U;simp only[aW,Bool.not_eq_true'] at he
   have hb:fn.body.isNone=false:=by
    cases M:fn.body<;>simp_all
   rw[U];simp only[he.1,hb,Bool.false_eq_true,if_false,Sem.run_pure]
  .cases he
theorem Rs.append{β:aE}{w:World}{aS bs:List D}{xs ys:Array Value}(h:Rs F β w aS xs)(k:Rs F β w bs ys):Rs F β w (aS++bs) (xs++ys):=by
 refine⟨by simp[h.1,k.1],fun j d v hd hv=>?_⟩;rcases Nat.lt_or_ge j aS.length with hj|hj
 .rw[List.getElem?_append_left hj] at hd;rw[Array.getElem?_append_left (by rw[h.1];exact hj)] at hv;exact h.2 j d v hd hv
 .rw[List.getElem?_append_right hj] at hd;rw[Array.getElem?_append_right (by rw[h.1];exact hj),h.1] at hv;exact k.2 _ d v hd hv
theorem Gf(iC:P.follows .mixedOrders=true):∀ (c:Code) (F:Nat->Prop) (r:Option Nat) (n:Nat) (Y:ej) (rf:Bool) (N₀:Nat) (β₀:aE) (w₀:World) (a₀:Act),(rf=true->r=none)->
 (∀ l args m nx K,Y l args m nx K->nX P F β₀ w₀ l args m nx K)->gV a₀.tmps.size c=true->∀ (Q:Exit->St->Prop) (st:St) (β:aE) (w:World) (a:Act),
 AW P Y rf c Q st->eB P F st β w a->pv N₀ β₀ w₀ a₀ st β w a->c.wpIn (Fe r) n P (Ut P F N₀ β₀ w₀ a₀ Q) a w:=by
 intro c
 induction c with
 |skip=>exact fun F r n Y rf N₀ β₀ w₀ a₀ X U _ Q st β w a h hs J=>wpIn_skip ⟨st,β,h,hs,J⟩
 |ret=>exact fun F r n Y rf N₀ β₀ w₀ a₀ X U _ Q st β w a h hs J=>wpIn_ret ⟨st,β,h,hs,J⟩
 |exit id=>exact fun F r n Y rf N₀ β₀ w₀ a₀ X U _ Q st β w a h hs J=>wpIn_exit ⟨st,β,h,hs,J⟩
 |label l=>exact fun F r n Y rf N₀ β₀ w₀ a₀ X U _ Q st β w a h hs J=>wpIn_label ⟨st,β,h,hs,J⟩
 |region id ops draw=>
  intro F r n Y rf N₀ β₀ w₀ a₀ X U af Q st β w a h hs J;have pf:wQ a.tmps.size ops=true:=by rw[J.size];exact af
  cases draw with
  |false=>
   refine wpIn_mono (YQ (N:=st.nx) (β₀:=β) (w₀:=w) (a₀:=a) (fun l args m nx K hy=>(U l args m nx K hy).base J.step) pf h hs (gk.refl st β w a)) fun e a' w' hp=>?_;obtain⟨st',β',hq,cQ,dL⟩:=hp;exact⟨st',β',hq,cQ,J.since dL⟩
  |true=>
   simp only[AW] at h;split at h
   .rename_i cf ke;refine wpIn_mono (YR (N₀:=st.nx) (β₀:=β) (w₀:=w) (a₀:=a) iC ke pf h hs (gk.refl st β w a)) fun e a' w' hp=>?_;obtain⟨st',β',hq,cQ,dL⟩:=hp;exact⟨st',β',hq,cQ,J.since dL⟩
   .exact h.elim
 |seq x y Cm Cn=>
  intro F r n Y rf N₀ β₀ w₀ a₀ X U af Q st β w a h hs J;simp only[gV,aW] at af;refine wpIn_seq (wpIn_mono (Cm F r n Y rf N₀ β₀ w₀ a₀ X U af.1 _ st β w a h hs J) fun e a' w' hp=>?_);obtain⟨st',β',hq,cQ,dL⟩:=hp;cases e with
  |normal=>
   obtain⟨fS,hg,hy⟩:=hq;obtain⟨dT,pX,Ed⟩:=JJ hg cQ;exact Cn F r n Y rf N₀ β₀ w₀ a₀ X U af.2 Q fS dT w' a' hy pX (dL.since Ed)
  |_=>exact⟨st',β',hq,cQ,dL⟩
 |cond c x y Cm Cn=>
  intro F r n Y rf N₀ β₀ w₀ a₀ X U af Q st β w a h hs J;simp only[gV,aW] at af;obtain⟨ha,h⟩:=h;have hR:=(hs.e.opd c).uF _ ha;split at h
  .rename_i t ht;rw[ht] at hR;exact wpIn_cond_split hR.c6.1 (fun e=>Cm F r n Y rf N₀ β₀ w₀ a₀ X U af.1 Q st β w a (h.1 e) hs J) fun e=>Cn F r n Y rf N₀ β₀ w₀ a₀ X U af.2 Q st β w a (h.2 e) hs J
  .rename_i ht;rw[ht] at hR;obtain⟨b,hb⟩:=hR.Hq;exact wpIn_cond_split hb (fun _=>Cm F r n Y rf N₀ β₀ w₀ a₀ X U af.1 Q st β w a h.1 hs J) fun _=>Cn F r n Y rf N₀ β₀ w₀ a₀ X U af.2 Q st β w a h.2 hs J
  .exact h.elim
 |scope b ih=>
  intro F r n Y rf N₀ β₀ w₀ a₀ X U af Q st β w a h hs J;refine Zk (wpIn_mono (ih F r n Y rf N₀ β₀ w₀ a₀ X U af _ st β w a h hs J) fun e a' w' hp=>?_);obtain⟨st',β',hq,cQ,dL⟩:=hp;cases e with
  |goto l=>exact hq.elim
  |_=>exact⟨st',β',hq,cQ,dL⟩
 |block id b ih=>
  intro F r n Y rf N₀ β₀ w₀ a₀ X U af Q st β w a h hs J;refine wpIn_block (wpIn_mono (ih F r n Y rf N₀ β₀ w₀ a₀ X U af _ st β w a h hs J) fun e a' w' hp=>?_);obtain⟨st',β',hq,cQ,dL⟩:=hp;cases e with
  |exit i=>
   simp only[fE] at hq;simp only[Exit.inBlock];split at hq
   .rename_i hi;rw[if_pos hi];exact⟨st',β',hq,cQ,dL⟩
   .rename_i hi;rw[if_neg hi];exact⟨st',β',hq,cQ,dL⟩
  |_=>exact⟨st',β',hq,cQ,dL⟩
 |loop b ih=>
  intro F r n Y rf N₀ β₀ w₀ a₀ X U af Q st β w a h hs J;obtain⟨I,μ,hI,uS⟩:=h;refine Yp (fun j a w=>∃ st β,I st/\μ st=j/\eB P F st β w a/\pv N₀ β₀ w₀ a₀ st β w a) ⟨st,β,hI,rfl,hs,J⟩ ?_;rintro j a w ⟨st,β,hI,hμ,hs,J⟩;refine wpIn_mono (ih F r n Y rf N₀ β₀ w₀ a₀ X U af _ st β w a (uS st hI) hs J) fun e a' w' hp=>?_;obtain⟨st',β',hq,cQ,dL⟩:=hp;cases e with
  |normal=>
   obtain⟨jb,hg,IT,aiX⟩:=hq;obtain⟨dT,pX,Ed⟩:=JJ hg cQ;exact⟨μ jb,oG,jb,dT,IT,rfl,pX,dL.since Ed⟩
  |_=>exact⟨st',β',hq,cQ,dL⟩
 |rangeFunc g ps assign body vK vL=>
  intro F r n Y rf N₀ β₀ w₀ a₀ X U af Q st β w a h hs J;obtain⟨env,mem,nx⟩:=st;obtain⟨MO,j4,f,fs,cs,xs,I,u7,zn,yZ,zL,uS,y3⟩:=h;simp only at j4 u7 zL uS y3;have hr:=X MO;subst hr;simp only[gV,aW,bS,Nat.blt_eq] at af;obtain⟨sy,MP,MQ⟩:=af;have bD:a.tmps.size=a₀.tmps.size:=J.size;have hR:=(hs.e.opd g).uF _ j4;simp only[u7] at hR;refine wpIn_rangeFunc fun fn qX=>?_;obtain⟨C,la⟩:∃ C:LoopState->Option Code->Loop,C=fun st pe=>{ state:=st,pending:=pe,fn,tmps:=a.tmps,params:=ps,assign,body,defers:=w.heap.size }:=⟨_,rfl⟩
  obtain⟨W1,sF⟩:∃ W1,(w.alloc (.deferred (some []))).alloc (.loop (C .ready none))=W1:=⟨_,rfl⟩
  obtain⟨us,vs,d,zM,pw,hu,hv,oh,hinv⟩:=Pu (P:=P) hR zn.1 (w.heap.size+1) W1;have hn:∀ i,nx<=i->β i=none:=hs.n;have vM:∀ t∈vu,t.1≠w.heap.size+1:=fun t ht e=>by have:=hs.m.fb.lt _ (hs.m.fb.mQ t ht).1;omega
  have E0:¬ F (w.heap.size+1):=fun e=>by have:=hs.m.fb.lt _ e;omega
  let f₀:Nat->Option Nat:=fun i=>if i<nx then some i else none
  have ED:β.via f₀=β:=by
   funext i;simp only[aE.via,f₀];split
   .rfl
   .exact(hn i oG).symm
  have lq:aJ P F (fun i=>(mem i).map (Row.mI f₀)) β w:=⟨fun i r hi=>by
   simp only[cU] at hi;obtain⟨r0,h1,rfl⟩:=hi;obtain⟨p,hp,hr⟩:=hs.m.row i r0 h1
   exact⟨p,hp,cC.Im (F':=F) (by rw[ED];exact hr) (fun _ h=>h) fun b g1 g2=>absurd (ED▸g2) g1⟩,hs.m.inj,hs.m.lt,hs.m.nf,hs.m.fb⟩
  have vN:Step β w β (w.alloc (.deferred (some []))):=AR oS fun b hb=>heap_alloc_old w _ hb;have js:aJ P F (fun i=>(mem i).map (Row.mI f₀)) β (w.alloc (.deferred (some []))):=lq.ext oS fun b hb=>heap_alloc_old w _ hb
  have NM:aJ P F (up (fun i=>(mem i).map (Row.mI f₀)) nx (some (.raw (w.heap.size+1) (.loop (C .ready none))))) (up β nx (some (.raw (w.heap.size+1)))) W1:=by
   rw[<- sF];refine js.alloc (hn nx (aZ _)) _ _ _ (fun b hb=>by simp only[Pl.bF,aG] at hb;simp;omega) (.raw _ _ ?_);have:=World.alloc_heap_new (w.alloc (.deferred (some []))) (.loop (C .ready none))
   rwa[World.size_alloc] at this
  have nC:Step β w (up β nx (some (.raw (w.heap.size+1)))) W1:=by
   rw[<- sF];exact vN.trans (AH js _ (hn nx (aZ _)) _ (fun b hb=>by simp only[Pl.bF,aG] at hb;simp;omega))
  have NN:W1.heap[w.heap.size]? =some (.deferred (some [])):=by
   rw[<- sF];rw[heap_alloc_old _ _ oS];exact World.alloc_heap_new w _
  have DT:aE.free (up β nx (some (.raw (w.heap.size+1)))) w.heap.size:=
   rD (fun i p hp e=>by have:=hs.m.lt i p _ hp e;omega) (by rintro q hq;cases hq;simp[Pl.bF])
  have aiY:W1.heap.size=w.heap.size+2:=by rw[<- sF];simp
  have K2:∀ i,nx<=i->mem i=none:=fun i hi=>by
   cases hm:mem i with
   |none=>rfl
   |some row=>
    obtain⟨p,hp,_⟩:=hs.m.row i row hm;rw[hn i hi] at hp;cases hp
  have own:∀ {f:Nat->Option Nat} {mc:Mem} {nc:Nat} {m:Mem} {ij:Nat} {β2:aE} {w2:World},View nx nx f mc nc m ij->Step (up β nx (some (.raw (w.heap.size+1)))) W1 β2 w2->
   ∀ {d:D} {v:Value},R F β w d v->R (hidden F β2 f) (β2.via f) w2 d v:=fun {_ _ _ _ _ _ _} M dc {d v} h=>by
   have zo:=nC.trans dc;refine h.gen zo.size (fun b hb hf lQ=>?_) fun i p _ hp=>?_
   .obtain⟨g1,g2⟩:=zo.de b hb lQ;exact⟨uG g1,aE.pH g2 _,fun e=>e.elim hf fun e=>e.1 g2⟩
   .have hi:i<nx:=by
     rcases Nat.lt_or_ge i nx with h1|h1
     .exact h1
     .rw[hn i h1] at hp;cases hp
    simp only[aE.via,M.id i hi,Option.bind_some];exact zo.keep i p hp
  refine⟨w.heap.size+1,[mark w.heap.size],W1,d,W1,f,_,W1,?_,oh,fun f' _=>trivial,hinv,fun hd=>by simp at hd,Kx ?_⟩
  .rw[<- sF,la];exact run_enterLoop_outer _ _ _ _ _
  refine(zn.2 F (w.heap.size+1) (fun k=>wH nx (w.heap.size+1) nx (.loop (C .ready none)) (I k)) (fun m k=>∃ c,wH nx (w.heap.size+1) nx (.loop (C .done (some c))) (Jump env Q c) m k)
   (up (fun i=>(mem i).map (Row.mI f₀)) nx (some (.raw (w.heap.size+1) (.loop (C .ready none))))) (nx+1) (up β nx (some (.raw (w.heap.size+1)))) W1 _ (fun k=>wH.closed) ?_ NM ?_ ?_ ?_ ?_).mono ?_
  .rintro m k m' k' ⟨c,hc⟩ hle he;exact⟨c,wH.closed m k m' k' hc hle he⟩
  .intro i hi;rw[aA _ _ (show i≠nx by omega)];exact hn i oG
  .refine Rs.append (Rs.append ?_ ?_) ?_
   .exact⟨by simp[zM],fun k d v hd hv=>(hu k d v hd (by simpa using hv)).step nC⟩
   .refine⟨rfl,fun k d v hd hv=>?_⟩;cases k with
    |zero=>
     simp only[List.getElem?_cons_zero,aG] at hd;simp only[List.getElem?_toArray,List.getElem?_cons_zero,aG] at hv;subst hd;subst hv;exact .fn _ [] [] [] [] rfl rfl oS oS
    |succ k=>simp at hd
   .exact⟨by simp[pw],fun k d v hd E2=>(hv k d v hd (by simpa using E2)).step nC⟩
  .rintro k x m k' hx ⟨g,mc,nc,M,eN,NO⟩ β2 w2 vO MR iM IU vP;obtain⟨E3,r5,_,zp⟩:=iM.qE eN;have MS:vO.size=ps.size:=by rw[vP.1];exact(yZ x (bu hx)).1
   have hy:=run_yield (P:=P) (args:=vO) r5 (by rw[la];exact MS);simp only[la,QQ] at hy;refine⟨fn,_,assign,body,hy,fun n'=>?_⟩;obtain⟨tU,kH⟩:=M.enter iM;have sG:hidden F β2 g (w.heap.size+1):=(M.wC iM (fun i e=>(M.mJ e).2.2 rfl) E3 rfl).2;have DU:(β2.via g).free (w.heap.size+1):=(M.wC iM (fun i e=>(M.mJ e).2.2 rfl) E3 rfl).1;have NP:ia (hidden F β2 g) (β2.via g) w2 env { tmps:=a.tmps,defers:=[] }:=fun t=>own M MR (hs.e t)
   obtain⟨NQ,EE⟩:=JO ps.toList x vO.toList env a.tmps (by simp[vP.1]) (fun j d v hd hv=>
    ((yZ x (bu hx)).2 d (bu hd) F β2 w2 v (vP.2 j d v hd (by simpa using hv))).gen (aZ _)
     (fun b _ hb _=>⟨kV.refl _ b,aE.pH (wv hb).2 _,fun e=>e.elim (wv hb).1 fun e=>e.1 (wv hb).2⟩) (fun i p _ hp=>by cases hp)) (fun t ht=>by rw[bD];exact sy t ht) NP
   have MT:=vK (hidden F β2 g) (some (w.heap.size+1)) n' c8 false nc (β2.via g) w2
    { tmps:=(ps.toList.zip vO.toList).foldl (fun tmps (t,a)=>tmps.setIfInBounds t a) a.tmps,defers:=[] } oS (fun _ _ _ _ _ h=>h.elim) (by show gV (Array.size _) assign=true;rw[EE,bD];exact MP) _ ⟨nT env ps.toList x,mc,nc⟩ (β2.via g) w2 _
    (uS k mc nc x hx NO) ⟨NQ,tU,kH⟩ (gk.refl ⟨nT env ps.toList x,mc,nc⟩ _ _ _).zI
   refine roundIn_of_wpIn trivial (wpIn_mono MT fun e a3 w3 hp=>?_);obtain⟨jb,β3,zN,Co,gN⟩:=hp;cases e with
   |normal=>
    have y4:w.heap.size+1<w3.heap.size:=Nat.lt_of_lt_of_le zp gN.step.size;have L9:w3.heap[w.heap.size+1]? =some (.loop (C .ready none)):=(gN.step.de _ zp DU).1.trans r5;refine⟨_,run_beginRound L9 (by rw[la]),?_⟩;have MU:=Co.pd (l:=w.heap.size+1) sG vM (.loop { C .ready none with state:=.busy });have L':=vL (hidden F β2 g) (some (w.heap.size+1)) n' c8 false jb.nx β3 _ a3 oS (fun _ _ _ _ _ h=>h.elim) (by rw[gN.size];show gV (Array.size _) body=true;rw[EE,bD];exact MQ) _ jb β3 _ a3 zN MU (gk.refl jb _ _ _).zI;refine wpIn_mono L' fun e a4 w4 NR=>?_;obtain⟨E4,β4,vQ,E5,qZ⟩:=NR;have Ma:w.heap.size+1<w4.heap.size:=Nat.lt_of_lt_of_le (by simpa using y4) qZ.step.size
    have Mb:w4.heap[w.heap.size+1]? =some (.loop { C .ready none with state:=.busy }):=
     (qZ.step.de _ (by simpa using y4) (gN.step.de _ zp DU).2).1.trans (World.putObj_heap_same y4)
    have fin:∀ (jump:Option Code) (K:D->Mem->Nat->Prop),(∀ f' dM ic,View nx nx f' E4.mem E4.nx dM ic->dM nx=some (.raw (w.heap.size+1) (.loop (C (if jump.isNone then .ready else .done) jump)))->K (.s (.bool jump.isNone)) dM ic)->
     ∃ v w',(Instr.endRound (w.heap.size+1) jump).run P w4=.ok v w'/\∃ v' d m' al β',Ending.returned v=.returned v'/\K d m' al/\aJ P F m' β' w'/\(∀ i,al<=i->β' i=none)/\R F β' w' d v'/\Step β2 w2 β' w'/\k'<=al/\∀ i,i<k'->β2 i=none->β' i=none:=fun jump K hK=>by
     have dn:=run_endRound (P:=P) jump Mb;have e1:∀ s p,({ ({ C .ready none with state:=.busy }:Loop) with state:=s,pending:=p }:Loop)=C s p:=fun s p=>by rw[la]
     rw[e1] at dn
     obtain⟨f',dM,ic,dT,v1,v2,v3,v4,v5,v6,v7⟩:=M.afN iM IU eN (o':=.loop (C (if jump.isNone then .ready else .done) jump)) (E5.m.pd sG vM _)
      (((gN.step.x _).trans (pS.put _ β3 w3 _)).trans ((qZ.step.x _).trans (pS.put _ β4 w4 _))) E5.n (Nat.le_trans gN.le qZ.le) (fun i hi hb=>qZ.grow i (Nat.lt_of_lt_of_le hi gN.le) (gN.grow i hi hb)) (World.putObj_heap_same Ma)
     exact⟨_,_,dn,.bool jump.isNone,_,dM,ic,dT,rfl,hK f' dM ic v1 v2,v3,v4,.s _ rfl,v5,v6,v7⟩
    cases e with
    |normal=>exact fin none _ fun f' dM ic v1 v2=>.inl ⟨rfl,f',_,_,v1,v2,vQ⟩
    |ret=>exact fin (some .ret) _ fun f' dM ic v1 v2=>.inr ⟨rfl,.ret,f',_,_,v1,v2,vQ⟩
    |exit id=>exact fin (some (.exit id)) _ fun f' dM ic v1 v2=>.inr ⟨rfl,.exit id,f',_,_,v1,v2,vQ⟩
    |_=>exact vQ.elim
   |_=>exact zN.elim
  .refine⟨f₀,mem,nx,⟨aZ _,oG,fun i hi=>by simp[f₀,hi],fun i hi=>⟨i,by simp[f₀,hi],oG,oG⟩,fun i hi=>by simp[f₀,Nat.not_lt.2 hi],fun i i' j h1 h2=>?_,fun i r hi=>?_⟩,aj _ _ _,zL⟩
   .simp only[f₀,Option.ite_none_right_eq_some,aG] at h1 h2;omega
   .have af:i<nx:=by
     rcases Nat.lt_or_ge i nx with h1|h1
     .exact h1
     .rw[K2 i h1] at hi;cases hi
    exact⟨i,by simp[f₀,af],by rw[aA _ _ (show i≠nx by omega),hi];rfl⟩
  .rintro e w6 ⟨v,d6,m6,NS,β6,rfl,EF,p8,hn6,_,lb,aiZ,MV⟩
   have fin:∀ {g:Nat->Option Nat} {mc:Mem} {nc:Nat} (o':Obj),View nx nx g mc nc m6 NS->
    eB P F ⟨env,mc,nc⟩ (β6.via g) (w6.putObj (w.heap.size+1) o') { a with defers:=[mark w.heap.size]++a.defers }/\
    pv N₀ β₀ w₀ a₀ ⟨env,mc,nc⟩ (β6.via g) (w6.putObj (w.heap.size+1) o') { a with defers:=[mark w.heap.size]++a.defers }:=fun {g mc nc} o' M=>by
    obtain⟨tU,kH⟩:=M.enter p8
    have sG:hidden F β6 g (w.heap.size+1):=by
     have hβ:β6 nx=some (.raw (w.heap.size+1))\/β6 nx=some .dead:=lb.keep nx _ (aj _ _ _);rcases hβ with hβ|hβ
     .exact(M.wC p8 (fun i e=>(M.mJ e).2.2 rfl) hβ rfl).2
     .exfalso;rcases EF with⟨f',NT,gM,_,zq,_⟩|⟨c,f',NT,gM,_,zq,_⟩
      .rw[(p8.qE zq).1] at hβ;cases hβ
      .rw[(p8.qE zq).1] at hβ;cases hβ
    refine⟨⟨fun t=>((own M lb (hs.e t)).pd sG o').og fun b hb=>.inl hb,(tU.pd sG vM o').og (fun b hb=>.inl hb) fun t ht=>(hs.m.fb.mQ t ht).1,kH⟩,J.trans ⟨⟨?_,fun b hb hf=>?_,fun i p hp=>?_,(nC.out.trans lb.out).trans ⟨rfl,rfl⟩⟩,M.low,fun i hi hb=>?_,rfl,[mark w.heap.size],rfl,?_⟩⟩
    .have:=lb.size;simp;omega
    .obtain⟨g1,g2⟩:=nC.de b hb hf;obtain⟨g3,g4⟩:=lb.de b oG g2;exact⟨(World.putObj_heap_other oG).trans (g3.trans g1),aE.pH g4 _⟩
    .have hi:i<nx:=by
      rcases Nat.lt_or_ge i nx with h1|h1
      .exact h1
      .rw[hn i h1] at hp;cases hp
     simp only[aE.via,M.id i hi,Option.bind_some];exact(nC.trans lb).keep i p hp
    .have hi:i<nx:=hi;simp only[aE.via,M.id i hi,Option.bind_some];exact MV i oG (by rw[aA _ _ oG];exact hb)
    .refine⟨w.heap.size,rfl,aZ _,?_,?_,?_,trivial⟩
     .have:=lb.size;simp;omega
     .exact(World.putObj_heap_other oG).trans ((lb.de _ oG DT).1.trans NN)
     .exact aE.pH (lb.de _ oG DT).2 _
   rcases EF with⟨g,mc,nc,M,eN,hI⟩|⟨c,g,mc,nc,M,eN,hj⟩
   .have dn:(Instr.endLoop (w.heap.size+1)).run P w6=.ok none (w6.putObj (w.heap.size+1) (.loop (C .exhausted none))):=by
     have:=run_endLoop (P:=P) (p8.qE eN).2.1 (by rw[la];simp);rw[la] at this ⊢;exact this
    obtain⟨g1,g2⟩:=fin (.loop (C .exhausted none)) M;exact⟨none,_,dn,⟨env,mc,nc⟩,_,y3 mc nc hI,g1,g2⟩
   .have dn:(Instr.endLoop (w.heap.size+1)).run P w6=.ok (some c) (w6.putObj (w.heap.size+1) (.loop (C .exhausted (some c)))):=by
     have:=run_endLoop (P:=P) (p8.qE eN).2.1 (by rw[la];simp);rw[la] at this ⊢;exact this
    obtain⟨g1,g2⟩:=fin (.loop (C .exhausted (some c))) M;refine⟨some c,_,dn,?_⟩;cases c with
    |ret=>exact wpIn_ret ⟨⟨env,mc,nc⟩,_,hj,g1,g2⟩
    |exit id=>exact wpIn_exit ⟨⟨env,mc,nc⟩,_,hj,g1,g2⟩
    |_=>exact hj.elim
 |_=>intro F r n Y rf N₀ β₀ w₀ a₀ X U af Q st β w a h;exact h.elim
end
section
variable{P:Program}{F:Nat->Prop}{fn:Func}
def BW(tmps:Array Value):ResultVar->Sem Value
 | .tmp t=>pure (tmps.getD t undef)
 | .cell x t=>do loadVar t (<- asAddr (tmps.getD x undef))
theorem Zn(fn:Func)(tmps:Array Value):results fn tmps=(do
 let vs<- fn.results.mapM (BW tmps)
 pure (if h:vs.size=1 then vs[0] else .tuple vs)):=by
 unfold results;congr 1
theorem adZ{st:St}{β:aE}{w:World}{a:Act}(hs:eB P F st β w a){r:ResultVar}{p:Prop}{d:D}(h:ou P st r=some (p,d))(hp:p):
 ∃ v,(BW a.tmps r).run P w=.ok v w/\R F β w d v:=by
 unfold ou at h;split at h
 .cases h;exact⟨_,by simp[BW],hs.e _⟩
 .rename_i x t;have hx:=hs.e x;split at h
  .rename_i i off C;rw[C] at hx;split at h
   .rename_i cs e hm;cases h;obtain⟨b,o,room,sz,M,hv,ap⟩:=hx.Hx hs.m hm;obtain⟨u,hu,hr⟩:=FU (P:=P) hp.1 (ap.rd.1.drop off) oP;refine⟨u,?_,hr⟩;simp only[BW,hv,Sem.run_bind];simp[asAddr,hu]
   .cases h
  .rename_i cs C;rw[C] at hx;cases h;obtain⟨b,o,hv,_,_,_,J⟩:=hx.Hy;obtain⟨u,hu,hr⟩:=FU (P:=P) hp.1 J hp.2;refine⟨u,?_,hr⟩;simp only[BW,hv,Sem.run_bind];simp[asAddr,hu]
  .cases h
theorem RG{st:St}{β:aE}{w:World}{a:Act}(hs:eB P F st β w a){K:List D->Prop}:∀ (rs:List ResultVar) (acc:List D),ov P st rs acc K->
 ∃ vs ds,(rs.mapM (BW a.tmps)).run P w=.ok vs w/\vs.length=ds.length/\K (acc++ds)/\
  ∀ (k:Nat) (d:D) (v:Value),ds[k]? =some d->vs[k]? =some v->R F β w d v
 |[],acc,h=>⟨[],[],oS,rfl,by simpa[ov] using h,oS⟩
 |r::rs,acc,h=>by
  simp only[ov] at h;split at h
  .rename_i p d hr;obtain⟨v,h1,h2⟩:=adZ hs hr h.1;obtain⟨vs,ds,C,J,M,U⟩:=RG hs rs _ h.2;refine⟨v::vs,d::ds,?_,by simp[J],by simpa using M,fun k d' X hd hv=>?_⟩
   .rw[List.mapM_cons];simp only[Sem.run_bind];rw[h1];simp only[Result.andThen_ok,Sem.run_bind];rw[C];simp
   .cases k with
    |zero=>simp at hd hv;subst hd;subst hv;exact h2
    |succ k=>exact U k d' X (by simpa using hd) (by simpa using hv)
  .exact h.elim
theorem PG{st:St}{β:aE}{w:World}{a:Act}(hs:eB P F st β w a){K:D->Prop}(h:ov P st fn.results.toList [] fun ds=>K (qP ds)):
 ∃ v d,(results fn a.tmps).run P w=.ok v w/\K d/\R F β w d v:=by
 obtain⟨vs,ds,h1,h2,C,J⟩:=RG hs _ _ h;simp only[List.nil_append] at C;refine⟨if h:vs.toArray.size=1 then vs.toArray[0] else .tuple vs.toArray,qP ds,?_,C,?_⟩
 .rw[Zn,Array.mapM_eq_mapM_toList];simp only[Sem.run_bind,map_eq_pure_bind,bind_assoc];rw[h1];simp
 .split
  .rename_i bD;simp only[List.size_toArray] at bD;obtain⟨v,rfl⟩:=List.length_eq_one_iff.1 bD;obtain⟨d,rfl⟩:=List.length_eq_one_iff.1 (show ds.length=1 by simpa using h2.symm);exact J 0 d v rfl rfl
  .rename_i bD;simp only[List.size_toArray] at bD
   have:qP ds=.aM ds:=by
    unfold qP;split
    .rename_i d;simp at h2;exact absurd h2 bD
    .rfl
   rw[this];exact .aM ds vs h2 J
theorem Ys{w:World}{b:Nat}{x:Option (List Deferred)}(h:w.heap[b]? =some (.deferred x))(o:Nat):w.cell? ⟨b,o,none⟩=none:=by
 simp[World.cell?,h]
theorem R.RH{w:World}{b:Nat}{x:Option (List Deferred)}(hb:w.heap[b]? =some (.deferred x))(o:Obj)(J:Nat):kV w (w.putObj b o) J:=by
 refine⟨fun k u hu=>?_,fun ms c hm=>?_⟩
 .have C:J≠b:=fun e=>by rw[e,Ys hb] at hu;cases hu
  exact(cell_of_heap (World.putObj_heap_other C)).trans hu
 .have C:J≠b:=fun e=>by rw[e,hb] at hm;cases hm
  exact(World.putObj_heap_other C).trans hm
theorem eB.gp{st:St}{β:aE}{w:World}{a:Act}{b:Nat}{x:Option (List Deferred)}(hb:w.heap[b]? =some (.deferred x))(hf:β.free b)(o:Obj)(h:eB P F st β w a):eB P F st β (w.putObj b o) a:=
 ⟨fun t=>(h.e t).gen oS (fun C _ h1 h2=>⟨R.RH hb o C,h2,h1⟩) fun _ _ _ h=>.inl h,⟨fun i r hi=>by
  obtain⟨p,hp,hr⟩:=h.m.row i r hi;exact⟨p,hp,hr.gen oS (fun C _ h1 h2=>⟨R.RH hb o C,h2,h1⟩) (fun _ _ _ h=>.inl h) fun c hc=>World.putObj_heap_other fun e=>hf i p hp (e▸hc)⟩,
  h.m.inj,fun i p c hp hc=>by simpa using h.m.lt i p c hp hc,h.m.nf,h.m.fb.next (fun c hc=>by simpa using h.m.fb.lt c hc) (fun _ h=>h) fun t ht _=>World.putObj_heap_other fun e=>adQ (h.m.fb.mQ t ht).2 x (by rw[e];exact hb)⟩,h.n⟩
theorem Marks.put{β:aE}{w:World}{lo b:Nat}(o:Obj):∀ {ds:List Deferred} {hi:Nat},hi<=b->Marks β w lo ds hi->Marks β (w.putObj b o) lo ds hi
 |[],_,_,_=>trivial
 |_::_,_,hle,⟨c,h1,h2,h3,h4,h5,h6⟩=>⟨c,h1,h2,h3,(World.putObj_heap_other oG).trans h4,h5,Marks.put o oG h6⟩
theorem JF{n:Nat}{tmps:Array Value}{R:Ending->World->Prop}{st:St}{β₀ β:aE}{w₀:World}{a:Act}:∀ (ds:List Deferred) (hi:Nat) (w:World),Marks β w w₀.heap.size ds hi->eB P F st β w a->Step β₀ w₀ β w->
 (∀ w',eB P F st β w' a->Step β₀ w₀ β w'->∃ v,(results fn tmps).run P w'=.ok v w'/\R (.returned v) w')->LeavesInM (Fe none) n P fn tmps R ds .returning w
 |[],_,w,_,hs,dc,K=>K w hs dc
 |d::ds,hi,w,⟨b,h1,h2,h3,h4,h5,h6⟩,hs,dc,K=>by
  subst h1;refine⟨oS,.inl ⟨b,_,rfl,run_takeDeferred h4,JF ds b _ (h6.put _ (aZ _)) (hs.gp h4 h5 _) ?_ K⟩⟩;refine⟨by simpa using dc.size,fun c hc hf=>?_,dc.keep,dc.out.trans ⟨rfl,rfl⟩⟩;obtain⟨C,J⟩:=dc.de c hc hf;exact⟨(World.putObj_heap_other oG).trans C,J⟩
theorem AT(iC:P.follows .mixedOrders=true){Y:ej}{f:FuncId}{c:Code}(hf:P.funcs[f]? =some fn)(hb:fn.body=some c)(af:gV fn.ntmps c=true){args:List D}(hn:Nat.ble args.length fn.ntmps=true){m:Mem}{nx:Nat}{K:D->St->Prop}
 (h:AW P Y true c (iD P fn.results.toList K) ⟨iX args,m,nx⟩) {β:aE} {w:World} {vs:Array Value} (hY:∀ l args m nx K,Y l args m nx K->nX P F β w l args m nx K) (hm:aJ P F m β w) (cF:∀ i,nx<=i->β i=none) (C:Rs F β w args vs):
 Calls P f vs w fun e w'=>∃ v d st' β',e=.returned v/\K d st'/\R F β' w' d v/\aJ P F st'.mem β' w'/\(∀ i,st'.nx<=i->β' i=none)/\Step β w β' w'/\nx<=st'.nx/\∀ i,i<nx->β i=none->β' i=none:=by
 have hle:args.length<=fn.ntmps:=by simpa using hn
 refine(callsIn_wide (n:=0)).1 (callsIn_of_wp_marks hf hb trivial ?_)
 have bD:(vs++Array.replicate (fn.ntmps - vs.size) undef).size=fn.ntmps:=by
  simp only[Array.size_append,Array.size_replicate,C.1];omega
 let a₀:Act:={ tmps:=vs++Array.replicate (fn.ntmps - vs.size) undef,defers:=[] }
 have hE:ia F β w (iX args) a₀:=fun t=>by
  unfold iX;rcases Nat.lt_or_ge t args.length with af|bm
  .have h1:args.getD t .u=args[t]:=by simp[af]
   have h2:a₀.tmps.getD t undef=vs[t]'(by rw[C.1];exact af):=by
    show(vs++Array.replicate (fn.ntmps - vs.size) undef).getD t undef=_;have U:t<vs.size:=by rw[C.1];exact af
    simp[Array.getD_eq_getD_getElem?,Array.getElem?_append_left U,U]
   rw[h1,h2];exact C.2 t _ _ (by simp[af]) (by simp[C.1,af])
  .have h1:args.getD t .u=.u:=by simp[bm]
   rw[h1];exact .u _
 have:=Gf iC c F none 0 Y true nx β w a₀ (fun _=>rfl) hY (by show gV (vs++Array.replicate (fn.ntmps - vs.size) undef).size c=true;rw[bD];exact af) _ ⟨iX args,m,nx⟩ β w a₀ h ⟨hE,hm,cF⟩ (gk.refl ⟨iX args,m,nx⟩ β w a₀).zI;refine wpIn_mono this fun e a' w' hp=>?_;obtain⟨st',β',hq,cQ,J⟩:=hp
 have X:(ov P st' fn.results.toList [] fun ds=>K (qP ds) st')->LeavesInM (Fe none) 0 P fn a'.tmps (fun e w'=>∃ v d st' β',e=.returned v/\K d st'/\R F β' w' d v/\aJ P F st'.mem β' w'/\(∀ i,st'.nx<=i->β' i=none)/\Step β w β' w'/\nx<=st'.nx/\∀ i,i<nx->β i=none->β' i=none) a'.defers .returning w':=fun hq=>by
  obtain⟨ds,h1,h2⟩:=J.defers;rw[h1,show a₀.defers=[] from rfl,List.append_nil];refine JF ds _ w' h2 cQ J.step fun w'' M Mf=>?_;obtain⟨v,d,g1,g2,g3⟩:=PG (K:=fun d=>K d st') M hq;exact⟨v,g1,v,d,st',β',rfl,g2,g3,M.m,M.n,Mf,J.le,J.grow⟩
 cases e with
 |normal=>exact X hq
 |ret=>exact X hq
 |_=>exact hq.elim
theorem F6{w:World}(C:FB F w):aJ P F (fun _=>none) gU w:=
 ⟨fun i r h=>oH,fun i j p q b h=>oH,fun i p b h=>oH,fun i p b h=>oH,C⟩
theorem FN{β':aE}{w w':World}(h:Step gU w β' w'):Kept w w':=
 ⟨h.size,fun b hb=>(h.de b hb fun i p hp=>by cases hp).1,h.out⟩
theorem Tr.BB{d:D}(h:Tr d){β:aE}{w:World}{v:Value}(hv:R F β w d v):R F gU w d v:=
 (h F β w v hv).lift fun b hb=>⟨fun e=>hb (.inl e),fun i p hp=>by cases hp⟩
structure lX(P:Program)(f:FuncId)(fn:Func)(c:Code):Prop where
 hf:P.funcs[f]? =some fn
 hb:fn.body=some c
 af:gV fn.ntmps c=true
 he:oY P f=true
theorem RI(iC:P.follows .mixedOrders=true){f:FuncId}{c:Code}(hf:lX P f fn c){args:List D}(hn:Nat.ble args.length fn.ntmps=true){m:Mem}{nx:Nat}{eg:D->Mem->Nat->Prop}
 (h:AW P c8 true c (iD P fn.results.toList fun d st=>eg d st.mem st.nx) ⟨iX args,m,nx⟩):fP P f args m nx eg:=
 ⟨hf.he,fun F β w vs hm C hR=>(AT iC hf.hf hf.hb hf.af hn h (fun _ _ _ _ _ h=>h.elim) hm C hR).mono fun e w' ⟨v,d,st',β',h1,h2,J,M,U,X,h7,h8⟩=>⟨v,d,st'.mem,st'.nx,β',h1,h2,M,U,J,X,h7,h8⟩⟩
theorem ab5(X:P.follows .mixedOrders=true){f:FuncId}{c:Code}(hf:lX P f fn c){args:List D}(hn:Nat.ble args.length fn.ntmps=true)(ht:∀ a∈args,Tr a){r:D}(hr:Tr r)
 (h:AW P c8 true c (iD P fn.results.toList fun d _=>d=r) ⟨iX args,fun _=>none,0⟩):aB P f args r:=
 ⟨hf.he,ht,fun F w vs M U=>(AT X hf.hf hf.hb hf.af hn h (fun _ _ _ _ _ h=>h.elim) (F6 M) (fun _ _=>rfl) U).mono fun e w' hp=>by
  obtain⟨v,d,st',β',h1,rfl,C,h4,h5,J,h7,h8⟩:=hp
  exact⟨v,h1,hr.BB C,FN J⟩⟩
theorem RJ (iC:P.follows .mixedOrders=true){f:FuncId}{c:Code}(hf:lX P f fn c){args:List D}(hn:Nat.ble args.length fn.ntmps=true)(ht:∀ a∈args,Tr a){es:List D}(lA:∀ a∈es,Tr a){k:Nat}{t:TypeId}
 (h:AW P c8 true c (iD P fn.results.toList fun d st=>∃ i,d=.rs i 0 k/\st.mem i=some (.cells es t)) ⟨iX args,fun _=>none,0⟩):kW P f args es k t:=
 ⟨hf.he,ht,fun F w vs hF hR=>(AT iC hf.hf hf.hb hf.af hn h (fun _ _ _ _ _ h=>h.elim) (F6 hF) (fun _ _=>rfl) hR).mono fun e w' hp=>by
  obtain⟨v,d,st',β',h1,⟨i,rfl,hi⟩,h3,J,h5,M,h7,h8⟩:=hp;obtain⟨p,hp,ap⟩:=J.row i _ hi;refine⟨v,p,h1,?_,fun b hb=>⟨?_,J.lt i p b hp hb⟩,?_,?_,FN M⟩
  .rintro rfl;cases ap
  .rcases Nat.lt_or_ge b w.heap.size with af|U
   .exact absurd hb ((M.de b af fun i p hp=>by cases hp).2 i p hp)
   .exact U
  .have lift:∀ d∈es,∀ u,R F β' w' d u->R (fun x=>F x\/p.bF=some x) gU w' d u:=fun d hd u hu=>
    (lA d hd F β' w' u hu).lift fun b hb=>⟨fun e=>hb (by
     rcases e with e|e
     .exact .inl e
     .exact .inr fun lQ=>lQ i p hp e),fun i p hp=>by cases hp⟩
   cases ap with
   |nil _=>exact .nil _
   |cells _ _ b o room sz c q1 q2 q3 q4 q5=>
    refine .cells es t b o room sz c q1 q2 q3 q4 fun j d hd=>?_;obtain⟨u,u1,u2,u3⟩:=q5 j d hd;exact⟨u,u1,lift d (bu hd) u u2,u3⟩
  .cases h3 with
   |lp _ _ _ _ C _=>rw[C] at hp;cases hp;cases ap
   |jr _ a C=>rw[C] at hp;cases hp;exact .jr 0 a (aj _ _ _)
   |j9 _ _ a b o len room sz C=>rw[C] at hp;cases hp;exact .j9 0 0 a b o len room sz (aj _ _ _)
   |rs _ _ _ cap b o len room sz C X g2 g3 g4=>rw[C] at hp;cases hp;exact .rs 0 0 k cap b o len room sz (aj _ _ _) X g2 g3 g4⟩
def Vw(J:Nat)(xs:List (List D))(I:Nat->Mem->Nat->Prop)(Stop:Mem->Nat->Prop):ej:=fun l args m nx eg=>
 l=J/\∃ k,xs[k]? =some args/\I k m nx/\∀ d m' C,SJ I Stop k d m' C->eg d m' C
theorem nX.mono{β:aE}{w:World}{l:Nat}{args:List D}{m:Mem}{nx:Nat}{K K':D->Mem->Nat->Prop}(hk:∀ d m nx,K d m nx->K' d m nx)(h:nX P F β w l args m nx K):nX P F β w l args m nx K':=
 fun β' w' us h1 h2 U X=>by
  obtain⟨f,tmps,assign,body,J,M⟩:=h β' w' us h1 h2 U X;exact⟨f,tmps,assign,body,J,fun n=>RoundIn.mono (F:=Fence.wide) (M n) fun e w' ⟨v,d,m',C,β',q1,q2,q3⟩=>⟨v,d,m',C,β',q1,hk _ _ _ q2,q3⟩⟩
theorem ae'(iC:P.follows .mixedOrders=true){f:FuncId}{c:Code}(hf:lX P f fn c){fs cs:List D}(hn:Nat.ble (fs.length+1+cs.length) fn.ntmps=true){xs:List (List D)}
 (h:∀ (l:Nat) (I:Nat->Mem->Nat->Prop) (Stop:Mem->Nat->Prop) (m:Mem) (nx:Nat),(∀ k,tm (I k))->tm Stop->I 0 m nx->
  AW P (Vw l xs I Stop) true c (iD P fn.results.toList fun _ st=>I xs.length st.mem st.nx\/Stop st.mem st.nx) ⟨iX (fs++[.fn (.yield l) [] []]++cs),m,nx⟩):xe P f fs cs xs:=
 ⟨hf.he,fun F l I Stop m nx β w vs hI J hm U hR hy h0=>
  (AT iC hf.hf hf.hb hf.af (by simpa[Nat.add_assoc,Nat.add_comm,Nat.add_left_comm] using hn) (h l I Stop m nx hI J h0) (fun l' args m' M K hK=>by
   obtain⟨rfl,k,h1,h2,C⟩:=hK
   exact(hy k args m' M h1 h2).mono C) hm U hR).mono fun e w' ⟨v,d,st',β',h1,h2,C,X,h5,h6,h7,h8⟩=>⟨v,d,st'.mem,st'.nx,β',h1,h2,X,h5,C,h6,h7,h8⟩⟩
end
section
variable{P:Program}{Y:ej}{rf:Bool}{Q:Exit->St->Prop}{st:St}
theorem SR(c a b):AW P Y rf (.cond c a b) Q st=((opd st.env c).ask/\match (opd st.env c).core with
 | .s (.bool t)=>(t=true->AW P Y rf a Q st)/\(t=false->AW P Y rf b Q st)
 | .ub=>AW P Y rf a Q st/\AW P Y rf b Q st
 |_=>False):=rfl
theorem SU{b:Code}(I:St->Prop)(μ:St->Nat)(h0:I st)(h:∀ st',I st'->AW P Y rf b (fU (fun J=>∃ C,aH P J C/\I C/\μ C<μ st') Q) st'):AW P Y rf (.loop b) Q st:=⟨I,μ,h0,h⟩
theorem fP.mono{f:FuncId}{args:List D}{m:Mem}{nx:Nat}{eg J:D->Mem->Nat->Prop}(h:fP P f args m nx eg)(hp:∀ d m' C,eg d m' C->J d m' C):fP P f args m nx J:=
 ⟨h.1,fun F β w vs hm hn U=>(h.2 F β w vs hm hn U).mono fun e w' ⟨v,d,m',C,β',h1,h2,M⟩=>⟨v,d,m',C,β',h1,hp _ _ _ h2,M⟩⟩
theorem tq.mono{dr:Bool}{f:FuncId}{args:List D}{K K':D->Mem->Nat->List Nat->List Nat->Prop}(hk:∀ d m nx rd wr,K d m nx rd wr->K' d m nx rd wr)(h:tq P dr st f args K):tq P dr st f args K':=by
 rcases h with⟨r,h1,h2⟩|⟨M,rds,r,h1,h2,C,J⟩|⟨es,n,t,h1,h2⟩|⟨h1,h2⟩|⟨r,aU,rds,h1,h2,C⟩|⟨es,n,t,aU,rds,h1,h2,C,J⟩
 .exact .inl ⟨r,h1,hk _ _ _ _ _ h2⟩
 .exact .inr (.inl ⟨M,rds,r,h1,h2,C,hk _ _ _ _ _ J⟩)
 .exact .inr (.inr (.inl ⟨es,n,t,h1,hk _ _ _ _ _ h2⟩))
 .exact .inr (.inr (.inr (.inl ⟨h1,h2.mono fun d m nx h=>hk _ _ _ _ _ h⟩)))
 .exact .inr (.inr (.inr (.inr (.inl ⟨r,aU,rds,h1,h2,hk _ _ _ _ _ C⟩))))
 .exact .inr (.inr (.inr (.inr (.inr ⟨es,n,t,aU,rds,h1,h2,C,hk _ _ _ _ _ J⟩))))
class dC(Y:ej):Prop where
 mono:∀ l args m nx K K',(∀ d m nx,K d m nx->K' d m nx)->Y l args m nx K->Y l args m nx K'
instance:dC c8:=⟨fun _ _ _ _ _ _ _ h=>h⟩
instance{l:Nat}{xs:List (List D)}{I:Nat->Mem->Nat->Prop}{Stop:Mem->Nat->Prop}:dC (Vw l xs I Stop):=⟨fun _ _ _ _ _ _ hk ⟨h1,k,h2,C,J⟩=>⟨h1,k,h2,C,fun d m nx h=>hk _ _ _ (J d m nx h)⟩⟩
theorem ju.mono[dC Y]{ops:Array Oper}{dr:Bool}{o:Oper}{K K':St->List Nat->List Nat->Prop}(hk:∀ st rd wr,K st rd wr->K' st rd wr)(h:ju P Y ops dr o st K):ju P Y ops dr o st K':=by
 unfold ju at h ⊢;split at h
 .refine⟨h.1,?_⟩;have h:=h.2;split at h
  .exact h.mono fun _ _ _ _ _ h=>hk _ _ _ h
  .split at h
   .exact⟨h.1,dC.mono _ _ _ _ _ _ (fun _ _ _ h=>hk _ _ _ h) h.2⟩
   .split at h
    .exact⟨h.1,hk _ _ _ h.2⟩
    .exact h
 .split at h
  .exact h
  .split at h
   .rcases h with⟨r,h1,h2⟩|⟨h1,h2⟩
    .exact .inl ⟨r,h1,hk _ _ _ h2⟩
    .exact .inr ⟨fun hc=>⟨(h1 hc).1,(h1 hc).2.mono fun _ _ _ _ _ h=>hk _ _ _ h⟩,fun hc=>hk _ _ _ (h2 hc)⟩
   .split at h
    .exact⟨fun hc=>⟨(h.1 hc).1,(h.1 hc).2.1,dC.mono _ _ _ _ _ _ (fun _ _ _ h=>hk _ _ _ h) (h.1 hc).2.2⟩,fun hc=>hk _ _ _ (h.2 hc)⟩
    split at h
    .split at h
     .rename_i hc;rw[if_pos hc];exact⟨h.1,hk _ _ _ h.2⟩
     .rename_i hc;rw[if_neg hc];exact⟨fun hc=>⟨(h.1 hc).1,(h.1 hc).2.1,hk _ _ _ (h.1 hc).2.2⟩,fun hc=>hk _ _ _ (h.2 hc)⟩
    .exact⟨h.1,hk _ _ _ h.2⟩
theorem aq.mono[dC Y]{ops:Array Oper}{dr:Bool}{cf:List (Nat×Nat)}{Q C:Exit->St->Prop}(hq:∀ st,Q .normal st->C .normal st):∀ (l:List Oper) (st:St) (tr:kf),aq P Y ops dr cf Q l st tr->aq P Y ops dr cf C l st tr
 |[],st,tr,h=>⟨h.1,hq _ h.2⟩
 |o::l,st,tr,h=>h.elim (fun h=>.inl (ju.mono (fun st' rd wr h=>aq.mono hq l st' _ h) h)) fun⟨h1,h2,e,J,M⟩=>.inr ⟨h1,h2,e,J,aq.mono hq l _ _ M⟩
theorem uH:∀ (c:Code) {Y:ej} [dC Y] {rf:Bool} {Q C:Exit->St->Prop} {st:St},(∀ e st,Q e st->C e st)->AW P Y rf c Q st->AW P Y rf c C st:=by
 intro c
 induction c with
 |skip=>intro Y _ rf;exact fun hq h=>hq _ _ h
 |ret=>intro Y _ rf;exact fun hq h=>hq _ _ h
 |exit id=>intro Y _ rf;exact fun hq h=>hq _ _ h
 |region id ops draw=>
  intro Y _ rf Q C st hq h;cases draw with
  |false=>exact aq.mono (hq .normal) _ _ _ h
  |true=>
   simp only[AW] at h ⊢;split at h
   .exact h.elim (fun h=>.inl (aq.mono (hq .normal) _ _ _ h)) fun h=>.inr ⟨h.1,aq.mono (fun st hs=>⟨hs.1,aq.mono (hq .normal) _ _ _ hs.2⟩) _ _ _ h.2⟩
   .exact h
 |seq a b J M=>
  intro Y _ rf Q C st hq h;refine J (fun e st' h=>?_) h;cases e with
  |normal=>obtain⟨U,hg,hb⟩:=h;exact⟨U,hg,M hq hb⟩
  |_=>exact hq _ _ h
 |cond c a b J M=>
  intro Y _ rf Q C st hq h;refine⟨h.1,?_⟩;have h:=h.2;split at h
  .exact⟨fun ht=>J hq (h.1 ht),fun ht=>M hq (h.2 ht)⟩
  .exact⟨J hq h.1,M hq h.2⟩
  .exact h
 |block id b ih=>
  intro Y _ rf Q C st hq h;refine ih (fun e st' h=>?_) h;cases e with
  |exit i=>
   simp only[fE] at h ⊢;split at h
   .rename_i hi;rw[if_pos hi];exact hq _ _ h
   .rename_i hi;rw[if_neg hi];exact hq _ _ h
  |_=>exact hq _ _ h
 |scope b ih=>
  intro Y _ rf Q C st hq h;refine ih (fun e st' h=>?_) h;cases e with
  |goto l=>exact h
  |_=>exact hq _ _ h
 |loop b ih=>
  intro Y _ rf Q C st hq h;obtain⟨I,μ,h0,h1⟩:=h;refine⟨I,μ,h0,fun st' hi=>ih (fun e U h=>?_) (h1 st' hi)⟩;cases e with
  |normal=>exact h
  |_=>exact hq _ _ h
 |label l=>intro Y _ rf;exact fun hq h=>hq _ _ h
 |rangeFunc g ps assign body J M=>
  intro Y _ rf Q C st hq h;obtain⟨X,j4,f,fs,cs,xs,I,u7,zn,yZ,zL,uS,y3⟩:=h;refine⟨X,j4,f,fs,cs,xs,I,u7,zn,yZ,zL,fun k m nx x hx hI=>J (fun e s h=>?_) (uS k m nx x hx hI),fun m nx h=>hq _ _ (y3 m nx h)⟩;cases e with
  |normal=>
   refine M (fun e s h=>?_) h;cases e with
   |normal=>exact h
   |ret=>exact hq _ _ h
   |exit id=>exact hq _ _ h
   |_=>exact h
  |_=>exact h
 |_=>intro Y _ rf;exact fun _ h=>h.elim
theorem least{p:Nat->Prop}:∀ j,p j->∃ i,p i/\∀ k,p k->i<=k:=by
 intro j
 induction j using Nat.strongRecOn with
 |_ j ih=>
  intro hj;by_cases h:∃ k,k<j/\p k
  .obtain⟨k,hk,hp⟩:=h;exact ih k hk hp
  .exact⟨j,hj,fun k hk=>Nat.le_of_not_lt fun af=>h ⟨k,af,hk⟩⟩
open Classical in
theorem RN[dC Y]{b:Code}(J:Nat->St->Prop){j₀:Nat}(h0:J j₀ st)(h:∀ j st',J j st'->AW P Y rf b (fU (fun fS=>∃ U,aH P fS U/\∃ M,M<j/\J M U) Q) st'):AW P Y rf (.loop b) Q st:=by
 have C:∀ st,(∃ j,J j st)->∃ i,J i st/\∀ k,J k st->i<=k:=fun st ⟨j,hj⟩=>least j hj
 let μ:St->Nat:=fun st=>if h:∃ j,J j st then Classical.choose (C st h) else 0
 have hμ:∀ st,(hj:∃ j,J j st)->J (μ st) st/\∀ k,J k st->μ st<=k:=fun st hj=>by
  have:μ st=Classical.choose (C st hj):=by simp only[μ];rw[dif_pos hj]
  rw[this];exact Classical.choose_spec (C st hj)
 refine SU (fun st=>∃ j,J j st) μ ⟨j₀,h0⟩ fun st' hj=>uH b (fun e fS hq=>?_) (h (μ st') st' (hμ st' hj).1);cases e with
 |normal=>
  obtain⟨U,hg,M,af,X⟩:=hq;exact⟨U,hg,⟨M,X⟩,Nat.lt_of_le_of_lt ((hμ U ⟨M,X⟩).2 M X) af⟩
 |_=>exact hq
end
section
variable{P:Program}{F:Nat->Prop}{β:aE}{w:World}
theorem Tr.cB{c:Bool}{d:D}(h:Tr d):Tr (.cB c d):=fun F β w v hv=>by
 cases hv with
 |cB _ _ _ h1 h2=>exact .cB c d v (fun hc=>h F β w v (h1 hc)) h2
theorem Tr.agg{cs:List D}(h:∀ d∈cs,Tr d):Tr (.agg cs):=fun F β w v hv=>by
 obtain⟨vs,rfl,hl,hh⟩:=hv.s3;exact .agg cs vs hl fun k d u hd hu=>h d (bu hd) F β w u (hh k d u hd hu)
theorem Tr.aM{cs:List D}(h:∀ d∈cs,Tr d):Tr (.aM cs):=fun F β w v hv=>by
 obtain⟨vs,rfl,hl,hh⟩:=hv.DB;exact .aM cs vs hl fun k d u hd hu=>h d (bu hd) F β w u (hh k d u hd hu)
theorem Tr.sl{cs:List D}{n:Nat}(h:∀ d∈cs,Tr d):Tr (.sl cs n):=fun F β w v hv=>by
 cases hv with
 |gy a cap=>exact .gy a cap
 |sl _ _ b o cap us hf hb af pg dk hc hh=>
  exact .sl cs n b o cap us (fun e=>e.elim hf fun e=>e hb) (fun i p hp=>by cases hp) af pg dk hc fun k d hd=>h d (bu hd) F β w _ (hh k d hd)
theorem Tr.pt{cs:List D}(h:∀ d∈cs,Tr d):Tr (.pt cs):=fun F β w v hv=>by
 cases hv with
 |pt _ b o us hf hb af hc hh=>
  exact .pt cs b o us (fun e=>e.elim hf fun e=>e hb) (fun i p hp=>by cases hp) af hc fun k d hd=>h d (bu hd) F β w _ (hh k d hd)
theorem Tr.fn{f:Fn}{fs cs:List D}(h:∀ d∈fs,Tr d)(h':∀ d∈cs,Tr d):Tr (.fn f fs cs):=fun F β w v hv=>by
 cases hv with
 |fn _ _ _ us vs hl mP h1 h2=>
  exact .fn f fs cs us vs hl mP (fun k d u hd hu=>h d (bu hd) F β w u (h1 k d u hd hu)) fun k d u hd hu=>h' d (bu hd) F β w u (h2 k d u hd hu)
theorem Tr.im{es:List (Value×D)}(h:∀ x∈es,Tr x.2):Tr (.im es):=fun F β w v hv=>by
 cases hv with
 |im _ r ms clock hf hb hc hl eh hk hh=>
  exact .im es r ms clock (fun e=>e.elim hf fun e=>e hb) (fun i p hp=>by cases hp) hc hl eh hk fun k x m hx hm=>h x (bu hx) F β w _ (hh k x m hx hm)
theorem Tr.s(x:Value):Tr (.s x):=fun F β w v hv=>by
 obtain⟨rfl,h⟩:=hv.c6;exact .s _ h
theorem Tr.ub:Tr .ub:=fun F β w v hv=>by
 obtain⟨b,rfl⟩:=hv.Hq;exact .ub b
theorem Tr.u:Tr .u:=fun F β w v _=>.u v
theorem Tr.z:Tr .z:=fun F β w v hv=>by
 obtain⟨a,rfl⟩:=hv.u6;exact .z a
theorem Tr.nil:∀ a∈([]:List D),Tr a:=fun _ h=>by cases h
theorem Tr.cons{d:D}{l:List D}(h:Tr d)(hl:∀ a∈l,Tr a):∀ a∈d::l,Tr a:=fun a ha=>by
 cases ha with
 |head=>exact h
 |tail _ ha=>exact hl a ha
theorem Tr.map{α:Type}{f:α->D}{l:List α}(h:∀ x,Tr (f x)):∀ a∈l.map f,Tr a:=fun a ha=>by
 obtain⟨x,_,rfl⟩:=List.mem_map.1 ha;exact h x
theorem Tr.flat{α:Type}{f:α->List D}{l:List α}(h:∀ x,∀ a∈f x,Tr a):∀ a∈l.flatMap f,Tr a:=fun a ha=>by
 obtain⟨x,_,hx⟩:=List.mem_flatMap.1 ha;exact h x a hx
end
def ax:List (Nat×D)->Env
 |[],_=>.u
 |(t,d)::l,j=>if j=t then d else ax l j
def lN:List (Nat×D)->Env->Prop
 |[],_=>True
 |(t,d)::l,env=>env t=d/\lN l env
theorem qj:∀ {l:List (Nat×D)} {env:Env},lN l env->∀ t,ax l t=env t\/ax l t=.u
 |[],_,_,_=>.inr rfl
 |(k,d)::l,env,h,t=>by
  simp only[ax];by_cases ht:t=k
  .subst ht;rw[if_pos rfl];exact .inl h.1.symm
  .rw[if_neg ht];exact qj h.2 t
def fV(env:Env):List Operand->Prop
 |[]=>True
 |x::xs=>(opd env x).ask/\fV env xs
theorem RY{env:Env}:∀ {l:List Operand},fV env l->∀ x∈l,(opd env x).ask
 |[],_,x,h=>by cases h
 |y::l,h,x,hx=>by
  cases hx with
  |head=>exact h.1
  |tail _ hx=>exact RY h.2 x hx
theorem pF{env:Env}{o:Op}(h:fV env o.operands.toList):asks env o:=by
 have:=RY h;unfold asks;cases o<;>first|exact this|exact this _ cI
section
variable{P:Program}{Y:ej}{rf:Bool}
structure Ef(P:Program)(op:Op)(env:Env)(m:Mem)(nx:Nat)(e:dy):Prop where
 ok:bd P op (a6 env op) m nx=some e
 nc:dJ (a6 env op) op=none
 ny:lM (a6 env op) op=none
variable{ops:Array Oper}{dr:Bool}{cf:List (Nat×Nat)}{Q:Exit->St->Prop}{rest:List Oper}{env:Env}{m:Mem}{nx:Nat}{tr:kf}{t:Nat}{op:Op}{ty:TypeId}{pos:String}{after:Array Edge}
 {pre:Prop} {v:D} {rd:List Nat}
theorem yO{d:Option Nat}{e:dy}(he:Ef P op env m nx e)(ha:asks env op)(hp:e.pre)(K:aq P Y ops dr cf Q rest (St.put ⟨env,cK m e.aU,nx+e.new⟩ d e.val) (tr++[(e.rd,e.aU.map (·.1))])):
 aq P Y ops dr cf Q (⟨d,op,ty,pos,after,none⟩::rest) ⟨env,m,nx⟩ tr:=by
 simp only[aq];refine .inl ?_;simp only[ju];rw[he.nc,he.ny,he.ok];exact⟨ha,hp,K⟩
theorem av(he:Ef P op env m nx ⟨pre,v,[],rd,0⟩)(ha:fV env op.operands.toList)(hp:pre)(K:aq P Y ops dr cf Q rest ⟨up env t v,m,nx⟩ (tr++[(rd,[])])):
 aq P Y ops dr cf Q (⟨some t,op,ty,pos,after,none⟩::rest) ⟨env,m,nx⟩ tr:=yO he (pF ha) hp K
theorem A7{c a b:Operand}{g:Bool}(hc:(opd env c).core=.s (.bool g)):Ef P (.pick c a b) env m nx ⟨(g=true->(opd env a).ask/\(opd env a).core.fi.isSome=true)/\(g=false->(opd env b).ask/\(opd env b).core.fi.isSome=true),
 .s (.bool (if g then(opd env a).core.fi.getD false else(opd env b).core.fi.getD false)),[],[],0⟩:=⟨by simp only[bd,a6,hc,D.fi],rfl,rfl⟩
theorem Lg{c a b:Operand}{g x y:Bool}(hc:opd env c=.s (.bool g))(ha:(opd env a).core=.s (.bool x))(hb:(opd env b).core=.s (.bool y))(h1:g=true->(opd env a).ask)(h2:g=false->(opd env b).ask)
 (K:aq P Y ops dr cf Q rest ⟨up env t (.s (.bool (if g then x else y))),m,nx⟩ (tr++[([],[])])):
 aq P Y ops dr cf Q (⟨some t,.pick c a b,ty,pos,after,none⟩::rest) ⟨env,m,nx⟩ tr:=by
 refine yO (A7 (g:=g) (by rw[hc];rfl)) (by simp only[asks,hc,D.ask]) ⟨fun h=>⟨h1 h,by rw[ha];rfl⟩,fun h=>⟨h2 h,by rw[hb];rfl⟩⟩ ?_;simp only[ha,hb,D.fi,Option.getD_some];exact K
theorem KL{c a b:Operand}{x:Bool}(hc:opd env c=.s (.bool true))(ha:(opd env a).core=.s (.bool x))(h1:(opd env a).ask)
 (K:aq P Y ops dr cf Q rest ⟨up env t (.s (.bool x)),m,nx⟩ (tr++[([],[])])):
 aq P Y ops dr cf Q (⟨some t,.pick c a b,ty,pos,after,none⟩::rest) ⟨env,m,nx⟩ tr:=by
 refine yO (A7 (g:=true) (by rw[hc];rfl)) (by simp only[asks,hc,D.ask]) ⟨fun _=>⟨h1,by rw[ha];rfl⟩,fun h=>by cases h⟩ ?_;simp only[ha,D.fi,Option.getD_some,if_true];exact K
theorem KM{c a b:Operand}{y:Bool}(hc:opd env c=.s (.bool false))(hb:(opd env b).core=.s (.bool y))(h2:(opd env b).ask)
 (K:aq P Y ops dr cf Q rest ⟨up env t (.s (.bool y)),m,nx⟩ (tr++[([],[])])):
 aq P Y ops dr cf Q (⟨some t,.pick c a b,ty,pos,after,none⟩::rest) ⟨env,m,nx⟩ tr:=by
 refine yO (A7 (g:=false) (by rw[hc];rfl)) (by simp only[asks,hc,D.ask]) ⟨fun h=>oH,fun _=>⟨h2,by rw[hb];rfl⟩⟩ ?_;simp only[hb,D.fi,Option.getD_some,Bool.false_eq_true,if_false];exact K
theorem bQ{i:Nat}{row:Option Row}(he:Ef P op env m nx ⟨pre,v,[(i,row)],rd,0⟩)(ha:fV env op.operands.toList)(hp:pre)(K:aq P Y ops dr cf Q rest ⟨env,up m i row,nx⟩ (tr++[(rd,[i])])):
 aq P Y ops dr cf Q (⟨none,op,ty,pos,after,none⟩::rest) ⟨env,m,nx⟩ tr:=yO he (pF ha) hp K
theorem eM{row:Row}(he:Ef P op env m nx ⟨pre,v,[(nx,some row)],rd,1⟩)(ha:fV env op.operands.toList)(hp:pre)(K:aq P Y ops dr cf Q rest ⟨up env t v,up m nx (some row),nx+1⟩ (tr++[(rd,[nx])])):
 aq P Y ops dr cf Q (⟨some t,op,ty,pos,after,none⟩::rest) ⟨env,m,nx⟩ tr:=yO he (pF ha) hp K
theorem jI{i:Nat}{row:Row}(he:Ef P op env m nx ⟨pre,v,[(i,none),(nx,some row)],rd,1⟩)(ha:fV env op.operands.toList)(hp:pre)(K:aq P Y ops dr cf Q rest ⟨up env t v,up (up m i none) nx (some row),nx+1⟩ (tr++[(rd,[i,nx])])):
 aq P Y ops dr cf Q (⟨some t,op,ty,pos,after,none⟩::rest) ⟨env,m,nx⟩ tr:=yO he (pF ha) hp K
theorem bc{j:Nat}{b c:Bool}{u:Nat}(hj:(ops[j]?).bind (·.dst)=some u)(hg:kz (env u) b=some c)(he:Ef P op env m nx ⟨pre,v,[],rd,0⟩)(ha:c=true->fV env op.operands.toList/\pre)
 (K:aq P Y ops dr cf Q rest ⟨up env t (.cB c v),m,nx⟩ (tr++[(rd,[])])):aq P Y ops dr cf Q (⟨some t,op,ty,pos,after,some (j,b)⟩::rest) ⟨env,m,nx⟩ tr:=by
 simp only[aq];refine .inl ?_;simp only[ju];rw[hj];simp only[Option.bind_some];rw[hg,he.nc,he.ny,he.ok];exact⟨fun hc=>⟨pF (ha hc).1,(ha hc).2⟩,K⟩
theorem Dw{j:Nat}{b0 C:Bool}{u:Nat}(hj:(ops[j]?).bind (·.dst)=some u)(hg:kz (env u) b0=some C){c a b:Operand}{g x y:Bool}(hc:(opd env c).core=.s (.bool g))(ha:(opd env a).core=.s (.bool x))(hb:(opd env b).core=.s (.bool y))
 (h0:C=true->(opd env c).ask) (h1:C=true->g=true->(opd env a).ask) (h2:C=true->g=false->(opd env b).ask)
 (K:aq P Y ops dr cf Q rest ⟨up env t (.cB C (.s (.bool (if g then x else y)))),m,nx⟩ (tr++[([],[])])):
 aq P Y ops dr cf Q (⟨some t,.pick c a b,ty,pos,after,some (j,b0)⟩::rest) ⟨env,m,nx⟩ tr:=by
 have he:=A7 (P:=P) (env:=env) (m:=m) (nx:=nx) (a:=a) (b:=b) hc;simp only[ha,hb,D.fi,Option.getD_some,Option.isSome_some,and_true] at he;simp only[aq];refine .inl ?_;simp only[ju];rw[hj];simp only[Option.bind_some];rw[hg,he.nc,he.ny,he.ok];exact⟨fun hc=>⟨by simp only[asks];exact h0 hc,h1 hc,h2 hc⟩,K⟩
theorem af5{j:Nat}{b:Bool}{u:Nat}{d:Option Nat}{e:dy}(hj:(ops[j]?).bind (·.dst)=some u)(hg:kz (env u) b=some true)(he:Ef P op env m nx e)(ha:fV env op.operands.toList)(hp:e.pre)
 (K:e.aU=[]->e.new=0->aq P Y ops dr cf Q rest (St.put ⟨env,m,nx⟩ d (.cB true e.val)) (tr++[(e.rd,[])]))
 (K':aq P Y ops dr cf Q rest (St.put ⟨env,cK m e.aU,nx+e.new⟩ d e.val) (tr++[(e.rd,e.aU.map (·.1))])):aq P Y ops dr cf Q (⟨d,op,ty,pos,after,some (j,b)⟩::rest) ⟨env,m,nx⟩ tr:=by
 simp only[aq];refine .inl ?_;simp only[ju];rw[hj];simp only[Option.bind_some];rw[hg,he.nc,he.ny,he.ok];simp only;split
 .rename_i h;simp only[aW,List.isEmpty_iff,beq_iff_eq] at h;exact⟨fun _=>⟨pF ha,hp⟩,K h.1 h.2⟩
 .exact⟨fun _=>⟨pF ha,hp,K'⟩,oS⟩
theorem UI{j:Nat}{b:Bool}{u:Nat}{d:Option Nat}(hj:(ops[j]?).bind (·.dst)=some u)(hg:kz (env u) b=some false)
 (K:∀ (x:D) rd,aq P Y ops dr cf Q rest (St.put ⟨env,m,nx⟩ d (.cB false x)) (tr++[(rd,[])])):aq P Y ops dr cf Q (⟨d,op,ty,pos,after,some (j,b)⟩::rest) ⟨env,m,nx⟩ tr:=by
 simp only[aq];refine .inl ?_;simp only[ju];rw[hj];simp only[Option.bind_some];rw[hg];simp only;split
 .exact .inr ⟨oS,fun _=>K .u []⟩
 .split
  .exact⟨oS,fun _=>K .u []⟩
  .split
   .split
    .exact⟨oS,K _ _⟩
    .exact⟨oS,fun _=>K .u []⟩
   .exact⟨trivial,K .u []⟩
theorem jC{j:Nat}{b:Bool}{u t:Nat}(hj:(ops[j]?).bind (·.dst)=some u)(hg:kz (env u) b=some false)
 (K:∀ (x:D) rd,aq P Y ops dr cf Q rest ⟨up env t (.cB false x),m,nx⟩ (tr++[(rd,[])])):aq P Y ops dr cf Q (⟨some t,op,ty,pos,after,some (j,b)⟩::rest) ⟨env,m,nx⟩ tr:=UI hj hg K
theorem GI{f:FuncId}{args:List D}{d:Option Nat}(hc:dJ (a6 env op) op=some (f,args))(ha:fV env op.operands.toList)(h:tq P dr ⟨env,m,nx⟩ f args fun r m nx rd wr=>aq P Y ops dr cf Q rest (St.put ⟨env,m,nx⟩ d r) (tr++[(rd,wr)])):
 aq P Y ops dr cf Q (⟨d,op,ty,pos,after,none⟩::rest) ⟨env,m,nx⟩ tr:=by
 simp only[aq];refine .inl ?_;simp only[ju];rw[hc];exact⟨pF ha,h⟩
theorem r6{f:FuncId}{args:List D}{r:D}(h:aB P f args r)(hc:dJ (a6 env op) op=some (f,args))(ha:fV env op.operands.toList)(K:aq P Y ops dr cf Q rest ⟨up env t r,m,nx⟩ (tr++[([],[])])):
 aq P Y ops dr cf Q (⟨some t,op,ty,pos,after,none⟩::rest) ⟨env,m,nx⟩ tr:=GI hc ha (.inl ⟨r,h,K⟩)
theorem Mm{f:FuncId}{args es:List D}{n:Nat}{C:TypeId}(h:kW P f args es n C)(hc:dJ (a6 env op) op=some (f,args))(ha:fV env op.operands.toList)(K:aq P Y ops dr cf Q rest ⟨up env t (.rs nx 0 n),up m nx (some (.cells es C)),nx+1⟩ (tr++[([],[nx])])):
 aq P Y ops dr cf Q (⟨some t,op,ty,pos,after,none⟩::rest) ⟨env,m,nx⟩ tr:=GI hc ha (.inr (.inr (.inl ⟨es,n,C,h,K⟩)))
theorem gI{f:FuncId}{args:List D}{d:Option Nat}{eg:D->Mem->Nat->Prop}(h:fP P f args m nx eg)(hc:dJ (a6 env op) op=some (f,args))(ha:fV env op.operands.toList)
 (K:∀ r m' C,eg r m' C->aq P Y ops false cf Q rest (St.put ⟨env,m',C⟩ d r) (tr++[([],[])])):
 aq P Y ops false cf Q (⟨d,op,ty,pos,after,none⟩::rest) ⟨env,m,nx⟩ tr:=GI hc ha (.inr (.inr (.inr (.inl ⟨rfl,h.mono K⟩))))
theorem UJ{f:FuncId}{args C:List D}{r:D}{rds:List Nat}(h:aB P f C r)(hs:r.gK=true)(J:jK P rds m args C)(hc:dJ (a6 env op) op=some (f,args))(ha:fV env op.operands.toList)
 (K:aq P Y ops dr cf Q rest ⟨up env t r,m,nx⟩ (tr++[(rds,[])])):aq P Y ops dr cf Q (⟨some t,op,ty,pos,after,none⟩::rest) ⟨env,m,nx⟩ tr:=GI hc ha (.inr (.inl ⟨C,rds,r,J,h,hs,K⟩))
theorem pL{j:Nat}{b c:Bool}{u:Nat}{f:FuncId}{args:List D}{r:D}(hj:(ops[j]?).bind (·.dst)=some u)(hg:kz (env u) b=some c)(hc:dJ (a6 env op) op=some (f,args))(h:c=true->fV env op.operands.toList/\aB P f args r)
 (K:aq P Y ops dr cf Q rest ⟨up env t (.cB c r),m,nx⟩ (tr++[([],[])])):aq P Y ops dr cf Q (⟨some t,op,ty,pos,after,some (j,b)⟩::rest) ⟨env,m,nx⟩ tr:=by
 simp only[aq];refine .inl ?_;simp only[ju];rw[hj];simp only[Option.bind_some];rw[hg,hc];exact .inl ⟨r,fun C=>⟨pF (h C).1,(h C).2⟩,K⟩
theorem acs{j:Nat}{b:Bool}{u:Nat}{d:Option Nat}{f:FuncId}{args:List D}(hj:(ops[j]?).bind (·.dst)=some u)(hg:kz (env u) b=some true)(hc:dJ (a6 env op) op=some (f,args))(ha:fV env op.operands.toList)
 (h:tq P dr ⟨env,m,nx⟩ f args fun r m nx rd wr=>aq P Y ops dr cf Q rest (St.put ⟨env,m,nx⟩ d r) (tr++[(rd,wr)])):aq P Y ops dr cf Q (⟨d,op,ty,pos,after,some (j,b)⟩::rest) ⟨env,m,nx⟩ tr:=by
 simp only[aq];refine .inl ?_;simp only[ju];rw[hj];simp only[Option.bind_some];rw[hg,hc];exact .inr ⟨fun _=>⟨pF ha,h⟩,oS⟩
theorem M8{l:Nat}{args:List D}{d:Option Nat}(hc:dJ (a6 env op) op=none)(hy:lM (a6 env op) op=some (l,args))(ha:fV env op.operands.toList)(h:Y l args m nx fun r m' C=>aq P Y ops false cf Q rest (St.put ⟨env,m',C⟩ d r) (tr++[([],[])])):
 aq P Y ops false cf Q (⟨d,op,ty,pos,after,none⟩::rest) ⟨env,m,nx⟩ tr:=by
 simp only[aq];refine .inl ?_;simp only[ju];rw[hc,hy];exact⟨pF ha,trivial,h⟩
theorem Mn{j:Nat}{b:Bool}{u:Nat}{l:Nat}{args:List D}{d:Option Nat}(hj:(ops[j]?).bind (·.dst)=some u)(hg:kz (env u) b=some true)(hc:dJ (a6 env op) op=none)(hy:lM (a6 env op) op=some (l,args))(ha:fV env op.operands.toList)
 (h:Y l args m nx fun r m' C=>aq P Y ops false cf Q rest (St.put ⟨env,m',C⟩ d r) (tr++[([],[])])):aq P Y ops false cf Q (⟨d,op,ty,pos,after,some (j,b)⟩::rest) ⟨env,m,nx⟩ tr:=by
 simp only[aq];refine .inl ?_;simp only[ju];rw[hj];simp only[Option.bind_some];rw[hg,hc,hy];exact⟨fun _=>⟨pF ha,trivial,h⟩,oS⟩
def eZ(K:St->Prop):Exit->St->Prop
 | .normal,st=>K st
 |_,_=>True
theorem aa{K:St->Prop}{st:St}(h:K st):aq P Y ops dr [] (eZ K) [] st tr:=⟨oS,h⟩
theorem cq{K:St->Prop}{st:St}(hc:∀ q∈cf,qo tr q.1 q.2)(h:K st):aq P Y ops dr cf (eZ K) [] st tr:=⟨hc,h⟩
variable{st:St}{a b c:Code}
theorem aq.jn{cf:List (Nat×Nat)}{K:St->Prop}{Q:Exit->St->Prop}[dC Y]{l:List Oper}(h:aq P Y ops dr cf (eZ K) l st tr)(hk:∀ st,K st->Q .normal st):aq P Y ops dr cf Q l st tr:=
 aq.mono (Q:=eZ K) (fun st h=>hk st h) l st tr h
theorem lF[dC Y]{id:Nat}(h:aq P Y ops false [] (eZ fun st=>Q .normal st) ops.toList st []):AW P Y rf (.region id ops false) Q st:=aq.jn h fun _ h=>h
theorem Bm[dC Y]{id:Nat}(hi:bT ops=some cf)(h:aq P Y ops true cf (eZ fun st=>Q .normal st) ops.toList st []):AW P Y rf (.region id ops true) Q st:=by
 show match bT ops with
  |some cf=>DW P Y ops cf Q st
  |none=>False
 rw[hi];exact .inl (aq.jn h fun _ h=>h)
theorem Lh[dC Y]{id:Nat}(hi:bT ops=some cf)(hl:Eh ops=true)(h:aq P c8 ops true cf (eZ fun st=>aq P c8 ops false [] (eZ fun st=>Q .normal st) (ops.toList.drop (ops.size - 1)) st []) (ops.toList.take (ops.size - 1)) st []):AW P Y rf (.region id ops true) Q st:=by
 show match bT ops with
  |some cf=>DW P Y ops cf Q st
  |none=>False
 rw[hi];exact .inr ⟨hl,aq.jn h fun _ h=>⟨rfl,aq.jn h fun _ h=>h⟩⟩
theorem Yz[dC Y]{id:Nat}(hi:bT ops=some cf)(hl:Eh ops=true)(h:aq P c8 ops true cf (eZ fun st=>aq P c8 ops false [] (eZ fun st=>∃ st',aH P st st'/\AW P Y rf b Q st') (ops.toList.drop (ops.size - 1)) st []) (ops.toList.take (ops.size - 1)) st []):AW P Y rf (.seq (.region id ops true) b) Q st:=
 Lh (rf:=rf) (id:=id) hi hl (aq.jn h fun _ h=>aq.jn h fun st h=>h)
theorem ag[dC Y]{id:Nat}(h:aq P Y ops false [] (eZ fun st=>AW P Y rf b Q st) ops.toList st []):AW P Y rf (.seq (.region id ops false) b) Q st:=
 lF (rf:=rf) (id:=id) (aq.jn h fun st h=>⟨st,.refl st,h⟩)
theorem dV[dC Y]{id:Nat}(hi:bT ops=some cf)(h:aq P Y ops true cf (eZ fun st=>AW P Y rf b Q st) ops.toList st []):AW P Y rf (.seq (.region id ops true) b) Q st:=
 Bm (rf:=rf) (id:=id) hi (aq.jn h fun st h=>⟨st,.refl st,h⟩)
theorem bH{st':St}(hg:aH P st st')(h:AW P Y rf b Q st'):∃ C,aH P st C/\AW P Y rf b Q C:=⟨st',hg,h⟩
theorem aw[dC Y]{id:Nat}(h:aq P Y ops false [] (eZ fun st=>∃ st',aH P st st'/\AW P Y rf b Q st') ops.toList st []):AW P Y rf (.seq (.region id ops false) b) Q st:=
 lF (rf:=rf) (id:=id) (aq.jn h fun _ h=>h)
theorem CV[dC Y]{id:Nat}(hi:bT ops=some cf)(h:aq P Y ops true cf (eZ fun st=>∃ st',aH P st st'/\AW P Y rf b Q st') ops.toList st []):AW P Y rf (.seq (.region id ops true) b) Q st:=
 Bm (rf:=rf) (id:=id) hi (aq.jn h fun _ h=>h)
theorem UA[dC Y](J:St->Prop)(h:AW P Y rf a (fU J Q) st)(k:∀ st,J st->AW P Y rf b Q st):AW P Y rf (.seq a b) Q st:=
 uH a (fun e st h=>by
  cases e with
  |normal=>exact⟨st,.refl st,k st h⟩
  |_=>exact h) h
theorem jf[dC Y](J:St->Prop)(h:AW P Y rf a (fU J Q) st)(k:∀ st,J st->∃ st',aH P st st'/\AW P Y rf b Q st'):AW P Y rf (.seq a b) Q st:=
 uH a (fun e st h=>by
  cases e with
  |normal=>exact k st h
  |_=>exact h) h
theorem cm[dC Y](h:AW P Y rf b Q st):AW P Y rf (.seq .skip b) Q st:=⟨st,.refl st,h⟩
theorem dG(h:Q .ret st):AW P Y rf (.seq .ret b) Q st:=h
theorem uv{id:Nat}(h:Q (.exit id) st):AW P Y rf (.seq (.exit id) b) Q st:=h
theorem Y8{l:Nat}(h:AW P Y rf b Q st):AW P Y rf (.seq (.label l) b) Q st:=⟨st,.refl st,h⟩
theorem az[dC Y](h:AW P Y rf (.seq a (.seq b c)) Q st):AW P Y rf (.seq (.seq a b) c) Q st:=by
 refine uH a (fun e st h=>?_) h;cases e with
 |normal=>
  obtain⟨st',hg,h⟩:=h;refine⟨st',hg,uH b (fun e st h=>?_) h⟩;cases e<;>exact h
 |_=>exact h
theorem aQ{c:Operand}{x y:Code}{g:Bool}(hc:opd st.env c=.s (.bool g))(ht:g=true->AW P Y rf x Q st)(hf:g=false->AW P Y rf y Q st):AW P Y rf (.cond c x y) Q st:=by
 rw[SR];rw[hc];exact⟨trivial,ht,hf⟩
theorem cA{c:Operand}{x y:Code}{g:Bool}(hc:opd st.env c=.s (.bool g))(ht:g=true->AW P Y rf (.seq x b) Q st)(hf:g=false->AW P Y rf (.seq y b) Q st):AW P Y rf (.seq (.cond c x y) b) Q st:=aQ hc ht hf
theorem Tb{c:Operand}{x y:Code}(hc:opd st.env c=.ub)(ht:AW P Y rf x Q st)(hf:AW P Y rf y Q st):AW P Y rf (.cond c x y) Q st:=by
 rw[SR];rw[hc];exact⟨trivial,ht,hf⟩
theorem qk{id:Nat}(h:AW P Y rf b (fE id Q) st):AW P Y rf (.block id b) Q st:=h
theorem ad2[dC Y]{α:Type}(S:α->St)(J:α->Prop)(μ:α->Nat)(U:α)(h0:st=S U)(hJ:J U)(h:∀ x,J x->AW P Y rf b (fU (fun st'=>∃ M C,aH P st' M/\M=S C/\J C/\μ C<μ x) Q) (S x)):AW P Y rf (.loop b) Q st:=by
 refine RN (fun j st=>∃ x,st=S x/\J x/\μ x=j) (j₀:=μ U) ⟨U,h0,hJ,rfl⟩ ?_;rintro j st ⟨x,rfl,hx,rfl⟩;refine uH b (fun e st' hq=>?_) (h x hx);cases e with
 |normal=>
  obtain⟨M,C,h1,h2,X,h4⟩:=hq;exact⟨M,h1,μ C,h4,C,h2,X,rfl⟩
 |_=>exact hq
end
theorem H'{P:Program}{Y:ej}{rf:Bool}{Q:Exit->St->Prop}{st:St}{c:Operand}{x y:Code}(K:AW P Y rf y Q st)(h:opd st.env c=.s (.bool false):=by exact rfl):AW P Y rf (.cond c x y) Q st:=aQ h (fun h=>by cases h) fun _=>K
theorem UK{P:Program}{Y:ej}{rf:Bool}{Q:Exit->St->Prop}{st:St}{c:Operand}{x y:Code}(K:AW P Y rf x Q st)(h:opd st.env c=.s (.bool true):=by exact rfl):AW P Y rf (.cond c x y) Q st:=aQ h (fun _=>K) fun h=>by cases h
theorem tD{P:Program}{Y:ej}{rf:Bool}{Q:Exit->St->Prop}{st:St}{c:Operand}{x y b:Code}(K:AW P Y rf (.seq y b) Q st)(h:opd st.env c=.s (.bool false):=by exact rfl):AW P Y rf (.seq (.cond c x y) b) Q st:=aQ h (fun h=>by cases h) fun _=>K
theorem wX{P:Program}{Y:ej}{rf:Bool}{Q:Exit->St->Prop}{st:St}{c:Operand}{x y b:Code}(K:AW P Y rf (.seq x b) Q st)(h:opd st.env c=.s (.bool true):=by exact rfl):AW P Y rf (.seq (.cond c x y) b) Q st:=aQ h (fun _=>K) fun h=>by cases h
section
variable{P:Program}{env:Env}{m:Mem}{nx:Nat}{t:TypeId}{x y a:Operand}{d v:D}{k:IntKind}{n n':Int}{p q:TypeId}
theorem cY(hx:(opd env x).core=v):Ef P (.move x) env m nx ⟨True,v,[],[],0⟩:=⟨by simp only[bd,a6,hx],rfl,rfl⟩
theorem jS(hx:(opd env x).core=v):Ef P (.assign x) env m nx ⟨True,v,[],[],0⟩:=⟨by simp only[bd,a6,hx],rfl,rfl⟩
theorem TN(op:BinOp)(v:Value)(y:Operand):ns P m op t (.s v) y=none:=by
 unfold ns;split<;>first|rfl|(rename_i h;cases h)
theorem ae0{op:BinOp}{v w:Value}(h:∀ a b,v=.bool a->w=.bool b->False):vw P op t (.s v) (.s w)=(sf op v w).map fun r=>(r.1,.s r.2):=by
 cases v<;>cases w<;>first|rfl|exact(h _ _ rfl rfl).elim
theorem mC{op:BinOp}{v w u:Value}{pre:Prop}(hx:(opd env x).core=.s v)(hy:(opd env y).core=.s w)(hn:∀ a b,v=.bool a->w=.bool b->False)(hb:sf op v w=some (pre,u)):Ef P (.binOp op t x y p) env m nx ⟨pre,.s u,[],[],0⟩:=
 ⟨by simp only[bd,a6,hx,hy,TN,ae0 hn,hb,Option.map_some],rfl,rfl⟩
section ints
variable(hx:(opd env x).core=.s (.int k n))(hy:(opd env y).core=.s (.int k n'))
include hx hy
theorem H2:Ef P (.binOp .lss t x y p) env m nx ⟨k=k,.s (.bool (decide (n<n'))),[],[],0⟩:=mC hx hy oS rfl
theorem Ei:Ef P (.binOp .leq t x y p) env m nx ⟨k=k,.s (.bool (decide (n<=n'))),[],[],0⟩:=mC hx hy oS rfl
theorem H3:Ef P (.binOp .gtr t x y p) env m nx ⟨k=k,.s (.bool (decide (n'<n))),[],[],0⟩:=mC hx hy oS rfl
theorem Ej:Ef P (.binOp .geq t x y p) env m nx ⟨k=k,.s (.bool (decide (n'<=n))),[],[],0⟩:=mC hx hy oS rfl
theorem H4:Ef P (.binOp .eql t x y p) env m nx ⟨k=k,.s (.bool (n==n')),[],[],0⟩:=mC hx hy oS rfl
theorem Mc:Ef P (.binOp .neq t x y p) env m nx ⟨k=k,.s (.bool (n !=n')),[],[],0⟩:=mC hx hy oS rfl
theorem ae1:Ef P (.binOp .add t x y p) env m nx ⟨k=k,.s (.int k (k.wrap (n+n'))),[],[],0⟩:=mC hx hy oS rfl
theorem ae2:Ef P (.binOp .sub t x y p) env m nx ⟨k=k,.s (.int k (k.wrap (n - n'))),[],[],0⟩:=mC hx hy oS rfl
theorem ae3:Ef P (.binOp .quo t x y p) env m nx ⟨k=k/\n'≠0,.s (.int k (k.wrap (n.tdiv n'))),[],[],0⟩:=mC hx hy oS rfl
theorem afP:Ef P (.binOp .rem t x y p) env m nx ⟨k=k/\n'≠0,.s (.int k (n.tmod n')),[],[],0⟩:=mC hx hy oS rfl
theorem Uv:Ef P (.binOp .and t x y p) env m nx ⟨k=k,.s (.int k (mj .and k n n')),[],[],0⟩:=mC hx hy oS rfl
theorem ai2:Ef P (.binOp .or t x y p) env m nx ⟨k=k,.s (.int k (mj .or k n n')),[],[],0⟩:=mC hx hy oS rfl
end ints
theorem afQ{k':IntKind}(hx:(opd env x).core=.s (.int k n))(hy:(opd env y).core=.s (.int k' n')):Ef P (.binOp .shl t x y p) env m nx ⟨0<=n',.s (.int k (k.wrap (n*2 ^ (min n'.toNat k.bits)))),[],[],0⟩:=mC hx hy oS rfl
theorem afR{k':IntKind}(hx:(opd env x).core=.s (.int k n))(hy:(opd env y).core=.s (.int k' n')):Ef P (.binOp .shr t x y p) env m nx ⟨0<=n',.s (.int k (n.fdiv (2 ^ (min n'.toNat k.bits)))),[],[],0⟩:=mC hx hy oS rfl
theorem i64_in(n:Int)(h: -9223372036854775808<=n/\n<=9223372036854775807):IntKind.i64.wrap n=n:=Go.IntWalk.i64_in n h
theorem H5(hx:(opd env x).core=.s (.int .i64 n))(hy:(opd env y).core=.s (.int .i64 n'))(hb: -9223372036854775808<=n+n'/\n+n'<=9223372036854775807):Ef P (.binOp .add t x y p) env m nx ⟨IntKind.i64=IntKind.i64,.s (.int .i64 (n+n')),[],[],0⟩:=by
 have:=ae1 (P:=P) (m:=m) (nx:=nx) (t:=t) (p:=p) hx hy
 rwa[i64_in _ hb] at this
theorem Md(hx:(opd env x).core=.s (.int .i64 n))(hy:(opd env y).core=.s (.int .i64 n'))(hb: -9223372036854775808<=n - n'/\n - n'<=9223372036854775807):Ef P (.binOp .sub t x y p) env m nx ⟨IntKind.i64=IntKind.i64,.s (.int .i64 (n - n')),[],[],0⟩:=by
 have:=ae2 (P:=P) (m:=m) (nx:=nx) (t:=t) (p:=p) hx hy
 rwa[i64_in _ hb] at this
section strings
variable{s s':ByteArray}(hx:(opd env x).core=.s (.string s))(hy:(opd env y).core=.s (.string s'))
include hx hy
theorem Hr:Ef P (.binOp .eql t x y p) env m nx ⟨True,.s (.bool (s.toList==s'.toList)),[],[],0⟩:=mC hx hy oS rfl
theorem TO:Ef P (.binOp .neq t x y p) env m nx ⟨True,.s (.bool !(s.toList==s'.toList)),[],[],0⟩:=mC hx hy oS rfl
theorem TP:Ef P (.binOp .geq t x y p) env m nx ⟨True,.s (.bool !(Op.bytesLess s.toList s'.toList)),[],[],0⟩:=mC hx hy oS rfl
end strings
theorem ae4{b C:Bool}(hx:(opd env x).core=.s (.bool b))(hy:(opd env y).core=.s (.bool C)):Ef P (.binOp .neq t x y p) env m nx ⟨tV P t=true,.s (.bool !(b==C)),[],[],0⟩:=
 ⟨by simp only[bd,a6,hx,hy,TN,vw,Option.map_some],rfl,rfl⟩
theorem Uw{b:Bool}(hx:(opd env x).core=.s (.bool b)):Ef P (.unOp .not t x) env m nx ⟨True,.s (.bool !b),[],[],0⟩:=⟨by simp only[bd,a6,hx,zP,Option.map_some],rfl,rfl⟩
theorem GB{z:List D}(hz:a8 P t=z):Ef P (.alloc t) env m nx ⟨aI P t=true,.rp nx 0,[(nx,some (.cells z t))],[],1⟩:=⟨by simp only[bd,hz],rfl,rfl⟩
theorem Ux{cs:List D}(hx:(opd env x).core=d)(hc:d.cells=cs):Ef P (.box t x) env m nx ⟨cs.all D.one=true,.rp nx 0,[(nx,some (.cells cs t))],[],1⟩:=⟨by simp only[bd,a6,hx,hc],rfl,rfl⟩
theorem Hs(hx:(opd env x).core=d)(hc:d.cells=[d]):Ef P (.box t x) env m nx ⟨[d].all D.one=true,.rp nx 0,[(nx,some (.cells [d] t))],[],1⟩:=Ux hx hc
theorem tu{cs:List D}(hx:(opd env x).core=.agg cs):Ef P (.box t x) env m nx ⟨cs.all D.one=true,.rp nx 0,[(nx,some (.cells cs t))],[],1⟩:=Ux hx rfl
theorem TQ{cs:List D}(hx:(opd env x).core=.pt (v::cs))(ha:bq P t=false):Ef P (.load t x) env m nx ⟨aI P t=true/\P.cellsOf t<=(v::cs).length,v,[],[],0⟩:=⟨by simp[bd,a6,hx,hD,ha],rfl,rfl⟩
theorem lI{cs vs:List D}{n:Nat}(hx:(opd env x).core=.pt cs)(ha:bq P t=true)(hc:P.cellsOf t=n)(hv:cs.take n=vs):Ef P (.load t x) env m nx ⟨aI P t=true/\P.cellsOf t<=cs.length,.agg vs,[],[],0⟩:=⟨by simp[bd,a6,hx,hD,ha,hc,hv],rfl,rfl⟩
theorem kM{i off:Nat}{cs cs':List D}{e:TypeId}(hx:(opd env x).core=.rp i off)(hm:m i=some (.cells cs e))(hd:cs.drop off=v::cs')(ha:bq P t=false):Ef P (.load t x) env m nx ⟨aI P t=true/\off+P.cellsOf t<=cs.length,v,[],[i],0⟩:=⟨by simp[bd,a6,hx,hm,hD,ha,hd],rfl,rfl⟩
theorem fz{i off:Nat}{cs vs:List D}{e:TypeId}{n:Nat}(hx:(opd env x).core=.rp i off)(hm:m i=some (.cells cs e))(ha:bq P t=true)(hc:P.cellsOf t=n)(hv:(cs.drop off).take n=vs):Ef P (.load t x) env m nx ⟨aI P t=true/\off+P.cellsOf t<=cs.length,.agg vs,[],[i],0⟩:=⟨by simp[bd,a6,hx,hm,hD,ha,hc,hv],rfl,rfl⟩
theorem SL{i off:Nat}{cs cs' vs:List D}{e:TypeId}(hx:(opd env x).core=.rp i off)(hy:(opd env y).core=d)(hm:m i=some (.cells cs e))(hv:d.cells=vs)(hs:gW cs off vs=cs'):
 Ef P (.store t x y) env m nx ⟨aI P t=true/\vs.length=P.cellsOf t/\off+P.cellsOf t<=cs.length/\vs.all D.one=true,.aM [],[(i,some (.cells cs' e))],[i],0⟩:=⟨by simp only[bd,a6,hx,hy,hm,hv,hs],rfl,rfl⟩
theorem eR{i off:Nat}{cs cs':List D}{e:TypeId}(hx:(opd env x).core=.rp i off)(hy:(opd env y).core=d)(hm:m i=some (.cells cs e))(hv:d.cells=[d])(hs:cs.set off d=cs'):
 Ef P (.store t x y) env m nx ⟨aI P t=true/\[d].length=P.cellsOf t/\off+P.cellsOf t<=cs.length/\[d].all D.one=true,.aM [],[(i,some (.cells cs' e))],[i],0⟩:=SL hx hy hm hv hs
theorem fM{i off:Nat}{cs cs' vs:List D}{e:TypeId}(hx:(opd env x).core=.rp i off)(hy:(opd env y).core=.agg vs)(hm:m i=some (.cells cs e))(hs:gW cs off vs=cs'):
 Ef P (.store t x y) env m nx ⟨aI P t=true/\vs.length=P.cellsOf t/\off+P.cellsOf t<=cs.length/\vs.all D.one=true,.aM [],[(i,some (.cells cs' e))],[i],0⟩:=SL hx hy hm rfl hs
theorem SM{cs:List D}{j off:Nat}{C:TypeId}(hx:(opd env x).core=.pt cs)(hf:cr P t j=some (off,C)):Ef P (.fieldAddr t x j) env m nx ⟨0<P.cellsOf C,.pt (cs.drop off),[],[],0⟩:=⟨by simp only[bd,a6,hx,hf],rfl,rfl⟩
theorem sV{i o:Nat}{j off:Nat}{C:TypeId}{r:Row}(hx:(opd env x).core=.rp i o)(hm:m i=some r)(hf:cr P t j=some (off,C)):Ef P (.fieldAddr t x j) env m nx ⟨0<P.cellsOf C,.rp i (o+off),[],[i],0⟩:=⟨by simp only[bd,a6,hx,hf,hm],rfl,rfl⟩
theorem Ht{i o:Nat}{r:Row}(hx:(opd env x).core=.rp i o)(hm:m i=some r):Ef P (.nilCheck x) env m nx ⟨True,.rp i o,[],[i],0⟩:=⟨by simp only[bd,a6,hx,hm],rfl,rfl⟩
theorem Me{es cs:List D}{l sz:Nat}{e:TypeId}(hx:(opd env x).core=.sl es l)(hy:(opd env y).core=.s (.int k n))(he:aF P t=e)(hs:P.cellsOf e=sz)(hd:es.drop (n.toNat*sz)=cs):
 Ef P (.indexAddr t x y) env m nx ⟨bi P t=true/\0<=n/\n<l/\(n.toNat+1)*sz<=es.length,.pt cs,[],[],0⟩:=⟨by simp only[bd,a6,hx,hy,he,hs,hd],rfl,rfl⟩
theorem Hu{j off l sz:Nat}{e:TypeId}{r:Row}(hx:(opd env x).core=.rs j off l)(hy:(opd env y).core=.s (.int k n))(hm:m j=some r)(he:aF P t=e)(hs:P.cellsOf e=sz):
 Ef P (.indexAddr t x y) env m nx ⟨bi P t=true/\0<=n/\n<l,.rp j (off+n.toNat*sz),[],[j],0⟩:=⟨by simp only[bd,a6,hx,hy,hm,he,hs],rfl,rfl⟩
theorem ae5{j off sz l:Nat}{e:TypeId}{r:Row}(hx:(opd env x).core=.rp j off)(hy:(opd env y).core=.s (.int k n))(hm:m j=some r)(he:aF P t=e)(hs:P.cellsOf e=sz)(hl:pi P t=l):
 Ef P (.indexAddr t x y) env m nx ⟨oI P t=true/\0<=n/\n<l,.rp j (off+n.toNat*sz),[],[j],0⟩:=⟨by simp only[bd,a6,hx,hy,hm,he,hs,hl],rfl,rfl⟩
section builtins
theorem wS{b:Builtin}{ts:Array TypeId}{args:Array Operand}{aS:List D}{e:dy}(hs:ts.size=args.size)(ha:args.toList.map (fun x=>(opd env x).core)=aS)(hb:fL P m nx b ts aS=some e):Ef P (.call { callee:=.builtin b,args:=args,argTypes:=ts }) env m nx e:=
 ⟨by simp only[bd];rw[if_pos hs];simp only[a6];rw[ha,hb],rfl,rfl⟩
theorem Ek{es:List D}{l:Nat}(hx:(opd env x).core=.sl es l):Ef P (.call { callee:=.builtin .len,args:= #[x],argTypes:= #[t] }) env m nx ⟨bi P t=true,.s (.int .i64 l),[],[],0⟩:=wS (aS:=[.sl es l]) rfl (by simp[hx]) rfl
theorem yL{i off l:Nat}{r:Row}(hx:(opd env x).core=.rs i off l)(hm:m i=some r):Ef P (.call { callee:=.builtin .len,args:= #[x],argTypes:= #[t] }) env m nx ⟨bi P t=true,.s (.int .i64 l),[],[i],0⟩:=wS (aS:=[.rs i off l]) rfl (by simp[hx]) (by simp[fL,ot,hm])
theorem Hv(hx:(opd env x).core=.z):Ef P (.call { callee:=.builtin .len,args:= #[x],argTypes:= #[t] }) env m nx ⟨bi P t=true,.s (.int .i64 0),[],[],0⟩:=wS (aS:=[.z]) rfl (by simp[hx]) rfl
theorem LI{b:ByteArray}(hx:(opd env x).core=.s (.string b)):Ef P (.call { callee:=.builtin .len,args:= #[x],argTypes:= #[t] }) env m nx ⟨fW P t=true,.s (.int .i64 b.size),[],[],0⟩:=wS (aS:=[.s (.string b)]) rfl (by simp[hx]) rfl
theorem afS{k:IntKind}(hx:(opd env x).core=.s (.int k n))(hy:(opd env y).core=.s (.int k n')):Ef P (.call { callee:=.builtin .min,args:= #[x,y],argTypes:= #[t,t] }) env m nx ⟨k=k,.s (.int k (if n'<n then n' else n)),[],[],0⟩:=wS (aS:=[.s (.int k n),.s (.int k n')]) rfl (by simp[hx,hy]) rfl
structure Cells(m:Mem)(sz:Nat)(d:D)(p:Prop)(rd:List Nat)(k:Nat)(news:List D):Prop where
 ok:jP m sz d=some (p,rd,k,news)
theorem rI{es news:List D}{k sz:Nat}(h:es.take (k*sz)=news):Cells m sz (.sl es k) (k*sz<=es.length) [] k news:=⟨by simp[jP,h]⟩
theorem lE{i off k sz:Nat}{cs news:List D}{e:TypeId}(hm:m i=some (.cells cs e))(h:(cs.drop off).take (k*sz)=news):Cells m sz (.rs i off k) (off+k*sz<=cs.length) [i] k news:=⟨by simp[jP,hm,h]⟩
theorem Bj{p:Prop}{rd:List Nat}{c sz:Nat}{news:List D}{e:TypeId}(hx:(opd env x).core=.z)(hy:(opd env y).core=d)(he:aF P t=e)(hs:P.cellsOf e=sz)(hc:Cells m sz d p rd c news):
 Ef P (.call { callee:=.builtin .append,args:= #[x,y],argTypes:= #[t,t] }) env m nx ⟨bi P t=true/\p/\0<sz/\c<=maxLen/\c*P.bytesOf e<=140737488355328,.rs nx 0 c,[(nx,some (.cells news e))],rd,1⟩:=by
 refine wS (aS:=[.z,d]) rfl (by simp[hx,hy]) ?_;simp only[fL];rw[if_pos oS];simp only[rN,Array.getD_eq_getD_getElem?,List.getElem?_toArray,List.getElem?_cons_zero,Option.getD_some,he,hs,hc.ok]
theorem jB{p:Prop}{rd:List Nat}{c sz i off l:Nat}{cs cs' news:List D}{e:TypeId}(hx:(opd env x).core=.rs i off l)(hm:m i=some (.cells cs e))(hy:(opd env y).core=d)(he:aF P t=e)(hs:P.cellsOf e=sz)(hc:Cells m sz d p rd c news)(hn:cs.drop off++news=cs'):
 Ef P (.call { callee:=.builtin .append,args:= #[x,y],argTypes:= #[t,t] }) env m nx ⟨bi P t=true/\e=e/\p/\0<sz/\off+l*sz=cs.length/\l+c<=maxLen/\(l+c)*P.bytesOf e<=140737488355328/\i∉rd,.rs nx 0 (l+c),[(i,none),(nx,some (.cells cs' e))],i::rd,1⟩:=by
 refine wS (aS:=[.rs i off l,d]) rfl (by simp[hx,hy]) ?_;simp only[fL];rw[if_pos oS];simp only[rN,Array.getD_eq_getD_getElem?,List.getElem?_toArray,List.getElem?_cons_zero,Option.getD_some,he,hs,hc.ok,hm,hn]
end builtins
theorem rE{cs cs':List D}{j:Nat}(hx:(opd env x).core=.aM cs)(hd:cs.drop j=v::cs'):Ef P (.extract x j) env m nx ⟨j<cs.length,v,[],[],0⟩:=by
 have h:cs[j]? =some v:=by
  have:(cs.drop j)[0]? =some v:=by rw[hd];rfl
  simpa using this
 exact⟨by simp[bd,a6,hx,h],rfl,rfl⟩
theorem adV{ps:Array (Nat×Operand)}{fs:Array Field}{cs z:List D}{C:List (Nat×D)}(hu:P.underlying t=some (.struct fs))(hz:a8 P t=z)(hq:(ps.toList.map fun q=>(q.1,(opd env q.2).core))=C)
 (hf:hP (fun i=>(fs[i]?).map fun f=>(f.offset,P.cellsOf f.type)) z C=some cs):Ef P (.build t ps) env m nx ⟨aI P t=true/\fs.toList.all (fun f=>(P.info? f.type).isSome)=true,.agg cs,[],[],0⟩:=
 ⟨by simp only[bd,a6,hu,hz,hq,hf,Option.map_some],rfl,rfl⟩
theorem Gi{ps:Array (Nat×Operand)}{fs:Array Field}{C:List (Nat×Nat)}{cs z:List D}{J:List (Nat×D)}(hu:P.underlying t=some (.struct fs))(hp:(fs.toList.map fun(f:Field)=>(f.offset,P.cellsOf f.type))=C)(hz:a8 P t=z)(hq:(ps.toList.map fun q=>(q.1,(opd env q.2).core))=J)
 (hf:hP (fun i=>C[i]?) z J=some cs):Ef P (.build t ps) env m nx ⟨aI P t=true/\fs.toList.all (fun f=>(P.info? f.type).isSome)=true,.agg cs,[],[],0⟩:=by
 refine adV hu hz hq ?_
 have:(fun(i:Nat)=>(fs[i]?).map fun(f:Field)=>(f.offset,P.cellsOf f.type))=fun(i:Nat)=>C[i]? :=by
  funext i;rw[<- hp];simp
 rw[this];exact hf
theorem uw{ps:Array (Nat×Operand)}{l sz:Nat}{e:TypeId}{cs z:List D}{C:List (Nat×D)}(he:aF P t=e)(hs:P.cellsOf e=sz)(hz:a8 P e=z)(hq:(ps.toList.map fun q=>(q.1,(opd env q.2).core))=C)
 (hf:hP (fun i=>some (i*sz,sz)) (dB l z) C=some cs):Ef P (.buildSlice t l ps) env m nx ⟨cs.all D.one=true/\l*sz<=2 ^ 24/\bi P t=true/\l<=maxLen,.rs nx 0 l,[(nx,some (.cells cs e))],[],1⟩:=
 ⟨by simp only[bd,a6,he,hs,hz,hq,hf,Option.map_some],rfl,rfl⟩
theorem LJ{f:Fn}{fs cs:Array Operand}{J C:List D}(hf:fs.toList.map (fun x=>(opd env x).core)=J)(hc:cs.toList.map (fun x=>(opd env x).core)=C):Ef P (.makeFunc f fs cs) env m nx ⟨True,.fn f J C,[],[],0⟩:=⟨by simp only[bd,a6,hf,hc],rfl,rfl⟩
theorem afT:Ef P (.makeMap t none) env m nx ⟨True,.mp nx,[(nx,some (.map []))],[],1⟩:=⟨by simp only[bd],rfl,rfl⟩
theorem Dv{e:TypeId}{z:List D}(hx:(opd env x).core=.s (.int .i64 n))(hy:(opd env y).core=.s (.int .i64 n'))(he:aF P t=e)(hz:a8 P e=z):
 Ef P (.makeSlice t x y) env m nx ⟨0<=n/\n=n'/\n<=9223372036854775807/\P.bytesOf e*n<=281474976710656/\bi P t=true,.rs nx 0 n.toNat,[(nx,some (.cells (dB n.toNat z) e))],[],1⟩:=⟨by simp only[bd,a6,hx,hy,he,hz],rfl,rfl⟩
theorem ae6{src:TypeId}{k':IntKind}(hx:(opd env x).core=.s (.int k n))(hu:P.underlying t=some (.int k')):Ef P (.convert src t x) env m nx ⟨aI P src=true,.s (.int k' (k'.wrap n)),[],[],0⟩:=⟨by simp only[bd,a6,hx,hu],rfl,rfl⟩
theorem adW{src e:TypeId}{b:ByteArray}(hx:(opd env x).core=.s (.string b))(hu:P.underlying t=some (.slice e))(he:P.underlying e=some (.int .u8)):
 Ef P (.convert src t x) env m nx ⟨fW P src=true/\b.size<=maxLen,.sl (b.data.toList.map fun c=>.s (.int .u8 c.toNat)) b.size,[],[],0⟩:=⟨by simp only[bd,a6,hx,hu,he],rfl,rfl⟩
def rJ(b:ByteArray):List Int:=b.data.toList.map fun c=>(c.toNat:Int)
theorem Yc(b:ByteArray):(rJ b).length=b.size:=by unfold rJ;rw[List.length_map];rfl
theorem RE{src e:TypeId}{b:ByteArray}(hx:(opd env x).core=.s (.string b))(hu:P.underlying t=some (.slice e))(he:P.underlying e=some (.int .u8)):
 Ef P (.convert src t x) env m nx ⟨fW P src=true/\b.size<=maxLen,.sl ((rJ b).map fun n=>.s (.int .u8 n)) (rJ b).length,[],[],0⟩:=by
 have:=adW (P:=P) (env:=env) (m:=m) (nx:=nx) (t:=t) (src:=src) hx hu he;have h:(rJ b).map (fun n=>D.s (.int .u8 n))=b.data.toList.map (fun c=>D.s (.int .u8 c.toNat)):=by rw[rJ,List.map_map];rfl
 rw[Yc,h];exact this
theorem K4{es es':List D}{l:Nat}{lo hi:Option Operand}{a b:Int}{e:TypeId}{sz:Nat}(hx:(opd env x).core=.sl es l)(he:aF P t=e)(hs:P.cellsOf e=sz)
 (ha:ed (lo.map fun x=>(opd env x).core) 0=some a) (hb:ed (hi.map fun x=>(opd env x).core) l=some b) (hd:(es.drop (a.toNat*sz)).take ((b - a).toNat*sz)=es'):
 Ef P (.slice t x lo hi none) env m nx ⟨bi P t=true/\0<=a/\a<=b/\b<=l,.sl es' (b - a).toNat,[],[],0⟩:=by
 refine⟨?_,rfl,rfl⟩;show nd P m t (opd env x).core (lo.map fun x=>(opd env x).core) (hi.map fun x=>(opd env x).core) (Option.map (fun x=>(opd env x).core) none)=_;rw[hx];simp only[nd,Option.map_none,ha,hb,he,hs,hd]
theorem Gj{i off l:Nat}{cs:List D}{lo hi:Option Operand}{a b:Int}{e:TypeId}{sz:Nat}(hx:(opd env x).core=.rs i off l)(hm:m i=some (.cells cs e))(he:aF P t=e)(hs:P.cellsOf e=sz)
 (ha:ed (lo.map fun x=>(opd env x).core) 0=some a) (hb:ed (hi.map fun x=>(opd env x).core) l=some b):
 Ef P (.slice t x lo hi none) env m nx ⟨(bi P t=true/\sz=sz)/\0<=a/\a<=b/\b<=l,.rs i (off+a.toNat*sz) (b - a).toNat,[],[i],0⟩:=by
 refine⟨?_,rfl,rfl⟩;show nd P m t (opd env x).core (lo.map fun x=>(opd env x).core) (hi.map fun x=>(opd env x).core) (Option.map (fun x=>(opd env x).core) none)=_;rw[hx];simp only[nd,hm,Option.map_none,ha,hb,he,hs]
theorem Gk{i:Nat}{es:List (Value×D)}{key:Value}{ok:Bool}{kt:TypeId}(hx:(opd env x).core=.mp i)(hm:m i=some (.map es))(hk:qO (opd env y).core=some key)(ht:eL P t=kt)(hg:fH P t ok (cT key es)=v):
 Ef P (.lookup t x y ok) env m nx ⟨fT P t=true/\cL P kt key=true/\es.all (fun e=>cL P kt e.1)=true,v,[],[i],0⟩:=by
 refine⟨?_,rfl,rfl⟩;show oZ P m t (opd env x).core (opd env y).core ok=_;simp only[oZ,hk,hx,hm,ht,hg]
theorem AM{es:List (Value×D)}{key:Value}{ok:Bool}{kt:TypeId}(hx:(opd env x).core=.im es)(hk:qO (opd env y).core=some key)(ht:eL P t=kt)(hg:fH P t ok (cT key es)=v):
 Ef P (.lookup t x y ok) env m nx ⟨fT P t=true/\cL P kt key=true/\es.all (fun e=>cL P kt e.1)=true,v,[],[],0⟩:=by
 refine⟨?_,rfl,rfl⟩;show oZ P m t (opd env x).core (opd env y).core ok=_;simp only[oZ,hk,hx,ht,hg]
theorem yM{i:Nat}{es:List (Value×D)}{key:Value}{z:Operand}{kt:TypeId}(hx:(opd env x).core=.mp i)(hm:m i=some (.map es))(hk:qO (opd env y).core=some key)(hz:(opd env z).core=v)(ht:eL P t=kt):
 Ef P (.mapUpdate t x y z) env m nx ⟨fT P t=true/\cL P kt key=true/\es.all (fun e=>cL P kt e.1)=true,.aM [],[(i,some (.map (gp key v es)))],[i],0⟩:=by
 refine⟨?_,rfl,rfl⟩;show nS P m t (opd env x).core (opd env y).core (opd env z).core=_;simp only[nS,hk,hx,hm,ht,hz]
end
theorem nP{α:Type}{f:α->D}:∀ {l:List α} {k:Nat} {x:α},l[k]? =some x->(l.map f).drop k=f x::(l.drop (k+1)).map f
 |[],k,x,h=>by simp at h
 |a::l,0,x,h=>by simp at h;subst h;rfl
 |a::l,k+1,x,h=>by simpa using nP (f:=f) (l:=l) (k:=k) (by simpa using h)
theorem QS{α:Type}{f:α->List D}{sz:Nat}(hs:∀ x,(f x).length=sz):∀ {l:List α} {k:Nat} {x:α},l[k]? =some x->(l.flatMap f).drop (k*sz)=f x++(l.drop (k+1)).flatMap f
 |[],k,x,h=>by simp at h
 |a::l,0,x,h=>by simp at h;subst h;simp
 |a::l,k+1,x,h=>by
  have h1:(k+1)*sz=(f a).length+k*sz:=by rw[hs];rw[Nat.add_mul];omega
  simp only[List.flatMap_cons,h1,List.drop_append,List.drop_succ_cons];rw[List.drop_of_length_le oG];have:(f a).length+k*sz - (f a).length=k*sz:=by omega
  rw[this];simpa using QS hs (l:=l) (k:=k) (by simpa using h)
theorem FT{α:Type}{f:α->List D}{sz:Nat}(hs:∀ x,(f x).length=sz):∀ (l:List α),(l.flatMap f).length=l.length*sz
 |[]=>by simp
 |a::l=>by simp only[List.flatMap_cons,List.length_append,hs,FT hs l,List.length_cons,Nat.add_mul];omega
section
variable{P:Program}{env:Env}{m:Mem}{nx:Nat}{t e:TypeId}{x y:Operand}{k:IntKind}
theorem Hw{α:Type}{f:α->D}{l:List α}{i n:Nat}{z:α}(hx:(opd env x).core=.sl (l.map f) n)(hy:(opd env y).core=.s (.int k i))(he:aF P t=e)(hs:P.cellsOf e=1)(hz:l[i]? =some z):
 Ef P (.indexAddr t x y) env m nx ⟨bi P t=true/\0<=(i:Int)/\(i:Int)<n/\((i:Int).toNat+1)*1<=(l.map f).length,.pt (f z::(l.drop (i+1)).map f),[],[],0⟩:=
 Me hx hy he hs (by rw[lu,Nat.mul_one];exact nP hz)
theorem TR{α:Type}{f:α->D}{l:List α}{i:Nat}{z:α}(ht:bi P t=true)(hz:l[i]? =some z):bi P t=true/\0<=(i:Int)/\(i:Int)<l.length/\((i:Int).toNat+1)*1<=(l.map f).length:=by
 have:=(bI.1 hz).1;exact⟨ht,oG,oG,by simp;omega⟩
theorem rX{α:Type}{f:α->List D}{sz:Nat}{l:List α}{i n:Nat}{z:α}(hx:(opd env x).core=.sl (l.flatMap f) n)(hy:(opd env y).core=.s (.int k i))(he:aF P t=e)(hs:P.cellsOf e=sz)(hl:∀ x,(f x).length=sz)(hz:l[i]? =some z):
 Ef P (.indexAddr t x y) env m nx ⟨bi P t=true/\0<=(i:Int)/\(i:Int)<n/\((i:Int).toNat+1)*sz<=(l.flatMap f).length,.pt (f z++(l.drop (i+1)).flatMap f),[],[],0⟩:=
 Me hx hy he hs (by rw[lu];exact QS hl hz)
theorem rY{α:Type}{f:α->List D}{sz:Nat}{l:List α}{i:Nat}{z:α}(ht:bi P t=true)(hl:∀ x,(f x).length=sz)(hz:l[i]? =some z):bi P t=true/\0<=(i:Int)/\(i:Int)<l.length/\((i:Int).toNat+1)*sz<=(l.flatMap f).length:=by
 have:=(bI.1 hz).1;refine⟨ht,oG,oG,?_⟩;rw[FT hl,lu];exact Nat.mul_le_mul_right _ this
theorem TS{v:D}{cs:List D}(ht:aI P t=true)(hc:P.cellsOf t=1):aI P t=true/\P.cellsOf t<=(v::cs).length:=⟨ht,by rw[hc];simp⟩
theorem kN{v:D}{cs cs':List D}{off:Nat}(ht:aI P t=true)(hc:P.cellsOf t=1)(hd:cs.drop off=v::cs'):aI P t=true/\off+P.cellsOf t<=cs.length:=by
 refine⟨ht,?_⟩;have:(cs.drop off).length=cs'.length+1:=by rw[hd];rfl
 rw[List.length_drop] at this;omega
theorem lJ{n:Nat}{cs:List D}(ht:aI P t=true)(hc:P.cellsOf t=n)(hl:n<=cs.length):aI P t=true/\P.cellsOf t<=cs.length:=⟨ht,by rw[hc];exact hl⟩
theorem fA{n off:Nat}{cs:List D}(ht:aI P t=true)(hc:P.cellsOf t=n)(hl:off+n<=cs.length):aI P t=true/\off+P.cellsOf t<=cs.length:=⟨ht,by rw[hc];exact hl⟩
theorem qG{n:Nat}(hc:P.cellsOf t=n+1):0<P.cellsOf t:=by omega
theorem cw{n off:Nat}{cs vs:List D}(ht:aI P t=true)(hc:P.cellsOf t=n)(hv:vs.length=n/\off+n<=cs.length)(C:vs.all D.one=true):aI P t=true/\vs.length=P.cellsOf t/\off+P.cellsOf t<=cs.length/\vs.all D.one=true:=
 ⟨ht,by rw[hc];exact hv.1,by rw[hc];exact hv.2,C⟩
end
section
variable{P:Program}{K:D->St->Prop}{st:St}
theorem wJ(h:K (.aM []) st):iD P [] K .ret st:=h
theorem wK(h:K (.aM []) st):iD P [] K .normal st:=h
theorem aD{t:Nat}{d:D}(hd:st.env t=d)(h:K d st):iD P [.tmp t] K .ret st:=⟨trivial,by subst hd;exact h⟩
theorem gG{t u:Nat}{d e:D}(hd:st.env t=d)(he:st.env u=e)(h:K (.aM [d,e]) st):iD P [.tmp t,.tmp u] K .ret st:=⟨trivial,trivial,by subst hd;subst he;exact h⟩
theorem iq{a i off n:Nat}{ty e:TypeId}{cs vs:List D}(ha:st.env a=.rp i off)(hm:st.mem i=some (.cells cs e))(hg:bq P ty=true)(hc:P.cellsOf ty=n)(hv:(cs.drop off).take n=vs)(ht:aI P ty=true)(hl:off+n<=cs.length):
 ∃ p,ou P st (.cell a ty)=some (p,.agg vs)/\p:=⟨aI P ty=true/\off+n<=cs.length,by simp only[ou,ha,hm,hD,hg,if_true,hc,hv],ht,hl⟩
theorem uu{a i off:Nat}{ty e:TypeId}{cs cs':List D}{v:D}(ha:st.env a=.rp i off)(hm:st.mem i=some (.cells cs e))(hg:bq P ty=false)(hc:P.cellsOf ty=1)(hv:cs.drop off=v::cs')(ht:aI P ty=true):
 ∃ p,ou P st (.cell a ty)=some (p,v)/\p:=by
 have hl:off+1<=cs.length:=by
  have:(cs.drop off).length=cs'.length+1:=by rw[hv];rfl
  rw[List.length_drop] at this;omega
 exact⟨aI P ty=true/\off+1<=cs.length,by simp only[ou,ha,hm,hD,hg,Bool.false_eq_true,if_false,hc,hv,List.headD_cons],ht,hl⟩
theorem tv{a:Nat}{ty:TypeId}{d:D}(hr:∃ p,ou P st (.cell a ty)=some (p,d)/\p)(h:K d st):iD P [.cell a ty] K .ret st:=by
 obtain⟨p,h1,h2⟩:=hr;simp only[iD,ov,h1];exact⟨h2,h⟩
theorem nN{a t:Nat}{ty:TypeId}{d e:D}(hr:∃ p,ou P st (.cell a ty)=some (p,d)/\p)(he:st.env t=e)(h:K (.aM [d,e]) st):iD P [.cell a ty,.tmp t] K .ret st:=by
 obtain⟨p,h1,h2⟩:=hr;simp only[iD,ov,h1];exact⟨h2,trivial,by subst he;exact h⟩
end
section
variable{P:Program}{Y:ej}{rf:Bool}{Q:Exit->St->Prop}{st:St}
theorem au{l:List (Nat×D)}{env:Env}{m:Mem}{nx:Nat}(h:lN l env):aH P ⟨env,m,nx⟩ ⟨ax l,m,nx⟩:=.forget env _ m nx (qj h)
def M0(P:Program):List (Nat×List D×TypeId)->Mem->Prop
 |[],_=>True
 |(i,cs,e)::fs,m=>m i=some (.cells cs e)/\M0 P fs (fun j=>if j=i then none else(m j).map (Row.sub (cM i cs (P.cellsOf e))))
def Cv(P:Program):List (Nat×List D×TypeId)->D->D
 |[],d=>d
 |(i,cs,e)::fs,d=>Cv P fs (sub (cM i cs (P.cellsOf e)) d)
theorem QU:∀ {fs:List (Nat×List D×TypeId)} {env:Env} {m:Mem} {nx:Nat},M0 P fs m->∃ m',aH P ⟨env,m,nx⟩ ⟨fun t=>Cv P fs (env t),m',nx⟩
 |[],env,m,nx,_=>⟨m,.refl _⟩
 |(i,cs,e)::fs,env,m,nx,⟨h1,h2⟩=>by
  obtain⟨m',h⟩:=QU (env:=fun t=>sub (cM i cs (P.cellsOf e)) (env t)) (nx:=nx) h2;exact⟨m',(aH.freeze env m nx i cs e h1).trans h⟩
theorem dA{env:Env}{m:Mem}{nx:Nat}(fs:List (Nat×List D×TypeId))(hf:M0 P fs m){l:List (Nat×D)}(hl:lN l fun t=>Cv P fs (env t)):aH P ⟨env,m,nx⟩ ⟨ax l,fun _=>none,nx⟩:=by
 obtain⟨m',h⟩:=QU (env:=env) (nx:=nx) hf;exact h.trans ((aH.forget _ _ _ _ (qj hl)).trans (aH.drop _ _ _ _ fun _=>.inr rfl))
def lR(gi id:Nat)(next:St->Prop)(Q:Exit->St->Prop):Exit->St->Prop
 | .normal,s=>next s
 | .exit i,s=>if i=gi then next s else if i=id then Q .normal s else Q (.exit i) s
 |e,s=>Q e s
def y8(P:Program){α:Type}(S:α->St)(J:α->Prop)(μ:α->Nat)(x:α)(s:St):Prop:=∃ C,aH P s (S C)/\J C/\μ C<μ x
theorem bf{α:Type}{S:α->St}{J:α->Prop}{μ:α->Nat}{x:α}{s:St}(C:α)(hg:aH P s (S C))(M:J C)(U:μ C<μ x):y8 P S J μ x s:=⟨C,hg,M,U⟩
theorem DH[dC Y]{b:Code}{α:Type}(S:α->St)(J:α->Prop)(μ:α->Nat)(C:α)(hg:aH P st (S C))(X:J C)(h:∀ x,J x->AW P Y rf b (fU (y8 P S J μ x) Q) (S x)){a:Code}(ha:∀ st,Q .normal st->Q .normal st):
 ∃ st',aH P st st'/\AW P Y rf (.loop b) Q st':=
 ⟨S C,hg,ad2 S J μ C rfl X fun x hx=>uH b (fun e st' hq=>by
  cases e with
  |normal=>
   obtain⟨M,h1,h2,U⟩:=hq;exact⟨S M,M,h1,rfl,h2,U⟩
  |_=>exact hq) (h x hx)⟩
variable{id gi t i1 i2 i3 i4:Nat}{rc ri:Array Oper}{body rest:Code}{α:Type}
theorem La[dC Y]{ri:Array Oper}{next:St->Prop}{s:St}(h:AW P Y rf body (lR gi id (fun s=>aq P Y ri false [] (eZ next) ri.toList s []) Q) s):
 AW P Y rf (.seq (.block gi body) (.region i3 ri false)) (fU next (fE id Q)) s:=by
 refine uH body (fun e s h=>?_) h;have hr:∀ s,aq P Y ri false [] (eZ next) ri.toList s []->∃ s',aH P s s'/\AW P Y rf (.region i3 ri false) (fU next (fE id Q)) s':=fun s h=>⟨s,.refl s,lF (rf:=rf) (id:=i3) (aq.jn h fun _ h=>h)⟩
 cases e with
 |normal=>exact hr s h
 |exit i=>
  simp only[lR] at h;simp only[fE];split at h
  .rename_i hi;rw[if_pos hi];exact hr s h
  .rename_i hi;rw[if_neg hi];simp only[fU,fE];exact h
 |_=>exact h
theorem cH[dC Y](S:α->St)(J:α->Prop)(μ:α->Nat)(C:α)(hg:aH P st (S C))(U:J C)
 (h:∀ x,J x->aq P Y rc false [] (eZ fun s=>∃ g,opd s.env (.tmp t)=.s (.bool g)/\(g=true->AW P Y rf body (lR gi id (fun s=>aq P Y ri false [] (eZ (y8 P S J μ x)) ri.toList s []) Q) s)/\(g=false->Q .normal s)) rc.toList (S x) []):
 ∃ st',aH P st st'/\AW P Y rf (.block id (.loop (.seq (.region i1 rc false) (.seq (.cond (.tmp t) .skip (.exit id)) (.seq (.block gi body) (.region i3 ri false)))))) Q st':=by
 refine DH (Q:=fE id Q) S J μ C hg U (fun x hx=>?_) (a:=.skip) fun _ h=>h;refine lF (rf:=rf) (id:=i1) (aq.jn (h x hx) fun s hs=>?_);obtain⟨g,h1,h2,M⟩:=hs;refine⟨s,.refl s,cA h1 (fun X=>?_) fun zY=>?_⟩
 .exact cm (La (h2 X))
 .refine uv ?_;simp only[fU,fE,if_true];exact M zY
theorem jh[dC Y](S:α->St)(J:α->Prop)(μ:α->Nat)(C:α)(hg:aH P st (S C))(U:J C)
 (h:∀ x,J x->aq P Y rc false [] (eZ fun s=>∃ g,opd s.env (.tmp t)=.s (.bool g)/\(g=true->AW P Y rf body (lR gi id (fun s=>aq P Y ri false [] (eZ (y8 P S J μ x)) ri.toList s []) Q) s)/\(g=false->Q .normal s)) rc.toList (S x) []):
 ∃ st',aH P st st'/\AW P Y rf (.block id (.loop (.seq (.seq (.region i1 rc false) (.cond (.tmp t) .skip (.exit id))) (.seq (.block gi body) (.region i3 ri false))))) Q st':=by
 refine DH (Q:=fE id Q) S J μ C hg U (fun x hx=>?_) (a:=.skip) fun _ h=>h;refine az (lF (rf:=rf) (id:=i1) (aq.jn (h x hx) fun s hs=>?_));obtain⟨g,h1,h2,M⟩:=hs;refine⟨s,.refl s,cA h1 (fun X=>?_) fun zY=>?_⟩
 .exact cm (La (h2 X))
 .refine uv ?_;simp only[fU,fE,if_true];exact M zY
theorem RO[dC Y]{next:St->Prop}{s:St}(h:AW P Y rf body (lR gi id next Q) s):AW P Y rf (.block gi body) (fU next (fE id Q)) s:=by
 refine uH body (fun e s h=>?_) h;cases e with
 |exit i=>
  simp only[lR] at h;simp only[fE];split at h
  .rename_i hi;rw[if_pos hi];exact h
  .rename_i hi;rw[if_neg hi];simp only[fU,fE];exact h
 |_=>exact h
theorem ad3[dC Y](S:α->St)(J:α->Prop)(μ:α->Nat)(C:α)(hg:aH P st (S C))(U:J C)
 (h:∀ x,J x->aq P Y rc false [] (eZ fun s=>∃ g,opd s.env (.tmp t)=.s (.bool g)/\(g=true->AW P Y rf body (lR gi id (y8 P S J μ x) Q) s)/\(g=false->Q .normal s)) rc.toList (S x) []):
 ∃ st',aH P st st'/\AW P Y rf (.block id (.loop (.seq (.seq (.region i1 rc false) (.cond (.tmp t) .skip (.exit id))) (.block gi body)))) Q st':=by
 refine DH (Q:=fE id Q) S J μ C hg U (fun x hx=>?_) (a:=.skip) fun _ h=>h;refine az (lF (rf:=rf) (id:=i1) (aq.jn (h x hx) fun s hs=>?_));obtain⟨g,h1,h2,M⟩:=hs;refine⟨s,.refl s,cA h1 (fun X=>?_) fun zY=>?_⟩
 .exact cm (RO (h2 X))
 .refine uv ?_;simp only[fU,fE,if_true];exact M zY
theorem cP{s:St}(h:Q .normal s):AW P Y rf .skip Q s:=h
theorem bG{s:St}(h:Q .ret s):AW P Y rf .ret Q s:=h
theorem bY{next:St->Prop}{s:St}(h:Q .ret s):lR gi id next Q .ret s:=h
theorem bA{K:St->Prop}{s:St}(h:Q .ret s):fU K Q .ret s:=h
theorem eE{s:St}(h:Q .ret s):fE id Q .ret s:=h
theorem GH{s:St}(h:Q .ret s):DV Q .ret s:=h
theorem HA{next:St->Prop}{s:St}(h:next s):lR gi id next Q (.exit gi) s:=by simp only[lR,if_true];exact h
theorem ad4{next:St->Prop}{s:St}(C:id≠gi)(h:Q .normal s):lR gi id next Q (.exit id) s:=by simp only[lR,if_neg C,if_true];exact h
theorem afY{i:Nat}{next:St->Prop}{s:St}(h2:i≠gi)(h1:i≠id)(h:Q (.exit i) s):lR gi id next Q (.exit i) s:=by simp only[lR,if_neg h2,if_neg h1];exact h
theorem yn[dC Y]{a:Code}(h:AW P Y rf a (fE id (fU (fun st=>AW P Y rf rest Q st) Q)) st):AW P Y rf (.seq (.block id a) rest) Q st:=UA (fun st=>AW P Y rf rest Q st) (qk h) fun _ h=>h
theorem wL{s:St}(h:AW P Y rf rest Q s):AW P Y rf .skip (fE id (fU (fun st=>AW P Y rf rest Q st) Q)) s:=h
theorem yN[dC Y]{a:Code}(h:AW P Y rf a (fU (fun st=>AW P Y rf rest Q st) Q) st):AW P Y rf (.seq a rest) Q st:=UA _ h fun _ h=>h
theorem tw[dC Y]{r:Array Oper}{i:Nat}{J:St->Prop}(h:aq P Y r false [] (eZ J) r.toList st []):AW P Y rf (.region i r false) (fU J Q) st:=lF (rf:=rf) (id:=i) (aq.jn h fun _ h=>h)
theorem o0[dC Y]{r:Array Oper}{i:Nat}{J:St->Prop}(h:aq P Y r false [] (eZ J) r.toList st []):AW P Y rf (.region i r false) (fE id (fU J Q)) st:=lF (rf:=rf) (id:=i) (aq.jn h fun _ h=>h)
theorem cO{J:St->Prop}(h:J st):AW P Y rf .skip (fU J Q) st:=h
theorem KE{J:St->Prop}(h:J st):AW P Y rf .skip (fE id (fU J Q)) st:=h
theorem bZ[dC Y]{a:Code}(R:St->Prop)(h:∃ st',aH P st st'/\AW P Y rf a (fU R Q) st')(k:∀ s,R s->∃ s',aH P s s'/\AW P Y rf rest Q s'):∃ st',aH P st st'/\AW P Y rf (.seq a rest) Q st':=by
 obtain⟨st',hg,h⟩:=h;exact⟨st',hg,jf R h k⟩
end
def Real(d:D):Prop:=∃ F β w v,R F β w d v
theorem Real.sl{es:List D}{n:Nat}(h:Real (.sl es n)):n<=maxLen/\∀ d∈es,Real d:=by
 obtain⟨F,β,w,v,h⟩:=h;cases h with
 |gy=>simp[maxLen]
 |sl _ _ b o cap us hf hb af pg dk hc hh=>
  refine⟨Nat.le_trans pg dk,fun d hd=>?_⟩;obtain⟨k,hk⟩:=dN hd;exact⟨F,β,w,_,hh k d hk⟩
theorem Real.agg{cs:List D}(h:Real (.agg cs)):∀ d∈cs,Real d:=by
 obtain⟨F,β,w,v,h⟩:=h;obtain⟨vs,rfl,hl,hh⟩:=h.s3;intro d hd;obtain⟨k,hk⟩:=dN hd;have:k<vs.length:=by rw[hl];exact(bI.1 hk).1
 exact⟨F,β,w,_,hh k d vs[k] hk (by simp[this])⟩
theorem SW{F:Nat->Prop}{β:aE}{w:World}{args:List D}{vs:Array Value}(h:Rs F β w args vs):∀ a∈args,Real a:=fun a ha=>by
 obtain⟨k,hk⟩:=dN ha;have:k<vs.size:=by rw[h.1];exact(bI.1 hk).1
 exact⟨F,β,w,vs[k],h.2 k a _ hk (by simp[this])⟩
theorem mh{P:Program}{f:FuncId}{args:List D}{r:D}(he:oY P f=true)(ht:∀ a∈args,Tr a)(h:(∀ a∈args,Real a)->aB P f args r):aB P f args r:=
 ⟨he,ht,fun F w vs J C=>(h (SW C)).2.2 F w vs J C⟩
theorem Zu{P:Program}{f:FuncId}{args es:List D}{n:Nat}{t:TypeId}(he:oY P f=true)(ht:∀ a∈args,Tr a)(h:(∀ a∈args,Real a)->kW P f args es n t):kW P f args es n t:=
 ⟨he,ht,fun F w vs J C=>(h (SW C)).2.2 F w vs J C⟩
section
variable{P:Program}{m:Mem}{rds:List Nat}
theorem cN{a:D}(h:Tr a):Sn P rds m a a:=fun _ _ _ _ _ hv=>h.BB hv
theorem BE{i off n:Nat}{cs es:List D}{e:TypeId}(hm:m i=some (.cells cs e))(hi:i∈rds)(J:(cs.drop off).take (n*P.cellsOf e)=es)(ht:∀ a∈es,Tr a):Sn P rds m (.rs i off n) (.sl es n):=fun F β w v hl hv=>by
 subst J;obtain⟨p,hp,hr,M⟩:=hl i hi _ hm;cases hv with
 |lp _ _ _ _ h1 _=>rw[h1] at hp;cases hp;cases hr
 |jr _ a h1=>
  rw[h1] at hp;cases hp;cases hr;simp only[List.drop_nil,List.take_nil];exact .gy a 0
 |j9 _ _ a b o len room sz h1=>
  simp only[Nat.zero_mul,List.take_zero];exact .gy a 0
 |rs _ _ _ cap b o len room sz h1 hn dk h2 X=>
  rw[h1] at hp;cases hp
  have af:b<w.heap.size:=by
   cases hr with
   |cells _ _ _ _ _ _ c hb _ _ _ _=>exact(Array.getElem?_eq_some_iff.1 hb).1
  obtain⟨C,hl,bD,_⟩:=hr.rd;obtain⟨us,U,u2⟩:=(C.drop off).take (n*P.cellsOf e);exact .sl _ n b (o+off) cap us (M b rfl) (fun k q hq=>by cases hq) af hn dk U fun k d hk=>(ht d (bu hk)).BB (u2 k d hk)
variable{Y:ej}{rf:Bool}{ops:Array Oper}{dr:Bool}{cf:List (Nat×Nat)}{Q:Exit->St->Prop}{rest:List Oper}{env:Env}{nx:Nat}{tr:kf}{t:Nat}{op:Op}{ty:TypeId}{pos:String}{after:Array Edge}
 {pre:Prop} {v:D} {rd:List Nat}
theorem LR{j:Nat}{b:Bool}{u:Nat}{row:Row}(hj:(ops[j]?).bind (·.dst)=some u)(hg:kz (env u) b=some true)(he:Ef P op env m nx ⟨pre,v,[(nx,some row)],rd,1⟩)(ha:fV env op.operands.toList)(hp:pre)
 (K:aq P Y ops dr cf Q rest ⟨up env t v,up m nx (some row),nx+1⟩ (tr++[(rd,[nx])])):aq P Y ops dr cf Q (⟨some t,op,ty,pos,after,some (j,b)⟩::rest) ⟨env,m,nx⟩ tr:=
 af5 hj hg he ha hp (fun h=>by cases h) K
theorem tx{j:Nat}{b:Bool}{u:Nat}{f:FuncId}{args C:List D}{r:D}{rds:List Nat}(h:aB P f C r)(hs:r.gK=true)(hj:(ops[j]?).bind (·.dst)=some u)(hg:kz (env u) b=some true)(hc:dJ (a6 env op) op=some (f,args))(J:jK P rds m args C)(ha:fV env op.operands.toList)
 (K:aq P Y ops dr cf Q rest ⟨up env t r,m,nx⟩ (tr++[(rds,[])])):aq P Y ops dr cf Q (⟨some t,op,ty,pos,after,some (j,b)⟩::rest) ⟨env,m,nx⟩ tr:=
 acs hj hg hc ha (.inr (.inl ⟨C,rds,r,J,h,hs,K⟩))
end
section
variable{P:Program}{Y:ej}{rf:Bool}{ops:Array Oper}{dr:Bool}{cf:List (Nat×Nat)}{Q:Exit->St->Prop}{rest:List Oper}{env:Env}{m:Mem}{nx:Nat}{tr:kf}{t:Nat}{ty:TypeId}{pos:String}{after:Array Edge}
theorem Dl{j:Nat}{b0 C:Bool}{u:Nat}(hj:(ops[j]?).bind (·.dst)=some u)(hg:kz (env u) b0=some C){c a b:Operand}{x:Bool}(hc:(opd env c).core=.s (.bool true))(ha:(opd env a).core=.s (.bool x))
 (h0:C=true->(opd env c).ask) (h1:C=true->(opd env a).ask) (K:aq P Y ops dr cf Q rest ⟨up env t (.cB C (.s (.bool x))),m,nx⟩ (tr++[([],[])])):
 aq P Y ops dr cf Q (⟨some t,.pick c a b,ty,pos,after,some (j,b0)⟩::rest) ⟨env,m,nx⟩ tr:=by
 have he:=A7 (P:=P) (env:=env) (m:=m) (nx:=nx) (a:=a) (b:=b) hc;simp only[ha,D.fi,Option.getD_some,if_true] at he;simp only[aq];refine .inl ?_;simp only[ju];rw[hj];simp only[Option.bind_some];rw[hg,he.nc,he.ny,he.ok];exact⟨fun hc=>⟨by simp only[asks];exact h0 hc,fun _=>⟨h1 hc,rfl⟩,fun h=>by cases h⟩,K⟩
theorem Dm{j:Nat}{b0 C:Bool}{u:Nat}(hj:(ops[j]?).bind (·.dst)=some u)(hg:kz (env u) b0=some C){c a b:Operand}{y:Bool}(hc:(opd env c).core=.s (.bool false))(hb:(opd env b).core=.s (.bool y))
 (h0:C=true->(opd env c).ask) (h1:C=true->(opd env b).ask) (K:aq P Y ops dr cf Q rest ⟨up env t (.cB C (.s (.bool y))),m,nx⟩ (tr++[([],[])])):
 aq P Y ops dr cf Q (⟨some t,.pick c a b,ty,pos,after,some (j,b0)⟩::rest) ⟨env,m,nx⟩ tr:=by
 have he:=A7 (P:=P) (env:=env) (m:=m) (nx:=nx) (a:=a) (b:=b) hc;simp only[hb,D.fi,Option.getD_some,Bool.false_eq_true,if_false] at he;simp only[aq];refine .inl ?_;simp only[ju];rw[hj];simp only[Option.bind_some];rw[hg,he.nc,he.ny,he.ok];exact⟨fun hc=>⟨by simp only[asks];exact h0 hc,fun h=>oH,fun _=>⟨h1 hc,rfl⟩⟩,K⟩
variable{id:Nat}{st:St}
theorem RX[dC Y]{i:Nat}{J:St->Prop}(hi:bT ops=some cf)(h:aq P Y ops true cf (eZ J) ops.toList st []):AW P Y rf (.region i ops true) (fE id (fU J Q)) st:=Bm (rf:=rf) (id:=i) hi (aq.jn h fun _ h=>h)
theorem aed[dC Y]{i:Nat}{J:St->Prop}(hi:bT ops=some cf)(h:aq P Y ops true cf (eZ J) ops.toList st []):AW P Y rf (.region i ops true) (fU J Q) st:=Bm (rf:=rf) (id:=i) hi (aq.jn h fun _ h=>h)
theorem acu{r:Option Row}{i:Nat}(h:m i=r):∀ j,up (fun _=>none) i r j=m j\/up (fun _=>none) i r j=none:=fun j=>by
 by_cases hj:j=i
 .subst hj;left;rw[aj,h]
 .right;rw[aA _ _ hj]
theorem A8[dC Y]{i gi:Nat}{next:St->Prop}(hi:bT ops=some cf)(h:aq P Y ops true cf (eZ next) ops.toList st []):AW P Y rf (.region i ops true) (lR gi id next Q) st:=Bm (rf:=rf) (id:=i) hi (aq.jn h fun _ h=>h)
theorem fO[dC Y]{i gi:Nat}{next:St->Prop}(h:aq P Y ops false [] (eZ next) ops.toList st []):AW P Y rf (.region i ops false) (lR gi id next Q) st:=lF (rf:=rf) (id:=i) (aq.jn h fun _ h=>h)
def br:List (Nat×Row)->Mem
 |[],_=>none
 |(i,r)::l,j=>if j=i then some r else br l j
def D2:List (Nat×Row)->Mem->Prop
 |[],_=>True
 |(i,r)::l,m=>m i=some r/\D2 l m
theorem Lf:∀ {l:List (Nat×Row)} {m:Mem},D2 l m->∀ i,br l i=m i\/br l i=none
 |[],_,_,_=>.inr rfl
 |(k,r)::l,m,h,i=>by
  simp only[br];by_cases hi:i=k
  .subst hi;rw[if_pos rfl];exact .inl h.1.symm
  .rw[if_neg hi];exact Lf h.2 i
theorem cn{l:List (Nat×D)}{ml:List (Nat×Row)}{m:Mem}{nx:Nat}(h:lN l env)(hm:D2 ml m):aH P ⟨env,m,nx⟩ ⟨ax l,br ml,nx⟩:=(aH.forget env _ m nx (qj h)).trans (.drop _ _ _ _ (Lf hm))
end
theorem ah{α:Type}{f:Nat->α}{k j:Nat}{v r:α}(h:j≠k)(hf:f j=r):up f k v j=r:=(aA f v h).trans hf
theorem apa{β:Sort _}{M m:Mem}{i:Nat}{r:Option Row}(h:M=m)(x:β)(k:β->m i=r:=by intro x;repeat (first|exact x|exact rfl|exact aj _ _ _|refine ah (by omega) ?_)):M i=r:=h ▸ k x
theorem apb{β:Sort _}{p:Prop}(x:β)(k:β->p:=by intro x;dsimp only;repeat (first|exact x|exact aj _ _ _|refine ah (by omega) ?_)):p:=k x
theorem kY{i off sz:Nat}{cs:List D}:sub (cM i cs sz) (.rp i off)=.pt (cs.drop off):=by simp[sub,pW,cM]
theorem BJ{i off n sz:Nat}{cs:List D}:sub (cM i cs sz) (.rs i off n)=.sl ((cs.drop off).take (n*sz)) n:=by simp[sub,pW,cM]
theorem gE{i j off sz:Nat}{cs:List D}(h:j≠i):sub (cM i cs sz) (.rp j off)=.rp j off:=by simp[sub,pW,cM,h]
theorem AZ{i j off n sz:Nat}{cs:List D}(h:j≠i):sub (cM i cs sz) (.rs j off n)=.rs j off n:=by simp[sub,pW,cM,h]
theorem Dn{α:Type}{f:α->List D}{sz:Nat}(hs:∀ x,(f x).length=sz):∀ (l:List α) (k:Nat),(l.flatMap f).take (k*sz)=(l.take k).flatMap f
 |[],k=>by simp
 |x::l,0=>by simp
 |x::l,k+1=>by
  rw[List.flatMap_cons,List.take_succ_cons,List.flatMap_cons, <- Dn hs l k,show(k+1)*sz=(f x).length+k*sz by rw[hs x,Nat.add_mul];omega,List.take_length_add_append]
theorem aeI{α:Type}{f:α->List D}{sz k:Nat}{l:List α}(hs:∀ x,(f x).length=sz)(hk:k<=l.length):
 D.sl (((l.flatMap f).drop ((0:Int).toNat*sz)).take (((k:Int) - 0).toNat*sz)) ((k:Int) - 0).toNat=D.sl ((l.take k).flatMap f) (l.take k).length:=by
 have h1:((k:Int) - 0).toNat=k:=by omega
 have h2:(0:Int).toNat*sz=0:=by simp
 rw[h1,h2,List.drop_zero,Dn hs,List.length_take,Nat.min_eq_left hk]
section
variable{P:Program}{env:Env}{m:Mem}{nx:Nat}{x y z:Operand}{t:TypeId}{v:D}
theorem acz{i:Nat}{es:List (Value×D)}{key:Value}{kt:TypeId}(hx:(opd env x).core=.mp i)(hm:m i=some (.map es))(hk:qO (opd env y).core=some key)(hz:(opd env z).core=v)(ht:eL P t=kt):
 Ef P (.insert t x y z) env m nx ⟨fT P t=true/\cL P kt key=true/\es.all (fun e=>cL P kt e.1)=true,.aM [],[(i,some (.map (gp key v es)))],[i],0⟩:=by
 refine⟨?_,rfl,rfl⟩;show nS P m t (opd env x).core (opd env y).core (opd env z).core=_;simp only[nS,hk,hx,hm,ht,hz]
variable{n n':Int}{k:IntKind}{c:Bool}{p:TypeId}{n0:Nat}
theorem LS(hx:(opd env x).core=.s (.int k n))(hy:(opd env y).core=.s (.int k n'))(hd:decide (n'<n)=c):Ef P (.binOp .gtr t x y p) env m nx ⟨k=k,.s (.bool c),[],[],0⟩:=by subst hd;exact H3 hx hy
theorem HD(hx:(opd env x).core=.s (.int k n))(hy:(opd env y).core=.s (.int k n'))(hd:decide (n<=n')=c):Ef P (.binOp .leq t x y p) env m nx ⟨k=k,.s (.bool c),[],[],0⟩:=by subst hd;exact Ei hx hy
theorem D3(hx:(opd env x).core=.s (.int k n))(hy:(opd env y).core=.s (.int k n'))(hd:(n==n')=c):Ef P (.binOp .eql t x y p) env m nx ⟨k=k,.s (.bool c),[],[],0⟩:=by subst hd;exact H4 hx hy
theorem T0(hx:(opd env x).core=.s (.int k n))(hy:(opd env y).core=.s (.int k n'))(hd:(n !=n')=c):Ef P (.binOp .neq t x y p) env m nx ⟨k=k,.s (.bool c),[],[],0⟩:=by subst hd;exact Mc hx hy
theorem T3(hx:(opd env x).core=.s (.int k n))(hy:(opd env y).core=.s (.int k n')){r:Int}(hd:k.wrap (n.tdiv n')=r):Ef P (.binOp .quo t x y p) env m nx ⟨k=k/\n'≠0,.s (.int k r),[],[],0⟩:=by subst hd;exact ae3 hx hy
theorem T4(hx:(opd env x).core=.s (.int k n))(hy:(opd env y).core=.s (.int k n')){r:Int}(hd:n.tmod n'=r):Ef P (.binOp .rem t x y p) env m nx ⟨k=k/\n'≠0,.s (.int k r),[],[],0⟩:=by subst hd;exact afP hx hy
theorem Bn(hx:(opd env x).core=.s (.int k n))(hy:(opd env y).core=.s (.int k n'))(hd:decide (n'<=n)=c):Ef P (.binOp .geq t x y p) env m nx ⟨k=k,.s (.bool c),[],[],0⟩:=by subst hd;exact Ej hx hy
theorem aee{j i l:Nat}{e:TypeId}{r:Row}(hx:(opd env x).core=.rp j 0)(hy:(opd env y).core=.s (.int k (i:Int)))(hm:m j=some r)(he:aF P t=e)(hs:P.cellsOf e=1)(hl:pi P t=l):
 Ef P (.indexAddr t x y) env m nx ⟨oI P t=true/\i<l,.rp j i,[],[j],0⟩:=by
 have h:=ae5 (P:=P) (env:=env) (m:=m) (nx:=nx) (t:=t) hx hy hm he hs hl;have h1:0+((i:Int)).toNat*1=i:=by simp
 have h2:(oI P t=true/\(0:Int)<=(i:Int)/\(i:Int)<l)=(oI P t=true/\i<l):=by
  apply propext;constructor
  .rintro⟨a,_,b⟩;exact⟨a,oG⟩
  .rintro⟨a,b⟩;exact⟨a,oG,oG⟩
 rw[h1,h2] at h;exact h
theorem nY{l:List D}{n:Nat}(h:l.length=n):(l.drop 0).take n=l:=by rw[List.drop_zero,dq oG]
theorem Ug{l:List D}{n:Nat}(h:l.length=n):l.take n=l:=dq oG
theorem Li{z l:List D}(hz:z.length=20)(hl:l.length=20):gW z 0 l=l:=by
 unfold gW;split
 .simp at hl
 .rw[List.take_zero,List.nil_append,List.drop_eq_nil_of_le oG,List.append_nil]
theorem HE{es:List D}(hx:(opd env x).core=.sl es 0):Ef P (.binOp .eql t x (.const (.slice none 0 0)) p) env m nx ⟨bi P t=true,.ub,[],[],0⟩:=⟨by simp only[bd,a6,hx,ns,if_true],rfl,rfl⟩
theorem HF{es:List D}{l:Nat}(hx:(opd env x).core=.sl es l)(hl:l≠0):Ef P (.binOp .eql t x (.const (.slice none 0 0)) p) env m nx ⟨bi P t=true,.s (.bool false),[],[],0⟩:=⟨by simp only[bd,a6,hx,ns,if_neg hl],rfl,rfl⟩
theorem xc{i off n sz:Nat}{cs es:List D}{e:TypeId}(hs:P.cellsOf e=sz)(h:(cs.drop off).take (n*sz)=es):Cv P [(i,cs,e)] (.rs i off n)=.sl es n:=by subst hs h;exact BJ
theorem yq(h:env n0=.z):aH P ⟨env,m,nx⟩ ⟨ax [(n0,.sl [] 0)],fun _=>none,nx+1⟩:=by
 have h1:=aH.rW (P:=P) env m nx n0 0 h;have h2:=dA (P:=P) (env:=up env n0 (.rs nx 0 0)) (m:=up m nx (some (.cells [] 0))) (nx:=nx+1) [(nx,[],0)] ⟨aj _ _ _,trivial⟩ (l:=[(n0,.sl [] 0)]) ⟨(congrArg _ (aj _ _ _)).trans (xc (sz:=P.cellsOf 0) rfl oS),trivial⟩;exact h1.trans h2
theorem amo{rds:List Nat}:Sn P rds m .z (.sl [] 0):=fun F β w v _ hv=>by
 obtain⟨x,rfl⟩:=hv.u6;exact .gy x 0
theorem afF{rds:List Nat}{aS bs:List D}(h:jK P rds m aS bs):Sn P rds m (.agg aS) (.agg bs):=fun F β w v hl hv=>by
 obtain⟨vs,rfl,hn,hh⟩:=hv.s3;obtain⟨h1,h2⟩:=Eb hl h;refine .agg _ vs oG fun k d u hd hu=>?_;have hk:k<aS.length:=by rw[h1];exact(bI.1 hd).1
 exact h2 k aS[k] d (by simp[hk]) hd u (hh k aS[k] u (by simp[hk]) hu)
theorem Sl{l:List (Nat×D)}{m':Mem}(h:lN l env)(hm:∀ i,m' i=m i\/m' i=none):aH P ⟨env,m,nx⟩ ⟨ax l,m',nx⟩:=(aH.forget env _ m nx (qj h)).trans (.drop _ _ _ _ hm)
def NH:List (Nat×List (Value×D))->Mem->Prop
 |[],_=>True
 |(i,es)::fs,m=>m i=some (.map es)/\NH fs (fun j=>if j=i then none else(m j).map (Row.sub (zG i es)))
def Po:List (Nat×List (Value×D))->D->D
 |[],d=>d
 |(i,es)::fs,d=>Po fs (sub (zG i es) d)
theorem Rk:∀ {fs:List (Nat×List (Value×D))} {env:Env} {m:Mem} {nx:Nat},NH fs m->∃ m',aH P ⟨env,m,nx⟩ ⟨fun t=>Po fs (env t),m',nx⟩
 |[],env,m,nx,_=>⟨m,.refl _⟩
 |(i,es)::fs,env,m,nx,⟨h1,h2⟩=>by
  obtain⟨m',h⟩:=Rk (env:=fun t=>sub (zG i es) (env t)) (nx:=nx) h2;exact⟨m',(aH.DC env m nx i es h1).trans h⟩
theorem ads(fs:List (Nat×List (Value×D)))(hf:NH fs m){l:List (Nat×D)}(hl:lN l fun t=>Po fs (env t)):aH P ⟨env,m,nx⟩ ⟨ax l,fun _=>none,nx⟩:=by
 obtain⟨m',h⟩:=Rk (P:=P) (env:=env) (nx:=nx) hf;exact h.trans ((aH.forget _ _ _ _ (qj hl)).trans (aH.drop _ _ _ _ fun _=>.inr rfl))
end
end Go.Abs
namespace Go.Argus
open Go.Abs
abbrev I(n:Int):D:=.s (.int .i64 n)
abbrev U8(n:Int):D:=.s (.int .u8 n)
abbrev B(b:Bool):D:=.s (.bool b)
abbrev S(s:ByteArray):D:=.s (.string s)
abbrev aT(l:List Int):D:=.sl (l.map I) l.length
abbrev ir(l:List Int):D:=.sl (l.map U8) l.length
abbrev bP(l:List ByteArray):D:=.sl (l.map S) l.length
structure cv where
 op:Int
 to:Int
 a:Int
 b:Int
 n:Int
 args:List Int
structure gh where
 name:ByteArray
 to:Int
structure End where
 kind:Int
 a:Int
 b:Int
 to:Int
 fY:Int
 name:ByteArray
 ins:cv
 args:List Int
 aP:List gh
 others:Int
structure bE where
 ins:List cv
 fin:End
structure ai where
 name:ByteArray
 iter:Bool
 args:Int
 result:Int
 aO:List Int
 bK:List Int
 signals:List ByteArray
 blocks:List bE
def cg(x:cv):List D:=[U8 x.op,I x.to,I x.a,I x.b,I x.n,aT x.args]
def gF(w:gh):List D:=[S w.name,I w.to]
def lG(l:List gh):D:=.sl (l.flatMap gF) l.length
def kx(l:List cv):D:=.sl (l.flatMap cg) l.length
def bC(x:End):List D:=[U8 x.kind,I x.a,I x.b,I x.to,I x.fY,S x.name,U8 x.ins.op,I x.ins.to,I x.ins.a,I x.ins.b,I x.ins.n,aT x.ins.args,aT x.args,lG x.aP,I x.others]
def bU(b:bE):List D:=kx b.ins::bC b.fin
def cG(l:List bE):D:=.sl (l.flatMap bU) l.length
def aR(f:ai):List D:=[S f.name,B f.iter,I f.args,U8 f.result,ir f.aO,ir f.bK,bP f.signals,cG f.blocks]
def a7(p q:D)(f:ai):List D:=[S f.name,B f.iter,I f.args,U8 f.result,ir f.aO,ir f.bK,bP f.signals,cG f.blocks,p,q]
@[simp] theorem aos (p q : D) (x : ai) : (a7 p q x).length = 10 := rfl
@[simp] theorem aow (x : cv) : (cg x).length = 6 := rfl
@[simp] theorem aot (x : gh) : (gF x).length = 2 := rfl
@[simp] theorem aox (x : End) : (bC x).length = 15 := rfl
@[simp] theorem aoo (x : bE) : (bU x).length = 16 := rfl
@[simp] theorem aou (x : ai) : (aR x).length = 8 := rfl
theorem QZ(x:cv):(cg x).length=6:=rfl
theorem Kc(x:gh):(gF x).length=2:=rfl
theorem wx(x:bE):(bU x).length=16:=rfl
theorem sU(x:ai):(aR x).length=8:=rfl
def nt{α:Type}(p:α->Bool)(l:List α):Int:=match l.findIdx? p with
 |some i=>i
 |none=> -1
theorem yp{α:Type}{p:α->Bool}{l:List α}{k:Nat}{x:α}(hx:l[k]? =some x)(hp:p x=true)(h:∀ j y,j<k->l[j]? =some y->p y=false):nt p l=k:=by
 have:l.findIdx? p=some k:=by
  rw[List.findIdx?_eq_some_iff_getElem];obtain⟨hk,he⟩:=bI.1 hx;refine⟨hk,by rw[he];exact hp,fun j hj=>?_⟩;have:=h j l[j] hj (by simp[show j<l.length by omega]);simp[this]
 simp[nt,this]
theorem AP{α:Type}{p:α->Bool}{l:List α}(h:∀ (j:Nat) y,l[j]? =some y->p y=false):nt p l= -1:=by
 have:l.findIdx? p=none:=by
  rw[List.findIdx?_eq_none_iff];intro x hx;obtain⟨j,hj⟩:=dN hx;exact h j x hj
 simp[nt,this]
theorem AY{α:Type}(p:α->Bool)(l:List α):decide (0<=nt p l)=l.any p:=by
 unfold nt;cases h:l.findIdx? p with
 |none=>
  rw[List.findIdx?_eq_none_iff] at h;have:l.any p=false:=List.any_eq_false.2 fun x hx=>by simp[h x hx]
  simp[this]
 |some i=>
  obtain⟨hi,hp,_⟩:=List.findIdx?_eq_some_iff_getElem.1 h;have:l.any p=true:=List.any_eq_true.2 ⟨l[i],oS,hp⟩;simp[this]
theorem di(l:List Int):Tr (aT l):=.sl (.map fun _=>.s _)
theorem oW(l:List Int):Tr (ir l):=.sl (.map fun _=>.s _)
theorem gS(l:List ByteArray):Tr (bP l):=.sl (.map fun _=>.s _)
theorem uI(x:cv):∀ a∈cg x,Tr a:=.cons (.s _) (.cons (.s _) (.cons (.s _) (.cons (.s _) (.cons (.s _) (.cons (di _) .nil)))))
theorem Gv(x:gh):∀ a∈gF x,Tr a:=.cons (.s _) (.cons (.s _) .nil)
theorem jz(l:List gh):Tr (lG l):=.sl (.flat Gv)
theorem aeJ(l:List cv):Tr (kx l):=.sl (.flat uI)
theorem rO(x:End):∀ a∈bC x,Tr a:=.cons (.s _) (.cons (.s _) (.cons (.s _) (.cons (.s _) (.cons (.s _) (.cons (.s _) (.cons (.s _) (.cons (.s _) (.cons (.s _) (.cons (.s _) (.cons (.s _) (.cons (di _) (.cons (di _) (.cons (jz _) (.cons (.s _) .nil))))))))))))))
theorem Rc(x:bE):∀ a∈bU x,Tr a:=.cons (aeJ _) (rO _)
theorem Rm(l:List bE):Tr (cG l):=.sl (.flat Rc)
theorem kL(x:ai):∀ a∈aR x,Tr a:=.cons (.s _) (.cons (.s _) (.cons (.s _) (.cons (.s _) (.cons (oW _) (.cons (oW _) (.cons (gS _) (.cons (Rm _) .nil)))))))
theorem Dz{p q:D}(hp:Tr p)(hq:Tr q)(x:ai):∀ a∈a7 p q x,Tr a:=.cons (.s _) (.cons (.s _) (.cons (.s _) (.cons (.s _) (.cons (oW _) (.cons (oW _) (.cons (gS _) (.cons (Rm _) (.cons hp (.cons hq .nil)))))))))
theorem kP{p q:D}(hp:Tr p)(hq:Tr q)(x:ai):Tr (.agg (a7 p q x)):=.agg (Dz hp hq x)
theorem sW{p q:D}{f:ai}(h1:p.one=true)(h2:q.one=true):(a7 p q f).all D.one=true:=by
 simp only[a7,List.all_cons,List.all_nil,h1,h2];rfl
abbrev cS(n:Int):D:=.s (.int .u64 n)
abbrev gL(w:List Int):D:=.agg (w.map cS)
theorem oz(w:List Int):(w.map cS).all D.one=true:=bS.2 fun x hx=>by obtain⟨y,_,rfl⟩:=List.mem_map.1 hx;rfl
theorem acy{w:List Int}{i:Nat}{x:Int}:((w.map cS).set i (cS x)).all D.one=true:=by rw[<- List.map_set];exact oz _
theorem qS(w:List Int):Tr (gL w):=.agg (.map fun _=>.s _)
def xv(a b:Int):Int:=mj .and .u64 a b
def Pa(a b:Int):Int:=mj .or .u64 a b
def En(w:List Int)(m:Nat):List Int:=w.set (m / 64) (Pa (w.getD (m / 64) 0) (IntKind.u64.wrap (1*2 ^ (min (m % 64) 64))))
def qR(w:List Int)(m:Nat):Bool:=xv ((w.getD (m / 64) 0).fdiv (2 ^ (min (m % 64) 64))) 1==1
def r7(w:List Int)(n:Int):List Int:=if 0<=n then En w n.toNat else w
def iA(w v:List Int):Nat->List Int
 |0=>w
 |k+1=>(iA w v k).set k (xv ((iA w v k).getD k 0) (v.getD k 0))
def nn(w v:List Int):List Int:=iA w v 20
@[simp] theorem Rn (w v : List Int) : ∀ k, (iA w v k).length = w.length
 |0=>rfl
 |k+1=>by simp[iA,Rn w v k]
@[simp] theorem aoA (w : List Int) (m : Nat) : (En w m).length = w.length := by simp [En]
@[simp] theorem aoB (w : List Int) (n : Int) : (r7 w n).length = w.length := by unfold r7; split <;> simp
@[simp] theorem Rf (w v : List Int) : (nn w v).length = w.length := Rn w v 20
theorem wrap_i64{n:Nat}(h:n<2 ^ 62):IntKind.i64.wrap (n:Int)=n:=by
 unfold IntKind.wrap;simp[IntKind.signed,IntKind.bits];omega
theorem UP{m:Nat}(h:m<2 ^ 62):IntKind.i64.wrap ((m:Int).tdiv 64)=((m / 64:Nat):Int):=by
 rw[show(m:Int).tdiv 64=((m / 64:Nat):Int) from by rw[Int.tdiv_eq_ediv_of_nonneg oG];omega];exact wrap_i64 oG
theorem UQ(m:Nat):(m:Int).tmod 64=((m % 64:Nat):Int):=by rw[Int.tmod_eq_emod_of_nonneg oG];omega
theorem ib(a b:Int):(a==b)=decide (a=b):=rfl
def jO(n a b:Int):Bool:=decide (a<=n)&&decide (n<=b)
def Gs(b:Int):Bool:=decide (b<33)||decide (126<b)
def nU(s:ByteArray):Bool:=jO s.size 1 120&& !(rJ s).any Gs
def Gt(b:Int):Bool:=(decide (b<97)||decide (122<b))&&(decide (b<48)||decide (57<b))
def isName(s:ByteArray):Bool:=jO s.size 1 12&& !(rJ s).any Gt
def A3(C k:Int):Bool:=decide (k<1)||decide (C<k)
def rQ(l:List Int)(C:Int):Bool:= !l.any (A3 C)
def dz(l:List Int)(r:Int):Int:=if 0<=r then l.getD r.toNat 0 else 0
theorem KT{l:List Int}{i:Nat}{x:Int}(h:l[i]? =some x):dz l i=x:=by
 simp[dz,dF,h]
theorem Rh{l:List Int}{r:Int}(h:¬ (0<=r/\r<l.length)):dz l r=0:=by
 unfold dz;split
 .rename_i h0;have:l.length<=r.toNat:=by omega
  simp[dF,List.getElem?_eq_none this]
 .rfl
theorem lH{n a b:Int}:jO n a b=true↔a<=n/\n<=b:=by simp[jO]
theorem abz{n a b:Int}:jO n a b=false↔¬ (a<=n/\n<=b):=by
 rw[<- Bool.not_eq_true,lH]
def o7(l:List Int)(r:Int):Bool:=dz l r==1||dz l r==2
def rS(l rs:List Int):Bool:=rs.all (o7 l)
def zi(l bK:List Int)(r n:Int):Bool:=jO n 0 (bK.length - 1)&&(dz l r==dz bK n)
def pO(l:List Int)(r want of:Int):Bool:=
 if want=0 then r==0 else if want=1 then dz l r==1 else if want=2 then dz l r==2 else if want=3 then o7 l r
 else dz l r !=0&&dz l r==of
structure Shape where
 to:Int
 a:Int
 b:Int
 args:Int
 low:Int
 high:Int
def jT(s:Shape):List D:=[I s.to,I s.a,I s.b,I s.args,I s.low,I s.high]
@[simp] theorem aoq (x : Shape) : (jT x).length = 6 := rfl
theorem Rj(x:Shape):∀ a∈jT x,Tr a:=.cons (.s _) (.cons (.s _) (.cons (.s _) (.cons (.s _) (.cons (.s _) (.cons (.s _) .nil)))))
def A4(l:List Int)(x:cv)(s:Shape):Int:=if s.to=0\/s.to=1 then dz l x.a else dz l x.to
def ym(l:List Int)(x:cv)(s:Shape):Bool:=if s.args=5 then jO x.args.length 1 6&&rS l x.args else if s.args=6 then decide ((x.args.length:Int)=1)&&rS l x.args else decide ((x.args.length:Int)=0)
def wF(l:List Int)(x:cv)(s:Shape):Bool:=
 pO l x.to s.to 0&&(pO l x.a s.a (A4 l x s)&&(pO l x.b s.b (A4 l x s)&&(ym l x s&&jO x.n s.low s.high)))
def qW(l:List (Int×Shape)):List (Value×D):=l.map fun x=>(.int .u8 x.1,.agg (jT x.2))
def Bd:Shape:=⟨0,0,0,0,0,0⟩
def iw(l:List (Int×Shape))(op:Int):Option Shape:=(l.find? fun x=>x.1==op).map (·.2)
def mA:List (Int×Shape):=[(1,⟨1,0,0,0, -1000000000,1000000000⟩),(2,⟨3,4,0,0,0,0⟩),(3,⟨1,1,1,0,0,0⟩),(4,⟨1,1,1,0,0,0⟩),(5,⟨1,3,4,0,0,0⟩),(6,⟨1,1,1,0,0,0⟩),(7,⟨1,1,1,0,0,0⟩),(8,⟨1,1,0,0,0,0⟩),
 (9,⟨2,0,0,0,0,1⟩),(10,⟨2,0,0,5,0,5⟩),(11,⟨3,2,0,0,0,5⟩),(12,⟨0,2,3,0,0,5⟩),(13,⟨1,2,0,0,0,0⟩),(14,⟨1,2,0,0,0,0⟩),(15,⟨0,1,0,0,0,0⟩)]
def lP:List (Int×Shape):=[(30,⟨1,1,1,0,0,0⟩),(31,⟨1,1,1,0,0,0⟩),(32,⟨1,1,1,0,0,0⟩),(33,⟨1,1,1,0,0,0⟩),(34,⟨1,1,1,0,0,0⟩),(35,⟨0,2,3,0,0,0⟩),(36,⟨3,2,0,0,0,0⟩),(37,⟨3,2,1,0,0,0⟩),(38,⟨0,2,1,6,0,0⟩)]
theorem BS(l:List (Int×Shape)):Tr (.im (qW l)):=.im fun x hx=>by
 obtain⟨y,_,rfl⟩:=List.mem_map.1 hx;exact .agg (Rj _)
theorem Tq(op:Int):∀ l:List (Int×Shape),(cT (.int .u8 op) (qW l)).map (·.2)=(iw l op).map fun s=>.agg (jT s)
 |[]=>rfl
 |(o,s)::l=>by
  have ih:=Tq op l;unfold qW at ih ⊢;simp only[List.map_cons,cT,lx,pY,iw,List.find?_cons] at ih ⊢;by_cases h:o=op
  .subst h;simp
  .have hb:(o==op)=false:=by simpa using h
   simp only[hb,beq_self_eq_true,Bool.and_false,Bool.false_eq_true,if_false,Option.map_map] at ih ⊢;exact ih
theorem Ui{P:Program}{t:TypeId}{C:D}(hz:mB P (lW P t)=C)(op:Int)(l:List (Int×Shape))(J:C=.agg (jT Bd)):fH P t true (cT (.int .u8 op) (qW l))=.aM [.agg (jT ((iw l op).getD Bd)),.s (.bool (iw l op).isSome)]:=by
 have h:=Tq op l;cases h1:cT (.int .u8 op) (qW l) with
 |none=>
  rw[h1] at h;have:iw l op=none:=by simpa using h.symm
  simp only[fH,this,hz,J,Option.getD_none,Option.isSome_none,if_true]
 |some x=>
  rw[h1] at h;cases h2:iw l op with
  |none=>rw[h2] at h;simp at h
  |some s=>
   rw[h2] at h;obtain⟨i,d⟩:=x;simp only[Option.map_some,aG] at h;subst h;simp[fH]
theorem Tp{P:Program}{kt:TypeId}(hk:P.underlying kt=some (.int .u8))(l:List (Int×Shape)):(qW l).all (fun e=>cL P kt e.1)=true:=by
 refine bS.2 fun x hx=>?_;obtain⟨y,_,rfl⟩:=List.mem_map.1 hx;simp[cL,hk]
def dv(a b:Int):Bool:=decide (a=b)
def uX(x:cv):Bool:=decide ((x.args.length:Int)=0)
def kB(f:ai)(b:Int)(x:cv)(phis:Bool)(ahead:Int):Bool:=
 if x.op=16 then dv x.to 0&&(dv (dz f.aO x.a) 3&&(dv x.b 0&&(dv x.n 0&&uX x)))
 else if x.op=17 then dv x.a 0&&(dv x.b 0&&(uX x&&zi f.aO f.bK x.to x.n))
 else if x.op=18 then dv x.to 0&&(dv x.b 0&&(uX x&&zi f.aO f.bK x.a x.n))
 else if x.op=19 then phis&&(decide (0<b)&&(o7 f.aO x.to&&(dv x.a 0&&(dv x.b 0&&(dv x.n 0&&(dv x.args.length ahead&& !x.args.any fun r=> !dv (dz f.aO r) (dz f.aO x.to)))))))
 else(iw mA x.op).isSome&&wF f.aO x ((iw mA x.op).getD Bd)
def Bp(x:cv):Bool:=decide (x.op=0)&&(decide (x.to=0)&&(decide (x.a=0)&&(decide (x.b=0)&&(decide (x.n=0)&&decide ((x.args.length:Int)=0)))))
def tG(x:End):Bool:=decide (x.kind=0)&&(decide (x.a=0)&&(decide (x.b=0)&&(decide (x.to=0)&&(decide (x.fY=0)&&(x.name.toList==[]&&(decide (x.others= -1)&&(decide ((x.args.length:Int)=0)&&(decide ((x.aP.length:Int)=0)&&Bp x.ins))))))))
def eu(f:ai)(n:Int):Bool:=jO n 0 (f.blocks.length - 1)
def sd(f:ai)(wsq:List gh)(i:Nat)(w:gh):Bool:=isName w.name&&(eu f w.to&& !(wsq.take i).any fun v=>v.name.toList==w.name.toList)
def HJ(f:ai)(wsq:List gh):Bool:=wsq.zipIdx.all fun x=>sd f wsq x.2 x.1
theorem Ze{f:ai}{wsq:List gh}(h:∀ (i:Nat) w,wsq[i]? =some w->sd f wsq i w=true):HJ f wsq=true:=by
 refine bS.2 fun x hx=>?_;obtain⟨h1,h2⟩:=List.mem_zipIdx' hx;exact h x.2 x.1 (by rw[h2];simp[h1])
theorem YK{f:ai}{wsq:List gh}{i:Nat}{w:gh}(C:wsq[i]? =some w)(h:sd f wsq i w=false):HJ f wsq=false:=by
 refine Bool.eq_false_iff.2 fun ht=>?_;have hx:(w,i)∈wsq.zipIdx:=List.mem_zipIdx_iff_getElem?.2 C;have:=bS.1 ht _ hx;rw[h] at this;cases this
def oX(f:ai)(x:End):Bool:=HJ f x.aP&&(decide ((x.aP.length:Int)<=7)&&(decide (x.others= -1)||eu f x.others))
def o6:cv:=⟨0,0,0,0,0,[]⟩
def eA(f:ai)(x:End):Bool×End:=
 let r:End:={ x with kind:=0 }
 if x.kind=1 then(eu f x.to,{ r with to:=0 })
 else if x.kind=2 then(dv (dz f.aO x.a) 1&&(eu f x.to&&eu f x.fY),{ r with a:=0,to:=0,fY:=0 })
 else if x.kind=3 then(if f.result≠0/\f.iter=false then dv (dz f.aO x.a) f.result else dv x.a (-1),{ r with a:=0 })
 else if x.kind=4 then(isName x.name,{ r with name:=.empty })
 else if x.kind=5 then((iw lP x.ins.op).isSome&&(wF f.aO x.ins ((iw lP x.ins.op).getD Bd)&&(eu f x.to&&oX f x)),{ r with ins:=o6,to:=0,aP:=[],others:= -1 })
 else if x.kind=6 then(nU x.name&&(decide ((x.args.length:Int)<=6)&&(rS f.aO x.args&&((dv x.a (-1)||o7 f.aO x.a)&&(eu f x.to&&oX f x)))),{ r with name:=.empty,args:=[],a:=0,to:=0,aP:=[],others:= -1 })
 else if x.kind=7 then(nU x.name&&(decide ((x.args.length:Int)<=6)&&(rS f.aO x.args&&(dv (dz f.aO x.a) 3&&eu f x.to))),{ r with name:=.empty,args:=[],a:=0,to:=0 })
 else if x.kind=8 then(dv (dz f.aO x.a) 3&&(o7 f.aO x.b&&(eu f x.to&&(eu f x.fY&&oX f x))),{ r with a:=0,b:=0,to:=0,fY:=0,aP:=[],others:= -1 })
 else if x.kind=9 then(f.iter&&(dv (dz f.aO x.a) f.result&&eu f x.to),{ r with a:=0,to:=0 })
 else(false,r)
def bO(l:List Int)(n:Int):Bool:=l.any fun c=>n==c
def nO(n:Int):Int:=1200+n
def uE:List Int:=[1,2,3,4,5,6,7,8,9,10,11,13,14,17,19]
def yv:List Int:=[30,31,32,33,34,36,37]
def kO(x:cv):Int:=if bO uE x.op then x.to else if bO yv x.op then x.to else -1
def ku(x:End):Int:=if x.kind=5 then kO x.ins else if bO [6,7] x.kind then x.a else if x.kind=8 then x.b else -1
def uN:List Int:=[2,8,11,13,14,15,16,18,36]
def yC:List Int:=[3,4,5,6,7,12,30,31,32,33,34,35,37]
def ei(x:cv):List Int:=if bO uN x.op then [x.a] else if bO yC x.op then [x.a,x.b] else if x.op=10 then x.args else if x.op=38 then x.a::x.b::x.args else []
def dX(x:End):List Int:=if bO [2,8,9] x.kind then [x.a] else if x.kind=3 then(if x.a≠ -1 then [x.a] else []) else if x.kind=5 then ei x.ins else if bO [6,7] x.kind then x.args else []
def iW(f:ai)(x:End):Bool:=(eA f x).1&&tG (eA f x).2
end Go.Argus
namespace Go.Argus
section
variable{κ:Type}[DecidableEq κ]
def mn:List κ->List κ->List κ
 |acc,[]=>acc
 |acc,k::ks=>mn (if k∈acc then acc else acc++[k]) ks
def bt(ks:List κ):List κ:=mn [] ks
def bl(ks:List κ):List Nat:=ks.map fun k=>(bt ks).idxOf k
theorem Ps(acc a b:List κ):mn acc (a++b)=mn (mn acc a) b:=by
 induction a generalizing acc with
 |nil=>rfl
 |cons k a ih=>simp only[List.cons_append,mn,ih]
theorem aaW(ks:List κ)(k:κ):bt (ks++[k])=if k∈bt ks then bt ks else bt ks++[k]:=by
 unfold bt;rw[Ps];rfl
theorem Yo{acc ks:List κ}(h:acc.Nodup):(mn acc ks).Nodup:=by
 induction ks generalizing acc with
 |nil=>exact h
 |cons k ks ih=>
  simp only[mn];refine ih ?_;split
  .exact h
  .rename_i hk;exact List.nodup_append.2 ⟨h,oS,fun a ha b hb=>by simp at hb;subst hb;exact fun e=>hk (e▸ha)⟩
theorem YO{acc ks:List κ}{x:κ}:x∈mn acc ks↔x∈acc\/x∈ks:=by
 induction ks generalizing acc with
 |nil=>simp[mn]
 |cons k ks ih=>
  simp only[mn,ih,List.mem_cons];by_cases h:k∈acc
  .simp only[if_pos h];constructor
   .rintro(h|h)<;>simp[h]
   .rintro(h1|rfl|h1)
    .exact .inl h1
    .exact .inl h
    .exact .inr h1
  .simp only[if_neg h,List.mem_append,List.mem_cons,List.not_mem_nil,or_false,or_assoc]
theorem Df(ks:List κ):(bt ks).Nodup:=Yo oS
theorem nQ{ks:List κ}{x:κ}:x∈bt ks↔x∈ks:=by unfold bt;rw[YO];simp
theorem Yj(acc ks:List κ):acc<+:mn acc ks:=by
 induction ks generalizing acc with
 |nil=>exact List.prefix_refl _
 |cons k ks ih=>
  simp only[mn];refine List.IsPrefix.trans ?_ (ih _);split
  .exact List.prefix_refl _
  .exact List.prefix_append _ _
theorem PR(a b:List κ):bt a<+:bt (a++b):=by unfold bt;rw[Ps];exact Yj _ _
theorem Qm{a b:List κ}(h:a<+:b){x:κ}(hx:x∈a):b.idxOf x=a.idxOf x:=by
 obtain⟨c,rfl⟩:=h;rw[List.idxOf_append,if_pos hx]
@[simp] theorem R7 (ks : List κ) : (bl ks).length = ks.length := by simp [bl]
theorem uJ(ks:List κ):(bt ks).length<=ks.length:=List.Nodup.length_le_of_subset (Df ks) fun x hx=>nQ.1 hx
theorem Gp{ks:List κ}{i:Nat}{k:κ}(h:ks[i]? =some k):(bl ks)[i]? =some ((bt ks).idxOf k):=by simp[bl,h]
theorem Ll{ks:List κ}{i n:Nat}(h:(bl ks)[i]? =some n):n<(bt ks).length:=by
 unfold bl at h;rw[List.getElem?_map] at h;obtain⟨k,hk,rfl⟩:=cU.1 h;exact List.idxOf_lt_length_of_mem (nQ.2 (bu hk))
theorem TA{l:List κ}{x y:κ}(hx:x∈l)(h:l.idxOf x=l.idxOf y):x=y:=by
 have h1:=List.idxOf_lt_length_of_mem hx;have e1:l[l.idxOf x]=x:=List.getElem_idxOf h1;have h2:l.idxOf y<l.length:=h▸h1;have e2:l[l.idxOf y]=y:=List.getElem_idxOf h2;rw[<- e1, <- e2];congr 1
theorem A1{ks:List κ}{i j:Nat}{a b:κ}(hi:ks[i]? =some a)(hj:ks[j]? =some b):(bl ks)[i]? =(bl ks)[j]? ↔a=b:=by
 rw[Gp hi,Gp hj];constructor
 .intro h;exact TA (nQ.2 (bu hi)) (by simpa using h)
 .rintro rfl;rfl
end
theorem JC{α:Type}[DecidableEq α]:∀ {l m:List α},m.Nodup->(∀ x∈m,x∈l)->l.length<=m.length->l.Nodup
 |[],_,_,_,_=>List.nodup_nil
 |a::l,m,hm,hc,hl=>by
  have h1:a∉l:=fun ha=>by
   have:=List.Nodup.length_le_of_subset hm (l₂:=l) fun x hx=>by
    rcases List.mem_cons.1 (hc x hx) with rfl|h
    .exact ha
    .exact h
   simp at hl;omega
  refine List.nodup_cons.2 ⟨h1,?_⟩;by_cases ha:a∈m
  .refine JC (m:=m.erase a) (hm.erase a) (fun x hx=>?_) ?_
   .have C:x≠a:=by rintro rfl;exact(List.Nodup.mem_erase_iff hm).1 hx |>.1 rfl
    rcases List.mem_cons.1 (hc x (List.mem_of_mem_erase hx)) with rfl|h
    .exact absurd rfl C
    .exact h
   .rw[List.length_erase_of_mem ha];simp at hl;omega
  .refine JC (m:=m) hm (fun x hx=>?_) (by simp at hl;omega);rcases List.mem_cons.1 (hc x hx) with rfl|h
   .exact absurd hx ha
   .exact h
section
variable{κ ι:Type}[DecidableEq κ][DecidableEq ι]
theorem Rx{a:List κ}{b:List ι}{g:ι->κ}(h:a=b.map g):(bt a).length<=(bt b).length:=by
 have:=List.Nodup.length_le_of_subset (Df a) (l₂:=(bt b).map g) fun x hx=>by
  rw[nQ,h] at hx;obtain⟨y,hy,rfl⟩:=List.mem_map.1 hx;exact List.mem_map_of_mem (nQ.2 hy)
 simpa using this
theorem abM{a:List κ}{b:List ι}{g:ι->κ}(h:a=b.map g)(hl:(bt b).length<=(bt a).length){x y:ι}(hx:x∈b)(hy:y∈b)(e:g x=g y):x=y:=by
 have hn:((bt b).map g).Nodup:=JC (Df a) (fun z hz=>by
  rw[nQ,h] at hz;obtain⟨w,C,rfl⟩:=List.mem_map.1 hz
  exact List.mem_map_of_mem (nQ.2 C)) (by simpa using hl)
 obtain⟨i,hi⟩:=dN (nQ.2 hx);obtain⟨j,hj⟩:=dN (nQ.2 hy);have h1:((bt b).map g)[i]? =some (g x):=by simp[hi]
 have h2:((bt b).map g)[j]? =some (g y):=by simp[hj]
 have af:i<((bt b).map g).length:=(bI.1 h1).1
 have J:i=j:=by
  rw[<- e] at h2;exact(List.getElem?_inj af hn).1 (h1.trans h2.symm)
 subst J;rw[hi] at hj;exact Option.some.inj hj
theorem Dq(ks:List κ):(bt (bl ks)).length=(bt ks).length:=by
 refine Nat.le_antisymm (Rx (g:=fun k=>(bt ks).idxOf k) rfl) ?_
 have hn:((bt ks).map fun k=>(bt ks).idxOf k).Nodup:=by
  refine List.pairwise_map.2 ((Df ks).imp_of_mem fun {a b} ha hb C e=>C (TA ha e))
 have:=List.Nodup.length_le_of_subset hn (l₂:=bt (bl ks)) fun x hx=>by
  obtain⟨k,hk,rfl⟩:=List.mem_map.1 hx;rw[nQ];exact List.mem_map_of_mem (f:=fun k=>(bt ks).idxOf k) (nQ.1 hk)
 simpa using this
end
def lS(ca:List (List Nat))(clq:List Nat)(i:Nat):List Nat:=clq.getD i 0::(ca.getD i []).map fun t=>clq.getD t 0
def eJ(ca:List (List Nat))(clq:List Nat):List (List Nat):=(range ca.length).map (lS ca clq)
def yB(ca:List (List Nat)):Nat->List Nat->Nat->List Nat
 |0,clq,_=>clq
 |ek+1,clq,many=>if(bt (eJ ca clq)).length=many then bl (eJ ca clq) else yB ca ek (bl (eJ ca clq)) (bt (eJ ca clq)).length
def pN(sn:List Nat)(ca:List (List Nat)):List Nat:=yB ca (sn.length+1) sn (bt sn).length
@[simp] theorem aoy (ca : List (List Nat)) (clq : List Nat) : (eJ ca clq).length = ca.length := by simp [eJ]
theorem AJ{ca:List (List Nat)}{clq:List Nat}{i:Nat}(h:i<ca.length):(eJ ca clq)[i]? =some (lS ca clq i):=by simp[eJ,h]
theorem RA{ca:List (List Nat)}{clq:List Nat}(h:clq.length=ca.length):clq=(eJ ca clq).map fun k=>k.headD 0:=by
 refine List.ext_getElem? fun i=>?_;by_cases hi:i<clq.length
 .rw[List.getElem?_map,AJ oG];simp[lS,dF,hi]
 .rw[List.getElem?_eq_none oG,List.getElem?_eq_none oP]
theorem Q4{ca:List (List Nat)}{clq:List Nat}(h:clq.length=ca.length):(bt clq).length<=(bt (eJ ca clq)).length:=Rx (RA h)
theorem P6{ca:List (List Nat)}{p:List Nat->Prop}(hs:∀ clq,clq.length=ca.length->p clq->p (bl (eJ ca clq))):∀ (ek:Nat) (clq:List Nat) (many:Nat),clq.length=ca.length->many=(bt clq).length->ca.length<ek+many->p clq->
 ∃ C,C.length=ca.length/\p C/\(bt (eJ ca C)).length=(bt C).length/\yB ca ek clq many=bl (eJ ca C)
 |0,clq,many,h1,h2,h3,h4=>by
  have:=uJ clq;omega
 |ek+1,clq,many,h1,h2,h3,h4=>by
  unfold yB;split
  .rename_i h;exact⟨clq,h1,h4,oG,rfl⟩
  .rename_i h;have:=Q4 h1;exact P6 hs ek _ _ oS (Dq _).symm oG (hs clq h1 h4)
theorem Dg{sn:List Nat}{ca:List (List Nat)}{p:List Nat->Prop}(hl:sn.length=ca.length)(h0:p sn)(hs:∀ clq,clq.length=ca.length->p clq->p (bl (eJ ca clq))):
 ∃ C,C.length=ca.length/\p C/\(bt (eJ ca C)).length=(bt C).length/\pN sn ca=bl (eJ ca C):=
 P6 hs _ _ _ hl rfl oG h0
theorem rP{α:Type}{l:List α}{i:Nat}{d x:α}(h:l[i]? =some x):l.getD i d=x:=by simp[dF,h]
theorem dQ{α:Type}{l:List α}{i:Nat}{d:α}(h:i<l.length):l[i]? =some (l.getD i d):=by simp[dF,h]
theorem A5{ca:List (List Nat)}{clq:List Nat}{i j:Nat}(hi:i<ca.length)(hj:j<ca.length):(bl (eJ ca clq)).getD i 0=(bl (eJ ca clq)).getD j 0↔lS ca clq i=lS ca clq j:=by
 rw[<- A1 (AJ (clq:=clq) hi) (AJ (clq:=clq) hj),dQ (d:=0) oP,dQ (d:=0) (l:=bl _) (i:=j) oP];simp
def xm(ca:List (List Nat)):Prop:=∀ (i:Nat) t,t∈ca.getD i []->t<ca.length
structure tm(sn:List Nat)(ca:List (List Nat))(d:Nat->Nat):Prop where
 sh:∀ i j,i<ca.length->j<ca.length->d i=d j->sn.getD i 0=sn.getD j 0
 ca:∀ i j,i<ca.length->j<ca.length->d i=d j->(ca.getD i []).map d=(ca.getD j []).map d
theorem Hn{d e:Nat->Nat}{n:Nat}(h:∀ i j,i<n->j<n->d i=d j->e i=e j):∀ {a b:List Nat},(∀ t∈a,t<n)->(∀ t∈b,t<n)->a.map d=b.map d->a.map e=b.map e
 |[],[],_,_,_=>rfl
 |[],_::_,_,_,e=>by simp at e
 |_::_,[],_,_,e=>by simp at e
 |x::a,y::b,ha,hb,e=>by
  simp only[List.map_cons,List.cons.injEq] at e ⊢;exact⟨h x y (ha x oS) (hb y oS) e.1,Hn h (fun t ht=>ha t (List.mem_cons_of_mem _ ht)) (fun t ht=>hb t (List.mem_cons_of_mem _ ht)) e.2⟩
theorem FQ{sn:List Nat}{ca:List (List Nat)}(hl:sn.length=ca.length)(J:xm ca):tm sn ca fun i=>(pN sn ca).getD i 0:=by
 obtain⟨clq,h1,h2,M,C⟩:=Dg (p:=fun clq=>∀ i j,i<ca.length->j<ca.length->clq.getD i 0=clq.getD j 0->sn.getD i 0=sn.getD j 0) hl (fun i j _ _ h=>h) fun clq U hp i j hi hj h=>by
  rw[A5 hi hj] at h;exact hp i j hi hj (by simpa[lS] using(List.cons.inj h).1)
 have hk:∀ i j,i<ca.length->j<ca.length->clq.getD i 0=clq.getD j 0->lS ca clq i=lS ca clq j:=fun i j hi hj h=>
  abM (RA h1) (Nat.le_of_eq M) (bu (AJ hi)) (bu (AJ hj)) (by simpa[lS] using h)
 refine⟨fun i j hi hj h=>?_,fun i j hi hj h=>?_⟩
 .rw[C,A5 hi hj] at h;exact h2 i j hi hj (List.cons.inj h).1
 .rw[C,A5 hi hj] at h;rw[C];exact Hn (d:=fun t=>clq.getD t 0) (n:=ca.length) (fun a b ha hb e=>(A5 ha hb).2 (hk a b ha hb e)) (J i) (J j) (List.cons.inj h).2
theorem YP{sn:List Nat}{ca:List (List Nat)}(hl:sn.length=ca.length)(J:xm ca){d:Nat->Nat}(hd:tm sn ca d){i j:Nat}(hi:i<ca.length)(hj:j<ca.length)(h:d i=d j):(pN sn ca).getD i 0=(pN sn ca).getD j 0:=by
 have C:∀ clq:List Nat,clq.length=ca.length->(∀ i j,i<ca.length->j<ca.length->d i=d j->clq.getD i 0=clq.getD j 0)->∀ i j,i<ca.length->j<ca.length->d i=d j->(bl (eJ ca clq)).getD i 0=(bl (eJ ca clq)).getD j 0:=fun clq _ hp i j hi hj h=>by
  rw[A5 hi hj];unfold lS;rw[hp i j hi hj h,Hn hp (J i) (J j) (hd.ca i j hi hj h)]
 obtain⟨clq,h1,h2,U,M⟩:=Dg (p:=fun clq=>∀ i j,i<ca.length->j<ca.length->d i=d j->clq.getD i 0=clq.getD j 0) hl hd.sh C;rw[M];exact C clq h1 h2 i j hi hj h
theorem adI{R:Nat->Nat->Prop}{e:Nat->Nat}{n:Nat}(h:∀ i j,i<n->j<n->R i j->e i=e j){a b:List Nat}(ha:∀ t∈a,t<n)(hb:∀ t∈b,t<n)(hl:a.length=b.length)(hr:∀ k,k<a.length->R (a.getD k 0) (b.getD k 0)):a.map e=b.map e:=by
 refine List.ext_getElem? fun k=>?_;by_cases hk:k<a.length
 .have h1:a[k]? =some (a.getD k 0):=dQ hk;have h2:b[k]? =some (b.getD k 0):=dQ oG;rw[List.getElem?_map,List.getElem?_map,h1,h2];exact congrArg some (h _ _ (ha _ (bu h1)) (hb _ (bu h2)) (hr k hk))
 .rw[List.getElem?_eq_none oP,List.getElem?_eq_none oP]
theorem YC{sn:List Nat}{ca:List (List Nat)}(hl:sn.length=ca.length)(J:xm ca){R:Nat->Nat->Prop}(hs:∀ i j,i<ca.length->j<ca.length->R i j->sn.getD i 0=sn.getD j 0)
 (hc:∀ i j,i<ca.length->j<ca.length->R i j->(ca.getD i []).length=(ca.getD j []).length/\∀ k,k<(ca.getD i []).length->R ((ca.getD i []).getD k 0) ((ca.getD j []).getD k 0)) {i j:Nat} (hi:i<ca.length) (hj:j<ca.length) (h:R i j):(pN sn ca).getD i 0=(pN sn ca).getD j 0:=by
 have C:∀ clq:List Nat,clq.length=ca.length->(∀ i j,i<ca.length->j<ca.length->R i j->clq.getD i 0=clq.getD j 0)->∀ i j,i<ca.length->j<ca.length->R i j->(bl (eJ ca clq)).getD i 0=(bl (eJ ca clq)).getD j 0:=fun clq _ hp i j hi hj h=>by
  rw[A5 hi hj];unfold lS;rw[hp i j hi hj h,adI hp (J i) (J j) (hc i j hi hj h).1 (hc i j hi hj h).2]
 obtain⟨clq,h1,h2,U,M⟩:=Dg (p:=fun clq=>∀ i j,i<ca.length->j<ca.length->R i j->clq.getD i 0=clq.getD j 0) hl hs C;rw[M];exact C clq h1 h2 i j hi hj h
theorem ZX{sn:List Nat}{ca:List (List Nat)}(hl:sn.length=ca.length):(pN sn ca).length=ca.length:=by
 obtain⟨clq,h1,h2,J,C⟩:=Dg (p:=fun _=>True) hl trivial fun _ _ _=>trivial;rw[C];simp
theorem Q6{sn:List Nat}{ca:List (List Nat)}(hl:sn.length=ca.length):∃ ks:List (List Nat),ks.length=ca.length/\pN sn ca=bl ks:=by
 obtain⟨clq,h1,h2,J,C⟩:=Dg (p:=fun _=>True) hl trivial fun _ _ _=>trivial;exact⟨_,oS,C⟩
def Dr(clq:List Nat)(m:Nat):List (List Nat):=(range m).map fun k=>(range clq.length).filter fun i=>clq.getD i 0==k
theorem aa4{κ:Type}[DecidableEq κ](ks:List κ)(i:Nat):(bl ks).take i=bl (ks.take i):=by
 unfold bl;rw[<- List.map_take];refine List.map_congr_left fun k hk=>?_
 have hp:bt (ks.take i)<+:bt ks:=by
  have:=PR (ks.take i) (ks.drop i)
  rwa[List.take_append_drop] at this
 exact Qm hp (nQ.2 hk)
def entries(c:List (List Int)):List (Int×Nat):=c.zipIdx.flatMap fun x=>x.1.map fun i=>(i,x.2)
def jq(es:List (Int×Nat))(i:Int):Bool:=es.any fun e=>e.1==i
def fC(es:List (Int×Nat))(i:Int):Nat:=match es.find? fun e=>e.1==i with
 |some e=>e.2
 |none=>0
def tO(N:Nat)(c:List (List Int))(n:Nat)(x:List Int)(k:Nat):Bool:=match x[k]? with
 |none=>true
 |some i=> !(jq (entries (c.take n)++(x.take k).map fun j=>(j,n)) i)&&(decide (0<=i)&&(decide (i<N)&&(decide (k=0)||decide (x.getD (k - 1) 0<i))))
def yk(c:List (List Int))(n:Nat):Int:=if n=0 then -1 else(c.getD (n - 1) []).headD 0
def D7(c:List (List Int))(n:Nat)(x:List Int):Bool:=match x with
 |[]=>false
 |a::_=>decide (yk c n<a)
def qK(N:Nat)(c:List (List Int))(n:Nat):Bool:=match c[n]? with
 |none=>true
 |some x=>D7 c n x&&(range x.length).all (tO N c n x)
def BL(sn:List Nat)(ca:List (List Nat))(es:List (Int×Nat))(a i:Int):Bool:=
 sn.getD i.toNat 0==sn.getD a.toNat 0&&decide ((ca.getD i.toNat []).map (fun(t:Nat)=>fC es t)=(ca.getD a.toNat []).map fun(t:Nat)=>fC es t)
def uL(sn:List Nat)(ca:List (List Nat))(es:List (Int×Nat))(x:List Int):Bool:=(x.drop 1).all (BL sn ca es (x.headD 0))
def rv(sn:List Nat)(ca:List (List Nat))(c:List (List Int)):Bool:=
 (range c.length).all (qK ca.length c)&&(decide ((entries c).length=ca.length)&&c.all (uL sn ca (entries c)))
theorem Pr{c:List (List Int)}{n:Nat}{x:List Int}(h:c[n]? =some x):entries (c.take (n+1))=entries (c.take n)++x.map fun i=>(i,n):=by
 have hn:n<c.length:=(bI.1 h).1;unfold entries;rw[List.take_add_one,h,List.zipIdx_append,List.flatMap_append];simp[List.length_take,Nat.min_eq_left (Nat.le_of_lt hn)]
theorem Zc{c:List (List Int)}{i:Int}{n:Nat}:(i,n)∈entries c↔∃ x,c[n]? =some x/\i∈x:=by
 unfold entries;simp only[List.mem_flatMap,List.mem_map,bR];constructor
 .rintro⟨⟨x,m⟩,hx,j,hj,rfl,rfl⟩;exact⟨x,List.mem_zipIdx_iff_getElem?.1 hx,hj⟩
 .rintro⟨x,hx,hi⟩;exact⟨(x,n),List.mem_zipIdx_iff_getElem?.2 hx,i,hi,rfl,rfl⟩
theorem adJ{es:List (Int×Nat)}{i:Int}:jq es i=true↔∃ n,(i,n)∈es:=by
 unfold jq;rw[List.any_eq_true];constructor
 .rintro⟨⟨j,n⟩,h,e⟩;simp at e;subst e;exact⟨n,h⟩
 .rintro⟨n,h⟩;exact⟨_,h,oS⟩
theorem abT{es:List (Int×Nat)}{i:Int}:jq es i=true↔i∈es.map (·.1):=by
 rw[adJ,List.mem_map];constructor
 .rintro⟨n,h⟩;exact⟨_,h,rfl⟩
 .rintro⟨⟨j,n⟩,h,rfl⟩;exact⟨n,h⟩
theorem Qp{N:Nat}{c:List (List Int)}(h:(range c.length).all (qK N c)=true):∀ n,n<=c.length->((entries (c.take n)).map (·.1)).Nodup/\∀ e∈entries (c.take n),0<=e.1/\e.1<N
 |0,_=>⟨by simp[entries],by simp[entries]⟩
 |n+1,hn=>by
  obtain⟨h1,h2⟩:=Qp h n oG;obtain⟨x,hx⟩:∃ x,c[n]? =some x:=⟨_,aL oG⟩
  have hr:=bS.1 h n (List.mem_range.2 oG);unfold qK at hr;rw[hx] at hr;simp only[aW] at hr
  have hk:∀ k,k<=x.length->((entries (c.take n)++(x.take k).map fun i=>(i,n)).map (·.1)).Nodup/\∀ e∈entries (c.take n)++(x.take k).map fun i=>(i,n),0<=e.1/\e.1<N:=by
   intro k
   induction k with
   |zero=>intro _;simpa using⟨h1,fun a b h=>h2 (a,b) h⟩
   |succ k ih=>
    intro hk;obtain⟨C,J⟩:=ih oG;obtain⟨i,hi⟩:∃ i,x[k]? =some i:=⟨_,aL oG⟩
    have he:=bS.1 hr.2 k (List.mem_range.2 oG);unfold tO at he;rw[hi] at he;simp only[aW,Bool.not_eq_true',decide_eq_true_eq] at he;obtain⟨e1,e2,e3,_⟩:=he;rw[List.take_add_one,hi];simp only[Option.toList_some,List.map_append,List.map_cons,List.map_nil, <- List.append_assoc];refine⟨?_,fun e he=>?_⟩
    .rw[<- List.map_append];refine List.nodup_append.2 ⟨C,oS,fun a ha b hb=>?_⟩;simp only[List.mem_cons,List.not_mem_nil,or_false] at hb;subst hb;rintro rfl;rw[<- abT,e1] at ha;cases ha
    .rw[List.mem_append] at he;rcases he with he|he
     .exact J e he
     .simp only[List.mem_cons,List.not_mem_nil,or_false] at he;subst he;exact⟨e2,e3⟩
  have:=hk x.length (aZ _);rw[List.take_length] at this
  rwa[Pr hx]
abbrev ao(l:List Nat):List Int:=l.map fun(n:Nat)=>(n:Int)
def iH(clq:List Nat)(m:Nat):List (List Int):=(Dr clq m).map ao
theorem Sd{clq:List Nat}{m n:Nat}(h:n<m):(iH clq m)[n]? =some (ao ((range clq.length).filter fun i=>clq.getD i 0==n)):=by
 unfold iH Dr;simp[h]
theorem KQ(clq:List Nat)(m:Nat):(iH clq m).length=m:=by simp[iH,Dr]
theorem abS{clq:List Nat}{n i:Nat}:i∈(range clq.length).filter (fun i=>clq.getD i 0==n)↔i<clq.length/\clq.getD i 0=n:=by simp
section
variable{κ:Type}[DecidableEq κ]
theorem abb{ks:List κ}{n:Nat}(h:n<(bt ks).length):∃ j:Nat,(bl ks)[j]? =some n:=by
 obtain⟨q,hq⟩:∃ q,(bt ks)[n]? =some q:=⟨_,aL h⟩
 have C:q∈bt ks:=bu hq;obtain⟨j,hj⟩:=dN (nQ.1 C);refine⟨j,?_⟩;rw[Gp hj];have h1:=List.idxOf_lt_length_of_mem C;have h2:(bt ks)[(bt ks).idxOf q]? =some q:=by rw[aL h1,List.getElem_idxOf]
 exact congrArg some ((List.getElem?_inj h1 (Df ks)).1 (h2.trans hq.symm))
end
theorem Kt(N:Nat)(p:Nat->Bool):((range N).filter p).Pairwise (·<·):=List.Pairwise.filter _ List.pairwise_lt_range
theorem aae{N:Nat}{p:Nat->Bool}{a:Nat}{l:List Nat}(h:(range N).filter p=a::l):∀ j,j<N->p j=true->a<=j:=fun j hj hp=>by
 have hm:j∈(range N).filter p:=by simp[hj,hp]
 have ha:=Kt N p;rw[h] at hm ha;rcases List.mem_cons.1 hm with rfl|hm
 .exact aZ _
 .exact Nat.le_of_lt ((List.pairwise_cons.1 ha).1 j hm)
def atR(c:List (List Int))(n:Int):Int:=nt (fun x=>x.any fun i=>i==n) c
abbrev PW:=(Nat×Nat)×List Nat
def o9(ca:List (List Nat))(p:Nat×Nat)(k:Nat):Nat×Nat:=((ca.getD p.1 []).getD k 0,(ca.getD p.2 []).getD k 0)
def w9(ca:List (List Nat))(fr:Nat×Nat)(x:PW)(st:List (Nat×Nat)×List PW)(k:Nat):List (Nat×Nat)×List PW:=
 if o9 ca x.1 k≠fr/\o9 ca x.1 k∉st.1 then(st.1++[o9 ca x.1 k],st.2++[(o9 ca x.1 k,x.2++[k])]) else st
def pI(ca:List (List Nat))(fr:Nat×Nat)(x:PW)(st:List (Nat×Nat)×List PW)(n:Nat):List (Nat×Nat)×List PW:=(range n).foldl (w9 ca fr x) st
def w8(sn:List Nat)(ca:List (List Nat))(fr:Nat×Nat)(st:List (Nat×Nat)×List PW):List (Nat×Nat)×List PW:=match st.2 with
 |[]=>st
 |x::_=>if sn.getD x.1.1 0=sn.getD x.1.2 0 then((pI ca fr x st (ca.getD x.1.1 []).length).1,(pI ca fr x st (ca.getD x.1.1 []).length).2.drop 1) else(st.1,st.2.drop 1)
def tz(sn:List Nat)(ca:List (List Nat))(fr:Nat×Nat):Nat->List (Nat×Nat)×List PW->List PW
 |0,_=>[]
 |f+1,st=>match st.2 with
  |[]=>[]
  |x::_=>x::tz sn ca fr f (w8 sn ca fr st)
def qL(sn:List Nat)(ca:List (List Nat))(a b:Nat):List PW:=tz sn ca (a,b) (ca.length*ca.length+2) ([],[((a,b),[])])
def HH(sn:List Nat)(ca:List (List Nat))(a b:Nat):Option PW:=(qL sn ca a b).find? fun x=>sn.getD x.1.1 0 !=sn.getD x.1.2 0
section
variable{sn:List Nat}{ca:List (List Nat)}
inductive tP(sn:List Nat)(ca:List (List Nat))(fr:Nat×Nat):List Nat->Nat×Nat->Prop
 |nil:tP sn ca fr [] fr
 |snoc (w:List Nat) (p:Nat×Nat) (k:Nat) (h:tP sn ca fr w p) (hs:sn.getD p.1 0=sn.getD p.2 0) (hk:k<(ca.getD p.1 []).length):tP sn ca fr (w++[k]) (o9 ca p k)
structure BI(sn:List Nat)(ca:List (List Nat))(fr:Nat×Nat)(Y:List PW)(S:List (Nat×Nat))(O:List PW):Prop where
 lead:∀ x∈Y++O,tP sn ca fr x.2 x.1
 qH:(Y++O).map (·.1)=fr::S
 nodup:(fr::S).Nodup
 yd:(Y++O).Pairwise fun x y=>x.2.length<=y.2.length
 NJ:∀ x∈O,∀ y∈O,x.2.length<=y.2.length+1
 done:∀ x∈Y,sn.getD x.1.1 0=sn.getD x.1.2 0->∀ k,k<(ca.getD x.1.1 []).length->∃ y∈Y++O,y.1=o9 ca x.1 k/\y.2.length<=x.2.length+1
theorem Lq{fr:Nat×Nat}{x:PW}(hs:sn.getD x.1.1 0=sn.getD x.1.2 0)(hx:tP sn ca fr x.2 x.1){Y:List PW}:∀ (n:Nat) {S:List (Nat×Nat)} {O:List PW},n<=(ca.getD x.1.1 []).length->BI sn ca fr Y S (x::O)->
 ∃ C:List PW,(pI ca fr x (S,x::O) n).2=x::C/\BI sn ca fr Y (pI ca fr x (S,x::O) n).1 (x::C)/\(∀ y∈C,y.2.length<=x.2.length+1)/\∀ k,k<n->∃ y∈Y++x::C,y.1=o9 ca x.1 k/\y.2.length<=x.2.length+1
 |0,S,O,_,h=>⟨O,rfl,h,fun y hy=>h.NJ y (List.mem_cons_of_mem _ hy) x oS,fun k hk=>by omega⟩
 |n+1,S,O,hn,h=>by
  obtain⟨C,h1,h2,M,h4⟩:=Lq hs hx n (S:=S) (O:=O) oG h;have hE:pI ca fr x (S,x::O) (n+1)=w9 ca fr x (pI ca fr x (S,x::O) n) n:=by unfold pI;rw[List.range_succ,List.foldl_append];rfl
  have hp:pI ca fr x (S,x::O) n=((pI ca fr x (S,x::O) n).1,x::C):=by rw[<- h1]
  generalize (pI ca fr x (S,x::O) n).1=S' at*
  rw[hE,hp]
  have J:∀ y∈Y++x::C,y.2.length<=x.2.length+1:=fun y hy=>by
   rcases List.mem_append.1 hy with hy|hy
   .have:=(List.pairwise_append.1 h2.yd).2.2 y hy x oS;omega
   .rcases List.mem_cons.1 hy with rfl|hy
    .omega
    .exact M y hy
  unfold w9;split
  .rename_i hq;refine⟨C++[(o9 ca x.1 n,x.2++[n])],rfl,⟨fun y hy=>?_,?_,?_,?_,fun y hy z hz=>?_,fun y hy CU k hk=>?_⟩,fun y hy=>?_,fun k hk=>?_⟩
   .rw[<- List.cons_append, <- List.append_assoc,List.mem_append] at hy;rcases hy with hy|hy
    .exact h2.lead y hy
    .simp only[List.mem_cons,List.not_mem_nil,or_false] at hy;subst hy;exact .snoc _ _ _ hx hs oG
   .rw[<- List.cons_append, <- List.append_assoc,List.map_append,h2.qH];rfl
   .rw[<- List.cons_append];refine List.nodup_append.2 ⟨h2.nodup,oS,fun a ha b hb=>?_⟩;simp only[List.mem_cons,List.not_mem_nil,or_false] at hb;subst hb;rintro rfl;rcases List.mem_cons.1 ha with e|e
    .exact hq.1 e
    .exact hq.2 e
   .rw[<- List.cons_append, <- List.append_assoc];refine List.pairwise_append.2 ⟨h2.yd,oS,fun a ha b hb=>?_⟩;simp only[List.mem_cons,List.not_mem_nil,or_false] at hb;subst hb;have:=J a ha;simp;omega
   .have CD:∀ u∈x::(C++[(o9 ca x.1 n,x.2++[n])]),x.2.length<=u.2.length/\u.2.length<=x.2.length+1:=fun u hu=>by
     rw[<- List.cons_append,List.mem_append] at hu;rcases hu with hu|hu
     .refine⟨?_,J u (List.mem_append_right _ hu)⟩;rcases List.mem_cons.1 hu with rfl|hu
      .exact aZ _
      .exact(List.pairwise_cons.1 (List.pairwise_append.1 h2.yd).2.1).1 u hu
     .simp only[List.mem_cons,List.not_mem_nil,or_false] at hu;subst hu;simp
    have:=(CD y hy).2;have:=(CD z hz).1;omega
   .obtain⟨z,hz,U⟩:=h2.done y hy CU k hk;exact⟨z,by rw[<- List.cons_append, <- List.append_assoc];exact List.mem_append_left _ hz,U⟩
   .rcases List.mem_append.1 hy with hy|hy
    .exact M y hy
    .simp only[List.mem_cons,List.not_mem_nil,or_false] at hy;subst hy;simp
   .by_cases X:k=n
    .subst X;exact⟨(o9 ca x.1 k,x.2++[k]),oS,rfl,oS⟩
    .obtain⟨z,hz,U⟩:=h4 k oG;exact⟨z,by rw[<- List.cons_append, <- List.append_assoc];exact List.mem_append_left _ hz,U⟩
  .rename_i hq;refine⟨C,rfl,h2,M,fun k hk=>?_⟩;by_cases X:k=n
   .subst X
    have hm:o9 ca x.1 k∈fr::S':=by
     refine Classical.byContradiction fun hc=>hq ⟨fun e=>hc (by rw[e];simp),fun e=>hc (List.mem_cons_of_mem _ e)⟩
    rw[<- h2.qH,List.mem_map] at hm;obtain⟨z,hz,e⟩:=hm;exact⟨z,hz,e,J z hz⟩
   .exact h4 k oG
theorem Tg{fr:Nat×Nat}{Y:List PW}{S:List (Nat×Nat)}{x:PW}{O:List PW}(h:BI sn ca fr Y S (x::O)):BI sn ca fr (Y++[x]) (w8 sn ca fr (S,x::O)).1 (w8 sn ca fr (S,x::O)).2:=by
 have C:∀ A B:List PW,A++x::B=(A++[x])++B:=fun A B=>by simp
 unfold w8;simp only;split
 .rename_i hs;obtain⟨U,h1,h2,X,M⟩:=Lq hs (h.lead x oS) (ca.getD x.1.1 []).length (aZ _) h;rw[h1];refine⟨by rw[<- C];exact h2.lead,by rw[<- C];exact h2.qH,h2.nodup,by rw[<- C];exact h2.yd,fun y hy z hz=>h2.NJ y (List.mem_cons_of_mem _ hy) z (List.mem_cons_of_mem _ hz),fun y hy J k hk=>?_⟩;rw[List.drop_succ_cons,List.drop_zero, <- C];rcases List.mem_append.1 hy with hy|hy
  .exact h2.done y hy J k hk
  .simp only[List.mem_cons,List.not_mem_nil,or_false] at hy;subst hy;exact M k hk
 .rename_i hs;refine⟨by rw[<- C];exact h.lead,by rw[<- C];exact h.qH,h.nodup,by rw[<- C];exact h.yd,fun y hy z hz=>h.NJ y (List.mem_cons_of_mem _ hy) z (List.mem_cons_of_mem _ hz),fun y hy J k hk=>?_⟩;rw[List.drop_succ_cons,List.drop_zero, <- C];rcases List.mem_append.1 hy with hy|hy
  .exact h.done y hy J k hk
  .simp only[List.mem_cons,List.not_mem_nil,or_false] at hy;subst hy;exact absurd J hs
theorem Lp(C:xm ca)(hlen:∀ a b,a<ca.length->b<ca.length->sn.getD a 0=sn.getD b 0->(ca.getD a []).length=(ca.getD b []).length){fr:Nat×Nat}(h1:fr.1<ca.length)(h2:fr.2<ca.length){w:List Nat}{p:Nat×Nat}(h:tP sn ca fr w p):p.1<ca.length/\p.2<ca.length:=by
 induction h with
 |nil=>exact⟨h1,h2⟩
 |snoc w p k h hs hk ih=>
  have J:k<(ca.getD p.2 []).length:=by rw[<- hlen p.1 p.2 ih.1 ih.2 hs];exact hk
  exact⟨C p.1 _ (bu (dQ hk)),C p.2 _ (bu (dQ J))⟩
theorem HG{N:Nat}{fr:Nat×Nat}{Y:List PW}{S:List (Nat×Nat)}{O:List PW}(h:BI sn ca fr Y S O)(af:∀ w p,tP sn ca fr w p->p.1<N/\p.2<N):Y.length+O.length<=N*N:=by
 have h1:((fr::S).map fun p=>p.1*N+p.2).Nodup:=by
  refine List.pairwise_map.2 (h.nodup.imp_of_mem fun {a b} ha hb J e=>J ?_);rw[<- h.qH,List.mem_map] at ha hb;obtain⟨x,hx,rfl⟩:=ha;obtain⟨y,hy,rfl⟩:=hb;have a1:=af _ _ (h.lead x hx);have a2:=af _ _ (h.lead y hy);have C:0<N:=by omega
  have e1:(x.1.1*N+x.1.2) / N=x.1.1:=by rw[Nat.mul_comm,Nat.mul_add_div C,Nat.div_eq_of_lt a1.2,Nat.add_zero]
  have e2:(y.1.1*N+y.1.2) / N=y.1.1:=by rw[Nat.mul_comm,Nat.mul_add_div C,Nat.div_eq_of_lt a2.2,Nat.add_zero]
  have e3:(x.1.1*N+x.1.2) % N=x.1.2:=by rw[Nat.mul_comm,Nat.mul_add_mod,Nat.mod_eq_of_lt a1.2]
  have e4:(y.1.1*N+y.1.2) % N=y.1.2:=by rw[Nat.mul_comm,Nat.mul_add_mod,Nat.mod_eq_of_lt a2.2]
  exact Prod.ext (by rw[<- e1,e,e2]) (by rw[<- e3,e,e4])
 have:=List.Nodup.length_le_of_subset h1 (l₂:=range (N*N)) fun v hv=>by
  obtain⟨p,hp,rfl⟩:=List.mem_map.1 hv;rw[<- h.qH,List.mem_map] at hp;obtain⟨x,hx,rfl⟩:=hp;have a1:=af _ _ (h.lead x hx);refine List.mem_range.2 ?_
  have:x.1.1*N+N<=N*N:=by
   rw[<- Nat.succ_mul];exact Nat.mul_le_mul_right _ a1.1
  omega
 have e:=congrArg List.length h.qH;simp at e this;omega
theorem TH{fr:Nat×Nat}{N:Nat}(af:∀ w p,tP sn ca fr w p->p.1<N/\p.2<N):∀ (f:Nat) {Y:List PW} {st:List (Nat×Nat)×List PW},BI sn ca fr Y st.1 st.2->N*N<f+Y.length->∃ S,BI sn ca fr (Y++tz sn ca fr f st) S []
 |0,Y,st,h,hf=>by
  have:=HG h af;omega
 |f+1,Y,(S,[]),h,hf=>⟨S,by simpa[tz] using h⟩
 |f+1,Y,(S,x::O),h,hf=>by
  obtain⟨C,h'⟩:=TH af f (Tg h) oP;refine⟨C,?_⟩;simpa[tz] using h'
end
def Ms(sn:List Nat)(ca:List (List Nat)):Prop:=∀ a b,a<ca.length->b<ca.length->sn.getD a 0=sn.getD b 0->(ca.getD a []).length=(ca.getD b []).length
section
variable{sn:List Nat}{ca:List (List Nat)}{a b:Nat}
theorem Th(C:xm ca)(hlen:Ms sn ca)(ha:a<ca.length)(hb:b<ca.length):∃ S,BI sn ca (a,b) (qL sn ca a b) S []:=by
 have h0:BI sn ca (a,b) [] [] [((a,b),[])]:=by
  refine⟨fun x hx=>?_,rfl,oS,oS,fun x hx y hy=>?_,fun x hx=>by simp at hx⟩
  .simp only[List.nil_append,List.mem_cons,List.not_mem_nil,or_false] at hx;subst hx;exact .nil
  .simp only[List.mem_cons,List.not_mem_nil,or_false] at hx hy;subst hx hy;omega
 obtain⟨S,h⟩:=TH (N:=ca.length) (fun w p=>Lp C hlen ha hb) (ca.length*ca.length+2) (Y:=[]) (st:=([],[((a,b),[])])) h0 oS;exact⟨S,by rw[List.nil_append] at h;exact h⟩
end
section
variable{sn:List Nat}{ca:List (List Nat)}{a b:Nat}
end
end Go.Argus
namespace Go.Proofs.Tryz.K
open Go.Abs
theorem c1:prog.cellsOf 1=1:=kr
theorem a1:bq prog 1=false:=kr
theorem t1:aI prog 1=true:=kr
theorem b1:prog.bytesOf 1=8:=kr
theorem c2:prog.cellsOf 2=1:=kr
theorem b2:prog.bytesOf 2=8:=kr
theorem a2:bq prog 2=false:=kr
theorem t2:aI prog 2=true:=kr
theorem z2:a8 prog 2=[.s (.int .i64 0)]:=kr
theorem c3:prog.cellsOf 3=1:=kr
theorem b3:prog.bytesOf 3=8:=kr
theorem a3:bq prog 3=false:=kr
theorem t3:aI prog 3=true:=kr
theorem z3:a8 prog 3=[.s (.int .i64 0)]:=kr
theorem c4:prog.cellsOf 4=1:=kr
theorem b4:prog.bytesOf 4=1:=kr
theorem a4:bq prog 4=false:=kr
theorem t4:aI prog 4=true:=kr
theorem z4:a8 prog 4=[.s (.bool false)]:=kr
theorem c5:prog.cellsOf 5=1:=kr
theorem b5:prog.bytesOf 5=1:=kr
theorem a5:bq prog 5=false:=kr
theorem t5:aI prog 5=true:=kr
theorem z5:a8 prog 5=[.s (.int .u8 0)]:=kr
theorem b6:prog.bytesOf 6=1:=kr
theorem b7:prog.bytesOf 7=24:=kr
theorem b8:prog.bytesOf 8=24:=kr
theorem c9:prog.cellsOf 9=1:=kr
theorem b9:prog.bytesOf 9=16:=kr
theorem a9:bq prog 9=false:=kr
theorem t9:aI prog 9=true:=kr
theorem z9:a8 prog 9=[.s (.string "".toUTF8)]:=kr
theorem mg:prog.bytesOf 10=16:=kr
theorem Pm:aF prog 15=321:=kr
theorem Pn:aF prog 16=324:=kr
theorem Pf:aF prog 17=331:=kr
theorem Jr:aF prog 22=48:=kr
theorem IJ:bi prog 22=true:=kr
theorem Xi:aF prog 23=43:=kr
theorem VP:bi prog 23=true:=kr
theorem CN:prog.cellsOf 27=1:=kr
theorem Jk:bq prog 27=false:=kr
theorem t27:aI prog 27=true:=kr
theorem a31:bq prog 31=false:=kr
theorem t31:aI prog 31=true:=kr
theorem z31:a8 prog 31=[.s .nilFunc]:=kr
theorem sM:aF prog 34=9:=kr
theorem lZ:bi prog 34=true:=kr
theorem a37:bq prog 37=false:=kr
theorem t37:aI prog 37=true:=kr
theorem z37:a8 prog 37=[.s .nilFunc]:=kr
theorem ui:prog.cellsOf 43=1:=kr
theorem Fq:prog.bytesOf 43=24:=kr
theorem Jj:bq prog 43=false:=kr
theorem t43:aI prog 43=true:=kr
theorem Ai:aF prog 43=3:=kr
theorem B3:bi prog 43=true:=kr
theorem I9:aF prog 45=5:=kr
theorem B5:bi prog 45=true:=kr
theorem a46:bq prog 46=false:=kr
theorem t46:aI prog 46=true:=kr
theorem z46:a8 prog 46=[.z]:=kr
theorem OE:aF prog 46=59:=kr
theorem Nj:bi prog 46=true:=kr
theorem pA:prog.cellsOf 48=8:=kr
theorem OQ:prog.bytesOf 48=136:=kr
theorem Aj:bq prog 48=true:=kr
theorem t48:aI prog 48=true:=kr
theorem a51:bq prog 51=false:=kr
theorem t51:aI prog 51=true:=kr
theorem z51:a8 prog 51=[.s .nilFunc]:=kr
theorem Xe:aF prog 52=54:=kr
theorem VO:bi prog 52=true:=kr
theorem a53:bq prog 53=true:=kr
theorem t53:aI prog 53=true:=kr
theorem z53:a8 prog 53=[.s (.int .u8 0),.s (.int .i64 0),.s (.int .i64 0),.s (.int .i64 0),.s (.int .i64 0),.z]:=kr
theorem OC:prog.cellsOf 54=6:=kr
theorem OA:prog.bytesOf 54=64:=kr
theorem Ox:aF prog 55=79:=kr
theorem EN:bi prog 55=true:=kr
theorem Jb:prog.cellsOf 59=16:=kr
theorem OD:prog.bytesOf 59=200:=kr
theorem z59:a8 prog 59=[.z,.s (.int .u8 0),.s (.int .i64 0),.s (.int .i64 0),.s (.int .i64 0),.s (.int .i64 0),.s (.string "".toUTF8),.s (.int .u8 0),.s (.int .i64 0),.s (.int .i64 0),.s (.int .i64 0),.s (.int .i64 0),.z,.z,.z,.s (.int .i64 0)]:=kr
theorem a70:bq prog 70=true:=kr
theorem t70:aI prog 70=true:=kr
theorem z70:a8 prog 70=[.s (.int .u8 0),.s (.int .i64 0)]:=kr
theorem a72:bq prog 72=true:=kr
theorem t72:aI prog 72=true:=kr
theorem z72:a8 prog 72=[.s (.int .u8 0),.s (.string "".toUTF8),.s (.int .u8 0),.s (.int .i64 0),.z,.s (.int .i64 0)]:=kr
theorem a75:bq prog 75=false:=kr
theorem t75:aI prog 75=true:=kr
theorem z75:a8 prog 75=[.s .nilFunc]:=kr
theorem a76:bq prog 76=false:=kr
theorem t76:aI prog 76=true:=kr
theorem z76:a8 prog 76=[.s .nilFunc]:=kr
theorem Ja:prog.cellsOf 79=2:=kr
theorem Xd:prog.bytesOf 79=24:=kr
theorem nI:prog.cellsOf 82=3:=kr
theorem uh:bq prog 82=true:=kr
theorem t82:aI prog 82=true:=kr
theorem xR:prog.cellsOf 86=4:=kr
theorem CH:bq prog 86=true:=kr
theorem t86:aI prog 86=true:=kr
theorem Fz:aF prog 92=4:=kr
theorem EO:bi prog 92=true:=kr
theorem Wz:prog.cellsOf 113=10:=kr
theorem Wy:bq prog 113=true:=kr
theorem t113:aI prog 113=true:=kr
theorem No:prog.cellsOf 121=2:=kr
theorem t121:aI prog 121=true:=kr
theorem IF:a8 prog 121=[.s (.int .i64 0),.s (.int .i64 0)]:=kr
theorem a127:bq prog 127=false:=kr
theorem t127:aI prog 127=true:=kr
theorem z127:a8 prog 127=[.s .nilFunc]:=kr
theorem a164:bq prog 164=false:=kr
theorem t164:aI prog 164=true:=kr
theorem z164:a8 prog 164=[.s .nilFunc]:=kr
theorem a171:bq prog 171=false:=kr
theorem t171:aI prog 171=true:=kr
theorem z171:a8 prog 171=[.s .nilFunc]:=kr
theorem a173:bq prog 173=true:=kr
theorem t173:aI prog 173=true:=kr
theorem z173:a8 prog 173=[.s (.int .i64 0),.s (.int .i64 0),.z]:=kr
theorem vF:prog.cellsOf 174=3:=kr
theorem V0:prog.bytesOf 174=40:=kr
theorem VV:bq prog 174=true:=kr
theorem t174:aI prog 174=true:=kr
theorem IE:a8 prog 174=[.s (.int .i64 0),.s (.int .i64 0),.z]:=kr
theorem Cb:aF prog 175=174:=kr
theorem BM:bi prog 175=true:=kr
theorem sq:prog.cellsOf 201=20:=kr
theorem Ws:prog.bytesOf 201=160:=kr
theorem a201:bq prog 201=true:=kr
theorem t201:aI prog 201=true:=kr
theorem z201:a8 prog 201=[.s (.int .u64 0),.s (.int .u64 0),.s (.int .u64 0),.s (.int .u64 0),.s (.int .u64 0),.s (.int .u64 0),.s (.int .u64 0),.s (.int .u64 0),.s (.int .u64 0),.s (.int .u64 0),.s (.int .u64 0),.s (.int .u64 0),.s (.int .u64 0),.s (.int .u64 0),.s (.int .u64 0),.s (.int .u64 0),.s (.int .u64 0),.s (.int .u64 0),.s (.int .u64 0),.s (.int .u64 0)]:=kr
theorem a212:bq prog 212=true:=kr
theorem t212:aI prog 212=true:=kr
theorem z212:a8 prog 212=[.s (.pointer none),.z]:=kr
theorem a213:bq prog 213=true:=kr
theorem t213:aI prog 213=true:=kr
theorem z213:a8 prog 213=[.s (.pointer none),.z]:=kr
theorem a232:bq prog 232=false:=kr
theorem t232:aI prog 232=true:=kr
theorem z232:a8 prog 232=[.s .nilFunc]:=kr
theorem a233:bq prog 233=false:=kr
theorem t233:aI prog 233=true:=kr
theorem z233:a8 prog 233=[.s .nilFunc]:=kr
theorem NF:bq prog 237=true:=kr
theorem NG:a8 prog 237=[.s (.int .i64 0),.s (.int .i64 0),.s (.int .i64 0),.s (.int .i64 0),.s (.int .i64 0),.s (.int .i64 0)]:=kr
theorem mixed:prog.follows .mixedOrders=true:=kr
end Go.Proofs.Tryz.K
namespace Go.Proofs
open Go.Shelf
def Tryz.AF:Go.Shelf.Ren:=⟨fun|156=>199|165=>236|166=>119|169=>120|240=>160|241=>246|276=>225|277=>254|n=>n,fun|31=>34|9=>9|3=>3|4=>4|0=>0|20=>20|72=>183|76=>186|70=>181|37=>45|75=>185|127=>229|164=>269|5=>5|80=>188|n=>n,fun|n=>n⟩
theorem Tryz.Lj:Go.Proofs.Lays.n156 Tryz.prog Tryz.AF:={
 mixed:=kr
 f156:= Tryz.func199.trans (congrArg some kr)
 f165:= Tryz.func236.trans (congrArg some kr)
 f166:= Tryz.func119.trans (congrArg some kr)
 f169:= Tryz.func120.trans (congrArg some kr)
 f240:= Tryz.func160.trans (congrArg some kr)
 f241:= Tryz.func246.trans (congrArg some kr)
 f276:= Tryz.func225.trans (congrArg some kr)
 f277:= Tryz.func254.trans (congrArg some kr)
 t0:= Tryz.underlying0
 a0:= Tryz.isAgg0
 z0:= Tryz.sizeOf0
 v0:= Tryz.zeroValue0
 t3:= Tryz.underlying3
 a3:= Tryz.isAgg3
 z3:= Tryz.sizeOf3
 v3:= Tryz.zeroValue3
 t4:= Tryz.underlying4
 a4:= Tryz.isAgg4
 z4:= Tryz.sizeOf4
 v4:= Tryz.zeroValue4
 t9:= Tryz.underlying9
 a9:= Tryz.isAgg9
 z9:= Tryz.sizeOf9
 v9:= Tryz.zeroValue9
 t20:= Tryz.underlying20
 a20:= Tryz.isAgg20
 z20:= Tryz.sizeOf20
 v20:= Tryz.zeroValue20
 t31:= Tryz.underlying34
 a31:= Tryz.isAgg34
 z31:= Tryz.sizeOf34
 v31:= Tryz.zeroValue34
 t37:= Tryz.underlying45
 a37:= Tryz.isAgg45
 z37:= Tryz.sizeOf45
 v37:= Tryz.zeroValue45
 t70:= Tryz.underlying181
 a70:= Tryz.isAgg181
 z70:= Tryz.sizeOf181
 v70:= Tryz.zeroValue181
 t72:= Tryz.underlying183
 a72:= Tryz.isAgg183
 z72:= Tryz.sizeOf183
 v72:= Tryz.zeroValue183
 t75:= Tryz.underlying185
 a75:= Tryz.isAgg185
 z75:= Tryz.sizeOf185
 v75:= Tryz.zeroValue185
 t76:= Tryz.underlying186
 a76:= Tryz.isAgg186
 z76:= Tryz.sizeOf186
 v76:= Tryz.zeroValue186
 t127:= Tryz.underlying229
 a127:= Tryz.isAgg229
 z127:= Tryz.sizeOf229
 v127:= Tryz.zeroValue229
 t164:= Tryz.underlying269
 a164:= Tryz.isAgg269
 z164:= Tryz.sizeOf269
 v164:= Tryz.zeroValue269 }
theorem Tryz.JB:Builder.Extra Tryz.prog Tryz.AF:={
 sizeBuilder:=kr
 liesBuilder:=kr
 t5:= Tryz.underlying5
 a5:= Tryz.isAgg5
 z5:= Tryz.sizeOf5
 v5:= Tryz.zeroValue5
 infoByte:=kr
 cellsByte:=kr
 sizeByte:=kr
 neB5:=by decide }
open Go.RowKit in
theorem Tryz.strings_Join_none(a:Option Addr)(c:Nat)(sep:ByteArray)(w:World):
 Calls Tryz.prog 199 #[.slice a 0 c,.string sep] w fun e w'=>e=.returned (.string ⟨#[]⟩)/\w'=w:=Any.strings_Join_none Tryz.Lj Tryz.JB a c sep w
open Go.RowKit in
theorem Tryz.strings_Join(C o c:Nat)(xs:List ByteArray)(sep:ByteArray)(w:World)(U:∀ (j:Nat) x,xs[j]? =some x->w.cell? ⟨C,o+j,none⟩=some (.string x))(M:C<w.heap.size)(J:xs.length<=140737488355328)(pg:xs.length<=c)(hlen:(Lib.join (xs.map (·.data.toList)) sep.data.toList).length<=140737488355328):
 Calls Tryz.prog 199 #[.slice (some ⟨C,o,none⟩) xs.length c,.string sep] w fun e w'=>e=.returned (.string ⟨(Lib.join (xs.map (·.data.toList)) sep.data.toList).toArray⟩)/\Below w.heap.size w w':=Any.strings_Join Tryz.Lj Tryz.JB C o c xs sep w U M J pg hlen
def Tryz.YM:Go.Shelf.Ren:=⟨fun|171=>145|243=>200|246=>237|283=>247|284=>248|285=>249|286=>250|129=>256|317=>255|318=>257|319=>258|320=>259|337=>270|338=>271|n=>n,fun|3=>3|9=>9|2=>2|4=>4|171=>291|0=>0|53=>199|37=>45|5=>5|173=>294|212=>200|51=>300|20=>20|213=>301|46=>69|232=>316|233=>317|n=>n,fun|17=>0|18=>2|19=>3|n=>n⟩
theorem Tryz.adu:Go.Proofs.LaysM.n171 Tryz.prog Tryz.YM:={
 mixed:=kr
 f129:= Tryz.func256.trans (congrArg some kr)
 f171:= Tryz.func145.trans (congrArg some kr)
 f243:= Tryz.func200.trans (congrArg some kr)
 f246:= Tryz.func237.trans (congrArg some kr)
 f283:= Tryz.func247.trans (congrArg some kr)
 f284:= Tryz.func248.trans (congrArg some kr)
 f285:= Tryz.func249.trans (congrArg some kr)
 f286:= Tryz.func250.trans (congrArg some kr)
 f317:= Tryz.func255.trans (congrArg some kr)
 f318:= Tryz.func257.trans (congrArg some kr)
 f319:= Tryz.func258.trans (congrArg some kr)
 f320:= Tryz.func259.trans (congrArg some kr)
 f337:= Tryz.func270.trans (congrArg some kr)
 f338:= Tryz.func271.trans (congrArg some kr)
 t0:= Tryz.underlying0
 a0:= Tryz.isAgg0
 z0:= Tryz.sizeOf0
 v0:= Tryz.zeroValue0
 t2:= Tryz.underlying2
 a2:= Tryz.isAgg2
 z2:= Tryz.sizeOf2
 v2:= Tryz.zeroValue2
 t3:= Tryz.underlying3
 a3:= Tryz.isAgg3
 z3:= Tryz.sizeOf3
 v3:= Tryz.zeroValue3
 t4:= Tryz.underlying4
 a4:= Tryz.isAgg4
 z4:= Tryz.sizeOf4
 v4:= Tryz.zeroValue4
 t5:= Tryz.underlying5
 a5:= Tryz.isAgg5
 z5:= Tryz.sizeOf5
 v5:= Tryz.zeroValue5
 t9:= Tryz.underlying9
 a9:= Tryz.isAgg9
 z9:= Tryz.sizeOf9
 v9:= Tryz.zeroValue9
 t20:= Tryz.underlying20
 a20:= Tryz.isAgg20
 z20:= Tryz.sizeOf20
 v20:= Tryz.zeroValue20
 t37:= Tryz.underlying45
 a37:= Tryz.isAgg45
 z37:= Tryz.sizeOf45
 v37:= Tryz.zeroValue45
 t46:= Tryz.underlying69
 a46:= Tryz.isAgg69
 z46:= Tryz.sizeOf69
 v46:= Tryz.zeroValue69
 t51:= Tryz.underlying300
 a51:= Tryz.isAgg300
 z51:= Tryz.sizeOf300
 v51:= Tryz.zeroValue300
 t53:= Tryz.underlying199
 a53:= Tryz.isAgg199
 z53:= Tryz.sizeOf199
 v53:= Tryz.zeroValue199
 t171:= Tryz.underlying291
 a171:= Tryz.isAgg291
 z171:= Tryz.sizeOf291
 v171:= Tryz.zeroValue291
 t173:= Tryz.underlying294
 a173:= Tryz.isAgg294
 z173:= Tryz.sizeOf294
 v173:= Tryz.zeroValue294
 t212:= Tryz.underlying200
 a212:= Tryz.isAgg200
 z212:= Tryz.sizeOf200
 v212:= Tryz.zeroValue200
 t213:= Tryz.underlying301
 a213:= Tryz.isAgg301
 z213:= Tryz.sizeOf301
 t232:= Tryz.underlying316
 a232:= Tryz.isAgg316
 z232:= Tryz.sizeOf316
 v232:= Tryz.zeroValue316
 t233:= Tryz.underlying317
 a233:= Tryz.isAgg317
 z233:= Tryz.sizeOf317
 v233:= Tryz.zeroValue317
 g17:=kr
 g18:=kr
 g19:=kr
 i0:=kr
 i2:=kr
 i3:=kr
 i4:=kr
 i5:=kr
 i9:=kr
 i20:=kr
 i37:=kr
 i46:=kr
 i51:=kr
 i53:=kr
 i171:=kr
 i173:=kr
 i212:=kr
 i232:=kr
 i233:=kr
 m17:=kr
 m18:=kr
 m19:=by kernel_rfl }
end Go.Proofs
section
open Go Go.Abs Go.Proofs Go.Argus
namespace Go.Proofs.Tryz.K
theorem afI{P:Program}{w:World}{name:String}{g:Nat}{cs:Array Value}(hg:P.globalNamed name=some g)(h:∃ e k,w.heap[g]? =some (.cells cs e k)):w.var? P name=some cs:=by
 obtain⟨e,k,h⟩:=h;unfold World.var?;rw[hg];simp only[Option.bind_some,h]
theorem abG{w:World}{k:Nat}{os:Array Obj}:Kept w (Sort.grow (w.drewN k) os):=by
 refine⟨?_,fun b hb=>?_,rfl,rfl⟩
 .show w.heap.size<=(w.heap++os).size;rw[Array.size_append];omega
 .show(w.heap++os)[b]? =_;rw[Array.getElem?_append_left hb]
theorem Z9{w w':World}(h:Go.RowKit.Below w.heap.size w w'):Kept w w':=⟨h.size,h.block,h.os,h.output⟩
theorem adv(n:Int)(h0: -9223372036854775808<=n)(h1:n<=9223372036854775807)(w:World)(C:∀ t∈vu,Bx w t):
 Calls prog 145 #[.int .i64 n] w fun e w'=>e=.returned (.string ⟨(Lib.itoa n).toArray⟩)/\Kept w w':=by
 refine(Any.strconv_Itoa Tryz.adu n h0 h1 w (afI (g:=0) kr (C (0,_) (.head _)))).mono fun e w' h=>⟨h.1,?_⟩
 obtain⟨k,os,rfl⟩:=h.2;exact abG
theorem VF{n:Int}(h0: -9223372036854775808<=n)(h1:n<=9223372036854775807):aB prog 145 [I n] (S ⟨(Lib.itoa n).toArray⟩):=by
 refine⟨by kernel_rfl,by simp[Tr.s],fun F w vs C J=>?_⟩;obtain⟨hs,hr⟩:=J
 have hv:vs= #[.int .i64 n]:=by
  have hs:vs.size=1:=hs;have h2:=(hr 0 _ vs[0] rfl (by simp[hs])).c6.1;apply Array.ext
  .rw[hs];rfl
  .intro i hi _;have:i=0:=by omega
   subst this;exact h2
 subst hv;exact(adv n h0 h1 w fun t ht=>(C.mQ t ht).2).mono fun e w' h=>⟨_,h.1,.s _ rfl,h.2⟩
def BG(l:List ByteArray)(sep:ByteArray):ByteArray:=⟨(Lib.join (l.map (·.data.toList)) sep.data.toList).toArray⟩
theorem Nh{l:List ByteArray}{sep:ByteArray}(hl:l.length<=140737488355328)(hlen:(Lib.join (l.map (·.data.toList)) sep.data.toList).length<=140737488355328):aB prog 199 [bP l,S sep] (S (BG l sep)):=by
 refine⟨by kernel_rfl,by simp[Tr.s,gS],fun F w vs hF hR=>?_⟩;obtain⟨hs,hr⟩:=hR;have hs:vs.size=2:=hs;have h1:=hr 0 _ vs[0] rfl (by simp[hs]);have h2:=(hr 1 _ vs[1] rfl (by simp[hs])).c6.1
 have hv:vs= #[vs[0],.string sep]:=by
  apply Array.ext
  .exact hs
  .intro i hi _;have:i=0\/i=1:=by omega
   rcases this with rfl|rfl
   .rfl
   .exact h2
 rcases h1.uT with⟨J,g2,a,cap,C⟩|⟨b,o,cap,C,M,h4,h5,h6,U,us,X,h9⟩
 .rw[C] at hv;rw[hv];have pz:l=[]:=by simpa using J
  subst pz;exact(Tryz.strings_Join_none a cap sep w).mono fun e w' h=>⟨_,h.1,.s _ rfl,h.2▸⟨aZ _,fun _ _=>rfl,rfl,rfl⟩⟩
 .rw[C] at hv;rw[hv];refine(Tryz.strings_Join b o cap l sep w (fun j x hx=>?_) U hl M hlen).mono fun e w' h=>⟨_,h.1,.s _ rfl,Z9 h.2⟩
  have hj:j<l.length:=(bI.1 hx).1;have:=(h9 j (S x) (by simp[hx])).c6.1;rw[(X j (by simpa using hj)).1,this]
end Go.Proofs.Tryz.K
end
namespace Go.Abs
section
variable{P:Program}{Y:ej}{rf:Bool}{ops:Array Oper}{dr:Bool}{cf:List (Nat×Nat)}{Q:Exit->St->Prop}{rest:List Oper}{env:Env}{m:Mem}{nx:Nat}{tr:kf}{t:Nat}{op:Op}{ty:TypeId}{pos:String}{after:Array Edge}{v:D}{rd:List Nat}
theorem DX{d:Option Nat}{e:dy}(he:dd P (a6 env op) m nx op e)(ha:fV env op.operands.toList)(K:aq P Y ops dr cf Q rest (St.put ⟨env,cK m e.aU,nx+e.new⟩ d e.val) (tr++[(e.rd,e.aU.map (·.1))])):
 aq P Y ops dr cf Q (⟨d,op,ty,pos,after,none⟩::rest) ⟨env,m,nx⟩ tr:=.inr ⟨rfl,pF ha,e,he,K⟩
theorem sk(he:dd P (a6 env op) m nx op ⟨True,v,[],rd,0⟩)(ha:fV env op.operands.toList)(K:aq P Y ops dr cf Q rest ⟨up env t v,m,nx⟩ (tr++[(rd,[])])):
 aq P Y ops dr cf Q (⟨some t,op,ty,pos,after,none⟩::rest) ⟨env,m,nx⟩ tr:=DX he ha K
theorem Is{row:Row}(he:dd P (a6 env op) m nx op ⟨True,v,[(nx,some row)],rd,1⟩)(ha:fV env op.operands.toList)(K:aq P Y ops dr cf Q rest ⟨up env t v,up m nx (some row),nx+1⟩ (tr++[(rd,[nx])])):
 aq P Y ops dr cf Q (⟨some t,op,ty,pos,after,none⟩::rest) ⟨env,m,nx⟩ tr:=DX he ha K
theorem ai3{i:Nat}{row:Row}(he:dd P (a6 env op) m nx op ⟨True,v,[(i,none),(nx,some row)],rd,1⟩)(ha:fV env op.operands.toList)(K:aq P Y ops dr cf Q rest ⟨up env t v,up (up m i none) nx (some row),nx+1⟩ (tr++[(rd,[i,nx])])):
 aq P Y ops dr cf Q (⟨some t,op,ty,pos,after,none⟩::rest) ⟨env,m,nx⟩ tr:=DX he ha K
theorem ai4{i:Nat}(he:dd P (a6 env op) m nx op ⟨True,v,[(i,none)],rd,0⟩)(ha:fV env op.operands.toList)(K:aq P Y ops dr cf Q rest ⟨up env t v,up m i none,nx⟩ (tr++[(rd,[i])])):
 aq P Y ops dr cf Q (⟨some t,op,ty,pos,after,none⟩::rest) ⟨env,m,nx⟩ tr:=DX he ha K
theorem Vv{i:Nat}{row:Option Row}(he:dd P (a6 env op) m nx op ⟨True,v,[(i,row)],rd,0⟩)(ha:fV env op.operands.toList)(K:aq P Y ops dr cf Q rest ⟨env,up m i row,nx⟩ (tr++[(rd,[i])])):
 aq P Y ops dr cf Q (⟨none,op,ty,pos,after,none⟩::rest) ⟨env,m,nx⟩ tr:=DX he ha K
variable{x y z:Operand}{src dst tt u p:TypeId}{a b:ByteArray}{l:List Int}{i off n:Nat}{cs es:List D}{k k':IntKind}
theorem afU(hx:(opd env x).core=.s (.string a))(hy:(opd env y).core=.s (.string b))(h:a.size+b.size<=maxLen):dd P (a6 env (.binOp .add tt x y p)) m nx (.binOp .add tt x y p) ⟨True,.s (.string (a++b)),[],[],0⟩:=.add tt p x y a b hx hy h
theorem ae7{r:Int}(hx:(opd env x).core=.s (.int k r))(hs:P.underlying src=some (.int k'))(hd:fW P dst=true)(h:0<=r/\r<128):dd P (a6 env (.convert src dst x)) m nx (.convert src dst x) ⟨True,.s (.string (mkStr [r])),[],[],0⟩:=.rune src dst x k k' r hx hs hd h.1 h.2
theorem afV{h c:Operand}(hx:(opd env x).core=.sl es n)(hh:(opd env h).core=.s (.int k n))(hc:(opd env c).core=.s (.int k' n))(ht:bi P tt=true)(hn:n*P.cellsOf (aF P tt)=es.length):dd P (a6 env (.slice tt x none (some h) (some c))) m nx (.slice tt x none (some h) (some c)) ⟨True,.sc es n,[],[],0⟩:=.cut tt x h c es n k k' hx hh hc ht hn
theorem aar{s:Operand}{e:TypeId}(hs:(opd env s).core=.z)(hx:(opd env x).core=.s (.string b))(he:aF P tt=e)(ht:ra P tt)(hu:fW P u=true)(hb:b.size<=140737488355328)(h1:P.bytesOf e=1):
 dd P (a6 env (.call { callee:=.builtin .append,args:= #[s,x],argTypes:= #[tt,u] })) m nx (.call { callee:=.builtin .append,args:= #[s,x],argTypes:= #[tt,u] }) ⟨True,.rs nx 0 b.size,[(nx,some (.cells (fB b) e))],[],1⟩:=by
 subst he;exact .yw _ s x tt u b rfl hs hx ht hu (by unfold maxLen;omega) (by rw[h1];omega)
theorem ab3{s:Operand}{e:TypeId}(hs:(opd env s).core=.rs i off n)(hx:(opd env x).core=.s (.string b))(hi:m i=some (.cells cs e))(he:aF P tt=e)(ht:ra P tt)(hu:fW P u=true)(hf:off+n=cs.length)(hb:n+b.size<=140737488355328)(h1:P.bytesOf e=1):
 dd P (a6 env (.call { callee:=.builtin .append,args:= #[s,x],argTypes:= #[tt,u] })) m nx (.call { callee:=.builtin .append,args:= #[s,x],argTypes:= #[tt,u] }) ⟨True,.rs nx 0 (n+b.size),[(i,none),(nx,some (.cells (cs.drop off++fB b) e))],[i],1⟩:=by
 subst he;exact .yI _ s x tt u b i off n cs rfl hs hx hi ht hu hf (by unfold maxLen;omega) (by rw[h1];omega)
theorem adX{s:Operand}{e:TypeId}{news:List D}{C sz:Nat}{pp:Prop}(hs:(opd env s).core=.sc es n)(he:aF P tt=e)(hc:P.cellsOf e=sz)(hx:jP m sz (opd env x).core=some (pp,rd,C,news))(hp:pp)(ht:bi P tt=true)(hn:n*sz=es.length)(hk:0<C)(hz:0<sz)(hm:n+C<=maxLen)(hb:(n+C)*P.bytesOf e<=140737488355328):
 dd P (a6 env (.call { callee:=.builtin .append,args:= #[s,x],argTypes:= #[tt,tt] })) m nx (.call { callee:=.builtin .append,args:= #[s,x],argTypes:= #[tt,tt] }) ⟨True,.rs nx 0 (n+C),[(nx,some (.cells (es++news) e))],rd,1⟩:=by
 subst he;subst hc;exact .y6 _ s x tt es news n C pp rd rfl hs hx hp ht hn hk hz hm hb
theorem adY{s:Operand}{r:Row}(hs:(opd env s).core=.rs i off n)(hi:m i=some r)(hn:0<n):dd P (a6 env (.call { callee:=.builtin .unsafeSliceData,args:= #[s],argTypes:= #[tt] })) m nx (.call { callee:=.builtin .unsafeSliceData,args:= #[s],argTypes:= #[tt] }) ⟨True,.rp i off,[],[i],0⟩:=.y7 _ s tt i off n r rfl hs hi hn
theorem ae8{s:Operand}{e:TypeId}(hp:(opd env x).core=.rp i off)(hn:(opd env y).core=.s (.int k n))(C:l.length=n)(hi:m i=some (.cells cs e))(hl:(cs.drop off).take n=mw l)(h0:0<n)(ht:P.underlying tt=some (.pointer e))(he:P.cellsOf e=1)(hm:n<=maxLen)(hr:∀ x∈l,0<=x/\x<256):
 dd P (a6 env (.call { callee:=.builtin .unsafeString,args:= #[x,y],argTypes:= #[tt,u] })) m nx (.call { callee:=.builtin .unsafeString,args:= #[x,y],argTypes:= #[tt,u] }) ⟨True,.s (.string (mkStr l)),[(i,none)],[i],0⟩:=by
 subst C;exact .zs _ x y tt u e l i off cs k rfl hp hn hi hl (List.length_pos_iff.1 h0) ht he hm hr
theorem LK{es:List (Value×D)}(hx:(opd env x).core=.mp i)(hi:m i=some (.map es))(ht:fT P tt=true):dd P (a6 env (.call { callee:=.builtin .len,args:= #[x],argTypes:= #[tt] })) m nx (.call { callee:=.builtin .len,args:= #[x],argTypes:= #[tt] }) ⟨True,.s (.int .i64 es.length),[],[i],0⟩:=.mL _ x tt i es rfl hx hi ht
theorem ab4(hb:Ip tt=true)(ht:aI P tt=true)(hz:a8 P tt=[.s (.pointer none),.z]):dd P (a6 env (.alloc tt)) m nx (.alloc tt) ⟨True,.rp nx 0,[(nx,some (.bs false .z tt))],[],1⟩:=.Bi tt hb ht hz
theorem ae9{d:D}(hb:Ip tt=true)(hx:((opd env x).core).cells=[.s (.pointer none),d])(hd:d.one=true)(hs:P.cellsOf tt=2):dd P (a6 env (.box tt x)) m nx (.box tt x) ⟨True,.rp nx 0,[(nx,some (.bs false d tt))],[],1⟩:=.BV tt x d hb hx hd hs
theorem GC{q:Bool}{d:D}{T:TypeId}(ha:(opd env x).core=.rp i 1)(hi:m i=some (.bs q d T))(ht:aI P tt=true)(hg:bq P tt=false):dd P (a6 env (.load tt x)) m nx (.load tt x) ⟨True,d,[],[i],0⟩:=.Bz tt x i q d T ha hi ht hg
theorem RF{q:Bool}{d d':D}{T:TypeId}(ha:(opd env x).core=.rp i 1)(hi:m i=some (.bs q d T))(ht:aI P tt=true)(hg:bq P tt=false)(hy:(opd env y).core=d')(h1:d'.one=true):dd P (a6 env (.store tt x y)) m nx (.store tt x y) ⟨True,.aM [],[(i,some (.bs q d' T))],[i],0⟩:=by
 subst hy;exact .yJ tt x y i q d T ha hi ht hg h1
end
end Go.Abs
section
open Go Go.Abs Go.Proofs Go.Argus
open Go.Shelf Go.RowKit
namespace Go.Proofs.Tryz.K
theorem Tc:Go.Proofs.Lays.n240 prog Tryz.AF:={ Tryz.Lj with }
theorem WX:Builder.X72 prog Tryz.AF:={ Tryz.JB with }
set_option maxRecDepth 100000 in
theorem ZL{T:TypeId}(hl:liesAt prog prog.depth T (2 / prog.cellsOf T) 0 183 1=true)(b:Nat)(w:World)(h0:w.cell? ⟨b,0,none⟩=some (.pointer none))(U:w.shape? b=some (T,2))(hfz:w.frozen? ⟨b,0,none⟩=false):
 Calls prog 160 #[.pointer (some ⟨b,0,none⟩)] w fun e w'=>e=.returned (.tuple #[])/\w'=w.setCell ⟨b,0,none⟩ (.pointer (some ⟨b,0,none⟩)):=by
 have L:=Tc;have X:=WX;obtain⟨j,hj,C⟩:=cU.1 X.sizeBuilder;have mixed:=L.mixed;have t72:=L.t72;have a72:=L.a72;have z72:=L.z72;have M:=L.v72;have WY:=run_underlying L.t72;have t70:=L.t70;have a70:=L.a70;have z70:=L.z70;have J:=L.v70;have WZ:=run_underlying L.t70;have t9:=L.t9;have a9:=L.a9;have z9:=L.z9;have v9:=L.v9;have u9:=run_underlying L.t9;have t4:=L.t4;have a4:=L.a4;have z4:=L.z4;have v4:=L.v4;have u4:=run_underlying L.t4;have t164:=L.t164;have a164:=L.a164;have z164:=L.z164;have v164:=L.v164;have aoS:=run_underlying L.t164;show Calls prog (Tryz.AF.f 240) _ _ _
 go_enter L.f240,Body.n240_ntmps Tryz.AF
 go_wp2
 rw[Lib.run_to_unsafe w ⟨b,0,none⟩ L.t70 L.t164 hj (by rw[C];decide) U (Nat.zero_lt_succ 1)];simp only[Result.andThen];rw[Oper.upon_value]
 go_wp2
 rw[run_callFunc_extern L.f276 kr kr kr (e:=Extern.AbiNoEscape.same) kr];rw[Lib.run_noEscape];simp only[Result.andThen];rw[Oper.upon_value]
 go_wp2
 rw[Lib.run_from_unsafe w ⟨b,0,none⟩ L.t164 L.t70 hj U hl];simp only[Result.andThen];rw[Oper.upon_value]
 go_wp2
 go_end0
 exact⟨rfl,rfl⟩
theorem aeg{m:Mem}{i:Nat}{r:Row}(h:m i=some r):up m i (some r)=m:=by
 funext j;by_cases hj:j=i
 .subst hj;rw[aj,h]
 .rw[aA _ _ hj]
theorem ajJ{m:Mem}{nx j:Nat}{u:Bool}{x:D}{T:TypeId}(hj:m j=some (.bs u x T))(hl:liesAt prog prog.depth T (2 / prog.cellsOf T) 0 183 1=true):
 fP prog 160 [.rp j 0] m nx fun d m' al=>d=.aM []/\m'=up m j (some (.bs true x T))/\al=nx:=by
 refine⟨by kernel_rfl,fun F β w vs hm J U=>?_⟩;have hs:vs.size=1:=U.1;have h0:=U.2 0 _ vs[0] rfl (by simp[hs]);obtain⟨b,v,hβ,hv,hb,hT,hx,h1⟩:=LN hm h0 hj
 have I5:vs= #[.pointer (some ⟨b,0,none⟩)]:=by
  apply Array.ext
  .exact hs
  .intro i hi _;have:i=0:=by omega
   subst this;exact hv
 subst I5;have C:w.cell? ⟨b,0,none⟩=some (.pointer (if u then some ⟨b,0,none⟩ else none)):=by rw[Lib.cell_of_heap hb];rfl
 cases u with
 |true=>
  refine(Any.Builder_copyCheck_used Tc WX b w C).mono fun e w' h=>?_;obtain⟨rfl,rfl⟩:=h;exact⟨_,_,_,_,β,rfl,⟨rfl,(aeg hj).symm▸rfl,rfl⟩,hm,J,.aM [] [] rfl oS,Step.refl _ _,aZ _,fun _ _ h=>h⟩
 |false=>
  refine(ZL hl b w C (by simp[World.shape?,hb]) (by simp[World.frozen?,hb])).mono fun e w' h=>?_;obtain⟨rfl,rfl⟩:=h;have hh:(w.setCell ⟨b,0,none⟩ (.pointer (some ⟨b,0,none⟩))).heap[b]? =some (.cells #[.pointer (some ⟨b,0,none⟩),v] T (0,0)):=by simp[World.setCell,Array.getElem?_modify,hb]
  have X:∀ k,k≠b->(w.setCell ⟨b,0,none⟩ (.pointer (some ⟨b,0,none⟩))).heap[k]? =w.heap[k]? :=fun k hk=>Below.heap_setCell _ _ _ _ hk;have bD:(w.setCell ⟨b,0,none⟩ (.pointer (some ⟨b,0,none⟩))).heap.size=w.heap.size:=by simp[World.setCell]
  have M:=C' hm hβ rfl oG X;have fJ:=hm.write hβ rfl bD X (.bs true x T) (.bs true x T b v hh hT (hx.step M) h1);exact⟨_,_,_,_,β,rfl,⟨rfl,rfl,rfl⟩,fJ,J,.aM [] [] rfl oS,M,aZ _,fun _ _ h=>h⟩
theorem aeh:liesAt prog prog.depth 213 (2 / prog.cellsOf 213) 0 183 1=true:=kr
end Go.Proofs.Tryz.K
end
namespace Go.Proofs.Tryz.K
open Go.Abs
noncomputable def bo(f:Func):Code:=(f.body).getD .skip
abbrev FO(n:FuncId)(f:Func)(c:Code):=lX prog n f c
theorem fo{n:FuncId}{f:Func}{c:Code}(h1:prog.funcs[n]? =some f:=by kernel_rfl)(h2:f.body=some c:=by kernel_rfl)(C:gV f.ntmps c=true:=by kernel_rfl)(J:oY prog n=true:=by kernel_rfl):FO n f c:=⟨h1,h2,C,J⟩
noncomputable def gJ:=bo Tryz.f6
theorem ok6:FO 6 Tryz.f6 gJ:=fo
noncomputable def pc:=bo Tryz.f7
theorem ok7:FO 7 Tryz.f7 pc:=fo
noncomputable def fF:=bo Tryz.f13
theorem Wg:FO 13 Tryz.f13 fF:=fo
noncomputable def ni:=bo Tryz.f15
theorem aly:FO 15 Tryz.f15 ni:=fo
noncomputable def yR:=bo Tryz.f16
theorem akt:FO 16 Tryz.f16 yR:=fo
noncomputable def ew:=bo Tryz.f18
theorem VR:FO 18 Tryz.f18 ew:=fo
noncomputable def qw:=bo Tryz.f20
theorem Wi:FO 20 Tryz.f20 qw:=fo
noncomputable def uY:=bo Tryz.f21
theorem Wf:FO 21 Tryz.f21 uY:=fo
noncomputable def jD:=bo Tryz.f22
theorem ak7:FO 22 Tryz.f22 jD:=fo
noncomputable def wO:=bo Tryz.f24
theorem ak3:FO 24 Tryz.f24 wO:=fo
noncomputable def qz:=bo Tryz.f26
theorem Wo:FO 26 Tryz.f26 qz:=fo
noncomputable def qA:=bo Tryz.f27
theorem Wl:FO 27 Tryz.f27 qA:=fo
noncomputable def jE:=bo Tryz.f30
theorem aj0:FO 30 Tryz.f30 jE:=fo
noncomputable def pP:=bo Tryz.f35
theorem akN:FO 35 Tryz.f35 pP:=fo
noncomputable def HK:=bo Tryz.f39
theorem alk:FO 39 Tryz.f39 HK:=fo
noncomputable def T8:=bo Tryz.f42
theorem alp:FO 42 Tryz.f42 T8:=fo
noncomputable def gY:=bo Tryz.f43
theorem akl:FO 43 Tryz.f43 gY:=fo
noncomputable def jX:=bo Tryz.f44
theorem ako:FO 44 Tryz.f44 jX:=fo
noncomputable def qB:=bo Tryz.f45
theorem akq:FO 45 Tryz.f45 qB:=fo
noncomputable def HL:=bo Tryz.f48
theorem aka:FO 48 Tryz.f48 HL:=fo
noncomputable def pQ:=bo Tryz.f49
theorem aky:FO 49 Tryz.f49 pQ:=fo
noncomputable def HM:=bo Tryz.f50
theorem akw:FO 50 Tryz.f50 HM:=fo
noncomputable def nV:=bo Tryz.f55
theorem akV:FO 55 Tryz.f55 nV:=fo
noncomputable def gH:=bo Tryz.f56
theorem akZ:FO 56 Tryz.f56 gH:=fo
noncomputable def gZ:=bo Tryz.f57
theorem akg:FO 57 Tryz.f57 gZ:=fo
noncomputable def HN:=bo Tryz.f58
theorem ak5:FO 58 Tryz.f58 HN:=fo
noncomputable def eK:=bo Tryz.f62
theorem Wn:FO 62 Tryz.f62 eK:=fo
noncomputable def wP:=bo Tryz.f63
theorem al9:FO 63 Tryz.f63 wP:=fo
noncomputable def dR:=bo Tryz.f64
theorem ajY:FO 64 Tryz.f64 dR:=fo
noncomputable def pM:=bo Tryz.f65
theorem aj2:FO 65 Tryz.f65 pM:=fo
noncomputable def D':=bo Tryz.f67
theorem akj:FO 67 Tryz.f67 D':=fo
noncomputable def yS:=bo Tryz.f70
theorem akJ:FO 70 Tryz.f70 yS:=fo
noncomputable def HO:=bo Tryz.f71
theorem akE:FO 71 Tryz.f71 HO:=fo
noncomputable def qC:=bo Tryz.f72
theorem Wh:FO 72 Tryz.f72 qC:=fo
noncomputable def HP:=bo Tryz.f73
theorem alX:FO 73 Tryz.f73 HP:=fo
noncomputable def yT:=bo Tryz.f74
theorem ajU:FO 74 Tryz.f74 yT:=fo
noncomputable def HQ:=bo Tryz.f76
theorem ajL:FO 76 Tryz.f76 HQ:=fo
noncomputable def T9:=bo Tryz.f81
theorem alq:FO 81 Tryz.f81 T9:=fo
noncomputable def nW:=bo Tryz.f82
theorem ake:FO 82 Tryz.f82 nW:=fo
noncomputable def tA:=bo Tryz.f83
theorem akc:FO 83 Tryz.f83 tA:=fo
noncomputable def HR:=bo Tryz.f86
theorem akT:FO 86 Tryz.f86 HR:=fo
noncomputable def HS:=bo Tryz.f87
theorem akR:FO 87 Tryz.f87 HS:=fo
noncomputable def HT:=bo Tryz.f88
theorem akP:FO 88 Tryz.f88 HT:=fo
noncomputable def tB:=bo Tryz.f89
theorem VC:FO 89 Tryz.f89 tB:=fo
noncomputable def HU:=bo Tryz.f90
theorem akX:FO 90 Tryz.f90 HU:=fo
noncomputable def Br:=bo Tryz.f91
theorem aj4:FO 91 Tryz.f91 Br:=fo
noncomputable def Bs:=bo Tryz.f92
theorem aj6:FO 92 Tryz.f92 Bs:=fo
noncomputable def yQ:=bo Tryz.f93
theorem ame:FO 93 Tryz.f93 yQ:=fo
noncomputable def Bt:=bo Tryz.f94
theorem aj8:FO 94 Tryz.f94 Bt:=fo
noncomputable def uZ:=bo Tryz.f95
theorem alG:FO 95 Tryz.f95 uZ:=fo
noncomputable def HV:=bo Tryz.f96
theorem alI:FO 96 Tryz.f96 HV:=fo
noncomputable def dS:=bo Tryz.f97
theorem al7:FO 97 Tryz.f97 dS:=fo
noncomputable def gg:=bo Tryz.f98
theorem al4:FO 98 Tryz.f98 gg:=fo
noncomputable def pR:=bo Tryz.f99
theorem ajW:FO 99 Tryz.f99 pR:=fo
noncomputable def s7:=bo Tryz.f100
theorem agM:FO 100 Tryz.f100 s7:=fo
noncomputable def dI:=bo Tryz.f111
theorem UU:FO 111 Tryz.f111 dI:=fo
noncomputable def GL:=bo Tryz.f112
theorem agT:FO 112 Tryz.f112 GL:=fo
noncomputable def kT:=bo Tryz.f114
theorem ahb:FO 114 Tryz.f114 kT:=fo
noncomputable def s8:=bo Tryz.f115
theorem agK:FO 115 Tryz.f115 s8:=fo
noncomputable def GM:=bo Tryz.f116
theorem agI:FO 116 Tryz.f116 GM:=fo
noncomputable def Be:=bo Tryz.f119
theorem agr:FO 119 Tryz.f119 Be:=fo
noncomputable def DL:=bo Tryz.f120
theorem agG:FO 120 Tryz.f120 DL:=fo
noncomputable def s9:=bo Tryz.f122
theorem U':FO 122 Tryz.f122 s9:=fo
noncomputable def DM:=bo Tryz.f123
theorem aio:FO 123 Tryz.f123 DM:=fo
noncomputable def GN:=bo Tryz.f124
theorem ahS:FO 124 Tryz.f124 GN:=fo
noncomputable def GO:=bo Tryz.f125
theorem ah0:FO 125 Tryz.f125 GO:=fo
noncomputable def GP:=bo Tryz.f126
theorem agb:FO 126 Tryz.f126 GP:=fo
noncomputable def GQ:=bo Tryz.f127
theorem ahW:FO 127 Tryz.f127 GQ:=fo
noncomputable def GR:=bo Tryz.f128
theorem ahU:FO 128 Tryz.f128 GR:=fo
noncomputable def eY:=bo Tryz.f129
theorem aiu:FO 129 Tryz.f129 eY:=fo
noncomputable def o1:=bo Tryz.f130
theorem ahM:FO 130 Tryz.f130 o1:=fo
noncomputable def nb:=bo Tryz.f131
theorem ais:FO 131 Tryz.f131 nb:=fo
noncomputable def eF:=bo Tryz.f132
theorem ahJ:FO 132 Tryz.f132 eF:=fo
noncomputable def jA:=bo Tryz.f133
theorem ahB:FO 133 Tryz.f133 jA:=fo
noncomputable def yD:=bo Tryz.f134
theorem ahz:FO 134 Tryz.f134 yD:=fo
noncomputable def GS:=bo Tryz.f135
theorem agh:FO 135 Tryz.f135 GS:=fo
noncomputable def GU:=bo Tryz.f144
theorem agA:FO 144 Tryz.f144 GU:=fo
noncomputable def Lx:=bo Tryz.f146
theorem agC:FO 146 Tryz.f146 Lx:=fo
noncomputable def GV:=bo Tryz.f147
theorem agx:FO 147 Tryz.f147 GV:=fo
noncomputable def GW:=bo Tryz.f148
theorem agE:FO 148 Tryz.f148 GW:=fo
noncomputable def Bf:=bo Tryz.f162
theorem aim:FO 162 Tryz.f162 Bf:=fo
noncomputable def GX:=bo Tryz.f163
theorem af9:FO 163 Tryz.f163 GX:=fo
noncomputable def GY:=bo Tryz.f164
theorem ahO:FO 164 Tryz.f164 GY:=fo
noncomputable def GZ:=bo Tryz.f165
theorem ahY:FO 165 Tryz.f165 GZ:=fo
noncomputable def ta:=bo Tryz.f166
theorem UN:FO 166 Tryz.f166 ta:=fo
noncomputable def G0:=bo Tryz.f167
theorem ahQ:FO 167 Tryz.f167 G0:=fo
noncomputable def G3:=bo Tryz.f168
theorem Vi:FO 168 Tryz.f168 G3:=fo
noncomputable def Bg:=bo Tryz.f169
theorem Vj:FO 169 Tryz.f169 Bg:=fo
noncomputable def pK:=bo Tryz.f170
theorem aib:FO 170 Tryz.f170 pK:=fo
noncomputable def tc:=bo Tryz.f171
theorem Vl:FO 171 Tryz.f171 tc:=fo
noncomputable def G4:=bo Tryz.f172
theorem ah7:FO 172 Tryz.f172 G4:=fo
noncomputable def G5:=bo Tryz.f173
theorem aih:FO 173 Tryz.f173 G5:=fo
noncomputable def G6:=bo Tryz.f174
theorem ahx:FO 174 Tryz.f174 G6:=fo
noncomputable def G7:=bo Tryz.f175
theorem agO:FO 175 Tryz.f175 G7:=fo
noncomputable def DN:=bo Tryz.f176
theorem Vk:FO 176 Tryz.f176 DN:=fo
noncomputable def DO:=bo Tryz.f177
theorem aiq:FO 177 Tryz.f177 DO:=fo
noncomputable def Ts:=bo Tryz.f178
theorem aiL:FO 178 Tryz.f178 Ts:=fo
noncomputable def yE:=bo Tryz.f179
theorem agj:FO 179 Tryz.f179 yE:=fo
noncomputable def td:=bo Tryz.f180
theorem agl:FO 180 Tryz.f180 td:=fo
noncomputable def fg:=bo Tryz.f181
theorem aiE:FO 181 Tryz.f181 fg:=fo
noncomputable def G8:=bo Tryz.f182
theorem aiy:FO 182 Tryz.f182 G8:=fo
noncomputable def wG:=bo Tryz.f183
theorem agn:FO 183 Tryz.f183 wG:=fo
noncomputable def mu:=bo Tryz.f184
theorem aiG:FO 184 Tryz.f184 mu:=fo
noncomputable def uO:=bo Tryz.f185
theorem ag0:FO 185 Tryz.f185 uO:=fo
noncomputable def qm:=bo Tryz.f186
theorem aiC:FO 186 Tryz.f186 qm:=fo
noncomputable def te:=bo Tryz.f201
theorem US:FO 201 Tryz.f201 te:=fo
noncomputable def tg:=bo Tryz.f202
theorem UT:FO 202 Tryz.f202 tg:=fo
noncomputable def G9:=bo Tryz.f203
theorem agv:FO 203 Tryz.f203 G9:=fo
noncomputable def tk:=bo Tryz.f223
theorem UO:FO 223 Tryz.f223 tk:=fo
noncomputable def tl:=bo Tryz.f226
theorem UM:FO 226 Tryz.f226 tl:=fo
noncomputable def o2:=bo Tryz.f227
theorem ah':FO 227 Tryz.f227 o2:=fo
noncomputable def G':=bo Tryz.f228
theorem age:FO 228 Tryz.f228 G':=fo
noncomputable def Ha:=bo Tryz.f229
theorem aij:FO 229 Tryz.f229 Ha:=fo
noncomputable def Hb:=bo Tryz.f230
theorem ah5:FO 230 Tryz.f230 Hb:=fo
noncomputable def Hc:=bo Tryz.f231
theorem aie:FO 231 Tryz.f231 Hc:=fo
noncomputable def jU:=bo Tryz.f232
theorem aht:FO 232 Tryz.f232 jU:=fo
noncomputable def Bh:=bo Tryz.f233
theorem ahv:FO 233 Tryz.f233 Bh:=fo
noncomputable def rT:=bo Tryz.f234
theorem agQ:FO 234 Tryz.f234 rT:=fo
noncomputable def gd:=bo Tryz.f235
theorem aiA:FO 235 Tryz.f235 gd:=fo
noncomputable def He:=bo Tryz.f244
theorem ag4:FO 244 Tryz.f244 He:=fo
noncomputable def Hf:=bo Tryz.f245
theorem ahq:FO 245 Tryz.f245 Hf:=fo
noncomputable def yF:=bo Tryz.f251
theorem ag2:FO 251 Tryz.f251 yF:=fo
noncomputable def fh:=bo Tryz.f252
theorem aho:FO 252 Tryz.f252 fh:=fo
noncomputable def Tt:=bo Tryz.f253
theorem aiM:FO 253 Tryz.f253 Tt:=fo
noncomputable def Tu:=bo Tryz.f256
theorem aiN:FO 256 Tryz.f256 Tu:=fo
noncomputable def rU:=bo Tryz.f260
theorem ahm:FO 260 Tryz.f260 rU:=fo
noncomputable def Hg:=bo Tryz.f266
theorem ahk:FO 266 Tryz.f266 Hg:=fo
noncomputable def Tv:=bo Tryz.f269
theorem aiO:FO 269 Tryz.f269 Tv:=fo
noncomputable def Hh:=bo Tryz.f277
theorem ahi:FO 277 Tryz.f277 Hh:=fo
theorem bj{f:FuncId}{fn:Func}{c:Code}(hf:lX Tryz.prog f fn c){args:List D}(ht:∀ a∈args,Tr a){r:D}(hr:Tr r)(h:AW Tryz.prog c8 true c (iD Tryz.prog fn.results.toList fun d _=>d=r) ⟨iX args,fun _=>none,0⟩)(hn:Nat.ble args.length fn.ntmps=true:=by kernel_rfl):aB Tryz.prog f args r:=ab5 mixed hf hn ht hr h
theorem I6{f:FuncId}{fn:Func}{c:Code}(hf:lX Tryz.prog f fn c){args:List D}(ht:∀ a∈args,Tr a){es:List D}(C:∀ a∈es,Tr a){k:Nat}{t:TypeId}(h:AW Tryz.prog c8 true c (iD Tryz.prog fn.results.toList fun d st=>∃ i,d=.rs i 0 k∧st.mem i=some (.cells es t)) ⟨iX args,fun _=>none,0⟩)(hn:Nat.ble args.length fn.ntmps=true:=by kernel_rfl):kW Tryz.prog f args es k t:=RJ mixed hf hn ht C h
theorem wa{f:FuncId}{fn:Func}{c:Code}(hf:lX Tryz.prog f fn c){args:List D}{m:Mem}{nx:Nat}{eg:D->Mem->Nat->Prop}(h:AW Tryz.prog c8 true c (iD Tryz.prog fn.results.toList fun d st=>eg d st.mem st.nx) ⟨iX args,m,nx⟩)(hn:Nat.ble args.length fn.ntmps=true:=by kernel_rfl):fP Tryz.prog f args m nx eg:=RI mixed hf hn h
def dY(P:Program)(t:TypeId):Array Field:=match P.underlying t with|some (.struct fs)=>fs|_=> #[]
theorem u2:prog.underlying 2=some (.int .i64):=kr
theorem u3:prog.underlying 3=some (.int .i64):=kr
theorem u5:prog.underlying 5=some (.int .u8):=kr
theorem u8:prog.underlying 8=some (.struct (dY prog 8)):=kr
theorem WZ:prog.underlying 70=some (.struct (dY prog 70)):=kr
theorem WY:prog.underlying 72=some (.struct (dY prog 72)):=kr
theorem B':eL prog 93=3:=kr
theorem Ca:fT prog 93=true:=kr
theorem Mz:eL prog 105=9:=kr
theorem MA:fT prog 105=true:=kr
theorem MH:lW prog 111=237:=kr
theorem VY:prog.underlying 121=some (.struct (dY prog 121)):=kr
theorem U5:((dY prog 121).toList.map fun f=>(f.offset,prog.cellsOf f.type))=[(0,1),(1,1)]:=kr
theorem U6:((dY prog 121).toList.all fun f=>(prog.info? f.type).isSome)=true:=kr
theorem Es:eL prog 144=9:=kr
theorem Et:fT prog 144=true:=kr
theorem Mv:eL prog 172=121:=kr
theorem Mw:fT prog 172=true:=kr
theorem VZ:prog.underlying 174=some (.struct (dY prog 174)):=kr
theorem U7:((dY prog 174).toList.map fun f=>(f.offset,prog.cellsOf f.type))=[(0,2),(2,1)]:=kr
theorem U9:((dY prog 174).toList.all fun f=>(prog.info? f.type).isSome)=true:=kr
theorem MD:eL prog 194=3:=kr
theorem ME:fT prog 194=true:=kr
def zf(i:Nat):Code->Option (Array Oper)
 | .region j o _=>bif Nat.beq i j then some o else none
 | .seq a b=>match zf i a with
  |some x=>some x
  |none=>zf i b
 | .cond _ a b=>match zf i a with
  |some x=>some x
  |none=>zf i b
 | .block _ b=>zf i b
 | .loop b=>zf i b
 | .scope b=>zf i b
 | .rangeFunc _ _ a b=>match zf i a with
  |some x=>some x
  |none=>zf i b
 |_=>none
def Z(b:Code)(i:Nat):Array Oper:=(zf i b).getD #[]
abbrev G(i:Nat)(o:Array Oper):Code:=.region i o false
abbrev G1(b:Code)(i:Nat):Code:=.region i (Z b i) false
abbrev G2(b:Code)(i:Nat):Code:=.region i (Z b i) true
abbrev S1(a b:Code):Code:=.seq a b
abbrev C1(n:Nat)(a b:Code):Code:=.cond (.tmp n) a b
abbrev B1(n:Nat)(a:Code):Code:=.block n a
abbrev X1(n:Nat):Code:=.exit n
abbrev K1:Code:=.skip
theorem alh:fF=(S1 (G1 fF 0) (S1 (S1 (G1 fF 1) (B1 0 (.loop (S1 (S1 (G1 fF 2) (C1 13 K1 (X1 0))) (S1 (B1 1 (S1 (G1 fF 4) (S1 (S1 (G1 fF 5) (C1 47 (S1 (G1 fF 6) .ret) K1)) (S1 (S1 (G1 fF 7) (B1 2 (.loop (S1 (S1 (G1 fF 8) (C1 52 K1 (X1 2))) (S1 (B1 3 (S1 (G1 fF 10) (C1 61 (S1 (G1 fF 11) .ret) K1))) (G1 fF 9)))))) (S1 (G1 fF 12) (B1 4 (.loop (S1 (S1 (G1 fF 13) (C1 66 K1 (X1 4))) (S1 (B1 5 (S1 (G1 fF 15) (S1 (S1 (G1 fF 16) (C1 106 (S1 (G1 fF 17) .ret) K1)) (S1 (S1 (G1 fF 18) (B1 6 (.loop (S1 (S1 (G1 fF 19) (C1 111 K1 (X1 6))) (S1 (B1 7 (S1 (G1 fF 21) (C1 121 (S1 (G1 fF 22) .ret) K1))) (G1 fF 20)))))) (S1 (G1 fF 23) (B1 8 (.loop (S1 (S1 (G1 fF 24) (C1 127 K1 (X1 8))) (S1 (B1 9 (S1 (G1 fF 26) (C1 138 (S1 (G1 fF 27) .ret) K1))) (G1 fF 25)))))))))) (G1 fF 14)))))))))) (G1 fF 3)))))) (S1 (G1 fF 28) .ret))):=kr
theorem alz:ni=(S1 (G1 ni 0) (S1 (G1 ni 1) (S1 (G1 ni 2) (S1 (G1 ni 3) (S1 (G1 ni 4) (S1 (G1 ni 5) (S1 (G1 ni 6) (S1 (G1 ni 7) (S1 (G1 ni 8) (S1 (G1 ni 9) (S1 (S1 (G1 ni 10) (C1 107 (S1 (G1 ni 11) .ret) K1)) (S1 (G1 ni 12) (S1 (G1 ni 13) .ret))))))))))))):=kr
theorem VQ:yR=(S1 (G1 yR 0) (S1 (G1 yR 1) (S1 (S1 (G1 yR 2) (C1 12 (S1 (G1 yR 3) .ret) K1)) (S1 (G1 yR 4) .ret)))):=kr
theorem aa7:bT (Z ew 29)=some []:=kr
theorem VS:ew=(S1 (G1 ew 0) (S1 (G1 ew 1) (S1 (S1 (G1 ew 2) (C1 26 (S1 (G1 ew 3) .ret) K1)) (S1 (G1 ew 4) (S1 (G1 ew 5) (S1 (S1 (G1 ew 6) (B1 0 (.loop (S1 (G1 ew 7) (S1 (C1 32 K1 (X1 0)) (S1 (B1 1 (S1 (G1 ew 8) (S1 (S1 (G1 ew 9) (C1 45 (S1 (G1 ew 10) .ret) K1)) (S1 (G1 ew 11) (S1 (G1 ew 12) (B1 2 (.loop (S1 (G1 ew 13) (S1 (C1 52 K1 (X1 2)) (S1 (B1 3 (S1 (G1 ew 14) (S1 (S1 (G1 ew 15) (S1 (G1 ew 16) (C1 85 (S1 (G1 ew 17) .ret) K1))) (G1 ew 18)))) (G1 ew 19))))))))))) (G1 ew 20))))))) (S1 (S1 (G1 ew 21) (C1 95 (S1 (G1 ew 22) .ret) K1)) (S1 (S1 (G1 ew 23) (B1 4 (.loop (S1 (G1 ew 24) (S1 (C1 99 K1 (X1 4)) (S1 (B1 5 (S1 (G1 ew 25) (S1 (G1 ew 26) (B1 6 (.loop (S1 (G1 ew 27) (S1 (C1 106 K1 (X1 6)) (S1 (B1 7 (S1 (G1 ew 28) (S1 (G2 ew 29) (C1 138 (S1 (G1 ew 30) .ret) K1)))) (G1 ew 31))))))))) (G1 ew 32))))))) (S1 (G1 ew 33) .ret))))))))):=kr
theorem acX:bT (Z qw 6)=some []:=kr
theorem aln:qw=(S1 (G1 qw 0) (S1 (S1 (G1 qw 1) (C1 10 (S1 (G1 qw 2) .ret) K1)) (S1 (S1 (G1 qw 3) (B1 0 (.loop (S1 (S1 (G1 qw 4) (C1 14 K1 (X1 0))) (S1 (B1 1 (S1 (G2 qw 6) (C1 26 (S1 (G1 qw 7) .ret) K1))) (G1 qw 5)))))) (S1 (G1 qw 8) .ret)))):=kr
theorem alg:uY=(S1 (G1 uY 0) (S1 (S1 (G1 uY 1) (B1 0 (.loop (S1 (S1 (G1 uY 2) (C1 7 K1 (X1 0))) (S1 (B1 1 (S1 (G1 uY 4) (C1 15 (S1 (G1 uY 5) .ret) K1))) (G1 uY 3)))))) (S1 (G1 uY 6) .ret))):=kr
theorem acU:bT (Z jD 9)=some []:=kr
theorem ak8:jD=(S1 (G1 jD 0) (S1 (G1 jD 1) (S1 (S1 (G1 jD 2) (C1 23 (S1 (G1 jD 3) .ret) K1)) (S1 (G1 jD 4) (S1 (G1 jD 5) (S1 (S1 (G1 jD 6) (B1 0 (.loop (S1 (G1 jD 7) (S1 (C1 37 K1 (X1 0)) (S1 (B1 1 (S1 (G1 jD 8) (G2 jD 9))) (G1 jD 10))))))) (S1 (G1 jD 11) (S1 (S1 (G1 jD 12) (B1 2 (.loop (S1 (G1 jD 13) (S1 (C1 54 K1 (X1 2)) (S1 (B1 3 (S1 (G1 jD 14) (S1 (G1 jD 15) (C1 61 (G1 jD 16) K1)))) (G1 jD 17))))))) (S1 (G1 jD 18) .ret))))))))):=kr
theorem ak4:wO=(S1 (G1 wO 0) (S1 (G1 wO 1) (S1 (S1 (G1 wO 2) (C1 17 (S1 (G1 wO 3) .ret) K1)) (S1 (G1 wO 4) (S1 (G1 wO 5) .ret))))):=kr
theorem ade:bT (Z qz 6)=some []:=kr
theorem alP:qz=(S1 (G1 qz 0) (S1 (S1 (G1 qz 1) (C1 10 (S1 (G1 qz 2) .ret) K1)) (S1 (S1 (G1 qz 3) (B1 0 (.loop (S1 (S1 (G1 qz 4) (C1 14 K1 (X1 0))) (S1 (B1 1 (S1 (G2 qz 6) (C1 26 (S1 (G1 qz 7) .ret) K1))) (G1 qz 5)))))) (S1 (G1 qz 8) .ret)))):=kr
theorem acY:bT (Z qA 6)=some []:=kr
theorem alo:qA=(S1 (G1 qA 0) (S1 (S1 (G1 qA 1) (C1 10 (S1 (G1 qA 2) .ret) K1)) (S1 (S1 (G1 qA 3) (B1 0 (.loop (S1 (S1 (G1 qA 4) (C1 14 K1 (X1 0))) (S1 (B1 1 (S1 (G2 qA 6) (C1 25 (S1 (G1 qA 7) .ret) K1))) (G1 qA 5)))))) (S1 (G1 qA 8) .ret)))):=kr
theorem acF:bT (Z jE 9)=some []:=kr
theorem aj1:jE=(S1 (G1 jE 0) (S1 (S1 (G1 jE 1) (C1 11 (S1 (G1 jE 2) .ret) K1)) (S1 (S1 (G1 jE 3) (B1 0 (.loop (S1 (G1 jE 4) (S1 (C1 15 K1 (X1 0)) (S1 (B1 1 (S1 (G1 jE 5) (S1 (S1 (G1 jE 6) (S1 (G1 jE 7) (C1 22 (S1 (G1 jE 8) .ret) K1))) (S1 (G2 jE 9) (C1 37 (S1 (G1 jE 10) .ret) K1))))) (G1 jE 11))))))) (S1 (S1 (G1 jE 12) (B1 2 (.loop (S1 (G1 jE 13) (S1 (C1 43 K1 (X1 2)) (S1 (B1 3 (S1 (G1 jE 14) (S1 (G1 jE 15) (C1 51 (S1 (G1 jE 16) .ret) K1)))) (G1 jE 17))))))) (S1 (G1 jE 18) .ret))))):=kr
theorem acS:bT (Z pP 7)=some []:=kr
theorem akO:pP=(S1 (G1 pP 0) (S1 (G1 pP 1) (S1 (S1 (G1 pP 2) (C1 21 (S1 (G1 pP 3) .ret) K1)) (S1 (S1 (G1 pP 4) (B1 0 (.rangeFunc (.tmp 27) #[28,29] (S1 (G1 pP 5) (G1 pP 6)) (B1 1 (S1 (G2 pP 7) (C1 42 (S1 (G1 pP 8) .ret) K1)))))) (S1 (G1 pP 9) .ret))))):=kr
theorem alm:HK=(S1 (G1 HK 0) (S1 (G1 HK 1) .ret)):=kr
theorem aa0:bT (Z gY 20)=some [(0,3),(1,3),(3,6),(4,6),(5,6),(3,7),(4,7),(5,7),(9,11),(10,11)]:=kr
theorem akm:gY=(S1 (G1 gY 0) (S1 (S1 (G1 gY 1) (S1 (G1 gY 2) (C1 21 (S1 (G1 gY 3) .ret) K1))) (S1 (G1 gY 4) (S1 (S1 (G1 gY 5) (B1 0 (.loop (S1 (G1 gY 6) (S1 (C1 28 K1 (X1 0)) (S1 (B1 1 (S1 (G1 gY 7) (G1 gY 8))) (G1 gY 9))))))) (S1 (G1 gY 10) (S1 (S1 (G1 gY 11) (B1 2 (.loop (S1 (G1 gY 12) (S1 (C1 42 K1 (X1 2)) (S1 (B1 3 (S1 (G1 gY 13) (S1 (G1 gY 14) (S1 (S1 (G1 gY 15) (B1 4 (.loop (S1 (G1 gY 16) (S1 (C1 49 K1 (X1 4)) (S1 (B1 5 (S1 (G1 gY 17) (G1 gY 18))) (G1 gY 19))))))) (G2 gY 20))))) (G1 gY 21))))))) (S1 (G1 gY 22) .ret))))))):=kr
theorem akp:jX=(S1 (G1 jX 0) (.scope (S1 (G1 jX 1) (S1 (.label 0) (S1 (B1 0 (.loop (B1 1 (S1 (G1 jX 2) (S1 (S1 (G1 jX 3) (B1 2 (.loop (S1 (G1 jX 4) (S1 (C1 21 K1 (X1 2)) (S1 (B1 3 (S1 (G1 jX 5) (S1 (G1 jX 6) (S1 (S1 (G1 jX 7) (B1 4 (.loop (S1 (G1 jX 8) (S1 (C1 35 K1 (X1 4)) (S1 (B1 5 (S1 (G1 jX 9) (G1 jX 10))) (G1 jX 11))))))) (G1 jX 12))))) (G1 jX 13))))))) (S1 (G1 jX 14) (S1 (G1 jX 15) (S1 (S1 (G1 jX 16) (C1 60 (X1 0) K1)) (G1 jX 17))))))))) (S1 (G1 jX 18) .ret)))))):=kr
theorem akr:qB=(S1 (G1 qB 0) (S1 (G1 qB 1) (S1 (S1 (G1 qB 2) (B1 0 (.loop (S1 (G1 qB 3) (S1 (C1 10 K1 (X1 0)) (S1 (B1 1 (S1 (G1 qB 4) (S1 (S1 (G1 qB 5) (C1 17 (G1 qB 6) K1)) (G1 qB 7)))) (G1 qB 8))))))) (S1 (G1 qB 9) .ret)))):=kr
theorem akb:HL=(S1 (G1 HL 0) (S1 (G1 HL 1) .ret)):=kr
theorem akz:pQ=(S1 (G1 pQ 0) (S1 (S1 (G1 pQ 1) (C1 14 (S1 (G1 pQ 2) .ret) K1)) (S1 (S1 (G1 pQ 3) (B1 0 (.loop (S1 (G1 pQ 4) (S1 (C1 18 K1 (X1 0)) (S1 (B1 1 (S1 (G1 pQ 5) (S1 (G1 pQ 6) (S1 (G1 pQ 7) (C1 30 (S1 (G1 pQ 8) .ret) K1))))) (G1 pQ 9))))))) (S1 (G1 pQ 10) .ret)))):=kr
theorem akx:HM=(S1 (G1 HM 0) (S1 (G1 HM 1) .ret)):=kr
theorem akW:nV=(S1 (G1 nV 0) (S1 (G1 nV 1) (S1 (S1 (G1 nV 2) (C1 16 (S1 (G1 nV 3) .ret) K1)) (S1 (S1 (G1 nV 4) (C1 21 (S1 (G1 nV 5) .ret) K1)) (S1 (S1 (G1 nV 6) (B1 0 (.loop (S1 (G1 nV 7) (S1 (C1 26 K1 (X1 0)) (S1 (B1 1 (S1 (G1 nV 8) (S1 (G1 nV 9) (C1 32 (S1 (G1 nV 10) .ret) K1)))) (G1 nV 11))))))) (S1 (G1 nV 12) .ret)))))):=kr
theorem abc:bT (Z gH 10)=some [(0,10)]:=kr
theorem abe:bT (Z gH 14)=some []:=kr
theorem ak0:gH=(S1 (G1 gH 0) (S1 (G1 gH 1) (S1 (G1 gH 2) (S1 (S1 (G1 gH 3) (B1 0 (.loop (S1 (G1 gH 4) (S1 (C1 28 K1 (X1 0)) (S1 (B1 1 (S1 (G1 gH 5) (S1 (G1 gH 6) (S1 (S1 (G1 gH 7) (B1 2 (.loop (S1 (G1 gH 8) (S1 (C1 34 K1 (X1 2)) (S1 (B1 3 (S1 (G1 gH 9) (S1 (G2 gH 10) (G1 gH 11)))) (G1 gH 12))))))) (S1 (S1 (G1 gH 13) (C1 58 (G2 gH 14) K1)) (S1 (G1 gH 15) (S1 (G1 gH 16) (B1 4 (.loop (S1 (G1 gH 17) (S1 (C1 73 K1 (X1 4)) (S1 (B1 5 (S1 (G1 gH 18) (G1 gH 19))) (G1 gH 20))))))))))))) (G1 gH 21))))))) (S1 (G1 gH 22) .ret))))):=kr
theorem acG:bT (Z gZ 3)=some [(2,3),(2,4),(2,6),(5,6),(2,7),(5,7),(5,9),(8,9)]:=kr
theorem aaZ:bT (Z gZ 16)=some [(3,4),(3,5),(3,6),(3,8),(7,8),(3,9),(7,9),(3,10),(7,10),(3,11),(7,11),(7,13),(12,13),(7,14),(12,14)]:=kr
theorem akh:gZ=(S1 (G1 gZ 0) (S1 (G1 gZ 1) (S1 (G1 gZ 2) (S1 (G2 gZ 3) (S1 (G1 gZ 4) (S1 (S1 (G1 gZ 5) (B1 0 (.loop (S1 (G1 gZ 6) (S1 (C1 33 K1 (X1 0)) (S1 (B1 1 (S1 (G1 gZ 7) (S1 (G1 gZ 8) (S1 (G1 gZ 9) (S1 (S1 (G1 gZ 10) (B1 2 (.loop (S1 (G1 gZ 11) (S1 (C1 42 K1 (X1 2)) (S1 (B1 3 (S1 (G1 gZ 12) (S1 (G1 gZ 13) (G1 gZ 14)))) (G1 gZ 15))))))) (S1 (G2 gZ 16) (S1 (S1 (G1 gZ 17) (C1 85 (G1 gZ 18) K1)) (G1 gZ 19)))))))) (G1 gZ 20))))))) (S1 (G1 gZ 21) .ret))))))):=kr
theorem ak6:HN=(S1 (G1 HN 0) (S1 (G1 HN 1) .ret)):=kr
theorem ada:bT (Z eK 1)=some [(29,30),(29,31),(39,40),(39,41)]:=kr
theorem adb:bT (Z eK 6)=some []:=kr
theorem abm:bT (Z eK 18)=some []:=kr
theorem abn:bT (Z eK 27)=some []:=kr
theorem alM:eK=(S1 (G1 eK 0) (S1 (S1 (G2 eK 1) (C1 76 (S1 (G1 eK 2) .ret) K1)) (S1 (S1 (G1 eK 3) (B1 0 (.loop (S1 (S1 (G1 eK 4) (C1 81 K1 (X1 0))) (S1 (B1 1 (S1 (G2 eK 6) (C1 94 (S1 (G1 eK 7) .ret) K1))) (G1 eK 5)))))) (S1 (S1 (G1 eK 8) (B1 2 (.loop (S1 (S1 (G1 eK 9) (C1 99 K1 (X1 2))) (S1 (B1 3 (S1 (G1 eK 11) (S1 (G1 eK 12) (S1 (S1 (G1 eK 13) (C1 118 (S1 (G1 eK 14) .ret) K1)) (S1 (S1 (G1 eK 15) (B1 4 (.loop (S1 (S1 (G1 eK 16) (C1 122 K1 (X1 4))) (S1 (B1 5 (S1 (G2 eK 18) (C1 134 (S1 (G1 eK 19) .ret) K1))) (G1 eK 17)))))) (S1 (G1 eK 20) (S1 (G1 eK 21) (S1 (S1 (G1 eK 22) (C1 218 (S1 (G1 eK 23) .ret) K1)) (S1 (G1 eK 24) (B1 6 (.loop (S1 (S1 (G1 eK 25) (C1 223 K1 (X1 6))) (S1 (B1 7 (S1 (G2 eK 27) (C1 236 (S1 (G1 eK 28) .ret) K1))) (G1 eK 26)))))))))))))) (G1 eK 10)))))) (S1 (G1 eK 29) .ret))))):=kr
theorem al':wP=(S1 (G1 wP 0) (S1 (B1 0 (S1 (G1 wP 1) (C1 3 (S1 (G1 wP 2) .ret) (S1 (G1 wP 3) (C1 7 (S1 (G1 wP 4) .ret) K1))))) (S1 (G1 wP 5) .ret))):=kr
theorem KN:bT (Z dR 8)=some []:=kr
theorem Ga:bT (Z dR 15)=some []:=kr
theorem ajZ:dR=(S1 (G1 dR 0) (S1 (S1 (G1 dR 1) (B1 0 (.loop (S1 (G1 dR 2) (S1 (C1 17 K1 (X1 0)) (S1 (B1 1 (S1 (G1 dR 3) (S1 (G1 dR 4) (S1 (G1 dR 5) (S1 (G1 dR 6) (B1 2 (S1 (G1 dR 7) (C1 31 (S1 (G2 dR 8) (C1 63 (S1 (G1 dR 9) .ret) K1)) (S1 (G1 dR 10) (C1 64 (S1 (G1 dR 11) (C1 80 (S1 (G1 dR 12) .ret) K1)) (S1 (G1 dR 13) (C1 81 (S1 (G1 dR 14) (S1 (G2 dR 15) (C1 103 (S1 (G1 dR 16) .ret) K1))) K1)))))))))))) (G1 dR 17))))))) (S1 (G1 dR 18) .ret))):=kr
theorem aj3:pM=(S1 (G1 pM 0) (S1 (G1 pM 1) (S1 (S1 (G1 pM 2) (B1 0 (.loop (S1 (G1 pM 3) (S1 (C1 10 K1 (X1 0)) (S1 (B1 1 (S1 (G1 pM 4) (S1 (G1 pM 5) (C1 22 (G1 pM 6) K1)))) (G1 pM 7))))))) (S1 (G1 pM 8) .ret)))):=kr
theorem akk:D'=(S1 (G1 D' 0) (S1 (G1 D' 1) (S1 (G1 D' 2) .ret))):=kr
theorem akK:yS=(S1 (G1 yS 0) (S1 (G1 yS 1) (S1 (S1 (G1 yS 2) (C1 36 (G1 yS 3) K1)) (S1 (G1 yS 4) .ret)))):=kr
theorem akF:HO=(S1 (G1 HO 0) (S1 (G1 HO 1) .ret)):=kr
theorem acW:bT (Z qC 6)=some []:=kr
theorem alj:qC=(S1 (G1 qC 0) (S1 (S1 (G1 qC 1) (C1 10 (S1 (G1 qC 2) .ret) K1)) (S1 (S1 (G1 qC 3) (B1 0 (.loop (S1 (S1 (G1 qC 4) (C1 14 K1 (X1 0))) (S1 (B1 1 (S1 (G2 qC 6) (C1 25 (S1 (G1 qC 7) .ret) K1))) (G1 qC 5)))))) (S1 (G1 qC 8) .ret)))):=kr
theorem alY:HP=(S1 (G1 HP 0) (S1 (G1 HP 1) .ret)):=kr
theorem ajV:yT=(S1 (G1 yT 0) (S1 (G1 yT 1) (S1 (S1 (G1 yT 2) (C1 11 (S1 (G1 yT 3) .ret) K1)) (S1 (G1 yT 4) .ret)))):=kr
theorem ajM:HQ=(S1 (G1 HQ 0) (S1 (G1 HQ 1) .ret)):=kr
theorem akf:nW=(S1 (G1 nW 0) (S1 (G1 nW 1) (S1 (G1 nW 2) (S1 (S1 (G1 nW 3) (B1 0 (.loop (S1 (G1 nW 4) (S1 (C1 14 K1 (X1 0)) (S1 (B1 1 (S1 (G1 nW 5) (S1 (G1 nW 6) (S1 (S1 (G1 nW 7) (C1 24 (S1 (G1 nW 8) (G1 nW 9)) K1)) (G1 nW 10))))) (G1 nW 11))))))) (S1 (G1 nW 12) .ret))))):=kr
theorem akd:tA=(S1 (G1 tA 0) (S1 (G1 tA 1) (S1 (S1 (G1 tA 2) (B1 0 (.loop (S1 (G1 tA 3) (S1 (C1 9 K1 (X1 0)) (S1 (B1 1 (S1 (G1 tA 4) (G1 tA 5))) (G1 tA 6))))))) (S1 (G1 tA 7) .ret)))):=kr
theorem akU:HR=(S1 (G1 HR 0) (S1 (G1 HR 1) .ret)):=kr
theorem akS:HS=(S1 (G1 HS 0) (S1 (G1 HS 1) .ret)):=kr
theorem akQ:HT=(S1 (G1 HT 0) (S1 (G1 HT 1) .ret)):=kr
theorem ajK:tB=(S1 (G1 tB 0) (S1 (S1 (G1 tB 1) (B1 0 (.loop (S1 (G1 tB 2) (S1 (C1 9 K1 (X1 0)) (S1 (B1 1 (S1 (G1 tB 3) (S1 (G1 tB 4) (C1 16 (S1 (G1 tB 5) .ret) K1)))) (G1 tB 6))))))) (S1 (G1 tB 7) .ret))):=kr
theorem akY:HU=(S1 (G1 HU 0) (S1 (G1 HU 1) .ret)):=kr
theorem aj5:Br=(S1 (G1 Br 0) (S1 (S1 (G1 Br 1) (C1 4 (S1 (G1 Br 2) .ret) K1)) (S1 (G1 Br 3) .ret))):=kr
theorem aj7:Bs=(S1 (G1 Bs 0) (S1 (S1 (G1 Bs 1) (C1 4 (S1 (G1 Bs 2) .ret) K1)) (S1 (G1 Bs 3) .ret))):=kr
theorem amf:yQ=(S1 (G1 yQ 0) (S1 (S1 (G1 yQ 1) (C1 4 (S1 (G1 yQ 2) .ret) K1)) (S1 (G1 yQ 3) .ret))):=kr
theorem aj9:Bt=(S1 (G1 Bt 0) (S1 (S1 (G1 Bt 1) (C1 4 (S1 (G1 Bt 2) .ret) K1)) (S1 (G1 Bt 3) .ret))):=kr
theorem alH:uZ=(S1 (G1 uZ 0) (S1 (G1 uZ 1) (S1 (S1 (G1 uZ 2) (B1 0 (.loop (S1 (S1 (G1 uZ 3) (C1 8 K1 (X1 0))) (S1 (B1 1 (G1 uZ 5)) (G1 uZ 4)))))) (S1 (G1 uZ 6) .ret)))):=kr
theorem alJ:HV=(S1 (G1 HV 0) (S1 (G1 HV 1) .ret)):=kr
theorem abx:bT (Z dS 10)=some []:=kr
theorem aby:bT (Z dS 32)=some []:=kr
theorem al8:dS=(S1 (G1 dS 0) (S1 (G1 dS 1) (S1 (G1 dS 2) (S1 (S1 (G1 dS 3) (C1 71 (S1 (G1 dS 4) .ret) K1)) (S1 (S1 (G1 dS 5) (C1 101 (S1 (G1 dS 6) .ret) K1)) (S1 (S1 (G1 dS 7) (B1 0 (.loop (S1 (S1 (G1 dS 8) (C1 106 K1 (X1 0))) (S1 (B1 1 (S1 (G2 dS 10) (C1 120 (S1 (G1 dS 11) .ret) K1))) (G1 dS 9)))))) (S1 (G1 dS 12) (S1 (S1 (G1 dS 13) (B1 2 (.loop (S1 (G1 dS 14) (S1 (C1 126 K1 (X1 2)) (S1 (B1 3 (S1 (G1 dS 15) (S1 (S1 (G1 dS 16) (C1 139 (S1 (G1 dS 17) .ret) K1)) (S1 (G1 dS 18) (C1 143 (S1 (S1 (G1 dS 19) (C1 148 (S1 (G1 dS 20) .ret) K1)) (G1 dS 21)) K1))))) (G1 dS 22))))))) (S1 (G1 dS 23) (S1 (S1 (G1 dS 24) (B1 4 (.loop (S1 (G1 dS 25) (S1 (C1 160 K1 (X1 4)) (S1 (B1 5 (S1 (G1 dS 26) (S1 (G1 dS 27) (S1 (G1 dS 28) (B1 6 (.loop (S1 (G1 dS 29) (S1 (C1 168 K1 (X1 6)) (S1 (B1 7 (S1 (G1 dS 30) (S1 (G1 dS 31) (S1 (G2 dS 32) (C1 187 (S1 (G1 dS 33) .ret) K1))))) (G1 dS 34)))))))))) (G1 dS 35))))))) (S1 (G1 dS 36) .ret))))))))))):=kr
theorem adp:bT (Z gg 7)=some []:=kr
theorem abv:bT (Z gg 17)=some []:=kr
theorem abw:bT (Z gg 18)=some [(14,15),(14,16),(14,18),(14,19)]:=kr
theorem al5:gg=(S1 (G1 gg 0) (.scope (S1 (G1 gg 1) (S1 (G1 gg 2) (S1 (.label 0) (S1 (S1 (G1 gg 3) (B1 0 (.loop (S1 (G1 gg 4) (S1 (C1 28 K1 (X1 0)) (S1 (B1 1 (S1 (G1 gg 5) (S1 (S1 (G1 gg 6) (C1 36 (X1 1) K1)) (S1 (S1 (G2 gg 7) (S1 (G1 gg 8) (C1 47 (S1 (G1 gg 9) .ret) K1))) (S1 (G1 gg 10) (B1 2 (.loop (S1 (G1 gg 11) (S1 (C1 52 K1 (X1 2)) (S1 (B1 3 (S1 (G1 gg 12) (S1 (S1 (G1 gg 13) (C1 57 (X1 1) K1)) (S1 (G1 gg 14) (B1 4 (.loop (S1 (G1 gg 15) (S1 (C1 64 K1 (X1 4)) (S1 (B1 5 (S1 (G1 gg 16) (S1 (G2 gg 17) (S1 (G2 gg 18) (C1 104 (S1 (G1 gg 19) .ret) K1))))) (G1 gg 20)))))))))) (G1 gg 21))))))))))) (G1 gg 22))))))) (S1 (G1 gg 23) .ret))))))):=kr
theorem acC:bT (Z pR 6)=some []:=kr
theorem ajX:pR=(S1 (G1 pR 0) (S1 (S1 (G1 pR 1) (C1 13 (S1 (G1 pR 2) .ret) K1)) (S1 (S1 (G1 pR 3) (B1 0 (.loop (S1 (G1 pR 4) (S1 (C1 17 K1 (X1 0)) (S1 (B1 1 (S1 (G1 pR 5) (S1 (G2 pR 6) (C1 32 (S1 (G1 pR 7) .ret) K1)))) (G1 pR 8))))))) (S1 (G1 pR 9) .ret)))):=kr
theorem agN:s7=(S1 (G1 s7 0) (S1 (S1 (G1 s7 1) (B1 0 (.loop (S1 (G1 s7 2) (S1 (C1 15 K1 (X1 0)) (S1 (B1 1 (S1 (G1 s7 3) (S1 (G1 s7 4) (C1 28 (S1 (G1 s7 5) .ret) K1)))) (G1 s7 6))))))) (S1 (G1 s7 7) .ret))):=kr
theorem aaS:bT (Z dI 8)=some [(1,6),(2,6),(6,7),(6,8),(6,9),(1,10),(2,10)]:=kr
theorem ZM:bT (Z dI 30)=some [(1,5),(2,5)]:=kr
theorem UW:dI=(S1 (G1 dI 0) (S1 (S1 (G1 dI 1) (S1 (G1 dI 2) (C1 17 (S1 (G1 dI 3) .ret) K1))) (S1 (G1 dI 4) (S1 (G1 dI 5) (S1 (S1 (G1 dI 6) (C1 22 (G1 dI 7) K1)) (S1 (G2 dI 8) (S1 (G1 dI 9) (S1 (G1 dI 10) (S1 (G1 dI 11) (S1 (S1 (G1 dI 12) (B1 0 (.loop (S1 (G1 dI 13) (S1 (C1 56 K1 (X1 0)) (S1 (B1 1 (S1 (G1 dI 14) (S1 (G1 dI 15) (S1 (S1 (G1 dI 16) (B1 2 (.loop (S1 (G1 dI 17) (S1 (C1 66 K1 (X1 2)) (S1 (B1 3 (S1 (G1 dI 18) (G1 dI 19))) (G1 dI 20))))))) (S1 (G1 dI 21) (S1 (G1 dI 22) (S1 (S1 (G1 dI 23) (C1 96 (G1 dI 24) K1)) (S1 (S1 (G1 dI 25) (C1 104 (G1 dI 26) K1)) (S1 (G1 dI 27) (B1 4 (.loop (S1 (G1 dI 28) (S1 (C1 113 K1 (X1 4)) (S1 (B1 5 (S1 (G1 dI 29) (G2 dI 30))) (G1 dI 31))))))))))))))) (G1 dI 32))))))) (S1 (G1 dI 33) .ret))))))))))):=kr
theorem agU:GL=(S1 (G1 GL 0) (S1 (G1 GL 1) .ret)):=kr
theorem aa9:bT (Z kT 6)=some []:=kr
theorem ZP:bT (Z kT 13)=some [(1,13)]:=kr
theorem ahc:kT=(S1 (G1 kT 0) (S1 (G1 kT 1) (B1 0 (.loop (S1 (S1 (G1 kT 2) (C1 16 K1 (X1 0))) (S1 (B1 1 (S1 (G1 kT 4) (S1 (S1 (G1 kT 5) (C1 28 .ret K1)) (S1 (S1 (G2 kT 6) (C1 43 (X1 1) K1)) (S1 (G1 kT 7) (B1 2 (.loop (S1 (G1 kT 8) (S1 (C1 53 K1 (X1 2)) (S1 (B1 3 (S1 (G1 kT 9) (S1 (G1 kT 10) (S1 (G1 kT 11) (C1 77 (S1 (G1 kT 12) (G2 kT 13)) K1))))) (G1 kT 14))))))))))) (G1 kT 3))))))):=kr
theorem agL:s8=(S1 (G1 s8 0) (S1 (S1 (G1 s8 1) (B1 0 (.loop (S1 (G1 s8 2) (S1 (C1 9 K1 (X1 0)) (S1 (B1 1 (S1 (G1 s8 3) (S1 (G1 s8 4) (C1 16 (S1 (G1 s8 5) .ret) K1)))) (G1 s8 6))))))) (S1 (G1 s8 7) .ret))):=kr
theorem agJ:GM=(S1 (G1 GM 0) (S1 (G1 GM 1) .ret)):=kr
theorem ags:Be=(S1 (G1 Be 0) (S1 (G1 Be 1) (S1 (G1 Be 2) (S1 (G1 Be 3) .ret)))):=kr
theorem aaR:bT (Z DL 1)=some [(4,6),(4,7),(4,8),(4,9)]:=kr
theorem agH:DL=(S1 (G1 DL 0) (S1 (G2 DL 1) .ret)):=kr
theorem ahf:s9=(S1 (G1 s9 0) (S1 (S1 (G1 s9 1) (B1 0 (.loop (S1 (G1 s9 2) (S1 (C1 9 K1 (X1 0)) (S1 (B1 1 (S1 (G1 s9 3) (S1 (G1 s9 4) (C1 16 (S1 (G1 s9 5) .ret) K1)))) (G1 s9 6))))))) (S1 (G1 s9 7) .ret))):=kr
theorem aip:DM=(S1 (G1 DM 0) (S1 (G1 DM 1) (S1 (G1 DM 2) .ret))):=kr
theorem ahT:GN=(S1 (G1 GN 0) (S1 (G1 GN 1) .ret)):=kr
theorem ah1:GO=(S1 (G1 GO 0) (S1 (G1 GO 1) .ret)):=kr
theorem agc:GP=(S1 (G1 GP 0) (S1 (G1 GP 1) .ret)):=kr
theorem ahX:GQ=(S1 (G1 GQ 0) (S1 (G1 GQ 1) .ret)):=kr
theorem ahV:GR=(S1 (G1 GR 0) (S1 (G1 GR 1) .ret)):=kr
theorem Z7:bT (Z eY 11)=some [(3,4),(3,5),(3,6)]:=kr
theorem Z8:bT (Z eY 28)=some [(7,8),(7,9),(7,10)]:=kr
theorem aiv:eY=(S1 (G1 eY 0) (S1 (G1 eY 1) (S1 (G1 eY 2) (S1 (S1 (G1 eY 3) (B1 0 (S1 (G1 eY 4) (C1 13 (G1 eY 5) (S1 (G1 eY 6) (C1 20 (G1 eY 7) (S1 (G1 eY 8) (C1 42 (S1 (G1 eY 9) (S1 (G1 eY 10) (C1 57 (G2 eY 11) K1))) (S1 (G1 eY 12) (C1 66 (G1 eY 13) (S1 (G1 eY 14) (C1 72 (S1 (G1 eY 15) (S1 (G1 eY 16) (G1 eY 17))) (S1 (G1 eY 18) (C1 107 (S1 (G1 eY 19) (G1 eY 20)) (S1 (G1 eY 21) (C1 153 (S1 (G1 eY 22) (G1 eY 23)) (S1 (G1 eY 24) (C1 187 (S1 (G1 eY 25) (G1 eY 26)) (S1 (G1 eY 27) (C1 224 (G2 eY 28) K1)))))))))))))))))))) (S1 (G1 eY 29) .ret))))):=kr
theorem ahN:o1=(S1 (G1 o1 0) (S1 (G1 o1 1) (S1 (S1 (G1 o1 2) (B1 0 (.loop (S1 (G1 o1 3) (S1 (C1 18 K1 (X1 0)) (S1 (B1 1 (S1 (G1 o1 4) (S1 (G1 o1 5) (B1 2 (.loop (S1 (G1 o1 6) (S1 (C1 28 K1 (X1 2)) (S1 (B1 3 (S1 (G1 o1 7) (G1 o1 8))) (G1 o1 9))))))))) (G1 o1 10))))))) (S1 (G1 o1 11) .ret)))):=kr
theorem ait:nb=(S1 (G1 nb 0) (S1 (S1 (G1 nb 1) (B1 0 (S1 (G1 nb 2) (C1 17 (S1 (G1 nb 3) .ret) (S1 (G1 nb 4) (C1 45 (S1 (G1 nb 5) .ret) (S1 (G1 nb 6) (C1 69 (S1 (G1 nb 7) .ret) (S1 (G1 nb 8) (C1 93 (S1 (G1 nb 9) (S1 (G1 nb 10) (S1 (G1 nb 11) .ret))) K1)))))))))) (S1 (G1 nb 12) (S1 (G1 nb 13) .ret)))):=kr
theorem abr:bT (Z eF 1)=some [(4,5),(4,6),(4,7),(4,8)]:=kr
theorem Z1:bT (Z eF 20)=some []:=kr
theorem Z2:bT (Z eF 24)=some [(2,8),(3,8)]:=kr
theorem Z3:bT (Z eF 25)=some []:=kr
theorem ahK:eF=(S1 (G1 eF 0) (S1 (G2 eF 1) (S1 (S1 (G1 eF 2) (B1 0 (.loop (S1 (G1 eF 3) (S1 (C1 29 K1 (X1 0)) (S1 (B1 1 (S1 (G1 eF 4) (G1 eF 5))) (G1 eF 6))))))) (S1 (G1 eF 7) (S1 (S1 (G1 eF 8) (B1 2 (.loop (S1 (G1 eF 9) (S1 (C1 45 K1 (X1 2)) (S1 (B1 3 (S1 (G1 eF 10) (G1 eF 11))) (G1 eF 12))))))) (S1 (S1 (G1 eF 13) (B1 4 (.loop (S1 (S1 (G1 eF 14) (C1 55 K1 (X1 4))) (B1 5 (S1 (G1 eF 15) (S1 (G1 eF 16) (B1 6 (.loop (S1 (G1 eF 17) (S1 (C1 61 K1 (X1 6)) (S1 (B1 7 (S1 (G1 eF 18) (S1 (S1 (G1 eF 19) (C1 69 (X1 7) K1)) (S1 (G2 eF 20) (S1 (G1 eF 21) (B1 8 (.loop (S1 (G1 eF 22) (S1 (C1 85 K1 (X1 8)) (S1 (B1 9 (S1 (G1 eF 23) (S1 (G2 eF 24) (S1 (G2 eF 25) (C1 110 (G1 eF 26) K1))))) (G1 eF 27))))))))))) (G1 eF 28))))))))))))) (S1 (G1 eF 29) .ret))))))):=kr
theorem J1:bT (Z jA 10)=some [(6,9)]:=kr
theorem ahC:jA=(S1 (G1 jA 0) (S1 (G1 jA 1) (S1 (S1 (G1 jA 2) (B1 0 (.loop (S1 (G1 jA 3) (S1 (C1 17 K1 (X1 0)) (S1 (B1 1 (S1 (G1 jA 4) (S1 (S1 (G1 jA 5) (B1 2 (.loop (S1 (G1 jA 6) (S1 (C1 24 K1 (X1 2)) (S1 (B1 3 (S1 (G1 jA 7) (G1 jA 8))) (G1 jA 9))))))) (S1 (G2 jA 10) (G1 jA 11))))) (G1 jA 12))))))) (S1 (S1 (G1 jA 13) (B1 4 (.loop (S1 (G1 jA 14) (S1 (C1 56 K1 (X1 4)) (S1 (B1 5 (S1 (G1 jA 15) (G1 jA 16))) (G1 jA 17))))))) (S1 (G1 jA 18) .ret))))):=kr
theorem abo:bT (Z yD 2)=some [(0,2)]:=kr
theorem ahA:yD=(S1 (G1 yD 0) (S1 (S1 (G1 yD 1) (C1 9 (S1 (G2 yD 2) .ret) K1)) (S1 (G1 yD 3) .ret))):=kr
theorem agi:GS=(S1 (G1 GS 0) (S1 (G1 GS 1) .ret)):=kr
theorem aaQ:bT (Z GU 0)=some [(1,4),(2,4)]:=kr
theorem agB:GU=(G2 GU 0):=kr
theorem agD:Lx=(G1 Lx 0):=kr
theorem agy:GV=(S1 (G1 GV 0) (S1 (G1 GV 1) .ret)):=kr
theorem agF:GW=(S1 (G1 GW 0) (G1 GW 1)):=kr
theorem ain:Bf=(S1 (G1 Bf 0) (S1 (G1 Bf 1) (S1 (G1 Bf 2) (S1 (G1 Bf 3) .ret)))):=kr
theorem af':GX=(S1 (G1 GX 0) (S1 (G1 GX 1) .ret)):=kr
theorem ahP:GY=(S1 (G1 GY 0) (S1 (G1 GY 1) .ret)):=kr
theorem ahZ:GZ=(S1 (G1 GZ 0) (S1 (G1 GZ 1) .ret)):=kr
theorem aga:ta=(S1 (G1 ta 0) (S1 (S1 (G1 ta 1) (B1 0 (.loop (S1 (G1 ta 2) (S1 (C1 9 K1 (X1 0)) (S1 (B1 1 (S1 (G1 ta 3) (S1 (G1 ta 4) (C1 16 (S1 (G1 ta 5) .ret) K1)))) (G1 ta 6))))))) (S1 (G1 ta 7) .ret))):=kr
theorem ahR:G0=(S1 (G1 G0 0) (S1 (G1 G0 1) .ret)):=kr
theorem ah3:G3=(S1 (G1 G3 0) (S1 (G1 G3 1) .ret)):=kr
theorem ah4:Bg=(S1 (G1 Bg 0) (S1 (S1 (G1 Bg 1) (C1 12 (S1 (G1 Bg 2) .ret) K1)) (S1 (G1 Bg 3) .ret))):=kr
theorem aic:pK=(S1 (G1 pK 0) (S1 (G1 pK 1) (S1 (S1 (G1 pK 2) (C1 20 (G1 pK 3) K1)) (S1 (G1 pK 4) (S1 (S1 (G1 pK 5) (B1 0 (S1 (G1 pK 6) (C1 31 (G1 pK 7) (S1 (G1 pK 8) (C1 43 (G1 pK 9) K1)))))) (S1 (G1 pK 10) .ret)))))):=kr
theorem ail:tc=(S1 (G1 tc 0) (S1 (S1 (G1 tc 1) (B1 0 (.loop (S1 (G1 tc 2) (S1 (C1 11 K1 (X1 0)) (S1 (B1 1 (S1 (G1 tc 3) (S1 (G1 tc 4) (C1 33 (S1 (G1 tc 5) .ret) K1)))) (G1 tc 6))))))) (S1 (G1 tc 7) .ret))):=kr
theorem ah8:G4=(S1 (G1 G4 0) (S1 (G1 G4 1) .ret)):=kr
theorem aii:G5=(S1 (G1 G5 0) (S1 (G1 G5 1) .ret)):=kr
theorem ahy:G6=(S1 (G1 G6 0) (S1 (G1 G6 1) .ret)):=kr
theorem agP:G7=(S1 (G1 G7 0) (S1 (G1 G7 1) .ret)):=kr
theorem Ri:bT (Z DN 1)=some [(10,11),(10,12),(10,13),(10,15),(10,16)]:=kr
theorem ah9:DN=(S1 (G1 DN 0) (S1 (G2 DN 1) .ret)):=kr
theorem abA:bT (Z DO 1)=some [(2,3)]:=kr
theorem air:DO=(S1 (G1 DO 0) (S1 (G2 DO 1) .ret)):=kr
theorem aaM:bT (Z yE 2)=some []:=kr
theorem agk:yE=(S1 (G1 yE 0) (S1 (S1 (G1 yE 1) (C1 6 (G2 yE 2) K1)) (S1 (G1 yE 3) .ret))):=kr
theorem aaN:bT (Z td 4)=some []:=kr
theorem agm:td=(S1 (G1 td 0) (S1 (S1 (G1 td 1) (B1 0 (.loop (S1 (G1 td 2) (S1 (C1 7 K1 (X1 0)) (S1 (B1 1 (S1 (G1 td 3) (G2 td 4))) (G1 td 5))))))) (S1 (G1 td 6) .ret))):=kr
theorem aiF:fg=(S1 (G1 fg 0) (S1 (S1 (G1 fg 1) (B1 0 (S1 (S1 (G1 fg 2) (C1 5 K1 (S1 (G1 fg 3) (C1 5 K1 (S1 (G1 fg 4) (C1 5 K1 (S1 (G1 fg 5) (C1 5 K1 (S1 (G1 fg 6) (C1 5 K1 (S1 (G1 fg 7) (C1 5 K1 (S1 (G1 fg 8) (C1 5 K1 (S1 (G1 fg 9) (C1 5 K1 (G1 fg 10))))))))))))))))) (C1 5 (S1 (G1 fg 11) .ret) (S1 (S1 (G1 fg 12) (C1 18 K1 (S1 (G1 fg 13) (C1 18 K1 (S1 (G1 fg 14) (C1 18 K1 (S1 (G1 fg 15) (C1 18 K1 (S1 (G1 fg 16) (C1 18 K1 (S1 (G1 fg 17) (C1 18 K1 (S1 (G1 fg 18) (C1 18 K1 (S1 (G1 fg 19) (C1 18 K1 (S1 (G1 fg 20) (C1 18 K1 (S1 (G1 fg 21) (C1 18 K1 (S1 (G1 fg 22) (C1 18 K1 (S1 (G1 fg 23) (C1 18 K1 (G1 fg 24))))))))))))))))))))))))) (C1 18 (S1 (G1 fg 25) .ret) (S1 (G1 fg 26) (C1 37 (S1 (G1 fg 27) .ret) (S1 (G1 fg 28) (C1 42 (S1 (G1 fg 29) .ret) K1)))))))))) (S1 (G1 fg 30) .ret))):=kr
theorem aiz:G8=(S1 (G1 G8 0) (S1 (G1 G8 1) .ret)):=kr
theorem aaP:bT (Z wG 2)=some [(0,3)]:=kr
theorem aaO:bT (Z wG 3)=some [(0,2)]:=kr
theorem ago:wG=(S1 (G1 wG 0) (S1 (S1 (G1 wG 1) (C1 7 (S1 (G2 wG 2) .ret) K1)) (S1 (G2 wG 3) .ret))):=kr
theorem aiH:mu=(S1 (G1 mu 0) (S1 (S1 (G1 mu 1) (B1 0 (S1 (S1 (G1 mu 2) (C1 5 K1 (S1 (G1 mu 3) (C1 5 K1 (G1 mu 4))))) (C1 5 (S1 (G1 mu 5) .ret) (S1 (G1 mu 6) (C1 12 (S1 (G1 mu 7) (C1 16 (S1 (G1 mu 8) .ret) K1)) (S1 (G1 mu 9) (C1 20 (S1 (G1 mu 10) .ret) (S1 (S1 (G1 mu 11) (C1 25 K1 (G1 mu 12))) (C1 25 (S1 (G1 mu 13) .ret) K1)))))))))) (S1 (G1 mu 14) .ret))):=kr
theorem ag1:uO=(S1 (G1 uO 0) (S1 (G1 uO 1) (S1 (S1 (G1 uO 2) (B1 0 (.rangeFunc (.tmp 8) #[9] (G1 uO 3) (B1 1 (S1 (G1 uO 4) (C1 12 (G1 uO 5) K1)))))) (S1 (G1 uO 6) .ret)))):=kr
theorem aiD:qm=(S1 (G1 qm 0) (S1 (S1 (G1 qm 1) (B1 0 (S1 (G1 qm 2) (C1 5 (S1 (G1 qm 3) .ret) (S1 (S1 (G1 qm 4) (C1 10 K1 (G1 qm 5))) (C1 10 (S1 (G1 qm 6) .ret) (S1 (G1 qm 7) (C1 15 (S1 (G1 qm 8) .ret) K1)))))))) (S1 (G1 qm 9) .ret))):=kr
theorem agt:te=(S1 (G1 te 0) (S1 (G1 te 1) (S1 (S1 (G1 te 2) (B1 0 (.loop (S1 (G1 te 3) (S1 (C1 11 K1 (X1 0)) (S1 (B1 1 (S1 (G1 te 4) (G1 te 5))) (G1 te 6))))))) (S1 (G1 te 7) .ret)))):=kr
theorem agu:tg=(S1 (G1 tg 0) (S1 (G1 tg 1) (S1 (S1 (G1 tg 2) (B1 0 (.loop (S1 (G1 tg 3) (S1 (C1 11 K1 (X1 0)) (S1 (B1 1 (S1 (G1 tg 4) (G1 tg 5))) (G1 tg 6))))))) (S1 (G1 tg 7) .ret)))):=kr
theorem agw:G9=(S1 (G1 G9 0) (S1 (G1 G9 1) .ret)):=kr
theorem agd:tk=(S1 (G1 tk 0) (S1 (S1 (G1 tk 1) (B1 0 (.loop (S1 (G1 tk 2) (S1 (C1 9 K1 (X1 0)) (S1 (B1 1 (S1 (G1 tk 3) (S1 (G1 tk 4) (C1 16 (S1 (G1 tk 5) .ret) K1)))) (G1 tk 6))))))) (S1 (G1 tk 7) .ret))):=kr
theorem af8:tl=(S1 (G1 tl 0) (S1 (S1 (G1 tl 1) (B1 0 (.loop (S1 (G1 tl 2) (S1 (C1 9 K1 (X1 0)) (S1 (B1 1 (S1 (G1 tl 3) (S1 (G1 tl 4) (C1 16 (S1 (G1 tl 5) .ret) K1)))) (G1 tl 6))))))) (S1 (G1 tl 7) .ret))):=kr
theorem aia:o2=(S1 (G1 o2 0) (S1 (G1 o2 1) (S1 (S1 (G1 o2 2) (B1 0 (S1 (G1 o2 3) (C1 14 (S1 (G1 o2 4) .ret) (S1 (G1 o2 5) (C1 18 (S1 (G1 o2 6) .ret) (S1 (G1 o2 7) (C1 22 (S1 (G1 o2 8) .ret) (S1 (G1 o2 9) (C1 26 (S1 (G1 o2 10) .ret) K1)))))))))) (S1 (G1 o2 11) .ret)))):=kr
theorem agf:G'=(S1 (G1 G' 0) (S1 (G1 G' 1) .ret)):=kr
theorem aik:Ha=(S1 (G1 Ha 0) (S1 (G1 Ha 1) .ret)):=kr
theorem ah6:Hb=(S1 (G1 Hb 0) (S1 (G1 Hb 1) .ret)):=kr
theorem aif:Hc=(S1 (G1 Hc 0) (S1 (G1 Hc 1) .ret)):=kr
theorem abl:bT (Z jU 6)=some []:=kr
theorem ZZ:bT (Z jU 11)=some []:=kr
theorem ahu:jU=(S1 (G1 jU 0) (S1 (S1 (G1 jU 1) (C1 8 (S1 (G1 jU 2) .ret) K1)) (S1 (S1 (G1 jU 3) (B1 0 (.loop (S1 (S1 (G1 jU 4) (C1 13 K1 (X1 0))) (S1 (B1 1 (S1 (G2 jU 6) (C1 25 (S1 (G1 jU 7) (S1 (S1 (G1 jU 8) (B1 2 (.loop (S1 (S1 (G1 jU 9) (C1 32 K1 (X1 2))) (S1 (B1 3 (S1 (G2 jU 11) (C1 44 (S1 (G1 jU 12) (G1 jU 13)) K1))) (G1 jU 10)))))) (S1 (G1 jU 14) (S1 (G1 jU 15) .ret)))) K1))) (G1 jU 5)))))) (S1 (G1 jU 16) .ret)))):=kr
theorem ahw:Bh=(S1 (G1 Bh 0) (S1 (G1 Bh 1) (S1 (G1 Bh 2) (S1 (G1 Bh 3) .ret)))):=kr
theorem agR:rT=(S1 (S1 (G1 rT 0) (C1 19 .ret K1)) (S1 (S1 (G1 rT 1) (C1 34 .ret K1)) (S1 (S1 (G1 rT 2) (B1 0 (.loop (S1 (G1 rT 3) (S1 (C1 39 K1 (X1 0)) (S1 (B1 1 (S1 (G1 rT 4) (S1 (G1 rT 5) (C1 46 .ret K1)))) (G1 rT 6))))))) (S1 (G1 rT 7) (C1 65 (G1 rT 8) K1))))):=kr
theorem aiB:gd=(S1 (G1 gd 0) (S1 (S1 (G1 gd 1) (B1 0 (S1 (S1 (G1 gd 2) (C1 5 K1 (S1 (G1 gd 3) (C1 5 K1 (S1 (G1 gd 4) (C1 5 K1 (S1 (G1 gd 5) (C1 5 K1 (S1 (G1 gd 6) (C1 5 K1 (S1 (G1 gd 7) (C1 5 K1 (S1 (G1 gd 8) (C1 5 K1 (S1 (G1 gd 9) (C1 5 K1 (S1 (G1 gd 10) (C1 5 K1 (S1 (G1 gd 11) (C1 5 K1 (S1 (G1 gd 12) (C1 5 K1 (S1 (G1 gd 13) (C1 5 K1 (S1 (G1 gd 14) (C1 5 K1 (S1 (G1 gd 15) (C1 5 K1 (G1 gd 16))))))))))))))))))))))))))))) (C1 5 (S1 (G1 gd 17) .ret) (S1 (S1 (G1 gd 18) (C1 23 K1 (S1 (G1 gd 19) (C1 23 K1 (S1 (G1 gd 20) (C1 23 K1 (S1 (G1 gd 21) (C1 23 K1 (S1 (G1 gd 22) (C1 23 K1 (S1 (G1 gd 23) (C1 23 K1 (G1 gd 24))))))))))))) (C1 23 (S1 (G1 gd 25) .ret) K1)))))) (S1 (G1 gd 26) .ret))):=kr
theorem ag5:He=(S1 (G1 He 0) (S1 (G1 He 1) .ret)):=kr
theorem ahr:Hf=(S1 (G1 Hf 0) (G1 Hf 1)):=kr
theorem ag3:yF=(S1 (G1 yF 0) (S1 (S1 (G1 yF 1) (B1 0 (.rangeFunc (.tmp 6) #[7] (G1 yF 2) (B1 1 (G1 yF 3))))) (S1 (G1 yF 4) .ret))):=kr
theorem ahp:fh=(S1 (G1 fh 0) (S1 (G1 fh 1) (B1 0 (.loop (B1 1 (S1 (G1 fh 2) (S1 (S1 (G1 fh 3) (C1 23 (S1 (G1 fh 4) .ret) K1)) (S1 (S1 (G1 fh 5) (C1 29 (S1 (G1 fh 6) .ret) K1)) (S1 (S1 (G1 fh 7) (C1 35 (S1 (G1 fh 8) (G1 fh 9)) K1)) (S1 (G1 fh 10) (S1 (S1 (G1 fh 11) (C1 50 (S1 (G1 fh 12) (S1 (G1 fh 13) (G1 fh 14))) K1)) (S1 (S1 (G1 fh 15) (C1 68 (S1 (G1 fh 16) (C1 72 .ret K1)) K1)) (S1 (S1 (G2 fh 17) (C1 87 (S1 (G1 fh 18) (S1 (G1 fh 19) (X1 1))) K1)) (S1 (G1 fh 20) (S1 (G1 fh 21) (S1 (G1 fh 22) (S1 (G1 fh 23) (S1 (G1 fh 24) (C1 113 (S1 (G1 fh 25) (S1 (G1 fh 26) (G1 fh 27))) (S1 (G1 fh 28) (S1 (G1 fh 29) (G1 fh 30)))))))))))))))))))))):=kr
theorem abh:bT (Z rU 4)=some []:=kr
theorem abi:bT (Z rU 6)=some []:=kr
theorem ahn:rU=(S1 (G1 rU 0) (B1 0 (.loop (S1 (S1 (G1 rU 1) (C1 12 K1 (X1 0))) (S1 (B1 1 (S1 (G1 rU 3) (B1 2 (.loop (S1 (S1 (G2 rU 4) (C1 30 K1 (X1 2))) (S1 (B1 3 (G2 rU 6)) (G1 rU 5))))))) (G1 rU 2)))))):=kr
theorem ahl:Hg=(S1 (G1 Hg 0) (S1 (G1 Hg 1) .ret)):=kr
theorem ahj:Hh=(S1 (G1 Hh 0) (S1 (G1 Hh 1) .ret)):=kr
end Go.Proofs.Tryz.K
namespace Go.Abs
open Go.Argus
class V{α:Type}(x:α)(y:outParam α):Prop where h:x=y
section
variable{P:Program}{Y:ej}{ops:Array Oper}{dr:Bool}{cf:List (Nat×Nat)}{Q:Exit->St->Prop}{r:List Oper}{v:Env}{m:Mem}{n:Nat}{q:kf}{x:Oper}{s:St}{e:List Nat×List Nat}
variable{t:Option Nat}{u:Nat}{ty:TypeId}{pos:String}{after:Array Edge}{j:Nat}{b c:Bool}{op:Op}
def SO(P:Program)(Y:ej)(ops:Array Oper)(dr:Bool)(o:Oper)(v:Env)(m:Mem)(n:Nat)(s:St)(e:List Nat×List Nat):Prop:=
 ∀ cf Q r q,aq P Y ops dr cf Q r s (q++[e])->aq P Y ops dr cf Q (o::r) ⟨v,m,n⟩ q
theorem ak{l:List Operand}(h:fV v l:=by repeat' (first|exact trivial|exact hc|exact rfl|refine And.intro ?_ ?_)):fV v l:=h
theorem z(K:∀ (x:D) rd,aq P Y ops dr cf Q r (St.put ⟨v,m,n⟩ t (.cB false x)) (q++[(rd,[])]))(hj:(ops[j]?).bind (·.dst)=some u:=by exact rfl)(hg:kz (v u) b=some false:=by exact rfl):
 aq P Y ops dr cf Q (⟨t,op,ty,pos,after,some (j,b)⟩::r) ⟨v,m,n⟩ q:=UI hj hg K
theorem cl{f:FuncId}{gs:List D}{d:D}{t:Nat}(h:aB P f gs d)(K:aq P Y ops dr cf Q r ⟨up v t d,m,n⟩ (q++[([],[])]))(hc:dJ (a6 v op) op=some (f,gs):=by exact rfl)(ha:fV v op.operands.toList:=by exact ak):
 aq P Y ops dr cf Q (⟨some t,op,ty,pos,after,none⟩::r) ⟨v,m,n⟩ q:=r6 h hc ha K
theorem gc{f:FuncId}{gs:List D}{d:D}{t:Nat}(h:aB P f gs d)(K:aq P Y ops dr cf Q r ⟨up v t (.cB c d),m,n⟩ (q++[([],[])]))(hj:(ops[j]?).bind (·.dst)=some u:=by exact rfl)(hg:kz (v u) b=some c:=by exact rfl)(hl:dJ (a6 v op) op=some (f,gs):=by exact rfl)(ha:c=true->fV v op.operands.toList:=by exact fun hc=>ak):
 aq P Y ops dr cf Q (⟨some t,op,ty,pos,after,some (j,b)⟩::r) ⟨v,m,n⟩ q:=pL hj hg hl (fun hc=>⟨ha hc,h⟩) K
theorem alS(K:aq P Y ops dr cf Q r s (q++[e]))(h:SO P Y ops dr x v m n s e:=by intro _ _ _ _ k;exact bc rfl rfl (cY (v:=.z) rfl) (fun hc=>⟨ak,trivial⟩) k):aq P Y ops dr cf Q (x::r) ⟨v,m,n⟩ q:=h _ _ _ _ K
theorem alT(K:aq P Y ops dr cf Q r s (q++[e]))(h:SO P Y ops dr x v m n s e:=by intro _ _ _ _ k;exact bc rfl rfl (Hv rfl) (fun hc=>⟨ak,V.h⟩) k):aq P Y ops dr cf Q (x::r) ⟨v,m,n⟩ q:=h _ _ _ _ K
theorem Wr(K:aq P Y ops dr cf Q r s (q++[e]))(h:SO P Y ops dr x v m n s e:=by intro _ _ _ _ k;exact Dl rfl rfl rfl rfl (by first|exact fun _=>trivial|exact fun _=>rfl|exact fun hc=>hc) (by first|exact fun _=>trivial|exact fun _=>rfl|exact fun hc=>hc) k):aq P Y ops dr cf Q (x::r) ⟨v,m,n⟩ q:=h _ _ _ _ K
theorem Wq(K:aq P Y ops dr cf Q r s (q++[e]))(h:SO P Y ops dr x v m n s e:=by intro _ _ _ _ k;exact bc rfl rfl (T0 rfl rfl tL) (fun hc=>⟨ak,rfl⟩) k):aq P Y ops dr cf Q (x::r) ⟨v,m,n⟩ q:=h _ _ _ _ K
variable{rf:Bool}{W:Exit->St->Prop}{o:Array Oper}{B:Code}{i:Nat}{k:St}
theorem ws[dC Y](h:aq P Y o false [] (eZ fun k=>AW P Y rf B W k) o.toList k []):AW P Y rf (.seq (.region i o false) B) W k:=ag h
theorem er[dC Y](h:aq P Y o false [] (eZ fun k=>AW P Y rf B W k) o.toList k []):aq P Y ops dr [] (eZ fun k=>AW P Y rf (.seq (.region i o false) B) W k) [] k q:=aa (ag h)
end
end Go.Abs
theorem eH{p:Prop}(h:p:=by repeat' (first|exact trivial|exact rfl|refine And.intro ?_ ?_)):p:=h
