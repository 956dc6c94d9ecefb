/- Part 2. -/
import Derived.Test.YtnagfmlifobdiaaGreatDoorTells1
import Derived.Ground.NamesProg
import Derived.Ground.SlgnProg
import Derived.IntWalk
import Derived.RangeFuncRecord
import Derived.Scope
import Derived.Shelf.LaysM
import Derived.Shelf.Strconv.Itoa0
import Derived.Shelf.Strconv.Itoa1
import Derived.Shelf.Strconv.Itoa2
import Derived.Shelf.Strconv.Itoa3
import Derived.Shelf.Strings.Builder1
import Derived.Shelf.Strings.Builder2
import Derived.Shelf.Strings.OnBuilder
import Derived.Test.YtnagfmlifobdiaaGreatDoorChecked
set_option linter.all false
set_option maxHeartbeats 1000000
open List(range)
namespace Go.Abs
structure ek(P:Program)(F:Nat->Prop)(st:St)(β:aE)(w:World)(a:Act):Prop where
 e:gI F β w st.env a
 m:aK P F st.mem β w
 n:∀ i,st.nx<=i->β i=none
structure fX(N:Nat)(β:aE)(w:World)(a:Act)(st':St)(β':aE)(w':World)(a':Act):Prop where
 step:Step β w β' w'
 le:N<=st'.nx
 grow:∀ i,i<N->β i=none->β' i=none
 size:a'.tmps.size=a.tmps.size
 defers:a'.defers=a.defers
theorem fX.trans{N:Nat}{β β₁ β₂:aE}{w X w₂:World}{a C J:Act}{M U:St}(h:fX N β w a M β₁ X C)(k:fX M.nx β₁ X C U β₂ w₂ J):fX N β w a U β₂ w₂ J:=
 ⟨h.step.trans k.step,Nat.le_trans h.le k.le,fun i hi hn=>k.grow i (Nat.lt_of_lt_of_le hi h.le) (h.grow i hi hn),k.size.trans h.size,k.defers.trans h.defers⟩
theorem fX.refl(st:St)(β:aE)(w:World)(a:Act):fX st.nx β w a st β w a:=⟨Step.refl β w,bc _,fun _ _ h=>h,rfl,rfl⟩
def dY(P:Program)(F:Nat->Prop)(N:Nat)(β:aE)(w:World)(a:Act)(Q:Exit->St->Prop)(e:Exit)(a':Act)(w':World):Prop:=
 ∃ st' β',Q e st'/\ek P F st' β' w' a'/\fX N β w a st' β' w' a'
section
variable{P:Program}{F:Nat->Prop}{ops:Array Oper}{o:Oper}{st:St}{β:aE}{w:World}{a:Act}
theorem ET(a:Act)(d:Option Nat)(v:Value):(a.put d v).tmps.size=a.tmps.size:=by
 cases d<;>simp[Act.put]
theorem put_defers(a:Act)(d:Option Nat)(v:Value):(a.put d v).defers=a.defers:=by
 cases d<;>rfl
theorem Xv(st:St)(d:Option Nat)(x:D):(st.put d x).env=(match d with|some t=>up st.env t x|none=>st.env):=by
 cases d<;>rfl
theorem Ot(st:St)(d:Option Nat)(x:D):(st.put d x).mem=st.mem:=by cases d<;>rfl
theorem BZ(st:St)(d:Option Nat)(x:D):(st.put d x).nx=st.nx:=by cases d<;>rfl
theorem ek.put{st':St}{β':aE}{w':World}{d:Option Nat}{x:D}{v:Value}(he:gI F β' w' st'.env a)(hd:∀ t,d=some t->t<a.tmps.size)(hv:R F β' w' x v)(hm:aK P F st'.mem β' w')(hn:∀ i,st'.nx<=i->β' i=none):
 ek P F (st'.put d x) β' w' (a.put d v):=by
 refine⟨?_,by rw[Ot];exact hm,by rw[BZ];exact hn⟩;cases d with
 |none=>exact he
 |some t=>exact he.put (some t) x v hv hd
theorem Pd{p:dj}(hp:p.Ok P ops o st)(hs:ek P F st β w a)(hd:∀ t,o.dst=some t->t<a.tmps.size)(r:Option Nat)(n:Nat)(C:Exit->Act->World->Prop){K:Act->World->Prop}
 (U:∀ β' a' w',ek P F (St.put ⟨st.env,cH st.mem p.aT,st.nx+p.new⟩ o.dst p.val) β' w' a'->fX st.nx β w a (St.put ⟨st.env,cH st.mem p.aT,st.nx+p.new⟩ o.dst p.val) β' w' a'->K a' w'):
 pU r n P ops C o K a w:=by
 refine hp F β w a st.mem st.env st.nx (fun _ _=>rfl) hs.e hs.m (fun _ _ _=>rfl) (fun i h _=>hs.n i h) hs.n r n C K fun v w' β' h1 h2 J M=>?_;refine U β' _ w' (ek.put (st':=⟨st.env,cH st.mem p.aT,st.nx+p.new⟩) (hs.e.step J) hd h1 h2 fun i hi=>M i (hs.n i (by simp only at hi;omega)) (.inr hi)) ⟨J,by rw[BZ];simp,fun i hi hb=>M i hb (.inl hi),ET _ _ _,put_defers _ _ _⟩
theorem aaC{Y:eb}{dr:Bool}{K:St->List Nat->List Nat->Prop}(h:iS P Y ops dr o st K):
 (∃ p:dj,p.Ok P ops o st/\p.sL (cY o.op) st/\K (St.put ⟨st.env,cH st.mem p.aT,st.nx+p.new⟩ o.dst p.val) p.rd p.wr)\/
 (dr=false/\∃ f args,iD ops o st true/\asks st.env o.op/\dI (aZ st.env o.op) o.op=some (f,args)/\fG P f args st.mem st.nx fun r m nx=>K (St.put ⟨st.env,m,nx⟩ o.dst r) [] [])\/
 (dr=false/\∃ l args,iD ops o st true/\asks st.env o.op/\kU (aZ st.env o.op) o.op=some (l,args)/\Y l args st.mem st.nx fun r m nx=>K (St.put ⟨st.env,m,nx⟩ o.dst r) [] []):=by
 have X:∀ {x},dI (aZ st.env o.op) o.op=some x->cY o.op=2:=fun {x} hx=>by
  cases ho:o.op with
  |call c=>
   rw[ho] at hx;simp only[dI] at hx;split at hx
   .rename_i f hf;unfold cY;split<;>first|rfl|(rename_i h1;cases h1;cases hf)|skip
    all_goals simp_all
   .cases hx
  |_=>rw[ho] at hx;simp[dI] at hx
 have J:∀ {x} (p:dj),dI (aZ st.env o.op) o.op=some x->(∀ i∈p.wr,st.mem i≠none\/(st.nx<=i/\i<st.nx+p.new))->p.sL (cY o.op) st:=fun {x} p hx C=>by
  have:=X hx;exact⟨C,oG,oG,oG⟩
 have call:∀ {f args},iD ops o st true->asks st.env o.op->dI (aZ st.env o.op) o.op=some (f,args)->sf P dr st f args (fun r m nx rd wr=>K (St.put ⟨st.env,m,nx⟩ o.dst r) rd wr)->
  (∃ p:dj,p.Ok P ops o st/\p.sL (cY o.op) st/\K (St.put ⟨st.env,cH st.mem p.aT,st.nx+p.new⟩ o.dst p.val) p.rd p.wr)\/
  (dr=false/\∃ f args,iD ops o st true/\asks st.env o.op/\dI (aZ st.env o.op) o.op=some (f,args)/\fG P f args st.mem st.nx fun r m nx=>K (St.put ⟨st.env,m,nx⟩ o.dst r) [] [])\/
  (dr=false/\∃ l args,iD ops o st true/\asks st.env o.op/\kU (aZ st.env o.op) o.op=some (l,args)/\Y l args st.mem st.nx fun r m nx=>K (St.put ⟨st.env,m,nx⟩ o.dst r) [] []):=fun {f args} C ha hc hk=>by
  rcases hk with⟨r,h1,h2⟩|⟨dW,rds,r,h1,h2,M,h4⟩|⟨es,n,t,h1,h2⟩|⟨h1,h2⟩|⟨r,aT,rds,h1,h2,M⟩|⟨es,n,t,aT,rds,h1,h2,M,h4⟩
  .exact .inl ⟨⟨r,[],[],0⟩,Rk C ha hc h1,J _ hc (by simp[dj.wr]),h2⟩
  .exact .inl ⟨⟨r,[],rds,0⟩,ab7 C ha hc h1 h2 M,J _ hc (by simp[dj.wr]),h4⟩
  .exact .inl ⟨⟨.rs st.nx 0 n,[(st.nx,some (.cells es t))],[],1⟩,adj C ha hc h1,J _ hc (by simp[dj.wr]),h2⟩
  .exact .inr (.inl ⟨h1,f,args,C,ha,hc,h2⟩)
  .exact .inl ⟨⟨r,aT,rds,0⟩,adk C ha hc h1,J _ hc fun i hi=>.inl (h2 i hi).2,M⟩
  .refine .inl ⟨⟨.rs st.nx 0 n,aT++[(st.nx,some (.cells es t))],rds,1⟩,aau C ha hc h1 h2 M,J _ hc fun i hi=>?_,?_⟩
   .simp only[dj.wr,List.map_append,List.mem_append,List.map_cons,List.map_nil,List.mem_singleton] at hi;rcases hi with hi|rfl
    .obtain⟨x,hx,rfl⟩:=List.mem_map.1 hi;obtain⟨r,hr,_⟩:=h1.1 _ (h1.2.1 x hx).1;exact .inl (by simp[hr])
    .exact .inr ⟨bc _,Nat.lt_succ_self _⟩
   .show K _ _ (dj.wr _);rw[Jj,dj.wr,List.map_append];exact h4
 have op:∀ {e:dt},iD ops o st true->asks st.env o.op->bd P o.op (aZ st.env o.op) st.mem st.nx=some e->e.pre->K (St.put ⟨st.env,cH st.mem e.aT,st.nx+e.new⟩ o.dst e.val) e.rd (e.aT.map (·.1))->
  (∃ p:dj,p.Ok P ops o st/\p.sL (cY o.op) st/\K (St.put ⟨st.env,cH st.mem p.aT,st.nx+p.new⟩ o.dst p.val) p.rd p.wr):=fun {e} C ha h hp hk=>by
  obtain⟨t1,t2,t3,t4⟩:=Qd h;exact⟨⟨e.val,e.aT,e.rd,e.new⟩,R9 C ha h hp,⟨t1,t2,t3,t4⟩,hk⟩
 have skip:∀ {d:D},iD ops o st false->(∀ F β w,R F β w d undef)->K (st.put o.dst d) [] []->
  (∃ p:dj,p.Ok P ops o st/\p.sL (cY o.op) st/\K (St.put ⟨st.env,cH st.mem p.aT,st.nx+p.new⟩ o.dst p.val) p.rd p.wr):=fun {d} C hd hk=>
  ⟨⟨d,[],[],0⟩,Rj C d hd,⟨by simp[dj.wr],fun _=>⟨rfl,rfl⟩,fun _=>rfl,fun _=>⟨rfl,by simp[dj.wr]⟩⟩,hk⟩
 have U:∀ (F:Nat->Prop) β w,R F β w ua undef:=fun F β w=>.cw false .u undef oS fun _=>rfl;unfold iS at h;split at h
 .rename_i hg;have C:=OH (ops:=ops) (st:=st) hg;obtain⟨ha,h⟩:=h;split at h
  .rename_i f args hc;exact call C ha hc h
  .split at h
   .rename_i l args hy;exact .inr (.inr ⟨h.1,l,args,C,ha,hy,h.2⟩)
   .split at h
    .rename_i e he;exact .inl (op C ha he h.1 h.2)
    .exact h.elim
 .rename_i j b hg;split at h
  .exact h.elim
  .rename_i c hc;simp only[Option.bind_eq_some_iff] at hc;obtain⟨t,⟨oj,DQ,hjt⟩,hc⟩:=hc;have C:iD ops o st c:=XT hg (t:=t) (by simp[DQ,hjt]) hc;split at h
   .rename_i f args mA;rcases h with⟨r,h1,h2⟩|⟨h1,h2⟩
    .refine .inl ⟨⟨.cw c r,[],[],0⟩,R8 C fun gw=>?_,J _ mA (by simp[dj.wr]),h2⟩;subst gw;exact Rk C (h1 rfl).1 mA (h1 rfl).2
    .cases c with
     |true=>exact call C (h1 rfl).1 mA (h1 rfl).2
     |false=>exact .inl (skip C U (h2 rfl))
   .split at h
    .rename_i l args hy;cases c with
     |true=>exact .inr (.inr ⟨(h.1 rfl).2.1,l,args,C,(h.1 rfl).1,hy,(h.1 rfl).2.2⟩)
     |false=>exact .inl (skip C U (h.2 rfl))
    .split at h
     .rename_i e he;split at h
      .rename_i vY;simp only[ba,List.isEmpty_iff,beq_iff_eq] at vY;obtain⟨h1,h2⟩:=h;obtain⟨t1,t2,t3,t4⟩:=Qd he;refine .inl ⟨⟨.cw c e.val,[],e.rd,0⟩,R8 C fun gw=>?_,⟨by simp[dj.wr],fun hk=>⟨(t2 hk).1,rfl⟩,fun _=>rfl,fun hk=>⟨(t4 hk).1,by simp[dj.wr]⟩⟩,h2⟩;subst gw;have:=R9 C (h1 rfl).1 he (h1 rfl).2;rw[vY.1,vY.2] at this;exact this
      .obtain⟨h1,h2⟩:=h;cases c with
       |true=>exact .inl (op C (h1 rfl).1 he (h1 rfl).2.1 (h1 rfl).2.2)
       |false=>exact .inl (skip C U (h2 rfl))
     .obtain⟨rfl,h⟩:=h;exact .inl (skip C U h)
theorem IG{Y:eb}{dr:Bool}{K:St->List Nat->List Nat->Prop}(h:iS P Y ops dr o st K\/TL P o st K):
 (∃ p:dj,p.Ok P ops o st/\p.sL (cY o.op) st/\K (St.put ⟨st.env,cH st.mem p.aT,st.nx+p.new⟩ o.dst p.val) p.rd p.wr)\/
 (dr=false/\∃ f args,iD ops o st true/\asks st.env o.op/\dI (aZ st.env o.op) o.op=some (f,args)/\fG P f args st.mem st.nx fun r m nx=>K (St.put ⟨st.env,m,nx⟩ o.dst r) [] [])\/
 (dr=false/\∃ l args,iD ops o st true/\asks st.env o.op/\kU (aZ st.env o.op) o.op=some (l,args)/\Y l args st.mem st.nx fun r m nx=>K (St.put ⟨st.env,m,nx⟩ o.dst r) [] []):=by
 rcases h with h|⟨h1,h2,e,C,J⟩
 .exact aaC h
 .obtain⟨t1,t2,t3,t4⟩:=C.tidy;exact .inl ⟨⟨e.val,e.aT,e.rd,e.new⟩,ab1 (OH h1) h2 C,⟨t1,t2,t3,t4⟩,J⟩
theorem Ou{f:FuncId}{args:List D}{dY:D->Mem->Nat->Prop}(hw:iD ops o st true)(ha:asks st.env o.op)(hc:dI (aZ st.env o.op) o.op=some (f,args))(h:fG P f args st.mem st.nx dY)
 (hs:ek P F st β w a) (hd:∀ t,o.dst=some t->t<a.tmps.size) (r:Option Nat) (n:Nat) (M:Exit->Act->World->Prop) {K:Act->World->Prop}
 (hK:∀ d m' C β' a' w',dY d m' C->ek P F (St.put ⟨st.env,m',C⟩ o.dst d) β' w' a'->fX st.nx β w a (St.put ⟨st.env,m',C⟩ o.dst d) β' w' a'->K a' w'):
 pU r n P ops M o K a w:=by
 refine zN (hw F β w a st.env (fun _ _=>rfl) hs.e) hs.e ha hc h.1 fun vs hR=>?_;refine(h.2 F β w vs hs.m hs.n hR).mono fun e w' hp=>?_;obtain⟨v,d,m',C,β',h1,h2,U,X,h5,J,h7,h8⟩:=hp;refine⟨v,h1,hK d m' C β' _ w' h2 (ek.put (st':=⟨st.env,m',C⟩) (hs.e.step J) hd h5 U X) ⟨J,by rw[BZ];exact h7,h8,ET _ _ _,put_defers _ _ _⟩⟩
theorem Xg{env:Env}{l:Nat}{args:List D}(J:gI F β w env a)(ha:asks env o.op)(h:kU (aZ env o.op) o.op=some (l,args)):
 ∃ vs,(execOp a.eval o).run P w=(Instr.yield l vs).run P w/\Rs F β w args vs:=by
 obtain⟨dst,op,type,pos,after,guard⟩:=o;simp only at ha h;cases op with
 |call c=>
  simp only[kU] at h;have C:∀ x∈(Op.call c).operands.toList,R F β w (aZ env (.call c) x) (a.eval x):=fun x hx=>(J.opd x).tD _ (ha x hx);split at h
  .rename_i g hg;split at h
   .rename_i X hk;simp only[aH,bP] at h;obtain⟨rfl,rfl⟩:=h;have h1:=C g (by simp[Op.operands,Call.operands,hg]);rw[hk] at h1;obtain⟨q1,M⟩:=Cs (F:=F) (β:=β) (w:=w) (xs:=c.args) (ρ:=aZ env (.call c)) (a:=a) (fun x hx=>C x (by simp[Op.operands,Call.operands];exact .inr hx));generalize hv:a.eval g=v at h1;cases h1 with
    |fn _ _ _ us vs hl ll hh U=>
    have e1:us=[]:=List.eq_nil_of_length_eq_zero (by simpa using hl);have e2:vs=[]:=List.eq_nil_of_length_eq_zero (by simpa using ll);subst e1 e2;refine⟨c.args.map a.eval,?_,oS,fun j d u hd hu=>M j d u hd (by simpa using hu)⟩;unfold execOp;simp only[resolve,hg,Sem.run_bind,hv,Deferred.ofValue,Sem.run_pure,Result.andThen_ok,invoke];simp
   .cases h
  .cases h
 |_=>simp[kU] at h
theorem WJ{op:Op}{ρ:Operand->D}{x:Nat×List D}(h:kU ρ op=some x):∀ c,op≠ .defer c:=fun c hc=>by
 subst hc;simp[kU] at h
theorem XU{l:Nat}{args:List D}{dY:D->Mem->Nat->Prop}(hw:iD ops o st true)(ha:asks st.env o.op)(hc:kU (aZ st.env o.op) o.op=some (l,args)){U:aE}{M:World}(h:ns P F U M l args st.mem st.nx dY)(hb:Step U M β w)
 (hs:ek P F st β w a) (hd:∀ t,o.dst=some t->t<a.tmps.size) (r:Option Nat) (n:Nat) (X:Exit->Act->World->Prop) {K:Act->World->Prop}
 (hK:∀ d m' C β' a' w',dY d m' C->ek P F (St.put ⟨st.env,m',C⟩ o.dst d) β' w' a'->fX st.nx β w a (St.put ⟨st.env,m',C⟩ o.dst d) β' w' a'->K a' w'):
 pU r n P ops X o K a w:=by
 obtain⟨vs,h1,h2⟩:=Xg (P:=P) hs.e ha hc;obtain⟨f,tmps,assign,body,h3,h4⟩:=h β w vs hb hs.m hs.n h2;unfold pU;rw[hw F β w a st.env (fun _ _=>rfl) hs.e,if_pos rfl];refine⟨fun _ _=>trivial,?_⟩;rw[Ki (WJ hc),h1,h3];refine⟨oS,?_⟩;have h5:=h4 (n - 1);refine RoundIn.mono (F:=Fe r) (show RoundIn (Fe r) (n - 1) P l f tmps assign body w _ from h5) fun e w' hp=>?_;obtain⟨v,d,m',C,β',rfl,g2,g3,g4,g5,J,g7,g8⟩:=hp;exact hK d m' C β' _ w' g2 (ek.put (st':=⟨st.env,m',C⟩) (hs.e.step J) hd g5 g3 g4) ⟨J,by rw[BZ];exact g7,g8,ET _ _ _,put_defers _ _ _⟩
def vF(N:Nat)(ops:Array Oper):Bool:=ops.toList.all fun o=>match o.dst with
 |some t=>Nat.blt t N
 |none=>true
theorem Iv{N:Nat}(h:vF N ops=true){i:Nat}{o:Oper}(hi:ops[i]? =some o):∀ t,o.dst=some t->t<N:=fun t ht=>by
 have h1:=bV.1 h o (by simpa using Array.mem_of_getElem? hi);rw[ht] at h1;simpa using h1
theorem aaD{Y:eb}{r:Option Nat}{n:Nat}{cf:List (Nat×Nat)}{Q:Exit->St->Prop}{N:Nat}{β₀:aE}{w₀:World}{a₀:Act}(hY:∀ l args m nx dY,Y l args m nx dY->ns P F β₀ w₀ l args m nx dY)(ah:vF a₀.tmps.size ops=true):
 ∀ (rest:List Oper) (k:Nat) (st:St) (tr:jN) (β:aE) (w:World) (a:Act),ops.toList.drop k=rest->av P Y ops false cf Q rest st tr->ek P F st β w a->fX N β₀ w₀ a₀ st β w a->
  wpOpsIn (Fe r) n P ops (dY P F N β₀ w₀ a₀ Q) (List.range' k rest.length) a w:=by
 intro rest
 induction rest with
 |nil=>
  intro k st tr β w a hk h hs C;simp only[List.length_nil,List.range'_zero,wpOpsIn];exact⟨st,β,h.2,hs,C⟩
 |cons o rest ih=>
  intro k st tr β w a hk h hs C
  have ho:ops[k]? =some o:=by
   have:(ops.toList.drop k)[0]? =some o:=by rw[hk];rfl
   simpa using this
  have X:ops.toList.drop (k+1)=rest:=by
   have:(ops.toList.drop k).drop 1=rest:=by rw[hk];rfl
   simpa[List.drop_drop,Nat.add_comm] using this
  simp only[List.length_cons,List.range'_succ,wpOpsIn_cons];refine Ie ho ?_;have hd:∀ t,o.dst=some t->t<a.tmps.size:=fun t ht=>by rw[C.size];exact Iv ah ho t ht
  simp only[av] at h;rcases IG h with⟨p,h1,_,U⟩|⟨_,f,args,h1,h2,U,h4⟩|⟨_,l,args,h1,h2,U,h4⟩
  .exact Pd h1 hs hd r n _ fun β' a' w' J M=>ih (k+1) _ _ β' w' a' X U J (C.trans M)
  .exact Ou h1 h2 U h4 hs hd r n _ fun d m' ao β' a' w' hp J M=>ih (k+1) _ _ β' w' a' X hp J (C.trans M)
  .exact XU h1 h2 U (hY _ _ _ _ _ h4) C.step hs hd r n _ fun d m' ao β' a' w' hp J M=>ih (k+1) _ _ β' w' a' X hp J (C.trans M)
theorem WV{Y:eb}{r:Option Nat}{n id:Nat}{cf:List (Nat×Nat)}{Q:Exit->St->Prop}{N:Nat}{β₀:aE}{w₀:World}{a₀:Act}(J:∀ l args m nx dY,Y l args m nx dY->ns P F β₀ w₀ l args m nx dY)(ah:vF a₀.tmps.size ops=true)
 (h:av P Y ops false cf Q ops.toList st []) (hs:ek P F st β w a) (C:fX N β₀ w₀ a₀ st β w a):(Code.region id ops false).wpIn (Fe r) n P (dY P F N β₀ w₀ a₀ Q) a w:=by
 refine wpIn_region ?_;have:=aaD J (r:=r) (n:=n) ah ops.toList 0 st [] β w a oS h hs C;rw[List.range_eq_range'];simpa using this
end
theorem EF(acc:List Nat)(i:Nat):∀ (l:List Edge) (s:Nat),(l.foldl (fun s e=>if Region.binds .any e then s||| 2 ^ e.on||| acc.getD e.on 0 else s) s).testBit i=true->
 s.testBit i=true\/∃ e∈l,Region.binds .any e=true/\(i=e.on\/(acc.getD e.on 0).testBit i=true)
 |[],s,h=>.inl h
 |e::l,s,h=>by
  rw[List.foldl_cons] at h;rcases EF acc i l _ h with h1|⟨C,J,hb⟩
  .by_cases hb:Region.binds .any e=true
   .rw[if_pos hb] at h1;simp only[Nat.testBit_or,Bool.or_eq_true,Nat.testBit_two_pow,decide_eq_true_eq] at h1;rcases h1 with(h1|h1)|h1
    .exact .inl h1
    .exact .inr ⟨e,oS,hb,.inl h1.symm⟩
    .exact .inr ⟨e,oS,hb,.inr h1⟩
   .rw[if_neg hb] at h1;exact .inl h1
  .exact .inr ⟨C,by simp[J],hb⟩
theorem Ik:∀ (os:List Oper) (acc:List Nat),∃ l,ir os acc=acc++l/\l.length=os.length
 |[],acc=>⟨[],by simp[ir],rfl⟩
 |o::os,acc=>by
  obtain⟨l,h1,h2⟩:=Ik os (acc++[As acc o]);exact⟨As acc o::l,by simp[ir,h1],by simp[h2]⟩
theorem ES:∀ (os:List Oper) (acc:List Nat) (k:Nat) (o:Oper),os[k]? =some o->(ir os acc).getD (acc.length+k) 0=As ((ir os acc).take (acc.length+k)) o
 |[],acc,k,o,h=>by simp at h
 |x::os,acc,0,o,h=>by
  simp only[List.getElem?_cons_zero,aH] at h;subst h;obtain⟨l,h1,h2⟩:=Ik os (acc++[As acc x]);simp[ir,h1]
 |x::os,acc,k+1,o,h=>by
  have:=ES os (acc++[As acc x]) k o (by simpa using h);simp only[List.length_append,List.length_cons,List.length_nil] at this;have e:acc.length+(k+1)=acc.length+(0+1)+k:=by omega
  rw[e];exact this
theorem Iq{ops:Array Oper}{S:Nat->Bool}(U:∀ j,S j=true->∀ o,ops[j]? =some o->∀ e∈o.after,Region.binds .any e=true->S e.on=true)(i:Nat):
 ∀ j,S j=true->((ir ops.toList []).getD j 0).testBit i=true->S i=true:=by
 intro j
 induction j using Nat.strongRecOn with
 |_ j ih=>
  intro hj hb;cases C:ops[j]? with
  |none=>
   obtain⟨l,h1,h2⟩:=Ik ops.toList []
   have:(ir ops.toList []).getD j 0=0:=by
    rw[h1];simp only[List.nil_append];have:ops.size<=j:=by simpa using C
    simp[List.getElem?_eq_none (show l.length<=j by simpa[h2] using this)]
   rw[this] at hb;simp at hb
  |some o=>
   have h1:=ES ops.toList [] j o (by simpa using C);simp only[List.length_nil,Nat.zero_add] at h1;rw[h1] at hb;rcases EF _ i _ 0 hb with h2|⟨e,he,X,h2⟩
   .simp at h2
   .have J:=U j hj o C e (by simpa using he) X;rcases h2 with rfl|h2
    .exact J
    .rcases Nat.lt_or_ge e.on j with ah|M
     .refine ih e.on ah J ?_;simpa[List.getElem?_take,ah] using h2
     .simp[List.getElem?_take,Nat.not_lt.2 M] at h2
theorem NS{bs:List Nat}{n i j:Nat}(C:i<j)(hj:j<n)(h:(bs.getD j 0).testBit i=false):(i,j)∈unordered bs n:=by
 unfold unordered;rw[List.mem_flatMap];exact⟨j,by simp[hj],by rw[List.mem_map];exact⟨i,by simp only[List.mem_filter,List.mem_range];exact⟨C,by rw[h];rfl⟩,rfl⟩⟩
theorem zK{us:List (Nat×Option Row)}:∀ {m:Mem} {i:Nat},i∉us.map (·.1)->cH m us i=m i:=by
 induction us with
 |nil=>intro m i _;rfl
 |cons u us ih=>
  intro m i h;obtain⟨j,r⟩:=u;simp only[List.map_cons,List.mem_cons,not_or] at h;simp only[cH];rw[ih h.2,aB _ _ h.1]
theorem Ir{us:List (Nat×Option Row)}:∀ {m m':Mem} {i:Nat},(i∈us.map (·.1)\/m i=m' i)->cH m us i=cH m' us i:=by
 induction us with
 |nil=>intro m m' i h;simpa[cH] using h
 |cons u us ih=>
  intro m m' i h;obtain⟨j,r⟩:=u;simp only[cH];refine ih ?_;by_cases hj:i=j
  .right;subst hj;rw[al,al]
  .rcases h with h|h
   .left;simp only[List.map_cons,List.mem_cons] at h;exact h.resolve_left hj
   .right;rw[aB _ _ hj,aB _ _ hj,h]
theorem YB{a b:List (Nat×Option Row)}(m:Mem)(h:∀ i∈a.map (·.1),i∉b.map (·.1)):cH (cH m a) b=cH (cH m b) a:=by
 funext i;by_cases ha:i∈a.map (·.1)
 .rw[zK (h i ha)];exact Ir (.inl ha)
 .rw[zK (m:=cH m b) ha];exact Ir (.inr (zK ha))
def pj(env:Env)(d:Option Nat)(v:D):Env:=match d with
 |some t=>up env t v
 |none=>env
theorem B6{env:Env}{d:Option Nat}{v:D}{t:Nat}(h:d≠some t):pj env d v t=env t:=by
 cases d with
 |none=>rfl
 |some u=>exact aB _ _ fun e=>h (by rw[e])
theorem Is{env env':Env}{d:Option Nat}{v:D}{t:Nat}(h:d=some t\/env t=env' t):pj env d v t=pj env' d v t:=by
 cases d with
 |none=>simpa[pj] using h
 |some u=>
  by_cases hu:t=u
  .subst hu;simp[pj,al]
  .simp only[pj,aB _ _ hu];rcases h with h|h
   .simp only[aH] at h;exact absurd h.symm hu
   .exact h
theorem YC(env:Env){d d':Option Nat}(v C:D)(h:∀ t,d=some t->d'≠some t):pj (pj env d v) d' C=pj (pj env d' C) d v:=by
 funext t;by_cases hd:d=some t
 .rw[B6 (h t hd)];exact Is (.inl hd)
 .rw[B6 (env:=pj env d' C) hd];exact Is (.inr (B6 hd))
def wF(st:St)(o:Oper)(p:dj):St:=St.put ⟨st.env,cH st.mem p.aT,st.nx+p.new⟩ o.dst p.val
theorem JA(st:St)(o:Oper)(p:dj):(wF st o p).env=pj st.env o.dst p.val:=by unfold wF;rw[Xv];rfl
theorem Fh(st:St)(o:Oper)(p:dj):(wF st o p).mem=cH st.mem p.aT:=Ot _ _ _
theorem vw(st:St)(o:Oper)(p:dj):(wF st o p).nx=st.nx+p.new:=BZ _ _ _
section
variable(oo:Nat->Oper)(pp:Nat->dj)(st₀:St)
def fc(S:Nat->Bool):Nat->St
 |0=>st₀
 |k+1=>if S k then wF (fc S k) (oo k) (pp k) else fc S k
def fD:Nat->St:=fc oo pp st₀ fun _=>true
theorem qH(k:Nat):fD oo pp st₀ (k+1)=wF (fD oo pp st₀ k) (oo k) (pp k):=rfl
theorem RX(k:Nat):∀ n,k<=n->fc oo pp st₀ (fun j=>decide (j<k)) n=fD oo pp st₀ k:=by
 have below:∀ n,n<=k->fc oo pp st₀ (fun j=>decide (j<k)) n=fD oo pp st₀ n:=by
  intro n
  induction n with
  |zero=>intro _;rfl
  |succ n ih=>
   intro h;have hd:decide (n<k)=true:=by simp;omega
   rw[qH, <- ih oG];simp only[fc,hd,if_true]
 intro n h
 induction n with
 |zero=>
  have:k=0:=by omega
  subst this;rfl
 |succ n ih=>
  rcases Nat.lt_or_ge n k with ah|C
  .have:k=n+1:=by omega
   subst this;exact below (n+1) (bc _)
  .have hd:decide (n<k)=false:=by simpa using C
   simp only[fc,hd,Bool.false_eq_true,if_false];exact ih C
theorem abM{S T:Nat->Bool}{t:Nat}:∀ n,(∀ j,j<n->S j≠T j->(oo j).dst≠some t)->(fc oo pp st₀ S n).env t=(fc oo pp st₀ T n).env t:=by
 intro n
 induction n with
 |zero=>intro _;rfl
 |succ n ih=>
  intro h;have h1:=ih fun j hj=>h j oG;have h2:=h n oG;simp only[fc];cases C:S n<;>cases J:T n<;>simp only[Bool.false_eq_true,if_false,if_true,JA]
  .exact h1
  .rw[B6 (h2 (by simp[C,J]))];exact h1
  .rw[B6 (h2 (by simp[C,J]))];exact h1
  .exact Is (.inr h1)
theorem abN{S T:Nat->Bool}{i:Nat}:∀ n,(∀ j,j<n->S j≠T j->i∉(pp j).wr)->(fc oo pp st₀ S n).mem i=(fc oo pp st₀ T n).mem i:=by
 intro n
 induction n with
 |zero=>intro _;rfl
 |succ n ih=>
  intro h;have h1:=ih fun j hj=>h j oG;have h2:=h n oG;simp only[fc];cases C:S n<;>cases J:T n<;>simp only[Bool.false_eq_true,if_false,if_true,Fh]
  .exact h1
  .rw[zK (h2 (by simp[C,J]))];exact h1
  .rw[zK (h2 (by simp[C,J]))];exact h1
  .exact Ir (.inr h1)
theorem I8{S T:Nat->Bool}:∀ n,(∀ j,j<n->S j=T j)->fc oo pp st₀ S n=fc oo pp st₀ T n:=by
 intro n
 induction n with
 |zero=>intro _;rfl
 |succ n ih=>
  intro h;simp only[fc,ih fun j hj=>h j oG,h n oG]
theorem abO{S:Nat->Bool}{k:Nat}(hk:S k=false):∀ n,k<n->(∀ j,k<j->j<n->S j=true->(∀ t,(oo k).dst=some t->(oo j).dst≠some t)/\∀ i∈(pp k).wr,i∉(pp j).wr)->
 (fc oo pp st₀ (fun j=>if j=k then true else S j) n).env=pj (fc oo pp st₀ S n).env (oo k).dst (pp k).val/\
 (fc oo pp st₀ (fun j=>if j=k then true else S j) n).mem=cH (fc oo pp st₀ S n).mem (pp k).aT:=by
 intro n
 induction n with
 |zero=>intro h;omega
 |succ n ih=>
  intro jO h;rcases Nat.lt_or_ge k n with ah|X
  .obtain⟨h1,h2⟩:=ih ah fun j hj iR=>h j hj oG;have C:n≠k:=by omega
   simp only[fc,if_neg C];cases U:S n with
   |false=>simp only[Bool.false_eq_true,if_false];exact⟨h1,h2⟩
   |true=>
    obtain⟨J,M⟩:=h n ah oG U;simp only[if_true,JA,Fh,h1,h2];exact⟨YC _ _ _ J,YB _ M⟩
  .have:n=k:=by omega
   subst this;have e:fc oo pp st₀ (fun j=>if j=n then true else S j) n=fc oo pp st₀ S n:=I8 oo pp st₀ n fun j hj=>by simp only[if_neg (show j≠n by omega)]
   simp only[fc,if_true,hk,Bool.false_eq_true,if_false,JA,Fh,e];exact⟨trivial,trivial⟩
theorem oW{j k:Nat}(h:j<=k):(fD oo pp st₀ j).nx<=(fD oo pp st₀ k).nx:=by
 induction k with
 |zero=>have:j=0:=by omega
        subst this;exact bc _
 |succ k ih=>
  rcases Nat.lt_or_ge j (k+1) with ah|C
  .rw[qH,vw];have:=ih oG;omega
  .have:j=k+1:=by omega
   subst this;exact bc _
end
section
variable{P:Program}{ops:Array Oper}{cf:List (Nat×Nat)}{Q:Exit->St->Prop}
def Fi(P:Program)(ops:Array Oper)(cf:List (Nat×Nat))(Q:Exit->St->Prop):List Oper->List dj->St->jN->Prop
 |[],[],st,tr=>(∀ q∈cf,pH tr q.1 q.2)/\Q .normal st
 |o::os,p::ps,st,tr=>p.Ok P ops o st/\p.sL (cY o.op) st/\Fi P ops cf Q os ps (wF st o p) (tr++[(p.rd,p.wr)])
 |_,_,_,_=>False
theorem It{Y:eb}:∀ (os:List Oper) (st:St) (tr:jN),av P Y ops true cf Q os st tr->∃ ps,Fi P ops cf Q os ps st tr
 |[],st,tr,h=>⟨[],h⟩
 |o::os,st,tr,h=>by
  simp only[av] at h;rcases IG h with⟨p,h1,h2,C⟩|⟨h1,_⟩|⟨h1,_⟩
  .obtain⟨ps,J⟩:=It os _ _ C;exact⟨p::ps,h1,h2,J⟩
  .cases h1
  .cases h1
instance:Inhabited dj:=⟨⟨.u,[],[],0⟩⟩
theorem Iu(oo:Nat->Oper)(pp:Nat->dj)(st₀:St):∀ (os:List Oper) (ps:List dj) (k:Nat) (tr:jN),(∀ j o,os[j]? =some o->oo (k+j)=o)->(∀ j p,ps[j]? =some p->pp (k+j)=p)->tr.length=k->
 (∀ j,j<k->tr.getD j ([],[])=((pp j).rd,(pp j).wr))->Fi P ops cf Q os ps (fD oo pp st₀ k) tr->
 (∀ j,k<=j->j<k+os.length->(pp j).Ok P ops (oo j) (fD oo pp st₀ j)/\(pp j).sL (cY (oo j).op) (fD oo pp st₀ j))/\Q .normal (fD oo pp st₀ (k+os.length))/\
 ∃ C:jN,(∀ j,j<k+os.length->C.getD j ([],[])=((pp j).rd,(pp j).wr))/\∀ q∈cf,pH C q.1 q.2
 |[],[],k,tr,ho,hp,hl,ht,h=>⟨fun j h1 h2=>absurd h2 oP,h.2,tr,ht,h.1⟩
 |[],_::_,_,_,_,_,_,_,h=>h.elim
 |_::_,[],_,_,_,_,_,_,h=>h.elim
 |o::os,p::ps,k,tr,ho,hp,hl,ht,h=>by
  have e1:oo k=o:=ho 0 o rfl;have e2:pp k=p:=hp 0 p rfl;obtain⟨h1,h2,U⟩:=h;have J:Fi P ops cf Q os ps (fD oo pp st₀ (k+1)) (tr++[(p.rd,p.wr)]):=by rw[qH,e1,e2];exact U
  obtain⟨a1,a2,C,a3,a4⟩:=Iu oo pp st₀ os ps (k+1) _ (fun j x hj=>by have:=ho (j+1) x (by simpa using hj);rw[<- this];congr 1;omega)
   (fun j x hj=>by have:=hp (j+1) x (by simpa using hj);rw[<- this];congr 1;omega) (by simp[hl])
   (fun j hj=>by
    rcases Nat.lt_or_ge j k with ah|M
    .rw[<- ht j ah];simp[List.getElem?_append_left (show j<tr.length by omega)]
    .have:j=k:=by omega
     subst this;simp[<- hl,List.getElem?_append_right,e2]
     rw[hl,e2];exact⟨rfl,rfl⟩) J
  have e3:k+(o::os).length=k+1+os.length:=by simp;omega
  rw[e3];refine⟨fun j hj X=>?_,a2,C,a3,a4⟩;rcases Nat.lt_or_ge k j with ah|M
  .exact a1 j ah X
  .have:j=k:=by omega
   subst this;rw[e1,e2];exact⟨h1,h2⟩
def J9(P:Program)(F:Nat->Prop)(ops:Array Oper)(Q:Exit->St->Prop)(N₀:Nat)(β₀:aE)(w₀:World)(a₀:Act)(r:Option Nat)(n:Nat)(o:Oper)(st:St):Prop:=
 ∀ (β:aE) (w:World) (a:Act),ek P F st β w a->fX N₀ β₀ w₀ a₀ st β w a->∀ K:Act->World->Prop,(∀ a' w',dY P F N₀ β₀ w₀ a₀ Q .normal a' w'->K a' w')->pU r n P ops (dY P F N₀ β₀ w₀ a₀ Q) o K a w
theorem Ws(h:bR ops=some cf):(∀ (i:Nat) (o:Oper),ops[i]? =some o->∀ e∈o.after,Region.binds .any e=true->e.on<i)/\
 (∀ q∈unordered (ir ops.toList []) ops.size,IF ops q.1 q.2=true)/\(∀ q∈unordered (ir ops.toList []) ops.size,Fg ops q.1 q.2=true->q∈cf):=by
 unfold bR at h;simp only at h;split at h
 .rename_i hc;simp only[ba] at hc;cases h;refine⟨fun i o hi e he hb=>?_,fun q hq=>bV.1 hc.2 q hq,fun q hq hm=>by rw[List.mem_filter];exact⟨hq,hm⟩⟩
  have h1:=bV.1 hc.1 (o,i) (by
   rw[List.mem_zipIdx_iff_getElem?]
   simpa using hi)
  have h2:=bV.1 h1 e (by simpa using he);simpa[hb] using h2
 .cases h
variable{F:Nat->Prop}{N₀:Nat}{β₀:aE}{w₀:World}{a₀:Act}
structure DS(P:Program)(F:Nat->Prop)(oo:Nat->Oper)(pp:Nat->dj)(st₀:St)(n:Nat)(N₀:Nat)(β₀:aE)(w₀:World)(a₀:Act)(S:Nat->Bool)(β:aE)(w:World)(a:Act):Prop where
 e:gI F β w (fc oo pp st₀ S n).env a
 m:aK P F (fc oo pp st₀ S n).mem β w
 free:∀ i,st₀.nx<=i->(∀ k,k<n->S k=true->¬ ((fD oo pp st₀ k).nx<=i/\i<(fD oo pp st₀ k).nx+(pp k).new))->β i=none
 step:Step β₀ w₀ β w
 grow:∀ i,i<N₀->β₀ i=none->β i=none
 size:a.tmps.size=a₀.tmps.size
 defers:a.defers=a₀.defers
theorem aaa{oo:Nat->Oper}{pp:Nat->dj}{st₀:St}(hi:bR ops=some cf)(DP:∀ j o,ops[j]? =some o->oo j=o)(ah:vF a₀.tmps.size ops=true)
 (J:Nat) (fP:J<=ops.size) (bK:∀ j,j<J->(pp j).Ok P ops (oo j) (fD oo pp st₀ j)/\(pp j).sL (cY (oo j).op) (fD oo pp st₀ j)) (hQ:J=ops.size->Q .normal (fD oo pp st₀ ops.size))
 (hL:J<ops.size->J+1=ops.size/\(∀ i,i<J->((ir ops.toList []).getD J 0).testBit i=true)/\∀ r n,J9 P F ops Q N₀ β₀ w₀ a₀ r n (oo J) (fD oo pp st₀ J))
 (bf:∃ mb:jN,(∀ j,j<J->mb.getD j ([],[])=((pp j).rd,(pp j).wr))/\∀ q∈cf,pH mb q.1 q.2)
 (iP:∀ i,st₀.nx<=i->st₀.mem i=none) (hN:N₀<=st₀.nx) (r:Option Nat) (n:Nat):
 ∀ (ed:Nat) (listed:Array Bool) (β:aE) (w:World) (a:Act),listed.size=ops.size->listed.toList.countP (fun b=> !b)<=ed->(J<ops.size->listed.getD J false=false)->
  (∀ j,listed.getD j false=true->∀ o,ops[j]? =some o->∀ e∈o.after,Region.binds .any e=true->listed.getD e.on false=true)->
  DS P F oo pp st₀ ops.size N₀ β₀ w₀ a₀ (fun j=>listed.getD j false) β w a->
  wpAnyIn (Fe r) n P .any ops (dY P F N₀ β₀ w₀ a₀ Q) ed listed a w:=by
 obtain⟨Mp,hta,jL⟩:=Ws hi;obtain⟨mb,TM,ag3⟩:=bf
 have UM:∀ k,k<=J->∀ i,(fD oo pp st₀ k).nx<=i->(fD oo pp st₀ k).mem i=none:=by
  intro k
  induction k with
  |zero=>intro _ i hi;exact iP i hi
  |succ k ih=>
   intro hk i hi;rw[qH,vw] at hi;rw[qH,Fh];have h1:=(bK k oG).2.wr;rw[zK,ih oG i oG];intro l5;rcases h1 i l5 with h2|h2
   .exact h2 (ih oG i oG)
   .omega
 have yO:∀ i j,i<j->j<ops.size->((ir ops.toList []).getD j 0).testBit i=false->
  (∀ x∈(pp i).wr,x∉(pp j).wr)/\(∀ x∈(pp i).wr,x∈(pp j).rd->(fD oo pp st₀ j).mem x=none)/\(∀ x∈(pp j).wr,x∈(pp i).rd->(fD oo pp st₀ i).mem x=none):=by
  intro i j nQ hj hb;have hu:=NS nQ hj hb
  have iR:j<J:=by
   rcases Nat.lt_or_ge j J with h|h
   .exact h
   .obtain⟨q1,q2,_⟩:=hL oG;have:j=J:=by omega
    subst this;rw[q2 i nQ] at hb;cases hb
  have Mq:ops[i]? =some (oo i):=by
   have:i<ops.size:=by omega
   rw[DP i ops[i] (by simp[this])];simp[this]
  have DQ:ops[j]? =some (oo j):=by
   rw[DP j ops[j] (by simp[hj])];simp[hj]
  obtain⟨ti,UN,UO,t3i⟩:=(bK i oG).2;obtain⟨tj,t0j,t1j,t3j⟩:=(bK j iR).2;by_cases fa:Fg ops i j=true
  .have h1:=ag3 _ (jL _ hu fa);unfold pH at h1;simp only[TM i oG,TM j iR] at h1;exact⟨fun x hx=>(h1.1 x hx).2,fun x hx hr=>absurd hr (h1.1 x hx).1,fun x hx hr=>absurd hr (h1.2 x hx)⟩
  .simp only[Fg,Mq,DQ,ba,Bool.or_eq_true,beq_iff_eq,bne_iff_ne,Bool.not_eq_true',ne_eq] at fa
   have hk:∀ o:Oper,cY o.op=0\/cY o.op=1\/cY o.op=2\/cY o.op=3:=fun o=>by
    unfold cY;split<;>simp
   have nil:∀ p:dj,p.aT=[]->∀ x,x∉p.wr:=fun p hp x hx=>by simp[dj.wr,hp] at hx
   rcases hk (oo j) with kj|kj|kj|kj
   .have:=t0j kj;exact⟨fun x _=>nil _ this.2 x,fun x _ hr=>(by rw[this.1] at hr;cases hr),fun x hx=>absurd hx (nil _ this.2 x)⟩
   .by_cases k0:cY (oo i).op=0
    .have:=UN k0;exact⟨fun x hx=>absurd hx (nil _ this.2 x),fun x hx=>absurd hx (nil _ this.2 x),fun x _ hr=>by rw[this.1] at hr;cases hr⟩
    .have k1:cY (oo i).op=1:=by
      rcases hk (oo i) with h|h|h|h
      .exact absurd h k0
      .exact h
      .exact absurd ⟨⟨.inl kj,oG⟩,by simp[h]⟩ fa
      .exact absurd ⟨⟨.inl kj,oG⟩,by simp[h]⟩ fa
     exact⟨fun x hx=>absurd hx (nil _ (UO k1) x),fun x hx=>absurd hx (nil _ (UO k1) x),fun x hx=>absurd hx (nil _ (t1j kj) x)⟩
   .by_cases k0:cY (oo i).op=0
    .have:=UN k0;exact⟨fun x hx=>absurd hx (nil _ this.2 x),fun x hx=>absurd hx (nil _ this.2 x),fun x _ hr=>by rw[this.1] at hr;cases hr⟩
    .exact absurd ⟨⟨.inr kj,oG⟩,by simp[kj]⟩ fa
   .have cC:=oW oo pp st₀ (show i+1<=j by omega);rw[qH,vw] at cC;obtain⟨h1,h2⟩:=t3j kj
    have Mr:∀ x∈(pp i).wr,x<(fD oo pp st₀ j).nx:=fun x hx=>by
     rcases ti x hx with h|h
     .rcases Nat.lt_or_ge x (fD oo pp st₀ i).nx with h'|h'
      .omega
      .exact absurd (UM i oG x h') h
     .omega
    refine⟨fun x hx hxj=>?_,fun x _ hr=>(by rw[h1] at hr;cases hr),fun x hx _=>UM i oG x ?_⟩
    .have:=Mr x hx;have:=h2 x hxj;omega
    .have:=h2 x hx;omega
 have Ln:∀ i j,i<j->j<ops.size->((ir ops.toList []).getD j 0).testBit i=false->(oo i).apart ops (oo j)=true:=by
  intro i j nQ hj hb;have h1:=hta _ (NS nQ hj hb)
  have Mq:ops[i]? =some (oo i):=by
   have:i<ops.size:=by omega
   rw[DP i ops[i] (by simp[this])];simp[this]
  have DQ:ops[j]? =some (oo j):=by
   rw[DP j ops[j] (by simp[hj])];simp[hj]
  simpa[IF,Mq,DQ] using h1
 have p8:∀ listed:Array Bool,listed.size=ops.size->Region.ready .any ops listed=[]->∀ k,k<ops.size->listed.getD k false=true:=by
  intro listed bC hr k
  induction k using Nat.strongRecOn with
  |_ k ih=>
   intro hk;cases hl:listed.getD k false with
   |true=>rfl
   |false=>
    exfalso
    have:k∈Region.ready .any ops listed:=by
     rw[mem_ready];refine⟨?_,ops[k],by simp[hk],fun e he hb=>?_⟩
     .have gv:k<listed.size:=by omega
      simpa[gv] using hl
     .have h1:=Mp k ops[k] (by simp[hk]) e he hb;exact ih e.on h1 oG
    rw[hr] at this;cases this
 have done:∀ (listed:Array Bool) (β:aE) (w:World) (a:Act),listed.size=ops.size->(J<ops.size->listed.getD J false=false)->DS P F oo pp st₀ ops.size N₀ β₀ w₀ a₀ (fun j=>listed.getD j false) β w a->Region.ready .any ops listed=[]->
  dY P F N₀ β₀ w₀ a₀ Q .normal a w:=by
  intro listed β w a bC me C hr
  have Bf:J=ops.size:=by
   rcases Nat.lt_or_ge J ops.size with h|h
   .have h1:=me h;rw[p8 listed bC hr J h] at h1;cases h1
   .omega
  have hQ:=hQ Bf;have e:fc oo pp st₀ (fun j=>listed.getD j false) ops.size=fD oo pp st₀ ops.size:=I8 oo pp st₀ _ fun j hj=>p8 listed bC hr j hj;have h1:=C.e;have h2:=C.m;rw[e] at h1 h2;refine⟨fD oo pp st₀ ops.size,β,hQ,⟨h1,h2,fun i hi=>C.free i ?_ fun k hk _ h=>?_⟩,⟨C.step,?_,C.grow,C.size,C.defers⟩⟩
  .exact Nat.le_trans (oW oo pp st₀ (Nat.zero_le _)) hi
  .have:=oW oo pp st₀ (show k+1<=ops.size by omega);rw[qH,vw] at this;omega
  .exact Nat.le_trans hN (oW oo pp st₀ (Nat.zero_le _))
 intro ed
 induction ed with
 |zero=>
  intro listed β w a bC hc me dy C
  have hr:Region.ready .any ops listed=[]:=by
   cases oI:Region.ready .any ops listed with
   |nil=>rfl
   |cons x xs=>
    exfalso;have hx:x∈Region.ready .any ops listed:=by rw[oI];simp
    rw[mem_ready] at hx;obtain⟨h1,o,M,_⟩:=hx;have yP:x<ops.size:=(Array.getElem?_eq_some_iff.1 M).1;have yE:x<listed.size:=by omega
    have:listed[x]=false:=by simpa[yE] using h1
    have h2:0<listed.toList.countP (fun b=> !b):=List.countP_pos_iff.2 ⟨listed[x],oS,by simp[this]⟩;omega
  exact⟨hr,done listed β w a bC me C hr⟩
 |succ ed ih=>
  intro listed β w a bC hc me dy C;refine⟨done listed β w a bC me C,fun k hk=>?_⟩;rw[mem_ready] at hk;obtain⟨yQ,o,M,ra⟩:=hk;have jO:k<ops.size:=(Array.getElem?_eq_some_iff.1 M).1;have gM:k<listed.size:=by omega
  have yR:listed[k]=false:=by simpa[gM] using yQ
  have uK:listed.getD k false=false:=by simp[gM,yR]
  have eo:oo k=o:=DP k o M;by_cases G3:k=J
  ·
    subst G3;obtain⟨q1,q2,q3⟩:=hL jO
    have bx:∀ j,j<k->listed.getD j false=true:=by
     intro j hj;have hb:=q2 j hj;have h1:=ES ops.toList [] k o (by simpa using M);simp only[List.length_nil,Nat.zero_add] at h1;rw[h1] at hb;rcases EF _ j _ 0 hb with h2|⟨e,he,lm,h2⟩
     .simp at h2
     .have uJ:=ra e (by simpa using he) lm;rcases h2 with rfl|h2
      .exact uJ
      .have ah:=Mp k o M e (by simpa using he) lm;have U:((ir ops.toList []).getD e.on 0).testBit j=true:=by simpa[List.getElem?_take,ah] using h2
       exact Iq (S:=fun j=>listed.getD j false) dy j e.on uJ U
    have DR:fc oo pp st₀ (fun j=>listed.getD j false) ops.size=fD oo pp st₀ k:=by
     rw[<- RX oo pp st₀ k ops.size oG];refine I8 oo pp st₀ _ fun j hj=>?_;rcases Nat.lt_or_ge j k with h|h
     .simp[bx j h,h]
     .have:j=k:=by omega
      subst this;simp[uK]
    refine Ie M ?_;rw[<- eo];have h1:=C.e;have h2:=C.m;rw[DR] at h1 h2;refine q3 r n β w a ⟨h1,h2,fun i hi=>C.free i ?_ fun j hj hS h=>?_⟩ ⟨C.step,?_,C.grow,C.size,C.defers⟩ _ fun a' w' hp=>?_
    .exact Nat.le_trans (oW oo pp st₀ (Nat.zero_le _)) hi
    .rcases Nat.lt_or_ge j k with ah|bq
     .have:=oW oo pp st₀ (show j+1<=k by omega);rw[qH,vw] at this;omega
     .have:j=k:=by omega
      subst this;simp only[uK] at hS;cases hS
    .exact Nat.le_trans hN (oW oo pp st₀ (Nat.zero_le _))
    .have hr:Region.ready .any ops (listed.setIfInBounds k true)=[]:=by
      cases oI:Region.ready .any ops (listed.setIfInBounds k true) with
      |nil=>rfl
      |cons x xs=>
       exfalso;have hx:x∈Region.ready .any ops (listed.setIfInBounds k true):=by rw[oI];simp
       rw[mem_ready] at hx;obtain⟨g1,o',DT,_⟩:=hx;have yP:x<ops.size:=(Array.getElem?_eq_some_iff.1 DT).1;by_cases UP:x=k
       .subst UP;simp[gM] at g1
       .have U:=bx x oG;rw[getD_set_ne true (Ne.symm UP)] at g1;have wG:x<listed.size:=by omega
        simp[wG] at g1 U;rw[g1] at U;cases U
     cases ed with
     |zero=>exact⟨hr,hp⟩
     |succ ed=>exact⟨fun _=>hp,fun i hi=>by rw[hr] at hi;cases hi⟩
  have hkm:k<J:=by
   rcases Nat.lt_or_ge k J with h|h
   .exact h
   .have:=(hL oG).1;omega
  obtain⟨oJ,amj⟩:=bK k hkm
  have TN:∀ j,j<k->listed.getD j false=false->((ir ops.toList []).getD k 0).testBit j=false:=by
   intro j sV hj;cases hb:((ir ops.toList []).getD k 0).testBit j with
   |false=>rfl
   |true=>
    exfalso;have h1:=ES ops.toList [] k o (by simpa using M);simp only[List.length_nil,Nat.zero_add] at h1;rw[h1] at hb;rcases EF _ j _ 0 hb with h2|⟨e,he,lm,h2⟩
    .simp at h2
    .have uJ:=ra e (by simpa using he) lm;rcases h2 with rfl|h2
     .rw[hj] at uJ;cases uJ
     .have ah:=Mp k o M e (by simpa using he) lm;have U:((ir ops.toList []).getD e.on 0).testBit j=true:=by simpa[List.getElem?_take,ah] using h2
      have:=Iq (S:=fun j=>listed.getD j false) dy j e.on uJ U;rw[hj] at this;cases this
  have G4:∀ j,k<j->listed.getD j false=true->((ir ops.toList []).getD j 0).testBit k=false:=by
   intro j gh hj;cases hb:((ir ops.toList []).getD j 0).testBit k with
   |false=>rfl
   |true=>
    exfalso;have:=Iq (S:=fun j=>listed.getD j false) dy k j hj hb;rw[uK] at this;cases this
  have SF:∀ j,j<ops.size->listed.getD j false≠decide (j<k)->(j<k/\listed.getD j false=false)\/(k<j/\listed.getD j false=true):=by
   intro j hj X;rcases Nat.lt_trichotomy j k with h|h|h
   .left;refine⟨h,?_⟩;simpa[h] using X
   .subst h;simp[uK] at X
   .right;refine⟨h,?_⟩;have:¬ j<k:=by omega
    simpa[this] using X
  have DR:=RX oo pp st₀ k ops.size oG;refine Ie M ?_;rw[<- eo];refine oJ F β w a (fc oo pp st₀ (fun j=>listed.getD j false) ops.size).mem (fc oo pp st₀ (fun j=>listed.getD j false) ops.size).env (fD oo pp st₀ ops.size).nx ?_ C.e C.m ?_ ?_ ?_ r n _ _ ?_
  .intro t ht;rw[<- DR];refine abM oo pp st₀ _ fun j hj X=>?_;rcases SF j hj X with⟨h1,h2⟩|⟨h1,h2⟩
   .have:=(Oper.apart_spec (Ln j k h1 jO (TN j h1 h2))).1;exact fun hd=>this t hd ht
   .have:=(Oper.apart_spec (Ln k j h1 hj (G4 j h1 h2))).2.2;exact fun hd=>this t hd ht
  .intro i hi X;rw[<- DR] at X ⊢;refine abN oo pp st₀ _ fun j hj Lo hw=>?_;rw[DR] at X;rcases SF j hj Lo with⟨h1,h2⟩|⟨h1,h2⟩
   .exact X ((yO j k h1 jO (TN j h1 h2)).2.1 i hw hi)
   .exact X ((yO k j h1 hj (G4 j h1 h2)).2.2 i hw hi)
  .intro i h1 h2;refine C.free i (Nat.le_trans (oW oo pp st₀ (Nat.zero_le _)) h1) fun j hj hS U=>?_;rcases Nat.lt_trichotomy j k with h|h|h
   .have:=oW oo pp st₀ (show j+1<=k by omega);rw[qH,vw] at this;omega
   .subst h;simp only[uK] at hS;cases hS
   .have:=oW oo pp st₀ (show k+1<=j by omega);rw[qH,vw] at this;omega
  .intro i hi;refine C.free i (Nat.le_trans (oW oo pp st₀ (Nat.zero_le _)) hi) fun j hj _ U=>?_;have:=oW oo pp st₀ (show j+1<=ops.size by omega);rw[qH,vw] at this;omega
  .intro v w' β' g1 g2 g3 g4
   have hS':(fun j=>(listed.setIfInBounds k true).getD j false)=(fun j=>if j=k then true else listed.getD j false):=by
    funext j;by_cases hj:j=k
    .subst hj;simp[gM]
    .rw[if_neg hj,getD_set_ne false (Ne.symm hj)]
   obtain⟨ae,am⟩:=abO oo pp st₀ (S:=fun j=>listed.getD j false) (k:=k) uK ops.size jO fun j gh hj Hw=>
    ⟨(Oper.apart_spec (Ln k j gh hj (G4 j gh Hw))).2.1,(yO k j gh hj (G4 j gh Hw)).1⟩
   refine ih _ β' w' _ (by simpa using bC) ?_ (fun h=>by rw[getD_set_ne false (fun e=>G3 e)];exact me h) ?_ ?_
   .have:(listed.setIfInBounds k true).toList=listed.toList.set k true:=by simp
    rw[this,List.countP_set (by simpa using gM)];have h2:0<listed.toList.countP (fun b=> !b):=List.countP_pos_iff.2 ⟨listed[k],oS,by simp[yR]⟩;have U:listed.toList[k]'(by simpa using gM)=false:=by simpa using yR
    rw[U];simp only[Bool.not_false,if_true,Bool.not_true,Bool.false_eq_true,if_false];omega
   .intro j hj o' DT e he hb;by_cases sV:j=k
    .subst sV;rw[M] at DT;cases DT;exact getD_set_true (ra e he hb)
    .rw[getD_set_ne false (Ne.symm sV)] at hj;exact getD_set_true (dy j hj o' DT e he hb)
   .rw[hS'];refine⟨?_,by rw[am];exact g2,fun i hi hn=>?_,C.step.trans g3,fun i hi hn=>?_,by rw[ET];exact C.size,by rw[put_defers];exact C.defers⟩
    .rw[ae];have hd:∀ t,(oo k).dst=some t->t<a.tmps.size:=fun t ht=>by rw[C.size];rw[eo] at ht;exact Iv ah M t ht
     have he:=C.e.step g3;cases ag4:(oo k).dst with
     |none=>exact he
     |some t=>exact he.put (some t) _ _ g1 (fun u hu=>hd u (by rw[ag4];exact hu))
    .have h1:=hn k jO oS;have h2:=C.free i hi fun j hj Hw=>hn j hj (by by_cases sV:j=k<;>simp[sV,Hw]);exact g4 i h2 oG
    .exact g4 i (C.grow i hi hn) (.inl (Nat.lt_of_lt_of_le (Nat.lt_of_lt_of_le hi hN) (oW oo pp st₀ (Nat.zero_le _))))
theorem abP{o:Oper}{st:St}{r:Option Nat}{n:Nat}{i:Nat}(ho:ops[i]? =some o)(ah:vF a₀.tmps.size ops=true)(h:av P cZ ops false [] Q [o] st []):J9 P F ops Q N₀ β₀ w₀ a₀ r n o st:=by
 intro β w a hs M K hK;have hd:∀ t,o.dst=some t->t<a.tmps.size:=fun t ht=>by rw[M.size];exact Iv ah ho t ht
 simp only[av] at h;rcases IG h with⟨p,h1,_,C⟩|⟨_,f,args,h1,h2,C,X⟩|⟨_,l,args,h1,h2,C,X⟩
 .exact Pd h1 hs hd r n _ fun β' a' w' J U=>hK _ _ ⟨_,β',C.2,J,M.trans U⟩
 .exact Ou h1 h2 C X hs hd r n _ fun d m' ao β' a' w' hp J U=>hK _ _ ⟨_,β',hp.2,J,M.trans U⟩
 .exact X.elim
theorem Xw(h:CR ops=true):0<ops.size/\∀ i,i<ops.size - 1->((ir ops.toList []).getD (ops.size - 1) 0).testBit i=true:=by
 unfold CR at h;simp only[ba,bV,List.mem_range] at h;exact⟨by simpa using h.1,h.2⟩
theorem WW{Y:eb}{st:St}{β:aE}{w:World}{a:Act}{r:Option Nat}{n id:Nat}(gW:P.follows .mixedOrders=true)(hi:bR ops=some cf)(ah:vF a₀.tmps.size ops=true)
 (h:Cx P Y ops cf Q st) (hs:ek P F st β w a) (M:fX N₀ β₀ w₀ a₀ st β w a):(Code.region id ops true).wpIn (Fe r) n P (dY P F N₀ β₀ w₀ a₀ Q) a w:=by
 refine wpIn_region_any gW ?_
 obtain⟨ps,C,fP,bK,hQ,hL,bf⟩:∃ (ps:List dj) (C:Nat),C<=ops.size/\
  (∀ j,j<C->(ps.getD j default).Ok P ops (ops.toList.getD j default) (fD (fun j=>ops.toList.getD j default) (fun j=>ps.getD j default) st j)/\(ps.getD j default).sL (cY (ops.toList.getD j default).op) (fD (fun j=>ops.toList.getD j default) (fun j=>ps.getD j default) st j))/\
  (C=ops.size->Q .normal (fD (fun j=>ops.toList.getD j default) (fun j=>ps.getD j default) st ops.size))/\
  (C<ops.size->C+1=ops.size/\(∀ i,i<C->((ir ops.toList []).getD C 0).testBit i=true)/\∀ r n,J9 P F ops Q N₀ β₀ w₀ a₀ r n (ops.toList.getD C default) (fD (fun j=>ops.toList.getD j default) (fun j=>ps.getD j default) st C))/\
  ∃ mb:jN,(∀ j,j<C->mb.getD j ([],[])=((ps.getD j default).rd,(ps.getD j default).wr))/\∀ q∈cf,pH mb q.1 q.2:=by
  rcases h with h|⟨hl,h⟩
  .obtain⟨ps,X⟩:=It _ _ _ h;have J:=Iu (fun j=>ops.toList.getD j default) (fun j=>ps.getD j default) st ops.toList ps 0 [] (fun j o hj=>by simp at hj;simp[hj]) (fun j p hj=>by simp[hj]) rfl oS X;simp only[Nat.zero_add,Array.length_toList] at J;obtain⟨h1,h2,U⟩:=J;exact⟨ps,ops.size,bc _,fun j hj=>h1 j (Nat.zero_le _) hj,fun _=>h2,fun h=>absurd h (Nat.lt_irrefl _),U⟩
  .obtain⟨hp,hb⟩:=Xw hl;obtain⟨ps,X⟩:=It _ _ _ h;have hlen:(ops.toList.take (ops.size - 1)).length=ops.size - 1:=by simp
   have J:=Iu (fun j=>ops.toList.getD j default) (fun j=>ps.getD j default) st (ops.toList.take (ops.size - 1)) ps 0 [] (fun j o hj=>by
    have mP:j<ops.size - 1:=by rw[<- hlen];exact(bM.1 hj).1
    rw[List.getElem?_take,if_pos mP] at hj
    simp at hj;simp[hj]) (fun j p hj=>by simp[hj]) rfl oS X
   rw[hlen] at J;simp only[Nat.zero_add] at J;obtain⟨h1,h2,U⟩:=J;refine⟨ps,ops.size - 1,oG,fun j hj=>h1 j (Nat.zero_le _) hj,fun h=>by omega,fun _=>⟨oG,hb,fun r n=>?_⟩,U⟩
   have hx:ops[ops.size - 1]? =some (ops.toList.getD (ops.size - 1) default):=by
    have ah:ops.size - 1<ops.size:=by omega
    simp[ah]
   refine abP hx ah ?_;have h4:=h2.2
   have hd:ops.toList.drop (ops.size - 1)=[ops.toList.getD (ops.size - 1) default]:=by
    have ah:ops.size - 1<ops.toList.length:=by simp;omega
    rw[List.drop_eq_getElem_cons ah,List.drop_eq_nil_of_le oP];have oq:ops.size - 1<ops.size:=by omega
    simp[List.getD,oq]
   rw[hd] at h4;exact h4
 have GC:fc (fun j=>ops.toList.getD j default) (fun j=>ps.getD j default) st (fun j=>(Array.replicate ops.size false).getD j false) ops.size=st:=by
  have:∀ n,fc (fun j=>ops.toList.getD j default) (fun j=>ps.getD j default) st (fun j=>(Array.replicate ops.size false).getD j false) n=st:=by
   intro n
   induction n with
   |zero=>rfl
   |succ n ih=>
    have:(Array.replicate ops.size false).getD n false=false:=by simp[Array.getD_eq_getD_getElem?,Array.getElem?_replicate];split<;>rfl
    simp only[fc,this,Bool.false_eq_true,if_false];exact ih
  exact this _
 have UQ:Step β w β { w with drawn:=w.drawn+1 }:=⟨bc _,fun _ _ h=>⟨rfl,h⟩,fun _ _ h=>.inl h,rfl,rfl⟩
 refine aaa (st₀:=st) (oo:=fun j=>ops.toList.getD j default) (pp:=fun j=>ps.getD j default) hi (fun j o hj=>by simp[hj]) ah C fP bK hQ hL bf (fun i hi=>?_) M.le r n ops.size _ β _ a oS ?_ (fun h=>?_) ?_ ?_
 .cases hm:st.mem i with
  |none=>rfl
  |some row=>
   obtain⟨p,hp,_⟩:=hs.m.row i row hm;rw[hs.n i hi] at hp;cases hp
 .simpa using List.countP_le_length (p:=fun b=> !b) (l:=(Array.replicate ops.size false).toList)
 .simp[Array.getD_eq_getD_getElem?,Array.getElem?_replicate];split<;>rfl
 .intro j hj;exfalso;have:(Array.replicate ops.size false).getD j false=false:=by simp[Array.getD_eq_getD_getElem?,Array.getElem?_replicate];split<;>rfl
  rw[this] at hj;cases hj
 .refine⟨?_,?_,fun i hi _=>hs.n i hi,M.step.trans UQ,M.grow,M.size,M.defers⟩
  .rw[GC];exact hs.e.step UQ
  .rw[GC];exact hs.m.ext (bc _) fun _ _=>rfl
end
section
variable{P:Program}{F:Nat->Prop}
theorem PU{β β':aE}{w:World}{m:Mem}(hm:aK P F m β w){i:Nat}{cs:List D}{e:TypeId}(aq:m i=some (.cells cs e))(hβ:β'=up β i (some .dead)){d:D}{v:Value}(h:R F β w d v):
 R F β' w (cJ i cs (P.cellsOf e) d) v:=by
 have hs:Step β w β' w:=by rw[hβ];exact zD β w i
 have fW:=h.step hs;obtain⟨p,hp,hr⟩:=hm.row i _ aq;unfold cJ;split
 .rename_i j off n;split
  .rename_i U;subst U;cases h with
   |kG _ _ _ _ h1 _=>
    rw[h1] at hp;cases hp;cases hr
   |iO _ a h1=>
    rw[h1] at hp;cases hp;cases hr;simp only[List.drop_nil,List.take_nil];exact .gg a 0
   |jK _ _ a b o len room sz h1=>
    simp only[Nat.zero_mul,List.take_zero];exact .gg a 0
   |rs _ _ _ cap b o len room sz h1 hn dh h2 h3=>
    rw[h1] at hp;cases hp;have J:β j=some (.cells b o len room sz):=h1;obtain⟨X,hl,bC,_⟩:=hr.rd;have M:=(X.drop off).take (n*P.cellsOf e);obtain⟨us,u1,u2⟩:=M;refine .sl _ n b (o+off) cap us (hm.nf j _ b J rfl) ?_ (hm.lt j _ b J rfl) hn dh u1 fun k d hk=>(u2 k d hk).step hs;rw[hβ];intro k q hq;by_cases C:k=j
    .subst C;rw[al] at hq;cases hq;simp[Pl.bG]
    .rw[aB _ _ C] at hq;exact hm.qD J rfl hq C
  .exact fW
 .rename_i j off;split
  .rename_i U;subst U;cases h with
   |qk _ _ _ h1 _=>
    rw[h1] at hp;cases hp;cases hr
   |rp _ _ b o len room sz h1=>
    rw[h1] at hp;cases hp;obtain⟨X,hl,bC,_⟩:=hr.rd;obtain⟨us,u1,u2⟩:=X.drop off;refine .pt _ b (o+off) us (hm.nf j _ b h1 rfl) ?_ (hm.lt j _ b h1 rfl) u1 fun k d hk=>(u2 k d hk).step hs;rw[hβ];intro k q hq;by_cases C:k=j
    .subst C;rw[al] at hq;cases hq;simp[Pl.bG]
    .rw[aB _ _ C] at hq;exact hm.qD h1 rfl hq C
  .exact fW
 .exact fW
theorem Z9{β β':aE}{w:World}{m:Mem}(hm:aK P F m β w){i:Nat}{es:List (Value×D)}(aq:m i=some (.map es))(M:β'=up β i (some .dead)){d:D}{v:Value}(h:R F β w d v):R F β' w (yD i es d) v:=by
 have hs:Step β w β' w:=by rw[M];exact zD β w i
 unfold yD;split
 .rename_i j;split
  .rename_i U;subst U;obtain⟨r,ms,clock,h1,rfl,X,h4,h5,J⟩:=h.Ct hm aq;refine .im es r ms clock (hm.nf j _ r h1 rfl) ?_ X h4 h5 (fun k x m hx hm=>(J k x m hx hm).1) fun k x m hx hm=>(J k x m hx hm).2.step hs;rw[M];intro k q hq;by_cases C:k=j
   .subst C;rw[al] at hq;cases hq;simp[Pl.bG]
   .rw[aB _ _ C] at hq;exact hm.qD h1 rfl hq C
  .exact h.step hs
 .exact h.step hs
section subst
variable{σ:D->D}{β β':aE}{w:World}
theorem Pb(C:∀ {d v},R F β w d v->R F β' w (σ d) v){d:D}{v:Value}(h:R F β w d v):R F β' w (pg σ d) v:=by
 unfold pg;split
 .rename_i ds;obtain⟨vs,rfl,hl,hh⟩:=h.rV;refine .agg _ vs (by simpa using hl) fun k d v hd hv=>?_;simp only[List.getElem?_map,cU] at hd;obtain⟨d',J,rfl⟩:=hd;exact C (hh k d' v J hv)
 .cases h with
  |cw c d _ h1 h2=>exact .cw _ _ v (fun hc=>C (h1 hc)) h2
 .exact C h
theorem EQ(C:∀ {d v},R F β w d v->R F β' w (σ d) v){d:D}{v:Value}(h:R F β w d v):R F β' w (sub σ d) v:=by
 have map:∀ (ds:List D) (vs:List Value),(∀ (k:Nat) (d:D) (v:Value),ds[k]? =some d->vs[k]? =some v->R F β w d v)->
  ∀ (k:Nat) (d:D) (v:Value),(ds.map (pg σ))[k]? =some d->vs[k]? =some v->R F β' w d v:=fun ds vs hh k d v hd hv=>by
  simp only[List.getElem?_map,cU] at hd;obtain⟨d',J,rfl⟩:=hd;exact Pb C (hh k d' v J hv)
 unfold sub;split
 .rename_i ds;obtain⟨vs,rfl,hl,hh⟩:=h.Cd;exact .aM _ vs (by simpa using hl) (map ds vs hh)
 .rename_i f fs ds;cases h with
  |fn _ _ _ us vs hl ll h1 h2=>exact .fn f _ _ us vs (by simpa using hl) (by simpa using ll) (map fs us h1) (map ds vs h2)
 .exact Pb C h
theorem abK(J:∀ {d v},R F β w d v->R F β' w (σ d) v)(hs:Step β w β' w){r:Row}{p:Pl}(h:cB P F β w r p):cB P F β' w (r.sub σ) p:=by
 cases h with
 |nil C=>exact .nil C
 |cells ds C b o room sz c hc hr hlen bC hh=>
  have:=cB.cells (P:=P) (F:=F) (β:=β') (w:=w) (ds.map (Abs.sub σ)) C b o room sz c hc hr (by simpa using hlen) bC fun k d hk=>by
   simp only[List.getElem?_map,cU] at hk;obtain⟨d',U,rfl⟩:=hk;obtain⟨v,h1,h2,X⟩:=hh k d' U;exact⟨v,h1,EQ J h2,X⟩
  simpa[Row.sub] using this
 |map es r ms clock hc hl dZ hh=>
  refine .map _ r ms clock hc (by simpa using hl) (by simpa[List.map_map,Function.comp_def] using dZ) fun k x mm hk M=>?_;simp only[List.getElem?_map,cU] at hk;obtain⟨x',yE,rfl⟩:=hk;obtain⟨h1,h2⟩:=hh k x' mm yE M;exact⟨h1,EQ J h2⟩
 |raw r o hc=>exact .raw r o hc
 |bs u x T b v hc bC hx h1=>exact .bs u _ T b v hc bC (EQ J hx) h1
 |ia f r _ F₂ h1 h2 h=>exact(cB.ia f r p F₂ h1 h2 h).step hs fun _ _=>rfl
end subst
theorem N2{σ:D->D}{env:Env}{m:Mem}{nx i:Nat}{row:Row}(h:m i=some row){w:World}{a:Act}{β:aE}(hs:ek P F ⟨env,m,nx⟩ β w a)(U:∀ {d v},R F β w d v->R F (up β i (some .dead)) w (σ d) v):
 ∃ β',ek P F ⟨fun t=>sub σ (env t),fun j=>if j=i then none else(m j).map (Row.sub σ),nx⟩ β' w a/\fX nx β w a ⟨fun t=>sub σ (env t),fun j=>if j=i then none else(m j).map (Row.sub σ),nx⟩ β' w a:=by
 have M:=zD β w i;have hm:=hs.m;simp only at hm
 have J:∀ j q b,up β i (some .dead) j=some q->q.bG=some b->j≠i/\β j=some q:=fun j q b hq e=>by
  by_cases hj:j=i
  .subst hj;rw[al] at hq;cases hq;simp[Pl.bG] at e
  .rw[aB _ _ hj] at hq;exact⟨hj,hq⟩
 have hi:∃ p,β i=some p:=by
  obtain⟨p,hp,_⟩:=hm.row i _ h;exact⟨p,hp⟩
 refine⟨up β i (some .dead),⟨fun t=>EQ U (hs.e t),⟨fun j r hj=>?_,fun j k q X b hq fm e1 e2=>hm.inj j k q X b (J j q b hq e1).2 (J k X b fm e2).2 e1 e2,
  fun j q b hq e1=>hm.lt j q b (J j q b hq e1).2 e1,fun j q b hq e1=>hm.nf j q b (J j q b hq e1).2 e1,hm.fb⟩,fun j hj=>?_⟩,⟨M,bc _,fun j hj hn=>?_,rfl,rfl⟩⟩
 .simp only at hj;by_cases C:j=i
  .rw[if_pos C] at hj;cases hj
  .rw[if_neg C] at hj;simp only[cU] at hj;obtain⟨r',js,rfl⟩:=hj;obtain⟨q,hq,aq⟩:=hm.row j r' js;exact⟨q,by rw[aB _ _ C];exact hq,abK U M aq⟩
 .have C:j≠i:=fun e1=>by
   subst e1;obtain⟨p,hp⟩:=hi;rw[hs.n j hj] at hp;cases hp
  rw[aB _ _ C];exact hs.n j hj
 .have C:j≠i:=fun e1=>by
   subst e1;obtain⟨p,hp⟩:=hi;rw[hn] at hp;cases hp
  rw[aB _ _ C];exact hn
theorem Z'{β:aE}{w:World}{cs cs':List D}{e:TypeId}{p:Pl}(hl:cs'.length=cs.length)(M:∀ (k:Nat) (d d':D),cs[k]? =some d->cs'[k]? =some d'->Wk d d')(h:cB P F β w (.cells cs e) p):cB P F β w (.cells cs' e) p:=by
 cases h with
 |nil _=>
  have:cs'=[]:=List.length_eq_zero_iff.1 (by simpa using hl);subst this;exact .nil e
 |cells _ _ b o room sz c hc hr hlen bC hh=>
  rw[<- hl];refine .cells cs' e b o room sz c hc hr oG bC fun k d' C=>?_;have hk:k<cs.length:=by rw[<- hl];exact(bM.1 C).1
  obtain⟨v,h1,h2,J⟩:=hh k cs[k] (by simp[hk]);exact⟨v,h1,M k cs[k] d' (by simp[hk]) C _ _ _ _ h2,J⟩
theorem Ij{st st':St}(h:aL P st st'){w:World}{a:Act}:∀ {β:aE},ek P F st β w a->∃ β',ek P F st' β' w a/\fX st.nx β w a st' β' w a:=by
 induction h with
 |refl st=>exact fun {β} hs=>⟨β,hs,fX.refl st β w a⟩
 |trans _ _ ih₁ ih₂=>
  intro β hs;obtain⟨β₁,h1,h2⟩:=ih₁ hs;obtain⟨β₂,U,X⟩:=ih₂ h1;exact⟨β₂,U,h2.trans X⟩
 |forget env env' m nx h=>
  intro β hs;refine⟨β,⟨fun t=>?_,hs.m,hs.n⟩,⟨Step.refl β w,bc _,fun _ _ h=>h,rfl,rfl⟩⟩;rcases h t with h1|h1
  .simp only[h1];exact hs.e t
  .simp only[h1];exact .u _
 |drop env m m' nx h=>
  intro β hs;refine⟨β,⟨hs.e,⟨fun i r hi=>?_,hs.m.inj,hs.m.lt,hs.m.nf,hs.m.fb⟩,hs.n⟩,⟨Step.refl β w,bc _,fun _ _ h=>h,rfl,rfl⟩⟩;rcases h i with h1|h1
  .exact hs.m.row i r (h1.symm.trans hi)
  .simp only at hi;rw[h1] at hi;cases hi
 |nD env env' m m' nx h fa=>
  intro β hs;refine⟨β,⟨fun t=>h t _ _ _ _ (hs.e t),⟨fun i r hi=>?_,hs.m.inj,hs.m.lt,hs.m.nf,hs.m.fb⟩,hs.n⟩,⟨Step.refl β w,bc _,fun _ _ h=>h,rfl,rfl⟩⟩;rcases fa i with h1|⟨cs,cs',e,h1,h2,U,X⟩
  .exact hs.m.row i r (h1.symm.trans hi)
  .simp only at hi;rw[h2] at hi;cases hi;obtain⟨p,hp,hr⟩:=hs.m.row i _ h1;exact⟨p,hp,Z' U X hr⟩
 |freeze env m nx i cs e h=>
  intro β hs;exact N2 h hs fun hr=>PU hs.m h rfl hr
 |Ce env m nx i es h=>
  intro β hs;exact N2 h hs fun hr=>Z9 hs.m h rfl hr
 |sd env m nx t e h=>
  intro β hs;have hm:=hs.m;have hn:β nx=none:=hs.n nx (bc _);simp only at hm
  have C:∀ j q b,up β nx (some .nil) j=some q->q.bG=some b->j≠nx/\β j=some q:=fun j q b hq e=>by
   by_cases hj:j=nx
   .subst hj;rw[al] at hq;cases hq;simp[Pl.bG] at e
   .rw[aB _ _ hj] at hq;exact⟨hj,hq⟩
  have M:Step β w (up β nx (some .nil)) w:=by
   refine⟨bc _,fun b _ hf=>⟨rfl,fun j q hq e1=>?_⟩,fun j q hq=>.inl ?_,rfl,rfl⟩
   .exact hf j q (C j q b hq e1).2 e1
   .rw[aB _ _ (fun e1=>by rw[e1,hn] at hq;cases hq)];exact hq
  refine⟨up β nx (some .nil),⟨fun u=>?_,⟨fun j r hj=>?_,fun j k q q' b hq fm e1 e2=>hm.inj j k q q' b (C j q b hq e1).2 (C k q' b fm e2).2 e1 e2,
   fun j q b hq e1=>hm.lt j q b (C j q b hq e1).2 e1,fun j q b hq e1=>hm.nf j q b (C j q b hq e1).2 e1,hm.fb⟩,fun j hj=>?_⟩,⟨M,Nat.le_succ _,fun j hj hb=>?_,rfl,rfl⟩⟩
  .by_cases hu:u=t
   .subst hu;have h1:=hs.e u;simp only at h1;rw[h] at h1;obtain⟨x,hx⟩:=h1.tY;simp only[al,hx];exact .iO nx x (al _ _ _)
   .simp only[aB _ _ hu];exact(hs.e u).step M
  .simp only at hj;by_cases J:j=nx
   .subst J;rw[al] at hj;cases hj;exact⟨.nil,al _ _ _,.nil e⟩
   .rw[aB _ _ J] at hj;obtain⟨q,hq,aq⟩:=hm.row j r hj;exact⟨q,by rw[aB _ _ J];exact hq,aq.step M fun _ _=>rfl⟩
  .simp only at hj;rw[aB _ _ (show j≠nx by omega)];exact hs.n j (by simp only;omega)
  .simp only at hj;rw[aB _ _ (show j≠nx by omega)];exact hb
def gA(N:Nat):Code->Bool
 | .region _ ops _=>vF N ops
 | .seq a b=>gA N a&&gA N b
 | .cond _ a b=>gA N a&&gA N b
 | .block _ b=>gA N b
 | .loop b=>gA N b
 | .scope b=>gA N b
 | .rangeFunc _ ps a b=>(ps.toList.all fun t=>Nat.blt t N)&&(gA N a&&gA N b)
 |_=>true
theorem Wq{Fc:Fence}{n:Nat}{Q:Exit->Act->World->Prop}{c:Code}(J:Nat->Act->World->Prop){j₀:Nat}{a:Act}{w:World}(h₀:J j₀ a w)
 (round:∀ j a w,J j a w->c.wpIn Fc n P (Exit.then (fun a' w'=>∃ X,X<j/\J X a' w') Q) a w):(Code.loop c).wpIn Fc n P Q a w:=by
 intro b k cs Ba hb hr
 have key:∀ j a w,J j a w->
  ∃ e a' w',Q e a' w'/\ArrivesIn (Machine.fenced P Fc) P (lone (b.atR a (.code c::.inLoop c::k)) cs w) b k cs e a' w':=by
  intro j
  induction j using Nat.strongRecOn with
  |_ j ih=>
   intro a w hI;obtain⟨e,M,U,hq,C⟩:=round j a w hI b (.inLoop c::k) cs Ba hb hr;cases e with
   |normal=>
    obtain⟨X,ah,hI₁⟩:=hq;obtain⟨e₂,a₂,w₂,hq₂,adU⟩:=ih X ah M U hI₁;exact⟨e₂,a₂,w₂,hq₂,.of_steps (StepsIn.trans C (.one (fenced_calm hb hr rfl) stepR_inLoop)) adU⟩
   |exit id=>exact⟨_,M,U,hq,.pass (x:=.inLoop c) rfl (fun _ _=>.inl oS) C⟩
   |goto l=>exact⟨_,M,U,hq,.pass (x:=.inLoop c) rfl (fun _ _=>.inl oS) C⟩
   |ret=>exact⟨_,M,U,hq,.pass (x:=.inLoop c) rfl (fun _ _=>.inl oS) C⟩
   |panic ch=>exact⟨_,M,U,hq,.pass (x:=.inLoop c) rfl (fun _ _=>.inl oS) C⟩
   |outgrown=>exact⟨_,M,U,hq,.pass (x:=.inLoop c) rfl (fun _ _=>.inl oS) C⟩
 obtain⟨e,a',w',hq,C⟩:=key _ a w h₀;exact⟨e,a',w',hq,.of_steps (.one (fenced_calm hb hr rfl) stepR_loop) C⟩
def mark(b:Nat):Deferred:={ target:=.collected b,args:= #[] }
def Marks(β:aE)(w:World)(lo:Nat):List Deferred->Nat->Prop
 |[],_=>True
 |d::ds,hi=>∃ b,d=mark b/\lo<=b/\b<hi/\w.heap[b]? =some (.deferred (some []))/\β.free b/\Marks β w lo ds b
theorem Marks.step{β β':aE}{w w':World}(hs:Step β w β' w'){lo:Nat}:∀ {ds:List Deferred} {hi:Nat},hi<=w.heap.size->Marks β w lo ds hi->Marks β' w' lo ds hi
 |[],_,_,_=>trivial
 |d::ds,hi,hle,⟨b,h1,h2,h3,h4,h5,h6⟩=>by
  obtain⟨C,J⟩:=hs.dd b oG h5;exact⟨b,h1,h2,h3,C.trans h4,J,Marks.step hs oG h6⟩
theorem Marks.mono{β:aE}{w:World}{lo hi C:Nat}(h:hi<=C):∀ {ds:List Deferred},Marks β w lo ds hi->Marks β w lo ds C
 |[],_=>trivial
 |_::_,⟨b,h1,h2,h3,h4⟩=>⟨b,h1,h2,oG,h4⟩
theorem Marks.append{β:aE}{w:World}{lo mid:Nat}(J:lo<=mid){C:List Deferred}:∀ {ds:List Deferred} {hi:Nat},mid<=hi->Marks β w mid ds hi->Marks β w lo C mid->Marks β w lo (ds++C) hi
 |[],_,hle,_,h'=>Marks.mono hle h'
 |_::_,_,_,⟨b,h1,h2,h3,h4,h5,h6⟩,h'=>⟨b,h1,oG,h3,h4,h5,Marks.append J h2 h6 h'⟩
structure oE(N:Nat)(β:aE)(w:World)(a:Act)(st':St)(β':aE)(w':World)(a':Act):Prop where
 step:Step β w β' w'
 le:N<=st'.nx
 grow:∀ i,i<N->β i=none->β' i=none
 size:a'.tmps.size=a.tmps.size
 defers:∃ ds,a'.defers=ds++a.defers/\Marks β' w' w.heap.size ds w'.heap.size
theorem fX.yF{N:Nat}{β β':aE}{w w':World}{a a':Act}{st':St}(h:fX N β w a st' β' w' a'):oE N β w a st' β' w' a':=
 ⟨h.step,h.le,h.grow,h.size,[],h.defers,trivial⟩
theorem oE.trans{N:Nat}{β β₁ β₂:aE}{w X w₂:World}{a C J:Act}{M U:St}(h:oE N β w a M β₁ X C)(k:oE M.nx β₁ X C U β₂ w₂ J):oE N β w a U β₂ w₂ J:=by
 obtain⟨ds,e1,h1⟩:=h.defers;obtain⟨wz,e2,h2⟩:=k.defers
 exact⟨h.step.trans k.step,Nat.le_trans h.le k.le,fun i hi hn=>k.grow i (Nat.lt_of_lt_of_le hi h.le) (h.grow i hi hn),k.size.trans h.size,wz++ds,by rw[e2,e1,List.append_assoc],
  Marks.append h.step.size k.step.size h2 (h1.step k.step (bc _))⟩
theorem oE.since{N:Nat}{β β₁ β₂:aE}{w X w₂:World}{a C J:Act}{M U:St}(h:oE N β w a M β₁ X C)(k:fX M.nx β₁ X C U β₂ w₂ J):oE N β w a U β₂ w₂ J:=h.trans k.yF
def SE(P:Program)(F:Nat->Prop)(N:Nat)(β:aE)(w:World)(a:Act)(Q:Exit->St->Prop)(e:Exit)(a':Act)(w':World):Prop:=
 ∃ st' β',Q e st'/\ek P F st' β' w' a'/\oE N β w a st' β' w' a'
theorem ns.base{J:aE}{C:World}{β:aE}{w:World}(hs:Step J C β w){l:Nat}{args:List D}{m:Mem}{nx:Nat}{K:D->Mem->Nat->Prop}(h:ns P F J C l args m nx K):ns P F β w l args m nx K:=
 fun β' w' us M=>h β' w' us (hs.trans M)
theorem qD{β:aE}{i:Nat}{p:Option Pl}{b:Nat}(h:β.free b)(hp:∀ q,p=some q->q.bG≠some b):aE.free (up β i p) b:=fun j q hq=>by
 by_cases hj:j=i
 .subst hj;rw[al] at hq;exact hp q hq
 .rw[aB _ _ hj] at hq;exact h j q hq
theorem R.om{β:aE}{w:World}{l:Nat}(C:F l)(o:Obj){d:D}{v:Value}(h:R F β w d v):R F β (w.putObj l o) d v:=
 h.gen oS (fun b _ hb hf=>⟨tE (World.putObj_heap_other fun e=>hb (e▸C)),hf,hb⟩) fun _ _ _ h=>.inl h
theorem cB.om{β:aE}{w:World}{l:Nat}(C:F l)(o:Obj){r:Row}{p:Pl}(hp:∀ b,p.bG=some b->b≠l)(h:cB P F β w r p):cB P F β (w.putObj l o) r p:=
 h.gen oS (fun b _ hb hf=>⟨tE (World.putObj_heap_other fun e=>hb (e▸C)),hf,hb⟩) (fun _ _ _ h=>.inl h) fun b hb=>World.putObj_heap_other (hp b hb)
theorem aK.om{m:Mem}{β:aE}{w:World}{l:Nat}(C:F l)(J:∀ t∈uk,t.1≠l)(o:Obj)(h:aK P F m β w):aK P F m β (w.putObj l o):=
 ⟨fun i r hi=>by
  obtain⟨p,hp,hr⟩:=h.row i r hi
  exact⟨p,hp,hr.om C o fun b hb e=>h.nf i p b hp hb (e▸C)⟩,h.inj,fun i p b hp hb=>by simpa using h.lt i p b hp hb,h.nf,h.fb.next (fun b hb=>by simpa using h.fb.lt b hb) (fun _ h=>h) fun t ht _=>World.putObj_heap_other fun e=>J t ht e⟩
theorem ek.om{st:St}{β:aE}{w:World}{a:Act}{l:Nat}(C:F l)(J:∀ t∈uk,t.1≠l)(o:Obj)(h:ek P F st β w a):ek P F st β (w.putObj l o) a:=
 ⟨fun t=>(h.e t).om C o,h.m.om C J o,h.n⟩
theorem R.nD{F':Nat->Prop}(C:∀ b,F' b->F b){β:aE}{w:World}{d:D}{v:Value}(h:R F β w d v):R F' β w d v:=
 h.gen (bc _) (fun b _ hb hf=>⟨ku.refl w b,hf,fun e=>hb (C b e)⟩) fun _ _ _ h=>.inl h
theorem aK.nD{F':Nat->Prop}(C:∀ b,F' b->F b)(J:∀ t∈uk,F' t.1){m:Mem}{β:aE}{w:World}(h:aK P F m β w):aK P F' m β w:=
 ⟨fun i r hi=>by
  obtain⟨p,hp,hr⟩:=h.row i r hi
  exact⟨p,hp,hr.gen (bc _) (fun b _ hb hf=>⟨ku.refl w b,hf,fun e=>hb (C b e)⟩) (fun _ _ _ h=>.inl h) fun _ _=>rfl⟩,h.inj,h.lt,fun i p b hp hb e=>h.nf i p b hp hb (C b e),⟨fun b hb=>h.fb.lt b (C b hb),fun t ht=>⟨J t ht,(h.fb.ma t ht).2⟩⟩⟩
theorem I6{β:aE}{b:Nat}(h:¬ β.free b):∃ i p,β i=some p/\p.bG=some b:=by
 unfold aE.free at h;simp only[Classical.not_forall] at h;obtain⟨i,p,hp,hb⟩:=h;exact⟨i,p,hp,Decidable.not_not.1 hb⟩
structure View(il n₀:Nat)(f:Nat->Option Nat)(mc:Mem)(nc:Nat)(m:Mem)(nx:Nat):Prop where
 low:n₀<=nc
 lt:il<nx
 id:∀ i,i<n₀->f i=some i
 wC:∀ i,i<nc->∃ j,f i=some j/\j<nx/\j≠il
 out:∀ i,nc<=i->f i=none
 inj:∀ i i' j,f i=some j->f i'=some j->i=i'
 rows:∀ i r,mc i=some r->∃ j,f i=some j/\m j=some (r.lX f)
theorem View.lY{il n₀:Nat}{f:Nat->Option Nat}{mc:Mem}{nc:Nat}{m:Mem}{nx:Nat}(h:View il n₀ f mc nc m nx){i j:Nat}(hf:f i=some j):i<nc/\j<nx/\j≠il:=by
 rcases Nat.lt_or_ge i nc with ah|C
 .obtain⟨M,h1,h2,J⟩:=h.wC i ah;rw[hf] at h1;cases h1;exact⟨ah,h2,J⟩
 .rw[h.out i C] at hf;cases hf
theorem View.ext{il n₀:Nat}{f:Nat->Option Nat}{mc:Mem}{nc:Nat}{m m':Mem}{nx J:Nat}(h:View il n₀ f mc nc m nx)(C:nx<=J)(he:∀ i,i<nx->m' i=m i):View il n₀ f mc nc m' J:=
 ⟨h.low,Nat.lt_of_lt_of_le h.lt C,h.id,fun i hi=>by
  obtain⟨j,h1,h2,M⟩:=h.wC i hi;exact⟨j,h1,oG,M⟩,h.out,h.inj,fun i r hi=>by
  obtain⟨j,h1,h2⟩:=h.rows i r hi
  exact⟨j,h1,(he j (h.lY h1).2.1).trans h2⟩⟩
theorem YA{f:Nat->Option Nat}{m:Mem}{β:aE}{w:World}(hm:aK P F m β w){b:Nat}(h:hidden F β f b):b<w.heap.size:=by
 rcases h with h|⟨h,_⟩
 .exact hm.fb.lt b h
 .obtain⟨i,p,hp,hb⟩:=I6 h;exact hm.lt i p b hp hb
theorem View.enter{il n₀:Nat}{f:Nat->Option Nat}{mc:Mem}{nc:Nat}{m:Mem}{nx:Nat}(h:View il n₀ f mc nc m nx){β:aE}{w:World}(hm:aK P F m β w):
 aK P (hidden F β f) mc (β.via f) w/\∀ i,nc<=i->(β.via f) i=none:=by
 have look:∀ i p,(β.via f) i=some p->∃ j,f i=some j/\β j=some p:=fun i p hp=>Option.bind_eq_some_iff.1 hp;refine⟨⟨fun i r hi=>?_,fun i i' p q b hp hq e J=>?_,fun i p b hp e=>?_,fun i p b hp e C=>?_,hm.fb.next (fun b hb=>YA hm hb) (fun _ h=>.inl h) fun _ _ _=>rfl⟩,fun i hi=>?_⟩
 .obtain⟨j,h1,h2⟩:=h.rows i r hi;obtain⟨p,hp,hr⟩:=hm.row j _ h2;exact⟨p,by simp[aE.via,h1,hp],hr.seen⟩
 .obtain⟨j,h1,h2⟩:=look i p hp;obtain⟨X,M,U⟩:=look i' q hq;have:=hm.inj j X p q b h2 U e J;subst this;exact h.inj i i' j h1 M
 .obtain⟨j,h1,h2⟩:=look i p hp;exact hm.lt j p b h2 e
 .obtain⟨j,h1,h2⟩:=look i p hp;rcases C with C|⟨_,C⟩
  .exact hm.nf j p b h2 e C
  .exact C i p hp e
 .simp[aE.via,h.out i hi]
theorem aK.pT{m:Mem}{β:aE}{w:World}{i l:Nat}{o:Obj}(h:aK P F m β w)(hm:m i=some (.raw l o)):β i=some (.raw l)/\w.heap[l]? =some o/\¬ F l/\l<w.heap.size:=by
 obtain⟨p,hp,hr⟩:=h.row i _ hm;cases hr with
 |raw _ _ hc=>exact⟨hp,hc,h.nf i _ l hp rfl,h.lt i _ l hp rfl⟩
theorem View.vj{il n₀:Nat}{f:Nat->Option Nat}{mc:Mem}{nc:Nat}{m:Mem}{nx:Nat}(h:View il n₀ f mc nc m nx){β:aE}{w:World}(hm:aK P F m β w){j:Nat}{p:Pl}{b:Nat}(hj:∀ i,f i≠some j)(hp:β j=some p)(hb:p.bG=some b):
 (β.via f).free b/\hidden F β f b:=by
 have C:(β.via f).free b:=fun i q hq e=>by
  obtain⟨J,h1,h2⟩:=Option.bind_eq_some_iff.1 hq;exact hj i (hm.inj J j q p b h2 hp e hb▸h1)
 exact⟨C,.inr ⟨fun e=>e j p hp hb,C⟩⟩
structure pc(l:Nat)(β:aE)(w:World)(β':aE)(w':World):Prop where
 size:w.heap.size<=w'.heap.size
 dd:∀ b,b<w.heap.size->b≠l->β.free b->w'.heap[b]? =w.heap[b]? /\β'.free b
 keep:∀ i p,β i=some p->β' i=some p\/β' i=some .dead
 out:Out w w'
theorem Step.x{β β':aE}{w w':World}(h:Step β w β' w')(l:Nat):pc l β w β' w':=⟨h.size,fun b hb _=>h.dd b hb,h.keep,h.out⟩
theorem pc.trans{l:Nat}{X β₂ β₃:aE}{J M U:World}(h:pc l X J β₂ M)(k:pc l β₂ M β₃ U):pc l X J β₃ U:=by
 refine⟨Nat.le_trans h.size k.size,fun b hb C hf=>?_,fun i p hp=>?_,h.out.trans k.out⟩
 .obtain⟨h1,h2⟩:=h.dd b hb C hf;obtain⟨k1,k2⟩:=k.dd b (Nat.lt_of_lt_of_le hb h.size) C h2;exact⟨k1.trans h1,k2⟩
 .rcases h.keep i p hp with h1|h1
  .exact k.keep i p h1
  .right;rcases k.keep i _ h1 with h2|h2<;>exact h2
theorem pc.put(l:Nat)(β:aE)(w:World)(o:Obj):pc l β w β (w.putObj l o):=⟨oS,fun b _ C hf=>⟨World.putObj_heap_other C,hf⟩,fun _ _ h=>.inl h,rfl,rfl⟩
theorem EE{n j:Nat}{f:Nat->Option Nat}(C:∀ i i' j,f i=some j->f i'=some j->i=i'):
 (∀ i,(range n).find? (fun i=>f i==some j)=some i->f i=some j/\i<n)/\(∀ i,i<n->f i=some j->(range n).find? (fun i=>f i==some j)=some i):=by
 refine⟨fun i hi=>⟨by simpa using List.find?_some hi,by simpa using List.mem_of_find?_eq_some hi⟩,fun i hi hf=>?_⟩;cases h:(range n).find? (fun i=>f i==some j) with
 |none=>
  have:=List.find?_eq_none.1 h i (by simpa using hi);simp[hf] at this
 |some k=>rw[C i k j hf (by simpa using List.find?_some h)]
theorem View.adV{il n₀:Nat}{f:Nat->Option Nat}{mc:Mem}{nc:Nat}{m:Mem}{nx:Nat}(h:View il n₀ f mc nc m nx){β:aE}{w:World}(hm:aK P F m β w)(hn:∀ i,nx<=i->β i=none){l:Nat}{o o':Obj}(hl:m il=some (.raw l o))
 {m':Mem} {J:Nat} {β':aE} {w':World} (fC:aK P (hidden F β f) m' β' w') (hs:pc l (β.via f) w β' w') (ic:∀ i,J<=i->β' i=none) (hle:nc<=J) (hg:∀ i,i<nc->(β.via f) i=none->β' i=none) (ho:w'.heap[l]? =some o'):
 ∃ f' M gJ C,View il n₀ f' m' J M gJ/\M il=some (.raw l o')/\aK P F M C w'/\(∀ i,gJ<=i->C i=none)/\Step β w C w'/\nx<=gJ/\∀ i,i<nx->β i=none->C i=none:=by
 obtain⟨yG,rv,DK,ah⟩:=hm.pT hl
 let f':Nat->Option Nat:=fun i=>if i<nc then f i else if i<J then some (nx+(i - nc)) else none
 have qX:∀ i,i<nc->f' i=f i:=fun i hi=>by simp[f',hi]
 have xM:∀ i,nc<=i->i<J->f' i=some (nx+(i - nc)):=fun i h1 h2=>by simp[f',h2,Nat.not_lt.2 h1]
 have CN:∀ i,J<=i->f' i=none:=fun i h1=>by simp[f',Nat.not_lt.2 h1,Nat.not_lt.2 (Nat.le_trans hle h1)]
 have lB:∀ i j,f' i=some j->(f i=some j/\i<nc/\j<nx)\/(nc<=i/\i<J/\j=nx+(i - nc)):=fun i j hf=>by
  rcases Nat.lt_or_ge i nc with h1|h1
  .rw[qX i h1] at hf;exact .inl ⟨hf,h.lY hf |>.1,(h.lY hf).2.1⟩
  .rcases Nat.lt_or_ge i J with h2|h2
   .rw[xM i h1 h2] at hf;cases hf;exact .inr ⟨h1,h2,rfl⟩
   .rw[CN i h2] at hf;cases hf
 have xN:∀ i i' j,f' i=some j->f' i'=some j->i=i':=fun i i' j h1 h2=>by
  rcases lB i j h1 with⟨a1,a2,a3⟩|⟨a1,a2,a3⟩<;>rcases lB i' j h2 with⟨b1,b2,b3⟩|⟨b1,b2,b3⟩
  .exact h.inj i i' j a1 b1
  .omega
  .omega
  .omega
 let inv:Nat->Option Nat:=fun j=>(range J).find? fun i=>f' i==some j
 have mF:∀ i j,inv j=some i->f' i=some j:=fun i j hi=>((EE xN).1 i hi).1;have yj:∀ i j,f' i=some j->inv j=some i:=fun i j hf=>(EE xN).2 i (by rcases lB i j hf with h1|h1<;>omega) hf
 have Ld:∀ j,inv j=none->∀ i,f i≠some j:=fun j hj i hf=>by
  have:=yj i j (by rw[qX i (h.lY hf).1];exact hf);rw[hj] at this;cases this
 let C:aE:=fun j=>match inv j with|some i=>β' i|none=>β j
 let M:Mem:=fun j=>match inv j with|some i=>(m' i).map (Row.lX f')|none=>if j=il then some (.raw l o') else m j
 have βs:∀ i j,f' i=some j->C j=β' i:=fun i j hf=>by simp[C,yj i j hf]
 have βn:∀ j,inv j=none->C j=β j:=fun j hj=>by simp[C,hj]
 have J8:inv il=none:=by
  cases hi:inv il with
  |none=>rfl
  |some i=>
   rcases lB i il (mF i il hi) with⟨a1,a2,a3⟩|⟨a1,a2,a3⟩
   .exact absurd rfl (h.lY a1).2.2
   .have:=h.lt;omega
 have via:C.via f'=β':=by
  funext i;simp only[aE.via];cases hf:f' i with
  |some j=>exact βs i j hf
  |none=>
   rcases Nat.lt_or_ge i J with h1|h1
   .rcases Nat.lt_or_ge i nc with h2|h2
    .obtain⟨j,h3,_⟩:=h.wC i h2;rw[qX i h2,h3] at hf;cases hf
    .rw[xM i h2 h1] at hf;cases hf
   .exact(ic i h1).symm
 have look:∀ j p,C j=some p->(∃ i,inv j=some i/\f' i=some j/\β' i=some p)\/(inv j=none/\β j=some p):=fun j p hp=>by
  cases hi:inv j with
  |some i=>exact .inl ⟨i,rfl,mF i j hi,by rw[<- βs i j (mF i j hi)];exact hp⟩
  |none=>exact .inr ⟨rfl,by rw[<- βn j hi];exact hp⟩
 have Le:∀ b,β.free b->b≠l:=fun b hb e=>hb il _ yG (e▸rfl)
 have dd:∀ b,b<w.heap.size->β.free b->w'.heap[b]? =w.heap[b]? /\C.free b:=fun b hb hf=>by
  obtain⟨h1,h2⟩:=hs.dd b hb (Le b hf) (aE.oZ hf f);refine⟨h1,fun j p hp=>?_⟩;rcases look j p hp with⟨i,_,_,U⟩|⟨_,U⟩
  .exact h2 i p U
  .exact hf j p U
 have keep:∀ j p,β j=some p->C j=some p\/C j=some .dead:=fun j p hp=>by
  cases hi:inv j with
  |none=>exact .inl ((βn j hi).trans hp)
  |some i=>
   have hf:=mF i j hi;rw[βs i j hf];rcases lB i j hf with⟨a1,a2,a3⟩|⟨a1,a2,a3⟩
   .exact hs.keep i p (by simp[aE.via,a1,hp])
   .rw[hn j oG] at hp;cases hp
 have X:∀ j p b,inv j=none->β j=some p->p.bG=some b->hidden F β f b/\(b≠l->b<w.heap.size/\w'.heap[b]? =w.heap[b]?):=fun j p b hj hp hb=>by
  obtain⟨h1,h2⟩:=h.vj hm (Ld j hj) hp hb;exact⟨h2,fun aG=>⟨hm.lt j p b hp hb,(hs.dd b (hm.lt j p b hp hb) aG h1).1⟩⟩
 refine⟨f',M,nx+(J - nc),C,⟨Nat.le_trans h.low hle,by have:=h.lt;omega,fun i hi=>?_,fun i hi=>?_,CN,xN,fun i r hi=>?_⟩,?_,⟨fun j r hj=>?_,fun i j p q b hp hq e e'=>?_,fun j p b hp e=>?_,fun j p b hp e hF=>?_,?_⟩,fun i hi=>?_,⟨hs.size,dd,keep,hs.out⟩,oG,fun i hi hb=>?_⟩
 .rw[qX i (Nat.lt_of_lt_of_le hi h.low)];exact h.id i hi
 .rcases Nat.lt_or_ge i nc with h1|h1
  .obtain⟨j,h2,h3,U⟩:=h.wC i h1;exact⟨j,by rw[qX i h1];exact h2,oG,U⟩
  .exact⟨_,xM i h1 hi,oG,by have:=h.lt;omega⟩
 .obtain⟨p,hp,_⟩:=fC.row i r hi
  have:∃ j,f' i=some j:=by
   rw[<- via] at hp;obtain⟨j,h1,_⟩:=Option.bind_eq_some_iff.1 hp;exact⟨j,h1⟩
  obtain⟨j,hj⟩:=this;exact⟨j,hj,by simp[M,yj i j hj,hi]⟩
 .simp[M,J8]
 .cases hi:inv j with
  |some i=>
   simp only[M,hi,cU] at hj;obtain⟨r0,wD,rfl⟩:=hj;obtain⟨p,hp,hr⟩:=fC.row i r0 wD;refine⟨p,(βs i j (mF i j hi)).trans hp,cB.GY (F':=hidden F β f) (by rw[via];exact hr) (fun b hb=>.inl hb) fun b g1 g2=>?_⟩;obtain⟨k,q,hq,yH⟩:=I6 g1;rcases look k q hq with⟨i',_,_,U⟩|⟨h3,U⟩
   .exact absurd yH (g2 i' q (by rw[via];exact U))
   .exact(X k q b h3 U yH).1
  |none=>
   simp only[M,hi] at hj;split at hj
   .rename_i e;subst e;cases hj;exact⟨.raw l,(βn j hi).trans yG,.raw l o' ho⟩
   .rename_i aG;obtain⟨p,hp,hr⟩:=hm.row j r hj;refine⟨p,(βn j hi).trans hp,hr.gen hs.size (fun b hb g1 g2=>⟨tE (dd b hb g2).1,(dd b hb g2).2,g1⟩) (fun i p _=>keep i p) fun b hb=>?_⟩;exact((X j p b hi hp hb).2 fun e=>aG (hm.inj j il p _ b hp yG hb (e▸rfl))).2
 .rcases look i p hp with⟨i',a1,a2,a3⟩|⟨a1,a2⟩<;>rcases look j q hq with⟨j',b1,b2,b3⟩|⟨b1,b2⟩
  .have:=fC.inj i' j' p q b a3 b3 e e';subst this;rw[a2] at b2;cases b2;rfl
  .exact absurd (X j q b b1 b2 e').1 (fC.nf i' p b a3 e)
  .exact absurd (X i p b a1 a2 e).1 (fC.nf j' q b b3 e')
  .exact hm.inj i j p q b a2 b2 e e'
 .rcases look j p hp with⟨i',a1,a2,a3⟩|⟨a1,a2⟩
  .exact fC.lt i' p b a3 e
  .exact Nat.lt_of_lt_of_le (hm.lt j p b a2 e) hs.size
 .rcases look j p hp with⟨i',a1,a2,a3⟩|⟨a1,a2⟩
  .exact fC.nf i' p b a3 e (.inl hF)
  .exact hm.nf j p b a2 e hF
 .exact hm.fb.next (fun b hb=>Nat.lt_of_lt_of_le (hm.fb.lt b hb) hs.size) (fun _ h=>h) fun t _ hF=>(dd _ (hm.fb.lt _ hF) fun i p hp e=>hm.nf i p _ hp e hF).1
 .cases cx:inv i with
  |none=>exact(βn i cx).trans (hn i oG)
  |some i0=>
   rcases lB i0 i (mF i0 i cx) with⟨a1,a2,a3⟩|⟨a1,a2,a3⟩<;>omega
 .cases cx:inv i with
  |none=>exact(βn i cx).trans hb
  |some i0=>
   have hf:=mF i0 i cx;rw[βs i0 i hf];rcases lB i0 i hf with⟨a1,a2,a3⟩|⟨a1,a2,a3⟩
   .exact hg i0 a2 (by simp[aE.via,a1,hb])
   .omega
theorem Ip{β:aE}{w:World}:∀ (ts:List Tmp) (ds:List D) (vs:List Value) (env:Env) (tmps:Array Value),vs.length=ds.length->(∀ (k:Nat) (d:D) (v:Value),ds[k]? =some d->vs[k]? =some v->R F β w d v)->
 (∀ t,t∈ts->t<tmps.size)->gI F β w env { tmps:=tmps,defers:=[] }->
 gI F β w (nj env ts ds) { tmps:=(ts.zip vs).foldl (fun tmps (t,a)=>tmps.setIfInBounds t a) tmps,defers:=[] }/\((ts.zip vs).foldl (fun tmps (t,a)=>tmps.setIfInBounds t a) tmps).size=tmps.size
 |[],_,_,env,tmps,_,_,_,h=>by simpa[nj] using h
 |_::_,[],[],env,tmps,_,_,_,h=>by simpa[nj] using h
 |_::_,[],_::_,_,_,hl,_,_,_=>by simp at hl
 |_::_,_::_,[],_,_,hl,_,_,_=>by simp at hl
 |t::ts,d::ds,v::vs,env,tmps,hl,hR,ah,h=>by
  have h1:gI F β w (up env t d) { tmps:=tmps.setIfInBounds t v,defers:=[] }:=by
   have:=h.put (some t) d v (hR 0 d v rfl rfl) (fun u hu=>by cases hu;exact ah t oS);simpa[Act.put,up] using this
  have:=Ip ts ds vs (up env t d) (tmps.setIfInBounds t v) (by simpa using hl) (fun k d v hd hv=>hR (k+1) d v (by simpa using hd) (by simpa using hv)) (fun u hu=>by simpa using ah u (by simp[hu])) h1;simp only[nj,List.zip_cons_cons,List.foldl_cons];exact⟨this.1,by rw[this.2];simp⟩
theorem BM{c:Code}{b:Frame}{a:Act}{k:List Item}{cs:List Frame}{w:World}:step P (lone (b.atR a (.code (.scope c)::k)) cs w)=.next (lone (b.atR a (.code c::.inScope c::k)) cs w):=
 step_lone_go (by simp[stepG,stepG.exec,Frame.atR])
theorem Wr{c:Code}{b:Frame}{a:Act}{k:List Item}{cs:List Frame}{w:World}:step P (lone (b.atR a (.inScope c::k)) cs w)=.next (lone (b.atR a k) cs w):=
 step_lone_go (by simp[stepG,stepG.exec,Frame.atR])
theorem Ep{I:Machine->Prop}{m:Machine}{b:Frame}{c:Code}{k:List Item}{cs:List Frame}{e:Exit}{a:Act}{w:World}
 (hn:e≠ .normal) (hg:∀ l,e≠ .goto l) (h:ArrivesIn I P m b (.inScope c::k) cs e a w):ArrivesIn I P m b k cs e a w:=by
 cases e with
 |normal=>exact absurd rfl hn
 |exit id=>exact⟨fun k' hk=>h.1 k' (by simp[exitTo,hk]),fun hr hk=>h.2 hr (by simp[exitTo,hk])⟩
 |goto l=>exact absurd rfl (hg l)
 |ret=>exact h
 |panic chain=>exact h
 |outgrown=>exact h
theorem Xu{U:Fence}{n:Nat}{Q:Exit->Act->World->Prop}{a:Act}{w:World}{c:Code}(h:c.wpIn U n P (Exit.noGoto Q) a w):(Code.scope c).wpIn U n P Q a w:=by
 intro b k cs X hb hr;have h0:(lone (b.atR a (.code (.scope c)::k)) cs w).fenced P U:=fenced_calm hb hr rfl;obtain⟨e,C,M,hq,J⟩:=h b (.inScope c::k) cs X hb hr;cases e with
 |normal=>exact⟨.normal,C,M,hq,.head h0 BM (StepsIn.trans J (.one (fenced_calm hb hr rfl) Wr))⟩
 |goto l=>exact hq.elim
 |exit id=>exact⟨.exit id,C,M,hq,.of_steps (.one h0 BM) (Ep (c:=c) oS oS J)⟩
 |ret=>exact⟨.ret,C,M,hq,.of_steps (.one h0 BM) (Ep (c:=c) oS oS J)⟩
 |panic ch=>exact⟨.panic ch,C,M,hq,.of_steps (.one h0 BM) (Ep (c:=c) oS oS J)⟩
 |outgrown=>exact⟨.outgrown,C,M,hq,.of_steps (.one h0 BM) (Ep (c:=c) oS oS J)⟩
def Jump(env:Env)(Q:Exit->St->Prop):Code->Mem->Nat->Prop
 | .ret,m,nx=>Q .ret ⟨env,m,nx⟩
 | .exit id,m,nx=>Q (.exit id) ⟨env,m,nx⟩
 |_,_,_=>False
def vu(il l:Nat)(n₀:Nat)(o:Obj)(I:Mem->Nat->Prop)(m:Mem)(nx:Nat):Prop:=∃ f mc nc,View il n₀ f mc nc m nx/\m il=some (.raw l o)/\I mc nc
theorem vu.closed{il l n₀:Nat}{o:Obj}{I:Mem->Nat->Prop}:se (vu il l n₀ o I):=by
 rintro m nx m' M ⟨f,mc,nc,h1,h2,J⟩ C he;exact⟨f,mc,nc,h1.ext C he,(he il h1.lt).trans h2,J⟩
theorem Pc(ps:Array Tmp)(us:Array Value)(tmps:Array Value):
 (ps.zip us).foldl (fun tmps (t,a)=>tmps.setIfInBounds t a) tmps=(ps.toList.zip us.toList).foldl (fun tmps (t,a)=>tmps.setIfInBounds t a) tmps:=by
 rw[<- Array.foldl_toList];simp
theorem NR{β:aE}{w:World}{a:Act}{g:Operand}{f:FuncId}{fs cs:List D}(C:R F β w (.fn (.func f) fs cs) (a.eval g))(he:n3 P f=true)(l:Nat)(w':World):
 ∃ (us vs:List Value) (d:Deferred),us.length=fs.length/\vs.length=cs.length/\(∀ (k:Nat) (d:D) (v:Value),fs[k]? =some d->us[k]? =some v->R F β w d v)/\(∀ (k:Nat) (d:D) (v:Value),cs[k]? =some d->vs[k]? =some v->R F β w d v)/\
  (resolve a.eval (rangeCall g l) 0).run P w'=.ok d w'/\(invoke d.target d.args).run P w'=.ok (.enter f (us.toArray++ #[.func (.yield l) #[] #[]]++vs.toArray)) w':=by
 generalize hv:a.eval g=v at C;cases C with
 |fn _ _ _ us vs hl ll hh J=>
 refine⟨us,vs,{ target:=.fn (.func f) vs.toArray,args:=us.toArray++ #[.func (.yield l) #[] #[]] },hl,ll,hh,J,?_,?_⟩
 .simp only[resolve,hv,Sem.run_bind,Deferred.ofValue];simp[go_sem]
 .simp only[invoke];unfold callFunc;unfold n3 at he;simp only[Sem.run_bind,run_program,Result.andThen_ok];split at he
  .rename_i fn U;simp only[ba,Bool.not_eq_true'] at he
   have hb:fn.body.isNone=false:=by
    cases M:fn.body<;>simp_all
   rw[U];simp only[he.1,hb,Bool.false_eq_true,if_false,Sem.run_pure]
  .cases he
theorem Rs.append{β:aE}{w:World}{aS bs:List D}{xs ys:Array Value}(h:Rs F β w aS xs)(k:Rs F β w bs ys):Rs F β w (aS++bs) (xs++ys):=by
 refine⟨by simp[h.1,k.1],fun j d v hd hv=>?_⟩;rcases Nat.lt_or_ge j aS.length with hj|hj
 .rw[List.getElem?_append_left hj] at hd;rw[Array.getElem?_append_left (by rw[h.1];exact hj)] at hv;exact h.2 j d v hd hv
 .rw[List.getElem?_append_right hj] at hd;rw[Array.getElem?_append_right (by rw[h.1];exact hj),h.1] at hv;exact k.2 _ d v hd hv
theorem ER(gW:P.follows .mixedOrders=true):∀ (c:Code) (F:Nat->Prop) (r:Option Nat) (n:Nat) (Y:eb) (rf:Bool) (N₀:Nat) (β₀:aE) (w₀:World) (a₀:Act),(rf=true->r=none)->
 (∀ l args m nx K,Y l args m nx K->ns P F β₀ w₀ l args m nx K)->gA a₀.tmps.size c=true->∀ (Q:Exit->St->Prop) (st:St) (β:aE) (w:World) (a:Act),
 AW P Y rf c Q st->ek P F st β w a->oE N₀ β₀ w₀ a₀ st β w a->c.wpIn (Fe r) n P (SE P F N₀ β₀ w₀ a₀ Q) a w:=by
 intro c
 induction c with
 |skip=>exact fun F r n Y rf N₀ β₀ w₀ a₀ X U _ Q st β w a h hs J=>wpIn_skip ⟨st,β,h,hs,J⟩
 |ret=>exact fun F r n Y rf N₀ β₀ w₀ a₀ X U _ Q st β w a h hs J=>wpIn_ret ⟨st,β,h,hs,J⟩
 |exit id=>exact fun F r n Y rf N₀ β₀ w₀ a₀ X U _ Q st β w a h hs J=>wpIn_exit ⟨st,β,h,hs,J⟩
 |label l=>exact fun F r n Y rf N₀ β₀ w₀ a₀ X U _ Q st β w a h hs J=>wpIn_label ⟨st,β,h,hs,J⟩
 |region id ops draw=>
  intro F r n Y rf N₀ β₀ w₀ a₀ X U ah Q st β w a h hs J;have oq:vF a.tmps.size ops=true:=by rw[J.size];exact ah
  cases draw with
  |false=>
   refine wpIn_mono (WV (N:=st.nx) (β₀:=β) (w₀:=w) (a₀:=a) (fun l args m nx K hy=>(U l args m nx K hy).base J.step) oq h hs (fX.refl st β w a)) fun e a' w' hp=>?_;obtain⟨st',β',hq,cK,dK⟩:=hp;exact⟨st',β',hq,cK,J.since dK⟩
  |true=>
   simp only[AW] at h;split at h
   .rename_i cf jL;refine wpIn_mono (WW (N₀:=st.nx) (β₀:=β) (w₀:=w) (a₀:=a) gW jL oq h hs (fX.refl st β w a)) fun e a' w' hp=>?_;obtain⟨st',β',hq,cK,dK⟩:=hp;exact⟨st',β',hq,cK,J.since dK⟩
   .exact h.elim
 |seq x y Bb Bc=>
  intro F r n Y rf N₀ β₀ w₀ a₀ X U ah Q st β w a h hs J;simp only[gA,ba] at ah;refine wpIn_seq (wpIn_mono (Bb F r n Y rf N₀ β₀ w₀ a₀ X U ah.1 _ st β w a h hs J) fun e a' w' hp=>?_);obtain⟨st',β',hq,cK,dK⟩:=hp;cases e with
  |normal=>
   obtain⟨fK,hg,hy⟩:=hq;obtain⟨dS,pi,CO⟩:=Ij hg cK;exact Bc F r n Y rf N₀ β₀ w₀ a₀ X U ah.2 Q fK dS w' a' hy pi (dK.since CO)
  |_=>exact⟨st',β',hq,cK,dK⟩
 |cond c x y Bb Bc=>
  intro F r n Y rf N₀ β₀ w₀ a₀ X U ah Q st β w a h hs J;simp only[gA,ba] at ah;obtain⟨ha,h⟩:=h;have hR:=(hs.e.opd c).tD _ ha;split at h
  .rename_i t ht;rw[ht] at hR;exact wpIn_cond_split hR.cX.1 (fun e=>Bb F r n Y rf N₀ β₀ w₀ a₀ X U ah.1 Q st β w a (h.1 e) hs J) fun e=>Bc F r n Y rf N₀ β₀ w₀ a₀ X U ah.2 Q st β w a (h.2 e) hs J
  .rename_i ht;rw[ht] at hR;obtain⟨b,hb⟩:=hR.F5;exact wpIn_cond_split hb (fun _=>Bb F r n Y rf N₀ β₀ w₀ a₀ X U ah.1 Q st β w a h.1 hs J) fun _=>Bc F r n Y rf N₀ β₀ w₀ a₀ X U ah.2 Q st β w a h.2 hs J
  .exact h.elim
 |scope b ih=>
  intro F r n Y rf N₀ β₀ w₀ a₀ X U ah Q st β w a h hs J;refine Xu (wpIn_mono (ih F r n Y rf N₀ β₀ w₀ a₀ X U ah _ st β w a h hs J) fun e a' w' hp=>?_);obtain⟨st',β',hq,cK,dK⟩:=hp;cases e with
  |goto l=>exact hq.elim
  |_=>exact⟨st',β',hq,cK,dK⟩
 |block id b ih=>
  intro F r n Y rf N₀ β₀ w₀ a₀ X U ah Q st β w a h hs J;refine wpIn_block (wpIn_mono (ih F r n Y rf N₀ β₀ w₀ a₀ X U ah _ st β w a h hs J) fun e a' w' hp=>?_);obtain⟨st',β',hq,cK,dK⟩:=hp;cases e with
  |exit i=>
   simp only[fx] at hq;simp only[Exit.inBlock];split at hq
   .rename_i hi;rw[if_pos hi];exact⟨st',β',hq,cK,dK⟩
   .rename_i hi;rw[if_neg hi];exact⟨st',β',hq,cK,dK⟩
  |_=>exact⟨st',β',hq,cK,dK⟩
 |loop b ih=>
  intro F r n Y rf N₀ β₀ w₀ a₀ X U ah Q st β w a h hs J;obtain⟨I,μ,hI,tQ⟩:=h;refine Wq (fun j a w=>∃ st β,I st/\μ st=j/\ek P F st β w a/\oE N₀ β₀ w₀ a₀ st β w a) ⟨st,β,hI,rfl,hs,J⟩ ?_;rintro j a w ⟨st,β,hI,hμ,hs,J⟩;refine wpIn_mono (ih F r n Y rf N₀ β₀ w₀ a₀ X U ah _ st β w a (tQ st hI) hs J) fun e a' w' hp=>?_;obtain⟨st',β',hq,cK,dK⟩:=hp;cases e with
  |normal=>
   obtain⟨iu,hg,Hu,ag0⟩:=hq;obtain⟨dS,pi,CO⟩:=Ij hg cK;exact⟨μ iu,oG,iu,dS,Hu,rfl,pi,dK.since CO⟩
  |_=>exact⟨st',β',hq,cK,dK⟩
 |rangeFunc g ps assign body uC uD=>
  intro F r n Y rf N₀ β₀ w₀ a₀ X U ah Q st β w a h hs J;obtain⟨env,mem,nx⟩:=st;obtain⟨Lf,iI,f,fs,cs,xs,I,tZ,yk,xO,yI,tQ,xP⟩:=h;simp only at iI tZ yI tQ xP;have hr:=X Lf;subst hr;simp only[gA,ba,bV,Nat.blt_eq] at ah;obtain⟨ry,Lg,Lh⟩:=ah;have bC:a.tmps.size=a₀.tmps.size:=J.size;have hR:=(hs.e.opd g).tD _ iI;simp only[tZ] at hR;refine wpIn_rangeFunc fun fn ru=>?_;obtain⟨C,kz⟩:∃ C:LoopState->Option Code->Loop,C=fun st pe=>{ state:=st,pending:=pe,fn,tmps:=a.tmps,params:=ps,assign,body,defers:=w.heap.size }:=⟨_,rfl⟩
  obtain⟨W1,rz⟩:∃ W1,(w.alloc (.deferred (some []))).alloc (.loop (C .ready none))=W1:=⟨_,rfl⟩
  obtain⟨us,vs,d,yJ,oF,hu,hv,lZ,hinv⟩:=NR (P:=P) hR yk.1 (w.heap.size+1) W1;have hn:∀ i,nx<=i->β i=none:=hs.n;have uE:∀ t∈uk,t.1≠w.heap.size+1:=fun t ht e=>by have:=hs.m.fb.lt _ (hs.m.fb.ma t ht).1;omega
  have DK:¬ F (w.heap.size+1):=fun e=>by have:=hs.m.fb.lt _ e;omega
  let f₀:Nat->Option Nat:=fun i=>if i<nx then some i else none
  have Dk:β.via f₀=β:=by
   funext i;simp only[aE.via,f₀];split
   .rfl
   .exact(hn i oG).symm
  have kH:aK P F (fun i=>(mem i).map (Row.lX f₀)) β w:=⟨fun i r hi=>by
   simp only[cU] at hi;obtain⟨r0,h1,rfl⟩:=hi;obtain⟨p,hp,hr⟩:=hs.m.row i r0 h1
   exact⟨p,hp,cB.GY (F':=F) (by rw[Dk];exact hr) (fun _ h=>h) fun b g1 g2=>absurd (Dk▸g2) g1⟩,hs.m.inj,hs.m.lt,hs.m.nf,hs.m.fb⟩
  have uF:Step β w β (w.alloc (.deferred (some []))):=zJ oS fun b hb=>heap_alloc_old w _ hb;have iP:aK P F (fun i=>(mem i).map (Row.lX f₀)) β (w.alloc (.deferred (some []))):=kH.ext oS fun b hb=>heap_alloc_old w _ hb
  have Mg:aK P F (up (fun i=>(mem i).map (Row.lX f₀)) nx (some (.raw (w.heap.size+1) (.loop (C .ready none))))) (up β nx (some (.raw (w.heap.size+1)))) W1:=by
   rw[<- rz];refine iP.alloc (hn nx (bc _)) _ _ _ (fun b hb=>by simp only[Pl.bG,aH] at hb;simp;omega) (.raw _ _ ?_);have:=World.alloc_heap_new (w.alloc (.deferred (some []))) (.loop (C .ready none))
   rwa[World.size_alloc] at this
  have mO:Step β w (up β nx (some (.raw (w.heap.size+1)))) W1:=by
   rw[<- rz];exact uF.trans (zA iP _ (hn nx (bc _)) _ (fun b hb=>by simp only[Pl.bG,aH] at hb;simp;omega))
  have Mh:W1.heap[w.heap.size]? =some (.deferred (some [])):=by
   rw[<- rz];rw[heap_alloc_old _ _ oS];exact World.alloc_heap_new w _
  have Cu:aE.free (up β nx (some (.raw (w.heap.size+1)))) w.heap.size:=
   qD (fun i p hp e=>by have:=hs.m.lt i p _ hp e;omega) (by rintro q hq;cases hq;simp[Pl.bG])
  have ag1:W1.heap.size=w.heap.size+2:=by rw[<- rz];simp
  have Jz:∀ i,nx<=i->mem i=none:=fun i hi=>by
   cases hm:mem i with
   |none=>rfl
   |some row=>
    obtain⟨p,hp,_⟩:=hs.m.row i row hm;rw[hn i hi] at hp;cases hp
  have own:∀ {f:Nat->Option Nat} {mc:Mem} {nc:Nat} {m:Mem} {gL:Nat} {β2:aE} {w2:World},View nx nx f mc nc m gL->Step (up β nx (some (.raw (w.heap.size+1)))) W1 β2 w2->
   ∀ {d:D} {v:Value},R F β w d v->R (hidden F β2 f) (β2.via f) w2 d v:=fun {_ _ _ _ _ _ _} M c8 {d v} h=>by
   have yl:=mO.trans c8;refine h.gen yl.size (fun b hb hf kZ=>?_) fun i p _ hp=>?_
   .obtain⟨g1,g2⟩:=yl.dd b hb kZ;exact⟨tE g1,aE.oZ g2 _,fun e=>e.elim hf fun e=>e.1 g2⟩
   .have hi:i<nx:=by
     rcases Nat.lt_or_ge i nx with h1|h1
     .exact h1
     .rw[hn i h1] at hp;cases hp
    simp only[aE.via,M.id i hi,Option.bind_some];exact yl.keep i p hp
  refine⟨w.heap.size+1,[mark w.heap.size],W1,d,W1,f,_,W1,?_,lZ,fun f' _=>trivial,hinv,fun hd=>by simp at hd,I7 ?_⟩
  .rw[<- rz,kz];exact run_enterLoop_outer _ _ _ _ _
  refine(yk.2 F (w.heap.size+1) (fun k=>vu nx (w.heap.size+1) nx (.loop (C .ready none)) (I k)) (fun m k=>∃ c,vu nx (w.heap.size+1) nx (.loop (C .done (some c))) (Jump env Q c) m k)
   (up (fun i=>(mem i).map (Row.lX f₀)) nx (some (.raw (w.heap.size+1) (.loop (C .ready none))))) (nx+1) (up β nx (some (.raw (w.heap.size+1)))) W1 _ (fun k=>vu.closed) ?_ Mg ?_ ?_ ?_ ?_).mono ?_
  .rintro m k m' k' ⟨c,hc⟩ hle he;exact⟨c,vu.closed m k m' k' hc hle he⟩
  .intro i hi;rw[aB _ _ (show i≠nx by omega)];exact hn i oG
  .refine Rs.append (Rs.append ?_ ?_) ?_
   .exact⟨by simp[yJ],fun k d v hd hv=>(hu k d v hd (by simpa using hv)).step mO⟩
   .refine⟨rfl,fun k d v hd hv=>?_⟩;cases k with
    |zero=>
     simp only[List.getElem?_cons_zero,aH] at hd;simp only[List.getElem?_toArray,List.getElem?_cons_zero,aH] at hv;subst hd;subst hv;exact .fn _ [] [] [] [] rfl rfl oS oS
    |succ k=>simp at hd
   .exact⟨by simp[oF],fun k d v hd DL=>(hv k d v hd (by simpa using DL)).step mO⟩
  .rintro k x m k' hx ⟨g,mc,nc,M,eD,Mi⟩ β2 w2 uG Li ie Hv uH;obtain⟨DM,qY,_,ym⟩:=ie.pT eD;have Lj:uG.size=ps.size:=by rw[uH.1];exact(xO x (bz hx)).1
   have hy:=run_yield (P:=P) (args:=uG) qY (by rw[kz];exact Lj);simp only[kz,Pc] at hy;refine⟨fn,_,assign,body,hy,fun n'=>?_⟩;obtain⟨yK,j3⟩:=M.enter ie;have rA:hidden F β2 g (w.heap.size+1):=(M.vj ie (fun i e=>(M.lY e).2.2 rfl) DM rfl).2;have Cv:(β2.via g).free (w.heap.size+1):=(M.vj ie (fun i e=>(M.lY e).2.2 rfl) DM rfl).1;have Mj:gI (hidden F β2 g) (β2.via g) w2 env { tmps:=a.tmps,defers:=[] }:=fun t=>own M Li (hs.e t)
   obtain⟨Mk,Dl⟩:=Ip ps.toList x uG.toList env a.tmps (by simp[uH.1]) (fun j d v hd hv=>
    ((xO x (bz hx)).2 d (bz hd) F β2 w2 v (uH.2 j d v hd (by simpa using hv))).gen (bc _)
     (fun b _ hb _=>⟨ku.refl _ b,aE.oZ (u6 hb).2 _,fun e=>e.elim (u6 hb).1 fun e=>e.1 (u6 hb).2⟩) (fun i p _ hp=>by cases hp)) (fun t ht=>by rw[bC];exact ry t ht) Mj
   have Lk:=uC (hidden F β2 g) (some (w.heap.size+1)) n' cZ false nc (β2.via g) w2
    { tmps:=(ps.toList.zip uG.toList).foldl (fun tmps (t,a)=>tmps.setIfInBounds t a) a.tmps,defers:=[] } oS (fun _ _ _ _ _ h=>h.elim) (by show gA (Array.size _) assign=true;rw[Dl,bC];exact Lg) _ ⟨nj env ps.toList x,mc,nc⟩ (β2.via g) w2 _
    (tQ k mc nc x hx Mi) ⟨Mk,yK,j3⟩ (fX.refl ⟨nj env ps.toList x,mc,nc⟩ _ _ _).yF
   refine roundIn_of_wpIn trivial (wpIn_mono Lk fun e a3 w3 hp=>?_);obtain⟨iu,β3,yL,Bd,gu⟩:=hp;cases e with
   |normal=>
    have xQ:w.heap.size+1<w3.heap.size:=Nat.lt_of_lt_of_le ym gu.step.size;have Kz:w3.heap[w.heap.size+1]? =some (.loop (C .ready none)):=(gu.step.dd _ ym Cv).1.trans qY;refine⟨_,run_beginRound Kz (by rw[kz]),?_⟩;have Ll:=Bd.om (l:=w.heap.size+1) rA uE (.loop { C .ready none with state:=.busy });have KA:=uD (hidden F β2 g) (some (w.heap.size+1)) n' cZ false iu.nx β3 _ a3 oS (fun _ _ _ _ _ h=>h.elim) (by rw[gu.size];show gA (Array.size _) body=true;rw[Dl,bC];exact Lh) _ iu β3 _ a3 yL Ll (fX.refl iu _ _ _).yF;refine wpIn_mono KA fun e a4 w4 Ml=>?_;obtain⟨DN,β4,uI,DO,ql⟩:=Ml;have KB:w.heap.size+1<w4.heap.size:=Nat.lt_of_lt_of_le (by simpa using xQ) ql.step.size
    have KC:w4.heap[w.heap.size+1]? =some (.loop { C .ready none with state:=.busy }):=
     (ql.step.dd _ (by simpa using xQ) (gu.step.dd _ ym Cv).2).1.trans (World.putObj_heap_same xQ)
    have fin:∀ (jump:Option Code) (K:D->Mem->Nat->Prop),(∀ f' dL gJ,View nx nx f' DN.mem DN.nx dL gJ->dL nx=some (.raw (w.heap.size+1) (.loop (C (if jump.isNone then .ready else .done) jump)))->K (.s (.bool jump.isNone)) dL gJ)->
     ∃ v w',(Instr.endRound (w.heap.size+1) jump).run P w4=.ok v w'/\∃ v' d m' ao β',Ending.returned v=.returned v'/\K d m' ao/\aK P F m' β' w'/\(∀ i,ao<=i->β' i=none)/\R F β' w' d v'/\Step β2 w2 β' w'/\k'<=ao/\∀ i,i<k'->β2 i=none->β' i=none:=fun jump K hK=>by
     have di:=run_endRound (P:=P) jump KC;have e1:∀ s p,({ ({ C .ready none with state:=.busy }:Loop) with state:=s,pending:=p }:Loop)=C s p:=fun s p=>by rw[kz]
     rw[e1] at di
     obtain⟨f',dL,gJ,dS,v1,v2,v3,v4,v5,v6,v7⟩:=M.adV ie Hv eD (o':=.loop (C (if jump.isNone then .ready else .done) jump)) (DO.m.om rA uE _)
      (((gu.step.x _).trans (pc.put _ β3 w3 _)).trans ((ql.step.x _).trans (pc.put _ β4 w4 _))) DO.n (Nat.le_trans gu.le ql.le) (fun i hi hb=>ql.grow i (Nat.lt_of_lt_of_le hi gu.le) (gu.grow i hi hb)) (World.putObj_heap_same KB)
     exact⟨_,_,di,.bool jump.isNone,_,dL,gJ,dS,rfl,hK f' dL gJ v1 v2,v3,v4,.s _ rfl,v5,v6,v7⟩
    cases e with
    |normal=>exact fin none _ fun f' dL gJ v1 v2=>.inl ⟨rfl,f',_,_,v1,v2,uI⟩
    |ret=>exact fin (some .ret) _ fun f' dL gJ v1 v2=>.inr ⟨rfl,.ret,f',_,_,v1,v2,uI⟩
    |exit id=>exact fin (some (.exit id)) _ fun f' dL gJ v1 v2=>.inr ⟨rfl,.exit id,f',_,_,v1,v2,uI⟩
    |_=>exact uI.elim
   |_=>exact yL.elim
  .refine⟨f₀,mem,nx,⟨bc _,oG,fun i hi=>by simp[f₀,hi],fun i hi=>⟨i,by simp[f₀,hi],oG,oG⟩,fun i hi=>by simp[f₀,Nat.not_lt.2 hi],fun i i' j h1 h2=>?_,fun i r hi=>?_⟩,al _ _ _,yI⟩
   .simp only[f₀,Option.ite_none_right_eq_some,aH] at h1 h2;omega
   .have ah:i<nx:=by
     rcases Nat.lt_or_ge i nx with h1|h1
     .exact h1
     .rw[Jz i h1] at hi;cases hi
    exact⟨i,by simp[f₀,ah],by rw[aB _ _ (show i≠nx by omega),hi];rfl⟩
  .rintro e w6 ⟨v,d6,m6,Mm,β6,rfl,Dm,pv,hn6,_,kB,ag2,Lm⟩
   have fin:∀ {g:Nat->Option Nat} {mc:Mem} {nc:Nat} (o':Obj),View nx nx g mc nc m6 Mm->
    ek P F ⟨env,mc,nc⟩ (β6.via g) (w6.putObj (w.heap.size+1) o') { a with defers:=[mark w.heap.size]++a.defers }/\
    oE N₀ β₀ w₀ a₀ ⟨env,mc,nc⟩ (β6.via g) (w6.putObj (w.heap.size+1) o') { a with defers:=[mark w.heap.size]++a.defers }:=fun {g mc nc} o' M=>by
    obtain⟨yK,j3⟩:=M.enter pv
    have rA:hidden F β6 g (w.heap.size+1):=by
     have hβ:β6 nx=some (.raw (w.heap.size+1))\/β6 nx=some .dead:=kB.keep nx _ (al _ _ _);rcases hβ with hβ|hβ
     .exact(M.vj pv (fun i e=>(M.lY e).2.2 rfl) hβ rfl).2
     .exfalso;rcases Dm with⟨f',Mn,gq,_,yn,_⟩|⟨c,f',Mn,gq,_,yn,_⟩
      .rw[(pv.pT yn).1] at hβ;cases hβ
      .rw[(pv.pT yn).1] at hβ;cases hβ
    refine⟨⟨fun t=>((own M kB (hs.e t)).om rA o').nD fun b hb=>.inl hb,(yK.om rA uE o').nD (fun b hb=>.inl hb) fun t ht=>(hs.m.fb.ma t ht).1,j3⟩,J.trans ⟨⟨?_,fun b hb hf=>?_,fun i p hp=>?_,(mO.out.trans kB.out).trans ⟨rfl,rfl⟩⟩,M.low,fun i hi hb=>?_,rfl,[mark w.heap.size],rfl,?_⟩⟩
    .have:=kB.size;simp;omega
    .obtain⟨g1,g2⟩:=mO.dd b hb hf;obtain⟨g3,g4⟩:=kB.dd b oG g2;exact⟨(World.putObj_heap_other oG).trans (g3.trans g1),aE.oZ g4 _⟩
    .have hi:i<nx:=by
      rcases Nat.lt_or_ge i nx with h1|h1
      .exact h1
      .rw[hn i h1] at hp;cases hp
     simp only[aE.via,M.id i hi,Option.bind_some];exact(mO.trans kB).keep i p hp
    .have hi:i<nx:=hi;simp only[aE.via,M.id i hi,Option.bind_some];exact Lm i oG (by rw[aB _ _ oG];exact hb)
    .refine⟨w.heap.size,rfl,bc _,?_,?_,?_,trivial⟩
     .have:=kB.size;simp;omega
     .exact(World.putObj_heap_other oG).trans ((kB.dd _ oG Cu).1.trans Mh)
     .exact aE.oZ (kB.dd _ oG Cu).2 _
   rcases Dm with⟨g,mc,nc,M,eD,hI⟩|⟨c,g,mc,nc,M,eD,hj⟩
   .have di:(Instr.endLoop (w.heap.size+1)).run P w6=.ok none (w6.putObj (w.heap.size+1) (.loop (C .exhausted none))):=by
     have:=run_endLoop (P:=P) (pv.pT eD).2.1 (by rw[kz];simp);rw[kz] at this ⊢;exact this
    obtain⟨g1,g2⟩:=fin (.loop (C .exhausted none)) M;exact⟨none,_,di,⟨env,mc,nc⟩,_,xP mc nc hI,g1,g2⟩
   .have di:(Instr.endLoop (w.heap.size+1)).run P w6=.ok (some c) (w6.putObj (w.heap.size+1) (.loop (C .exhausted (some c)))):=by
     have:=run_endLoop (P:=P) (pv.pT eD).2.1 (by rw[kz];simp);rw[kz] at this ⊢;exact this
    obtain⟨g1,g2⟩:=fin (.loop (C .exhausted (some c))) M;refine⟨some c,_,di,?_⟩;cases c with
    |ret=>exact wpIn_ret ⟨⟨env,mc,nc⟩,_,hj,g1,g2⟩
    |exit id=>exact wpIn_exit ⟨⟨env,mc,nc⟩,_,hj,g1,g2⟩
    |_=>exact hj.elim
 |_=>intro F r n Y rf N₀ β₀ w₀ a₀ X U ah Q st β w a h;exact h.elim
end
section
variable{P:Program}{F:Nat->Prop}{fn:Func}
def AK(tmps:Array Value):ResultVar->Sem Value
 | .tmp t=>pure (tmps.getD t undef)
 | .cell x t=>do loadVar t (<- asAddr (tmps.getD x undef))
theorem Xx(fn:Func)(tmps:Array Value):results fn tmps=(do
 let vs<- fn.results.mapM (AK tmps)
 pure (if h:vs.size=1 then vs[0] else .tuple vs)):=by
 unfold results;congr 1
theorem abU{st:St}{β:aE}{w:World}{a:Act}(hs:ek P F st β w a){r:ResultVar}{p:Prop}{d:D}(h:nG P st r=some (p,d))(hp:p):
 ∃ v,(AK a.tmps r).run P w=.ok v w/\R F β w d v:=by
 unfold nG at h;split at h
 .cases h;exact⟨_,by simp[AK],hs.e _⟩
 .rename_i x t;have hx:=hs.e x;split at h
  .rename_i i off C;rw[C] at hx;split at h
   .rename_i cs e hm;cases h;obtain⟨b,o,room,sz,M,hv,aq⟩:=hx.Gb hs.m hm;obtain⟨u,hu,hr⟩:=Ev (P:=P) hp.1 (aq.rd.1.drop off) oP;refine⟨u,?_,hr⟩;simp only[AK,hv,Sem.run_bind];simp[asAddr,hu]
   .cases h
  .rename_i cs C;rw[C] at hx;cases h;obtain⟨b,o,hv,_,_,_,J⟩:=hx.Gc;obtain⟨u,hu,hr⟩:=Ev (P:=P) hp.1 J hp.2;refine⟨u,?_,hr⟩;simp only[AK,hv,Sem.run_bind];simp[asAddr,hu]
  .cases h
theorem PY{st:St}{β:aE}{w:World}{a:Act}(hs:ek P F st β w a){K:List D->Prop}:∀ (rs:List ResultVar) (acc:List D),nH P st rs acc K->
 ∃ vs ds,(rs.mapM (AK a.tmps)).run P w=.ok vs w/\vs.length=ds.length/\K (acc++ds)/\
  ∀ (k:Nat) (d:D) (v:Value),ds[k]? =some d->vs[k]? =some v->R F β w d v
 |[],acc,h=>⟨[],[],oS,rfl,by simpa[nH] using h,oS⟩
 |r::rs,acc,h=>by
  simp only[nH] at h;split at h
  .rename_i p d hr;obtain⟨v,h1,h2⟩:=abU hs hr h.1;obtain⟨vs,ds,C,J,M,U⟩:=PY hs rs _ h.2;refine⟨v::vs,d::ds,?_,by simp[J],by simpa using M,fun k d' X hd hv=>?_⟩
   .rw[List.mapM_cons];simp only[Sem.run_bind];rw[h1];simp only[Result.andThen_ok,Sem.run_bind];rw[C];simp
   .cases k with
    |zero=>simp at hd hv;subst hd;subst hv;exact h2
    |succ k=>exact U k d' X (by simpa using hd) (by simpa using hv)
  .exact h.elim
theorem N3{st:St}{β:aE}{w:World}{a:Act}(hs:ek P F st β w a){K:D->Prop}(h:nH P st fn.results.toList [] fun ds=>K (p7 ds)):
 ∃ v d,(results fn a.tmps).run P w=.ok v w/\K d/\R F β w d v:=by
 obtain⟨vs,ds,h1,h2,C,J⟩:=PY hs _ _ h;simp only[List.nil_append] at C;refine⟨if h:vs.toArray.size=1 then vs.toArray[0] else .tuple vs.toArray,p7 ds,?_,C,?_⟩
 .rw[Xx,Array.mapM_eq_mapM_toList];simp only[Sem.run_bind,map_eq_pure_bind,bind_assoc];rw[h1];simp
 .split
  .rename_i bC;simp only[List.size_toArray] at bC;obtain⟨v,rfl⟩:=List.length_eq_one_iff.1 bC;obtain⟨d,rfl⟩:=List.length_eq_one_iff.1 (show ds.length=1 by simpa using h2.symm);exact J 0 d v rfl rfl
  .rename_i bC;simp only[List.size_toArray] at bC
   have:p7 ds=.aM ds:=by
    unfold p7;split
    .rename_i d;simp at h2;exact absurd h2 bC
    .rfl
   rw[this];exact .aM ds vs h2 J
theorem Wt{w:World}{b:Nat}{x:Option (List Deferred)}(h:w.heap[b]? =some (.deferred x))(o:Nat):w.cell? ⟨b,o,none⟩=none:=by
 simp[World.cell?,h]
theorem R.PZ{w:World}{b:Nat}{x:Option (List Deferred)}(hb:w.heap[b]? =some (.deferred x))(o:Obj)(J:Nat):ku w (w.putObj b o) J:=by
 refine⟨fun k u hu=>?_,fun ms c hm=>?_⟩
 .have C:J≠b:=fun e=>by rw[e,Wt hb] at hu;cases hu
  exact(cell_of_heap (World.putObj_heap_other C)).trans hu
 .have C:J≠b:=fun e=>by rw[e,hb] at hm;cases hm
  exact(World.putObj_heap_other C).trans hm
theorem ek.fY{st:St}{β:aE}{w:World}{a:Act}{b:Nat}{x:Option (List Deferred)}(hb:w.heap[b]? =some (.deferred x))(hf:β.free b)(o:Obj)(h:ek P F st β w a):ek P F st β (w.putObj b o) a:=
 ⟨fun t=>(h.e t).gen oS (fun C _ h1 h2=>⟨R.PZ hb o C,h2,h1⟩) fun _ _ _ h=>.inl h,⟨fun i r hi=>by
  obtain⟨p,hp,hr⟩:=h.m.row i r hi;exact⟨p,hp,hr.gen oS (fun C _ h1 h2=>⟨R.PZ hb o C,h2,h1⟩) (fun _ _ _ h=>.inl h) fun c hc=>World.putObj_heap_other fun e=>hf i p hp (e▸hc)⟩,
  h.m.inj,fun i p c hp hc=>by simpa using h.m.lt i p c hp hc,h.m.nf,h.m.fb.next (fun c hc=>by simpa using h.m.fb.lt c hc) (fun _ h=>h) fun t ht _=>World.putObj_heap_other fun e=>abL (h.m.fb.ma t ht).2 x (by rw[e];exact hb)⟩,h.n⟩
theorem Marks.put{β:aE}{w:World}{lo b:Nat}(o:Obj):∀ {ds:List Deferred} {hi:Nat},hi<=b->Marks β w lo ds hi->Marks β (w.putObj b o) lo ds hi
 |[],_,_,_=>trivial
 |_::_,_,hle,⟨c,h1,h2,h3,h4,h5,h6⟩=>⟨c,h1,h2,h3,(World.putObj_heap_other oG).trans h4,h5,Marks.put o oG h6⟩
theorem Ig{n:Nat}{tmps:Array Value}{R:Ending->World->Prop}{st:St}{β₀ β:aE}{w₀:World}{a:Act}:∀ (ds:List Deferred) (hi:Nat) (w:World),Marks β w w₀.heap.size ds hi->ek P F st β w a->Step β₀ w₀ β w->
 (∀ w',ek P F st β w' a->Step β₀ w₀ β w'->∃ v,(results fn tmps).run P w'=.ok v w'/\R (.returned v) w')->LeavesInM (Fe none) n P fn tmps R ds .returning w
 |[],_,w,_,hs,c8,K=>K w hs c8
 |d::ds,hi,w,⟨b,h1,h2,h3,h4,h5,h6⟩,hs,c8,K=>by
  subst h1;refine⟨oS,.inl ⟨b,_,rfl,run_takeDeferred h4,Ig ds b _ (h6.put _ (bc _)) (hs.fY h4 h5 _) ?_ K⟩⟩;refine⟨by simpa using c8.size,fun c hc hf=>?_,c8.keep,c8.out.trans ⟨rfl,rfl⟩⟩;obtain⟨C,J⟩:=c8.dd c hc hf;exact⟨(World.putObj_heap_other oG).trans C,J⟩
theorem zL(gW:P.follows .mixedOrders=true){Y:eb}{f:FuncId}{c:Code}(hf:P.funcs[f]? =some fn)(hb:fn.body=some c)(ah:gA fn.ntmps c=true){args:List D}(hn:Nat.ble args.length fn.ntmps=true){m:Mem}{nx:Nat}{K:D->St->Prop}
 (h:AW P Y true c (gX P fn.results.toList K) ⟨io args,m,nx⟩) {β:aE} {w:World} {vs:Array Value} (hY:∀ l args m nx K,Y l args m nx K->ns P F β w l args m nx K) (hm:aK P F m β w) (cC:∀ i,nx<=i->β i=none) (C:Rs F β w args vs):
 Calls P f vs w fun e w'=>∃ v d st' β',e=.returned v/\K d st'/\R F β' w' d v/\aK P F st'.mem β' w'/\(∀ i,st'.nx<=i->β' i=none)/\Step β w β' w'/\nx<=st'.nx/\∀ i,i<nx->β i=none->β' i=none:=by
 have hle:args.length<=fn.ntmps:=by simpa using hn
 refine(callsIn_wide (n:=0)).1 (callsIn_of_wp_marks hf hb trivial ?_)
 have bC:(vs++Array.replicate (fn.ntmps - vs.size) undef).size=fn.ntmps:=by
  simp only[Array.size_append,Array.size_replicate,C.1];omega
 let a₀:Act:={ tmps:=vs++Array.replicate (fn.ntmps - vs.size) undef,defers:=[] }
 have hE:gI F β w (io args) a₀:=fun t=>by
  unfold io;rcases Nat.lt_or_ge t args.length with ah|bq
  .have h1:args.getD t .u=args[t]:=by simp[ah]
   have h2:a₀.tmps.getD t undef=vs[t]'(by rw[C.1];exact ah):=by
    show(vs++Array.replicate (fn.ntmps - vs.size) undef).getD t undef=_;have U:t<vs.size:=by rw[C.1];exact ah
    simp[Array.getD_eq_getD_getElem?,Array.getElem?_append_left U,U]
   rw[h1,h2];exact C.2 t _ _ (by simp[ah]) (by simp[C.1,ah])
  .have h1:args.getD t .u=.u:=by simp[bq]
   rw[h1];exact .u _
 have:=ER gW c F none 0 Y true nx β w a₀ (fun _=>rfl) hY (by show gA (vs++Array.replicate (fn.ntmps - vs.size) undef).size c=true;rw[bC];exact ah) _ ⟨io args,m,nx⟩ β w a₀ h ⟨hE,hm,cC⟩ (fX.refl ⟨io args,m,nx⟩ β w a₀).yF;refine wpIn_mono this fun e a' w' hp=>?_;obtain⟨st',β',hq,cK,J⟩:=hp
 have X:(nH P st' fn.results.toList [] fun ds=>K (p7 ds) st')->LeavesInM (Fe none) 0 P fn a'.tmps (fun e w'=>∃ v d st' β',e=.returned v/\K d st'/\R F β' w' d v/\aK P F st'.mem β' w'/\(∀ i,st'.nx<=i->β' i=none)/\Step β w β' w'/\nx<=st'.nx/\∀ i,i<nx->β i=none->β' i=none) a'.defers .returning w':=fun hq=>by
  obtain⟨ds,h1,h2⟩:=J.defers;rw[h1,show a₀.defers=[] from rfl,List.append_nil];refine Ig ds _ w' h2 cK J.step fun w'' M KI=>?_;obtain⟨v,d,g1,g2,g3⟩:=N3 (K:=fun d=>K d st') M hq;exact⟨v,g1,v,d,st',β',rfl,g2,g3,M.m,M.n,KI,J.le,J.grow⟩
 cases e with
 |normal=>exact X hq
 |ret=>exact X hq
 |_=>exact hq.elim
theorem EG{w:World}(C:FB F w):aK P F (fun _=>none) gz w:=
 ⟨fun i r h=>oH,fun i j p q b h=>oH,fun i p b h=>oH,fun i p b h=>oH,C⟩
theorem Er{β':aE}{w w':World}(h:Step gz w β' w'):Kept w w':=
 ⟨h.size,fun b hb=>(h.dd b hb fun i p hp=>by cases hp).1,h.out⟩
theorem Tr.At{d:D}(h:Tr d){β:aE}{w:World}{v:Value}(hv:R F β w d v):R F gz w d v:=
 (h F β w v hv).lift fun b hb=>⟨fun e=>hb (.inl e),fun i p hp=>by cases hp⟩
structure lb(P:Program)(f:FuncId)(fn:Func)(c:Code):Prop where
 hf:P.funcs[f]? =some fn
 hb:fn.body=some c
 ah:gA fn.ntmps c=true
 he:n3 P f=true
theorem P3(J:P.follows .mixedOrders=true){f:FuncId}{c:Code}(hf:lb P f fn c){args:List D}(hn:Nat.ble args.length fn.ntmps=true){m:Mem}{nx:Nat}{dY:D->Mem->Nat->Prop}
 (h:AW P cZ true c (gX P fn.results.toList fun d st=>dY d st.mem st.nx) ⟨io args,m,nx⟩):fG P f args m nx dY:=
 ⟨hf.he,fun F β w vs hm C hR=>(zL J hf.hf hf.hb hf.ah hn h (fun _ _ _ _ _ h=>h.elim) hm C hR).mono fun e w' ⟨v,d,st',β',h1,h2,M,U,X,h6,h7,h8⟩=>⟨v,d,st'.mem,st'.nx,β',h1,h2,U,X,M,h6,h7,h8⟩⟩
theorem aad(C:P.follows .mixedOrders=true){f:FuncId}{c:Code}(hf:lb P f fn c){args:List D}(hn:Nat.ble args.length fn.ntmps=true)(ht:∀ a∈args,Tr a){r:D}(hr:Tr r)
 (h:AW P cZ true c (gX P fn.results.toList fun d _=>d=r) ⟨io args,fun _=>none,0⟩):aD P f args r:=
 ⟨hf.he,ht,fun F w vs U X=>(zL C hf.hf hf.hb hf.ah hn h (fun _ _ _ _ _ h=>h.elim) (EG U) (fun _ _=>rfl) X).mono fun e w' hp=>by
  obtain⟨v,d,st',β',h1,rfl,J,h4,h5,M,h7,h8⟩:=hp
  exact⟨v,h1,hr.At J,Er M⟩⟩
theorem P4 (gW:P.follows .mixedOrders=true){f:FuncId}{c:Code}(hf:lb P f fn c){args:List D}(hn:Nat.ble args.length fn.ntmps=true)(ht:∀ a∈args,Tr a){es:List D}(kK:∀ a∈es,Tr a){k:Nat}{t:TypeId}
 (h:AW P cZ true c (gX P fn.results.toList fun d st=>∃ i,d=.rs i 0 k/\st.mem i=some (.cells es t)) ⟨io args,fun _=>none,0⟩):kv P f args es k t:=
 ⟨hf.he,ht,fun F w vs hF hR=>(zL gW hf.hf hf.hb hf.ah hn h (fun _ _ _ _ _ h=>h.elim) (EG hF) (fun _ _=>rfl) hR).mono fun e w' hp=>by
  obtain⟨v,d,st',β',h1,⟨i,rfl,hi⟩,h3,J,h5,M,h7,h8⟩:=hp;obtain⟨p,hp,aq⟩:=J.row i _ hi;refine⟨v,p,h1,?_,fun b hb=>⟨?_,J.lt i p b hp hb⟩,?_,?_,Er M⟩
  .rintro rfl;cases aq
  .rcases Nat.lt_or_ge b w.heap.size with ah|U
   .exact absurd hb ((M.dd b ah fun i p hp=>by cases hp).2 i p hp)
   .exact U
  .have lift:∀ d∈es,∀ u,R F β' w' d u->R (fun x=>F x\/p.bG=some x) gz w' d u:=fun d hd u hu=>
    (kK d hd F β' w' u hu).lift fun b hb=>⟨fun e=>hb (by
     rcases e with e|e
     .exact .inl e
     .exact .inr fun kZ=>kZ i p hp e),fun i p hp=>by cases hp⟩
   cases aq with
   |nil _=>exact .nil _
   |cells _ _ b o room sz c q1 q2 q3 q4 q5=>
    refine .cells es t b o room sz c q1 q2 q3 q4 fun j d hd=>?_;obtain⟨u,u1,u2,u3⟩:=q5 j d hd;exact⟨u,u1,lift d (bz hd) u u2,u3⟩
  .cases h3 with
   |kG _ _ _ _ C _=>rw[C] at hp;cases hp;cases aq
   |iO _ a C=>rw[C] at hp;cases hp;exact .iO 0 a (al _ _ _)
   |jK _ _ a b o len room sz C=>rw[C] at hp;cases hp;exact .jK 0 0 a b o len room sz (al _ _ _)
   |rs _ _ _ cap b o len room sz C X g2 g3 g4=>rw[C] at hp;cases hp;exact .rs 0 0 k cap b o len room sz (al _ _ _) X g2 g3 g4⟩
def TP(J:Nat)(xs:List (List D))(I:Nat->Mem->Nat->Prop)(Stop:Mem->Nat->Prop):eb:=fun l args m nx dY=>
 l=J/\∃ k,xs[k]? =some args/\I k m nx/\∀ d m' C,QT I Stop k d m' C->dY d m' C
theorem ns.mono{β:aE}{w:World}{l:Nat}{args:List D}{m:Mem}{nx:Nat}{K K':D->Mem->Nat->Prop}(hk:∀ d m nx,K d m nx->K' d m nx)(h:ns P F β w l args m nx K):ns P F β w l args m nx K':=
 fun β' w' us h1 h2 U X=>by
  obtain⟨f,tmps,assign,body,J,M⟩:=h β' w' us h1 h2 U X;exact⟨f,tmps,assign,body,J,fun n=>RoundIn.mono (F:=Fence.wide) (M n) fun e w' ⟨v,d,m',C,β',q1,q2,q3⟩=>⟨v,d,m',C,β',q1,hk _ _ _ q2,q3⟩⟩
theorem adb(X:P.follows .mixedOrders=true){f:FuncId}{c:Code}(hf:lb P f fn c){fs cs:List D}(hn:Nat.ble (fs.length+1+cs.length) fn.ntmps=true){xs:List (List D)}
 (h:∀ (l:Nat) (I:Nat->Mem->Nat->Prop) (Stop:Mem->Nat->Prop) (m:Mem) (nx:Nat),(∀ k,se (I k))->se Stop->I 0 m nx->
  AW P (TP l xs I Stop) true c (gX P fn.results.toList fun _ st=>I xs.length st.mem st.nx\/Stop st.mem st.nx) ⟨io (fs++[.fn (.yield l) [] []]++cs),m,nx⟩):vX P f fs cs xs:=
 ⟨hf.he,fun F l I Stop m nx β w vs hI J hm U hR hy h0=>
  (zL X hf.hf hf.hb hf.ah (by simpa[Nat.add_assoc,Nat.add_comm,Nat.add_left_comm] using hn) (h l I Stop m nx hI J h0) (fun l' args m' M K hK=>by
   obtain⟨rfl,k,h1,h2,C⟩:=hK
   exact(hy k args m' M h1 h2).mono C) hm U hR).mono fun e w' ⟨v,d,st',β',h1,h2,C,h4,h5,h6,h7,h8⟩=>⟨v,d,st'.mem,st'.nx,β',h1,h2,h4,h5,C,h6,h7,h8⟩⟩
end
section
variable{P:Program}{Y:eb}{rf:Bool}{Q:Exit->St->Prop}{st:St}
theorem Q4(c a b):AW P Y rf (.cond c a b) Q st=((opd st.env c).ask/\match (opd st.env c).core with
 | .s (.bool t)=>(t=true->AW P Y rf a Q st)/\(t=false->AW P Y rf b Q st)
 | .ub=>AW P Y rf a Q st/\AW P Y rf b Q st
 |_=>False):=rfl
theorem Q5{b:Code}(I:St->Prop)(μ:St->Nat)(h0:I st)(h:∀ st',I st'->AW P Y rf b (fM (fun J=>∃ C,aL P J C/\I C/\μ C<μ st') Q) st'):AW P Y rf (.loop b) Q st:=⟨I,μ,h0,h⟩
theorem fG.mono{f:FuncId}{args:List D}{m:Mem}{nx:Nat}{dY J:D->Mem->Nat->Prop}(h:fG P f args m nx dY)(hp:∀ d m' C,dY d m' C->J d m' C):fG P f args m nx J:=
 ⟨h.1,fun F β w vs hm hn U=>(h.2 F β w vs hm hn U).mono fun e w' ⟨v,d,m',C,β',h1,h2,M⟩=>⟨v,d,m',C,β',h1,hp _ _ _ h2,M⟩⟩
theorem sf.mono{dr:Bool}{f:FuncId}{args:List D}{K K':D->Mem->Nat->List Nat->List Nat->Prop}(hk:∀ d m nx rd wr,K d m nx rd wr->K' d m nx rd wr)(h:sf P dr st f args K):sf P dr st f args K':=by
 rcases h with⟨r,h1,h2⟩|⟨M,rds,r,h1,h2,C,J⟩|⟨es,n,t,h1,h2⟩|⟨h1,h2⟩|⟨r,aT,rds,h1,h2,C⟩|⟨es,n,t,aT,rds,h1,h2,C,J⟩
 .exact .inl ⟨r,h1,hk _ _ _ _ _ h2⟩
 .exact .inr (.inl ⟨M,rds,r,h1,h2,C,hk _ _ _ _ _ J⟩)
 .exact .inr (.inr (.inl ⟨es,n,t,h1,hk _ _ _ _ _ h2⟩))
 .exact .inr (.inr (.inr (.inl ⟨h1,h2.mono fun d m nx h=>hk _ _ _ _ _ h⟩)))
 .exact .inr (.inr (.inr (.inr (.inl ⟨r,aT,rds,h1,h2,hk _ _ _ _ _ C⟩))))
 .exact .inr (.inr (.inr (.inr (.inr ⟨es,n,t,aT,rds,h1,h2,C,hk _ _ _ _ _ J⟩))))
class dA(Y:eb):Prop where
 mono:∀ l args m nx K K',(∀ d m nx,K d m nx->K' d m nx)->Y l args m nx K->Y l args m nx K'
instance:dA cZ:=⟨fun _ _ _ _ _ _ _ h=>h⟩
instance{l:Nat}{xs:List (List D)}{I:Nat->Mem->Nat->Prop}{Stop:Mem->Nat->Prop}:dA (TP l xs I Stop):=⟨fun _ _ _ _ _ _ hk ⟨h1,k,h2,C,J⟩=>⟨h1,k,h2,C,fun d m nx h=>hk _ _ _ (J d m nx h)⟩⟩
theorem iS.mono[dA Y]{ops:Array Oper}{dr:Bool}{o:Oper}{K K':St->List Nat->List Nat->Prop}(hk:∀ st rd wr,K st rd wr->K' st rd wr)(h:iS P Y ops dr o st K):iS P Y ops dr o st K':=by
 unfold iS at h ⊢;split at h
 .refine⟨h.1,?_⟩;have h:=h.2;split at h
  .exact h.mono fun _ _ _ _ _ h=>hk _ _ _ h
  .split at h
   .exact⟨h.1,dA.mono _ _ _ _ _ _ (fun _ _ _ h=>hk _ _ _ h) h.2⟩
   .split at h
    .exact⟨h.1,hk _ _ _ h.2⟩
    .exact h
 .split at h
  .exact h
  .split at h
   .rcases h with⟨r,h1,h2⟩|⟨h1,h2⟩
    .exact .inl ⟨r,h1,hk _ _ _ h2⟩
    .exact .inr ⟨fun hc=>⟨(h1 hc).1,(h1 hc).2.mono fun _ _ _ _ _ h=>hk _ _ _ h⟩,fun hc=>hk _ _ _ (h2 hc)⟩
   .split at h
    .exact⟨fun hc=>⟨(h.1 hc).1,(h.1 hc).2.1,dA.mono _ _ _ _ _ _ (fun _ _ _ h=>hk _ _ _ h) (h.1 hc).2.2⟩,fun hc=>hk _ _ _ (h.2 hc)⟩
    split at h
    .split at h
     .rename_i hc;rw[if_pos hc];exact⟨h.1,hk _ _ _ h.2⟩
     .rename_i hc;rw[if_neg hc];exact⟨fun hc=>⟨(h.1 hc).1,(h.1 hc).2.1,hk _ _ _ (h.1 hc).2.2⟩,fun hc=>hk _ _ _ (h.2 hc)⟩
    .exact⟨h.1,hk _ _ _ h.2⟩
theorem av.mono[dA Y]{ops:Array Oper}{dr:Bool}{cf:List (Nat×Nat)}{Q C:Exit->St->Prop}(hq:∀ st,Q .normal st->C .normal st):∀ (l:List Oper) (st:St) (tr:jN),av P Y ops dr cf Q l st tr->av P Y ops dr cf C l st tr
 |[],st,tr,h=>⟨h.1,hq _ h.2⟩
 |o::l,st,tr,h=>h.elim (fun h=>.inl (iS.mono (fun st' rd wr h=>av.mono hq l st' _ h) h)) fun⟨h1,h2,e,J,M⟩=>.inr ⟨h1,h2,e,J,av.mono hq l _ _ M⟩
theorem tF:∀ (c:Code) {Y:eb} [dA Y] {rf:Bool} {Q C:Exit->St->Prop} {st:St},(∀ e st,Q e st->C e st)->AW P Y rf c Q st->AW P Y rf c C st:=by
 intro c
 induction c with
 |skip=>intro Y _ rf;exact fun hq h=>hq _ _ h
 |ret=>intro Y _ rf;exact fun hq h=>hq _ _ h
 |exit id=>intro Y _ rf;exact fun hq h=>hq _ _ h
 |region id ops draw=>
  intro Y _ rf Q C st hq h;cases draw with
  |false=>exact av.mono (hq .normal) _ _ _ h
  |true=>
   simp only[AW] at h ⊢;split at h
   .exact h.elim (fun h=>.inl (av.mono (hq .normal) _ _ _ h)) fun h=>.inr ⟨h.1,av.mono (fun st hs=>⟨hs.1,av.mono (hq .normal) _ _ _ hs.2⟩) _ _ _ h.2⟩
   .exact h
 |seq a b J M=>
  intro Y _ rf Q C st hq h;refine J (fun e st' h=>?_) h;cases e with
  |normal=>obtain⟨U,hg,hb⟩:=h;exact⟨U,hg,M hq hb⟩
  |_=>exact hq _ _ h
 |cond c a b J M=>
  intro Y _ rf Q C st hq h;refine⟨h.1,?_⟩;have h:=h.2;split at h
  .exact⟨fun ht=>J hq (h.1 ht),fun ht=>M hq (h.2 ht)⟩
  .exact⟨J hq h.1,M hq h.2⟩
  .exact h
 |block id b ih=>
  intro Y _ rf Q C st hq h;refine ih (fun e st' h=>?_) h;cases e with
  |exit i=>
   simp only[fx] at h ⊢;split at h
   .rename_i hi;rw[if_pos hi];exact hq _ _ h
   .rename_i hi;rw[if_neg hi];exact hq _ _ h
  |_=>exact hq _ _ h
 |scope b ih=>
  intro Y _ rf Q C st hq h;refine ih (fun e st' h=>?_) h;cases e with
  |goto l=>exact h
  |_=>exact hq _ _ h
 |loop b ih=>
  intro Y _ rf Q C st hq h;obtain⟨I,μ,h0,h1⟩:=h;refine⟨I,μ,h0,fun st' hi=>ih (fun e U h=>?_) (h1 st' hi)⟩;cases e with
  |normal=>exact h
  |_=>exact hq _ _ h
 |label l=>intro Y _ rf;exact fun hq h=>hq _ _ h
 |rangeFunc g ps assign body J M=>
  intro Y _ rf Q C st hq h;obtain⟨X,iI,f,fs,cs,xs,I,tZ,yk,xO,yI,tQ,xP⟩:=h;refine⟨X,iI,f,fs,cs,xs,I,tZ,yk,xO,yI,fun k m nx x hx hI=>J (fun e s h=>?_) (tQ k m nx x hx hI),fun m nx h=>hq _ _ (xP m nx h)⟩;cases e with
  |normal=>
   refine M (fun e s h=>?_) h;cases e with
   |normal=>exact h
   |ret=>exact hq _ _ h
   |exit id=>exact hq _ _ h
   |_=>exact h
  |_=>exact h
 |_=>intro Y _ rf;exact fun _ h=>h.elim
theorem least{p:Nat->Prop}:∀ j,p j->∃ i,p i/\∀ k,p k->i<=k:=by
 intro j
 induction j using Nat.strongRecOn with
 |_ j ih=>
  intro hj;by_cases h:∃ k,k<j/\p k
  .obtain⟨k,hk,hp⟩:=h;exact ih k hk hp
  .exact⟨j,hj,fun k hk=>Nat.le_of_not_lt fun ah=>h ⟨k,ah,hk⟩⟩
open Classical in
theorem P8[dA Y]{b:Code}(J:Nat->St->Prop){j₀:Nat}(h0:J j₀ st)(h:∀ j st',J j st'->AW P Y rf b (fM (fun fK=>∃ U,aL P fK U/\∃ M,M<j/\J M U) Q) st'):AW P Y rf (.loop b) Q st:=by
 have C:∀ st,(∃ j,J j st)->∃ i,J i st/\∀ k,J k st->i<=k:=fun st ⟨j,hj⟩=>least j hj
 let μ:St->Nat:=fun st=>if h:∃ j,J j st then Classical.choose (C st h) else 0
 have hμ:∀ st,(hj:∃ j,J j st)->J (μ st) st/\∀ k,J k st->μ st<=k:=fun st hj=>by
  have:μ st=Classical.choose (C st hj):=by simp only[μ];rw[dif_pos hj]
  rw[this];exact Classical.choose_spec (C st hj)
 refine Q5 (fun st=>∃ j,J j st) μ ⟨j₀,h0⟩ fun st' hj=>tF b (fun e fK hq=>?_) (h (μ st') st' (hμ st' hj).1);cases e with
 |normal=>
  obtain⟨U,hg,M,ah,X⟩:=hq;exact⟨U,hg,⟨M,X⟩,Nat.lt_of_le_of_lt ((hμ U ⟨M,X⟩).2 M X) ah⟩
 |_=>exact hq
end
section
variable{P:Program}{F:Nat->Prop}{β:aE}{w:World}
theorem Tr.cw{c:Bool}{d:D}(h:Tr d):Tr (.cw c d):=fun F β w v hv=>by
 cases hv with
 |cw _ _ _ h1 h2=>exact .cw c d v (fun hc=>h F β w v (h1 hc)) h2
theorem Tr.agg{cs:List D}(h:∀ d∈cs,Tr d):Tr (.agg cs):=fun F β w v hv=>by
 obtain⟨vs,rfl,hl,hh⟩:=hv.rV;exact .agg cs vs hl fun k d u hd hu=>h d (bz hd) F β w u (hh k d u hd hu)
theorem Tr.aM{cs:List D}(h:∀ d∈cs,Tr d):Tr (.aM cs):=fun F β w v hv=>by
 obtain⟨vs,rfl,hl,hh⟩:=hv.Cd;exact .aM cs vs hl fun k d u hd hu=>h d (bz hd) F β w u (hh k d u hd hu)
theorem Tr.sl{cs:List D}{n:Nat}(h:∀ d∈cs,Tr d):Tr (.sl cs n):=fun F β w v hv=>by
 cases hv with
 |gg a cap=>exact .gg a cap
 |sl _ _ b o cap us hf hb ah ot dh hc hh=>
  exact .sl cs n b o cap us (fun e=>e.elim hf fun e=>e hb) (fun i p hp=>by cases hp) ah ot dh hc fun k d hd=>h d (bz hd) F β w _ (hh k d hd)
theorem Tr.pt{cs:List D}(h:∀ d∈cs,Tr d):Tr (.pt cs):=fun F β w v hv=>by
 cases hv with
 |pt _ b o us hf hb ah hc hh=>
  exact .pt cs b o us (fun e=>e.elim hf fun e=>e hb) (fun i p hp=>by cases hp) ah hc fun k d hd=>h d (bz hd) F β w _ (hh k d hd)
theorem Tr.fn{f:Fn}{fs cs:List D}(h:∀ d∈fs,Tr d)(h':∀ d∈cs,Tr d):Tr (.fn f fs cs):=fun F β w v hv=>by
 cases hv with
 |fn _ _ _ us vs hl ll h1 h2=>
  exact .fn f fs cs us vs hl ll (fun k d u hd hu=>h d (bz hd) F β w u (h1 k d u hd hu)) fun k d u hd hu=>h' d (bz hd) F β w u (h2 k d u hd hu)
theorem Tr.im{es:List (Value×D)}(h:∀ x∈es,Tr x.2):Tr (.im es):=fun F β w v hv=>by
 cases hv with
 |im _ r ms clock hf hb hc hl dZ hk hh=>
  exact .im es r ms clock (fun e=>e.elim hf fun e=>e hb) (fun i p hp=>by cases hp) hc hl dZ hk fun k x m hx hm=>h x (bz hx) F β w _ (hh k x m hx hm)
theorem Tr.s(x:Value):Tr (.s x):=fun F β w v hv=>by
 obtain⟨rfl,h⟩:=hv.cX;exact .s _ h
theorem Tr.ub:Tr .ub:=fun F β w v hv=>by
 obtain⟨b,rfl⟩:=hv.F5;exact .ub b
theorem Tr.u:Tr .u:=fun F β w v _=>.u v
theorem Tr.z:Tr .z:=fun F β w v hv=>by
 obtain⟨a,rfl⟩:=hv.tY;exact .z a
theorem Tr.nil:∀ a∈([]:List D),Tr a:=fun _ h=>by cases h
theorem Tr.cons{d:D}{l:List D}(h:Tr d)(hl:∀ a∈l,Tr a):∀ a∈d::l,Tr a:=fun a ha=>by
 cases ha with
 |head=>exact h
 |tail _ ha=>exact hl a ha
theorem Tr.map{α:Type}{f:α->D}{l:List α}(h:∀ x,Tr (f x)):∀ a∈l.map f,Tr a:=fun a ha=>by
 obtain⟨x,_,rfl⟩:=List.mem_map.1 ha;exact h x
theorem Tr.flat{α:Type}{f:α->List D}{l:List α}(h:∀ x,∀ a∈f x,Tr a):∀ a∈l.flatMap f,Tr a:=fun a ha=>by
 obtain⟨x,_,hx⟩:=List.mem_flatMap.1 ha;exact h x a hx
end
def aA:List (Nat×D)->Env
 |[],_=>.u
 |(t,d)::l,j=>if j=t then d else aA l j
def kV:List (Nat×D)->Env->Prop
 |[],_=>True
 |(t,d)::l,env=>env t=d/\kV l env
theorem pD:∀ {l:List (Nat×D)} {env:Env},kV l env->∀ t,aA l t=env t\/aA l t=.u
 |[],_,_,_=>.inr rfl
 |(k,d)::l,env,h,t=>by
  simp only[aA];by_cases ht:t=k
  .subst ht;rw[if_pos rfl];exact .inl h.1.symm
  .rw[if_neg ht];exact pD h.2 t
def fN(env:Env):List Operand->Prop
 |[]=>True
 |x::xs=>(opd env x).ask/\fN env xs
theorem Qh{env:Env}:∀ {l:List Operand},fN env l->∀ x∈l,(opd env x).ask
 |[],_,x,h=>by cases h
 |y::l,h,x,hx=>by
  cases hx with
  |head=>exact h.1
  |tail _ hx=>exact Qh h.2 x hx
theorem oX{env:Env}{o:Op}(h:fN env o.operands.toList):asks env o:=by
 have:=Qh h;unfold asks;cases o<;>first|exact this|exact this _ cF
section
variable{P:Program}{Y:eb}{rf:Bool}
structure Ef(P:Program)(op:Op)(env:Env)(m:Mem)(nx:Nat)(e:dt):Prop where
 ok:bd P op (aZ env op) m nx=some e
 nc:dI (aZ env op) op=none
 ny:kU (aZ env op) op=none
variable{ops:Array Oper}{dr:Bool}{cf:List (Nat×Nat)}{Q:Exit->St->Prop}{rest:List Oper}{env:Env}{m:Mem}{nx:Nat}{tr:jN}{t:Nat}{op:Op}{ty:TypeId}{pos:String}{after:Array Edge}
 {pre:Prop} {v:D} {rd:List Nat}
theorem xC{d:Option Nat}{e:dt}(he:Ef P op env m nx e)(ha:asks env op)(hp:e.pre)(K:av P Y ops dr cf Q rest (St.put ⟨env,cH m e.aT,nx+e.new⟩ d e.val) (tr++[(e.rd,e.aT.map (·.1))])):
 av P Y ops dr cf Q (⟨d,op,ty,pos,after,none⟩::rest) ⟨env,m,nx⟩ tr:=by
 simp only[av];refine .inl ?_;simp only[iS];rw[he.nc,he.ny,he.ok];exact⟨ha,hp,K⟩
theorem ax(he:Ef P op env m nx ⟨pre,v,[],rd,0⟩)(ha:fN env op.operands.toList)(hp:pre)(K:av P Y ops dr cf Q rest ⟨up env t v,m,nx⟩ (tr++[(rd,[])])):
 av P Y ops dr cf Q (⟨some t,op,ty,pos,after,none⟩::rest) ⟨env,m,nx⟩ tr:=xC he (oX ha) hp K
theorem zT{c a b:Operand}{g:Bool}(hc:(opd env c).core=.s (.bool g)):Ef P (.pick c a b) env m nx ⟨(g=true->(opd env a).ask/\(opd env a).core.eV.isSome=true)/\(g=false->(opd env b).ask/\(opd env b).core.eV.isSome=true),
 .s (.bool (if g then(opd env a).core.eV.getD false else(opd env b).core.eV.getD false)),[],[],0⟩:=⟨by simp only[bd,aZ,hc,D.eV],rfl,rfl⟩
theorem Rm{c a b:Operand}{g x y:Bool}(hc:opd env c=.s (.bool g))(ha:(opd env a).core=.s (.bool x))(hb:(opd env b).core=.s (.bool y))(h1:g=true->(opd env a).ask)(h2:g=false->(opd env b).ask)
 (K:av P Y ops dr cf Q rest ⟨up env t (.s (.bool (if g then x else y))),m,nx⟩ (tr++[([],[])])):
 av P Y ops dr cf Q (⟨some t,.pick c a b,ty,pos,after,none⟩::rest) ⟨env,m,nx⟩ tr:=by
 refine xC (zT (g:=g) (by rw[hc];rfl)) (by simp only[asks,hc,D.ask]) ⟨fun h=>⟨h1 h,by rw[ha];rfl⟩,fun h=>⟨h2 h,by rw[hb];rfl⟩⟩ ?_;simp only[ha,hb,D.eV,Option.getD_some];exact K
theorem Qi{c a b:Operand}{x:Bool}(hc:opd env c=.s (.bool true))(ha:(opd env a).core=.s (.bool x))(h1:(opd env a).ask)
 (K:av P Y ops dr cf Q rest ⟨up env t (.s (.bool x)),m,nx⟩ (tr++[([],[])])):
 av P Y ops dr cf Q (⟨some t,.pick c a b,ty,pos,after,none⟩::rest) ⟨env,m,nx⟩ tr:=by
 refine xC (zT (g:=true) (by rw[hc];rfl)) (by simp only[asks,hc,D.ask]) ⟨fun _=>⟨h1,by rw[ha];rfl⟩,fun h=>by cases h⟩ ?_;simp only[ha,D.eV,Option.getD_some,if_true];exact K
theorem Qj{c a b:Operand}{y:Bool}(hc:opd env c=.s (.bool false))(hb:(opd env b).core=.s (.bool y))(h2:(opd env b).ask)
 (K:av P Y ops dr cf Q rest ⟨up env t (.s (.bool y)),m,nx⟩ (tr++[([],[])])):
 av P Y ops dr cf Q (⟨some t,.pick c a b,ty,pos,after,none⟩::rest) ⟨env,m,nx⟩ tr:=by
 refine xC (zT (g:=false) (by rw[hc];rfl)) (by simp only[asks,hc,D.ask]) ⟨fun h=>oH,fun _=>⟨h2,by rw[hb];rfl⟩⟩ ?_;simp only[hb,D.eV,Option.getD_some,Bool.false_eq_true,if_false];exact K
theorem bL{i:Nat}{row:Option Row}(he:Ef P op env m nx ⟨pre,v,[(i,row)],rd,0⟩)(ha:fN env op.operands.toList)(hp:pre)(K:av P Y ops dr cf Q rest ⟨env,up m i row,nx⟩ (tr++[(rd,[i])])):
 av P Y ops dr cf Q (⟨none,op,ty,pos,after,none⟩::rest) ⟨env,m,nx⟩ tr:=xC he (oX ha) hp K
theorem eC{row:Row}(he:Ef P op env m nx ⟨pre,v,[(nx,some row)],rd,1⟩)(ha:fN env op.operands.toList)(hp:pre)(K:av P Y ops dr cf Q rest ⟨up env t v,up m nx (some row),nx+1⟩ (tr++[(rd,[nx])])):
 av P Y ops dr cf Q (⟨some t,op,ty,pos,after,none⟩::rest) ⟨env,m,nx⟩ tr:=xC he (oX ha) hp K
theorem jq{i:Nat}{row:Row}(he:Ef P op env m nx ⟨pre,v,[(i,none),(nx,some row)],rd,1⟩)(ha:fN env op.operands.toList)(hp:pre)(K:av P Y ops dr cf Q rest ⟨up env t v,up (up m i none) nx (some row),nx+1⟩ (tr++[(rd,[i,nx])])):
 av P Y ops dr cf Q (⟨some t,op,ty,pos,after,none⟩::rest) ⟨env,m,nx⟩ tr:=xC he (oX ha) hp K
theorem bw{j:Nat}{b c:Bool}{u:Nat}(hj:(ops[j]?).bind (·.dst)=some u)(hg:jV (env u) b=some c)(he:Ef P op env m nx ⟨pre,v,[],rd,0⟩)(ha:c=true->fN env op.operands.toList/\pre)
 (K:av P Y ops dr cf Q rest ⟨up env t (.cw c v),m,nx⟩ (tr++[(rd,[])])):av P Y ops dr cf Q (⟨some t,op,ty,pos,after,some (j,b)⟩::rest) ⟨env,m,nx⟩ tr:=by
 simp only[av];refine .inl ?_;simp only[iS];rw[hj];simp only[Option.bind_some];rw[hg,he.nc,he.ny,he.ok];exact⟨fun hc=>⟨oX (ha hc).1,(ha hc).2⟩,K⟩
theorem EY{j:Nat}{b0 C:Bool}{u:Nat}(hj:(ops[j]?).bind (·.dst)=some u)(hg:jV (env u) b0=some C){c a b:Operand}{g x y:Bool}(hc:(opd env c).core=.s (.bool g))(ha:(opd env a).core=.s (.bool x))(hb:(opd env b).core=.s (.bool y))
 (h0:C=true->(opd env c).ask) (h1:C=true->g=true->(opd env a).ask) (h2:C=true->g=false->(opd env b).ask)
 (K:av P Y ops dr cf Q rest ⟨up env t (.cw C (.s (.bool (if g then x else y)))),m,nx⟩ (tr++[([],[])])):
 av P Y ops dr cf Q (⟨some t,.pick c a b,ty,pos,after,some (j,b0)⟩::rest) ⟨env,m,nx⟩ tr:=by
 have he:=zT (P:=P) (env:=env) (m:=m) (nx:=nx) (a:=a) (b:=b) hc;simp only[ha,hb,D.eV,Option.getD_some,Option.isSome_some,and_true] at he;simp only[av];refine .inl ?_;simp only[iS];rw[hj];simp only[Option.bind_some];rw[hg,he.nc,he.ny,he.ok];exact⟨fun hc=>⟨by simp only[asks];exact h0 hc,h1 hc,h2 hc⟩,K⟩
theorem aec{j:Nat}{b:Bool}{u:Nat}{d:Option Nat}{e:dt}(hj:(ops[j]?).bind (·.dst)=some u)(hg:jV (env u) b=some true)(he:Ef P op env m nx e)(ha:fN env op.operands.toList)(hp:e.pre)
 (K:e.aT=[]->e.new=0->av P Y ops dr cf Q rest (St.put ⟨env,m,nx⟩ d (.cw true e.val)) (tr++[(e.rd,[])]))
 (K':av P Y ops dr cf Q rest (St.put ⟨env,cH m e.aT,nx+e.new⟩ d e.val) (tr++[(e.rd,e.aT.map (·.1))])):av P Y ops dr cf Q (⟨d,op,ty,pos,after,some (j,b)⟩::rest) ⟨env,m,nx⟩ tr:=by
 simp only[av];refine .inl ?_;simp only[iS];rw[hj];simp only[Option.bind_some];rw[hg,he.nc,he.ny,he.ok];simp only;split
 .rename_i h;simp only[ba,List.isEmpty_iff,beq_iff_eq] at h;exact⟨fun _=>⟨oX ha,hp⟩,K h.1 h.2⟩
 .exact⟨fun _=>⟨oX ha,hp,K'⟩,oS⟩
theorem SX{j:Nat}{b:Bool}{u:Nat}{d:Option Nat}(hj:(ops[j]?).bind (·.dst)=some u)(hg:jV (env u) b=some false)
 (K:∀ (x:D) rd,av P Y ops dr cf Q rest (St.put ⟨env,m,nx⟩ d (.cw false x)) (tr++[(rd,[])])):av P Y ops dr cf Q (⟨d,op,ty,pos,after,some (j,b)⟩::rest) ⟨env,m,nx⟩ tr:=by
 simp only[av];refine .inl ?_;simp only[iS];rw[hj];simp only[Option.bind_some];rw[hg];simp only;split
 .exact .inr ⟨oS,fun _=>K .u []⟩
 .split
  .exact⟨oS,fun _=>K .u []⟩
  .split
   .split
    .exact⟨oS,K _ _⟩
    .exact⟨oS,fun _=>K .u []⟩
   .exact⟨trivial,K .u []⟩
theorem jf{j:Nat}{b:Bool}{u t:Nat}(hj:(ops[j]?).bind (·.dst)=some u)(hg:jV (env u) b=some false)
 (K:∀ (x:D) rd,av P Y ops dr cf Q rest ⟨up env t (.cw false x),m,nx⟩ (tr++[(rd,[])])):av P Y ops dr cf Q (⟨some t,op,ty,pos,after,some (j,b)⟩::rest) ⟨env,m,nx⟩ tr:=SX hj hg K
theorem Fq{f:FuncId}{args:List D}{d:Option Nat}(hc:dI (aZ env op) op=some (f,args))(ha:fN env op.operands.toList)(h:sf P dr ⟨env,m,nx⟩ f args fun r m nx rd wr=>av P Y ops dr cf Q rest (St.put ⟨env,m,nx⟩ d r) (tr++[(rd,wr)])):
 av P Y ops dr cf Q (⟨d,op,ty,pos,after,none⟩::rest) ⟨env,m,nx⟩ tr:=by
 simp only[av];refine .inl ?_;simp only[iS];rw[hc];exact⟨oX ha,h⟩
theorem nu{f:FuncId}{args:List D}{r:D}(h:aD P f args r)(hc:dI (aZ env op) op=some (f,args))(ha:fN env op.operands.toList)(K:av P Y ops dr cf Q rest ⟨up env t r,m,nx⟩ (tr++[([],[])])):
 av P Y ops dr cf Q (⟨some t,op,ty,pos,after,none⟩::rest) ⟨env,m,nx⟩ tr:=Fq hc ha (.inl ⟨r,h,K⟩)
theorem KP{f:FuncId}{args es:List D}{n:Nat}{C:TypeId}(h:kv P f args es n C)(hc:dI (aZ env op) op=some (f,args))(ha:fN env op.operands.toList)(K:av P Y ops dr cf Q rest ⟨up env t (.rs nx 0 n),up m nx (some (.cells es C)),nx+1⟩ (tr++[([],[nx])])):
 av P Y ops dr cf Q (⟨some t,op,ty,pos,after,none⟩::rest) ⟨env,m,nx⟩ tr:=Fq hc ha (.inr (.inr (.inl ⟨es,n,C,h,K⟩)))
theorem gm{f:FuncId}{args:List D}{d:Option Nat}{dY:D->Mem->Nat->Prop}(h:fG P f args m nx dY)(hc:dI (aZ env op) op=some (f,args))(ha:fN env op.operands.toList)
 (K:∀ r m' C,dY r m' C->av P Y ops false cf Q rest (St.put ⟨env,m',C⟩ d r) (tr++[([],[])])):
 av P Y ops false cf Q (⟨d,op,ty,pos,after,none⟩::rest) ⟨env,m,nx⟩ tr:=Fq hc ha (.inr (.inr (.inr (.inl ⟨rfl,h.mono K⟩))))
theorem SY{f:FuncId}{args C:List D}{r:D}{rds:List Nat}(h:aD P f C r)(hs:r.gn=true)(J:jr P rds m args C)(hc:dI (aZ env op) op=some (f,args))(ha:fN env op.operands.toList)
 (K:av P Y ops dr cf Q rest ⟨up env t r,m,nx⟩ (tr++[(rds,[])])):av P Y ops dr cf Q (⟨some t,op,ty,pos,after,none⟩::rest) ⟨env,m,nx⟩ tr:=Fq hc ha (.inr (.inl ⟨C,rds,r,J,h,hs,K⟩))
theorem tU{j:Nat}{b c:Bool}{u:Nat}{f:FuncId}{args:List D}{r:D}(hj:(ops[j]?).bind (·.dst)=some u)(hg:jV (env u) b=some c)(hc:dI (aZ env op) op=some (f,args))(h:c=true->fN env op.operands.toList/\aD P f args r)
 (K:av P Y ops dr cf Q rest ⟨up env t (.cw c r),m,nx⟩ (tr++[([],[])])):av P Y ops dr cf Q (⟨some t,op,ty,pos,after,some (j,b)⟩::rest) ⟨env,m,nx⟩ tr:=by
 simp only[av];refine .inl ?_;simp only[iS];rw[hj];simp only[Option.bind_some];rw[hg,hc];exact .inl ⟨r,fun C=>⟨oX (h C).1,(h C).2⟩,K⟩
theorem aaz{j:Nat}{b:Bool}{u:Nat}{d:Option Nat}{f:FuncId}{args:List D}(hj:(ops[j]?).bind (·.dst)=some u)(hg:jV (env u) b=some true)(hc:dI (aZ env op) op=some (f,args))(ha:fN env op.operands.toList)
 (h:sf P dr ⟨env,m,nx⟩ f args fun r m nx rd wr=>av P Y ops dr cf Q rest (St.put ⟨env,m,nx⟩ d r) (tr++[(rd,wr)])):av P Y ops dr cf Q (⟨d,op,ty,pos,after,some (j,b)⟩::rest) ⟨env,m,nx⟩ tr:=by
 simp only[av];refine .inl ?_;simp only[iS];rw[hj];simp only[Option.bind_some];rw[hg,hc];exact .inr ⟨fun _=>⟨oX ha,h⟩,oS⟩
theorem Ly{l:Nat}{args:List D}{d:Option Nat}(hc:dI (aZ env op) op=none)(hy:kU (aZ env op) op=some (l,args))(ha:fN env op.operands.toList)(h:Y l args m nx fun r m' C=>av P Y ops false cf Q rest (St.put ⟨env,m',C⟩ d r) (tr++[([],[])])):
 av P Y ops false cf Q (⟨d,op,ty,pos,after,none⟩::rest) ⟨env,m,nx⟩ tr:=by
 simp only[av];refine .inl ?_;simp only[iS];rw[hc,hy];exact⟨oX ha,trivial,h⟩
theorem KQ{j:Nat}{b:Bool}{u:Nat}{l:Nat}{args:List D}{d:Option Nat}(hj:(ops[j]?).bind (·.dst)=some u)(hg:jV (env u) b=some true)(hc:dI (aZ env op) op=none)(hy:kU (aZ env op) op=some (l,args))(ha:fN env op.operands.toList)
 (h:Y l args m nx fun r m' C=>av P Y ops false cf Q rest (St.put ⟨env,m',C⟩ d r) (tr++[([],[])])):av P Y ops false cf Q (⟨d,op,ty,pos,after,some (j,b)⟩::rest) ⟨env,m,nx⟩ tr:=by
 simp only[av];refine .inl ?_;simp only[iS];rw[hj];simp only[Option.bind_some];rw[hg,hc,hy];exact⟨fun _=>⟨oX ha,trivial,h⟩,oS⟩
def eQ(K:St->Prop):Exit->St->Prop
 | .normal,st=>K st
 |_,_=>True
theorem af{K:St->Prop}{st:St}(h:K st):av P Y ops dr [] (eQ K) [] st tr:=⟨oS,h⟩
theorem cu{K:St->Prop}{st:St}(hc:∀ q∈cf,pH tr q.1 q.2)(h:K st):av P Y ops dr cf (eQ K) [] st tr:=⟨hc,h⟩
variable{st:St}{a b c:Code}
theorem av.iJ{cf:List (Nat×Nat)}{K:St->Prop}{Q:Exit->St->Prop}[dA Y]{l:List Oper}(h:av P Y ops dr cf (eQ K) l st tr)(hk:∀ st,K st->Q .normal st):av P Y ops dr cf Q l st tr:=
 av.mono (Q:=eQ K) (fun st h=>hk st h) l st tr h
theorem ly[dA Y]{id:Nat}(h:av P Y ops false [] (eQ fun st=>Q .normal st) ops.toList st []):AW P Y rf (.region id ops false) Q st:=av.iJ h fun _ h=>h
theorem Af[dA Y]{id:Nat}(hi:bR ops=some cf)(h:av P Y ops true cf (eQ fun st=>Q .normal st) ops.toList st []):AW P Y rf (.region id ops true) Q st:=by
 show match bR ops with
  |some cf=>Cx P Y ops cf Q st
  |none=>False
 rw[hi];exact .inl (av.iJ h fun _ h=>h)
theorem JO[dA Y]{id:Nat}(hi:bR ops=some cf)(hl:CR ops=true)(h:av P cZ ops true cf (eQ fun st=>av P cZ ops false [] (eQ fun st=>Q .normal st) (ops.toList.drop (ops.size - 1)) st []) (ops.toList.take (ops.size - 1)) st []):AW P Y rf (.region id ops true) Q st:=by
 show match bR ops with
  |some cf=>Cx P Y ops cf Q st
  |none=>False
 rw[hi];exact .inr ⟨hl,av.iJ h fun _ h=>⟨rfl,av.iJ h fun _ h=>h⟩⟩
theorem WA[dA Y]{id:Nat}(hi:bR ops=some cf)(hl:CR ops=true)(h:av P cZ ops true cf (eQ fun st=>av P cZ ops false [] (eQ fun st=>∃ st',aL P st st'/\AW P Y rf b Q st') (ops.toList.drop (ops.size - 1)) st []) (ops.toList.take (ops.size - 1)) st []):AW P Y rf (.seq (.region id ops true) b) Q st:=
 JO (rf:=rf) (id:=id) hi hl (av.iJ h fun _ h=>av.iJ h fun st h=>h)
theorem aj[dA Y]{id:Nat}(h:av P Y ops false [] (eQ fun st=>AW P Y rf b Q st) ops.toList st []):AW P Y rf (.seq (.region id ops false) b) Q st:=
 ly (rf:=rf) (id:=id) (av.iJ h fun st h=>⟨st,.refl st,h⟩)
theorem eg[dA Y]{id:Nat}(hi:bR ops=some cf)(h:av P Y ops true cf (eQ fun st=>AW P Y rf b Q st) ops.toList st []):AW P Y rf (.seq (.region id ops true) b) Q st:=
 Af (rf:=rf) (id:=id) hi (av.iJ h fun st h=>⟨st,.refl st,h⟩)
theorem bJ{st':St}(hg:aL P st st')(h:AW P Y rf b Q st'):∃ C,aL P st C/\AW P Y rf b Q C:=⟨st',hg,h⟩
theorem az[dA Y]{id:Nat}(h:av P Y ops false [] (eQ fun st=>∃ st',aL P st st'/\AW P Y rf b Q st') ops.toList st []):AW P Y rf (.seq (.region id ops false) b) Q st:=
 ly (rf:=rf) (id:=id) (av.iJ h fun _ h=>h)
theorem BL[dA Y]{id:Nat}(hi:bR ops=some cf)(h:av P Y ops true cf (eQ fun st=>∃ st',aL P st st'/\AW P Y rf b Q st') ops.toList st []):AW P Y rf (.seq (.region id ops true) b) Q st:=
 Af (rf:=rf) (id:=id) hi (av.iJ h fun _ h=>h)
theorem SM[dA Y](J:St->Prop)(h:AW P Y rf a (fM J Q) st)(k:∀ st,J st->AW P Y rf b Q st):AW P Y rf (.seq a b) Q st:=
 tF a (fun e st h=>by
  cases e with
  |normal=>exact⟨st,.refl st,k st h⟩
  |_=>exact h) h
theorem iC[dA Y](J:St->Prop)(h:AW P Y rf a (fM J Q) st)(k:∀ st,J st->∃ st',aL P st st'/\AW P Y rf b Q st'):AW P Y rf (.seq a b) Q st:=
 tF a (fun e st h=>by
  cases e with
  |normal=>exact k st h
  |_=>exact h) h
theorem bX[dA Y](h:AW P Y rf b Q st):AW P Y rf (.seq .skip b) Q st:=⟨st,.refl st,h⟩
theorem ew(h:Q .ret st):AW P Y rf (.seq .ret b) Q st:=h
theorem tm{id:Nat}(h:Q (.exit id) st):AW P Y rf (.seq (.exit id) b) Q st:=h
theorem Xf{l:Nat}(h:AW P Y rf b Q st):AW P Y rf (.seq (.label l) b) Q st:=⟨st,.refl st,h⟩
theorem aC[dA Y](h:AW P Y rf (.seq a (.seq b c)) Q st):AW P Y rf (.seq (.seq a b) c) Q st:=by
 refine tF a (fun e st h=>?_) h;cases e with
 |normal=>
  obtain⟨st',hg,h⟩:=h;refine⟨st',hg,tF b (fun e st h=>?_) h⟩;cases e<;>exact h
 |_=>exact h
theorem aR{c:Operand}{x y:Code}{g:Bool}(hc:opd st.env c=.s (.bool g))(ht:g=true->AW P Y rf x Q st)(hf:g=false->AW P Y rf y Q st):AW P Y rf (.cond c x y) Q st:=by
 rw[Q4];rw[hc];exact⟨trivial,ht,hf⟩
theorem ct{c:Operand}{x y:Code}{g:Bool}(hc:opd st.env c=.s (.bool g))(ht:g=true->AW P Y rf (.seq x b) Q st)(hf:g=false->AW P Y rf (.seq y b) Q st):AW P Y rf (.seq (.cond c x y) b) Q st:=aR hc ht hf
theorem Rn{c:Operand}{x y:Code}(hc:opd st.env c=.ub)(ht:AW P Y rf x Q st)(hf:AW P Y rf y Q st):AW P Y rf (.cond c x y) Q st:=by
 rw[Q4];rw[hc];exact⟨trivial,ht,hf⟩
theorem pE{id:Nat}(h:AW P Y rf b (fx id Q) st):AW P Y rf (.block id b) Q st:=h
theorem abX[dA Y]{α:Type}(S:α->St)(J:α->Prop)(μ:α->Nat)(U:α)(h0:st=S U)(hJ:J U)(h:∀ x,J x->AW P Y rf b (fM (fun st'=>∃ M C,aL P st' M/\M=S C/\J C/\μ C<μ x) Q) (S x)):AW P Y rf (.loop b) Q st:=by
 refine P8 (fun j st=>∃ x,st=S x/\J x/\μ x=j) (j₀:=μ U) ⟨U,h0,hJ,rfl⟩ ?_;rintro j st ⟨x,rfl,hx,rfl⟩;refine tF b (fun e st' hq=>?_) (h x hx);cases e with
 |normal=>
  obtain⟨M,C,h1,h2,X,h4⟩:=hq;exact⟨M,h1,μ C,h4,C,h2,X,rfl⟩
 |_=>exact hq
end
theorem KR{P:Program}{Y:eb}{rf:Bool}{Q:Exit->St->Prop}{st:St}{c:Operand}{x y:Code}(K:AW P Y rf y Q st)(h:opd st.env c=.s (.bool false):=by exact rfl):AW P Y rf (.cond c x y) Q st:=aR h (fun h=>by cases h) fun _=>K
theorem SZ{P:Program}{Y:eb}{rf:Bool}{Q:Exit->St->Prop}{st:St}{c:Operand}{x y:Code}(K:AW P Y rf x Q st)(h:opd st.env c=.s (.bool true):=by exact rfl):AW P Y rf (.cond c x y) Q st:=aR h (fun _=>K) fun h=>by cases h
theorem nv{P:Program}{Y:eb}{rf:Bool}{Q:Exit->St->Prop}{st:St}{c:Operand}{x y b:Code}(K:AW P Y rf (.seq y b) Q st)(h:opd st.env c=.s (.bool false):=by exact rfl):AW P Y rf (.seq (.cond c x y) b) Q st:=aR h (fun h=>by cases h) fun _=>K
theorem GL{P:Program}{Y:eb}{rf:Bool}{Q:Exit->St->Prop}{st:St}{c:Operand}{x y b:Code}(K:AW P Y rf (.seq x b) Q st)(h:opd st.env c=.s (.bool true):=by exact rfl):AW P Y rf (.seq (.cond c x y) b) Q st:=aR h (fun _=>K) fun h=>by cases h
section
variable{P:Program}{env:Env}{m:Mem}{nx:Nat}{t:TypeId}{x y a:Operand}{d v:D}{k:IntKind}{n n':Int}{p q:TypeId}
theorem dO(hx:(opd env x).core=v):Ef P (.move x) env m nx ⟨True,v,[],[],0⟩:=⟨by simp only[bd,aZ,hx],rfl,rfl⟩
theorem jT(hx:(opd env x).core=v):Ef P (.assign x) env m nx ⟨True,v,[],[],0⟩:=⟨by simp only[bd,aZ,hx],rfl,rfl⟩
theorem RY(op:BinOp)(v:Value)(y:Operand):mG P m op t (.s v) y=none:=by
 unfold mG;split<;>first|rfl|(rename_i h;cases h)
theorem ac1{op:BinOp}{v w:Value}(h:∀ a b,v=.bool a->w=.bool b->False):um P op t (.s v) (.s w)=(q9 op v w).map fun r=>(r.1,.s r.2):=by
 cases v<;>cases w<;>first|rfl|exact(h _ _ rfl rfl).elim
theorem lN{op:BinOp}{v w u:Value}{pre:Prop}(hx:(opd env x).core=.s v)(hy:(opd env y).core=.s w)(hn:∀ a b,v=.bool a->w=.bool b->False)(hb:q9 op v w=some (pre,u)):Ef P (.binOp op t x y p) env m nx ⟨pre,.s u,[],[],0⟩:=
 ⟨by simp only[bd,aZ,hx,hy,RY,ac1 hn,hb,Option.map_some],rfl,rfl⟩
section ints
variable(hx:(opd env x).core=.s (.int k n))(hy:(opd env y).core=.s (.int k n'))
include hx hy
theorem GD:Ef P (.binOp .lss t x y p) env m nx ⟨k=k,.s (.bool (decide (n<n'))),[],[],0⟩:=lN hx hy oS rfl
theorem KD:Ef P (.binOp .leq t x y p) env m nx ⟨k=k,.s (.bool (decide (n<=n'))),[],[],0⟩:=lN hx hy oS rfl
theorem KE:Ef P (.binOp .gtr t x y p) env m nx ⟨k=k,.s (.bool (decide (n'<n))),[],[],0⟩:=lN hx hy oS rfl
theorem CT:Ef P (.binOp .geq t x y p) env m nx ⟨k=k,.s (.bool (decide (n'<=n))),[],[],0⟩:=lN hx hy oS rfl
theorem GF:Ef P (.binOp .eql t x y p) env m nx ⟨k=k,.s (.bool (n==n')),[],[],0⟩:=lN hx hy oS rfl
theorem KF:Ef P (.binOp .neq t x y p) env m nx ⟨k=k,.s (.bool (n !=n')),[],[],0⟩:=lN hx hy oS rfl
theorem ac2:Ef P (.binOp .add t x y p) env m nx ⟨k=k,.s (.int k (k.wrap (n+n'))),[],[],0⟩:=lN hx hy oS rfl
theorem ac3:Ef P (.binOp .sub t x y p) env m nx ⟨k=k,.s (.int k (k.wrap (n - n'))),[],[],0⟩:=lN hx hy oS rfl
theorem ac4:Ef P (.binOp .quo t x y p) env m nx ⟨k=k/\n'≠0,.s (.int k (k.wrap (n.tdiv n'))),[],[],0⟩:=lN hx hy oS rfl
theorem adX:Ef P (.binOp .rem t x y p) env m nx ⟨k=k/\n'≠0,.s (.int k (n.tmod n')),[],[],0⟩:=lN hx hy oS rfl
theorem SG:Ef P (.binOp .and t x y p) env m nx ⟨k=k,.s (.int k (lx .and k n n')),[],[],0⟩:=lN hx hy oS rfl
theorem ag5:Ef P (.binOp .or t x y p) env m nx ⟨k=k,.s (.int k (lx .or k n n')),[],[],0⟩:=lN hx hy oS rfl
end ints
theorem adY{k':IntKind}(hx:(opd env x).core=.s (.int k n))(hy:(opd env y).core=.s (.int k' n')):Ef P (.binOp .shl t x y p) env m nx ⟨0<=n',.s (.int k (k.wrap (n*2 ^ (min n'.toNat k.bits)))),[],[],0⟩:=lN hx hy oS rfl
theorem adZ{k':IntKind}(hx:(opd env x).core=.s (.int k n))(hy:(opd env y).core=.s (.int k' n')):Ef P (.binOp .shr t x y p) env m nx ⟨0<=n',.s (.int k (n.fdiv (2 ^ (min n'.toNat k.bits)))),[],[],0⟩:=lN hx hy oS rfl
theorem i64_in(n:Int)(h: -9223372036854775808<=n/\n<=9223372036854775807):IntKind.i64.wrap n=n:=Go.IntWalk.i64_in n h
theorem GG(hx:(opd env x).core=.s (.int .i64 n))(hy:(opd env y).core=.s (.int .i64 n'))(hb: -9223372036854775808<=n+n'/\n+n'<=9223372036854775807):Ef P (.binOp .add t x y p) env m nx ⟨IntKind.i64=IntKind.i64,.s (.int .i64 (n+n')),[],[],0⟩:=by
 have:=ac2 (P:=P) (m:=m) (nx:=nx) (t:=t) (p:=p) hx hy
 rwa[i64_in _ hb] at this
theorem KG(hx:(opd env x).core=.s (.int .i64 n))(hy:(opd env y).core=.s (.int .i64 n'))(hb: -9223372036854775808<=n - n'/\n - n'<=9223372036854775807):Ef P (.binOp .sub t x y p) env m nx ⟨IntKind.i64=IntKind.i64,.s (.int .i64 (n - n')),[],[],0⟩:=by
 have:=ac3 (P:=P) (m:=m) (nx:=nx) (t:=t) (p:=p) hx hy
 rwa[i64_in _ hb] at this
section strings
variable{s s':ByteArray}(hx:(opd env x).core=.s (.string s))(hy:(opd env y).core=.s (.string s'))
include hx hy
theorem J':Ef P (.binOp .eql t x y p) env m nx ⟨True,.s (.bool (s.toList==s'.toList)),[],[],0⟩:=lN hx hy oS rfl
theorem ac5:Ef P (.binOp .neq t x y p) env m nx ⟨True,.s (.bool !(s.toList==s'.toList)),[],[],0⟩:=lN hx hy oS rfl
theorem RZ:Ef P (.binOp .geq t x y p) env m nx ⟨True,.s (.bool !(Op.bytesLess s.toList s'.toList)),[],[],0⟩:=lN hx hy oS rfl
end strings
theorem R0{b C:Bool}(hx:(opd env x).core=.s (.bool b))(hy:(opd env y).core=.s (.bool C)):Ef P (.binOp .eql t x y p) env m nx ⟨sU P t=true,.s (.bool (b==C)),[],[],0⟩:=
 ⟨by simp only[bd,aZ,hx,hy,RY,um,Option.map_some],rfl,rfl⟩
theorem SH{b:Bool}(hx:(opd env x).core=.s (.bool b)):Ef P (.unOp .not t x) env m nx ⟨True,.s (.bool !b),[],[],0⟩:=⟨by simp only[bd,aZ,hx,yN,Option.map_some],rfl,rfl⟩
theorem Fj{z:List D}(hz:a7 P t=z):Ef P (.alloc t) env m nx ⟨aI P t=true,.rp nx 0,[(nx,some (.cells z t))],[],1⟩:=⟨by simp only[bd,hz],rfl,rfl⟩
theorem SI{cs:List D}(hx:(opd env x).core=d)(hc:d.cells=cs):Ef P (.box t x) env m nx ⟨cs.all D.one=true,.rp nx 0,[(nx,some (.cells cs t))],[],1⟩:=⟨by simp only[bd,aZ,hx,hc],rfl,rfl⟩
theorem F6(hx:(opd env x).core=d)(hc:d.cells=[d]):Ef P (.box t x) env m nx ⟨[d].all D.one=true,.rp nx 0,[(nx,some (.cells [d] t))],[],1⟩:=SI hx hc
theorem sg{cs:List D}(hx:(opd env x).core=.agg cs):Ef P (.box t x) env m nx ⟨cs.all D.one=true,.rp nx 0,[(nx,some (.cells cs t))],[],1⟩:=SI hx rfl
theorem R1{cs:List D}(hx:(opd env x).core=.pt (v::cs))(ha:bl P t=false):Ef P (.load t x) env m nx ⟨aI P t=true/\P.cellsOf t<=(v::cs).length,v,[],[],0⟩:=⟨by simp[bd,aZ,hx,gE,ha],rfl,rfl⟩
theorem j8{cs vs:List D}{n:Nat}(hx:(opd env x).core=.pt cs)(ha:bl P t=true)(hc:P.cellsOf t=n)(hv:cs.take n=vs):Ef P (.load t x) env m nx ⟨aI P t=true/\P.cellsOf t<=cs.length,.agg vs,[],[],0⟩:=⟨by simp[bd,aZ,hx,gE,ha,hc,hv],rfl,rfl⟩
theorem j9{i off:Nat}{cs cs':List D}{e:TypeId}(hx:(opd env x).core=.rp i off)(hm:m i=some (.cells cs e))(hd:cs.drop off=v::cs')(ha:bl P t=false):Ef P (.load t x) env m nx ⟨aI P t=true/\off+P.cellsOf t<=cs.length,v,[],[i],0⟩:=⟨by simp[bd,aZ,hx,hm,gE,ha,hd],rfl,rfl⟩
theorem ff{i off:Nat}{cs vs:List D}{e:TypeId}{n:Nat}(hx:(opd env x).core=.rp i off)(hm:m i=some (.cells cs e))(ha:bl P t=true)(hc:P.cellsOf t=n)(hv:(cs.drop off).take n=vs):Ef P (.load t x) env m nx ⟨aI P t=true/\off+P.cellsOf t<=cs.length,.agg vs,[],[i],0⟩:=⟨by simp[bd,aZ,hx,hm,gE,ha,hc,hv],rfl,rfl⟩
theorem QV{i off:Nat}{cs cs' vs:List D}{e:TypeId}(hx:(opd env x).core=.rp i off)(hy:(opd env y).core=d)(hm:m i=some (.cells cs e))(hv:d.cells=vs)(hs:gB cs off vs=cs'):
 Ef P (.store t x y) env m nx ⟨aI P t=true/\vs.length=P.cellsOf t/\off+P.cellsOf t<=cs.length/\vs.all D.one=true,.aM [],[(i,some (.cells cs' e))],[i],0⟩:=⟨by simp only[bd,aZ,hx,hy,hm,hv,hs],rfl,rfl⟩
theorem eF{i off:Nat}{cs cs':List D}{e:TypeId}(hx:(opd env x).core=.rp i off)(hy:(opd env y).core=d)(hm:m i=some (.cells cs e))(hv:d.cells=[d])(hs:cs.set off d=cs'):
 Ef P (.store t x y) env m nx ⟨aI P t=true/\[d].length=P.cellsOf t/\off+P.cellsOf t<=cs.length/\[d].all D.one=true,.aM [],[(i,some (.cells cs' e))],[i],0⟩:=QV hx hy hm hv hs
theorem fg{i off:Nat}{cs cs' vs:List D}{e:TypeId}(hx:(opd env x).core=.rp i off)(hy:(opd env y).core=.agg vs)(hm:m i=some (.cells cs e))(hs:gB cs off vs=cs'):
 Ef P (.store t x y) env m nx ⟨aI P t=true/\vs.length=P.cellsOf t/\off+P.cellsOf t<=cs.length/\vs.all D.one=true,.aM [],[(i,some (.cells cs' e))],[i],0⟩:=QV hx hy hm rfl hs
theorem QW{cs:List D}{j off:Nat}{C:TypeId}(hx:(opd env x).core=.pt cs)(hf:cg P t j=some (off,C)):Ef P (.fieldAddr t x j) env m nx ⟨0<P.cellsOf C,.pt (cs.drop off),[],[],0⟩:=⟨by simp only[bd,aZ,hx,hf],rfl,rfl⟩
theorem rQ{i o:Nat}{j off:Nat}{C:TypeId}{r:Row}(hx:(opd env x).core=.rp i o)(hm:m i=some r)(hf:cg P t j=some (off,C)):Ef P (.fieldAddr t x j) env m nx ⟨0<P.cellsOf C,.rp i (o+off),[],[i],0⟩:=⟨by simp only[bd,aZ,hx,hf,hm],rfl,rfl⟩
theorem F7{i o:Nat}{r:Row}(hx:(opd env x).core=.rp i o)(hm:m i=some r):Ef P (.nilCheck x) env m nx ⟨True,.rp i o,[],[i],0⟩:=⟨by simp only[bd,aZ,hx,hm],rfl,rfl⟩
theorem KH{es cs:List D}{l sz:Nat}{e:TypeId}(hx:(opd env x).core=.sl es l)(hy:(opd env y).core=.s (.int k n))(he:aF P t=e)(hs:P.cellsOf e=sz)(hd:es.drop (n.toNat*sz)=cs):
 Ef P (.indexAddr t x y) env m nx ⟨bg P t=true/\0<=n/\n<l/\(n.toNat+1)*sz<=es.length,.pt cs,[],[],0⟩:=⟨by simp only[bd,aZ,hx,hy,he,hs,hd],rfl,rfl⟩
theorem F8{j off l sz:Nat}{e:TypeId}{r:Row}(hx:(opd env x).core=.rs j off l)(hy:(opd env y).core=.s (.int k n))(hm:m j=some r)(he:aF P t=e)(hs:P.cellsOf e=sz):
 Ef P (.indexAddr t x y) env m nx ⟨bg P t=true/\0<=n/\n<l,.rp j (off+n.toNat*sz),[],[j],0⟩:=⟨by simp only[bd,aZ,hx,hy,hm,he,hs],rfl,rfl⟩
theorem ac6{j off sz l:Nat}{e:TypeId}{r:Row}(hx:(opd env x).core=.rp j off)(hy:(opd env y).core=.s (.int k n))(hm:m j=some r)(he:aF P t=e)(hs:P.cellsOf e=sz)(hl:ou P t=l):
 Ef P (.indexAddr t x y) env m nx ⟨nP P t=true/\0<=n/\n<l,.rp j (off+n.toNat*sz),[],[j],0⟩:=⟨by simp only[bd,aZ,hx,hy,hm,he,hs,hl],rfl,rfl⟩
section builtins
theorem vI{b:Builtin}{ts:Array TypeId}{args:Array Operand}{aS:List D}{e:dt}(hs:ts.size=args.size)(ha:args.toList.map (fun x=>(opd env x).core)=aS)(hb:fE P m nx b ts aS=some e):Ef P (.call { callee:=.builtin b,args:=args,argTypes:=ts }) env m nx e:=
 ⟨by simp only[bd];rw[if_pos hs];simp only[aZ];rw[ha,hb],rfl,rfl⟩
theorem SJ{es:List D}{l:Nat}(hx:(opd env x).core=.sl es l):Ef P (.call { callee:=.builtin .len,args:= #[x],argTypes:= #[t] }) env m nx ⟨bg P t=true,.s (.int .i64 l),[],[],0⟩:=vI (aS:=[.sl es l]) rfl (by simp[hx]) rfl
theorem F9{i off l:Nat}{r:Row}(hx:(opd env x).core=.rs i off l)(hm:m i=some r):Ef P (.call { callee:=.builtin .len,args:= #[x],argTypes:= #[t] }) env m nx ⟨bg P t=true,.s (.int .i64 l),[],[i],0⟩:=vI (aS:=[.rs i off l]) rfl (by simp[hx]) (by simp[fE,nF,hm])
theorem ac7(hx:(opd env x).core=.z):Ef P (.call { callee:=.builtin .len,args:= #[x],argTypes:= #[t] }) env m nx ⟨bg P t=true,.s (.int .i64 0),[],[],0⟩:=vI (aS:=[.z]) rfl (by simp[hx]) rfl
theorem Ka{b:ByteArray}(hx:(opd env x).core=.s (.string b)):Ef P (.call { callee:=.builtin .len,args:= #[x],argTypes:= #[t] }) env m nx ⟨fO P t=true,.s (.int .i64 b.size),[],[],0⟩:=vI (aS:=[.s (.string b)]) rfl (by simp[hx]) rfl
theorem ad0{k:IntKind}(hx:(opd env x).core=.s (.int k n))(hy:(opd env y).core=.s (.int k n')):Ef P (.call { callee:=.builtin .min,args:= #[x,y],argTypes:= #[t,t] }) env m nx ⟨k=k,.s (.int k (if n'<n then n' else n)),[],[],0⟩:=vI (aS:=[.s (.int k n),.s (.int k n')]) rfl (by simp[hx,hy]) rfl
structure Cells(m:Mem)(sz:Nat)(d:D)(p:Prop)(rd:List Nat)(k:Nat)(news:List D):Prop where
 ok:jx m sz d=some (p,rd,k,news)
theorem qI{es news:List D}{k sz:Nat}(h:es.take (k*sz)=news):Cells m sz (.sl es k) (k*sz<=es.length) [] k news:=⟨by simp[jx,h]⟩
theorem kN{i off k sz:Nat}{cs news:List D}{e:TypeId}(hm:m i=some (.cells cs e))(h:(cs.drop off).take (k*sz)=news):Cells m sz (.rs i off k) (off+k*sz<=cs.length) [i] k news:=⟨by simp[jx,hm,h]⟩
theorem Ac{p:Prop}{rd:List Nat}{c sz:Nat}{news:List D}{e:TypeId}(hx:(opd env x).core=.z)(hy:(opd env y).core=d)(he:aF P t=e)(hs:P.cellsOf e=sz)(hc:Cells m sz d p rd c news):
 Ef P (.call { callee:=.builtin .append,args:= #[x,y],argTypes:= #[t,t] }) env m nx ⟨bg P t=true/\p/\0<sz/\c<=maxLen/\c*P.bytesOf e<=140737488355328,.rs nx 0 c,[(nx,some (.cells news e))],rd,1⟩:=by
 refine vI (aS:=[.z,d]) rfl (by simp[hx,hy]) ?_;simp only[fE];rw[if_pos oS];simp only[qP,Array.getD_eq_getD_getElem?,List.getElem?_toArray,List.getElem?_cons_zero,Option.getD_some,he,hs,hc.ok]
theorem je{p:Prop}{rd:List Nat}{c sz i off l:Nat}{cs cs' news:List D}{e:TypeId}(hx:(opd env x).core=.rs i off l)(hm:m i=some (.cells cs e))(hy:(opd env y).core=d)(he:aF P t=e)(hs:P.cellsOf e=sz)(hc:Cells m sz d p rd c news)(hn:cs.drop off++news=cs'):
 Ef P (.call { callee:=.builtin .append,args:= #[x,y],argTypes:= #[t,t] }) env m nx ⟨bg P t=true/\e=e/\p/\0<sz/\off+l*sz=cs.length/\l+c<=maxLen/\(l+c)*P.bytesOf e<=140737488355328/\i∉rd,.rs nx 0 (l+c),[(i,none),(nx,some (.cells cs' e))],i::rd,1⟩:=by
 refine vI (aS:=[.rs i off l,d]) rfl (by simp[hx,hy]) ?_;simp only[fE];rw[if_pos oS];simp only[qP,Array.getD_eq_getD_getElem?,List.getElem?_toArray,List.getElem?_cons_zero,Option.getD_some,he,hs,hc.ok,hm,hn]
end builtins
theorem qE{cs cs':List D}{j:Nat}(hx:(opd env x).core=.aM cs)(hd:cs.drop j=v::cs'):Ef P (.extract x j) env m nx ⟨j<cs.length,v,[],[],0⟩:=by
 have h:cs[j]? =some v:=by
  have:(cs.drop j)[0]? =some v:=by rw[hd];rfl
  simpa using this
 exact⟨by simp[bd,aZ,hx,h],rfl,rfl⟩
theorem abQ{ps:Array (Nat×Operand)}{fs:Array Field}{cs z:List D}{C:List (Nat×D)}(hu:P.underlying t=some (.struct fs))(hz:a7 P t=z)(hq:(ps.toList.map fun q=>(q.1,(opd env q.2).core))=C)
 (hf:gF (fun i=>(fs[i]?).map fun f=>(f.offset,P.cellsOf f.type)) z C=some cs):Ef P (.build t ps) env m nx ⟨aI P t=true/\fs.toList.all (fun f=>(P.info? f.type).isSome)=true,.agg cs,[],[],0⟩:=
 ⟨by simp only[bd,aZ,hu,hz,hq,hf,Option.map_some],rfl,rfl⟩
theorem EU{ps:Array (Nat×Operand)}{fs:Array Field}{C:List (Nat×Nat)}{cs z:List D}{J:List (Nat×D)}(hu:P.underlying t=some (.struct fs))(hp:(fs.toList.map fun(f:Field)=>(f.offset,P.cellsOf f.type))=C)(hz:a7 P t=z)(hq:(ps.toList.map fun q=>(q.1,(opd env q.2).core))=J)
 (hf:gF (fun i=>C[i]?) z J=some cs):Ef P (.build t ps) env m nx ⟨aI P t=true/\fs.toList.all (fun f=>(P.info? f.type).isSome)=true,.agg cs,[],[],0⟩:=by
 refine abQ hu hz hq ?_
 have:(fun(i:Nat)=>(fs[i]?).map fun(f:Field)=>(f.offset,P.cellsOf f.type))=fun(i:Nat)=>C[i]? :=by
  funext i;rw[<- hp];simp
 rw[this];exact hf
theorem tq{ps:Array (Nat×Operand)}{l sz:Nat}{e:TypeId}{cs z:List D}{C:List (Nat×D)}(he:aF P t=e)(hs:P.cellsOf e=sz)(hz:a7 P e=z)(hq:(ps.toList.map fun q=>(q.1,(opd env q.2).core))=C)
 (hf:gF (fun i=>some (i*sz,sz)) (dz l z) C=some cs):Ef P (.buildSlice t l ps) env m nx ⟨cs.all D.one=true/\l*sz<=2 ^ 24/\bg P t=true/\l<=maxLen,.rs nx 0 l,[(nx,some (.cells cs e))],[],1⟩:=
 ⟨by simp only[bd,aZ,he,hs,hz,hq,hf,Option.map_some],rfl,rfl⟩
theorem Kb{f:Fn}{fs cs:Array Operand}{J C:List D}(hf:fs.toList.map (fun x=>(opd env x).core)=J)(hc:cs.toList.map (fun x=>(opd env x).core)=C):Ef P (.makeFunc f fs cs) env m nx ⟨True,.fn f J C,[],[],0⟩:=⟨by simp only[bd,aZ,hf,hc],rfl,rfl⟩
theorem ad1:Ef P (.makeMap t none) env m nx ⟨True,.mp nx,[(nx,some (.map []))],[],1⟩:=⟨by simp only[bd],rfl,rfl⟩
theorem B7{e:TypeId}{z:List D}(hx:(opd env x).core=.s (.int .i64 n))(hy:(opd env y).core=.s (.int .i64 n'))(he:aF P t=e)(hz:a7 P e=z):
 Ef P (.makeSlice t x y) env m nx ⟨0<=n/\n=n'/\n<=9223372036854775807/\P.bytesOf e*n<=281474976710656/\bg P t=true,.rs nx 0 n.toNat,[(nx,some (.cells (dz n.toNat z) e))],[],1⟩:=⟨by simp only[bd,aZ,hx,hy,he,hz],rfl,rfl⟩
theorem ac8{src:TypeId}{k':IntKind}(hx:(opd env x).core=.s (.int k n))(hu:P.underlying t=some (.int k')):Ef P (.convert src t x) env m nx ⟨aI P src=true,.s (.int k' (k'.wrap n)),[],[],0⟩:=⟨by simp only[bd,aZ,hx,hu],rfl,rfl⟩
theorem abR{src e:TypeId}{b:ByteArray}(hx:(opd env x).core=.s (.string b))(hu:P.underlying t=some (.slice e))(he:P.underlying e=some (.int .u8)):
 Ef P (.convert src t x) env m nx ⟨fO P src=true/\b.size<=maxLen,.sl (b.data.toList.map fun c=>.s (.int .u8 c.toNat)) b.size,[],[],0⟩:=⟨by simp only[bd,aZ,hx,hu,he],rfl,rfl⟩
def qJ(b:ByteArray):List Int:=b.data.toList.map fun c=>(c.toNat:Int)
theorem Wd(b:ByteArray):(qJ b).length=b.size:=by unfold qJ;rw[List.length_map];rfl
theorem PV{src e:TypeId}{b:ByteArray}(hx:(opd env x).core=.s (.string b))(hu:P.underlying t=some (.slice e))(he:P.underlying e=some (.int .u8)):
 Ef P (.convert src t x) env m nx ⟨fO P src=true/\b.size<=maxLen,.sl ((qJ b).map fun n=>.s (.int .u8 n)) (qJ b).length,[],[],0⟩:=by
 have:=abR (P:=P) (env:=env) (m:=m) (nx:=nx) (t:=t) (src:=src) hx hu he;have h:(qJ b).map (fun n=>D.s (.int .u8 n))=b.data.toList.map (fun c=>D.s (.int .u8 c.toNat)):=by rw[qJ,List.map_map];rfl
 rw[Wd,h];exact this
theorem JB{es es':List D}{l:Nat}{lo hi:Option Operand}{a b:Int}{e:TypeId}{sz:Nat}(hx:(opd env x).core=.sl es l)(he:aF P t=e)(hs:P.cellsOf e=sz)
 (ha:dX (lo.map fun x=>(opd env x).core) 0=some a) (hb:dX (hi.map fun x=>(opd env x).core) l=some b) (hd:(es.drop (a.toNat*sz)).take ((b - a).toNat*sz)=es'):
 Ef P (.slice t x lo hi none) env m nx ⟨bg P t=true/\0<=a/\a<=b/\b<=l,.sl es' (b - a).toNat,[],[],0⟩:=by
 refine⟨?_,rfl,rfl⟩;show mv P m t (opd env x).core (lo.map fun x=>(opd env x).core) (hi.map fun x=>(opd env x).core) (Option.map (fun x=>(opd env x).core) none)=_;rw[hx];simp only[mv,Option.map_none,ha,hb,he,hs,hd]
theorem EV{i off l:Nat}{cs:List D}{lo hi:Option Operand}{a b:Int}{e:TypeId}{sz:Nat}(hx:(opd env x).core=.rs i off l)(hm:m i=some (.cells cs e))(he:aF P t=e)(hs:P.cellsOf e=sz)
 (ha:dX (lo.map fun x=>(opd env x).core) 0=some a) (hb:dX (hi.map fun x=>(opd env x).core) l=some b):
 Ef P (.slice t x lo hi none) env m nx ⟨(bg P t=true/\sz=sz)/\0<=a/\a<=b/\b<=l,.rs i (off+a.toNat*sz) (b - a).toNat,[],[i],0⟩:=by
 refine⟨?_,rfl,rfl⟩;show mv P m t (opd env x).core (lo.map fun x=>(opd env x).core) (hi.map fun x=>(opd env x).core) (Option.map (fun x=>(opd env x).core) none)=_;rw[hx];simp only[mv,hm,Option.map_none,ha,hb,he,hs]
theorem EW{i:Nat}{es:List (Value×D)}{key:Value}{ok:Bool}{kt:TypeId}(hx:(opd env x).core=.mp i)(hm:m i=some (.map es))(hk:p6 (opd env y).core=some key)(ht:eB P t=kt)(hg:fz P t ok (cQ key es)=v):
 Ef P (.lookup t x y ok) env m nx ⟨fL P t=true/\cI P kt key=true/\es.all (fun e=>cI P kt e.1)=true,v,[],[i],0⟩:=by
 refine⟨?_,rfl,rfl⟩;show n4 P m t (opd env x).core (opd env y).core ok=_;simp only[n4,hk,hx,hm,ht,hg]
theorem zE{es:List (Value×D)}{key:Value}{ok:Bool}{kt:TypeId}(hx:(opd env x).core=.im es)(hk:p6 (opd env y).core=some key)(ht:eB P t=kt)(hg:fz P t ok (cQ key es)=v):
 Ef P (.lookup t x y ok) env m nx ⟨fL P t=true/\cI P kt key=true/\es.all (fun e=>cI P kt e.1)=true,v,[],[],0⟩:=by
 refine⟨?_,rfl,rfl⟩;show n4 P m t (opd env x).core (opd env y).core ok=_;simp only[n4,hk,hx,ht,hg]
theorem xB{i:Nat}{es:List (Value×D)}{key:Value}{z:Operand}{kt:TypeId}(hx:(opd env x).core=.mp i)(hm:m i=some (.map es))(hk:p6 (opd env y).core=some key)(hz:(opd env z).core=v)(ht:eB P t=kt):
 Ef P (.mapUpdate t x y z) env m nx ⟨fL P t=true/\cI P kt key=true/\es.all (fun e=>cI P kt e.1)=true,.aM [],[(i,some (.map (fY key v es)))],[i],0⟩:=by
 refine⟨?_,rfl,rfl⟩;show nh P m t (opd env x).core (opd env y).core (opd env z).core=_;simp only[nh,hk,hx,hm,ht,hz]
end
theorem na{α:Type}{f:α->D}:∀ {l:List α} {k:Nat} {x:α},l[k]? =some x->(l.map f).drop k=f x::(l.drop (k+1)).map f
 |[],k,x,h=>by simp at h
 |a::l,0,x,h=>by simp at h;subst h;rfl
 |a::l,k+1,x,h=>by simpa using na (f:=f) (l:=l) (k:=k) (by simpa using h)
theorem Pe{α:Type}{f:α->List D}{sz:Nat}(hs:∀ x,(f x).length=sz):∀ {l:List α} {k:Nat} {x:α},l[k]? =some x->(l.flatMap f).drop (k*sz)=f x++(l.drop (k+1)).flatMap f
 |[],k,x,h=>by simp at h
 |a::l,0,x,h=>by simp at h;subst h;simp
 |a::l,k+1,x,h=>by
  have h1:(k+1)*sz=(f a).length+k*sz:=by rw[hs];rw[Nat.add_mul];omega
  simp only[List.flatMap_cons,h1,List.drop_append,List.drop_succ_cons];rw[List.drop_of_length_le oG];have:(f a).length+k*sz - (f a).length=k*sz:=by omega
  rw[this];simpa using Pe hs (l:=l) (k:=k) (by simpa using h)
theorem Eu{α:Type}{f:α->List D}{sz:Nat}(hs:∀ x,(f x).length=sz):∀ (l:List α),(l.flatMap f).length=l.length*sz
 |[]=>by simp
 |a::l=>by simp only[List.flatMap_cons,List.length_append,hs,Eu hs l,List.length_cons,Nat.add_mul];omega
section
variable{P:Program}{env:Env}{m:Mem}{nx:Nat}{t e:TypeId}{x y:Operand}{k:IntKind}
theorem Ga{α:Type}{f:α->D}{l:List α}{i n:Nat}{z:α}(hx:(opd env x).core=.sl (l.map f) n)(hy:(opd env y).core=.s (.int k i))(he:aF P t=e)(hs:P.cellsOf e=1)(hz:l[i]? =some z):
 Ef P (.indexAddr t x y) env m nx ⟨bg P t=true/\0<=(i:Int)/\(i:Int)<n/\((i:Int).toNat+1)*1<=(l.map f).length,.pt (f z::(l.drop (i+1)).map f),[],[],0⟩:=
 KH hx hy he hs (by rw[iv,Nat.mul_one];exact na hz)
theorem R2{α:Type}{f:α->D}{l:List α}{i:Nat}{z:α}(ht:bg P t=true)(hz:l[i]? =some z):bg P t=true/\0<=(i:Int)/\(i:Int)<l.length/\((i:Int).toNat+1)*1<=(l.map f).length:=by
 have:=(bM.1 hz).1;exact⟨ht,oG,oG,by simp;omega⟩
theorem sk{α:Type}{f:α->List D}{sz:Nat}{l:List α}{i n:Nat}{z:α}(hx:(opd env x).core=.sl (l.flatMap f) n)(hy:(opd env y).core=.s (.int k i))(he:aF P t=e)(hs:P.cellsOf e=sz)(hl:∀ x,(f x).length=sz)(hz:l[i]? =some z):
 Ef P (.indexAddr t x y) env m nx ⟨bg P t=true/\0<=(i:Int)/\(i:Int)<n/\((i:Int).toNat+1)*sz<=(l.flatMap f).length,.pt (f z++(l.drop (i+1)).flatMap f),[],[],0⟩:=
 KH hx hy he hs (by rw[iv];exact Pe hl hz)
theorem sq{α:Type}{f:α->List D}{sz:Nat}{l:List α}{i:Nat}{z:α}(ht:bg P t=true)(hl:∀ x,(f x).length=sz)(hz:l[i]? =some z):bg P t=true/\0<=(i:Int)/\(i:Int)<l.length/\((i:Int).toNat+1)*sz<=(l.flatMap f).length:=by
 have:=(bM.1 hz).1;refine⟨ht,oG,oG,?_⟩;rw[Eu hl,iv];exact Nat.mul_le_mul_right _ this
theorem R3{v:D}{cs:List D}(ht:aI P t=true)(hc:P.cellsOf t=1):aI P t=true/\P.cellsOf t<=(v::cs).length:=⟨ht,by rw[hc];simp⟩
theorem ka{v:D}{cs cs':List D}{off:Nat}(ht:aI P t=true)(hc:P.cellsOf t=1)(hd:cs.drop off=v::cs'):aI P t=true/\off+P.cellsOf t<=cs.length:=by
 refine⟨ht,?_⟩;have:(cs.drop off).length=cs'.length+1:=by rw[hd];rfl
 rw[List.length_drop] at this;omega
theorem kb{n:Nat}{cs:List D}(ht:aI P t=true)(hc:P.cellsOf t=n)(hl:n<=cs.length):aI P t=true/\P.cellsOf t<=cs.length:=⟨ht,by rw[hc];exact hl⟩
theorem fh{n off:Nat}{cs:List D}(ht:aI P t=true)(hc:P.cellsOf t=n)(hl:off+n<=cs.length):aI P t=true/\off+P.cellsOf t<=cs.length:=⟨ht,by rw[hc];exact hl⟩
theorem pV{n:Nat}(hc:P.cellsOf t=n+1):0<P.cellsOf t:=by omega
theorem bY{n off:Nat}{cs vs:List D}(ht:aI P t=true)(hc:P.cellsOf t=n)(hv:vs.length=n/\off+n<=cs.length)(C:vs.all D.one=true):aI P t=true/\vs.length=P.cellsOf t/\off+P.cellsOf t<=cs.length/\vs.all D.one=true:=
 ⟨ht,by rw[hc];exact hv.1,by rw[hc];exact hv.2,C⟩
end
section
variable{P:Program}{K:D->St->Prop}{st:St}
theorem vy(h:K (.aM []) st):gX P [] K .ret st:=h
theorem vz(h:K (.aM []) st):gX P [] K .normal st:=h
theorem aJ{t:Nat}{d:D}(hd:st.env t=d)(h:K d st):gX P [.tmp t] K .ret st:=⟨trivial,by subst hd;exact h⟩
theorem fH{t u:Nat}{d e:D}(hd:st.env t=d)(he:st.env u=e)(h:K (.aM [d,e]) st):gX P [.tmp t,.tmp u] K .ret st:=⟨trivial,trivial,by subst hd;subst he;exact h⟩
theorem gP{a i off n:Nat}{ty e:TypeId}{cs vs:List D}(ha:st.env a=.rp i off)(hm:st.mem i=some (.cells cs e))(hg:bl P ty=true)(hc:P.cellsOf ty=n)(hv:(cs.drop off).take n=vs)(ht:aI P ty=true)(hl:off+n<=cs.length):
 ∃ p,nG P st (.cell a ty)=some (p,.agg vs)/\p:=⟨aI P ty=true/\off+n<=cs.length,by simp only[nG,ha,hm,gE,hg,if_true,hc,hv],ht,hl⟩
theorem tl{a i off:Nat}{ty e:TypeId}{cs cs':List D}{v:D}(ha:st.env a=.rp i off)(hm:st.mem i=some (.cells cs e))(hg:bl P ty=false)(hc:P.cellsOf ty=1)(hv:cs.drop off=v::cs')(ht:aI P ty=true):
 ∃ p,nG P st (.cell a ty)=some (p,v)/\p:=by
 have hl:off+1<=cs.length:=by
  have:(cs.drop off).length=cs'.length+1:=by rw[hv];rfl
  rw[List.length_drop] at this;omega
 exact⟨aI P ty=true/\off+1<=cs.length,by simp only[nG,ha,hm,gE,hg,Bool.false_eq_true,if_false,hc,hv,List.headD_cons],ht,hl⟩
theorem ss{a:Nat}{ty:TypeId}{d:D}(hr:∃ p,nG P st (.cell a ty)=some (p,d)/\p)(h:K d st):gX P [.cell a ty] K .ret st:=by
 obtain⟨p,h1,h2⟩:=hr;simp only[gX,nH,h1];exact⟨h2,h⟩
theorem mY{a t:Nat}{ty:TypeId}{d e:D}(hr:∃ p,nG P st (.cell a ty)=some (p,d)/\p)(he:st.env t=e)(h:K (.aM [d,e]) st):gX P [.cell a ty,.tmp t] K .ret st:=by
 obtain⟨p,h1,h2⟩:=hr;simp only[gX,nH,h1];exact⟨h2,trivial,by subst he;exact h⟩
end
section
variable{P:Program}{Y:eb}{rf:Bool}{Q:Exit->St->Prop}{st:St}
theorem aw{l:List (Nat×D)}{env:Env}{m:Mem}{nx:Nat}(h:kV l env):aL P ⟨env,m,nx⟩ ⟨aA l,m,nx⟩:=.forget env _ m nx (pD h)
def Lr(P:Program):List (Nat×List D×TypeId)->Mem->Prop
 |[],_=>True
 |(i,cs,e)::fs,m=>m i=some (.cells cs e)/\Lr P fs (fun j=>if j=i then none else(m j).map (Row.sub (cJ i cs (P.cellsOf e))))
def Bk(P:Program):List (Nat×List D×TypeId)->D->D
 |[],d=>d
 |(i,cs,e)::fs,d=>Bk P fs (sub (cJ i cs (P.cellsOf e)) d)
theorem Pg:∀ {fs:List (Nat×List D×TypeId)} {env:Env} {m:Mem} {nx:Nat},Lr P fs m->∃ m',aL P ⟨env,m,nx⟩ ⟨fun t=>Bk P fs (env t),m',nx⟩
 |[],env,m,nx,_=>⟨m,.refl _⟩
 |(i,cs,e)::fs,env,m,nx,⟨h1,h2⟩=>by
  obtain⟨m',h⟩:=Pg (env:=fun t=>sub (cJ i cs (P.cellsOf e)) (env t)) (nx:=nx) h2;exact⟨m',(aL.freeze env m nx i cs e h1).trans h⟩
theorem dE{env:Env}{m:Mem}{nx:Nat}(fs:List (Nat×List D×TypeId))(hf:Lr P fs m){l:List (Nat×D)}(hl:kV l fun t=>Bk P fs (env t)):aL P ⟨env,m,nx⟩ ⟨aA l,fun _=>none,nx⟩:=by
 obtain⟨m',h⟩:=Pg (env:=env) (nx:=nx) hf;exact h.trans ((aL.forget _ _ _ _ (pD hl)).trans (aL.drop _ _ _ _ fun _=>.inr rfl))
def k6(fU id:Nat)(next:St->Prop)(Q:Exit->St->Prop):Exit->St->Prop
 | .normal,s=>next s
 | .exit i,s=>if i=fU then next s else if i=id then Q .normal s else Q (.exit i) s
 |e,s=>Q e s
def xU(P:Program){α:Type}(S:α->St)(J:α->Prop)(μ:α->Nat)(x:α)(s:St):Prop:=∃ C,aL P s (S C)/\J C/\μ C<μ x
theorem bh{α:Type}{S:α->St}{J:α->Prop}{μ:α->Nat}{x:α}{s:St}(C:α)(hg:aL P s (S C))(M:J C)(U:μ C<μ x):xU P S J μ x s:=⟨C,hg,M,U⟩
theorem Cj[dA Y]{b:Code}{α:Type}(S:α->St)(J:α->Prop)(μ:α->Nat)(C:α)(hg:aL P st (S C))(X:J C)(h:∀ x,J x->AW P Y rf b (fM (xU P S J μ x) Q) (S x)){a:Code}(ha:∀ st,Q .normal st->Q .normal st):
 ∃ st',aL P st st'/\AW P Y rf (.loop b) Q st':=
 ⟨S C,hg,abX S J μ C rfl X fun x hx=>tF b (fun e st' hq=>by
  cases e with
  |normal=>
   obtain⟨M,h1,h2,U⟩:=hq;exact⟨S M,M,h1,rfl,h2,U⟩
  |_=>exact hq) (h x hx)⟩
variable{id fU t i1 i2 i3 i4:Nat}{rc ri:Array Oper}{body rest:Code}{α:Type}
theorem JH[dA Y]{ri:Array Oper}{next:St->Prop}{s:St}(h:AW P Y rf body (k6 fU id (fun s=>av P Y ri false [] (eQ next) ri.toList s []) Q) s):
 AW P Y rf (.seq (.block fU body) (.region i3 ri false)) (fM next (fx id Q)) s:=by
 refine tF body (fun e s h=>?_) h;have hr:∀ s,av P Y ri false [] (eQ next) ri.toList s []->∃ s',aL P s s'/\AW P Y rf (.region i3 ri false) (fM next (fx id Q)) s':=fun s h=>⟨s,.refl s,ly (rf:=rf) (id:=i3) (av.iJ h fun _ h=>h)⟩
 cases e with
 |normal=>exact hr s h
 |exit i=>
  simp only[k6] at h;simp only[fx];split at h
  .rename_i hi;rw[if_pos hi];exact hr s h
  .rename_i hi;rw[if_neg hi];simp only[fM,fx];exact h
 |_=>exact h
theorem cy[dA Y](S:α->St)(J:α->Prop)(μ:α->Nat)(C:α)(hg:aL P st (S C))(U:J C)
 (h:∀ x,J x->av P Y rc false [] (eQ fun s=>∃ g,opd s.env (.tmp t)=.s (.bool g)/\(g=true->AW P Y rf body (k6 fU id (fun s=>av P Y ri false [] (eQ (xU P S J μ x)) ri.toList s []) Q) s)/\(g=false->Q .normal s)) rc.toList (S x) []):
 ∃ st',aL P st st'/\AW P Y rf (.block id (.loop (.seq (.region i1 rc false) (.seq (.cond (.tmp t) .skip (.exit id)) (.seq (.block fU body) (.region i3 ri false)))))) Q st':=by
 refine Cj (Q:=fx id Q) S J μ C hg U (fun x hx=>?_) (a:=.skip) fun _ h=>h;refine ly (rf:=rf) (id:=i1) (av.iJ (h x hx) fun s hs=>?_);obtain⟨g,h1,h2,M⟩:=hs;refine⟨s,.refl s,ct h1 (fun X=>?_) fun yV=>?_⟩
 .exact bX (JH (h2 X))
 .refine tm ?_;simp only[fM,fx,if_true];exact M yV
theorem nt[dA Y](S:α->St)(J:α->Prop)(μ:α->Nat)(C:α)(hg:aL P st (S C))(U:J C)
 (h:∀ x,J x->av P Y rc false [] (eQ fun s=>∃ g,opd s.env (.tmp t)=.s (.bool g)/\(g=true->AW P Y rf body (k6 fU id (fun s=>av P Y ri false [] (eQ (xU P S J μ x)) ri.toList s []) Q) s)/\(g=false->Q .normal s)) rc.toList (S x) []):
 ∃ st',aL P st st'/\AW P Y rf (.block id (.loop (.seq (.seq (.region i1 rc false) (.cond (.tmp t) .skip (.exit id))) (.seq (.block fU body) (.region i3 ri false))))) Q st':=by
 refine Cj (Q:=fx id Q) S J μ C hg U (fun x hx=>?_) (a:=.skip) fun _ h=>h;refine aC (ly (rf:=rf) (id:=i1) (av.iJ (h x hx) fun s hs=>?_));obtain⟨g,h1,h2,M⟩:=hs;refine⟨s,.refl s,ct h1 (fun X=>?_) fun yV=>?_⟩
 .exact bX (JH (h2 X))
 .refine tm ?_;simp only[fM,fx,if_true];exact M yV
theorem P9[dA Y]{next:St->Prop}{s:St}(h:AW P Y rf body (k6 fU id next Q) s):AW P Y rf (.block fU body) (fM next (fx id Q)) s:=by
 refine tF body (fun e s h=>?_) h;cases e with
 |exit i=>
  simp only[k6] at h;simp only[fx];split at h
  .rename_i hi;rw[if_pos hi];exact h
  .rename_i hi;rw[if_neg hi];simp only[fM,fx];exact h
 |_=>exact h
theorem abY[dA Y](S:α->St)(J:α->Prop)(μ:α->Nat)(C:α)(hg:aL P st (S C))(U:J C)
 (h:∀ x,J x->av P Y rc false [] (eQ fun s=>∃ g,opd s.env (.tmp t)=.s (.bool g)/\(g=true->AW P Y rf body (k6 fU id (xU P S J μ x) Q) s)/\(g=false->Q .normal s)) rc.toList (S x) []):
 ∃ st',aL P st st'/\AW P Y rf (.block id (.loop (.seq (.seq (.region i1 rc false) (.cond (.tmp t) .skip (.exit id))) (.block fU body)))) Q st':=by
 refine Cj (Q:=fx id Q) S J μ C hg U (fun x hx=>?_) (a:=.skip) fun _ h=>h;refine aC (ly (rf:=rf) (id:=i1) (av.iJ (h x hx) fun s hs=>?_));obtain⟨g,h1,h2,M⟩:=hs;refine⟨s,.refl s,ct h1 (fun X=>?_) fun yV=>?_⟩
 .exact bX (P9 (h2 X))
 .refine tm ?_;simp only[fM,fx,if_true];exact M yV
theorem c7{s:St}(h:Q .normal s):AW P Y rf .skip Q s:=h
theorem bH{s:St}(h:Q .ret s):AW P Y rf .ret Q s:=h
theorem cv{next:St->Prop}{s:St}(h:Q .ret s):k6 fU id next Q .ret s:=h
theorem bD{K:St->Prop}{s:St}(h:Q .ret s):fM K Q .ret s:=h
theorem ez{s:St}(h:Q .ret s):fx id Q .ret s:=h
theorem Fp{s:St}(h:Q .ret s):Cw Q .ret s:=h
theorem Ge{next:St->Prop}{s:St}(h:next s):k6 fU id next Q (.exit fU) s:=by simp only[k6,if_true];exact h
theorem abZ{next:St->Prop}{s:St}(C:id≠fU)(h:Q .normal s):k6 fU id next Q (.exit id) s:=by simp only[k6,if_neg C,if_true];exact h
theorem ad6{i:Nat}{next:St->Prop}{s:St}(h2:i≠fU)(h1:i≠id)(h:Q (.exit i) s):k6 fU id next Q (.exit i) s:=by simp only[k6,if_neg h2,if_neg h1];exact h
theorem w7[dA Y]{a:Code}(h:AW P Y rf a (fx id (fM (fun st=>AW P Y rf rest Q st) Q)) st):AW P Y rf (.seq (.block id a) rest) Q st:=SM (fun st=>AW P Y rf rest Q st) (pE h) fun _ h=>h
theorem vA{s:St}(h:AW P Y rf rest Q s):AW P Y rf .skip (fx id (fM (fun st=>AW P Y rf rest Q st) Q)) s:=h
theorem tR[dA Y]{a:Code}(h:AW P Y rf a (fM (fun st=>AW P Y rf rest Q st) Q) st):AW P Y rf (.seq a rest) Q st:=SM _ h fun _ h=>h
theorem su[dA Y]{r:Array Oper}{i:Nat}{J:St->Prop}(h:av P Y r false [] (eQ J) r.toList st []):AW P Y rf (.region i r false) (fM J Q) st:=ly (rf:=rf) (id:=i) (av.iJ h fun _ h=>h)
theorem n5[dA Y]{r:Array Oper}{i:Nat}{J:St->Prop}(h:av P Y r false [] (eQ J) r.toList st []):AW P Y rf (.region i r false) (fx id (fM J Q)) st:=ly (rf:=rf) (id:=i) (av.iJ h fun _ h=>h)
theorem cO{J:St->Prop}(h:J st):AW P Y rf .skip (fM J Q) st:=h
theorem Je{J:St->Prop}(h:J st):AW P Y rf .skip (fx id (fM J Q)) st:=h
theorem cz[dA Y]{a:Code}(R:St->Prop)(h:∃ st',aL P st st'/\AW P Y rf a (fM R Q) st')(k:∀ s,R s->∃ s',aL P s s'/\AW P Y rf rest Q s'):∃ st',aL P st st'/\AW P Y rf (.seq a rest) Q st':=by
 obtain⟨st',hg,h⟩:=h;exact⟨st',hg,iC R h k⟩
end
def Real(d:D):Prop:=∃ F β w v,R F β w d v
theorem Real.sl{es:List D}{n:Nat}(h:Real (.sl es n)):n<=maxLen/\∀ d∈es,Real d:=by
 obtain⟨F,β,w,v,h⟩:=h;cases h with
 |gg=>simp[maxLen]
 |sl _ _ b o cap us hf hb ah ot dh hc hh=>
  refine⟨Nat.le_trans ot dh,fun d hd=>?_⟩;obtain⟨k,hk⟩:=ep hd;exact⟨F,β,w,_,hh k d hk⟩
theorem Real.agg{cs:List D}(h:Real (.agg cs)):∀ d∈cs,Real d:=by
 obtain⟨F,β,w,v,h⟩:=h;obtain⟨vs,rfl,hl,hh⟩:=h.rV;intro d hd;obtain⟨k,hk⟩:=ep hd;have:k<vs.length:=by rw[hl];exact(bM.1 hk).1
 exact⟨F,β,w,_,hh k d vs[k] hk (by simp[this])⟩
theorem Q7{F:Nat->Prop}{β:aE}{w:World}{args:List D}{vs:Array Value}(h:Rs F β w args vs):∀ a∈args,Real a:=fun a ha=>by
 obtain⟨k,hk⟩:=ep ha;have:k<vs.size:=by rw[h.1];exact(bM.1 hk).1
 exact⟨F,β,w,vs[k],h.2 k a _ hk (by simp[this])⟩
theorem mo{P:Program}{f:FuncId}{args:List D}{r:D}(he:n3 P f=true)(ht:∀ a∈args,Tr a)(h:(∀ a∈args,Real a)->aD P f args r):aD P f args r:=
 ⟨he,ht,fun F w vs J C=>(h (Q7 C)).2.2 F w vs J C⟩
theorem XE{P:Program}{f:FuncId}{args es:List D}{n:Nat}{t:TypeId}(he:n3 P f=true)(ht:∀ a∈args,Tr a)(h:(∀ a∈args,Real a)->kv P f args es n t):kv P f args es n t:=
 ⟨he,ht,fun F w vs J C=>(h (Q7 C)).2.2 F w vs J C⟩
section
variable{P:Program}{m:Mem}{rds:List Nat}
theorem cN{a:D}(h:Tr a):Sn P rds m a a:=fun _ _ _ _ _ hv=>h.At hv
theorem Aw{i off n:Nat}{cs es:List D}{e:TypeId}(hm:m i=some (.cells cs e))(hi:i∈rds)(J:(cs.drop off).take (n*P.cellsOf e)=es)(ht:∀ a∈es,Tr a):Sn P rds m (.rs i off n) (.sl es n):=fun F β w v hl hv=>by
 subst J;obtain⟨p,hp,hr,M⟩:=hl i hi _ hm;cases hv with
 |kG _ _ _ _ h1 _=>rw[h1] at hp;cases hp;cases hr
 |iO _ a h1=>
  rw[h1] at hp;cases hp;cases hr;simp only[List.drop_nil,List.take_nil];exact .gg a 0
 |jK _ _ a b o len room sz h1=>
  simp only[Nat.zero_mul,List.take_zero];exact .gg a 0
 |rs _ _ _ cap b o len room sz h1 hn dh h2 h3=>
  rw[h1] at hp;cases hp
  have ah:b<w.heap.size:=by
   cases hr with
   |cells _ _ _ _ _ _ c hb _ _ _ _=>exact(Array.getElem?_eq_some_iff.1 hb).1
  obtain⟨C,hl,bC,_⟩:=hr.rd;obtain⟨us,U,X⟩:=(C.drop off).take (n*P.cellsOf e);exact .sl _ n b (o+off) cap us (M b rfl) (fun k q hq=>by cases hq) ah hn dh U fun k d hk=>(ht d (bz hk)).At (X k d hk)
variable{Y:eb}{rf:Bool}{ops:Array Oper}{dr:Bool}{cf:List (Nat×Nat)}{Q:Exit->St->Prop}{rest:List Oper}{env:Env}{nx:Nat}{tr:jN}{t:Nat}{op:Op}{ty:TypeId}{pos:String}{after:Array Edge}
 {pre:Prop} {v:D} {rd:List Nat}
theorem Kj{j:Nat}{b:Bool}{u:Nat}{row:Row}(hj:(ops[j]?).bind (·.dst)=some u)(hg:jV (env u) b=some true)(he:Ef P op env m nx ⟨pre,v,[(nx,some row)],rd,1⟩)(ha:fN env op.operands.toList)(hp:pre)
 (K:av P Y ops dr cf Q rest ⟨up env t v,up m nx (some row),nx+1⟩ (tr++[(rd,[nx])])):av P Y ops dr cf Q (⟨some t,op,ty,pos,after,some (j,b)⟩::rest) ⟨env,m,nx⟩ tr:=
 aec hj hg he ha hp (fun h=>by cases h) K
theorem sv{j:Nat}{b:Bool}{u:Nat}{f:FuncId}{args C:List D}{r:D}{rds:List Nat}(h:aD P f C r)(hs:r.gn=true)(hj:(ops[j]?).bind (·.dst)=some u)(hg:jV (env u) b=some true)(hc:dI (aZ env op) op=some (f,args))(J:jr P rds m args C)(ha:fN env op.operands.toList)
 (K:av P Y ops dr cf Q rest ⟨up env t r,m,nx⟩ (tr++[(rds,[])])):av P Y ops dr cf Q (⟨some t,op,ty,pos,after,some (j,b)⟩::rest) ⟨env,m,nx⟩ tr:=
 aaz hj hg hc ha (.inr (.inl ⟨C,rds,r,J,h,hs,K⟩))
end
section
variable{P:Program}{Y:eb}{rf:Bool}{ops:Array Oper}{dr:Bool}{cf:List (Nat×Nat)}{Q:Exit->St->Prop}{rest:List Oper}{env:Env}{m:Mem}{nx:Nat}{tr:jN}{t:Nat}{ty:TypeId}{pos:String}{after:Array Edge}
theorem EK{j:Nat}{b0 C:Bool}{u:Nat}(hj:(ops[j]?).bind (·.dst)=some u)(hg:jV (env u) b0=some C){c a b:Operand}{x:Bool}(hc:(opd env c).core=.s (.bool true))(ha:(opd env a).core=.s (.bool x))
 (h0:C=true->(opd env c).ask) (h1:C=true->(opd env a).ask) (K:av P Y ops dr cf Q rest ⟨up env t (.cw C (.s (.bool x))),m,nx⟩ (tr++[([],[])])):
 av P Y ops dr cf Q (⟨some t,.pick c a b,ty,pos,after,some (j,b0)⟩::rest) ⟨env,m,nx⟩ tr:=by
 have he:=zT (P:=P) (env:=env) (m:=m) (nx:=nx) (a:=a) (b:=b) hc;simp only[ha,D.eV,Option.getD_some,if_true] at he;simp only[av];refine .inl ?_;simp only[iS];rw[hj];simp only[Option.bind_some];rw[hg,he.nc,he.ny,he.ok];exact⟨fun hc=>⟨by simp only[asks];exact h0 hc,fun _=>⟨h1 hc,rfl⟩,fun h=>by cases h⟩,K⟩
theorem EL{j:Nat}{b0 C:Bool}{u:Nat}(hj:(ops[j]?).bind (·.dst)=some u)(hg:jV (env u) b0=some C){c a b:Operand}{y:Bool}(hc:(opd env c).core=.s (.bool false))(hb:(opd env b).core=.s (.bool y))
 (h0:C=true->(opd env c).ask) (h1:C=true->(opd env b).ask) (K:av P Y ops dr cf Q rest ⟨up env t (.cw C (.s (.bool y))),m,nx⟩ (tr++[([],[])])):
 av P Y ops dr cf Q (⟨some t,.pick c a b,ty,pos,after,some (j,b0)⟩::rest) ⟨env,m,nx⟩ tr:=by
 have he:=zT (P:=P) (env:=env) (m:=m) (nx:=nx) (a:=a) (b:=b) hc;simp only[hb,D.eV,Option.getD_some,Bool.false_eq_true,if_false] at he;simp only[av];refine .inl ?_;simp only[iS];rw[hj];simp only[Option.bind_some];rw[hg,he.nc,he.ny,he.ok];exact⟨fun hc=>⟨by simp only[asks];exact h0 hc,fun h=>oH,fun _=>⟨h1 hc,rfl⟩⟩,K⟩
variable{id:Nat}{st:St}
theorem Qg[dA Y]{i:Nat}{J:St->Prop}(hi:bR ops=some cf)(h:av P Y ops true cf (eQ J) ops.toList st []):AW P Y rf (.region i ops true) (fx id (fM J Q)) st:=Af (rf:=rf) (id:=i) hi (av.iJ h fun _ h=>h)
theorem ab9[dA Y]{i:Nat}{J:St->Prop}(hi:bR ops=some cf)(h:av P Y ops true cf (eQ J) ops.toList st []):AW P Y rf (.region i ops true) (fM J Q) st:=Af (rf:=rf) (id:=i) hi (av.iJ h fun _ h=>h)
theorem aaA{r:Option Row}{i:Nat}(h:m i=r):∀ j,up (fun _=>none) i r j=m j\/up (fun _=>none) i r j=none:=fun j=>by
 by_cases hj:j=i
 .subst hj;left;rw[al,h]
 .right;rw[aB _ _ hj]
theorem zU[dA Y]{i fU:Nat}{next:St->Prop}(hi:bR ops=some cf)(h:av P Y ops true cf (eQ next) ops.toList st []):AW P Y rf (.region i ops true) (k6 fU id next Q) st:=Af (rf:=rf) (id:=i) hi (av.iJ h fun _ h=>h)
theorem fF[dA Y]{i fU:Nat}{next:St->Prop}(h:av P Y ops false [] (eQ next) ops.toList st []):AW P Y rf (.region i ops false) (k6 fU id next Q) st:=ly (rf:=rf) (id:=i) (av.iJ h fun _ h=>h)
def bu:List (Nat×Row)->Mem
 |[],_=>none
 |(i,r)::l,j=>if j=i then some r else bu l j
def CD:List (Nat×Row)->Mem->Prop
 |[],_=>True
 |(i,r)::l,m=>m i=some r/\CD l m
theorem JN:∀ {l:List (Nat×Row)} {m:Mem},CD l m->∀ i,bu l i=m i\/bu l i=none
 |[],_,_,_=>.inr rfl
 |(k,r)::l,m,h,i=>by
  simp only[bu];by_cases hi:i=k
  .subst hi;rw[if_pos rfl];exact .inl h.1.symm
  .rw[if_neg hi];exact JN h.2 i
theorem cq{l:List (Nat×D)}{ml:List (Nat×Row)}{m:Mem}{nx:Nat}(h:kV l env)(hm:CD ml m):aL P ⟨env,m,nx⟩ ⟨aA l,bu ml,nx⟩:=(aL.forget env _ m nx (pD h)).trans (.drop _ _ _ _ (JN hm))
end
theorem ai{α:Type}{f:Nat->α}{k j:Nat}{v r:α}(h:j≠k)(hf:f j=r):up f k v j=r:=(aB f v h).trans hf
theorem amM{β:Sort _}{M m:Mem}{i:Nat}{r:Option Row}(h:M=m)(x:β)(k:β->m i=r:=by intro x;repeat (first|exact x|exact rfl|exact al _ _ _|refine ai (by omega) ?_)):M i=r:=h ▸ k x
theorem amN{β:Sort _}{p:Prop}(x:β)(k:β->p:=by intro x;dsimp only;repeat (first|exact x|exact al _ _ _|refine ai (by omega) ?_)):p:=k x
theorem lQ{i off sz:Nat}{cs:List D}:sub (cJ i cs sz) (.rp i off)=.pt (cs.drop off):=by simp[sub,pg,cJ]
theorem AB{i off n sz:Nat}{cs:List D}:sub (cJ i cs sz) (.rs i off n)=.sl ((cs.drop off).take (n*sz)) n:=by simp[sub,pg,cJ]
theorem gk{i j off sz:Nat}{cs:List D}(h:j≠i):sub (cJ i cs sz) (.rp j off)=.rp j off:=by simp[sub,pg,cJ,h]
theorem zP{i j off n sz:Nat}{cs:List D}(h:j≠i):sub (cJ i cs sz) (.rs j off n)=.rs j off n:=by simp[sub,pg,cJ,h]
theorem B3{α:Type}{f:α->List D}{sz:Nat}(hs:∀ x,(f x).length=sz):∀ (l:List α) (k:Nat),(l.flatMap f).take (k*sz)=(l.take k).flatMap f
 |[],k=>by simp
 |x::l,0=>by simp
 |x::l,k+1=>by
  rw[List.flatMap_cons,List.take_succ_cons,List.flatMap_cons, <- B3 hs l k,show(k+1)*sz=(f x).length+k*sz by rw[hs x,Nat.add_mul];omega,List.take_length_add_append]
theorem acI{α:Type}{f:α->List D}{sz k:Nat}{l:List α}(hs:∀ x,(f x).length=sz)(hk:k<=l.length):
 D.sl (((l.flatMap f).drop ((0:Int).toNat*sz)).take (((k:Int) - 0).toNat*sz)) ((k:Int) - 0).toNat=D.sl ((l.take k).flatMap f) (l.take k).length:=by
 have h1:((k:Int) - 0).toNat=k:=by omega
 have h2:(0:Int).toNat*sz=0:=by simp
 rw[h1,h2,List.drop_zero,B3 hs,List.length_take,Nat.min_eq_left hk]
section
variable{P:Program}{env:Env}{m:Mem}{nx:Nat}{x y z:Operand}{t:TypeId}{v:D}
theorem aaF{i:Nat}{es:List (Value×D)}{key:Value}{kt:TypeId}(hx:(opd env x).core=.mp i)(hm:m i=some (.map es))(hk:p6 (opd env y).core=some key)(hz:(opd env z).core=v)(ht:eB P t=kt):
 Ef P (.insert t x y z) env m nx ⟨fL P t=true/\cI P kt key=true/\es.all (fun e=>cI P kt e.1)=true,.aM [],[(i,some (.map (fY key v es)))],[i],0⟩:=by
 refine⟨?_,rfl,rfl⟩;show nh P m t (opd env x).core (opd env y).core (opd env z).core=_;simp only[nh,hk,hx,hm,ht,hz]
variable{n n':Int}{k:IntKind}{c:Bool}{p:TypeId}{n0:Nat}
theorem Sb(hx:(opd env x).core=.s (.int k n))(hy:(opd env y).core=.s (.int k n'))(hd:decide (n'<n)=c):Ef P (.binOp .gtr t x y p) env m nx ⟨k=k,.s (.bool c),[],[],0⟩:=by subst hd;exact KE hx hy
theorem adn(hx:(opd env x).core=.s (.int k n))(hy:(opd env y).core=.s (.int k n'))(hd:decide (n<=n')=c):Ef P (.binOp .leq t x y p) env m nx ⟨k=k,.s (.bool c),[],[],0⟩:=by subst hd;exact KD hx hy
theorem Ag(hx:(opd env x).core=.s (.int k n))(hy:(opd env y).core=.s (.int k n'))(hd:(n==n')=c):Ef P (.binOp .eql t x y p) env m nx ⟨k=k,.s (.bool c),[],[],0⟩:=by subst hd;exact GF hx hy
theorem Sa(hx:(opd env x).core=.s (.int k n))(hy:(opd env y).core=.s (.int k n'))(hd:(n !=n')=c):Ef P (.binOp .neq t x y p) env m nx ⟨k=k,.s (.bool c),[],[],0⟩:=by subst hd;exact KF hx hy
theorem Sd(hx:(opd env x).core=.s (.int k n))(hy:(opd env y).core=.s (.int k n')){r:Int}(hd:k.wrap (n.tdiv n')=r):Ef P (.binOp .quo t x y p) env m nx ⟨k=k/\n'≠0,.s (.int k r),[],[],0⟩:=by subst hd;exact ac4 hx hy
theorem Se(hx:(opd env x).core=.s (.int k n))(hy:(opd env y).core=.s (.int k n')){r:Int}(hd:n.tmod n'=r):Ef P (.binOp .rem t x y p) env m nx ⟨k=k/\n'≠0,.s (.int k r),[],[],0⟩:=by subst hd;exact adX hx hy
theorem Ah(hx:(opd env x).core=.s (.int k n))(hy:(opd env y).core=.s (.int k n'))(hd:decide (n'<=n)=c):Ef P (.binOp .geq t x y p) env m nx ⟨k=k,.s (.bool c),[],[],0⟩:=by subst hd;exact CT hx hy
theorem ab'{j i l:Nat}{e:TypeId}{r:Row}(hx:(opd env x).core=.rp j 0)(hy:(opd env y).core=.s (.int k (i:Int)))(hm:m j=some r)(he:aF P t=e)(hs:P.cellsOf e=1)(hl:ou P t=l):
 Ef P (.indexAddr t x y) env m nx ⟨nP P t=true/\i<l,.rp j i,[],[j],0⟩:=by
 have h:=ac6 (P:=P) (env:=env) (m:=m) (nx:=nx) (t:=t) hx hy hm he hs hl;have h1:0+((i:Int)).toNat*1=i:=by simp
 have h2:(nP P t=true/\(0:Int)<=(i:Int)/\(i:Int)<l)=(nP P t=true/\i<l):=by
  apply propext;constructor
  .rintro⟨a,_,b⟩;exact⟨a,oG⟩
  .rintro⟨a,b⟩;exact⟨a,oG,oG⟩
 rw[h1,h2] at h;exact h
theorem nw{l:List D}{n:Nat}(h:l.length=n):(l.drop 0).take n=l:=by rw[List.drop_zero,dv oG]
theorem Sv{l:List D}{n:Nat}(h:l.length=n):l.take n=l:=dv oG
theorem JP{z l:List D}(hz:z.length=20)(hl:l.length=20):gB z 0 l=l:=by
 unfold gB;split
 .simp at hl
 .rw[List.take_zero,List.nil_append,List.drop_eq_nil_of_le oG,List.append_nil]
theorem Gh{es:List D}(hx:(opd env x).core=.sl es 0):Ef P (.binOp .eql t x (.const (.slice none 0 0)) p) env m nx ⟨bg P t=true,.ub,[],[],0⟩:=⟨by simp only[bd,aZ,hx,mG,if_true],rfl,rfl⟩
theorem Gi{es:List D}{l:Nat}(hx:(opd env x).core=.sl es l)(hl:l≠0):Ef P (.binOp .eql t x (.const (.slice none 0 0)) p) env m nx ⟨bg P t=true,.s (.bool false),[],[],0⟩:=⟨by simp only[bd,aZ,hx,mG,if_neg hl],rfl,rfl⟩
theorem vU{i off n sz:Nat}{cs es:List D}{e:TypeId}(hs:P.cellsOf e=sz)(h:(cs.drop off).take (n*sz)=es):Bk P [(i,cs,e)] (.rs i off n)=.sl es n:=by subst hs h;exact AB
theorem xc(h:env n0=.z):aL P ⟨env,m,nx⟩ ⟨aA [(n0,.sl [] 0)],fun _=>none,nx+1⟩:=by
 have h1:=aL.sd (P:=P) env m nx n0 0 h;have h2:=dE (P:=P) (env:=up env n0 (.rs nx 0 0)) (m:=up m nx (some (.cells [] 0))) (nx:=nx+1) [(nx,[],0)] ⟨al _ _ _,trivial⟩ (l:=[(n0,.sl [] 0)]) ⟨(congrArg _ (al _ _ _)).trans (vU (sz:=P.cellsOf 0) rfl oS),trivial⟩;exact h1.trans h2
theorem mN{rds:List Nat}:Sn P rds m .z (.sl [] 0):=fun F β w v _ hv=>by
 obtain⟨x,rfl⟩:=hv.tY;exact .gg x 0
theorem adK{rds:List Nat}{aS bs:List D}(h:jr P rds m aS bs):Sn P rds m (.agg aS) (.agg bs):=fun F β w v hl hv=>by
 obtain⟨vs,rfl,hn,hh⟩:=hv.rV;obtain⟨h1,h2⟩:=CM hl h;refine .agg _ vs oG fun k d u hd hu=>?_;have hk:k<aS.length:=by rw[h1];exact(bM.1 hd).1
 exact h2 k aS[k] d (by simp[hk]) hd u (hh k aS[k] u (by simp[hk]) hu)
theorem QC{l:List (Nat×D)}{m':Mem}(h:kV l env)(hm:∀ i,m' i=m i\/m' i=none):aL P ⟨env,m,nx⟩ ⟨aA l,m',nx⟩:=(aL.forget env _ m nx (pD h)).trans (.drop _ _ _ _ hm)
def Ma:List (Nat×List (Value×D))->Mem->Prop
 |[],_=>True
 |(i,es)::fs,m=>m i=some (.map es)/\Ma fs (fun j=>if j=i then none else(m j).map (Row.sub (yD i es)))
def NL:List (Nat×List (Value×D))->D->D
 |[],d=>d
 |(i,es)::fs,d=>NL fs (sub (yD i es) d)
theorem PB:∀ {fs:List (Nat×List (Value×D))} {env:Env} {m:Mem} {nx:Nat},Ma fs m->∃ m',aL P ⟨env,m,nx⟩ ⟨fun t=>NL fs (env t),m',nx⟩
 |[],env,m,nx,_=>⟨m,.refl _⟩
 |(i,es)::fs,env,m,nx,⟨h1,h2⟩=>by
  obtain⟨m',h⟩:=PB (env:=fun t=>sub (yD i es) (env t)) (nx:=nx) h2;exact⟨m',(aL.Ce env m nx i es h1).trans h⟩
theorem abr(fs:List (Nat×List (Value×D)))(hf:Ma fs m){l:List (Nat×D)}(hl:kV l fun t=>NL fs (env t)):aL P ⟨env,m,nx⟩ ⟨aA l,fun _=>none,nx⟩:=by
 obtain⟨m',h⟩:=PB (P:=P) (env:=env) (nx:=nx) hf;exact h.trans ((aL.forget _ _ _ _ (pD hl)).trans (aL.drop _ _ _ _ fun _=>.inr rfl))
end
end Go.Abs
namespace Go.Argus
open Go.Abs
abbrev I(n:Int):D:=.s (.int .i64 n)
abbrev U8(n:Int):D:=.s (.int .u8 n)
abbrev B(b:Bool):D:=.s (.bool b)
abbrev S(s:ByteArray):D:=.s (.string s)
abbrev aQ(l:List Int):D:=.sl (l.map I) l.length
abbrev iA(l:List Int):D:=.sl (l.map U8) l.length
abbrev bZ(l:List ByteArray):D:=.sl (l.map S) l.length
structure cV where
 op:Int
 to:Int
 a:Int
 b:Int
 n:Int
 args:List Int
structure iK where
 name:ByteArray
 to:Int
structure End where
 kind:Int
 a:Int
 b:Int
 to:Int
 gN:Int
 name:ByteArray
 ins:cV
 args:List Int
 aU:List iK
 others:Int
structure bI where
 ins:List cV
 fin:End
structure au where
 name:ByteArray
 iter:Bool
 args:Int
 result:Int
 aW:List Int
 cr:List Int
 signals:List ByteArray
 blocks:List bI
def cA(x:cV):List D:=[U8 x.op,I x.to,I x.a,I x.b,I x.n,aQ x.args]
def gR(w:iK):List D:=[S w.name,I w.to]
def lz(l:List iK):D:=.sl (l.flatMap gR) l.length
def lD(l:List cV):D:=.sl (l.flatMap cA) l.length
def bE(x:End):List D:=[U8 x.kind,I x.a,I x.b,I x.to,I x.gN,S x.name,U8 x.ins.op,I x.ins.to,I x.ins.a,I x.ins.b,I x.ins.n,aQ x.ins.args,aQ x.args,lz x.aU,I x.others]
def bS(b:bI):List D:=lD b.ins::bE b.fin
def cL(l:List bI):D:=.sl (l.flatMap bS) l.length
def aY(f:au):List D:=[S f.name,B f.iter,I f.args,U8 f.result,iA f.aW,iA f.cr,bZ f.signals,cL f.blocks]
def a6(p q:D)(f:au):List D:=[S f.name,B f.iter,I f.args,U8 f.result,iA f.aW,iA f.cr,bZ f.signals,cL f.blocks,p,q]
@[simp] theorem al7 (p q : D) (x : au) : (a6 p q x).length = 10 := rfl
@[simp] theorem ama (x : cV) : (cA x).length = 6 := rfl
@[simp] theorem al8 (x : iK) : (gR x).length = 2 := rfl
@[simp] theorem amb (x : End) : (bE x).length = 15 := rfl
@[simp] theorem al4 (x : bI) : (bS x).length = 16 := rfl
@[simp] theorem al9 (x : au) : (aY x).length = 8 := rfl
theorem Pm(x:cV):(cA x).length=6:=rfl
theorem IM(x:iK):(gR x).length=2:=rfl
theorem u7(x:bI):(bS x).length=16:=rfl
theorem vd(x:au):(aY x).length=8:=rfl
def mH{α:Type}(p:α->Bool)(l:List α):Int:=match l.findIdx? p with
 |some i=>i
 |none=> -1
theorem tu{α:Type}{p:α->Bool}{l:List α}{k:Nat}{x:α}(hx:l[k]? =some x)(hp:p x=true)(h:∀ j y,j<k->l[j]? =some y->p y=false):mH p l=k:=by
 have:l.findIdx? p=some k:=by
  rw[List.findIdx?_eq_some_iff_getElem];obtain⟨hk,he⟩:=bM.1 hx;refine⟨hk,by rw[he];exact hp,fun j hj=>?_⟩;have:=h j l[j] hj (by simp[show j<l.length by omega]);simp[this]
 simp[mH,this]
theorem w9{α:Type}{p:α->Bool}{l:List α}(h:∀ (j:Nat) y,l[j]? =some y->p y=false):mH p l= -1:=by
 have:l.findIdx? p=none:=by
  rw[List.findIdx?_eq_none_iff];intro x hx;obtain⟨j,hj⟩:=ep hx;exact h j x hj
 simp[mH,this]
theorem zO{α:Type}(p:α->Bool)(l:List α):decide (0<=mH p l)=l.any p:=by
 unfold mH;cases h:l.findIdx? p with
 |none=>
  rw[List.findIdx?_eq_none_iff] at h;have:l.any p=false:=List.any_eq_false.2 fun x hx=>by simp[h x hx]
  simp[this]
 |some i=>
  obtain⟨hi,hp,_⟩:=List.findIdx?_eq_some_iff_getElem.1 h;have:l.any p=true:=List.any_eq_true.2 ⟨l[i],oS,hp⟩;simp[this]
theorem c6(l:List Int):Tr (aQ l):=.sl (.map fun _=>.s _)
theorem o0(l:List Int):Tr (iA l):=.sl (.map fun _=>.s _)
theorem jb(l:List ByteArray):Tr (bZ l):=.sl (.map fun _=>.s _)
theorem xj(x:cV):∀ a∈cA x,Tr a:=.cons (.s _) (.cons (.s _) (.cons (.s _) (.cons (.s _) (.cons (.s _) (.cons (c6 _) .nil)))))
theorem Fa(x:iK):∀ a∈gR x,Tr a:=.cons (.s _) (.cons (.s _) .nil)
theorem ja(l:List iK):Tr (lz l):=.sl (.flat Fa)
theorem acJ(l:List cV):Tr (lD l):=.sl (.flat xj)
theorem qQ(x:End):∀ a∈bE x,Tr a:=.cons (.s _) (.cons (.s _) (.cons (.s _) (.cons (.s _) (.cons (.s _) (.cons (.s _) (.cons (.s _) (.cons (.s _) (.cons (.s _) (.cons (.s _) (.cons (.s _) (.cons (c6 _) (.cons (c6 _) (.cons (ja _) (.cons (.s _) .nil))))))))))))))
theorem Pu(x:bI):∀ a∈bS x,Tr a:=.cons (acJ _) (qQ _)
theorem PC(l:List bI):Tr (cL l):=.sl (.flat Pu)
theorem nb(x:au):∀ a∈aY x,Tr a:=.cons (.s _) (.cons (.s _) (.cons (.s _) (.cons (.s _) (.cons (o0 _) (.cons (o0 _) (.cons (jb _) (.cons (PC _) .nil)))))))
theorem Ca{p q:D}(hp:Tr p)(hq:Tr q)(x:au):∀ a∈a6 p q x,Tr a:=.cons (.s _) (.cons (.s _) (.cons (.s _) (.cons (.s _) (.cons (o0 _) (.cons (o0 _) (.cons (jb _) (.cons (PC _) (.cons hp (.cons hq .nil)))))))))
theorem kf{p q:D}(hp:Tr p)(hq:Tr q)(x:au):Tr (.agg (a6 p q x)):=.agg (Ca hp hq x)
theorem rR{p q:D}{f:au}(h1:p.one=true)(h2:q.one=true):(a6 p q f).all D.one=true:=by
 simp only[a6,List.all_cons,List.all_nil,h1,h2];rfl
abbrev cP(n:Int):D:=.s (.int .u64 n)
abbrev gp(w:List Int):D:=.agg (w.map cP)
theorem nJ(w:List Int):(w.map cP).all D.one=true:=bV.2 fun x hx=>by obtain⟨y,_,rfl⟩:=List.mem_map.1 hx;rfl
theorem aaE{w:List Int}{i:Nat}{x:Int}:((w.map cP).set i (cP x)).all D.one=true:=by rw[<- List.map_set];exact nJ _
theorem qb(w:List Int):Tr (gp w):=.agg (.map fun _=>.s _)
def wu(a b:Int):Int:=lx .and .u64 a b
def Nz(a b:Int):Int:=lx .or .u64 a b
def CW(w:List Int)(m:Nat):List Int:=w.set (m / 64) (Nz (w.getD (m / 64) 0) (IntKind.u64.wrap (1*2 ^ (min (m % 64) 64))))
def p9(w:List Int)(m:Nat):Bool:=wu ((w.getD (m / 64) 0).fdiv (2 ^ (min (m % 64) 64))) 1==1
def qZ(w:List Int)(n:Int):List Int:=if 0<=n then CW w n.toNat else w
def gU(w v:List Int):Nat->List Int
 |0=>w
 |k+1=>(gU w v k).set k (wu ((gU w v k).getD k 0) (v.getD k 0))
def mB(w v:List Int):List Int:=gU w v 20
@[simp] theorem PE (w v : List Int) : ∀ k, (gU w v k).length = w.length
 |0=>rfl
 |k+1=>by simp[gU,PE w v k]
@[simp] theorem ame (w : List Int) (m : Nat) : (CW w m).length = w.length := by simp [CW]
@[simp] theorem amf (w : List Int) (n : Int) : (qZ w n).length = w.length := by unfold qZ; split <;> simp
@[simp] theorem Pw (w v : List Int) : (mB w v).length = w.length := PE w v 20
theorem wrap_i64{n:Nat}(h:n<2 ^ 62):IntKind.i64.wrap (n:Int)=n:=by
 unfold IntKind.wrap;simp[IntKind.signed,IntKind.bits];omega
theorem S6{m:Nat}(h:m<2 ^ 62):IntKind.i64.wrap ((m:Int).tdiv 64)=((m / 64:Nat):Int):=by
 rw[show(m:Int).tdiv 64=((m / 64:Nat):Int) from by rw[Int.tdiv_eq_ediv_of_nonneg oG];omega];exact wrap_i64 oG
theorem S7(m:Nat):(m:Int).tmod 64=((m % 64:Nat):Int):=by rw[Int.tmod_eq_emod_of_nonneg oG];omega
theorem ib(a b:Int):(a==b)=decide (a=b):=rfl
def jw(n a b:Int):Bool:=decide (a<=n)&&decide (n<=b)
def E8(b:Int):Bool:=decide (b<33)||decide (126<b)
def n9(s:ByteArray):Bool:=jw s.size 1 120&& !(qJ s).any E8
def E9(b:Int):Bool:=(decide (b<97)||decide (122<b))&&(decide (b<48)||decide (57<b))
def isName(s:ByteArray):Bool:=jw s.size 1 12&& !(qJ s).any E9
def B'(C k:Int):Bool:=decide (k<1)||decide (C<k)
def tK(l:List Int)(C:Int):Bool:= !l.any (B' C)
def dx(l:List Int)(r:Int):Int:=if 0<=r then l.getD r.toNat 0 else 0
theorem Js{l:List Int}{i:Nat}{x:Int}(h:l[i]? =some x):dx l i=x:=by
 simp[dx,du,h]
theorem Py{l:List Int}{r:Int}(h:¬ (0<=r/\r<l.length)):dx l r=0:=by
 unfold dx;split
 .rename_i h0;have:l.length<=r.toNat:=by omega
  simp[du,List.getElem?_eq_none this]
 .rfl
theorem kP{n a b:Int}:jw n a b=true↔a<=n/\n<=b:=by simp[jw]
theorem ZM{n a b:Int}:jw n a b=false↔¬ (a<=n/\n<=b):=by
 rw[<- Bool.not_eq_true,kP]
def oa(l:List Int)(r:Int):Bool:=dx l r==1||dx l r==2
def qR(l rs:List Int):Bool:=rs.all (oa l)
def yg(l cr:List Int)(r n:Int):Bool:=jw n 0 (cr.length - 1)&&(dx l r==dx cr n)
def o7(l:List Int)(r want of:Int):Bool:=
 if want=0 then r==0 else if want=1 then dx l r==1 else if want=2 then dx l r==2 else if want=3 then oa l r
 else dx l r !=0&&dx l r==of
structure Shape where
 to:Int
 a:Int
 b:Int
 args:Int
 low:Int
 high:Int
def jz(s:Shape):List D:=[I s.to,I s.a,I s.b,I s.args,I s.low,I s.high]
@[simp] theorem al5 (x : Shape) : (jz x).length = 6 := rfl
theorem PA(x:Shape):∀ a∈jz x,Tr a:=.cons (.s _) (.cons (.s _) (.cons (.s _) (.cons (.s _) (.cons (.s _) (.cons (.s _) .nil)))))
def zR(l:List Int)(x:cV)(s:Shape):Int:=if s.to=0\/s.to=1 then dx l x.a else dx l x.to
def wZ(l:List Int)(x:cV)(s:Shape):Bool:=if s.args=5 then jw x.args.length 1 6&&qR l x.args else if s.args=6 then decide ((x.args.length:Int)=1)&&qR l x.args else decide ((x.args.length:Int)=0)
def vr(l:List Int)(x:cV)(s:Shape):Bool:=
 o7 l x.to s.to 0&&(o7 l x.a s.a (zR l x s)&&(o7 l x.b s.b (zR l x s)&&(wZ l x s&&jw x.n s.low s.high)))
def qj(l:List (Int×Shape)):List (Value×D):=l.map fun x=>(.int .u8 x.1,.agg (jz x.2))
def z1:Shape:=⟨0,0,0,0,0,0⟩
def jA(l:List (Int×Shape))(op:Int):Option Shape:=(l.find? fun x=>x.1==op).map (·.2)
def oc:List (Int×Shape):=[(1,⟨1,0,0,0, -1000000000,1000000000⟩),(2,⟨3,4,0,0,0,0⟩),(3,⟨1,1,1,0,0,0⟩),(4,⟨1,1,1,0,0,0⟩),(5,⟨1,3,4,0,0,0⟩),(6,⟨1,1,1,0,0,0⟩),(7,⟨1,1,1,0,0,0⟩),(8,⟨1,1,0,0,0,0⟩),
 (9,⟨2,0,0,0,0,1⟩),(10,⟨2,0,0,5,0,5⟩),(11,⟨3,2,0,0,0,5⟩),(12,⟨0,2,3,0,0,5⟩),(13,⟨1,2,0,0,0,0⟩),(14,⟨1,2,0,0,0,0⟩),(15,⟨0,1,0,0,0,0⟩)]
def np:List (Int×Shape):=[(30,⟨1,1,1,0,0,0⟩),(31,⟨1,1,1,0,0,0⟩),(32,⟨1,1,1,0,0,0⟩),(33,⟨1,1,1,0,0,0⟩),(34,⟨1,1,1,0,0,0⟩),(35,⟨0,2,3,0,0,0⟩),(36,⟨3,2,0,0,0,0⟩),(37,⟨3,2,1,0,0,0⟩),(38,⟨0,2,1,6,0,0⟩)]
theorem AI(l:List (Int×Shape)):Tr (.im (qj l)):=.im fun x hx=>by
 obtain⟨y,_,rfl⟩:=List.mem_map.1 hx;exact .agg (PA _)
theorem RG(op:Int):∀ l:List (Int×Shape),(cQ (.int .u8 op) (qj l)).map (·.2)=(jA l op).map fun s=>.agg (jz s)
 |[]=>rfl
 |(o,s)::l=>by
  have ih:=RG op l;unfold qj at ih ⊢;simp only[List.map_cons,cQ,kJ,p0,jA,List.find?_cons] at ih ⊢;by_cases h:o=op
  .subst h;simp
  .have hb:(o==op)=false:=by simpa using h
   simp only[hb,beq_self_eq_true,Bool.and_false,Bool.false_eq_true,if_false,Option.map_map] at ih ⊢;exact ih
theorem Sx{P:Program}{t:TypeId}{C:D}(hz:lM P (la P t)=C)(op:Int)(l:List (Int×Shape))(J:C=.agg (jz z1)):fz P t true (cQ (.int .u8 op) (qj l))=.aM [.agg (jz ((jA l op).getD z1)),.s (.bool (jA l op).isSome)]:=by
 have h:=RG op l;cases h1:cQ (.int .u8 op) (qj l) with
 |none=>
  rw[h1] at h;have:jA l op=none:=by simpa using h.symm
  simp only[fz,this,hz,J,Option.getD_none,Option.isSome_none,if_true]
 |some x=>
  rw[h1] at h;cases h2:jA l op with
  |none=>rw[h2] at h;simp at h
  |some s=>
   rw[h2] at h;obtain⟨i,d⟩:=x;simp only[Option.map_some,aH] at h;subst h;simp[fz]
theorem RF{P:Program}{kt:TypeId}(hk:P.underlying kt=some (.int .u8))(l:List (Int×Shape)):(qj l).all (fun e=>cI P kt e.1)=true:=by
 refine bV.2 fun x hx=>?_;obtain⟨y,_,rfl⟩:=List.mem_map.1 hx;simp[cI,hk]
def dm(a b:Int):Bool:=decide (a=b)
def tX(x:cV):Bool:=decide ((x.args.length:Int)=0)
def kY(f:au)(b:Int)(x:cV)(phis:Bool)(ahead:Int):Bool:=
 if x.op=16 then dm x.to 0&&(dm (dx f.aW x.a) 3&&(dm x.b 0&&(dm x.n 0&&tX x)))
 else if x.op=17 then dm x.a 0&&(dm x.b 0&&(tX x&&yg f.aW f.cr x.to x.n))
 else if x.op=18 then dm x.to 0&&(dm x.b 0&&(tX x&&yg f.aW f.cr x.a x.n))
 else if x.op=19 then phis&&(decide (0<b)&&(oa f.aW x.to&&(dm x.a 0&&(dm x.b 0&&(dm x.n 0&&(dm x.args.length ahead&& !x.args.any fun r=> !dm (dx f.aW r) (dx f.aW x.to)))))))
 else(jA oc x.op).isSome&&vr f.aW x ((jA oc x.op).getD z1)
def Gm(x:cV):Bool:=decide (x.op=0)&&(decide (x.to=0)&&(decide (x.a=0)&&(decide (x.b=0)&&(decide (x.n=0)&&decide ((x.args.length:Int)=0)))))
def vV(x:End):Bool:=decide (x.kind=0)&&(decide (x.a=0)&&(decide (x.b=0)&&(decide (x.to=0)&&(decide (x.gN=0)&&(x.name.toList==[]&&(decide (x.others= -1)&&(decide ((x.args.length:Int)=0)&&(decide ((x.aU.length:Int)=0)&&Gm x.ins))))))))
def ei(f:au)(n:Int):Bool:=jw n 0 (f.blocks.length - 1)
def q7(f:au)(wsq:List iK)(i:Nat)(w:iK):Bool:=isName w.name&&(ei f w.to&& !(wsq.take i).any fun v=>v.name.toList==w.name.toList)
def Gn(f:au)(wsq:List iK):Bool:=wsq.zipIdx.all fun x=>q7 f wsq x.2 x.1
theorem Xn{f:au}{wsq:List iK}(h:∀ (i:Nat) w,wsq[i]? =some w->q7 f wsq i w=true):Gn f wsq=true:=by
 refine bV.2 fun x hx=>?_;obtain⟨h1,h2⟩:=List.mem_zipIdx' hx;exact h x.2 x.1 (by rw[h2];simp[h1])
theorem WN{f:au}{wsq:List iK}{i:Nat}{w:iK}(C:wsq[i]? =some w)(h:q7 f wsq i w=false):Gn f wsq=false:=by
 refine Bool.eq_false_iff.2 fun ht=>?_;have hx:(w,i)∈wsq.zipIdx:=List.mem_zipIdx_iff_getElem?.2 C;have:=bV.1 ht _ hx;rw[h] at this;cases this
def n2(f:au)(x:End):Bool:=Gn f x.aU&&(decide ((x.aU.length:Int)<=7)&&(decide (x.others= -1)||ei f x.others))
def xF:cV:=⟨0,0,0,0,0,[]⟩
def eJ(f:au)(x:End):Bool×End:=
 let r:End:={ x with kind:=0 }
 if x.kind=1 then(ei f x.to,{ r with to:=0 })
 else if x.kind=2 then(dm (dx f.aW x.a) 1&&(ei f x.to&&ei f x.gN),{ r with a:=0,to:=0,gN:=0 })
 else if x.kind=3 then(if f.result≠0/\f.iter=false then dm (dx f.aW x.a) f.result else dm x.a (-1),{ r with a:=0 })
 else if x.kind=4 then(isName x.name,{ r with name:=.empty })
 else if x.kind=5 then((jA np x.ins.op).isSome&&(vr f.aW x.ins ((jA np x.ins.op).getD z1)&&(ei f x.to&&n2 f x)),{ r with ins:=xF,to:=0,aU:=[],others:= -1 })
 else if x.kind=6 then(n9 x.name&&(decide ((x.args.length:Int)<=6)&&(qR f.aW x.args&&((dm x.a (-1)||oa f.aW x.a)&&(ei f x.to&&n2 f x)))),{ r with name:=.empty,args:=[],a:=0,to:=0,aU:=[],others:= -1 })
 else if x.kind=7 then(n9 x.name&&(decide ((x.args.length:Int)<=6)&&(qR f.aW x.args&&(dm (dx f.aW x.a) 3&&ei f x.to))),{ r with name:=.empty,args:=[],a:=0,to:=0 })
 else if x.kind=8 then(dm (dx f.aW x.a) 3&&(oa f.aW x.b&&(ei f x.to&&(ei f x.gN&&n2 f x))),{ r with a:=0,b:=0,to:=0,gN:=0,aU:=[],others:= -1 })
 else if x.kind=9 then(f.iter&&(dm (dx f.aW x.a) f.result&&ei f x.to),{ r with a:=0,to:=0 })
 else(false,r)
def bO(l:List Int)(n:Int):Bool:=l.any fun c=>n==c
def mZ(n:Int):Int:=1200+n
def tC:List Int:=[1,2,3,4,5,6,7,8,9,10,11,13,14,17,19]
def xf:List Int:=[30,31,32,33,34,36,37]
def ke(x:cV):Int:=if bO tC x.op then x.to else if bO xf x.op then x.to else -1
def jS(x:End):Int:=if x.kind=5 then ke x.ins else if bO [6,7] x.kind then x.a else if x.kind=8 then x.b else -1
def tN:List Int:=[2,8,11,13,14,15,16,18,36]
def xr:List Int:=[3,4,5,6,7,12,30,31,32,33,34,35,37]
def ea(x:cV):List Int:=if bO tN x.op then [x.a] else if bO xr x.op then [x.a,x.b] else if x.op=10 then x.args else if x.op=38 then x.a::x.b::x.args else []
def dU(x:End):List Int:=if bO [2,8,9] x.kind then [x.a] else if x.kind=3 then(if x.a≠ -1 then [x.a] else []) else if x.kind=5 then ea x.ins else if bO [6,7] x.kind then x.args else []
def ji(f:au)(x:End):Bool:=(eJ f x).1&&vV (eJ f x).2
end Go.Argus
namespace Go.Argus
section
variable{κ:Type}[DecidableEq κ]
def lA:List κ->List κ->List κ
 |acc,[]=>acc
 |acc,k::ks=>lA (if k∈acc then acc else acc++[k]) ks
def bm(ks:List κ):List κ:=lA [] ks
def bp(ks:List κ):List Nat:=ks.map fun k=>(bm ks).idxOf k
theorem NP(acc a b:List κ):lA acc (a++b)=lA (lA acc a) b:=by
 induction a generalizing acc with
 |nil=>rfl
 |cons k a ih=>simp only[List.cons_append,lA,ih]
theorem Y8(ks:List κ)(k:κ):bm (ks++[k])=if k∈bm ks then bm ks else bm ks++[k]:=by
 unfold bm;rw[NP];rfl
theorem Wp{acc ks:List κ}(h:acc.Nodup):(lA acc ks).Nodup:=by
 induction ks generalizing acc with
 |nil=>exact h
 |cons k ks ih=>
  simp only[lA];refine ih ?_;split
  .exact h
  .rename_i hk;exact List.nodup_append.2 ⟨h,oS,fun a ha b hb=>by simp at hb;subst hb;exact fun e=>hk (e▸ha)⟩
theorem WT{acc ks:List κ}{x:κ}:x∈lA acc ks↔x∈acc\/x∈ks:=by
 induction ks generalizing acc with
 |nil=>simp[lA]
 |cons k ks ih=>
  simp only[lA,ih,List.mem_cons];by_cases h:k∈acc
  .simp only[if_pos h];constructor
   .rintro(h|h)<;>simp[h]
   .rintro(h1|rfl|h1)
    .exact .inl h1
    .exact .inl h
    .exact .inr h1
  .simp only[if_neg h,List.mem_append,List.mem_cons,List.not_mem_nil,or_false,or_assoc]
theorem BX(ks:List κ):(bm ks).Nodup:=Wp oS
theorem nd{ks:List κ}{x:κ}:x∈bm ks↔x∈ks:=by unfold bm;rw[WT];simp
theorem Wj(acc ks:List κ):acc<+:lA acc ks:=by
 induction ks generalizing acc with
 |nil=>exact List.prefix_refl _
 |cons k ks ih=>
  simp only[lA];refine List.IsPrefix.trans ?_ (ih _);split
  .exact List.prefix_refl _
  .exact List.prefix_append _ _
theorem Od(a b:List κ):bm a<+:bm (a++b):=by unfold bm;rw[NP];exact Wj _ _
theorem OL{a b:List κ}(h:a<+:b){x:κ}(hx:x∈a):b.idxOf x=a.idxOf x:=by
 obtain⟨c,rfl⟩:=h;rw[List.idxOf_append,if_pos hx]
@[simp] theorem Jo (ks : List κ) : (bp ks).length = ks.length := by simp [bp]
theorem vo(ks:List κ):(bm ks).length<=ks.length:=List.Nodup.length_le_of_subset (BX ks) fun x hx=>nd.1 hx
theorem E2{ks:List κ}{i:Nat}{k:κ}(h:ks[i]? =some k):(bp ks)[i]? =some ((bm ks).idxOf k):=by simp[bp,h]
theorem Fs{ks:List κ}{i n:Nat}(h:(bp ks)[i]? =some n):n<(bm ks).length:=by
 unfold bp at h;rw[List.getElem?_map] at h;obtain⟨k,hk,rfl⟩:=cU.1 h;exact List.idxOf_lt_length_of_mem (nd.2 (bz hk))
theorem RP{l:List κ}{x y:κ}(hx:x∈l)(h:l.idxOf x=l.idxOf y):x=y:=by
 have h1:=List.idxOf_lt_length_of_mem hx;have e1:l[l.idxOf x]=x:=List.getElem_idxOf h1;have h2:l.idxOf y<l.length:=h▸h1;have e2:l[l.idxOf y]=y:=List.getElem_idxOf h2;rw[<- e1, <- e2];congr 1
theorem E5{ks:List κ}{i j:Nat}{a b:κ}(hi:ks[i]? =some a)(hj:ks[j]? =some b):(bp ks)[i]? =(bp ks)[j]? ↔a=b:=by
 rw[E2 hi,E2 hj];constructor
 .intro h;exact RP (nd.2 (bz hi)) (by simpa using h)
 .rintro rfl;rfl
end
theorem Ib{α:Type}[DecidableEq α]:∀ {l m:List α},m.Nodup->(∀ x∈m,x∈l)->l.length<=m.length->l.Nodup
 |[],_,_,_,_=>List.nodup_nil
 |a::l,m,hm,hc,hl=>by
  have h1:a∉l:=fun ha=>by
   have:=List.Nodup.length_le_of_subset hm (l₂:=l) fun x hx=>by
    rcases List.mem_cons.1 (hc x hx) with rfl|h
    .exact ha
    .exact h
   simp at hl;omega
  refine List.nodup_cons.2 ⟨h1,?_⟩;by_cases ha:a∈m
  .refine Ib (m:=m.erase a) (hm.erase a) (fun x hx=>?_) ?_
   .have C:x≠a:=by rintro rfl;exact(List.Nodup.mem_erase_iff hm).1 hx |>.1 rfl
    rcases List.mem_cons.1 (hc x (List.mem_of_mem_erase hx)) with rfl|h
    .exact absurd rfl C
    .exact h
   .rw[List.length_erase_of_mem ha];simp at hl;omega
  .refine Ib (m:=m) hm (fun x hx=>?_) (by simp at hl;omega);rcases List.mem_cons.1 (hc x hx) with rfl|h
   .exact absurd hx ha
   .exact h
section
variable{κ ι:Type}[DecidableEq κ][DecidableEq ι]
theorem PM{a:List κ}{b:List ι}{g:ι->κ}(h:a=b.map g):(bm a).length<=(bm b).length:=by
 have:=List.Nodup.length_le_of_subset (BX a) (l₂:=(bm b).map g) fun x hx=>by
  rw[nd,h] at hx;obtain⟨y,hy,rfl⟩:=List.mem_map.1 hx;exact List.mem_map_of_mem (nd.2 hy)
 simpa using this
theorem ZZ{a:List κ}{b:List ι}{g:ι->κ}(h:a=b.map g)(hl:(bm b).length<=(bm a).length){x y:ι}(hx:x∈b)(hy:y∈b)(e:g x=g y):x=y:=by
 have hn:((bm b).map g).Nodup:=Ib (BX a) (fun z hz=>by
  rw[nd,h] at hz;obtain⟨w,C,rfl⟩:=List.mem_map.1 hz
  exact List.mem_map_of_mem (nd.2 C)) (by simpa using hl)
 obtain⟨i,hi⟩:=ep (nd.2 hx);obtain⟨j,hj⟩:=ep (nd.2 hy);have h1:((bm b).map g)[i]? =some (g x):=by simp[hi]
 have h2:((bm b).map g)[j]? =some (g y):=by simp[hj]
 have ah:i<((bm b).map g).length:=(bM.1 h1).1
 have J:i=j:=by
  rw[<- e] at h2;exact(List.getElem?_inj ah hn).1 (h1.trans h2.symm)
 subst J;rw[hi] at hj;exact Option.some.inj hj
theorem zH(ks:List κ):(bm (bp ks)).length=(bm ks).length:=by
 refine Nat.le_antisymm (PM (g:=fun k=>(bm ks).idxOf k) rfl) ?_
 have hn:((bm ks).map fun k=>(bm ks).idxOf k).Nodup:=by
  refine List.pairwise_map.2 ((BX ks).imp_of_mem fun {a b} ha hb C e=>C (RP ha e))
 have:=List.Nodup.length_le_of_subset hn (l₂:=bm (bp ks)) fun x hx=>by
  obtain⟨k,hk,rfl⟩:=List.mem_map.1 hx;rw[nd];exact List.mem_map_of_mem (f:=fun k=>(bm ks).idxOf k) (nd.1 hk)
 simpa using this
end
def lR(ca:List (List Nat))(clq:List Nat)(i:Nat):List Nat:=clq.getD i 0::(ca.getD i []).map fun t=>clq.getD t 0
def eP(ca:List (List Nat))(clq:List Nat):List (List Nat):=(range ca.length).map (lR ca clq)
def xm(ca:List (List Nat)):Nat->List Nat->Nat->List Nat
 |0,clq,_=>clq
 |ed+1,clq,many=>if(bm (eP ca clq)).length=many then bp (eP ca clq) else xm ca ed (bp (eP ca clq)) (bm (eP ca clq)).length
def nk(sn:List Nat)(ca:List (List Nat)):List Nat:=xm ca (sn.length+1) sn (bm sn).length
@[simp] theorem amc (ca : List (List Nat)) (clq : List Nat) : (eP ca clq).length = ca.length := by simp [eP]
theorem zC{ca:List (List Nat)}{clq:List Nat}{i:Nat}(h:i<ca.length):(eP ca clq)[i]? =some (lR ca clq i):=by simp[eP,h]
theorem PO{ca:List (List Nat)}{clq:List Nat}(h:clq.length=ca.length):clq=(eP ca clq).map fun k=>k.headD 0:=by
 refine List.ext_getElem? fun i=>?_;by_cases hi:i<clq.length
 .rw[List.getElem?_map,zC oG];simp[lR,du,hi]
 .rw[List.getElem?_eq_none oG,List.getElem?_eq_none oP]
theorem Po{ca:List (List Nat)}{clq:List Nat}(h:clq.length=ca.length):(bm clq).length<=(bm (eP ca clq)).length:=PM (PO h)
theorem Oq{ca:List (List Nat)}{p:List Nat->Prop}(hs:∀ clq,clq.length=ca.length->p clq->p (bp (eP ca clq))):∀ (ed:Nat) (clq:List Nat) (many:Nat),clq.length=ca.length->many=(bm clq).length->ca.length<ed+many->p clq->
 ∃ C,C.length=ca.length/\p C/\(bm (eP ca C)).length=(bm C).length/\xm ca ed clq many=bp (eP ca C)
 |0,clq,many,h1,h2,h3,h4=>by
  have:=vo clq;omega
 |ed+1,clq,many,h1,h2,h3,h4=>by
  unfold xm;split
  .rename_i h;exact⟨clq,h1,h4,oG,rfl⟩
  .rename_i h;have:=Po h1;exact Oq hs ed _ _ oS (zH _).symm oG (hs clq h1 h4)
theorem ED{sn:List Nat}{ca:List (List Nat)}{p:List Nat->Prop}(hl:sn.length=ca.length)(h0:p sn)(hs:∀ clq,clq.length=ca.length->p clq->p (bp (eP ca clq))):
 ∃ C,C.length=ca.length/\p C/\(bm (eP ca C)).length=(bm C).length/\nk sn ca=bp (eP ca C):=
 Oq hs _ _ _ hl rfl oG h0
theorem tI{α:Type}{l:List α}{i:Nat}{d x:α}(h:l[i]? =some x):l.getD i d=x:=by simp[du,h]
theorem dn{α:Type}{l:List α}{i:Nat}{d:α}(h:i<l.length):l[i]? =some (l.getD i d):=by simp[du,h]
theorem Cc{ca:List (List Nat)}{clq:List Nat}{i j:Nat}(hi:i<ca.length)(hj:j<ca.length):(bp (eP ca clq)).getD i 0=(bp (eP ca clq)).getD j 0↔lR ca clq i=lR ca clq j:=by
 rw[<- E5 (zC (clq:=clq) hi) (zC (clq:=clq) hj),dn (d:=0) oP,dn (d:=0) (l:=bp _) (i:=j) oP];simp
def pk(ca:List (List Nat)):Prop:=∀ (i:Nat) t,t∈ca.getD i []->t<ca.length
structure se(sn:List Nat)(ca:List (List Nat))(d:Nat->Nat):Prop where
 sh:∀ i j,i<ca.length->j<ca.length->d i=d j->sn.getD i 0=sn.getD j 0
 ca:∀ i j,i<ca.length->j<ca.length->d i=d j->(ca.getD i []).map d=(ca.getD j []).map d
theorem RQ{d e:Nat->Nat}{n:Nat}(h:∀ i j,i<n->j<n->d i=d j->e i=e j):∀ {a b:List Nat},(∀ t∈a,t<n)->(∀ t∈b,t<n)->a.map d=b.map d->a.map e=b.map e
 |[],[],_,_,_=>rfl
 |[],_::_,_,_,e=>by simp at e
 |_::_,[],_,_,e=>by simp at e
 |x::a,y::b,ha,hb,e=>by
  simp only[List.map_cons,List.cons.injEq] at e ⊢;exact⟨h x y (ha x oS) (hb y oS) e.1,RQ h (fun t ht=>ha t (List.mem_cons_of_mem _ ht)) (fun t ht=>hb t (List.mem_cons_of_mem _ ht)) e.2⟩
theorem N1{sn:List Nat}{ca:List (List Nat)}(hl:sn.length=ca.length)(J:pk ca):se sn ca fun i=>(nk sn ca).getD i 0:=by
 obtain⟨clq,h1,h2,M,C⟩:=ED (p:=fun clq=>∀ i j,i<ca.length->j<ca.length->clq.getD i 0=clq.getD j 0->sn.getD i 0=sn.getD j 0) hl (fun i j _ _ h=>h) fun clq U hp i j hi hj h=>by
  rw[Cc hi hj] at h;exact hp i j hi hj (by simpa[lR] using(List.cons.inj h).1)
 have hk:∀ i j,i<ca.length->j<ca.length->clq.getD i 0=clq.getD j 0->lR ca clq i=lR ca clq j:=fun i j hi hj h=>
  ZZ (PO h1) (Nat.le_of_eq M) (bz (zC hi)) (bz (zC hj)) (by simpa[lR] using h)
 refine⟨fun i j hi hj h=>?_,fun i j hi hj h=>?_⟩
 .rw[C,Cc hi hj] at h;exact h2 i j hi hj (List.cons.inj h).1
 .rw[C,Cc hi hj] at h;rw[C];exact RQ (d:=fun t=>clq.getD t 0) (n:=ca.length) (fun a b ha hb e=>(Cc ha hb).2 (hk a b ha hb e)) (J i) (J j) (List.cons.inj h).2
theorem abA{R:Nat->Nat->Prop}{e:Nat->Nat}{n:Nat}(h:∀ i j,i<n->j<n->R i j->e i=e j){a b:List Nat}(ha:∀ t∈a,t<n)(hb:∀ t∈b,t<n)(hl:a.length=b.length)(hr:∀ k,k<a.length->R (a.getD k 0) (b.getD k 0)):a.map e=b.map e:=by
 refine List.ext_getElem? fun k=>?_;by_cases hk:k<a.length
 .have h1:a[k]? =some (a.getD k 0):=dn hk;have h2:b[k]? =some (b.getD k 0):=dn oG;rw[List.getElem?_map,List.getElem?_map,h1,h2];exact congrArg some (h _ _ (ha _ (bz h1)) (hb _ (bz h2)) (hr k hk))
 .rw[List.getElem?_eq_none oP,List.getElem?_eq_none oP]
theorem WD{sn:List Nat}{ca:List (List Nat)}(hl:sn.length=ca.length)(C:pk ca){R:Nat->Nat->Prop}(hs:∀ i j,i<ca.length->j<ca.length->R i j->sn.getD i 0=sn.getD j 0)
 (hc:∀ i j,i<ca.length->j<ca.length->R i j->(ca.getD i []).length=(ca.getD j []).length/\∀ k,k<(ca.getD i []).length->R ((ca.getD i []).getD k 0) ((ca.getD j []).getD k 0)) {i j:Nat} (hi:i<ca.length) (hj:j<ca.length) (h:R i j):(nk sn ca).getD i 0=(nk sn ca).getD j 0:=by
 have J:∀ clq:List Nat,clq.length=ca.length->(∀ i j,i<ca.length->j<ca.length->R i j->clq.getD i 0=clq.getD j 0)->∀ i j,i<ca.length->j<ca.length->R i j->(bp (eP ca clq)).getD i 0=(bp (eP ca clq)).getD j 0:=fun clq _ hp i j hi hj h=>by
  rw[Cc hi hj];unfold lR;rw[hp i j hi hj h,abA hp (C i) (C j) (hc i j hi hj h).1 (hc i j hi hj h).2]
 obtain⟨clq,h1,h2,U,M⟩:=ED (p:=fun clq=>∀ i j,i<ca.length->j<ca.length->R i j->clq.getD i 0=clq.getD j 0) hl hs J;rw[M];exact J clq h1 h2 i j hi hj h
theorem X8{sn:List Nat}{ca:List (List Nat)}(hl:sn.length=ca.length):(nk sn ca).length=ca.length:=by
 obtain⟨clq,h1,h2,J,C⟩:=ED (p:=fun _=>True) hl trivial fun _ _ _=>trivial;rw[C];simp
theorem IV{sn:List Nat}{ca:List (List Nat)}(hl:sn.length=ca.length):∃ ks:List (List Nat),ks.length=ca.length/\nk sn ca=bp ks:=by
 obtain⟨clq,h1,h2,J,C⟩:=ED (p:=fun _=>True) hl trivial fun _ _ _=>trivial;exact⟨_,oS,C⟩
def EN(clq:List Nat)(m:Nat):List (List Nat):=(range m).map fun k=>(range clq.length).filter fun i=>clq.getD i 0==k
theorem Zf{κ:Type}[DecidableEq κ](ks:List κ)(i:Nat):(bp ks).take i=bp (ks.take i):=by
 unfold bp;rw[<- List.map_take];refine List.map_congr_left fun k hk=>?_
 have hp:bm (ks.take i)<+:bm ks:=by
  have:=Od (ks.take i) (ks.drop i)
  rwa[List.take_append_drop] at this
 exact OL hp (nd.2 hk)
def entries(c:List (List Int)):List (Int×Nat):=c.zipIdx.flatMap fun x=>x.1.map fun i=>(i,x.2)
def iM(es:List (Int×Nat))(i:Int):Bool:=es.any fun e=>e.1==i
def fk(es:List (Int×Nat))(i:Int):Nat:=match es.find? fun e=>e.1==i with
 |some e=>e.2
 |none=>0
def sQ(N:Nat)(c:List (List Int))(n:Nat)(x:List Int)(k:Nat):Bool:=match x[k]? with
 |none=>true
 |some i=> !(iM (entries (c.take n)++(x.take k).map fun j=>(j,n)) i)&&(decide (0<=i)&&(decide (i<N)&&(decide (k=0)||decide (x.getD (k - 1) 0<i))))
def wY(c:List (List Int))(n:Nat):Int:=if n=0 then -1 else(c.getD (n - 1) []).headD 0
def CH(c:List (List Int))(n:Nat)(x:List Int):Bool:=match x with
 |[]=>false
 |a::_=>decide (wY c n<a)
def pX(N:Nat)(c:List (List Int))(n:Nat):Bool:=match c[n]? with
 |none=>true
 |some x=>CH c n x&&(range x.length).all (sQ N c n x)
def AE(sn:List Nat)(ca:List (List Nat))(es:List (Int×Nat))(a i:Int):Bool:=
 sn.getD i.toNat 0==sn.getD a.toNat 0&&decide ((ca.getD i.toNat []).map (fun(t:Nat)=>fk es t)=(ca.getD a.toNat []).map fun(t:Nat)=>fk es t)
def tJ(sn:List Nat)(ca:List (List Nat))(es:List (Int×Nat))(x:List Int):Bool:=(x.drop 1).all (AE sn ca es (x.headD 0))
def qw(sn:List Nat)(ca:List (List Nat))(c:List (List Int)):Bool:=
 (range c.length).all (pX ca.length c)&&(decide ((entries c).length=ca.length)&&c.all (tJ sn ca (entries c)))
theorem NO{c:List (List Int)}{n:Nat}{x:List Int}(h:c[n]? =some x):entries (c.take (n+1))=entries (c.take n)++x.map fun i=>(i,n):=by
 have hn:n<c.length:=(bM.1 h).1;unfold entries;rw[List.take_add_one,h,List.zipIdx_append,List.flatMap_append];simp[List.length_take,Nat.min_eq_left (Nat.le_of_lt hn)]
theorem Xk{c:List (List Int)}{i:Int}{n:Nat}:(i,n)∈entries c↔∃ x,c[n]? =some x/\i∈x:=by
 unfold entries;simp only[List.mem_flatMap,List.mem_map,bP];constructor
 .rintro⟨⟨x,m⟩,hx,j,hj,rfl,rfl⟩;exact⟨x,List.mem_zipIdx_iff_getElem?.1 hx,hj⟩
 .rintro⟨x,hx,hi⟩;exact⟨(x,n),List.mem_zipIdx_iff_getElem?.2 hx,i,hi,rfl,rfl⟩
theorem abB{es:List (Int×Nat)}{i:Int}:iM es i=true↔∃ n,(i,n)∈es:=by
 unfold iM;rw[List.any_eq_true];constructor
 .rintro⟨⟨j,n⟩,h,e⟩;simp at e;subst e;exact⟨n,h⟩
 .rintro⟨n,h⟩;exact⟨_,h,oS⟩
theorem Z0{es:List (Int×Nat)}{i:Int}:iM es i=true↔i∈es.map (·.1):=by
 rw[abB,List.mem_map];constructor
 .rintro⟨n,h⟩;exact⟨_,h,rfl⟩
 .rintro⟨⟨j,n⟩,h,rfl⟩;exact⟨n,h⟩
theorem OP{N:Nat}{c:List (List Int)}(h:(range c.length).all (pX N c)=true):∀ n,n<=c.length->((entries (c.take n)).map (·.1)).Nodup/\∀ e∈entries (c.take n),0<=e.1/\e.1<N
 |0,_=>⟨by simp[entries],by simp[entries]⟩
 |n+1,hn=>by
  obtain⟨h1,h2⟩:=OP h n oG;obtain⟨x,hx⟩:∃ x,c[n]? =some x:=⟨_,a8 oG⟩
  have hr:=bV.1 h n (List.mem_range.2 oG);unfold pX at hr;rw[hx] at hr;simp only[ba] at hr
  have hk:∀ k,k<=x.length->((entries (c.take n)++(x.take k).map fun i=>(i,n)).map (·.1)).Nodup/\∀ e∈entries (c.take n)++(x.take k).map fun i=>(i,n),0<=e.1/\e.1<N:=by
   intro k
   induction k with
   |zero=>intro _;simpa using⟨h1,fun a b h=>h2 (a,b) h⟩
   |succ k ih=>
    intro hk;obtain⟨C,J⟩:=ih oG;obtain⟨i,hi⟩:∃ i,x[k]? =some i:=⟨_,a8 oG⟩
    have he:=bV.1 hr.2 k (List.mem_range.2 oG);unfold sQ at he;rw[hi] at he;simp only[ba,Bool.not_eq_true',decide_eq_true_eq] at he;obtain⟨e1,e2,e3,_⟩:=he;rw[List.take_add_one,hi];simp only[Option.toList_some,List.map_append,List.map_cons,List.map_nil, <- List.append_assoc];refine⟨?_,fun e he=>?_⟩
    .rw[<- List.map_append];refine List.nodup_append.2 ⟨C,oS,fun a ha b hb=>?_⟩;simp only[List.mem_cons,List.not_mem_nil,or_false] at hb;subst hb;rintro rfl;rw[<- Z0,e1] at ha;cases ha
    .rw[List.mem_append] at he;rcases he with he|he
     .exact J e he
     .simp only[List.mem_cons,List.not_mem_nil,or_false] at he;subst he;exact⟨e2,e3⟩
  have:=hk x.length (bc _);rw[List.take_length] at this
  rwa[NO hx]
abbrev ap(l:List Nat):List Int:=l.map fun(n:Nat)=>(n:Int)
def hM(clq:List Nat)(m:Nat):List (List Int):=(EN clq m).map ap
theorem Jp{clq:List Nat}{m n:Nat}(h:n<m):(hM clq m)[n]? =some (ap ((range clq.length).filter fun i=>clq.getD i 0==n)):=by
 unfold hM EN;simp[h]
theorem aa1(clq:List Nat)(m:Nat):(hM clq m).length=m:=by simp[hM,EN]
theorem PQ{clq:List Nat}{n i:Nat}:i∈(range clq.length).filter (fun i=>clq.getD i 0==n)↔i<clq.length/\clq.getD i 0=n:=by simp
section
variable{κ:Type}[DecidableEq κ]
theorem Zp{ks:List κ}{n:Nat}(h:n<(bm ks).length):∃ j:Nat,(bp ks)[j]? =some n:=by
 obtain⟨q,hq⟩:∃ q,(bm ks)[n]? =some q:=⟨_,a8 h⟩
 have C:q∈bm ks:=bz hq;obtain⟨j,hj⟩:=ep (nd.1 C);refine⟨j,?_⟩;rw[E2 hj];have h1:=List.idxOf_lt_length_of_mem C;have h2:(bm ks)[(bm ks).idxOf q]? =some q:=by rw[a8 h1,List.getElem_idxOf]
 exact congrArg some ((List.getElem?_inj h1 (BX ks)).1 (h2.trans hq.symm))
end
def atR(c:List (List Int))(n:Int):Int:=mH (fun x=>x.any fun i=>i==n) c
theorem adB{clq:List Nat}{m i:Nat}(hi:i<clq.length)(hm:clq.getD i 0<m):atR (hM clq m) (i:Int)=(clq.getD i 0:Nat):=by
 refine tu (Jp hm) ?_ fun j y hj hy=>?_
 .exact List.any_eq_true.2 ⟨(i:Int),List.mem_map.2 ⟨i,PQ.2 ⟨hi,rfl⟩,rfl⟩,oS⟩
 .rw[Jp (show j<m by omega)] at hy;cases hy;refine List.any_eq_false.2 fun z hz e=>?_;obtain⟨k,hk,rfl⟩:=List.mem_map.1 hz;have:=(PQ.1 hk).2;have e:(k:Int)=i:=by simpa using e
  have:k=i:=by omega
  subst this;omega
abbrev PW:=(Nat×Nat)×List Nat
def iE(ca:List (List Nat))(p:Nat×Nat)(k:Nat):Nat×Nat:=((ca.getD p.1 []).getD k 0,(ca.getD p.2 []).getD k 0)
def vQ(ca:List (List Nat))(fr:Nat×Nat)(x:PW)(st:List (Nat×Nat)×List PW)(k:Nat):List (Nat×Nat)×List PW:=
 if iE ca x.1 k≠fr/\iE ca x.1 k∉st.1 then(st.1++[iE ca x.1 k],st.2++[(iE ca x.1 k,x.2++[k])]) else st
def o1(ca:List (List Nat))(fr:Nat×Nat)(x:PW)(st:List (Nat×Nat)×List PW)(n:Nat):List (Nat×Nat)×List PW:=(range n).foldl (vQ ca fr x) st
def vP(sn:List Nat)(ca:List (List Nat))(fr:Nat×Nat)(st:List (Nat×Nat)×List PW):List (Nat×Nat)×List PW:=match st.2 with
 |[]=>st
 |x::_=>if sn.getD x.1.1 0=sn.getD x.1.2 0 then((o1 ca fr x st (ca.getD x.1.1 []).length).1,(o1 ca fr x st (ca.getD x.1.1 []).length).2.drop 1) else(st.1,st.2.drop 1)
def sw(sn:List Nat)(ca:List (List Nat))(fr:Nat×Nat):Nat->List (Nat×Nat)×List PW->List PW
 |0,_=>[]
 |f+1,st=>match st.2 with
  |[]=>[]
  |x::_=>x::sw sn ca fr f (vP sn ca fr st)
def mC(sn:List Nat)(ca:List (List Nat))(a b:Nat):List PW:=sw sn ca (a,b) (ca.length*ca.length+2) ([],[((a,b),[])])
def pL(sn:List Nat)(ca:List (List Nat))(a b:Nat):Option PW:=(mC sn ca a b).find? fun x=>sn.getD x.1.1 0 !=sn.getD x.1.2 0
def gG(sn:List Nat)(ca:List (List Nat)):Nat->Nat->List Int->Bool
 |a,b,[]=>sn.getD a 0 !=sn.getD b 0
 |a,b,k::way=>sn.getD a 0==sn.getD b 0&&(decide (0<=k)&&(decide (k<(ca.getD a []).length)&&gG sn ca (iE ca (a,b) k.toNat).1 (iE ca (a,b) k.toNat).2 way))
section
variable{sn:List Nat}{ca:List (List Nat)}
inductive mJ(sn:List Nat)(ca:List (List Nat))(fr:Nat×Nat):List Nat->Nat×Nat->Prop
 |nil:mJ sn ca fr [] fr
 |snoc (w:List Nat) (p:Nat×Nat) (k:Nat) (h:mJ sn ca fr w p) (hs:sn.getD p.1 0=sn.getD p.2 0) (hk:k<(ca.getD p.1 []).length):mJ sn ca fr (w++[k]) (iE ca p k)
theorem Xp:∀ {a b:Nat} {w:List Nat} {p:Nat×Nat},mJ sn ca (a,b) w p->∀ v:List Int,gG sn ca a b (ap w++v)=gG sn ca p.1 p.2 v:=fun {a b w p} h=>by
 induction h with
 |nil=>intro v;rfl
 |snoc w p k h hs hk ih=>
  intro v;have e:ap (w++[k])++v=ap w++((k:Int)::v):=by simp[ap]
  rw[e,ih];have h1:(sn.getD p.1 0==sn.getD p.2 0)=true:=by rw[hs];exact beq_self_eq_true _
  have h2:decide ((k:Int)<(ca.getD p.1 []).length)=true:=decide_eq_true oG;simp only[gG];rw[h1,h2,iv];simp
theorem Z1:∀ {a b:Nat} {w:List Nat} {q:Nat×Nat} {k:Nat},sn.getD a 0=sn.getD b 0->k<(ca.getD a []).length->mJ sn ca (iE ca (a,b) k) w q->mJ sn ca (a,b) (k::w) q:=fun {a b w q k} hs hk h=>by
 induction h with
 |nil=>exact .snoc [] (a,b) k .nil hs hk
 |snoc w p j h C J ih=>exact .snoc (k::w) p j ih C J
theorem PR:∀ {v:List Int} {a b:Nat},gG sn ca a b v=true->∃ (w:List Nat) (p:Nat×Nat),v=ap w/\mJ sn ca (a,b) w p/\sn.getD p.1 0≠sn.getD p.2 0
 |[],a,b,h=>⟨[],(a,b),rfl,.nil,by simpa[gG] using h⟩
 |k::v,a,b,h=>by
  simp only[gG,ba,beq_iff_eq,decide_eq_true_eq] at h;obtain⟨h1,h2,U,M⟩:=h;obtain⟨w,p,rfl,C,J⟩:=PR M;refine⟨k.toNat::w,p,?_,Z1 h1 oG C,J⟩;simp only[ap,List.map_cons];rw[Int.toNat_of_nonneg h2]
theorem Z2{a b:Nat}{w:List Nat}{p:Nat×Nat}(h:mJ sn ca (a,b) w p)(hp:sn.getD p.1 0≠sn.getD p.2 0):gG sn ca a b (ap w)=true:=by
 have:=Xp h [];rw[List.append_nil] at this;rw[this];simpa[gG] using hp
structure BI(sn:List Nat)(ca:List (List Nat))(fr:Nat×Nat)(Y:List PW)(S:List (Nat×Nat))(O:List PW):Prop where
 lead:∀ x∈Y++O,mJ sn ca fr x.2 x.1
 od:(Y++O).map (·.1)=fr::S
 nodup:(fr::S).Nodup
 uX:(Y++O).Pairwise fun x y=>x.2.length<=y.2.length
 Mc:∀ x∈O,∀ y∈O,x.2.length<=y.2.length+1
 done:∀ x∈Y,sn.getD x.1.1 0=sn.getD x.1.2 0->∀ k,k<(ca.getD x.1.1 []).length->∃ y∈Y++O,y.1=iE ca x.1 k/\y.2.length<=x.2.length+1
theorem JV{fr:Nat×Nat}{x:PW}(hs:sn.getD x.1.1 0=sn.getD x.1.2 0)(hx:mJ sn ca fr x.2 x.1){Y:List PW}:∀ (n:Nat) {S:List (Nat×Nat)} {O:List PW},n<=(ca.getD x.1.1 []).length->BI sn ca fr Y S (x::O)->
 ∃ C:List PW,(o1 ca fr x (S,x::O) n).2=x::C/\BI sn ca fr Y (o1 ca fr x (S,x::O) n).1 (x::C)/\(∀ y∈C,y.2.length<=x.2.length+1)/\∀ k,k<n->∃ y∈Y++x::C,y.1=iE ca x.1 k/\y.2.length<=x.2.length+1
 |0,S,O,_,h=>⟨O,rfl,h,fun y hy=>h.Mc y (List.mem_cons_of_mem _ hy) x oS,fun k hk=>by omega⟩
 |n+1,S,O,hn,h=>by
  obtain⟨C,h1,h2,M,h4⟩:=JV hs hx n (S:=S) (O:=O) oG h;have hE:o1 ca fr x (S,x::O) (n+1)=vQ ca fr x (o1 ca fr x (S,x::O) n) n:=by unfold o1;rw[List.range_succ,List.foldl_append];rfl
  have hp:o1 ca fr x (S,x::O) n=((o1 ca fr x (S,x::O) n).1,x::C):=by rw[<- h1]
  generalize (o1 ca fr x (S,x::O) n).1=S' at*
  rw[hE,hp]
  have J:∀ y∈Y++x::C,y.2.length<=x.2.length+1:=fun y hy=>by
   rcases List.mem_append.1 hy with hy|hy
   .have:=(List.pairwise_append.1 h2.uX).2.2 y hy x oS;omega
   .rcases List.mem_cons.1 hy with rfl|hy
    .omega
    .exact M y hy
  unfold vQ;split
  .rename_i hq;refine⟨C++[(iE ca x.1 n,x.2++[n])],rfl,⟨fun y hy=>?_,?_,?_,?_,fun y hy z hz=>?_,fun y hy BK k hk=>?_⟩,fun y hy=>?_,fun k hk=>?_⟩
   .rw[<- List.cons_append, <- List.append_assoc,List.mem_append] at hy;rcases hy with hy|hy
    .exact h2.lead y hy
    .simp only[List.mem_cons,List.not_mem_nil,or_false] at hy;subst hy;exact .snoc _ _ _ hx hs oG
   .rw[<- List.cons_append, <- List.append_assoc,List.map_append,h2.od];rfl
   .rw[<- List.cons_append];refine List.nodup_append.2 ⟨h2.nodup,oS,fun a ha b hb=>?_⟩;simp only[List.mem_cons,List.not_mem_nil,or_false] at hb;subst hb;rintro rfl;rcases List.mem_cons.1 ha with e|e
    .exact hq.1 e
    .exact hq.2 e
   .rw[<- List.cons_append, <- List.append_assoc];refine List.pairwise_append.2 ⟨h2.uX,oS,fun a ha b hb=>?_⟩;simp only[List.mem_cons,List.not_mem_nil,or_false] at hb;subst hb;have:=J a ha;simp;omega
   .have Bt:∀ u∈x::(C++[(iE ca x.1 n,x.2++[n])]),x.2.length<=u.2.length/\u.2.length<=x.2.length+1:=fun u hu=>by
     rw[<- List.cons_append,List.mem_append] at hu;rcases hu with hu|hu
     .refine⟨?_,J u (List.mem_append_right _ hu)⟩;rcases List.mem_cons.1 hu with rfl|hu
      .exact bc _
      .exact(List.pairwise_cons.1 (List.pairwise_append.1 h2.uX).2.1).1 u hu
     .simp only[List.mem_cons,List.not_mem_nil,or_false] at hu;subst hu;simp
    have:=(Bt y hy).2;have:=(Bt z hz).1;omega
   .obtain⟨z,hz,U⟩:=h2.done y hy BK k hk;exact⟨z,by rw[<- List.cons_append, <- List.append_assoc];exact List.mem_append_left _ hz,U⟩
   .rcases List.mem_append.1 hy with hy|hy
    .exact M y hy
    .simp only[List.mem_cons,List.not_mem_nil,or_false] at hy;subst hy;simp
   .by_cases X:k=n
    .subst X;exact⟨(iE ca x.1 k,x.2++[k]),oS,rfl,oS⟩
    .obtain⟨z,hz,U⟩:=h4 k oG;exact⟨z,by rw[<- List.cons_append, <- List.append_assoc];exact List.mem_append_left _ hz,U⟩
  .rename_i hq;refine⟨C,rfl,h2,M,fun k hk=>?_⟩;by_cases X:k=n
   .subst X
    have hm:iE ca x.1 k∈fr::S':=by
     refine Classical.byContradiction fun hc=>hq ⟨fun e=>hc (by rw[e];simp),fun e=>hc (List.mem_cons_of_mem _ e)⟩
    rw[<- h2.od,List.mem_map] at hm;obtain⟨z,hz,e⟩:=hm;exact⟨z,hz,e,J z hz⟩
   .exact h4 k oG
theorem Ru{fr:Nat×Nat}{Y:List PW}{S:List (Nat×Nat)}{x:PW}{O:List PW}(h:BI sn ca fr Y S (x::O)):BI sn ca fr (Y++[x]) (vP sn ca fr (S,x::O)).1 (vP sn ca fr (S,x::O)).2:=by
 have C:∀ A B:List PW,A++x::B=(A++[x])++B:=fun A B=>by simp
 unfold vP;simp only;split
 .rename_i hs;obtain⟨U,h1,h2,X,M⟩:=JV hs (h.lead x oS) (ca.getD x.1.1 []).length (bc _) h;rw[h1];refine⟨by rw[<- C];exact h2.lead,by rw[<- C];exact h2.od,h2.nodup,by rw[<- C];exact h2.uX,fun y hy z hz=>h2.Mc y (List.mem_cons_of_mem _ hy) z (List.mem_cons_of_mem _ hz),fun y hy J k hk=>?_⟩;rw[List.drop_succ_cons,List.drop_zero, <- C];rcases List.mem_append.1 hy with hy|hy
  .exact h2.done y hy J k hk
  .simp only[List.mem_cons,List.not_mem_nil,or_false] at hy;subst hy;exact M k hk
 .rename_i hs;refine⟨by rw[<- C];exact h.lead,by rw[<- C];exact h.od,h.nodup,by rw[<- C];exact h.uX,fun y hy z hz=>h.Mc y (List.mem_cons_of_mem _ hy) z (List.mem_cons_of_mem _ hz),fun y hy J k hk=>?_⟩;rw[List.drop_succ_cons,List.drop_zero, <- C];rcases List.mem_append.1 hy with hy|hy
  .exact h.done y hy J k hk
  .simp only[List.mem_cons,List.not_mem_nil,or_false] at hy;subst hy;exact absurd J hs
theorem JU(C:pk ca)(hlen:∀ a b,a<ca.length->b<ca.length->sn.getD a 0=sn.getD b 0->(ca.getD a []).length=(ca.getD b []).length){fr:Nat×Nat}(h1:fr.1<ca.length)(h2:fr.2<ca.length){w:List Nat}{p:Nat×Nat}(h:mJ sn ca fr w p):p.1<ca.length/\p.2<ca.length:=by
 induction h with
 |nil=>exact⟨h1,h2⟩
 |snoc w p k h hs hk ih=>
  have J:k<(ca.getD p.2 []).length:=by rw[<- hlen p.1 p.2 ih.1 ih.2 hs];exact hk
  exact⟨C p.1 _ (bz (dn hk)),C p.2 _ (bz (dn J))⟩
theorem Gj{N:Nat}{fr:Nat×Nat}{Y:List PW}{S:List (Nat×Nat)}{O:List PW}(h:BI sn ca fr Y S O)(ah:∀ w p,mJ sn ca fr w p->p.1<N/\p.2<N):Y.length+O.length<=N*N:=by
 have h1:((fr::S).map fun p=>p.1*N+p.2).Nodup:=by
  refine List.pairwise_map.2 (h.nodup.imp_of_mem fun {a b} ha hb J e=>J ?_);rw[<- h.od,List.mem_map] at ha hb;obtain⟨x,hx,rfl⟩:=ha;obtain⟨y,hy,rfl⟩:=hb;have a1:=ah _ _ (h.lead x hx);have a2:=ah _ _ (h.lead y hy);have C:0<N:=by omega
  have e1:(x.1.1*N+x.1.2) / N=x.1.1:=by rw[Nat.mul_comm,Nat.mul_add_div C,Nat.div_eq_of_lt a1.2,Nat.add_zero]
  have e2:(y.1.1*N+y.1.2) / N=y.1.1:=by rw[Nat.mul_comm,Nat.mul_add_div C,Nat.div_eq_of_lt a2.2,Nat.add_zero]
  have e3:(x.1.1*N+x.1.2) % N=x.1.2:=by rw[Nat.mul_comm,Nat.mul_add_mod,Nat.mod_eq_of_lt a1.2]
  have e4:(y.1.1*N+y.1.2) % N=y.1.2:=by rw[Nat.mul_comm,Nat.mul_add_mod,Nat.mod_eq_of_lt a2.2]
  exact Prod.ext (by rw[<- e1,e,e2]) (by rw[<- e3,e,e4])
 have:=List.Nodup.length_le_of_subset h1 (l₂:=range (N*N)) fun v hv=>by
  obtain⟨p,hp,rfl⟩:=List.mem_map.1 hv;rw[<- h.od,List.mem_map] at hp;obtain⟨x,hx,rfl⟩:=hp;have a1:=ah _ _ (h.lead x hx);refine List.mem_range.2 ?_
  have:x.1.1*N+N<=N*N:=by
   rw[<- Nat.succ_mul];exact Nat.mul_le_mul_right _ a1.1
  omega
 have e:=congrArg List.length h.od;simp at e this;omega
theorem RS{fr:Nat×Nat}{N:Nat}(ah:∀ w p,mJ sn ca fr w p->p.1<N/\p.2<N):∀ (f:Nat) {Y:List PW} {st:List (Nat×Nat)×List PW},BI sn ca fr Y st.1 st.2->N*N<f+Y.length->∃ S,BI sn ca fr (Y++sw sn ca fr f st) S []
 |0,Y,st,h,hf=>by
  have:=Gj h ah;omega
 |f+1,Y,(S,[]),h,hf=>⟨S,by simpa[sw] using h⟩
 |f+1,Y,(S,x::O),h,hf=>by
  obtain⟨C,h'⟩:=RS ah f (Ru h) oP;refine⟨C,?_⟩;simpa[sw] using h'
end
def vS(sn:List Nat)(ca:List (List Nat)):Prop:=∀ a b,a<ca.length->b<ca.length->sn.getD a 0=sn.getD b 0->(ca.getD a []).length=(ca.getD b []).length
section
variable{sn:List Nat}{ca:List (List Nat)}{a b:Nat}
theorem Cm(C:pk ca)(hlen:vS sn ca)(ha:a<ca.length)(hb:b<ca.length):∃ S,BI sn ca (a,b) (mC sn ca a b) S []:=by
 have h0:BI sn ca (a,b) [] [] [((a,b),[])]:=by
  refine⟨fun x hx=>?_,rfl,oS,oS,fun x hx y hy=>?_,fun x hx=>by simp at hx⟩
  .simp only[List.nil_append,List.mem_cons,List.not_mem_nil,or_false] at hx;subst hx;exact .nil
  .simp only[List.mem_cons,List.not_mem_nil,or_false] at hx hy;subst hx hy;omega
 obtain⟨S,h⟩:=RS (N:=ca.length) (fun w p=>JU C hlen ha hb) (ca.length*ca.length+2) (Y:=[]) (st:=([],[((a,b),[])])) h0 oS;exact⟨S,by rw[List.nil_append] at h;exact h⟩
theorem abC(M:pk ca)(hlen:vS sn ca)(ha:a<ca.length)(hb:b<ca.length){w:List Nat}{p:Nat×Nat}(h:mJ sn ca (a,b) w p):∃ y∈mC sn ca a b,y.1=p/\y.2.length<=w.length:=by
 obtain⟨S,C⟩:=Cm M hlen ha hb
 induction h with
 |nil=>
  have hm:(a,b)∈(mC sn ca a b++[]).map Prod.fst:=by rw[C.od];simp
  rw[List.append_nil,List.mem_map] at hm;obtain⟨y,hy,e⟩:=hm;refine⟨y,hy,e,?_⟩;have hp:=C.od;rw[List.append_nil] at hp;have J:=C.uX;rw[List.append_nil] at J;have U:∃ l,mC sn ca a b=((a,b),[])::l:=⟨_,rfl⟩
  obtain⟨l,hl⟩:=U;rw[hl] at hy hp;rcases List.mem_cons.1 hy with rfl|hy
  .simp
  .exfalso;simp only[List.map_cons,List.cons.injEq,true_and] at hp;have hn:=C.nodup;rw[<- hp] at hn;exact(List.nodup_cons.1 hn).1 (List.mem_map.2 ⟨y,hy,e⟩)
 |snoc w p k h hs hk ih=>
  obtain⟨y,hy,rfl,hl⟩:=ih;obtain⟨z,hz,e,ll⟩:=C.done y hy hs k hk;rw[List.append_nil] at hz;exact⟨z,hz,e,by simp;omega⟩
theorem OT(C:pk ca)(hlen:vS sn ca)(ha:a<ca.length)(hb:b<ca.length){x:PW}(h:pL sn ca a b=some x):gG sn ca a b (ap x.2)=true:=by
 obtain⟨S,J⟩:=Cm C hlen ha hb;unfold pL at h;have h1:=List.find?_some h;have h2:=List.mem_of_find?_eq_some h;exact Z2 (J.lead x (by rw[List.append_nil];exact h2)) (by simpa using h1)
theorem Oh(J:pk ca)(hlen:vS sn ca)(ha:a<ca.length)(hb:b<ca.length){v:List Int}(h:gG sn ca a b v=true):∃ x,pL sn ca a b=some x/\x.2.length<=v.length:=by
 obtain⟨w,p,rfl,h1,h2⟩:=PR h;obtain⟨S,M⟩:=Cm J hlen ha hb;obtain⟨y,hy,rfl,hl⟩:=abC J hlen ha hb h1;have C:=M.uX;rw[List.append_nil] at C;unfold pL;cases hf:(mC sn ca a b).find? fun x=>sn.getD x.1.1 0 !=sn.getD x.1.2 0 with
 |none=>
  rw[List.find?_eq_none] at hf;exact absurd (hf y hy) (by simpa using h2)
 |some x=>
  refine⟨x,rfl,?_⟩;rw[List.find?_eq_some_iff_append] at hf;obtain⟨_,aS,bs,e,hn⟩:=hf;rw[e] at hy C;rcases List.mem_append.1 hy with hy|hy
  .exact absurd (hn y hy) (by simpa using h2)
  .simp only[ap,List.length_map];rcases List.mem_cons.1 hy with rfl|hy
   .exact hl
   .have:=(List.pairwise_cons.1 (List.pairwise_append.1 C).2.1).1 y hy;omega
theorem Jq{d:Nat->Nat}(C:pk ca)(hd:se sn ca d):∀ {v:List Int} {a b:Nat},a<ca.length->b<ca.length->d a=d b->gG sn ca a b v=false
 |[],a,b,ha,hb,h=>by
  simp only[gG];rw[hd.sh a b ha hb h];simp
 |k::v,a,b,ha,hb,h=>by
  simp only[gG];by_cases hk:0<=k/\k<(ca.getD a []).length
  .obtain⟨n,rfl⟩:=iQ hk.1;have hn:n<(ca.getD a []).length:=by omega
   have hc:=hd.ca a b ha hb h;have hl:=congrArg List.length hc;simp only[List.length_map] at hl;have e1:(ca.getD a [])[n]? =some ((ca.getD a []).getD n 0):=dn hn;have e2:(ca.getD b [])[n]? =some ((ca.getD b []).getD n 0):=dn oG
   have e3:d ((ca.getD a []).getD n 0)=d ((ca.getD b []).getD n 0):=by
    have:=congrArg (fun l=>l[n]?) hc;simp only[List.getElem?_map,e1,e2,Option.map_some,aH] at this;exact this
   have:=Jq C hd (v:=v) (C a _ (bz e1)) (C b _ (bz e2)) e3;simp only[iv,iE];rw[this];simp
  .have:(decide (0<=k)&&(decide (k<(ca.getD a []).length)&&gG sn ca (iE ca (a,b) k.toNat).1 (iE ca (a,b) k.toNat).2 v))=false:=by
    by_cases h0:0<=k
    .have h1:¬ k<(ca.getD a []).length:=fun h=>hk ⟨h0,h⟩;rw[decide_eq_false h1];simp
    .rw[decide_eq_false h0];simp
   rw[this];simp
theorem abD(hl:sn.length=ca.length)(J:pk ca)(hlen:vS sn ca)(ha:a<ca.length)(hb:b<ca.length)(h:∀ v,gG sn ca a b v=false):(nk sn ca).getD a 0=(nk sn ca).getD b 0:=by
 refine WD hl J (R:=fun i j=>∀ v,gG sn ca i j v=false) (fun i j _ _ h=>?_) (fun i j hi hj h=>?_) ha hb h
 .have:=h [];simpa[gG, -List.getD_eq_getElem?_getD] using this
 .have C:sn.getD i 0=sn.getD j 0:=by
   have:=h [];simpa[gG, -List.getD_eq_getElem?_getD] using this
  refine⟨hlen i j hi hj C,fun k hk v=>?_⟩;have:=h ((k:Int)::v);simp only[gG] at this;rw[C,decide_eq_true (show(k:Int)<_ by omega)] at this;simpa[iE, -List.getD_eq_getElem?_getD] using this
end
section
variable{sn:List Nat}{ca:List (List Nat)}{a b:Nat}
theorem X9(hl:sn.length=ca.length)(C:pk ca)(hlen:vS sn ca)(ha:a<ca.length)(hb:b<ca.length):pL sn ca a b=none↔(nk sn ca).getD a 0=(nk sn ca).getD b 0:=by
 constructor
 .intro h;refine abD hl C hlen ha hb fun v=>?_;rw[Bool.eq_false_iff];intro hv;obtain⟨x,hx,_⟩:=Oh C hlen ha hb hv;rw[h] at hx;cases hx
 .intro h;cases hx:pL sn ca a b with
  |none=>rfl
  |some x=>
   have h1:=OT C hlen ha hb hx;rw[Jq C (N1 hl C) ha hb h] at h1;cases h1
end
end Go.Argus
namespace Go.Proofs.Tryz.K
open Go.Abs
theorem c1:prog.cellsOf 1=1:=kr
theorem a1:bl prog 1=false:=kr
theorem t1:aI prog 1=true:=kr
theorem b1:prog.bytesOf 1=8:=kr
theorem b2:prog.bytesOf 2=8:=kr
theorem a2:bl prog 2=false:=kr
theorem t2:aI prog 2=true:=kr
theorem z2:a7 prog 2=[.s (.int .i64 0)]:=kr
theorem c3:prog.cellsOf 3=1:=kr
theorem b3:prog.bytesOf 3=8:=kr
theorem a3:bl prog 3=false:=kr
theorem t3:aI prog 3=true:=kr
theorem z3:a7 prog 3=[.s (.int .i64 0)]:=kr
theorem c4:prog.cellsOf 4=1:=kr
theorem b4:prog.bytesOf 4=1:=kr
theorem a4:bl prog 4=false:=kr
theorem t4:aI prog 4=true:=kr
theorem z4:a7 prog 4=[.s (.bool false)]:=kr
theorem c5:prog.cellsOf 5=1:=kr
theorem b5:prog.bytesOf 5=1:=kr
theorem a5:bl prog 5=false:=kr
theorem t5:aI prog 5=true:=kr
theorem z5:a7 prog 5=[.s (.int .u8 0)]:=kr
theorem b6:prog.bytesOf 6=1:=kr
theorem b7:prog.bytesOf 7=24:=kr
theorem b8:prog.bytesOf 8=24:=kr
theorem c9:prog.cellsOf 9=1:=kr
theorem b9:prog.bytesOf 9=16:=kr
theorem a9:bl prog 9=false:=kr
theorem t9:aI prog 9=true:=kr
theorem z9:a7 prog 9=[.s (.string "".toUTF8)]:=kr
theorem lu:prog.bytesOf 10=16:=kr
theorem NJ:aF prog 15=321:=kr
theorem NK:aF prog 16=324:=kr
theorem NE:aF prog 17=331:=kr
theorem H5:aF prog 22=48:=kr
theorem Hl:bg prog 22=true:=kr
theorem Vl:aF prog 23=43:=kr
theorem T9:bg prog 23=true:=kr
theorem BC:prog.cellsOf 27=1:=kr
theorem HX:bl prog 27=false:=kr
theorem t27:aI prog 27=true:=kr
theorem a31:bl prog 31=false:=kr
theorem t31:aI prog 31=true:=kr
theorem z31:a7 prog 31=[.s .nilFunc]:=kr
theorem rI:aF prog 34=9:=kr
theorem uu:bg prog 34=true:=kr
theorem a37:bl prog 37=false:=kr
theorem t37:aI prog 37=true:=kr
theorem z37:a7 prog 37=[.s .nilFunc]:=kr
theorem s8:prog.cellsOf 43=1:=kr
theorem D8:prog.bytesOf 43=24:=kr
theorem HW:bl prog 43=false:=kr
theorem t43:aI prog 43=true:=kr
theorem Bs:aF prog 43=3:=kr
theorem AQ:bg prog 43=true:=kr
theorem HM:aF prog 45=5:=kr
theorem AT:bg prog 45=true:=kr
theorem a46:bl prog 46=false:=kr
theorem t46:aI prog 46=true:=kr
theorem z46:a7 prog 46=[.z]:=kr
theorem M5:aF prog 46=59:=kr
theorem LM:bg prog 46=true:=kr
theorem oO:prog.cellsOf 48=8:=kr
theorem Nh:prog.bytesOf 48=136:=kr
theorem za:bl prog 48=true:=kr
theorem t48:aI prog 48=true:=kr
theorem a51:bl prog 51=false:=kr
theorem t51:aI prog 51=true:=kr
theorem z51:a7 prog 51=[.s .nilFunc]:=kr
theorem Vh:aF prog 52=54:=kr
theorem T8:bg prog 52=true:=kr
theorem a53:bl prog 53=true:=kr
theorem t53:aI prog 53=true:=kr
theorem z53:a7 prog 53=[.s (.int .u8 0),.s (.int .i64 0),.s (.int .i64 0),.s (.int .i64 0),.s (.int .i64 0),.z]:=kr
theorem M3:prog.cellsOf 54=6:=kr
theorem M1:prog.bytesOf 54=64:=kr
theorem MY:aF prog 55=79:=kr
theorem Dw:bg prog 55=true:=kr
theorem HO:prog.cellsOf 59=16:=kr
theorem M4:prog.bytesOf 59=200:=kr
theorem z59:a7 prog 59=[.z,.s (.int .u8 0),.s (.int .i64 0),.s (.int .i64 0),.s (.int .i64 0),.s (.int .i64 0),.s (.string "".toUTF8),.s (.int .u8 0),.s (.int .i64 0),.s (.int .i64 0),.s (.int .i64 0),.s (.int .i64 0),.z,.z,.z,.s (.int .i64 0)]:=kr
theorem a70:bl prog 70=true:=kr
theorem t70:aI prog 70=true:=kr
theorem z70:a7 prog 70=[.s (.int .u8 0),.s (.int .i64 0)]:=kr
theorem a72:bl prog 72=true:=kr
theorem t72:aI prog 72=true:=kr
theorem z72:a7 prog 72=[.s (.int .u8 0),.s (.string "".toUTF8),.s (.int .u8 0),.s (.int .i64 0),.z,.s (.int .i64 0)]:=kr
theorem a75:bl prog 75=false:=kr
theorem t75:aI prog 75=true:=kr
theorem z75:a7 prog 75=[.s .nilFunc]:=kr
theorem a76:bl prog 76=false:=kr
theorem t76:aI prog 76=true:=kr
theorem z76:a7 prog 76=[.s .nilFunc]:=kr
theorem HN:prog.cellsOf 79=2:=kr
theorem Vg:prog.bytesOf 79=24:=kr
theorem mh:prog.cellsOf 82=3:=kr
theorem s7:bl prog 82=true:=kr
theorem t82:aI prog 82=true:=kr
theorem wO:prog.cellsOf 86=4:=kr
theorem Bx:bl prog 86=true:=kr
theorem t86:aI prog 86=true:=kr
theorem Ee:aF prog 92=4:=kr
theorem Dx:bg prog 92=true:=kr
theorem UH:prog.cellsOf 113=10:=kr
theorem UG:bl prog 113=true:=kr
theorem t113:aI prog 113=true:=kr
theorem LQ:prog.cellsOf 121=2:=kr
theorem t121:aI prog 121=true:=kr
theorem Hh:a7 prog 121=[.s (.int .i64 0),.s (.int .i64 0)]:=kr
theorem a127:bl prog 127=false:=kr
theorem t127:aI prog 127=true:=kr
theorem z127:a7 prog 127=[.s .nilFunc]:=kr
theorem a164:bl prog 164=false:=kr
theorem t164:aI prog 164=true:=kr
theorem z164:a7 prog 164=[.s .nilFunc]:=kr
theorem a171:bl prog 171=false:=kr
theorem t171:aI prog 171=true:=kr
theorem z171:a7 prog 171=[.s .nilFunc]:=kr
theorem a173:bl prog 173=true:=kr
theorem t173:aI prog 173=true:=kr
theorem z173:a7 prog 173=[.s (.int .i64 0),.s (.int .i64 0),.z]:=kr
theorem ux:prog.cellsOf 174=3:=kr
theorem Uj:prog.bytesOf 174=40:=kr
theorem Ue:bl prog 174=true:=kr
theorem t174:aI prog 174=true:=kr
theorem Hg:a7 prog 174=[.s (.int .i64 0),.s (.int .i64 0),.z]:=kr
theorem A1:aF prog 175=174:=kr
theorem AF:bg prog 175=true:=kr
theorem rj:prog.cellsOf 201=20:=kr
theorem UA:prog.bytesOf 201=160:=kr
theorem a201:bl prog 201=true:=kr
theorem t201:aI prog 201=true:=kr
theorem z201:a7 prog 201=[.s (.int .u64 0),.s (.int .u64 0),.s (.int .u64 0),.s (.int .u64 0),.s (.int .u64 0),.s (.int .u64 0),.s (.int .u64 0),.s (.int .u64 0),.s (.int .u64 0),.s (.int .u64 0),.s (.int .u64 0),.s (.int .u64 0),.s (.int .u64 0),.s (.int .u64 0),.s (.int .u64 0),.s (.int .u64 0),.s (.int .u64 0),.s (.int .u64 0),.s (.int .u64 0),.s (.int .u64 0)]:=kr
theorem a212:bl prog 212=true:=kr
theorem t212:aI prog 212=true:=kr
theorem z212:a7 prog 212=[.s (.pointer none),.z]:=kr
theorem a213:bl prog 213=true:=kr
theorem t213:aI prog 213=true:=kr
theorem z213:a7 prog 213=[.s (.pointer none),.z]:=kr
theorem a232:bl prog 232=false:=kr
theorem t232:aI prog 232=true:=kr
theorem z232:a7 prog 232=[.s .nilFunc]:=kr
theorem a233:bl prog 233=false:=kr
theorem t233:aI prog 233=true:=kr
theorem z233:a7 prog 233=[.s .nilFunc]:=kr
theorem L9:bl prog 237=true:=kr
theorem L':a7 prog 237=[.s (.int .i64 0),.s (.int .i64 0),.s (.int .i64 0),.s (.int .i64 0),.s (.int .i64 0),.s (.int .i64 0)]:=kr
theorem mixed:prog.follows .mixedOrders=true:=kr
end Go.Proofs.Tryz.K
namespace Go.Proofs
open Go.Shelf
def Tryz.zz:Go.Shelf.Ren:=⟨fun|156=>199|165=>236|166=>119|169=>120|240=>160|241=>246|276=>225|277=>254|n=>n,fun|31=>34|9=>9|3=>3|4=>4|0=>0|20=>20|72=>183|76=>186|70=>181|37=>45|75=>185|127=>229|164=>269|5=>5|80=>188|n=>n,fun|n=>n⟩
theorem Tryz.JQ:Go.Proofs.Lays.n156 Tryz.prog Tryz.zz:={
 mixed:=kr
 f156:= Tryz.func199.trans (congrArg some kr)
 f165:= Tryz.func236.trans (congrArg some kr)
 f166:= Tryz.func119.trans (congrArg some kr)
 f169:= Tryz.func120.trans (congrArg some kr)
 f240:= Tryz.func160.trans (congrArg some kr)
 f241:= Tryz.func246.trans (congrArg some kr)
 f276:= Tryz.func225.trans (congrArg some kr)
 f277:= Tryz.func254.trans (congrArg some kr)
 t0:= Tryz.underlying0
 a0:= Tryz.isAgg0
 z0:= Tryz.sizeOf0
 v0:= Tryz.zeroValue0
 t3:= Tryz.underlying3
 a3:= Tryz.isAgg3
 z3:= Tryz.sizeOf3
 v3:= Tryz.zeroValue3
 t4:= Tryz.underlying4
 a4:= Tryz.isAgg4
 z4:= Tryz.sizeOf4
 v4:= Tryz.zeroValue4
 t9:= Tryz.underlying9
 a9:= Tryz.isAgg9
 z9:= Tryz.sizeOf9
 v9:= Tryz.zeroValue9
 t20:= Tryz.underlying20
 a20:= Tryz.isAgg20
 z20:= Tryz.sizeOf20
 v20:= Tryz.zeroValue20
 t31:= Tryz.underlying34
 a31:= Tryz.isAgg34
 z31:= Tryz.sizeOf34
 v31:= Tryz.zeroValue34
 t37:= Tryz.underlying45
 a37:= Tryz.isAgg45
 z37:= Tryz.sizeOf45
 v37:= Tryz.zeroValue45
 t70:= Tryz.underlying181
 a70:= Tryz.isAgg181
 z70:= Tryz.sizeOf181
 v70:= Tryz.zeroValue181
 t72:= Tryz.underlying183
 a72:= Tryz.isAgg183
 z72:= Tryz.sizeOf183
 v72:= Tryz.zeroValue183
 t75:= Tryz.underlying185
 a75:= Tryz.isAgg185
 z75:= Tryz.sizeOf185
 v75:= Tryz.zeroValue185
 t76:= Tryz.underlying186
 a76:= Tryz.isAgg186
 z76:= Tryz.sizeOf186
 v76:= Tryz.zeroValue186
 t127:= Tryz.underlying229
 a127:= Tryz.isAgg229
 z127:= Tryz.sizeOf229
 v127:= Tryz.zeroValue229
 t164:= Tryz.underlying269
 a164:= Tryz.isAgg269
 z164:= Tryz.sizeOf269
 v164:= Tryz.zeroValue269 }
theorem Tryz.Ia:Builder.Extra Tryz.prog Tryz.zz:={
 sizeBuilder:=kr
 liesBuilder:=kr
 t5:= Tryz.underlying5
 a5:= Tryz.isAgg5
 z5:= Tryz.sizeOf5
 v5:= Tryz.zeroValue5
 infoByte:=kr
 cellsByte:=kr
 sizeByte:=kr
 neB5:=by decide }
open Go.RowKit in
theorem Tryz.strings_Join_none(a:Option Addr)(c:Nat)(sep:ByteArray)(w:World):
 Calls Tryz.prog 199 #[.slice a 0 c,.string sep] w fun e w'=>e=.returned (.string ⟨#[]⟩)/\w'=w:=Any.strings_Join_none Tryz.JQ Tryz.Ia a c sep w
open Go.RowKit in
theorem Tryz.strings_Join(C o c:Nat)(xs:List ByteArray)(sep:ByteArray)(w:World)(U:∀ (j:Nat) x,xs[j]? =some x->w.cell? ⟨C,o+j,none⟩=some (.string x))(M:C<w.heap.size)(J:xs.length<=140737488355328)(ot:xs.length<=c)(hlen:(Lib.join (xs.map (·.data.toList)) sep.data.toList).length<=140737488355328):
 Calls Tryz.prog 199 #[.slice (some ⟨C,o,none⟩) xs.length c,.string sep] w fun e w'=>e=.returned (.string ⟨(Lib.join (xs.map (·.data.toList)) sep.data.toList).toArray⟩)/\Below w.heap.size w w':=Any.strings_Join Tryz.JQ Tryz.Ia C o c xs sep w U M J ot hlen
def Tryz.WQ:Go.Shelf.Ren:=⟨fun|171=>145|243=>200|246=>237|283=>247|284=>248|285=>249|286=>250|129=>256|317=>255|318=>257|319=>258|320=>259|337=>270|338=>271|n=>n,fun|3=>3|9=>9|2=>2|4=>4|171=>291|0=>0|53=>199|37=>45|5=>5|173=>294|212=>200|51=>300|20=>20|213=>301|46=>69|232=>316|233=>317|n=>n,fun|17=>0|18=>2|19=>3|n=>n⟩
theorem Tryz.abu:Go.Proofs.LaysM.n171 Tryz.prog Tryz.WQ:={
 mixed:=kr
 f129:= Tryz.func256.trans (congrArg some kr)
 f171:= Tryz.func145.trans (congrArg some kr)
 f243:= Tryz.func200.trans (congrArg some kr)
 f246:= Tryz.func237.trans (congrArg some kr)
 f283:= Tryz.func247.trans (congrArg some kr)
 f284:= Tryz.func248.trans (congrArg some kr)
 f285:= Tryz.func249.trans (congrArg some kr)
 f286:= Tryz.func250.trans (congrArg some kr)
 f317:= Tryz.func255.trans (congrArg some kr)
 f318:= Tryz.func257.trans (congrArg some kr)
 f319:= Tryz.func258.trans (congrArg some kr)
 f320:= Tryz.func259.trans (congrArg some kr)
 f337:= Tryz.func270.trans (congrArg some kr)
 f338:= Tryz.func271.trans (congrArg some kr)
 t0:= Tryz.underlying0
 a0:= Tryz.isAgg0
 z0:= Tryz.sizeOf0
 v0:= Tryz.zeroValue0
 t2:= Tryz.underlying2
 a2:= Tryz.isAgg2
 z2:= Tryz.sizeOf2
 v2:= Tryz.zeroValue2
 t3:= Tryz.underlying3
 a3:= Tryz.isAgg3
 z3:= Tryz.sizeOf3
 v3:= Tryz.zeroValue3
 t4:= Tryz.underlying4
 a4:= Tryz.isAgg4
 z4:= Tryz.sizeOf4
 v4:= Tryz.zeroValue4
 t5:= Tryz.underlying5
 a5:= Tryz.isAgg5
 z5:= Tryz.sizeOf5
 v5:= Tryz.zeroValue5
 t9:= Tryz.underlying9
 a9:= Tryz.isAgg9
 z9:= Tryz.sizeOf9
 v9:= Tryz.zeroValue9
 t20:= Tryz.underlying20
 a20:= Tryz.isAgg20
 z20:= Tryz.sizeOf20
 v20:= Tryz.zeroValue20
 t37:= Tryz.underlying45
 a37:= Tryz.isAgg45
 z37:= Tryz.sizeOf45
 v37:= Tryz.zeroValue45
 t46:= Tryz.underlying69
 a46:= Tryz.isAgg69
 z46:= Tryz.sizeOf69
 v46:= Tryz.zeroValue69
 t51:= Tryz.underlying300
 a51:= Tryz.isAgg300
 z51:= Tryz.sizeOf300
 v51:= Tryz.zeroValue300
 t53:= Tryz.underlying199
 a53:= Tryz.isAgg199
 z53:= Tryz.sizeOf199
 v53:= Tryz.zeroValue199
 t171:= Tryz.underlying291
 a171:= Tryz.isAgg291
 z171:= Tryz.sizeOf291
 v171:= Tryz.zeroValue291
 t173:= Tryz.underlying294
 a173:= Tryz.isAgg294
 z173:= Tryz.sizeOf294
 v173:= Tryz.zeroValue294
 t212:= Tryz.underlying200
 a212:= Tryz.isAgg200
 z212:= Tryz.sizeOf200
 v212:= Tryz.zeroValue200
 t213:= Tryz.underlying301
 a213:= Tryz.isAgg301
 z213:= Tryz.sizeOf301
 t232:= Tryz.underlying316
 a232:= Tryz.isAgg316
 z232:= Tryz.sizeOf316
 v232:= Tryz.zeroValue316
 t233:= Tryz.underlying317
 a233:= Tryz.isAgg317
 z233:= Tryz.sizeOf317
 v233:= Tryz.zeroValue317
 g17:=kr
 g18:=kr
 g19:=kr
 i0:=kr
 i2:=kr
 i3:=kr
 i4:=kr
 i5:=kr
 i9:=kr
 i20:=kr
 i37:=kr
 i46:=kr
 i51:=kr
 i53:=kr
 i171:=kr
 i173:=kr
 i212:=kr
 i232:=kr
 i233:=kr
 m17:=kr
 m18:=kr
 m19:=by kernel_rfl }
end Go.Proofs
section
open Go Go.Abs Go.Proofs Go.Argus
namespace Go.Proofs.Tryz.K
theorem adN{P:Program}{w:World}{name:String}{g:Nat}{cs:Array Value}(hg:P.globalNamed name=some g)(h:∃ e k,w.heap[g]? =some (.cells cs e k)):w.var? P name=some cs:=by
 obtain⟨e,k,h⟩:=h;unfold World.var?;rw[hg];simp only[Option.bind_some,h]
theorem ZT{w:World}{k:Nat}{os:Array Obj}:Kept w (Sort.grow (w.drewN k) os):=by
 refine⟨?_,fun b hb=>?_,rfl,rfl⟩
 .show w.heap.size<=(w.heap++os).size;rw[Array.size_append];omega
 .show(w.heap++os)[b]? =_;rw[Array.getElem?_append_left hb]
theorem Yl{w w':World}(h:Go.RowKit.Below w.heap.size w w'):Kept w w':=⟨h.size,h.block,h.os,h.output⟩
theorem abv(n:Int)(h0: -9223372036854775808<=n)(h1:n<=9223372036854775807)(w:World)(C:∀ t∈uk,Ap w t):
 Calls prog 145 #[.int .i64 n] w fun e w'=>e=.returned (.string ⟨(Lib.itoa n).toArray⟩)/\Kept w w':=by
 refine(Any.strconv_Itoa Tryz.abu n h0 h1 w (adN (g:=0) kr (C (0,_) (.head _)))).mono fun e w' h=>⟨h.1,?_⟩
 obtain⟨k,os,rfl⟩:=h.2;exact ZT
theorem TZ{n:Int}(h0: -9223372036854775808<=n)(h1:n<=9223372036854775807):aD prog 145 [I n] (S ⟨(Lib.itoa n).toArray⟩):=by
 refine⟨by kernel_rfl,by simp[Tr.s],fun F w vs C J=>?_⟩;obtain⟨hs,hr⟩:=J
 have hv:vs= #[.int .i64 n]:=by
  have hs:vs.size=1:=hs;have h2:=(hr 0 _ vs[0] rfl (by simp[hs])).cX.1;apply Array.ext
  .rw[hs];rfl
  .intro i hi _;have:i=0:=by omega
   subst this;exact h2
 subst hv;exact(abv n h0 h1 w fun t ht=>(C.ma t ht).2).mono fun e w' h=>⟨_,h.1,.s _ rfl,h.2⟩
def Ay(l:List ByteArray)(sep:ByteArray):ByteArray:=⟨(Lib.join (l.map (·.data.toList)) sep.data.toList).toArray⟩
theorem LJ{l:List ByteArray}{sep:ByteArray}(hl:l.length<=140737488355328)(hlen:(Lib.join (l.map (·.data.toList)) sep.data.toList).length<=140737488355328):aD prog 199 [bZ l,S sep] (S (Ay l sep)):=by
 refine⟨by kernel_rfl,by simp[Tr.s,jb],fun F w vs hF hR=>?_⟩;obtain⟨hs,hr⟩:=hR;have hs:vs.size=2:=hs;have h1:=hr 0 _ vs[0] rfl (by simp[hs]);have h2:=(hr 1 _ vs[1] rfl (by simp[hs])).cX.1
 have hv:vs= #[vs[0],.string sep]:=by
  apply Array.ext
  .exact hs
  .intro i hi _;have:i=0\/i=1:=by omega
   rcases this with rfl|rfl
   .rfl
   .exact h2
 rcases h1.tS with⟨J,g2,a,cap,C⟩|⟨b,o,cap,C,M,h4,h5,h6,U,us,X,h9⟩
 .rw[C] at hv;rw[hv];have oL:l=[]:=by simpa using J
  subst oL;exact(Tryz.strings_Join_none a cap sep w).mono fun e w' h=>⟨_,h.1,.s _ rfl,h.2▸⟨bc _,fun _ _=>rfl,rfl,rfl⟩⟩
 .rw[C] at hv;rw[hv];refine(Tryz.strings_Join b o cap l sep w (fun j x hx=>?_) U hl M hlen).mono fun e w' h=>⟨_,h.1,.s _ rfl,Yl h.2⟩
  have hj:j<l.length:=(bM.1 hx).1;have:=(h9 j (S x) (by simp[hx])).cX.1;rw[(X j (by simpa using hj)).1,this]
end Go.Proofs.Tryz.K
end
namespace Go.Abs
section
variable{P:Program}{Y:eb}{rf:Bool}{ops:Array Oper}{dr:Bool}{cf:List (Nat×Nat)}{Q:Exit->St->Prop}{rest:List Oper}{env:Env}{m:Mem}{nx:Nat}{tr:jN}{t:Nat}{op:Op}{ty:TypeId}{pos:String}{after:Array Edge}{v:D}{rd:List Nat}
theorem Cy{d:Option Nat}{e:dt}(he:dc P (aZ env op) m nx op e)(ha:fN env op.operands.toList)(K:av P Y ops dr cf Q rest (St.put ⟨env,cH m e.aT,nx+e.new⟩ d e.val) (tr++[(e.rd,e.aT.map (·.1))])):
 av P Y ops dr cf Q (⟨d,op,ty,pos,after,none⟩::rest) ⟨env,m,nx⟩ tr:=.inr ⟨rfl,oX ha,e,he,K⟩
theorem rh(he:dc P (aZ env op) m nx op ⟨True,v,[],rd,0⟩)(ha:fN env op.operands.toList)(K:av P Y ops dr cf Q rest ⟨up env t v,m,nx⟩ (tr++[(rd,[])])):
 av P Y ops dr cf Q (⟨some t,op,ty,pos,after,none⟩::rest) ⟨env,m,nx⟩ tr:=Cy he ha K
theorem G5{row:Row}(he:dc P (aZ env op) m nx op ⟨True,v,[(nx,some row)],rd,1⟩)(ha:fN env op.operands.toList)(K:av P Y ops dr cf Q rest ⟨up env t v,up m nx (some row),nx+1⟩ (tr++[(rd,[nx])])):
 av P Y ops dr cf Q (⟨some t,op,ty,pos,after,none⟩::rest) ⟨env,m,nx⟩ tr:=Cy he ha K
theorem ag6{i:Nat}{row:Row}(he:dc P (aZ env op) m nx op ⟨True,v,[(i,none),(nx,some row)],rd,1⟩)(ha:fN env op.operands.toList)(K:av P Y ops dr cf Q rest ⟨up env t v,up (up m i none) nx (some row),nx+1⟩ (tr++[(rd,[i,nx])])):
 av P Y ops dr cf Q (⟨some t,op,ty,pos,after,none⟩::rest) ⟨env,m,nx⟩ tr:=Cy he ha K
theorem ag7{i:Nat}(he:dc P (aZ env op) m nx op ⟨True,v,[(i,none)],rd,0⟩)(ha:fN env op.operands.toList)(K:av P Y ops dr cf Q rest ⟨up env t v,up m i none,nx⟩ (tr++[(rd,[i])])):
 av P Y ops dr cf Q (⟨some t,op,ty,pos,after,none⟩::rest) ⟨env,m,nx⟩ tr:=Cy he ha K
theorem TO{i:Nat}{row:Option Row}(he:dc P (aZ env op) m nx op ⟨True,v,[(i,row)],rd,0⟩)(ha:fN env op.operands.toList)(K:av P Y ops dr cf Q rest ⟨env,up m i row,nx⟩ (tr++[(rd,[i])])):
 av P Y ops dr cf Q (⟨none,op,ty,pos,after,none⟩::rest) ⟨env,m,nx⟩ tr:=Cy he ha K
variable{x y z:Operand}{src dst tt u p:TypeId}{a b:ByteArray}{l:List Int}{i off n:Nat}{cs es:List D}{k k':IntKind}
theorem ad2(hx:(opd env x).core=.s (.string a))(hy:(opd env y).core=.s (.string b))(h:a.size+b.size<=maxLen):dc P (aZ env (.binOp .add tt x y p)) m nx (.binOp .add tt x y p) ⟨True,.s (.string (a++b)),[],[],0⟩:=.add tt p x y a b hx hy h
theorem ac9{r:Int}(hx:(opd env x).core=.s (.int k r))(hs:P.underlying src=some (.int k'))(hd:fO P dst=true)(h:0<=r/\r<128):dc P (aZ env (.convert src dst x)) m nx (.convert src dst x) ⟨True,.s (.string (mkStr [r])),[],[],0⟩:=.rune src dst x k k' r hx hs hd h.1 h.2
theorem ad3{h c:Operand}(hx:(opd env x).core=.sl es n)(hh:(opd env h).core=.s (.int k n))(hc:(opd env c).core=.s (.int k' n))(ht:bg P tt=true)(hn:n*P.cellsOf (aF P tt)=es.length):dc P (aZ env (.slice tt x none (some h) (some c))) m nx (.slice tt x none (some h) (some c)) ⟨True,.sc es n,[],[],0⟩:=.cut tt x h c es n k k' hx hh hc ht hn
theorem YD{s:Operand}{e:TypeId}(hs:(opd env s).core=.z)(hx:(opd env x).core=.s (.string b))(he:aF P tt=e)(ht:qm P tt)(hu:fO P u=true)(hb:b.size<=140737488355328)(h1:P.bytesOf e=1):
 dc P (aZ env (.call { callee:=.builtin .append,args:= #[s,x],argTypes:= #[tt,u] })) m nx (.call { callee:=.builtin .append,args:= #[s,x],argTypes:= #[tt,u] }) ⟨True,.rs nx 0 b.size,[(nx,some (.cells (fj b) e))],[],1⟩:=by
 subst he;exact .xg _ s x tt u b rfl hs hx ht hu (by unfold maxLen;omega) (by rw[h1];omega)
theorem aab{s:Operand}{e:TypeId}(hs:(opd env s).core=.rs i off n)(hx:(opd env x).core=.s (.string b))(hi:m i=some (.cells cs e))(he:aF P tt=e)(ht:qm P tt)(hu:fO P u=true)(hf:off+n=cs.length)(hb:n+b.size<=140737488355328)(h1:P.bytesOf e=1):
 dc P (aZ env (.call { callee:=.builtin .append,args:= #[s,x],argTypes:= #[tt,u] })) m nx (.call { callee:=.builtin .append,args:= #[s,x],argTypes:= #[tt,u] }) ⟨True,.rs nx 0 (n+b.size),[(i,none),(nx,some (.cells (cs.drop off++fj b) e))],[i],1⟩:=by
 subst he;exact .xy _ s x tt u b i off n cs rfl hs hx hi ht hu hf (by unfold maxLen;omega) (by rw[h1];omega)
theorem abS{s:Operand}{e:TypeId}{news:List D}{C sz:Nat}{pp:Prop}(hs:(opd env s).core=.sc es n)(he:aF P tt=e)(hc:P.cellsOf e=sz)(hx:jx m sz (opd env x).core=some (pp,rd,C,news))(hp:pp)(ht:bg P tt=true)(hn:n*sz=es.length)(hk:0<C)(hz:0<sz)(hm:n+C<=maxLen)(hb:(n+C)*P.bytesOf e<=140737488355328):
 dc P (aZ env (.call { callee:=.builtin .append,args:= #[s,x],argTypes:= #[tt,tt] })) m nx (.call { callee:=.builtin .append,args:= #[s,x],argTypes:= #[tt,tt] }) ⟨True,.rs nx 0 (n+C),[(nx,some (.cells (es++news) e))],rd,1⟩:=by
 subst he;subst hc;exact .xS _ s x tt es news n C pp rd rfl hs hx hp ht hn hk hz hm hb
theorem abT{s:Operand}{r:Row}(hs:(opd env s).core=.rs i off n)(hi:m i=some r)(hn:0<n):dc P (aZ env (.call { callee:=.builtin .unsafeSliceData,args:= #[s],argTypes:= #[tt] })) m nx (.call { callee:=.builtin .unsafeSliceData,args:= #[s],argTypes:= #[tt] }) ⟨True,.rp i off,[],[i],0⟩:=.xT _ s tt i off n r rfl hs hi hn
theorem ac'{s:Operand}{e:TypeId}(hp:(opd env x).core=.rp i off)(hn:(opd env y).core=.s (.int k n))(C:l.length=n)(hi:m i=some (.cells cs e))(hl:(cs.drop off).take n=lI l)(h0:0<n)(ht:P.underlying tt=some (.pointer e))(he:P.cellsOf e=1)(hm:n<=maxLen)(hr:∀ x∈l,0<=x/\x<256):
 dc P (aZ env (.call { callee:=.builtin .unsafeString,args:= #[x,y],argTypes:= #[tt,u] })) m nx (.call { callee:=.builtin .unsafeString,args:= #[x,y],argTypes:= #[tt,u] }) ⟨True,.s (.string (mkStr l)),[(i,none)],[i],0⟩:=by
 subst C;exact .yq _ x y tt u e l i off cs k rfl hp hn hi hl (List.length_pos_iff.1 h0) ht he hm hr
theorem Kc{es:List (Value×D)}(hx:(opd env x).core=.mp i)(hi:m i=some (.map es))(ht:fL P tt=true):dc P (aZ env (.call { callee:=.builtin .len,args:= #[x],argTypes:= #[tt] })) m nx (.call { callee:=.builtin .len,args:= #[x],argTypes:= #[tt] }) ⟨True,.s (.int .i64 es.length),[],[i],0⟩:=.yp _ x tt i es rfl hx hi ht
theorem aac(hb:G0 tt=true)(ht:aI P tt=true)(hz:a7 P tt=[.s (.pointer none),.z]):dc P (aZ env (.alloc tt)) m nx (.alloc tt) ⟨True,.rp nx 0,[(nx,some (.bs false .z tt))],[],1⟩:=.Ab tt hb ht hz
theorem ada{d:D}(hb:G0 tt=true)(hx:((opd env x).core).cells=[.s (.pointer none),d])(hd:d.one=true)(hs:P.cellsOf tt=2):dc P (aZ env (.box tt x)) m nx (.box tt x) ⟨True,.rp nx 0,[(nx,some (.bs false d tt))],[],1⟩:=.AJ tt x d hb hx hd hs
theorem Fk{q:Bool}{d:D}{T:TypeId}(ha:(opd env x).core=.rp i 1)(hi:m i=some (.bs q d T))(ht:aI P tt=true)(hg:bl P tt=false):dc P (aZ env (.load tt x)) m nx (.load tt x) ⟨True,d,[],[i],0⟩:=.Ar tt x i q d T ha hi ht hg
theorem PX{q:Bool}{d d':D}{T:TypeId}(ha:(opd env x).core=.rp i 1)(hi:m i=some (.bs q d T))(ht:aI P tt=true)(hg:bl P tt=false)(hy:(opd env y).core=d')(h1:d'.one=true):dc P (aZ env (.store tt x y)) m nx (.store tt x y) ⟨True,.aM [],[(i,some (.bs q d' T))],[i],0⟩:=by
 subst hy;exact .xz tt x y i q d T ha hi ht hg h1
end
end Go.Abs
section
open Go Go.Abs Go.Proofs Go.Argus
open Go.Shelf Go.RowKit
namespace Go.Proofs.Tryz.K
theorem Rp:Go.Proofs.Lays.n240 prog Tryz.zz:={ Tryz.JQ with }
theorem U2:Builder.X72 prog Tryz.zz:={ Tryz.Ia with }
set_option maxRecDepth 100000 in
theorem XV{T:TypeId}(hl:liesAt prog prog.depth T (2 / prog.cellsOf T) 0 183 1=true)(b:Nat)(w:World)(h0:w.cell? ⟨b,0,none⟩=some (.pointer none))(U:w.shape? b=some (T,2))(hfz:w.frozen? ⟨b,0,none⟩=false):
 Calls prog 160 #[.pointer (some ⟨b,0,none⟩)] w fun e w'=>e=.returned (.tuple #[])/\w'=w.setCell ⟨b,0,none⟩ (.pointer (some ⟨b,0,none⟩)):=by
 have L:=Rp;have X:=U2;obtain⟨j,hj,C⟩:=cU.1 X.sizeBuilder;have mixed:=L.mixed;have t72:=L.t72;have a72:=L.a72;have z72:=L.z72;have M:=L.v72;have U3:=run_underlying L.t72;have t70:=L.t70;have a70:=L.a70;have z70:=L.z70;have J:=L.v70;have U4:=run_underlying L.t70;have t9:=L.t9;have a9:=L.a9;have z9:=L.z9;have v9:=L.v9;have u9:=run_underlying L.t9;have t4:=L.t4;have a4:=L.a4;have z4:=L.z4;have v4:=L.v4;have u4:=run_underlying L.t4;have t164:=L.t164;have a164:=L.a164;have z164:=L.z164;have v164:=L.v164;have amu:=run_underlying L.t164;show Calls prog (Tryz.zz.f 240) _ _ _
 go_enter L.f240,Body.n240_ntmps Tryz.zz
 go_wp2
 rw[Lib.run_to_unsafe w ⟨b,0,none⟩ L.t70 L.t164 hj (by rw[C];decide) U (Nat.zero_lt_succ 1)];simp only[Result.andThen];rw[Oper.upon_value]
 go_wp2
 rw[run_callFunc_extern L.f276 kr kr kr (e:=Extern.AbiNoEscape.same) kr];rw[Lib.run_noEscape];simp only[Result.andThen];rw[Oper.upon_value]
 go_wp2
 rw[Lib.run_from_unsafe w ⟨b,0,none⟩ L.t164 L.t70 hj U hl];simp only[Result.andThen];rw[Oper.upon_value]
 go_wp2
 go_end0
 exact⟨rfl,rfl⟩
theorem acb{m:Mem}{i:Nat}{r:Row}(h:m i=some r):up m i (some r)=m:=by
 funext j;by_cases hj:j=i
 .subst hj;rw[al,h]
 .rw[aB _ _ hj]
theorem ahN{m:Mem}{nx j:Nat}{u:Bool}{x:D}{T:TypeId}(hj:m j=some (.bs u x T))(hl:liesAt prog prog.depth T (2 / prog.cellsOf T) 0 183 1=true):
 fG prog 160 [.rp j 0] m nx fun d m' ao=>d=.aM []/\m'=up m j (some (.bs true x T))/\ao=nx:=by
 refine⟨by kernel_rfl,fun F β w vs hm M U=>?_⟩;have hs:vs.size=1:=U.1;have h0:=U.2 0 _ vs[0] rfl (by simp[hs]);obtain⟨b,v,hβ,hv,hb,hT,hx,h1⟩:=Kf hm h0 hj
 have HH:vs= #[.pointer (some ⟨b,0,none⟩)]:=by
  apply Array.ext
  .exact hs
  .intro i hi _;have:i=0:=by omega
   subst this;exact hv
 subst HH;have C:w.cell? ⟨b,0,none⟩=some (.pointer (if u then some ⟨b,0,none⟩ else none)):=by rw[Lib.cell_of_heap hb];rfl
 cases u with
 |true=>
  refine(Any.Builder_copyCheck_used Rp U2 b w C).mono fun e w' h=>?_;obtain⟨rfl,rfl⟩:=h;exact⟨_,_,_,_,β,rfl,⟨rfl,(acb hj).symm▸rfl,rfl⟩,hm,M,.aM [] [] rfl oS,Step.refl _ _,bc _,fun _ _ h=>h⟩
 |false=>
  refine(XV hl b w C (by simp[World.shape?,hb]) (by simp[World.frozen?,hb])).mono fun e w' h=>?_;obtain⟨rfl,rfl⟩:=h;have hh:(w.setCell ⟨b,0,none⟩ (.pointer (some ⟨b,0,none⟩))).heap[b]? =some (.cells #[.pointer (some ⟨b,0,none⟩),v] T (0,0)):=by simp[World.setCell,Array.getElem?_modify,hb]
  have X:∀ k,k≠b->(w.setCell ⟨b,0,none⟩ (.pointer (some ⟨b,0,none⟩))).heap[k]? =w.heap[k]? :=fun k hk=>Below.heap_setCell _ _ _ _ hk;have bC:(w.setCell ⟨b,0,none⟩ (.pointer (some ⟨b,0,none⟩))).heap.size=w.heap.size:=by simp[World.setCell]
  have J:=BR hm hβ rfl oG X;have fC:=hm.write hβ rfl bC X (.bs true x T) (.bs true x T b v hh hT (hx.step J) h1);exact⟨_,_,_,_,β,rfl,⟨rfl,rfl,rfl⟩,fC,M,.aM [] [] rfl oS,J,bc _,fun _ _ h=>h⟩
theorem acd:liesAt prog prog.depth 213 (2 / prog.cellsOf 213) 0 183 1=true:=kr
end Go.Proofs.Tryz.K
end
namespace Go.Proofs.Tryz.K
open Go.Abs
noncomputable def bo(f:Func):Code:=(f.body).getD .skip
abbrev FO(n:FuncId)(f:Func)(c:Code):=lb prog n f c
theorem fo{n:FuncId}{f:Func}{c:Code}(h1:prog.funcs[n]? =some f:=by kernel_rfl)(h2:f.body=some c:=by kernel_rfl)(C:gA f.ntmps c=true:=by kernel_rfl)(J:n3 prog n=true:=by kernel_rfl):FO n f c:=⟨h1,h2,C,J⟩
noncomputable def kq:=bo Tryz.f11
theorem ajH:FO 11 Tryz.f11 kq:=fo
noncomputable def fy:=bo Tryz.f13
theorem Ur:FO 13 Tryz.f13 fy:=fo
noncomputable def my:=bo Tryz.f15
theorem ajF:FO 15 Tryz.f15 my:=fo
noncomputable def xH:=bo Tryz.f16
theorem aiy:FO 16 Tryz.f16 xH:=fo
noncomputable def ej:=bo Tryz.f18
theorem Ua:FO 18 Tryz.f18 ej:=fo
noncomputable def pN:=bo Tryz.f20
theorem Ut:FO 20 Tryz.f20 pN:=fo
noncomputable def jj:=bo Tryz.f22
theorem aje:FO 22 Tryz.f22 jj:=fo
noncomputable def vD:=bo Tryz.f24
theorem aja:FO 24 Tryz.f24 vD:=fo
noncomputable def pO:=bo Tryz.f27
theorem Uu:FO 27 Tryz.f27 pO:=fo
noncomputable def pP:=bo Tryz.f28
theorem Uq:FO 28 Tryz.f28 pP:=fo
noncomputable def jk:=bo Tryz.f30
theorem ah4:FO 30 Tryz.f30 jk:=fo
noncomputable def o8:=bo Tryz.f35
theorem aiU:FO 35 Tryz.f35 o8:=fo
noncomputable def lL:=bo Tryz.f37
theorem Uk:FO 37 Tryz.f37 lL:=fo
noncomputable def Gp:=bo Tryz.f39
theorem ajs:FO 39 Tryz.f39 Gp:=fo
noncomputable def Sk:=bo Tryz.f42
theorem ajx:FO 42 Tryz.f42 Sk:=fo
noncomputable def gC:=bo Tryz.f43
theorem aiq:FO 43 Tryz.f43 gC:=fo
noncomputable def jD:=bo Tryz.f44
theorem ait:FO 44 Tryz.f44 jD:=fo
noncomputable def pQ:=bo Tryz.f45
theorem aiv:FO 45 Tryz.f45 pQ:=fo
noncomputable def Gq:=bo Tryz.f48
theorem aie:FO 48 Tryz.f48 Gq:=fo
noncomputable def o9:=bo Tryz.f49
theorem aiD:FO 49 Tryz.f49 o9:=fo
noncomputable def Gr:=bo Tryz.f50
theorem aiB:FO 50 Tryz.f50 Gr:=fo
noncomputable def nq:=bo Tryz.f55
theorem ai3:FO 55 Tryz.f55 nq:=fo
noncomputable def gl:=bo Tryz.f56
theorem ai7:FO 56 Tryz.f56 gl:=fo
noncomputable def gD:=bo Tryz.f57
theorem ail:FO 57 Tryz.f57 gD:=fo
noncomputable def Gs:=bo Tryz.f58
theorem ajc:FO 58 Tryz.f58 Gs:=fo
noncomputable def vE:=bo Tryz.f63
theorem aj1:FO 63 Tryz.f63 vE:=fo
noncomputable def dP:=bo Tryz.f64
theorem ah2:FO 64 Tryz.f64 dP:=fo
noncomputable def o6:=bo Tryz.f65
theorem ah6:FO 65 Tryz.f65 o6:=fo
noncomputable def CK:=bo Tryz.f67
theorem aio:FO 67 Tryz.f67 CK:=fo
noncomputable def xI:=bo Tryz.f70
theorem aiQ:FO 70 Tryz.f70 xI:=fo
noncomputable def Gt:=bo Tryz.f71
theorem aiJ:FO 71 Tryz.f71 Gt:=fo
noncomputable def pR:=bo Tryz.f72
theorem Us:FO 72 Tryz.f72 pR:=fo
noncomputable def Gu:=bo Tryz.f73
theorem ajP:FO 73 Tryz.f73 Gu:=fo
noncomputable def xJ:=bo Tryz.f74
theorem ahY:FO 74 Tryz.f74 xJ:=fo
noncomputable def Gv:=bo Tryz.f76
theorem ahP:FO 76 Tryz.f76 Gv:=fo
noncomputable def Sl:=bo Tryz.f81
theorem ajy:FO 81 Tryz.f81 Sl:=fo
noncomputable def nr:=bo Tryz.f82
theorem aij:FO 82 Tryz.f82 nr:=fo
noncomputable def sy:=bo Tryz.f83
theorem aih:FO 83 Tryz.f83 sy:=fo
noncomputable def Gw:=bo Tryz.f86
theorem ai1:FO 86 Tryz.f86 Gw:=fo
noncomputable def Gx:=bo Tryz.f87
theorem aiZ:FO 87 Tryz.f87 Gx:=fo
noncomputable def Gy:=bo Tryz.f88
theorem aiX:FO 88 Tryz.f88 Gy:=fo
noncomputable def sF:=bo Tryz.f89
theorem TW:FO 89 Tryz.f89 sF:=fo
noncomputable def Gz:=bo Tryz.f90
theorem ai5:FO 90 Tryz.f90 Gz:=fo
noncomputable def Ak:=bo Tryz.f91
theorem ah8:FO 91 Tryz.f91 Ak:=fo
noncomputable def Al:=bo Tryz.f92
theorem ah':FO 92 Tryz.f92 Al:=fo
noncomputable def xG:=bo Tryz.f93
theorem aj7:FO 93 Tryz.f93 xG:=fo
noncomputable def Am:=bo Tryz.f94
theorem aib:FO 94 Tryz.f94 Am:=fo
noncomputable def dQ:=bo Tryz.f97
theorem ajZ:FO 97 Tryz.f97 dQ:=fo
noncomputable def fT:=bo Tryz.f98
theorem ajW:FO 98 Tryz.f98 fT:=fo
noncomputable def pa:=bo Tryz.f99
theorem ah0:FO 99 Tryz.f99 pa:=fo
noncomputable def rX:=bo Tryz.f100
theorem aeT:FO 100 Tryz.f100 rX:=fo
noncomputable def dH:=bo Tryz.f111
theorem Tb:FO 111 Tryz.f111 dH:=fo
noncomputable def Fu:=bo Tryz.f112
theorem ae0:FO 112 Tryz.f112 Fu:=fo
noncomputable def ko:=bo Tryz.f114
theorem afh:FO 114 Tryz.f114 ko:=fo
noncomputable def rY:=bo Tryz.f115
theorem aeR:FO 115 Tryz.f115 rY:=fo
noncomputable def Fv:=bo Tryz.f116
theorem aeP:FO 116 Tryz.f116 Fv:=fo
noncomputable def z6:=bo Tryz.f119
theorem aey:FO 119 Tryz.f119 z6:=fo
noncomputable def Co:=bo Tryz.f120
theorem aeN:FO 120 Tryz.f120 Co:=fo
noncomputable def rZ:=bo Tryz.f122
theorem Tq:FO 122 Tryz.f122 rZ:=fo
noncomputable def Cp:=bo Tryz.f123
theorem agt:FO 123 Tryz.f123 Cp:=fo
noncomputable def Fw:=bo Tryz.f124
theorem afX:FO 124 Tryz.f124 Fw:=fo
noncomputable def Fx:=bo Tryz.f125
theorem af5:FO 125 Tryz.f125 Fx:=fo
noncomputable def Fy:=bo Tryz.f126
theorem aej:FO 126 Tryz.f126 Fy:=fo
noncomputable def Fz:=bo Tryz.f127
theorem af1:FO 127 Tryz.f127 Fz:=fo
noncomputable def FA:=bo Tryz.f128
theorem afZ:FO 128 Tryz.f128 FA:=fo
noncomputable def eO:=bo Tryz.f129
theorem agz:FO 129 Tryz.f129 eO:=fo
noncomputable def n6:=bo Tryz.f130
theorem afR:FO 130 Tryz.f130 n6:=fo
noncomputable def mu:=bo Tryz.f131
theorem agx:FO 131 Tryz.f131 mu:=fo
noncomputable def eA:=bo Tryz.f132
theorem afP:FO 132 Tryz.f132 eA:=fo
noncomputable def jd:=bo Tryz.f133
theorem afH:FO 133 Tryz.f133 jd:=fo
noncomputable def xt:=bo Tryz.f134
theorem afF:FO 134 Tryz.f134 xt:=fo
noncomputable def FC:=bo Tryz.f135
theorem aeo:FO 135 Tryz.f135 FC:=fo
noncomputable def FD:=bo Tryz.f144
theorem aeH:FO 144 Tryz.f144 FD:=fo
noncomputable def J0:=bo Tryz.f146
theorem aeJ:FO 146 Tryz.f146 J0:=fo
noncomputable def FE:=bo Tryz.f147
theorem aeE:FO 147 Tryz.f147 FE:=fo
noncomputable def FF:=bo Tryz.f148
theorem aeL:FO 148 Tryz.f148 FF:=fo
noncomputable def z7:=bo Tryz.f162
theorem agr:FO 162 Tryz.f162 z7:=fo
noncomputable def FG:=bo Tryz.f163
theorem aeg:FO 163 Tryz.f163 FG:=fo
noncomputable def FH:=bo Tryz.f164
theorem afT:FO 164 Tryz.f164 FH:=fo
noncomputable def FI:=bo Tryz.f165
theorem af3:FO 165 Tryz.f165 FI:=fo
noncomputable def r3:=bo Tryz.f166
theorem S4:FO 166 Tryz.f166 r3:=fo
noncomputable def FJ:=bo Tryz.f167
theorem afV:FO 167 Tryz.f167 FJ:=fo
noncomputable def FK:=bo Tryz.f168
theorem Ty:FO 168 Tryz.f168 FK:=fo
noncomputable def z8:=bo Tryz.f169
theorem Tz:FO 169 Tryz.f169 z8:=fo
noncomputable def o3:=bo Tryz.f170
theorem agh:FO 170 Tryz.f170 o3:=fo
noncomputable def r4:=bo Tryz.f171
theorem TC:FO 171 Tryz.f171 r4:=fo
noncomputable def FL:=bo Tryz.f172
theorem agb:FO 172 Tryz.f172 FL:=fo
noncomputable def FM:=bo Tryz.f173
theorem agm:FO 173 Tryz.f173 FM:=fo
noncomputable def FN:=bo Tryz.f174
theorem afD:FO 174 Tryz.f174 FN:=fo
noncomputable def FP:=bo Tryz.f175
theorem aeV:FO 175 Tryz.f175 FP:=fo
noncomputable def Cq:=bo Tryz.f176
theorem TA:FO 176 Tryz.f176 Cq:=fo
noncomputable def Cr:=bo Tryz.f177
theorem agv:FO 177 Tryz.f177 Cr:=fo
noncomputable def RH:=bo Tryz.f178
theorem agQ:FO 178 Tryz.f178 RH:=fo
noncomputable def xu:=bo Tryz.f179
theorem aeq:FO 179 Tryz.f179 xu:=fo
noncomputable def r5:=bo Tryz.f180
theorem aes:FO 180 Tryz.f180 r5:=fo
noncomputable def eS:=bo Tryz.f181
theorem agJ:FO 181 Tryz.f181 eS:=fo
noncomputable def FQ:=bo Tryz.f182
theorem agD:FO 182 Tryz.f182 FQ:=fo
noncomputable def vt:=bo Tryz.f183
theorem aeu:FO 183 Tryz.f183 vt:=fo
noncomputable def lG:=bo Tryz.f184
theorem agL:FO 184 Tryz.f184 lG:=fo
noncomputable def tO:=bo Tryz.f185
theorem ae6:FO 185 Tryz.f185 tO:=fo
noncomputable def pG:=bo Tryz.f186
theorem agH:FO 186 Tryz.f186 pG:=fo
noncomputable def r6:=bo Tryz.f201
theorem S9:FO 201 Tryz.f201 r6:=fo
noncomputable def r7:=bo Tryz.f202
theorem Ta:FO 202 Tryz.f202 r7:=fo
noncomputable def FR:=bo Tryz.f203
theorem aeC:FO 203 Tryz.f203 FR:=fo
noncomputable def r8:=bo Tryz.f223
theorem S5:FO 223 Tryz.f223 r8:=fo
noncomputable def r9:=bo Tryz.f226
theorem S3:FO 226 Tryz.f226 r9:=fo
noncomputable def n7:=bo Tryz.f227
theorem age:FO 227 Tryz.f227 n7:=fo
noncomputable def FT:=bo Tryz.f228
theorem aem:FO 228 Tryz.f228 FT:=fo
noncomputable def FU:=bo Tryz.f229
theorem ago:FO 229 Tryz.f229 FU:=fo
noncomputable def FV:=bo Tryz.f230
theorem af':FO 230 Tryz.f230 FV:=fo
noncomputable def FW:=bo Tryz.f231
theorem agk:FO 231 Tryz.f231 FW:=fo
noncomputable def jB:=bo Tryz.f232
theorem afz:FO 232 Tryz.f232 jB:=fo
noncomputable def Aa:=bo Tryz.f233
theorem afB:FO 233 Tryz.f233 Aa:=fo
noncomputable def qS:=bo Tryz.f234
theorem aeX:FO 234 Tryz.f234 qS:=fo
noncomputable def fS:=bo Tryz.f235
theorem agF:FO 235 Tryz.f235 fS:=fo
noncomputable def FX:=bo Tryz.f244
theorem ae':FO 244 Tryz.f244 FX:=fo
noncomputable def FY:=bo Tryz.f245
theorem afw:FO 245 Tryz.f245 FY:=fo
noncomputable def xv:=bo Tryz.f251
theorem ae8:FO 251 Tryz.f251 xv:=fo
noncomputable def eT:=bo Tryz.f252
theorem afu:FO 252 Tryz.f252 eT:=fo
noncomputable def RI:=bo Tryz.f253
theorem agR:FO 253 Tryz.f253 RI:=fo
noncomputable def RJ:=bo Tryz.f256
theorem agS:FO 256 Tryz.f256 RJ:=fo
noncomputable def qT:=bo Tryz.f260
theorem afs:FO 260 Tryz.f260 qT:=fo
noncomputable def FZ:=bo Tryz.f266
theorem afq:FO 266 Tryz.f266 FZ:=fo
noncomputable def RK:=bo Tryz.f269
theorem agT:FO 269 Tryz.f269 RK:=fo
noncomputable def F0:=bo Tryz.f277
theorem afo:FO 277 Tryz.f277 F0:=fo
theorem bj{f:FuncId}{fn:Func}{c:Code}(hf:lb Tryz.prog f fn c){args:List D}(ht:∀ a∈args,Tr a){r:D}(hr:Tr r)(h:AW Tryz.prog cZ true c (gX Tryz.prog fn.results.toList fun d _=>d=r) ⟨io args,fun _=>none,0⟩)(hn:Nat.ble args.length fn.ntmps=true:=by kernel_rfl):aD Tryz.prog f args r:=aad mixed hf hn ht hr h
theorem HI{f:FuncId}{fn:Func}{c:Code}(hf:lb Tryz.prog f fn c){args:List D}(ht:∀ a∈args,Tr a){es:List D}(C:∀ a∈es,Tr a){k:Nat}{t:TypeId}(h:AW Tryz.prog cZ true c (gX Tryz.prog fn.results.toList fun d st=>∃ i,d=.rs i 0 k∧st.mem i=some (.cells es t)) ⟨io args,fun _=>none,0⟩)(hn:Nat.ble args.length fn.ntmps=true:=by kernel_rfl):kv Tryz.prog f args es k t:=P4 mixed hf hn ht C h
theorem uP{f:FuncId}{fn:Func}{c:Code}(hf:lb Tryz.prog f fn c){args:List D}{m:Mem}{nx:Nat}{dY:D->Mem->Nat->Prop}(h:AW Tryz.prog cZ true c (gX Tryz.prog fn.results.toList fun d st=>dY d st.mem st.nx) ⟨io args,m,nx⟩)(hn:Nat.ble args.length fn.ntmps=true:=by kernel_rfl):fG Tryz.prog f args m nx dY:=P3 mixed hf hn h
def dV(P:Program)(t:TypeId):Array Field:=match P.underlying t with|some (.struct fs)=>fs|_=> #[]
theorem u3:prog.underlying 3=some (.int .i64):=kr
theorem u5:prog.underlying 5=some (.int .u8):=kr
theorem u8:prog.underlying 8=some (.struct (dV prog 8)):=kr
theorem U4:prog.underlying 70=some (.struct (dV prog 70)):=kr
theorem U3:prog.underlying 72=some (.struct (dV prog 72)):=kr
theorem AZ:eB prog 93=3:=kr
theorem A0:fL prog 93=true:=kr
theorem K3:eB prog 105=9:=kr
theorem K4:fL prog 105=true:=kr
theorem La:la prog 111=237:=kr
theorem Uh:prog.underlying 121=some (.struct (dV prog 121)):=kr
theorem Tl:((dV prog 121).toList.map fun f=>(f.offset,prog.cellsOf f.type))=[(0,1),(1,1)]:=kr
theorem Tm:((dV prog 121).toList.all fun f=>(prog.info? f.type).isSome)=true:=kr
theorem C0:eB prog 144=9:=kr
theorem C':fL prog 144=true:=kr
theorem KY:eB prog 172=121:=kr
theorem KZ:fL prog 172=true:=kr
theorem Ui:prog.underlying 174=some (.struct (dV prog 174)):=kr
theorem To:((dV prog 174).toList.map fun f=>(f.offset,prog.cellsOf f.type))=[(0,2),(2,1)]:=kr
theorem Tp:((dV prog 174).toList.all fun f=>(prog.info? f.type).isSome)=true:=kr
theorem K6:eB prog 194=3:=kr
theorem K7:fL prog 194=true:=kr
end Go.Proofs.Tryz.K
