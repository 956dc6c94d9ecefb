/- Part 6. -/
import Derived.Test.YtkogeiacmmckkaaGreatDoorFlowMemory5
import Derived.RecoverIn
set_option linter.all false
namespace Go.Abs
noncomputable def K4:D->D->Bool
 | .rp i o,.rp j q=>Nat.beq i j&&Nat.beq o q
 | .rs i o k,.rs j q l=>(Nat.beq i j&&Nat.beq o q)&&Nat.beq k l
 | .mp i,.mp j=>Nat.beq i j
 | .z,.z=>true
 | .s x,.s y=>pN x y
 |_,_=>false
noncomputable def FP:List D->List D->Bool
 |[],[]=>true
 |a::aS,b::bs=>K4 a b&&FP aS bs
 |_,_=>false
noncomputable def Gp:Option Row->Option Row->Bool
 |none,none=>true
 |some (.cells cs e),some (.cells ds e')=>Nat.beq e e'&&FP cs ds
 |_,_=>false
noncomputable def vM(m m':T Row):List Nat->List (Nat×Option Row)
 |[]=>[]
 |i::l=>bif Gp (m.get i) (m'.get i) then vM m m' l else(i,m'.get i)::vM m m' l
noncomputable def Kn(d:D)(m m':T Row)(nx an:Nat):aY:=⟨d,vM m m' (List.range an),[],an - nx⟩
noncomputable def Ko(call:jX)(o:Oper)(c:bw):Option ni:=match o.guard,o.op with
 |none,.call cl=>match cl.callee with
  | .value f=>match dD c.env f with
   | .fn (.func g) fs cs=>call g (fs++cl.args.toList.map (dD c.env)++cs) c.mem c.nx
   |_=>none
  |_=>none
 |_,_=>none
abbrev HR:=Option (List (aY×Bool)×(bw ⊕ (List PanicEntry×bw)))
noncomputable def Gq(p:aY×Bool):HR->HR
 |some (ps,r)=>some (p::ps,r)
 |none=>none
noncomputable def tk(P:Program)(iD:mJ)(gl:jX)(ops:Array Oper):List Oper->bw->HR
 |[],c=>some ([],.inl c)
 |o::os,c=>match Ko gl o c with
  |some (.inl d,m',an)=>match vK c o.dst (Kn d c.mem m' c.nx an) with
   |some c'=>Gq (Kn d c.mem m' c.nx an,true) (tk P iD gl ops os c')
   |none=>none
  |some (.inr ch,m',an)=>match os with
   |[]=>some ([],.inr (ch,⟨c.env,m',an⟩))
   |_=>none
  |none=>match Gg P iD ops o c with
   |some p=>match vK c o.dst p with
    |some c'=>Gq (p,false) (tk P iD gl ops os c')
    |none=>none
   |none=>none
noncomputable def Gr(p:aY):Bool:=p.aL.isEmpty&&Nat.beq p.new 0
noncomputable def Tp(ps:List (aY×Bool))(q:Nat×Nat):Bool:=match ps[q.1]?,ps[q.2]? with
 |some a,some b=>((!meets b.1.wr a.1.wr&& !meets b.1.rd a.1.wr)&& !meets a.1.rd b.1.wr)&&((!a.2||Gr b.1)&&(!b.2||Gr a.1))
 |_,_=>false
noncomputable def tm(ps:List (aY×Bool)):List (Nat×Nat)->Bool
 |[]=>true
 |q::l=>Tp ps q&&tm ps l
noncomputable def L6(P:Program)(gl:jX)(ops:Array Oper)(p t:Nat)(ty:TypeId):HR->Option (Exit×bw)
 |some (ps,.inl c1)=>bif tm ps (unordered (dh ops.toList []) ps.length) then match c1.mem.put c1.nx (some (.cells (aV P ty) ty)) with
  |some m=>match vJ c1 (some t) (.rp c1.nx 0) m (c1.nx+1) with
   |some C=>qH P [] gl ops (ops.toList.drop (p+1)) C
   |none=>none
  |none=>none
  else none
 |some (ps,.inr (ch,c1))=>bif tm ps (unordered (dh ops.toList []) ps.length)&&(List.range ps.length).all (fun i=>((dh ops.toList []).getD ps.length 0).testBit i) then some (.panic ch,c1) else none
 |none=>none
noncomputable def Se(P:Program)(iD:mJ)(gl:jX)(ops:Array Oper)(p:Nat)(c:bw):Op->Option Nat->Option (Nat×Bool)->Option (Exit×bw)
 | .alloc ty,some t,none=>bif aB P ty&&(ops.toList.take p).all (fun o=>match o.dst with
   |some u=> !Nat.beq u t
   |none=>true) then match vJ c (some t) .u c.mem c.nx with
   |some C=>L6 P gl ops p t ty (tk P iD gl ops (ops.toList.take p) C)
   |none=>none
  else none
 |_,_,_=>none
noncomputable def K5(P:Program)(iD:mJ)(gl:jX)(ops:Array Oper)(c:bw):Option (Exit×bw):=
 bif Nat.ble 2 ops.size&&(tw ops&&(cb ops).isSome) then match ops[ops.size - 2]? with
  |some o=>Se P iD gl ops (ops.size - 2) c o.op o.dst o.guard
  |none=>none
 else none
section
variable{P:Program}{F:Nat->Prop}{ops:Array Oper}{β:av}{w:World}{a:Act}{c c':bw}
theorem aaV{x y:D}(h:K4 x y=true):x=y:=by
 unfold K4 at h;split at h
 .simp only[aw,Nat.beq_eq] at h;rw[h.1,h.2]
 .simp only[aw,Nat.beq_eq] at h;rw[h.1.1,h.1.2,h.2]
 .rw[Nat.eq_of_beq_eq_true h]
 .rfl
 .rw[Jv h]
 .cases h
theorem Pj:∀ {xs ys:List D},FP xs ys=true->xs=ys
 |[],[],_=>rfl
 |x::xs,y::ys,h=>by
  simp only[FP,aw] at h;rw[aaV h.1,Pj h.2]
 |[],_::_,h=>by cases h
 |_::_,[],h=>by cases h
theorem aaW{x y:Option Row}(h:Gp x y=true):x=y:=by
 unfold Gp at h;split at h
 .rfl
 .simp only[aw,Nat.beq_eq] at h;rw[h.1,Pj h.2]
 .cases h
theorem IM{m m':T Row}:∀ (l:List Nat) (g:Mem),(∀ i,g i=m.get i\/g i=m'.get i)->∀ i,bT g (vM m m' l) i=if i∈l then m'.get i else g i
 |[],g,h,i=>by simp[vM,bT]
 |j::l,g,h,i=>by
  cases hs:Gp (m.get j) (m'.get j) with
  |true=>
   simp only[vM,hs,cond_true];rw[IM l g h i];have e:=aaW hs;by_cases hl:i∈l
   .rw[if_pos hl,if_pos (List.mem_cons_of_mem _ hl)]
   .rw[if_neg hl];by_cases hj:i=j
    .subst hj;rw[if_pos (List.mem_cons_self ..)];rcases h i with h1|h1
     .rw[h1,e]
     .exact h1
    .rw[if_neg (fun hm=>by rcases List.mem_cons.1 hm with e|e;exact hj e;exact hl e)]
  |false=>
   simp only[vM,hs,cond_false,bT]
   rw[IM l (up g j (m'.get j)) (fun k=>by
    rw[uE];by_cases hk:k=j
    .subst hk;rw[if_pos rfl];exact .inr rfl
    .rw[if_neg hk];exact h k) i]
   by_cases hl:i∈l
   .rw[if_pos hl,if_pos (List.mem_cons_of_mem _ hl)]
   .rw[if_neg hl,uE];by_cases hj:i=j
    .subst hj;rw[if_pos rfl,if_pos (List.mem_cons_self ..)]
    .rw[if_neg hj,if_neg (fun hm=>by rcases List.mem_cons.1 hm with e|e;exact hj e;exact hl e)]
theorem Sf{o:Oper}{f:FuncId}{args:List D}{y:D ⊕ List PanicEntry}{m':T Row}{an:Nat}{env:Env}(hg:o.guard=none)(hc:cV (dD c.env) o.op=some (f,args))(hz:ZC P [] f args (aQ c.mem) c.nx y (aQ m') an)
 (he:∀ t∈o.looksAt ops,env t=(aP c).env t) (J:ez F β w env a) (hm:ax P F (aQ c.mem) β w) (hn:∀ i,c.nx<=i->β i=none) {r:Option Nat} {n:Nat} {QX:Exit->Act->World->Prop} {K:Act->World->Prop}
 (O:∀ e w',Ends P F β w c.nx y (aQ m') an e w'->(∃ v,e=.returned v/\K (a.put o.dst v) w')\/∃ ch,e=.panicked ch/\QX (.panic ch) a w'):gk r n P ops QX o K a w:=by
 have C:∀ t,Operand.tmp t∈o.op.operands->lD env t=lD (eB c.env) t:=fun t ht=>by
  show sA (env t)=sA (eB c.env t);rw[uB (st:=aP c) he t ht];rfl
 have U:Region.wanted o (yielded ops a.tmps)=true:=by simp[Region.wanted,hg]
 refine II U J.un (uT env _) (by rw[zm (uR C),xc];exact hc) hz.1 fun vs hR=>(hz.2 F β w vs rv hm hn hR).mono fun e w' hp=>O e w' hp
theorem adv{o:Oper}{f:FuncId}{args:List D}{d:D}{m':T Row}{an:Nat}(hg:o.guard=none)(hc:cV (dD c.env) o.op=some (f,args))(hz:ZC P [] f args (aQ c.mem) c.nx (.inl d) (aQ m') an):aY.Dy P ops o (aP c) (Kn d c.mem m' c.nx an):=by
 intro F β w a env he X hm hn r n QX K hK;refine Sf hg hc hz he X hm hn fun e w' ⟨β',⟨v,h1,h2⟩,h3,h4,h5,h6,h7⟩=>.inl ⟨v,h1,hK v w' β' h2 ⟨fun i O hi=>?_,h3.inj,h3.lt,h3.nf,h3.fb⟩ h5 fun i hi J=>?_⟩
 .have hu:=IM (m:=c.mem) (m':=m') (List.range an) (aQ c.mem) (fun i=>.inl rfl) i;have C:bT (aQ c.mem) (vM c.mem m' (List.range an)) i=some O:=hi;rw[hu] at C;by_cases hl:i∈List.range an
  .rw[if_pos hl] at C;exact h3.row i O C
  .rw[if_neg hl] at C;obtain⟨p,hp,_⟩:=hm.row i O C;have U:an<=i:=by simpa using hl
   rw[hn i (Nat.le_trans h6 U)] at hp;cases hp
 .rcases J with J|J
  .exact h7 i J hi
  .refine h4 i ?_;have:c.nx+(an - c.nx)<=i:=J;omega
variable{iD:mJ}{gl:jX}
theorem Pk(ht:s6 P [] gl){o:Oper}{y:D ⊕ List PanicEntry}{m':T Row}{an:Nat}(h:Ko gl o c=some (y,m',an)):o.guard=none/\∃ f args,cV (dD c.env) o.op=some (f,args)/\ZC P [] f args (aQ c.mem) c.nx y (aQ m') an:=by
 unfold Ko at h;split at h
 .rename_i cl hg ho;split at h
  .rename_i f hf;split at h
   .rename_i g fs cs hv;exact⟨hg,g,_,by rw[ho];exact Jc hf hv,ht _ _ _ _ _ _ _ h⟩
   .cases h
  .cases h
 .cases h
def V9(P:Program)(oo:Nat->Oper)(pp:Nat->aY)(st₀:St)(N k l:Nat):bw ⊕ (List PanicEntry×bw)->Prop
 | .inl C=>l=N/\aP C=bu oo pp st₀ (k+l)
 | .inr (ch,C)=>l+1=N/\∃ J f args,aP J=bu oo pp st₀ (k+l)/\C.env=J.env/\(oo (k+l)).guard=none/\cV (dD J.env) (oo (k+l)).op=some (f,args)/\ZC P [] f args (aQ J.mem) J.nx (.inr ch) (aQ C.mem) C.nx
theorem Pm(hp:xd P iD)(ht:s6 P [] gl)(oo:Nat->Oper)(pp:Nat->aY)(hv:Nat->Bool)(st₀:St):∀ (os:List Oper) (k:Nat) (ps:List (aY×Bool)) (c:bw) (r:bw ⊕ (List PanicEntry×bw)),(∀ j o,os[j]? =some o->oo (k+j)=o)->(∀ j p,ps[j]? =some p->pp (k+j)=p.1/\hv (k+j)=p.2)->
 aP c=bu oo pp st₀ k->tk P iD gl ops os c=some (ps,r)->
 (∀ j,k<=j->j<k+ps.length->(pp j).Ok P ops (oo j) (bu oo pp st₀ j)\/(hv j=true/\(pp j).Dy P ops (oo j) (bu oo pp st₀ j)))/\
 V9 P oo pp st₀ os.length k ps.length r
 |[],k,ps,c,r,ho,hq,bF,h=>by
  simp only[tk,aH,bR] at h;obtain⟨rfl,rfl⟩:=h;exact⟨fun j h1 h2=>absurd h2 oP,rfl,bF⟩
 |o::os,k,ps,c,r,ho,hq,bF,h=>by
  have U:oo k=o:=ho 0 o rfl
  have step:∀ {p:aY} {b:Bool} {C:bw},(p.Ok P ops o (aP c)\/(b=true/\p.Dy P ops o (aP c)))->vK c o.dst p=some C->Gq (p,b) (tk P iD gl ops os C)=some (ps,r)->(∀ j,k<=j->j<k+ps.length->(pp j).Ok P ops (oo j) (bu oo pp st₀ j)\/(hv j=true/\(pp j).Dy P ops (oo j) (bu oo pp st₀ j)))/\
   V9 P oo pp st₀ (o::os).length k ps.length r:=fun {p b C} cn J O=>by
   cases hx:tk P iD gl ops os C with
   |none=>rw[hx] at O;cases O
   |some z=>
    obtain⟨qs,r'⟩:=z;rw[hx] at O;simp only[Gq,aH,bR] at O;obtain⟨rfl,rfl⟩:=O;obtain⟨e2,e3⟩:=hq 0 (p,b) rfl;simp only[Nat.add_zero] at e2 e3
    have X:aP C=bu oo pp st₀ (k+1):=by
     rw[kv,U,e2, <- bF];exact EJ J
    obtain⟨a1,a2⟩:=Pm hp ht oo pp hv st₀ os (k+1) qs C r' (fun j x hj=>by have:=ho (j+1) x (by simpa using hj);rw[<- this];congr 1;omega)
     (fun j x hj=>by have:=hq (j+1) x (by simpa using hj);rw[show k+1+j=k+(j+1) by omega];exact this) X hx
    have e4:k+((p,b)::qs).length=k+1+qs.length:=by simp;omega
    refine⟨fun j hj sq=>?_,?_⟩;rw[e4] at sq
    .rcases Nat.lt_or_ge k j with ag|bC
     .exact a1 j ag sq
     .have:j=k:=by omega
      subst this;rw[U,e2,e3, <- bF];exact cn
    .cases r' with
     |inl c3=>exact⟨by simp[a2.1],by rw[e4];exact a2.2⟩
     |inr z=>exact⟨by simp only[List.length_cons];have:=a2.1;omega,by rw[e4];exact a2.2⟩
  simp only[tk] at h;split at h
  .rename_i d m' an hh;split at h
   .rename_i C J;obtain⟨g1,f,args,g2,g3⟩:=Pk ht hh;exact step (.inr ⟨rfl,adv g1 g2 g3⟩) J h
   .cases h
  .rename_i ch m' an hh;split at h
   .simp only[aH,bR] at h;obtain⟨rfl,rfl⟩:=h;obtain⟨g1,f,args,g2,g3⟩:=Pk ht hh;refine⟨fun j h1 h2=>absurd h2 oP,rfl,c,f,args,bF,rfl,?_,?_,g3⟩
    .simp only[List.length_nil,Nat.add_zero];rw[U];exact g1
    .simp only[List.length_nil,Nat.add_zero];rw[U];exact g2
   .cases h
  .split at h
   .rename_i p ng;split at h
    .rename_i C J;exact step (.inl (Qf hp ng).1) J h
    .cases h
   .cases h
theorem Ot{ps:List (aY×Bool)}:∀ {l:List (Nat×Nat)},tm ps l=true->∀ q∈l,Km (ps.getD q.1 default).1 (ps.getD q.2 default).1 (ps.getD q.1 default).2 (ps.getD q.2 default).2
 |[],_,q,hq=>by cases hq
 |p::l,h,q,hq=>by
  simp only[tm,aw] at h;rcases List.mem_cons.1 hq with rfl|hq
  .have h:=h.1;unfold Tp at h;split at h
   .rename_i x y hx hy;simp only[aw,Bool.not_eq_true',Bool.or_eq_true] at h;obtain⟨⟨⟨h1,h2⟩,J⟩,O,U⟩:=h
    have C:∀ {p:aY},Gr p=true->p.aL=[]/\p.new=0:=fun h=>by
     simpa[Gr] using h
    simp only[List.getD,hx,hy,Option.getD_some];exact⟨wV h1,wV h2,wV J,fun e=>C (O.resolve_left (by rw[e];simp)),fun e=>C (U.resolve_left (by rw[e];simp))⟩
   .cases h
  .exact Ot h.2 q hq
theorem aaX{r:Option Nat}{n id:Nat}{e:Exit}(jo:P.follows .mixedOrders=true)(hp:xd P iD)(ht:s6 P [] gl)(ag:kE a.tmps.size ops=true)(h:K5 P iD gl ops c=some (e,c'))
 (hs:bH P F (aP c) β w a):(Code.region id ops true).wpIn (Fe r) n P (cB P F c.nx β w a (QE e c')) a w:=by
 unfold K5 at h;cases hb:(Nat.ble 2 ops.size&&(tw ops&&(cb ops).isSome)) with
 |false=>rw[hb] at h;cases h
 |true=>
 rw[hb] at h;simp only[aw,Nat.ble_eq] at hb;obtain⟨ahx,Gs,aeF⟩:=hb;obtain⟨cf,yC⟩:=Option.isSome_iff_exists.1 aeF;obtain⟨tW,MP,_⟩:=N4 yC;obtain⟨_,xO⟩:=Im Gs;obtain⟨p,hpz⟩:∃ p,ops.size=p+2:=⟨ops.size - 2,oG⟩
 have ep:ops.size - 2=p:=by omega
 have eq1:ops.size - 1=p+1:=by omega
 rw[ep] at h;rw[eq1] at xO;simp only[cond_true] at h;split at h
 rotate_left
 .cases h
 rename_i ol pU;unfold Se at h;split at h
 rotate_left
 .cases h
 rename_i ty t fL eW DB
 cases lE:(aB P ty&&(ops.toList.take p).all (fun o=>match o.dst with
  |some u=> !Nat.beq u t
  |none=>true)) with
 |false=>rw[lE] at h;cases h
 |true=>
 rw[lE] at h;simp only[aw,cv] at lE;obtain⟨Dz,HC⟩:=lE;simp only[cond_true] at h;split at h
 rotate_left
 .cases h
 rename_i C yQ;cases ng:tk P iD gl ops (ops.toList.take p) C with
 |none=>rw[ng] at h;cases h
 |some z=>
 obtain⟨ps,rr⟩:=z;rw[ng] at h;have e0:=zH yQ;have Nf:aP C=⟨up (eB c.env) t .u,aQ c.mem,c.nx⟩:=e0
 have mg:bH P F (aP C) β w a:=by
  rw[Nf];refine⟨fun u=>?_,hs.m,hs.n⟩;by_cases hu:u=t
  .subst hu;show R F β w (up (eB c.env) u .u u) _;rw[ai];exact .u _
  .show R F β w (up (eB c.env) t .u u) _;rw[aA _ _ hu];exact hs.e u
 have hlen:(ops.toList.take p).length=p:=by simp;omega
 have UK:∀ j o,ops[j]? =some o->ops.toList.getD j default=o:=fun j o hj=>by simp[hj]
 obtain⟨k1,k2⟩:=Pm hp ht (fun j=>ops.toList.getD j default) (fun j=>(ps.getD j default).1) (fun j=>(ps.getD j default).2) (aP C) (ops.toList.take p) 0 ps C rr (fun j o hj=>by
  have gw:j<p:=by rw[<- hlen];exact(bU.1 hj).1
  rw[List.getElem?_take,if_pos gw] at hj
  simp at hj;simp[hj]) (fun j p hj=>by simp[hj]) rfl ng
 simp only[Nat.zero_add] at k1 k2
 have adw:∀ {nl:Nat},nl=ps.length->nl<=p->tm ps (unordered (dh ops.toList []) ps.length)=true->∀ i j,i<j->j<nl->((dh ops.toList []).getD j 0).testBit i=false->(ops.toList.getD i default).apart ops (ops.toList.getD j default)=true/\Km (ps.getD i default).1 (ps.getD j default).1 (ps.getD i default).2 (ps.getD j default).2:=fun {nl} gf hle hb i j ko hj UL=>by
  refine⟨?_,Ot hb (i,j) (DY ko (gf▸hj) UL)⟩;have h1:=MP _ (DY ko (show j<ops.size by omega) UL);have bL:i<ops.size:=by omega
  have gw:j<ops.size:=by omega
  simpa[D8,bL,gw] using h1
 have ahy:∀ j,j<p->(ops.toList.getD j default).dst≠some t:=fun j hj e=>by
  have gw:j<ops.size:=by omega
  have hx:ops.toList.getD j default∈ops.toList.take p:=by
   have:(ops.toList.take p)[j]? =some (ops.toList.getD j default):=by
    rw[List.getElem?_take,if_pos hj];simp[gw]
   exact cX this
  have:=HC _ hx;rw[e] at this;simp at this
 have eS:Step β w β { w with drawn:=w.drawn+1 }:=⟨a6 _,fun _ _ h=>⟨rfl,h⟩,fun _ _ h=>.inl h,⟨rfl,rfl⟩,fun _ _ _ _=>mA rfl⟩
 have yD:ax P F (aP C).mem β { w with drawn:=w.drawn+1 }:=mg.m.ext (a6 _) fun _ _=>rfl;have hE1:ez F β { w with drawn:=w.drawn+1 } (aP C).env a:=mg.e.step eS;obtain⟨Dc,pW⟩:=acv hE1 yD
 have UM:∀ nl,cY (fun j=>ops.toList.getD j default) (fun j=>(ps.getD j default).1) (aP C) (fun j=>(Array.replicate ops.size false).getD j false) nl=aP C:=fun nl=>by
  induction nl with
  |zero=>rfl
  |succ n ih=>
   have:(Array.replicate ops.size false).getD n false=false:=by simp[Array.getD_eq_getD_getElem?,Array.getElem?_replicate];split<;>rfl
   simp only[cY,this,Bool.false_eq_true,if_false];exact ih
 have GP:∀ j,(Array.replicate ops.size false).getD j false=false:=fun j=>by simp[Array.getD_eq_getD_getElem?,Array.getElem?_replicate];split<;>rfl
 have DA:(ops.toList.getD p default).op=.alloc ty/\(ops.toList.getD p default).dst=some t/\(ops.toList.getD p default).guard=none:=by
  rw[UK p ol pU];exact⟨fL,eW,DB⟩
 have aeG:(aP C).env t=.u:=by rw[Nf];exact ai _ _ _
 have UN:(aP C).nx=c.nx:=by rw[Nf]
 have go:∀ {nl:Nat} (_:nl=ps.length) (_:nl<=p) (_:tm ps (unordered (dh ops.toList []) ps.length)=true)
  (_:nl=p->∀ β1 w1 a1,bH P F ⟨up (bu (fun j=>ops.toList.getD j default) (fun j=>(ps.getD j default).1) (aP C) p).env t (.rp (bu (fun j=>ops.toList.getD j default) (fun j=>(ps.getD j default).1) (aP C) p).nx 0),up (bu (fun j=>ops.toList.getD j default) (fun j=>(ps.getD j default).1) (aP C) p).mem (bu (fun j=>ops.toList.getD j default) (fun j=>(ps.getD j default).1) (aP C) p).nx (some (.cells (aV P ty) ty)),(bu (fun j=>ops.toList.getD j default) (fun j=>(ps.getD j default).1) (aP C) p).nx+1⟩ β1 w1 a1->
   de c.nx β w a ⟨up (bu (fun j=>ops.toList.getD j default) (fun j=>(ps.getD j default).1) (aP C) p).env t (.rp (bu (fun j=>ops.toList.getD j default) (fun j=>(ps.getD j default).1) (aP C) p).nx 0),up (bu (fun j=>ops.toList.getD j default) (fun j=>(ps.getD j default).1) (aP C) p).mem (bu (fun j=>ops.toList.getD j default) (fun j=>(ps.getD j default).1) (aP C) p).nx (some (.cells (aV P ty) ty)),(bu (fun j=>ops.toList.getD j default) (fun j=>(ps.getD j default).1) (aP C) p).nx+1⟩ β1 w1 a1->
   ∀ K:Act->World->Prop,(∀ a' w',cB P F c.nx β w a (QE e c') .normal a' w'->K a' w')->gk r n P ops (cB P F c.nx β w a (QE e c')) (ops.toList.getD (p+1) default) K a1 w1)
  (_:nl<p->nl+1=p/\(∀ i,i<nl->((dh ops.toList []).getD nl 0).testBit i=true)/\∃ ch mP pu,(QE e c') (.panic ch) ⟨(bu (fun j=>ops.toList.getD j default) (fun j=>(ps.getD j default).1) (aP C) nl).env,mP,pu⟩/\
   ∀ (F:Nat->Prop) (β:av) (w:World) (a:Act),bH P F (bu (fun j=>ops.toList.getD j default) (fun j=>(ps.getD j default).1) (aP C) nl) β w a->∀ (QX:Exit->Act->World->Prop) (K:Act->World->Prop),
    (∀ β' w',ax P F mP β' w'->(∀ i,pu<=i->β' i=none)->Step β w β' w'->(bu (fun j=>ops.toList.getD j default) (fun j=>(ps.getD j default).1) (aP C) nl).nx<=pu->(∀ i,i<(bu (fun j=>ops.toList.getD j default) (fun j=>(ps.getD j default).1) (aP C) nl).nx->β i=none->β' i=none)->QX (.panic ch) a w')->gk r n P ops QX (ops.toList.getD nl default) K a w),
  (Code.region id ops true).wpIn (Fe r) n P (cB P F c.nx β w a (QE e c')) a w:=fun {nl} gf hle J L3 L4=>by
  refine wpIn_region_any jo ?_
  refine adu (st₀:=aP C) (oo:=fun j=>ops.toList.getD j default) (pp:=fun j=>(ps.getD j default).1) (hv:=fun j=>(ps.getD j default).2) (p:=p) (nl:=nl) (t:=t) (ty:=ty) r n UK ag hpz tW DA.1 DA.2.1 DA.2.2 Dz ahy aeG xO hle
   (fun j hj=>k1 j (Nat.zero_le _) (gf▸hj)) (adw gf hle J) L3 L4 (by rw[UN];exact a6 _) hs.m.fb ops.size (Array.replicate ops.size false) β _ a oS ?_ (GP _) (fun _=>GP _) (fun j hj=>by rw[GP] at hj;cases hj)
   ⟨none,fun h=>(by rw[GP] at h;cases h),fun _=>rfl,fun b hb=>(by cases hb),⟨?_,?_,fun i hi _=>hs.n i (show c.nx<=i from UN▸hi),eS,fun _ _ h=>h,rfl,rfl⟩⟩
  .simpa using List.countP_le_length (p:=fun b=> !b) (l:=(Array.replicate ops.size false).toList)
  .rw[UM];exact Dc
  .rw[UM];exact pW
 cases rr with
 |inl O=>
  obtain⟨k3,X⟩:=k2;rw[hlen] at k3;rw[k3,Nat.zero_add] at X;simp only[L6] at h;cases J:tm ps (unordered (dh ops.toList []) ps.length) with
  |false=>rw[J] at h;cases h
  |true=>
  rw[J] at h;simp only[cond_true] at h;split at h
  rotate_left
  .cases h
  rename_i m hm;split at h
  rotate_left
  .cases h
  rename_i c2 qT;refine go (nl:=p) k3.symm (a6 _) J (fun _ β1 w1 a1 U gO K hK=>?_) fun h=>absurd h (Nat.lt_irrefl _)
  have e2:aP c2=⟨up (aP O).env t (.rp (aP O).nx 0),up (aP O).mem (aP O).nx (some (.cells (aV P ty) ty)),(aP O).nx+1⟩:=by
   rw[zH qT,w9 hm];rfl
  rw[<- X, <- e2] at U gO;have jG:p+1<ops.size:=by omega
  have hx:ops[p+1]? =some (ops.toList.getD (p+1) default):=by simp[jG]
  have iZ:ops.toList.drop (p+1)=[ops.toList.getD (p+1) default]:=by
   have Dw:p+1<ops.toList.length:=by simpa using jG
   rw[List.drop_eq_getElem_cons Dw,List.drop_eq_nil_of_le oP];simp[List.getD,jG]
  rw[iZ] at h;have Tq:∀ u,(ops.toList.getD (p+1) default).dst=some u->u<a1.tmps.size:=fun u hu=>by rw[gO.size];exact rm ag hx u hu
  simp only[qH] at h;split at h
  .rename_i c3 h2;simp only[aH,bR] at h;obtain⟨rfl,rfl⟩:=h;exact zI ht h2 rv U Tq _ _ (fun _ β' a' w' g1 g2=>hK _ _ ⟨_,β',⟨rfl,rfl⟩,g1,gO.trans g2⟩) fun ch jR=>by cases jR
  .rename_i ch c3 h2;simp only[aH,bR] at h;obtain⟨rfl,rfl⟩:=h
   exact zI ht h2 rv U Tq _ _ (fun jR=>by cases jR) fun VY jR β' w' g1 g2=>by
    cases jR;exact⟨_,β',⟨rfl,rfl⟩,g1,gO.trans g2⟩
  .cases h
 |inr z=>
  obtain⟨ch,O⟩:=z;obtain⟨k3,c2,f,args,X,k5,k6,k7,k8⟩:=k2;rw[hlen] at k3;rw[Nat.zero_add] at X k6 k7;simp only[L6] at h;cases J:tm ps (unordered (dh ops.toList []) ps.length)&&(List.range ps.length).all (fun i=>((dh ops.toList []).getD ps.length 0).testBit i) with
  |false=>rw[J] at h;cases h
  |true=>
  rw[J] at h;simp only[cond_true,aH,bR] at h;obtain⟨rfl,rfl⟩:=h;simp only[aw,cv,List.mem_range] at J;have yU:∀ mP pu,(⟨(bu (fun j=>ops.toList.getD j default) (fun j=>(ps.getD j default).1) (aP C) ps.length).env,mP,pu⟩:St)=⟨eB O.env,mP,pu⟩:=fun mP pu=>by rw[<- X,k5];rfl
  refine go (nl:=ps.length) rfl oG J.1 (fun h=>absurd h oG) fun _=>⟨k3,J.2,ch,aQ O.mem,O.nx,⟨rfl,yU _ _⟩,fun F β w a U QX K hq=>?_⟩
  .rw[<- X] at U;refine Sf (ops:=ops) k6 k7 k8 (fun _ _=>rfl) U.e U.m U.n fun e w' ⟨β',g1,g2,g3,g4,g5,g6⟩=>.inr ⟨ch,g1,hq β' w' g2 g3 g4 (by rw[<- X];exact g5) (by rw[<- X];exact g6)⟩
end
noncomputable def V'(P:Program)(iD:mJ)(gl:jX)(ops:Array Oper)(s:bw):Option (Exit×bw)->Option (Exit×bw)
 |some r=>some r
 |none=>K5 P iD gl ops s
noncomputable def wD(P:Program)(x:Ctx)(ev:Ev):Nat->Code->bw->Option (Exit×bw)
 |0,_,_=>none
 |n+1,c,s=>match c with
  | .seq a b=>match wD P x ev n a s with
   |some (.normal,s')=>wD P x ev n b s'
   |r=>r
  | .region _ ops true=>V' P (Ch P x ev) (xR P x ev []) ops s (Gh P [] (xR P x ev []) (Ch P x ev) ops s (cb ops))
  |c=>ev [] false c s
noncomputable def Ts(o:Oper):Option Operand:=match o.op,o.dst,o.guard with
 | .defer cl,none,none=>match cl.callee with
  | .value f=>bif Nat.beq cl.args.size 0 then some f else none
  |_=>none
 |_,_,_=>none
noncomputable def Sg:Code->Option (Array Oper×Operand)
 | .region _ ops false=>match ops[ops.size - 1]? with
  |some o=>match Ts o with
   |some f=>some (ops,f)
   |none=>none
  |none=>none
 |_=>none
noncomputable def CI(P:Program)(x:Ctx)(ev:Ev):Nat->Code->bw->Option (Exit×bw×Option D)
 |0,_,_=>none
 |n+1,c,s=>match c with
  | .seq a b=>match Sg a with
   |some (ops,f)=>match qH P [] (xR P x ev []) ops (ops.toList.take (ops.size - 1)) s with
    |some (.normal,s1)=>match wD P x ev n b s1 with
     |some (e,s2)=>some (e,s2,some (dD s1.env f))
     |none=>none
    |_=>none
   |none=>match wD P x ev n a s with
    |some (.normal,s')=>CI P x ev n b s'
    |some (e,s')=>some (e,s',none)
    |none=>none
  |_=>none
noncomputable def Tt(o:Oper):Option Nat:=match o.op,o.dst,o.guard with
 | .call cl,some t,none=>match cl.callee with
  | .builtin .recover=>some t
  |_=>none
 |_,_,_=>none
noncomputable def Ck(P:Program):List Oper->bw->Option bw
 |[],c=>some c
 |o::os,c=>match o.guard with
  |none=>match Ds o.op P (dD c.env) c.mem c.nx with
   |some p=>match vK c o.dst p with
    |some c'=>Ck P os c'
    |none=>none
   |none=>none
  |some _=>none
noncomputable def ahz(P:Program)(fn:Func):Option (Exit×bw)->Option (T Row×Nat)
 |some (.normal,s)=>match qv P fn s with
  |some (.inl _,m,nx)=>some (m,nx)
  |_=>none
 |some (.ret,s)=>match qv P fn s with
  |some (.inl _,m,nx)=>some (m,nx)
  |_=>none
 |_=>none
noncomputable def UO(P:Program)(ev:Ev)(fn:Func)(v:Value)(m:T Row)(nx:Nat)(env:T D):Code->Option (T Row×Nat)
 | .seq (.region _ ops false) rest=>match ops.toList with
  |o::os=>match Tt o with
   |some t=>match env.put t (some (.s v)) with
    |some C=>match Ck P os ⟨C,m,nx⟩ with
     |some s1=>ahz P fn (ev [] false rest s1)
     |none=>none
    |none=>none
   |none=>none
  |[]=>none
 |_=>none
noncomputable def yn(P:Program)(x:Ctx)(ev:Ev)(g:FuncId)(args:List D)(v:Value)(m:T Row)(nx:Nat):Option (T Row×Nat):=match x.fH g with
 |some (fn,c)=>bif io args.length (List.replicate fn.ntmps .u)&&plain v then match vj 0 args .leaf with
  |some t=>UO P ev fn v m nx t c
  |none=>none
  else none
 |none=>none
noncomputable def FQ(P:Program)(fn:Func)(env:T D):Option (T Row×Nat)->Option ni
 |some (m,nx)=>qv P fn ⟨env,m,nx⟩
 |none=>none
noncomputable def GQ(P:Program)(x:Ctx)(ev:Ev)(fn:Func):Option (Exit×bw×Option D)->Option ni
 |some (e,s,none)=>FK P fn (some (e,s))
 |some (.normal,s,some (.fn (.func g) fs cs))=>FQ P fn s.env (yn P x ev g (fs++cs) .nilIface s.mem s.nx)
 |some (.ret,s,some (.fn (.func g) fs cs))=>FQ P fn s.env (yn P x ev g (fs++cs) .nilIface s.mem s.nx)
 |some (.panic [⟨v,false,false⟩],s,some (.fn (.func g) fs cs))=>FQ P fn s.env (yn P x ev g (fs++cs) v s.mem s.nx)
 |_=>none
noncomputable def vN(P:Program)(x:Ctx)(ev:Ev)(n:Nat)(f:FuncId)(args:List D)(m:T Row)(nx:Nat):Option ni:=match x.fH f with
 |none=>none
 |some (fn,c)=>bif io args.length (List.replicate fn.ntmps .u) then match vj 0 args .leaf with
  |none=>none
  |some t=>GQ P x ev fn (CI P x ev n c ⟨t,m,nx⟩)
  else none
section
variable{P:Program}{F:Nat->Prop}{β:av}{w:World}{a:Act}{x:Ctx}{ev:Ev}
theorem Si(hx:oE P x)(C:qI P ev):∀ (n:Nat) (c:Code) (s s':bw) (e:Exit),wD P x ev n c s=some (e,s')->∀ (k:Nat) (β:av) (w:World) (a:Act),eP a.tmps.size c=true->bH P F (aP s) β w a->c.wpIn (Fe none) k P (qA P F false s.nx β w a e s') a w:=by
 intro n
 induction n with
 |zero=>intro c s s' e h;cases h
 |succ n ih=>
  intro c s s' e h k β w a ag hs;have other:ev [] false c s=some (e,s')->c.wpIn (Fe none) k P (qA P F false s.nx β w a e s') a w:=fun h=>C [] false c s e s' h F none k β w a (fun h=>by cases h) rv ag hs;simp only[wD] at h;split at h
  .rename_i O c2;simp only[eP,aw] at ag;cases h1:wD P x ev n O s with
   |none=>rw[h1] at h;cases h
   |some es=>
    obtain⟨U,s1⟩:=es;rw[h1] at h;refine wpIn_seq (wpIn_mono (ih O s s1 U h1 k β w a ag.1 hs) fun e2 a2 w2 hp=>?_);obtain⟨⟨_,β2,⟨rfl,rfl⟩,jw,J⟩,po⟩:=hp;cases e2 with
    |normal=>exact wpIn_mono (ih c2 s1 s' e h k β2 w2 a2 (by rw[J.size];exact ag.2) jw) fun e3 a3 w3 yW=>qA.trans J po yW
    |_=>cases h;exact⟨⟨_,β2,⟨rfl,rfl⟩,jw,J⟩,po⟩
  .rename_i id ops;have fin:(Code.region id ops true).wpIn (Fe none) k P (cB P F s.nx β w a (QE e s')) a w->(Code.region id ops true).wpIn (Fe none) k P (qA P F false s.nx β w a e s') a w:=fun h=>wpIn_mono h fun U a1 w1 ⟨st',β',h1,h2,X⟩=>⟨⟨st',β',h1,h2,X.v8⟩,fun _=>X.defers⟩
   unfold V' at h;split at h
   .rename_i r hr;cases h;exact fin (Qg hx.mix (BM hx C) (Jg hx C) ag hr rv hs)
   .exact fin (aaX hx.mix (Jg hx C) (BM hx C) ag h hs)
  .exact other h
def Gt(P:Program)(F:Nat->Prop)(N:Nat)(β:av)(w:World)(a:Act)(e:Exit)(s':bw)(O:Option D)(e2:Exit)(a2:Act)(w2:World):Prop:=
 e2=e/\∃ C,bH P F (aP s') C w2 a2/\Step β w C w2/\N<=s'.nx/\(∀ i,i<N->β i=none->C i=none)/\a2.tmps.size=a.tmps.size/\match O with
  |none=>a2.defers=a.defers
  |some J=>∀ g fs cs,J=.fn (.func g) fs cs->∃ us vs,Rs F C w2 fs us/\Rs F C w2 cs vs/\a2.defers={ target:=.fn (.func g) vs,args:=us }::a.defers
theorem acw(hx:oE P x)(fN:qI P ev):∀ (n:Nat) (c:Code) (s s':bw) (e:Exit) (od:Option D),CI P x ev n c s=some (e,s',od)->(∀ dv,od=some dv->∃ g fs cs,dv=.fn (.func g) fs cs)->∀ (k:Nat) (β:av) (w:World) (a:Act),eP a.tmps.size c=true->bH P F (aP s) β w a->c.wpIn (Fe none) k P (Gt P F s.nx β w a e s' od) a w:=by
 intro n
 induction n with
 |zero=>intro c s s' e od h;cases h
 |succ n ih=>
  intro c s s' e od h DC k β w a ag hs;simp only[CI] at h;split at h
  rotate_left
  .cases h
  rename_i c1 c2;simp only[eP,aw] at ag;split at h
  .rename_i ops f O;split at h
   rotate_left
   .cases h
   rename_i s1 h1;split at h
   rotate_left
   .cases h
   rename_i e2 s2 h2;cases h;obtain⟨g,fs,cs,hg⟩:=DC _ rfl;unfold Sg at O;split at O
   rotate_left
   .cases O
   rename_i id ams;split at O
   rotate_left
   .cases O
   rename_i o ho;split at O
   rotate_left
   .cases O
   rename_i f' J;cases O;have jI:ops.size - 1<ops.size:=(Array.getElem?_eq_some_iff.1 ho).1
   obtain⟨cl,q1,q2,q3,q4,q5⟩:∃ cl,o.op=.defer cl/\o.dst=none/\o.guard=none/\cl.callee=.value f/\cl.args.size=0:=by
    unfold Ts at J;split at J
    .rename_i cl fL eW DB;split at J
     .rename_i ff hff;cases br:Nat.beq cl.args.size 0 with
      |false=>rw[br] at J;cases J
      |true=>rw[br] at J;cases J;exact⟨cl,fL,eW,DB,hff,Nat.eq_of_beq_eq_true br⟩
     .cases J
    .cases J
   have ahA:kE a.tmps.size ops=true:=ag.1;have hlen:(ops.toList.take (ops.size - 1)).length=ops.size - 1:=by simp
   refine wpIn_seq (wpIn_region ?_)
   have:=Pg (r:=none) (n:=k) (tl:=1) (QX:=Exit.then (c2.wpIn (Fe none) k P (Gt P F s.nx β w a e s' (some (dD s1.env f)))) (Gt P F s.nx β w a e s' (some (dD s1.env f)))) (BM hx fN) (rv (F:=F) (β:=β) (w:=w)) ahA (fun ch he=>by cases he) (ops.toList.take (ops.size - 1)) 0 s β w a (fun j o hj=>by
    have gw:j<ops.size - 1:=by rw[<- hlen];exact(bU.1 hj).1
    rw[List.getElem?_take,if_pos gw] at hj
    simpa using hj) h1 hs (de.refl (aP s) β w a) fun _ β1 w1 a1 dF U=>?_
   .rw[List.range_eq_range'];rw[hlen,show ops.size - 1+1=ops.size by omega] at this;exact this
   .rw[hlen,Nat.zero_add];simp only[List.range'_one,wpOpsIn_cons];refine zd ho ?_;have hR:R F β1 w1 (dD s1.env f) (a1.eval f):=by rw[zz];exact dF.e.un.opd f
    rw[hg] at hR;generalize hv:a1.eval f=v at hR;cases hR with
    |fn _ _ _ us vs hl jt hh AR=>
     unfold gk;have hw:Region.wanted o (yielded ops a1.tmps)=true:=by simp[Region.wanted,q3]
     rw[hw,if_pos rfl];refine⟨fun _ _=>trivial,?_⟩;have cg:cl.args= #[]:=Array.eq_empty_of_size_eq_zero q5
     have cK:(o.semAt none a1.eval).run P w1=.ok (.defer { target:=.fn (.func g) vs.toArray,args:=us.toArray }) w1:=by
      rw[Oper.semAt_none];unfold execOp;rw[q1];simp only[resolve,q4,Sem.run_bind,hv,Deferred.ofValue,Sem.run_pure,Result.andThen_ok,cg];simp
     have aeH:(o.semAt (Fe none).round a1.eval).run P w1=_:=cK;rw[aeH,Oper.uponIn_defer,q2];show c2.wpIn (Fe none) k P (Gt P F s.nx β w a e s' (some (dD s1.env f))) { a1 with defers:={ target:=.fn (.func g) vs.toArray,args:=us.toArray }::a1.defers } w1;have ahB:bH P F (aP s1) β1 w1 { a1 with defers:={ target:=.fn (.func g) vs.toArray,args:=us.toArray }::a1.defers }:=⟨dF.e,dF.m,dF.n⟩
     refine wpIn_mono (Si hx fN n c2 s1 s' e h2 k β1 w1 _ (by show eP a1.tmps.size c2=true;rw[U.size];exact ag.2) ahB) fun e3 a3 w3 yW=>?_;obtain⟨⟨_,β3,⟨rfl,rfl⟩,jd,X⟩,wC⟩:=yW;refine⟨rfl,β3,jd,U.step.trans X.step,Nat.le_trans U.le X.le,fun i hi hb=>X.grow i (Nat.lt_of_lt_of_le hi U.le) (U.grow i hi hb),X.size.trans U.size,?_⟩;intro g' fs' cs' HE;rw[hg] at HE;cases HE;refine⟨us.toArray,vs.toArray,?_,?_,?_⟩
     .exact⟨by simp[hl],fun j d v hd hv=>(hh j d v hd (by simpa using hv)).step X.step⟩
     .exact⟨by simp[jt],fun j d v hd hv=>(AR j d v hd (by simpa using hv)).step X.step⟩
     .rw[wC rfl, <- U.defers]
  .cases h1:wD P x ev n c1 s with
   |none=>rw[h1] at h;cases h
   |some es=>
    obtain⟨e1,s1⟩:=es;rw[h1] at h;refine wpIn_seq (wpIn_mono (Si hx fN n c1 s s1 e1 h1 k β w a ag.1 hs) fun e2 a2 w2 hp=>?_);obtain⟨⟨_,β2,⟨rfl,rfl⟩,jw,C⟩,po⟩:=hp;cases e2 with
    |normal=>
     refine wpIn_mono (ih c2 s1 s' e od h DC k β2 w2 a2 (by rw[C.size];exact ag.2) jw) fun e3 a3 w3 yW=>?_;obtain⟨rfl,β3,g1,g2,g3,g4,g5,g6⟩:=yW;refine⟨rfl,β3,g1,C.step.trans g2,Nat.le_trans C.le g3,fun i hi hb=>g4 i (Nat.lt_of_lt_of_le hi C.le) (C.grow i hi hb),g5.trans C.size,?_⟩;rw[po rfl] at g6;exact g6
    |_=>cases h;exact⟨rfl,β2,jw,C.step,C.le,C.grow,C.size,po rfl⟩
theorem Ym{o:Oper}{c:bw}{p:aY}(h:dn P o.op (dD c.env) (aQ c.mem) c.nx p)(hs:bH P F (aP c) β w a):
 ∃ nx v w' β',(execOp a.eval o).run P w=.ok nx w'/\(nx=.value v\/(nx=.skip/\v=undef))/\R F β' w' p.val v/\ax P F (bT (aQ c.mem) p.aL) β' w'/\Step β w β' w'/\∀ i,β i=none->(i<c.nx\/c.nx+p.new<=i)->β' i=none:=by
 cases h with
 |a e h hp=>exact Pc (m:=aQ c.mem) (nx:=c.nx) hs.m (fun _=>hs.n _ (a6 _)) (env:=lD (eB c.env)) hs.e.un (uT _ _) (by rw[xc];exact h) hp
 |n e h=>exact OK (m:=aQ c.mem) (nx:=c.nx) hs.m (fun _=>hs.n _ (a6 _)) (env:=lD (eB c.env)) hs.e.un (uT _ _) (by rw[xc];exact h)
theorem Qj{ops:Array Oper}{c':bw}{k:Nat}{Q:Exit->Act->List Frame->World->Prop}{cs:List Frame}{N:Nat}{β₀:av}{w₀:World}{a₀:Act}(ag:kE a₀.tmps.size ops=true)
 (O:∀ β w a,bH P F (aP c') β w a->de N β₀ w₀ a₀ (aP c') β w a->Q .normal a cs w):∀ (rest:List Oper) (j:Nat) (c:bw) (β:av) (w:World) (a:Act),(∀ i o,rest[i]? =some o->ops[j+i]? =some o)->Ck P rest c=some c'->bH P F (aP c) β w a->de N β₀ w₀ a₀ (aP c) β w a->
 wpOpsSIn (Fe none) k P ops Q (List.range' j rest.length) a cs w
 |[],j,c,β,w,a,hj,h,hs,bX=>by
  simp only[Ck,aH] at h;subst h;exact O β w a hs bX
 |o::rest,j,c,β,w,a,hj,h,hs,bX=>by
  have ho:ops[j]? =some o:=hj 0 o rfl;simp only[Ck] at h;split at h
  rotate_left
  .cases h
  rename_i hg;split at h
  rotate_left
  .cases h
  rename_i p hp;split at h
  rotate_left
  .cases h
  rename_i U ua;have hw:Region.wanted o (yielded ops a.tmps)=true:=by simp[Region.wanted,hg]
  obtain⟨nx,v,w',β',h1,h2,h3,h4,C,J⟩:=Ym (Kj hp) hs;have X:∀ t,o.dst=some t->t<a.tmps.size:=fun t ht=>by rw[bX.size];exact rm ag ho t ht
  have e:=EJ ua
  have next:=Qj (k:=k) ag O rest (j+1) U β' w' (a.put o.dst v) (fun i o hi=>by rw[Nat.add_right_comm];exact hj (i+1) o (by simpa using hi)) h (by
   rw[e];exact bH.put (st':=⟨eB c.env,bT (aQ c.mem) p.aL,c.nx+p.new⟩) (hs.e.step C) X h3 h4 fun i hi=>J i (hs.n i (by have:c.nx+p.new<=i:=hi;show c.nx<=i;omega)) (.inr hi)) (bX.trans (by
   rw[e];exact IJ (st:=aP c) C (Nat.le_add_right _ _) fun i hi hb=>J i hb (.inl hi)))
  simp only[List.length_cons,List.range'_succ,wpOpsSIn,ho];refine⟨fun _ _=>trivial,?_⟩;rw[hw,if_pos rfl,h1];rcases h2 with rfl|⟨rfl,rfl⟩
  .exact next
  .exact next
theorem adx(hx:oE P x)(fN:qI P ev){g:FuncId}{args:List D}{v:Value}{m m':T Row}{nx an:Nat}(h:yn P x ev g args v m nx=some (m',an))(hm:ax P F (aQ m) β w)(hn:∀ i,nx<=i->β i=none){vs:Array Value}(hR:Rs F β w args vs){k:Nat}{u:FrameMode}
 (hu:(u=.returning/\v=.nilIface)\/u=.panicking [⟨v,false,false⟩]):
 jU P g=true/\CallsDIn (Fe none) k P g vs u w fun e C w'=>∃ v,e=.returned v/\settle C=.returning/\∃ β',ax P F (aQ m') β' w'/\(∀ i,an<=i->β' i=none)/\Step β w β' w'/\nx<=an/\∀ i,i<nx->β i=none->β' i=none:=by
 unfold yn at h;split at h
 rotate_left
 .cases h
 rename_i fn c hf;obtain⟨wA,hb,ag,he⟩:=hx.fH _ _ _ hf;refine⟨he,?_⟩;cases hc:(io args.length (List.replicate fn.ntmps .u)&&plain v) with
 |false=>rw[hc] at h;cases h
 |true=>
 rw[hc] at h;simp only[aw,ld,List.length_replicate] at hc;obtain⟨hle,ng⟩:=hc;simp only[cond_true] at h;split at h
 rotate_left
 .cases h
 rename_i t ht;unfold UO at h;split at h
 rotate_left
 .cases h
 rename_i id ops rest;split at h
 rotate_left
 .cases h
 rename_i o os L7;split at h
 rotate_left
 .cases h
 rename_i tr X;split at h
 rotate_left
 .cases h
 rename_i AK aeI;split at h
 rotate_left
 .cases h
 rename_i s1 pd
 obtain⟨cl,q1,q2,q3,q4⟩:∃ cl,o.op=.call cl/\o.dst=some tr/\o.guard=none/\cl.callee=.builtin .recover:=by
  unfold Tt at X;split at X
  .rename_i cl t' fL eW DB;split at X
   .rename_i cg;cases X;exact⟨cl,fL,eW,DB,cg⟩
   .cases X
  .cases X
 obtain⟨br,GR⟩:=IA (fn:=fn) hle hm hn hR;have yU:aP ⟨t,m,nx⟩=⟨jW args,aQ m,nx⟩:=by rw[<- IL ht];rfl
 rw[<- yU] at GR;simp only[eP,aw] at ag;refine callsDIn_of_wpSIn wA hb trivial fun J O K6=>wpSIn_seq (wpSIn_region ?_)
 have ho:ops[0]? =some o:=by
  have:ops.toList[0]? =some o:=by rw[L7];rfl
  simpa using this
 have ahC:ops.size=os.length+1:=by rw[<- Array.length_toList,L7];rfl
 have hw:∀ y,Region.wanted o y=true:=fun y=>by simp[Region.wanted,q3]
 have cK:∀ (ρ:Operand->Value),(execOp ρ o).run P w=.ok .recover w:=fun ρ=>by
  unfold execOp;rw[q1];simp[resolve,q4,invoke];rfl
 have aeJ:=Jd aeI;have eW:tr<(vs++Array.replicate (fn.ntmps - vs.size) undef).size:=by rw[br];exact rm ag.1 ho tr q2
 have go:∀ (C:FrameMode),settle C=.returning->wpOpsSIn (Fe none) k P ops (Exit.thenS (rest.wpSIn (Fe none) k P (bodyPostS P fn J O fun e C w'=>∃ v,e=.returned v/\settle C=.returning/\∃ β',ax P F (aQ m') β' w'/\(∀ i,an<=i->β' i=none)/\Step β w β' w'/\nx<=an/\∀ i,i<nx->β i=none->β' i=none))
  (bodyPostS P fn J O fun e C w'=>∃ v,e=.returned v/\settle C=.returning/\∃ β',ax P F (aQ m') β' w'/\(∀ i,an<=i->β' i=none)/\Step β w β' w'/\nx<=an/\∀ i,i<nx->β i=none->β' i=none)) (List.range' 1 os.length)
  (Act.put { tmps:=vs++Array.replicate (fn.ntmps - vs.size) undef,defers:=[] } (some tr) v) ({ J with mode:=C }::O) w:=fun C CJ=>by
  refine Qj (F:=F) (N:=nx) (β₀:=β) (w₀:=w) (a₀:=Act.put { tmps:=vs++Array.replicate (fn.ntmps - vs.size) undef,defers:=[] } (some tr) v) (by rw[sS];show kE (vs++Array.replicate (fn.ntmps - vs.size) undef).size ops=true;rw[br];exact ag.1) (fun β1 w1 a1 dF U=>?_) os 1 ⟨AK,m,nx⟩ β w _ (fun i o hi=>by
   have:ops.toList[1+i]? =some o:=by rw[L7,Nat.add_comm];simpa using hi
   simpa using this) pd ?_ ?_
  .have Lv:a1.tmps.size=fn.ntmps:=by rw[U.size,sS];exact br
   have gg:a1.defers=[]:=by rw[U.defers,put_defers]
   show rest.wpSIn (Fe none) k P _ a1 _ w1;refine wpSIn_of_wpIn rfl ?_;cases Bc:ev [] false rest s1 with
   |none=>rw[Bc] at h;cases h
   |some es=>
    obtain⟨e2,s2⟩:=es;rw[Bc] at h;refine wpIn_mono (fN [] false rest s1 e2 s2 Bc F none k β1 w1 a1 (fun _=>rfl) rv (by rw[Lv];exact ag.2) dF) fun e3 a3 w3 yW=>?_;obtain⟨⟨_,β3,⟨rfl,rfl⟩,jd,dU⟩,wC⟩:=yW
    have pO:(match qv P fn s2 with
     |some (.inl _,m,nx)=>some (m,nx)
     |_=>none)=some (m',an)->a3.defers=[]/\∃ Wa,({ J with mode:=C }::O:List Frame)={ J with mode:=Wa }::O/\∃ v,(results fn a3.tmps).run P w3=.ok v w3/\
     ∃ v',Ending.returned v=.returned v'/\settle Wa=.returning/\∃ β',ax P F (aQ m') β' w3/\(∀ i,an<=i->β' i=none)/\Step β w β' w3/\nx<=an/\∀ i,i<nx->β i=none->β' i=none:=fun h=>by
     split at h
     rotate_left
     .cases h
     rename_i d m2 gT hl;cases h;unfold qv at hl;split at hl
     rotate_left
     .cases hl
     rename_i ds bm;cases hl;obtain⟨v,d,g1,_,_⟩:=D3 (fn:=fn) (K:=fun d=>d=qF ds) jd (EK _ ds [] bm rfl);exact⟨(wC rfl).trans gg,C,rfl,v,g1,v,rfl,CJ,β3,jd.m,jd.n,U.step.trans dU.step,Nat.le_trans U.le dU.le,fun i hi hb=>dU.grow i (Nat.lt_of_lt_of_le hi U.le) (U.grow i hi hb)⟩
    cases e3 with
    |normal=>exact pO h
    |ret=>exact pO h
    |_=>cases h
  .have:aP ⟨AK,m,nx⟩=St.put (aP ⟨t,m,nx⟩) (some tr) (.s v):=by
    show(⟨eB AK,aQ m,nx⟩:St)=_;rw[aeJ];rfl
   rw[this];exact bH.put (st':=aP ⟨t,m,nx⟩) GR.e (fun t ht=>by cases ht;exact eW) (.s v ng) GR.m GR.n
  .exact de.refl ⟨eB AK,aQ m,nx⟩ β w _
 rw[List.range_eq_range',ahC];simp only[List.range'_succ,wpOpsSIn,ho];refine⟨fun _ _=>trivial,?_⟩;rw[hw,if_pos rfl,cK,q2];rcases hu with⟨rfl,rfl⟩|rfl
 .have:recoverD (J::O)=none:=by simp[recoverD,K6]
  simp only[this];have h2:=go .returning rfl;have h3:({ J with mode:=.returning }:Frame)=J:=by rw[<- K6]
  rw[h3] at h2;exact h2
 .have:recoverD (J::O)=some (v,{ J with mode:=.panicking [⟨v,true,false⟩] }::O):=by simp[recoverD,K6]
  simp only[this];exact go _ rfl
theorem acx(hx:oE P x)(fN:qI P ev)(n:Nat){f:FuncId}{args:List D}{m m':T Row}{nx an:Nat}{y:D ⊕ List PanicEntry}(h:vN P x ev n f args m nx=some (y,m',an)):ZC P [] f args (aQ m) nx y (aQ m') an:=by
 unfold vN at h;split at h
 .cases h
 .rename_i fn c hf;obtain⟨wA,hb,ag,he⟩:=hx.fH _ _ _ hf;refine⟨he,fun F β w vs hh hm dG hR=>?_⟩;cases hn:io args.length (List.replicate fn.ntmps .u) with
  |false=>rw[hn] at h;cases h
  |true=>
   rw[hn] at h;have fA:args.length<=fn.ntmps:=by simpa[ld] using hn
   simp only[cond_true] at h;split at h
   .cases h
   .rename_i t ht;cases hd:CI P x ev n c ⟨t,m,nx⟩ with
    |none=>rw[hd] at h;cases h
    |some es=>
     obtain⟨e,s,od⟩:=es;rw[hd] at h;have yU:aP ⟨t,m,nx⟩=⟨jW args,aQ m,nx⟩:=by rw[<- IL ht];rfl
     have DC:∀ dv,od=some dv->∃ g fs cs,dv=.fn (.func g) fs cs:=fun dv HE=>by
      subst HE;simp only[GQ] at h;split at h
      .rename_i C;cases C
      .rename_i C;cases C;exact⟨_,_,_,rfl⟩
      .rename_i C;cases C;exact⟨_,_,_,rfl⟩
      .rename_i C;cases C;exact⟨_,_,_,rfl⟩
      .cases h
     refine Of wA hb fA hm dG hR fun a kT ha qS hs=>wpIn_mono (acw (F:=F) hx fN n c ⟨t,m,nx⟩ s e od hd DC 0 β w a (by rw[ha];exact ag) (by rw[yU];exact hs)) fun e2 a2 w2 hp=>?_;obtain⟨rfl,β2,J,qD,CK,GS,ahx,O⟩:=hp;rw[qS] at O
     have ret:∀ {env:T D} {mm:T Row} {nn:Nat} {X:av} {U:World},qv P fn ⟨env,mm,nn⟩=some (y,m',an)->bH P F (aP ⟨env,mm,nn⟩) X U a2->Step β w X U->nx<=nn->(∀ i,i<nx->β i=none->X i=none)->∃ v,(results fn a2.tmps).run P U=.ok v U/\Ends P F β w nx y (aQ m') an (.returned v) U:=fun {env mm nn X U} hl jd ahD ahE ahF=>by
      unfold qv at hl;split at hl
      .rename_i ds bm;simp only[aH,bR] at hl;obtain⟨rfl,rfl,rfl⟩:=hl;obtain⟨v,d,g1,rfl,g3⟩:=D3 (fn:=fn) (K:=fun d=>d=qF ds) jd (EK _ ds [] bm rfl);exact⟨v,g1,X,⟨v,rfl,g3⟩,jd.m,jd.n,ahD,ahE,ahF⟩
      .cases hl
     cases od with
     |none=>
      have O:a2.defers=[]:=O;simp only[GQ] at h;cases e2 with
      |normal=>
       show LeavesInM _ _ _ _ _ _ a2.defers _ _;rw[O];exact ret h J qD CK GS
      |ret=>
       show LeavesInM _ _ _ _ _ _ a2.defers _ _;rw[O];exact ret h J qD CK GS
      |panic ch=>
       show LeavesInM _ _ _ _ _ _ a2.defers _ _;rw[O];simp only[FK,aH,bR] at h;obtain⟨rfl,rfl,rfl⟩:=h;exact⟨β2,rfl,J.m,J.n,qD,CK,GS⟩
      |_=>cases h
     |some dv=>
      obtain⟨g,fs,cs,rfl⟩:=DC dv rfl;obtain⟨us,Wb,r1,r2,r3⟩:=O g fs cs rfl
      have Ng:∀ {v:Value} {u:FrameMode},u≠ .run->((u=.returning/\v=.nilIface)\/u=.panicking [⟨v,false,false⟩])->FQ P fn s.env (yn P x ev g (fs++cs) v s.mem s.nx)=some (y,m',an)->
       LeavesInM (Fe none) 0 P fn a2.tmps (Ends P F β w nx y (aQ m') an) a2.defers u w2:=fun {v u} hur hu h=>by
       cases hc:yn P x ev g (fs++cs) v s.mem s.nx with
       |none=>rw[hc] at h;cases h
       |some z=>
        obtain⟨m3,Nh⟩:=z;rw[hc] at h;obtain⟨bC,gG⟩:=adx (F:=F) hx fN hc J.m J.n (Rs.append r1 r2) (k:=0 - 1) hu;rw[r3];refine⟨hur,.inr ⟨oS,.func g,Wb,g,us++Wb,rfl,?_,fun _ _=>trivial,gG.mono fun e' u' w' hp=>?_⟩⟩
        .simp only[invoke];unfold callFunc;unfold jU at bC;simp only[Sem.run_bind,run_program,Result.andThen_ok];split at bC
         .rename_i Ni ahG;simp only[aw,Bool.not_eq_true'] at bC
          have lC:Ni.body.isNone=false:=by
           cases AS:Ni.body<;>simp_all
          rw[ahG];simp only[bC.1,lC,Bool.false_eq_true,if_false,Sem.run_pure]
         .cases bC
        .obtain⟨v',rfl,CJ,X,j1,j2,j3,j4,j5⟩:=hp;show LeavesInM _ _ _ _ _ _ [] (settle u') w';rw[CJ];exact ret h ⟨fun t=>(J.e t).step j3,j1,j2⟩ (qD.trans j3) (Nat.le_trans CK j4) fun i hi hb=>j5 i (Nat.lt_of_lt_of_le hi CK) (GS i hi hb)
      simp only[GQ] at h;cases e2 with
      |normal=>exact Ng oS (.inl ⟨rfl,rfl⟩) h
      |ret=>exact Ng oS (.inl ⟨rfl,rfl⟩) h
      |panic ch=>
       split at h
       .rename_i C;cases C
       .rename_i C;cases C
       .rename_i C;cases C
       .rename_i C;cases C;exact Ng oS (.inr rfl) h
       .cases h
      |_=>cases h
theorem Zq(hx:oE P x)(C:qI P ev)(n:Nat){f:FuncId}{args:List D}{r:D}(h:vy P (vN P x ev n f args .leaf 0)=some (.inl r))(ht:args.all (nj depth)=true):aG P f args r:=by
 cases hr:vN P x ev n f args .leaf 0 with
 |none=>rw[hr] at h;cases h
 |some z=>
  obtain⟨y,m',an⟩:=z;rw[hr] at h;exact Qh h (acx hx C n hr) fun a ha=>pC (cv.1 ht a ha)
end
def Nj(P:Program)(f:Nat):Bool:=match P.funcs[f]? with
 |some fn=>match fn.body with
  |some c=>eP fn.ntmps c&&jU P f
  |none=>false
 |none=>false
noncomputable def Tu:Option Func->Option (Func×Code)
 |some fn=>match fn.body with
  |some c=>some (fn,c)
  |none=>none
 |none=>none
noncomputable def GU(P:Program)(ids:List Nat)(f:FuncId):Option (Func×Code):=bif yT f ids then Tu P.funcs[f]? else none
theorem Rj{f:Nat}:∀ {l:List Nat},yT f l=true->f∈l
 |[],h=>by cases h
 |g::l,h=>by
  simp only[yT] at h;cases hg:Nat.beq g f with
  |true=>rw[Nat.eq_of_beq_eq_true hg];exact List.mem_cons_self ..
  |false=>rw[hg] at h;exact List.mem_cons_of_mem _ (Rj h)
theorem Rk{P:Program}{ids:List Nat}(h:ids.all (Nj P)=true):Gl P (GU P ids):=fun f fn c hf=>by
 unfold GU at hf;cases hi:yT f ids with
 |false=>rw[hi] at hf;cases hf
 |true=>
  rw[hi] at hf;have hb:=cv.1 h f (Rj hi);simp only[cond_true,Tu] at hf;unfold Nj at hb;split at hf
  .rename_i J C;split at hf
   .rename_i c' hc;cases hf;rw[C] at hb;simp only[hc,aw] at hb;exact⟨C,hc,hb.1,hb.2⟩
   .cases hf
  .cases hf
noncomputable def L8:Value->Value->Bool
 | .int k a,.int k' b=>gF k k'&&yR a b
 | .bool a,.bool b=>bif a then b else !b
 | .string a,.string b=>A6 a.data.toList b.data.toList
 | .pointer none,.pointer none=>true
 | .nilFunc,.nilFunc=>true
 | .nilIface,.nilIface=>true
 | .map none,.map none=>true
 |_,_=>false
noncomputable def tK(g:D->D->Bool):List D->List D->Bool
 |[],[]=>true
 |a::xs,b::bs=>g a b&&tK g xs bs
 |_,_=>false
noncomputable def vO:Nat->D->D->Bool
 |0,_,_=>false
 |n+1,a,b=>match a,b with
  | .s x,.s y=>L8 x y
  | .z,.z=>true
  | .agg xs,.agg ys=>tK (vO n) xs ys
  | .aT xs,.aT ys=>tK (vO n) xs ys
  | .pt xs,.pt ys=>tK (vO n) xs ys
  | .sl xs k,.sl ys l=>Nat.beq k l&&tK (vO n) xs ys
  |_,_=>false
noncomputable def FR:List (Nat×List D×D)->FuncId->List D->Option D
 |[],_,_=>none
 |(g,aS,r)::l,f,bs=>bif Nat.beq g f&&tK (vO 8) aS bs then some r else FR l f bs
theorem acy{a b:Value}(h:L8 a b=true):a=b:=by
 unfold L8 at h;split at h
 .simp only[aw,Sb,beq_iff_eq] at h;rw[zx _ _ h.1,h.2]
 .rename_i a b;cases a<;>cases b<;>first|rfl|cases h
 .rename_i a b;rw[FN,beq_iff_eq] at h;have:a.data=b.data:=Array.toList_inj.1 h;cases a;cases b;cases this;rfl
 all_goals first|rfl|cases h
theorem JC{g:D->D->Bool}(hg:∀ a b,g a b=true->a=b):∀ {xs ys:List D},tK g xs ys=true->xs=ys
 |[],[],_=>rfl
 |a::xs,b::ys,h=>by
  simp only[tK,aw] at h;rw[hg a b h.1,JC hg h.2]
 |[],_::_,h=>by cases h
 |_::_,[],h=>by cases h
theorem Rm:∀ (n:Nat) (a b:D),vO n a b=true->a=b
 |0,_,_,h=>by cases h
 |n+1,a,b,h=>by
  have ih:=fun {xs ys:List D}=>JC (Rm n) (xs:=xs) (ys:=ys);simp only[vO] at h;split at h
  .rw[acy h]
  .rfl
  .rw[ih h]
  .rw[ih h]
  .rw[ih h]
  .simp only[aw] at h;rw[Nat.eq_of_beq_eq_true h.1,ih h.2]
  .cases h
theorem Pn{P:Program}:∀ {l:List (Nat×List D×D)},(∀ e∈l,aG P e.1 e.2.1 e.2.2)->∀ f args r,FR l f args=some r->aG P f args r
 |[],_,f,args,r,h=>by cases h
 |(g,aS,q)::l,hl,f,args,r,h=>by
  simp only[FR] at h;cases hc:Nat.beq g f&&tK (vO 8) aS args with
  |true=>
   rw[hc] at h;simp only[aw] at hc;cases h;rw[<- Nat.eq_of_beq_eq_true hc.1, <- JC (Rm 8) hc.2];exact hl _ (List.mem_cons_self ..)
  |false=>
   rw[hc] at h;exact Pn (fun e he=>hl e (List.mem_cons_of_mem _ he)) f args r h
end Go.Abs
