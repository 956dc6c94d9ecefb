/- Part 6. -/
import Derived.Test.YtkogeiacmmckkaaGreatDoorFlowLists5
import Derived.RecoverIn
set_option linter.all false
namespace Go.Abs
noncomputable def Ls:D->D->Bool
 | .rp i o,.rp j q=>Nat.beq i j&&Nat.beq o q
 | .rs i o k,.rs j q l=>(Nat.beq i j&&Nat.beq o q)&&Nat.beq k l
 | .mp i,.mp j=>Nat.beq i j
 | .z,.z=>true
 | .s x,.s y=>ru x y
 |_,_=>false
noncomputable def Gs:List D->List D->Bool
 |[],[]=>true
 |a::aS,b::bs=>Ls a b&&Gs aS bs
 |_,_=>false
noncomputable def GW:Option Row->Option Row->Bool
 |none,none=>true
 |some (.cells cs e),some (.cells ds e')=>Nat.beq e e'&&Gs cs ds
 |_,_=>false
noncomputable def wz(m m':T Row):List Nat->List (Nat×Option Row)
 |[]=>[]
 |i::l=>bif GW (m.get i) (m'.get i) then wz m m' l else(i,m'.get i)::wz m m' l
noncomputable def KQ(d:D)(m m':T Row)(nx aA:Nat):bf:=⟨d,wz m m' (List.range aA),[],aA - nx⟩
noncomputable def KR(call:kL)(o:Oper)(c:bM):Option nP:=match o.guard,o.op with
 |none,.call cl=>match cl.callee with
  | .value f=>match agX c.env f with
   | .fn (.func g) fs cs=>call g (fs++cl.args.toList.map (agX c.env)++cs) c.mem c.nx
   |_=>none
  |_=>none
 |_,_=>none
abbrev HR:=Option (List (bf×Bool)×(bM ⊕ (List PanicEntry×bM)))
noncomputable def GX(p:bf×Bool):HR->HR
 |some (ps,r)=>some (p::ps,r)
 |none=>none
noncomputable def uf(P:Program)(iU:nr)(gX:kL)(ops:Array Oper):List Oper->bM->HR
 |[],c=>some ([],.inl c)
 |o::os,c=>match KR gX o c with
  |some (.inl d,m',aA)=>match wx c o.dst (KQ d c.mem m' c.nx aA) with
   |some c'=>GX (KQ d c.mem m' c.nx aA,true) (uf P iU gX ops os c')
   |none=>none
  |some (.inr ch,m',aA)=>match os with
   |[]=>some ([],.inr (ch,⟨c.env,m',aA⟩))
   |_=>none
  |none=>match GN P iU ops o c with
   |some p=>match wx c o.dst p with
    |some c'=>GX (p,false) (uf P iU gX ops os c')
    |none=>none
   |none=>none
noncomputable def GY(p:bf):Bool:=p.aT.isEmpty&&Nat.beq p.new 0
noncomputable def TF(ps:List (bf×Bool))(q:Nat×Nat):Bool:=match ps[q.1]?,ps[q.2]? with
 |some a,some b=>((!meets b.1.wr a.1.wr&& !meets b.1.rd a.1.wr)&& !meets a.1.rd b.1.wr)&&((!a.2||GY b.1)&&(!b.2||GY a.1))
 |_,_=>false
noncomputable def ug(ps:List (bf×Bool)):List (Nat×Nat)->Bool
 |[]=>true
 |q::l=>TF ps q&&ug ps l
noncomputable def Mt(P:Program)(gX:kL)(ops:Array Oper)(p t:Nat)(ty:TypeId):HR->Option (Exit×bM)
 |some (ps,.inl c1)=>bif ug ps (unordered (dE ops.toList []) ps.length) then match c1.mem.put c1.nx (some (.cells (aZ P ty) ty)) with
  |some m=>match wv c1 (some t) (.rp c1.nx 0) m (c1.nx+1) with
   |some C=>rz P [] gX ops (ops.toList.drop (p+1)) C
   |none=>none
  |none=>none
  else none
 |some (ps,.inr (ch,c1))=>bif ug ps (unordered (dE ops.toList []) ps.length)&&(List.range ps.length).all (fun i=>((dE ops.toList []).getD ps.length 0).testBit i) then some (.panic ch,c1) else none
 |none=>none
noncomputable def Sz(P:Program)(iU:nr)(gX:kL)(ops:Array Oper)(p:Nat)(c:bM):Op->Option Nat->Option (Nat×Bool)->Option (Exit×bM)
 | .alloc ty,some t,none=>bif aG P ty&&(ops.toList.take p).all (fun o=>match o.dst with
   |some u=> !Nat.beq u t
   |none=>true) then match wv c (some t) .u c.mem c.nx with
   |some C=>Mt P gX ops p t ty (uf P iU gX ops (ops.toList.take p) C)
   |none=>none
  else none
 |_,_,_=>none
noncomputable def Lu(P:Program)(iU:nr)(gX:kL)(ops:Array Oper)(c:bM):Option (Exit×bM):=
 bif Nat.ble 2 ops.size&&(ym ops&&(cg ops).isSome) then match ops[ops.size - 2]? with
  |some o=>Sz P iU gX ops (ops.size - 2) c o.op o.dst o.guard
  |none=>none
 else none
section
variable{P:Program}{F:Nat->Prop}{ops:Array Oper}{β:az}{w:World}{a:Act}{c c':bM}
theorem ZY{x y:D}(h:Ls x y=true):x=y:=by
 unfold Ls at h;split at h
 .simp only[ay,Nat.beq_eq] at h;rw[h.1,h.2]
 .simp only[ay,Nat.beq_eq] at h;rw[h.1.1,h.1.2,h.2]
 .rw[Nat.eq_of_beq_eq_true h]
 .rfl
 .rw[JZ h]
 .cases h
theorem Pp:∀ {xs ys:List D},Gs xs ys=true->xs=ys
 |[],[],_=>rfl
 |x::xs,y::ys,h=>by
  simp only[Gs,ay] at h;rw[ZY h.1,Pp h.2]
 |[],_::_,h=>by cases h
 |_::_,[],h=>by cases h
theorem ZZ{x y:Option Row}(h:GW x y=true):x=y:=by
 unfold GW at h;split at h
 .rfl
 .simp only[ay,Nat.beq_eq] at h;rw[h.1,Pp h.2]
 .cases h
theorem Je{m m':T Row}:∀ (l:List Nat) (g:Mem),(∀ i,g i=m.get i\/g i=m'.get i)->∀ i,cu g (wz m m' l) i=if i∈l then m'.get i else g i
 |[],g,h,i=>by simp[wz,cu]
 |j::l,g,h,i=>by
  cases hs:GW (m.get j) (m'.get j) with
  |true=>
   simp only[wz,hs,cond_true];rw[Je l g h i];have e:=ZZ hs;by_cases hl:i∈l
   .rw[if_pos hl,if_pos (List.mem_cons_of_mem _ hl)]
   .rw[if_neg hl];by_cases hj:i=j
    .subst hj;rw[if_pos (List.mem_cons_self ..)];rcases h i with h1|h1
     .rw[h1,e]
     .exact h1
    .rw[if_neg (fun hm=>by rcases List.mem_cons.1 hm with e|e;exact hj e;exact hl e)]
  |false=>
   simp only[wz,hs,cond_false,cu]
   rw[Je l (up g j (m'.get j)) (fun k=>by
    rw[zY];by_cases hk:k=j
    .subst hk;rw[if_pos rfl];exact .inr rfl
    .rw[if_neg hk];exact h k) i]
   by_cases hl:i∈l
   .rw[if_pos hl,if_pos (List.mem_cons_of_mem _ hl)]
   .rw[if_neg hl,zY];by_cases hj:i=j
    .subst hj;rw[if_pos rfl,if_pos (List.mem_cons_self ..)]
    .rw[if_neg hj,if_neg (fun hm=>by rcases List.mem_cons.1 hm with e|e;exact hj e;exact hl e)]
theorem SA{o:Oper}{f:FuncId}{args:List D}{y:D ⊕ List PanicEntry}{m':T Row}{aA:Nat}{env:Env}(hg:o.guard=none)(hc:dx (agX c.env) o.op=some (f,args))(hz:ZC P [] f args (aW c.mem) c.nx y (aW m') aA)
 (he:∀ t∈o.looksAt ops,env t=(aO c).env t) (C:eZ F β w env a) (hm:aC P F (aW c.mem) β w) (hn:∀ i,c.nx<=i->β i=none) {r:Option Nat} {n:Nat} {QX:Exit->Act->World->Prop} {K:Act->World->Prop}
 (J:∀ e w',Ends P F β w c.nx y (aW m') aA e w'->(∃ v,e=.returned v/\K (a.put o.dst v) w')\/∃ ch,e=.panicked ch/\QX (.panic ch) a w'):gV r n P ops QX o K a w:=by
 have O:∀ t,Operand.tmp t∈o.op.operands->mg env t=mg (fc c.env) t:=fun t ht=>by
  show tz (env t)=tz (fc c.env t);rw[vC (st:=aO c) he t ht];rfl
 have M:Region.wanted o (yielded ops a.tmps)=true:=by simp[Region.wanted,hg]
 refine Ja M C.un (vL env _) (by rw[zT (vK O),xN];exact hc) hz.1 fun vs hR=>(hz.2 F β w vs sf hm hn hR).mono fun e w' hp=>J e w' hp
theorem ack{o:Oper}{f:FuncId}{args:List D}{d:D}{m':T Row}{aA:Nat}(hg:o.guard=none)(hc:dx (agX c.env) o.op=some (f,args))(hz:ZC P [] f args (aW c.mem) c.nx (.inl d) (aW m') aA):bf.Ec P ops o (aO c) (KQ d c.mem m' c.nx aA):=by
 intro F β w a env he U hm hn r n QX K X;refine SA hg hc hz he U hm hn fun e w' ⟨β',⟨v,h1,h2⟩,h3,h4,h5,h6,h7⟩=>.inl ⟨v,h1,X v w' β' h2 ⟨fun i M hi=>?_,h3.inj,h3.lt,h3.nf,h3.fb⟩ h5 fun i hi J=>?_⟩
 .have hu:=Je (m:=c.mem) (m':=m') (List.range aA) (aW c.mem) (fun i=>.inl rfl) i;have C:cu (aW c.mem) (wz c.mem m' (List.range aA)) i=some M:=hi;rw[hu] at C;by_cases hl:i∈List.range aA
  .rw[if_pos hl] at C;exact h3.row i M C
  .rw[if_neg hl] at C;obtain⟨p,hp,_⟩:=hm.row i M C;have O:aA<=i:=by simpa using hl
   rw[hn i (Nat.le_trans h6 O)] at hp;cases hp
 .rcases J with J|J
  .exact h7 i J hi
  .refine h4 i ?_;have:c.nx+(aA - c.nx)<=i:=J;omega
variable{iU:nr}{gX:kL}
theorem Pq(ht:tU P [] gX){o:Oper}{y:D ⊕ List PanicEntry}{m':T Row}{aA:Nat}(h:KR gX o c=some (y,m',aA)):o.guard=none/\∃ f args,dx (agX c.env) o.op=some (f,args)/\ZC P [] f args (aW c.mem) c.nx y (aW m') aA:=by
 unfold KR at h;split at h
 .rename_i cl hg ho;split at h
  .rename_i f hf;split at h
   .rename_i g fs cs hv;exact⟨hg,g,_,by rw[ho];exact Jz hf hv,ht _ _ _ _ _ _ _ h⟩
   .cases h
  .cases h
 .cases h
def VA(P:Program)(oo:Nat->Oper)(pp:Nat->bf)(st₀:St)(N k l:Nat):bM ⊕ (List PanicEntry×bM)->Prop
 | .inl C=>l=N/\aO C=bI oo pp st₀ (k+l)
 | .inr (ch,C)=>l+1=N/\∃ J f args,aO J=bI oo pp st₀ (k+l)/\C.env=J.env/\(oo (k+l)).guard=none/\dx (agX J.env) (oo (k+l)).op=some (f,args)/\ZC P [] f args (aW J.mem) J.nx (.inr ch) (aW C.mem) C.nx
theorem Pr(hp:xO P iU)(ht:tU P [] gX)(oo:Nat->Oper)(pp:Nat->bf)(hv:Nat->Bool)(st₀:St):∀ (os:List Oper) (k:Nat) (ps:List (bf×Bool)) (c:bM) (r:bM ⊕ (List PanicEntry×bM)),(∀ j o,os[j]? =some o->oo (k+j)=o)->(∀ j p,ps[j]? =some p->pp (k+j)=p.1/\hv (k+j)=p.2)->
 aO c=bI oo pp st₀ k->uf P iU gX ops os c=some (ps,r)->
 (∀ j,k<=j->j<k+ps.length->(pp j).Ok P ops (oo j) (bI oo pp st₀ j)\/(hv j=true/\(pp j).Ec P ops (oo j) (bI oo pp st₀ j)))/\
 VA P oo pp st₀ os.length k ps.length r
 |[],k,ps,c,r,ho,hq,bt,h=>by
  simp only[uf,aK,cq] at h;obtain⟨rfl,rfl⟩:=h;exact⟨fun j h1 h2=>absurd h2 oP,rfl,bt⟩
 |o::os,k,ps,c,r,ho,hq,bt,h=>by
  have O:oo k=o:=ho 0 o rfl
  have step:∀ {p:bf} {b:Bool} {C:bM},(p.Ok P ops o (aO c)\/(b=true/\p.Ec P ops o (aO c)))->wx c o.dst p=some C->GX (p,b) (uf P iU gX ops os C)=some (ps,r)->(∀ j,k<=j->j<k+ps.length->(pp j).Ok P ops (oo j) (bI oo pp st₀ j)\/(hv j=true/\(pp j).Ec P ops (oo j) (bI oo pp st₀ j)))/\
   VA P oo pp st₀ (o::os).length k ps.length r:=fun {p b C} c7 M J=>by
   cases hx:uf P iU gX ops os C with
   |none=>rw[hx] at J;cases J
   |some z=>
    obtain⟨qs,r'⟩:=z;rw[hx] at J;simp only[GX,aK,cq] at J;obtain⟨rfl,rfl⟩:=J;obtain⟨e2,e3⟩:=hq 0 (p,b) rfl;simp only[Nat.add_zero] at e2 e3
    have U:aO C=bI oo pp st₀ (k+1):=by
     rw[lc,O,e2, <- bt];exact FH M
    obtain⟨a1,a2⟩:=Pr hp ht oo pp hv st₀ os (k+1) qs C r' (fun j x hj=>by have:=ho (j+1) x (by simpa using hj);rw[<- this];congr 1;omega)
     (fun j x hj=>by have:=hq (j+1) x (by simpa using hj);rw[show k+1+j=k+(j+1) by omega];exact this) U hx
    have e4:k+((p,b)::qs).length=k+1+qs.length:=by simp;omega
    refine⟨fun j hj tk=>?_,?_⟩;rw[e4] at tk
    .rcases Nat.lt_or_ge k j with aj|bL
     .exact a1 j aj tk
     .have:j=k:=by omega
      subst this;rw[O,e2,e3, <- bt];exact c7
    .cases r' with
     |inl c3=>exact⟨by simp[a2.1],by rw[e4];exact a2.2⟩
     |inr z=>exact⟨by simp only[List.length_cons];have:=a2.1;omega,by rw[e4];exact a2.2⟩
  simp only[uf] at h;split at h
  .rename_i d m' aA hh;split at h
   .rename_i C M;obtain⟨X,f,args,g2,g3⟩:=Pq ht hh;exact step (.inr ⟨rfl,ack X g2 g3⟩) M h
   .cases h
  .rename_i ch m' aA hh;split at h
   .simp only[aK,cq] at h;obtain⟨rfl,rfl⟩:=h;obtain⟨X,f,args,g2,g3⟩:=Pq ht hh;refine⟨fun j h1 h2=>absurd h2 oP,rfl,c,f,args,bt,rfl,?_,?_,g3⟩
    .simp only[List.length_nil,Nat.add_zero];rw[O];exact X
    .simp only[List.length_nil,Nat.add_zero];rw[O];exact g2
   .cases h
  .split at h
   .rename_i p mf;split at h
    .rename_i C M;exact step (.inl (Ql hp mf).1) M h
    .cases h
   .cases h
theorem OC{ps:List (bf×Bool)}:∀ {l:List (Nat×Nat)},ug ps l=true->∀ q∈l,KP (ps.getD q.1 default).1 (ps.getD q.2 default).1 (ps.getD q.1 default).2 (ps.getD q.2 default).2
 |[],_,q,hq=>by cases hq
 |p::l,h,q,hq=>by
  simp only[ug,ay] at h;rcases List.mem_cons.1 hq with rfl|hq
  .have h:=h.1;unfold TF at h;split at h
   .rename_i x y hx hy;simp only[ay,Bool.not_eq_true',Bool.or_eq_true] at h;obtain⟨⟨⟨h1,h2⟩,J⟩,M,O⟩:=h
    have C:∀ {p:bf},GY p=true->p.aT=[]/\p.new=0:=fun h=>by
     simpa[GY] using h
    simp only[List.getD,hx,hy,Option.getD_some];exact⟨xC h1,xC h2,xC J,fun e=>C (M.resolve_left (by rw[e];simp)),fun e=>C (O.resolve_left (by rw[e];simp))⟩
   .cases h
  .exact OC h.2 q hq
theorem Z0{r:Option Nat}{n id:Nat}{e:Exit}(jL:P.follows .mixedOrders=true)(hp:xO P iU)(ht:tU P [] gX)(aj:lA a.tmps.size ops=true)(h:Lu P iU gX ops c=some (e,c'))
 (hs:bW P F (aO c) β w a):(Code.region id ops true).wpIn (Fe r) n P (dd P F c.nx β w a (QE e c')) a w:=by
 unfold Lu at h;cases hb:(Nat.ble 2 ops.size&&(ym ops&&(cg ops).isSome)) with
 |false=>rw[hb] at h;cases h
 |true=>
 rw[hb] at h;simp only[ay,Nat.ble_eq] at hb;obtain⟨af6,kM,adm⟩:=hb;obtain⟨cf,y3⟩:=Option.isSome_iff_exists.1 adm;obtain⟨rJ,M6,_⟩:=Oe y3;obtain⟨_,yq⟩:=IL kM;obtain⟨p,hpz⟩:∃ p,ops.size=p+2:=⟨ops.size - 2,oG⟩
 have ep:ops.size - 2=p:=by omega
 have eq1:ops.size - 1=p+1:=by omega
 rw[ep] at h;rw[eq1] at yq;simp only[cond_true] at h;split at h
 rotate_left
 .cases h
 rename_i ol lH;unfold Sz at h;split at h
 rotate_left
 .cases h
 rename_i ty t eD fC w8
 cases w9:(aG P ty&&(ops.toList.take p).all (fun o=>match o.dst with
  |some u=> !Nat.beq u t
  |none=>true)) with
 |false=>rw[w9] at h;cases h
 |true=>
 rw[w9] at h;simp only[ay,b7] at w9;obtain⟨Ed,zr⟩:=w9;simp only[cond_true] at h;split at h
 rotate_left
 .cases h
 rename_i C zj;cases mf:uf P iU gX ops (ops.toList.take p) C with
 |none=>rw[mf] at h;cases h
 |some z=>
 obtain⟨ps,rr⟩:=z;rw[mf] at h;have e0:=Ak zj;have No:aO C=⟨up (fc c.env) t .u,aW c.mem,c.nx⟩:=e0
 have qw:bW P F (aO C) β w a:=by
  rw[No];refine⟨fun u=>?_,hs.m,hs.n⟩;by_cases hu:u=t
  .subst hu;show R F β w (up (fc c.env) u .u u) _;rw[au];exact .u _
  .show R F β w (up (fc c.env) t .u u) _;rw[bE _ _ hu];exact hs.e u
 have hlen:(ops.toList.take p).length=p:=by simp;omega
 have UC:∀ j o,ops[j]? =some o->ops.toList.getD j default=o:=fun j o hj=>by simp[hj]
 obtain⟨k1,k2⟩:=Pr hp ht (fun j=>ops.toList.getD j default) (fun j=>(ps.getD j default).1) (fun j=>(ps.getD j default).2) (aO C) (ops.toList.take p) 0 ps C rr (fun j o hj=>by
  have gN:j<p:=by rw[<- hlen];exact(bZ.1 hj).1
  rw[List.getElem?_take,if_pos gN] at hj
  simp at hj;simp[hj]) (fun j p hj=>by simp[hj]) rfl mf
 simp only[Nat.zero_add] at k1 k2
 have acm:∀ {nl:Nat},nl=ps.length->nl<=p->ug ps (unordered (dE ops.toList []) ps.length)=true->∀ i j,i<j->j<nl->((dE ops.toList []).getD j 0).testBit i=false->(ops.toList.getD i default).apart ops (ops.toList.getD j default)=true/\KP (ps.getD i default).1 (ps.getD j default).1 (ps.getD i default).2 (ps.getD j default).2:=fun {nl} jT U hb i j mb hj UD=>by
  refine⟨?_,OC hb (i,j) (EL mb (jT▸hj) UD)⟩;have h1:=M6 _ (EL mb (show j<ops.size by omega) UD);have cP:i<ops.size:=by omega
  have gN:j<ops.size:=by omega
  simpa[EW,cP,gN] using h1
 have af7:∀ j,j<p->(ops.toList.getD j default).dst≠some t:=fun j hj e=>by
  have gN:j<ops.size:=by omega
  have hx:ops.toList.getD j default∈ops.toList.take p:=by
   have:(ops.toList.take p)[j]? =some (ops.toList.getD j default):=by
    rw[List.getElem?_take,if_pos hj];simp[gN]
   exact cX this
  have:=zr _ hx;rw[e] at this;simp at this
 have cI:Step β w β { w with drawn:=w.drawn+1 }:=⟨bO _,fun _ _ h=>⟨rfl,h⟩,fun _ _ h=>.inl h,⟨rfl,rfl⟩,fun _ _ _ _=>nd rfl⟩
 have y4:aC P F (aO C).mem β { w with drawn:=w.drawn+1 }:=qw.m.ext (bO _) fun _ _=>rfl;have hE1:eZ F β { w with drawn:=w.drawn+1 } (aO C).env a:=qw.e.step cI;obtain⟨DR,qA⟩:=abn hE1 y4
 have UE:∀ nl,dw (fun j=>ops.toList.getD j default) (fun j=>(ps.getD j default).1) (aO C) (fun j=>(Array.replicate ops.size false).getD j false) nl=aO C:=fun nl=>by
  induction nl with
  |zero=>rfl
  |succ n ih=>
   have:(Array.replicate ops.size false).getD n false=false:=by simp[Array.getD_eq_getD_getElem?,Array.getElem?_replicate];split<;>rfl
   simp only[dw,this,Bool.false_eq_true,if_false];exact ih
 have Hj:∀ j,(Array.replicate ops.size false).getD j false=false:=fun j=>by simp[Array.getD_eq_getD_getElem?,Array.getElem?_replicate];split<;>rfl
 have wZ:(ops.toList.getD p default).op=.alloc ty/\(ops.toList.getD p default).dst=some t/\(ops.toList.getD p default).guard=none:=by
  rw[UC p ol lH];exact⟨eD,fC,w8⟩
 have adn:(aO C).env t=.u:=by rw[No];exact au _ _ _
 have UF:(aO C).nx=c.nx:=by rw[No]
 have go:∀ {nl:Nat} (_:nl=ps.length) (_:nl<=p) (_:ug ps (unordered (dE ops.toList []) ps.length)=true)
  (_:nl=p->∀ β1 w1 a1,bW P F ⟨up (bI (fun j=>ops.toList.getD j default) (fun j=>(ps.getD j default).1) (aO C) p).env t (.rp (bI (fun j=>ops.toList.getD j default) (fun j=>(ps.getD j default).1) (aO C) p).nx 0),up (bI (fun j=>ops.toList.getD j default) (fun j=>(ps.getD j default).1) (aO C) p).mem (bI (fun j=>ops.toList.getD j default) (fun j=>(ps.getD j default).1) (aO C) p).nx (some (.cells (aZ P ty) ty)),(bI (fun j=>ops.toList.getD j default) (fun j=>(ps.getD j default).1) (aO C) p).nx+1⟩ β1 w1 a1->
   dC c.nx β w a ⟨up (bI (fun j=>ops.toList.getD j default) (fun j=>(ps.getD j default).1) (aO C) p).env t (.rp (bI (fun j=>ops.toList.getD j default) (fun j=>(ps.getD j default).1) (aO C) p).nx 0),up (bI (fun j=>ops.toList.getD j default) (fun j=>(ps.getD j default).1) (aO C) p).mem (bI (fun j=>ops.toList.getD j default) (fun j=>(ps.getD j default).1) (aO C) p).nx (some (.cells (aZ P ty) ty)),(bI (fun j=>ops.toList.getD j default) (fun j=>(ps.getD j default).1) (aO C) p).nx+1⟩ β1 w1 a1->
   ∀ K:Act->World->Prop,(∀ a' w',dd P F c.nx β w a (QE e c') .normal a' w'->K a' w')->gV r n P ops (dd P F c.nx β w a (QE e c')) (ops.toList.getD (p+1) default) K a1 w1)
  (_:nl<p->nl+1=p/\(∀ i,i<nl->((dE ops.toList []).getD nl 0).testBit i=true)/\∃ ch mP X,(QE e c') (.panic ch) ⟨(bI (fun j=>ops.toList.getD j default) (fun j=>(ps.getD j default).1) (aO C) nl).env,mP,X⟩/\
   ∀ (F:Nat->Prop) (β:az) (w:World) (a:Act),bW P F (bI (fun j=>ops.toList.getD j default) (fun j=>(ps.getD j default).1) (aO C) nl) β w a->∀ (QX:Exit->Act->World->Prop) (K:Act->World->Prop),
    (∀ β' w',aC P F mP β' w'->(∀ i,X<=i->β' i=none)->Step β w β' w'->(bI (fun j=>ops.toList.getD j default) (fun j=>(ps.getD j default).1) (aO C) nl).nx<=X->(∀ i,i<(bI (fun j=>ops.toList.getD j default) (fun j=>(ps.getD j default).1) (aO C) nl).nx->β i=none->β' i=none)->QX (.panic ch) a w')->gV r n P ops QX (ops.toList.getD nl default) K a w),
  (Code.region id ops true).wpIn (Fe r) n P (dd P F c.nx β w a (QE e c')) a w:=fun {nl} jT U J Mq Mr=>by
  refine wpIn_region_any jL ?_
  refine acj (st₀:=aO C) (oo:=fun j=>ops.toList.getD j default) (pp:=fun j=>(ps.getD j default).1) (hv:=fun j=>(ps.getD j default).2) (p:=p) (nl:=nl) (t:=t) (ty:=ty) r n UC aj hpz rJ wZ.1 wZ.2.1 wZ.2.2 Ed af7 adn yq U
   (fun j hj=>k1 j (Nat.zero_le _) (jT▸hj)) (acm jT U J) Mq Mr (by rw[UF];exact bO _) hs.m.fb ops.size (Array.replicate ops.size false) β _ a oS ?_ (Hj _) (fun _=>Hj _) (fun j hj=>by rw[Hj] at hj;cases hj)
   ⟨none,fun h=>(by rw[Hj] at h;cases h),fun _=>rfl,fun b hb=>(by cases hb),⟨?_,?_,fun i hi _=>hs.n i (show c.nx<=i from UF▸hi),cI,fun _ _ h=>h,rfl,rfl⟩⟩
  .simpa using List.countP_le_length (p:=fun b=> !b) (l:=(Array.replicate ops.size false).toList)
  .rw[UE];exact DR
  .rw[UE];exact qA
 cases rr with
 |inl M=>
  obtain⟨k3,k4⟩:=k2;rw[hlen] at k3;rw[k3,Nat.zero_add] at k4;simp only[Mt] at h;cases J:ug ps (unordered (dE ops.toList []) ps.length) with
  |false=>rw[J] at h;cases h
  |true=>
  rw[J] at h;simp only[cond_true] at h;split at h
  rotate_left
  .cases h
  rename_i m hm;split at h
  rotate_left
  .cases h
  rename_i c2 pF;refine go (nl:=p) k3.symm (bO _) J (fun _ β1 w1 a1 O iu K hK=>?_) fun h=>absurd h (Nat.lt_irrefl _)
  have e2:aO c2=⟨up (aO M).env t (.rp (aO M).nx 0),up (aO M).mem (aO M).nx (some (.cells (aZ P ty) ty)),(aO M).nx+1⟩:=by
   rw[Ak pF,xJ hm];rfl
  rw[<- k4, <- e2] at O iu;have kz:p+1<ops.size:=by omega
  have hx:ops[p+1]? =some (ops.toList.getD (p+1) default):=by simp[kz]
  have nI:ops.toList.drop (p+1)=[ops.toList.getD (p+1) default]:=by
   have zo:p+1<ops.toList.length:=by simpa using kz
   rw[List.drop_eq_getElem_cons zo,List.drop_eq_nil_of_le oP];simp[List.getD,kz]
  rw[nI] at h;have TG:∀ u,(ops.toList.getD (p+1) default).dst=some u->u<a1.tmps.size:=fun u hu=>by rw[iu.size];exact sb aj hx u hu
  simp only[rz] at h;split at h
  .rename_i c3 h2;simp only[aK,cq] at h;obtain⟨rfl,rfl⟩:=h;exact Al ht h2 sf O TG _ _ (fun _ β' a' w' g1 g2=>hK _ _ ⟨_,β',⟨rfl,rfl⟩,g1,iu.trans g2⟩) fun ch ja=>by cases ja
  .rename_i ch c3 h2;simp only[aK,cq] at h;obtain⟨rfl,rfl⟩:=h
   exact Al ht h2 sf O TG _ _ (fun ja=>by cases ja) fun Vs ja β' w' g1 g2=>by
    cases ja;exact⟨_,β',⟨rfl,rfl⟩,g1,iu.trans g2⟩
  .cases h
 |inr z=>
  obtain⟨ch,M⟩:=z;obtain⟨k3,c2,f,args,k4,k5,k6,k7,k8⟩:=k2;rw[hlen] at k3;rw[Nat.zero_add] at k4 k6 k7;simp only[Mt] at h;cases J:ug ps (unordered (dE ops.toList []) ps.length)&&(List.range ps.length).all (fun i=>((dE ops.toList []).getD ps.length 0).testBit i) with
  |false=>rw[J] at h;cases h
  |true=>
  rw[J] at h;simp only[cond_true,aK,cq] at h;obtain⟨rfl,rfl⟩:=h;simp only[ay,b7,List.mem_range] at J;have zp:∀ mP X,(⟨(bI (fun j=>ops.toList.getD j default) (fun j=>(ps.getD j default).1) (aO C) ps.length).env,mP,X⟩:St)=⟨fc M.env,mP,X⟩:=fun mP X=>by rw[<- k4,k5];rfl
  refine go (nl:=ps.length) rfl oG J.1 (fun h=>absurd h oG) fun _=>⟨k3,J.2,ch,aW M.mem,M.nx,⟨rfl,zp _ _⟩,fun F β w a O QX K hq=>?_⟩
  .rw[<- k4] at O;refine SA (ops:=ops) k6 k7 k8 (fun _ _=>rfl) O.e O.m O.n fun e w' ⟨β',g1,g2,g3,g4,g5,g6⟩=>.inr ⟨ch,g1,hq β' w' g2 g3 g4 (by rw[<- k4];exact g5) (by rw[<- k4];exact g6)⟩
end
noncomputable def VB(P:Program)(iU:nr)(gX:kL)(ops:Array Oper)(s:bM):Option (Exit×bM)->Option (Exit×bM)
 |some r=>some r
 |none=>Lu P iU gX ops s
noncomputable def xc(P:Program)(x:Ctx)(ev:Ev):Nat->Code->bM->Option (Exit×bM)
 |0,_,_=>none
 |n+1,c,s=>match c with
  | .seq a b=>match xc P x ev n a s with
   |some (.normal,s')=>xc P x ev n b s'
   |r=>r
  | .region _ ops true=>VB P (CQ P x ev) (yv P x ev []) ops s (GO P [] (yv P x ev []) (CQ P x ev) ops s (cg ops))
  |c=>ev [] false c s
noncomputable def TH(o:Oper):Option Operand:=match o.op,o.dst,o.guard with
 | .defer cl,none,none=>match cl.callee with
  | .value f=>bif Nat.beq cl.args.size 0 then some f else none
  |_=>none
 |_,_,_=>none
noncomputable def SB:Code->Option (Array Oper×Operand)
 | .region _ ops false=>match ops[ops.size - 1]? with
  |some o=>match TH o with
   |some f=>some (ops,f)
   |none=>none
  |none=>none
 |_=>none
noncomputable def Dw(P:Program)(x:Ctx)(ev:Ev):Nat->Code->bM->Option (Exit×bM×Option D)
 |0,_,_=>none
 |n+1,c,s=>match c with
  | .seq a b=>match SB a with
   |some (ops,f)=>match rz P [] (yv P x ev []) ops (ops.toList.take (ops.size - 1)) s with
    |some (.normal,s1)=>match xc P x ev n b s1 with
     |some (e,s2)=>some (e,s2,some (agX s1.env f))
     |none=>none
    |_=>none
   |none=>match xc P x ev n a s with
    |some (.normal,s')=>Dw P x ev n b s'
    |some (e,s')=>some (e,s',none)
    |none=>none
  |_=>none
noncomputable def TI(o:Oper):Option Nat:=match o.op,o.dst,o.guard with
 | .call cl,some t,none=>match cl.callee with
  | .builtin .recover=>some t
  |_=>none
 |_,_,_=>none
noncomputable def CU(P:Program):List Oper->bM->Option bM
 |[],c=>some c
 |o::os,c=>match o.guard with
  |none=>match D8 o.op P (agX c.env) c.mem c.nx with
   |some p=>match wx c o.dst p with
    |some c'=>CU P os c'
    |none=>none
   |none=>none
  |some _=>none
noncomputable def af8(P:Program)(fn:Func):Option (Exit×bM)->Option (T Row×Nat)
 |some (.normal,s)=>match qU P fn s with
  |some (.inl _,m,nx)=>some (m,nx)
  |_=>none
 |some (.ret,s)=>match qU P fn s with
  |some (.inl _,m,nx)=>some (m,nx)
  |_=>none
 |_=>none
noncomputable def UG(P:Program)(ev:Ev)(fn:Func)(v:Value)(m:T Row)(nx:Nat)(env:T D):Code->Option (T Row×Nat)
 | .seq (.region _ ops false) rest=>match ops.toList with
  |o::os=>match TI o with
   |some t=>match env.put t (some (.s v)) with
    |some C=>match CU P os ⟨C,m,nx⟩ with
     |some J=>af8 P fn (ev [] false rest J)
     |none=>none
    |none=>none
   |none=>none
  |[]=>none
 |_=>none
noncomputable def yN(P:Program)(x:Ctx)(ev:Ev)(g:FuncId)(args:List D)(v:Value)(m:T Row)(nx:Nat):Option (T Row×Nat):=match x.gM g with
 |some (fn,c)=>bif iN args.length (List.replicate fn.ntmps .u)&&plain v then match vQ 0 args .leaf with
  |some t=>UG P ev fn v m nx t c
  |none=>none
  else none
 |none=>none
noncomputable def Gt(P:Program)(fn:Func)(env:T D):Option (T Row×Nat)->Option nP
 |some (m,nx)=>qU P fn ⟨env,m,nx⟩
 |none=>none
noncomputable def Hk(P:Program)(x:Ctx)(ev:Ev)(fn:Func):Option (Exit×bM×Option D)->Option nP
 |some (e,s,none)=>Gp P fn (some (e,s))
 |some (.normal,s,some (.fn (.func g) fs cs))=>Gt P fn s.env (yN P x ev g (fs++cs) .nilIface s.mem s.nx)
 |some (.ret,s,some (.fn (.func g) fs cs))=>Gt P fn s.env (yN P x ev g (fs++cs) .nilIface s.mem s.nx)
 |some (.panic [⟨v,false,false⟩],s,some (.fn (.func g) fs cs))=>Gt P fn s.env (yN P x ev g (fs++cs) v s.mem s.nx)
 |_=>none
noncomputable def wA(P:Program)(x:Ctx)(ev:Ev)(n:Nat)(f:FuncId)(args:List D)(m:T Row)(nx:Nat):Option nP:=match x.gM f with
 |none=>none
 |some (fn,c)=>bif iN args.length (List.replicate fn.ntmps .u) then match vQ 0 args .leaf with
  |none=>none
  |some t=>Hk P x ev fn (Dw P x ev n c ⟨t,m,nx⟩)
  else none
section
variable{P:Program}{F:Nat->Prop}{β:az}{w:World}{a:Act}{x:Ctx}{ev:Ev}
theorem SC(hx:o7 P x)(C:rA P ev):∀ (n:Nat) (c:Code) (s s':bM) (e:Exit),xc P x ev n c s=some (e,s')->∀ (k:Nat) (β:az) (w:World) (a:Act),fv a.tmps.size c=true->bW P F (aO s) β w a->c.wpIn (Fe none) k P (q7 P F false s.nx β w a e s') a w:=by
 intro n
 induction n with
 |zero=>intro c s s' e h;cases h
 |succ n ih=>
  intro c s s' e h k β w a aj hs;have other:ev [] false c s=some (e,s')->c.wpIn (Fe none) k P (q7 P F false s.nx β w a e s') a w:=fun h=>C [] false c s e s' h F none k β w a (fun h=>by cases h) sf aj hs;simp only[xc] at h;split at h
  .rename_i M c2;simp only[fv,ay] at aj;cases h1:xc P x ev n M s with
   |none=>rw[h1] at h;cases h
   |some es=>
    obtain⟨O,s1⟩:=es;rw[h1] at h;refine wpIn_seq (wpIn_mono (ih M s s1 O h1 k β w a aj.1 hs) fun e2 a2 w2 hp=>?_);obtain⟨⟨_,β2,⟨rfl,rfl⟩,iE,J⟩,U⟩:=hp;cases e2 with
    |normal=>exact wpIn_mono (ih c2 s1 s' e h k β2 w2 a2 (by rw[J.size];exact aj.2) iE) fun e3 a3 w3 zs=>q7.trans J U zs
    |_=>cases h;exact⟨⟨_,β2,⟨rfl,rfl⟩,iE,J⟩,U⟩
  .rename_i id ops;have fin:(Code.region id ops true).wpIn (Fe none) k P (dd P F s.nx β w a (QE e s')) a w->(Code.region id ops true).wpIn (Fe none) k P (q7 P F false s.nx β w a e s') a w:=fun h=>wpIn_mono h fun O a1 w1 ⟨st',β',h1,h2,X⟩=>⟨⟨st',β',h1,h2,X.wH⟩,fun _=>X.defers⟩
   unfold VB at h;split at h
   .rename_i r hr;cases h;exact fin (Qm hx.mix (Ci hx C) (JD hx C) aj hr sf hs)
   .exact fin (Z0 hx.mix (JD hx C) (Ci hx C) aj h hs)
  .exact other h
def GZ(P:Program)(F:Nat->Prop)(N:Nat)(β:az)(w:World)(a:Act)(e:Exit)(s':bM)(O:Option D)(e2:Exit)(a2:Act)(J:World):Prop:=
 e2=e/\∃ C,bW P F (aO s') C J a2/\Step β w C J/\N<=s'.nx/\(∀ i,i<N->β i=none->C i=none)/\a2.tmps.size=a.tmps.size/\match O with
  |none=>a2.defers=a.defers
  |some M=>∀ g fs cs,M=.fn (.func g) fs cs->∃ us vs,Rs F C J fs us/\Rs F C J cs vs/\a2.defers={ target:=.fn (.func g) vs,args:=us }::a.defers
theorem abo(hx:o7 P x)(gu:rA P ev):∀ (n:Nat) (c:Code) (s s':bM) (e:Exit) (od:Option D),Dw P x ev n c s=some (e,s',od)->(∀ dv,od=some dv->∃ g fs cs,dv=.fn (.func g) fs cs)->∀ (k:Nat) (β:az) (w:World) (a:Act),fv a.tmps.size c=true->bW P F (aO s) β w a->c.wpIn (Fe none) k P (GZ P F s.nx β w a e s' od) a w:=by
 intro n
 induction n with
 |zero=>intro c s s' e od h;cases h
 |succ n ih=>
  intro c s s' e od h Eg k β w a aj hs;simp only[Dw] at h;split at h
  rotate_left
  .cases h
  rename_i c1 c2;simp only[fv,ay] at aj;split at h
  .rename_i ops f O;split at h
   rotate_left
   .cases h
   rename_i M h1;split at h
   rotate_left
   .cases h
   rename_i e2 s2 h2;cases h;obtain⟨g,fs,cs,hg⟩:=Eg _ rfl;unfold SB at O;split at O
   rotate_left
   .cases O
   rename_i id akU;split at O
   rotate_left
   .cases O
   rename_i o ho;split at O
   rotate_left
   .cases O
   rename_i f' J;cases O;have kA:ops.size - 1<ops.size:=(Array.getElem?_eq_some_iff.1 ho).1
   obtain⟨cl,q1,q2,q3,q4,q5⟩:∃ cl,o.op=.defer cl/\o.dst=none/\o.guard=none/\cl.callee=.value f/\cl.args.size=0:=by
    unfold TH at J;split at J
    .rename_i cl eD fC w8;split at J
     .rename_i ff hff;cases bK:Nat.beq cl.args.size 0 with
      |false=>rw[bK] at J;cases J
      |true=>rw[bK] at J;cases J;exact⟨cl,eD,fC,w8,hff,Nat.eq_of_beq_eq_true bK⟩
     .cases J
    .cases J
   have af9:lA a.tmps.size ops=true:=aj.1;have hlen:(ops.toList.take (ops.size - 1)).length=ops.size - 1:=by simp
   refine wpIn_seq (wpIn_region ?_)
   have:=Pn (r:=none) (n:=k) (tl:=1) (QX:=Exit.then (c2.wpIn (Fe none) k P (GZ P F s.nx β w a e s' (some (agX M.env f)))) (GZ P F s.nx β w a e s' (some (agX M.env f)))) (Ci hx gu) (sf (F:=F) (β:=β) (w:=w)) af9 (fun ch he=>by cases he) (ops.toList.take (ops.size - 1)) 0 s β w a (fun j o hj=>by
    have gN:j<ops.size - 1:=by rw[<- hlen];exact(bZ.1 hj).1
    rw[List.getElem?_take,if_pos gN] at hj
    simpa using hj) h1 hs (dC.refl (aO s) β w a) fun _ β1 X a1 dH U=>?_
   .rw[List.range_eq_range'];rw[hlen,show ops.size - 1+1=ops.size by omega] at this;exact this
   .rw[hlen,Nat.zero_add];simp only[List.range'_one,wpOpsIn_cons];refine zJ ho ?_;have hR:R F β1 X (agX M.env f) (a1.eval f):=by rw[Ad];exact dH.e.un.opd f
    rw[hg] at hR;generalize hv:a1.eval f=v at hR;cases hR with
    |fn _ _ _ us vs hl kY hh Bh=>
     unfold gV;have hw:Region.wanted o (yielded ops a1.tmps)=true:=by simp[Region.wanted,q3]
     rw[hw,if_pos rfl];refine⟨fun _ _=>trivial,?_⟩;have cF:cl.args= #[]:=Array.eq_empty_of_size_eq_zero q5
     have dc:(o.semAt none a1.eval).run P X=.ok (.defer { target:=.fn (.func g) vs.toArray,args:=us.toArray }) X:=by
      rw[Oper.semAt_none];unfold execOp;rw[q1];simp only[resolve,q4,Sem.run_bind,hv,Deferred.ofValue,Sem.run_pure,Result.andThen_ok,cF];simp
     have ado:(o.semAt (Fe none).round a1.eval).run P X=_:=dc;rw[ado,Oper.uponIn_defer,q2];show c2.wpIn (Fe none) k P (GZ P F s.nx β w a e s' (some (agX M.env f))) { a1 with defers:={ target:=.fn (.func g) vs.toArray,args:=us.toArray }::a1.defers } X;have af':bW P F (aO M) β1 X { a1 with defers:={ target:=.fn (.func g) vs.toArray,args:=us.toArray }::a1.defers }:=⟨dH.e,dH.m,dH.n⟩
     refine wpIn_mono (SC hx gu n c2 M s' e h2 k β1 X _ (by show fv a1.tmps.size c2=true;rw[U.size];exact aj.2) af') fun e3 a3 w3 zs=>?_;obtain⟨⟨_,β3,⟨rfl,rfl⟩,jy,gg⟩,wY⟩:=zs;refine⟨rfl,β3,jy,U.step.trans gg.step,Nat.le_trans U.le gg.le,fun i hi hb=>gg.grow i (Nat.lt_of_lt_of_le hi U.le) (U.grow i hi hb),gg.size.trans U.size,?_⟩;intro g' fs' cs' HZ;rw[hg] at HZ;cases HZ;refine⟨us.toArray,vs.toArray,?_,?_,?_⟩
     .exact⟨by simp[hl],fun j d v hd hv=>(hh j d v hd (by simpa using hv)).step gg.step⟩
     .exact⟨by simp[kY],fun j d v hd hv=>(Bh j d v hd (by simpa using hv)).step gg.step⟩
     .rw[wY rfl, <- U.defers]
  .cases h1:xc P x ev n c1 s with
   |none=>rw[h1] at h;cases h
   |some es=>
    obtain⟨e1,M⟩:=es;rw[h1] at h;refine wpIn_seq (wpIn_mono (SC hx gu n c1 s M e1 h1 k β w a aj.1 hs) fun e2 a2 w2 hp=>?_);obtain⟨⟨_,β2,⟨rfl,rfl⟩,iE,C⟩,fq⟩:=hp;cases e2 with
    |normal=>
     refine wpIn_mono (ih c2 M s' e od h Eg k β2 w2 a2 (by rw[C.size];exact aj.2) iE) fun e3 a3 w3 zs=>?_;obtain⟨rfl,β3,g1,g2,g3,g4,g5,g6⟩:=zs;refine⟨rfl,β3,g1,C.step.trans g2,Nat.le_trans C.le g3,fun i hi hb=>g4 i (Nat.lt_of_lt_of_le hi C.le) (C.grow i hi hb),g5.trans C.size,?_⟩;rw[fq rfl] at g6;exact g6
    |_=>cases h;exact⟨rfl,β2,iE,C.step,C.le,C.grow,C.size,fq rfl⟩
theorem Xu{o:Oper}{c:bM}{p:bf}(h:dR P o.op (agX c.env) (aW c.mem) c.nx p)(hs:bW P F (aO c) β w a):
 ∃ nx v w' β',(execOp a.eval o).run P w=.ok nx w'/\(nx=.value v\/(nx=.skip/\v=undef))/\R F β' w' p.val v/\aC P F (cu (aW c.mem) p.aT) β' w'/\Step β w β' w'/\∀ i,β i=none->(i<c.nx\/c.nx+p.new<=i)->β' i=none:=by
 cases h with
 |a e h hp=>exact Ph (m:=aW c.mem) (nx:=c.nx) hs.m (fun _=>hs.n _ (bO _)) (env:=mg (fc c.env)) hs.e.un (vL _ _) (by rw[xN];exact h) hp
 |n e h=>exact OR (m:=aW c.mem) (nx:=c.nx) hs.m (fun _=>hs.n _ (bO _)) (env:=mg (fc c.env)) hs.e.un (vL _ _) (by rw[xN];exact h)
theorem Qp{ops:Array Oper}{c':bM}{k:Nat}{Q:Exit->Act->List Frame->World->Prop}{cs:List Frame}{N:Nat}{β₀:az}{w₀:World}{a₀:Act}(aj:lA a₀.tmps.size ops=true)
 (M:∀ β w a,bW P F (aO c') β w a->dC N β₀ w₀ a₀ (aO c') β w a->Q .normal a cs w):∀ (rest:List Oper) (j:Nat) (c:bM) (β:az) (w:World) (a:Act),(∀ i o,rest[i]? =some o->ops[j+i]? =some o)->CU P rest c=some c'->bW P F (aO c) β w a->dC N β₀ w₀ a₀ (aO c) β w a->
 wpOpsSIn (Fe none) k P ops Q (List.range' j rest.length) a cs w
 |[],j,c,β,w,a,hj,h,hs,cn=>by
  simp only[CU,aK] at h;subst h;exact M β w a hs cn
 |o::rest,j,c,β,w,a,hj,h,hs,cn=>by
  have ho:ops[j]? =some o:=hj 0 o rfl;simp only[CU] at h;split at h
  rotate_left
  .cases h
  rename_i hg;split at h
  rotate_left
  .cases h
  rename_i p hp;split at h
  rotate_left
  .cases h
  rename_i O uW;have hw:Region.wanted o (yielded ops a.tmps)=true:=by simp[Region.wanted,hg]
  obtain⟨nx,v,w',β',h1,h2,X,h4,C,J⟩:=Xu (KM hp) hs;have U:∀ t,o.dst=some t->t<a.tmps.size:=fun t ht=>by rw[cn.size];exact sb aj ho t ht
  have e:=FH uW
  have next:=Qp (k:=k) aj M rest (j+1) O β' w' (a.put o.dst v) (fun i o hi=>by rw[Nat.add_right_comm];exact hj (i+1) o (by simpa using hi)) h (by
   rw[e];exact bW.put (st':=⟨fc c.env,cu (aW c.mem) p.aT,c.nx+p.new⟩) (hs.e.step C) U X h4 fun i hi=>J i (hs.n i (by have:c.nx+p.new<=i:=hi;show c.nx<=i;omega)) (.inr hi)) (cn.trans (by
   rw[e];exact Jb (st:=aO c) C (Nat.le_add_right _ _) fun i hi hb=>J i hb (.inl hi)))
  simp only[List.length_cons,List.range'_succ,wpOpsSIn,ho];refine⟨fun _ _=>trivial,?_⟩;rw[hw,if_pos rfl,h1];rcases h2 with rfl|⟨rfl,rfl⟩
  .exact next
  .exact next
theorem acn(hx:o7 P x)(gu:rA P ev){g:FuncId}{args:List D}{v:Value}{m m':T Row}{nx aA:Nat}(h:yN P x ev g args v m nx=some (m',aA))(hm:aC P F (aW m) β w)(hn:∀ i,nx<=i->β i=none){vs:Array Value}(hR:Rs F β w args vs){k:Nat}{u:FrameMode}
 (hu:(u=.returning/\v=.nilIface)\/u=.panicking [⟨v,false,false⟩]):
 lf P g=true/\CallsDIn (Fe none) k P g vs u w fun e C w'=>∃ v,e=.returned v/\settle C=.returning/\∃ β',aC P F (aW m') β' w'/\(∀ i,aA<=i->β' i=none)/\Step β w β' w'/\nx<=aA/\∀ i,i<nx->β i=none->β' i=none:=by
 unfold yN at h;split at h
 rotate_left
 .cases h
 rename_i fn c hf;obtain⟨wX,hb,aj,he⟩:=hx.gM _ _ _ hf;refine⟨he,?_⟩;cases hc:(iN args.length (List.replicate fn.ntmps .u)&&plain v) with
 |false=>rw[hc] at h;cases h
 |true=>
 rw[hc] at h;simp only[ay,lO,List.length_replicate] at hc;obtain⟨hle,mf⟩:=hc;simp only[cond_true] at h;split at h
 rotate_left
 .cases h
 rename_i t ht;unfold UG at h;split at h
 rotate_left
 .cases h
 rename_i id ops rest;split at h
 rotate_left
 .cases h
 rename_i o os Mu;split at h
 rotate_left
 .cases h
 rename_i tr U;split at h
 rotate_left
 .cases h
 rename_i X adp;split at h
 rotate_left
 .cases h
 rename_i s1 uT
 obtain⟨cl,q1,q2,q3,q4⟩:∃ cl,o.op=.call cl/\o.dst=some tr/\o.guard=none/\cl.callee=.builtin .recover:=by
  unfold TI at U;split at U
  .rename_i cl t' eD fC w8;split at U
   .rename_i cF;cases U;exact⟨cl,eD,fC,w8,cF⟩
   .cases U
  .cases U
 obtain⟨bK,Hl⟩:=I2 (fn:=fn) hle hm hn hR;have zp:aO ⟨t,m,nx⟩=⟨kK args,aW m,nx⟩:=by rw[<- Jd ht];rfl
 rw[<- zp] at Hl;simp only[fv,ay] at aj;refine callsDIn_of_wpSIn wX hb trivial fun J M Lv=>wpSIn_seq (wpSIn_region ?_)
 have ho:ops[0]? =some o:=by
  have:ops.toList[0]? =some o:=by rw[Mu];rfl
  simpa using this
 have aga:ops.size=os.length+1:=by rw[<- Array.length_toList,Mu];rfl
 have hw:∀ y,Region.wanted o y=true:=fun y=>by simp[Region.wanted,q3]
 have dc:∀ (ρ:Operand->Value),(execOp ρ o).run P w=.ok .recover w:=fun ρ=>by
  unfold execOp;rw[q1];simp[resolve,q4,invoke];rfl
 have adq:=JA adp;have fC:tr<(vs++Array.replicate (fn.ntmps - vs.size) undef).size:=by rw[bK];exact sb aj.1 ho tr q2
 have go:∀ (C:FrameMode),settle C=.returning->wpOpsSIn (Fe none) k P ops (Exit.thenS (rest.wpSIn (Fe none) k P (bodyPostS P fn J M fun e C w'=>∃ v,e=.returned v/\settle C=.returning/\∃ β',aC P F (aW m') β' w'/\(∀ i,aA<=i->β' i=none)/\Step β w β' w'/\nx<=aA/\∀ i,i<nx->β i=none->β' i=none))
  (bodyPostS P fn J M fun e C w'=>∃ v,e=.returned v/\settle C=.returning/\∃ β',aC P F (aW m') β' w'/\(∀ i,aA<=i->β' i=none)/\Step β w β' w'/\nx<=aA/\∀ i,i<nx->β i=none->β' i=none)) (List.range' 1 os.length)
  (Act.put { tmps:=vs++Array.replicate (fn.ntmps - vs.size) undef,defers:=[] } (some tr) v) ({ J with mode:=C }::M) w:=fun C s6=>by
  refine Qp (F:=F) (N:=nx) (β₀:=β) (w₀:=w) (a₀:=Act.put { tmps:=vs++Array.replicate (fn.ntmps - vs.size) undef,defers:=[] } (some tr) v) (by rw[tN];show lA (vs++Array.replicate (fn.ntmps - vs.size) undef).size ops=true;rw[bK];exact aj.1) (fun β1 w1 a1 dH O=>?_) os 1 ⟨X,m,nx⟩ β w _ (fun i o hi=>by
   have:ops.toList[1+i]? =some o:=by rw[Mu,Nat.add_comm];simpa using hi
   simpa using this) uT ?_ ?_
  .have LZ:a1.tmps.size=fn.ntmps:=by rw[O.size,tN];exact bK
   have cK:a1.defers=[]:=by rw[O.defers,put_defers]
   show rest.wpSIn (Fe none) k P _ a1 _ w1;refine wpSIn_of_wpIn rfl ?_;cases BD:ev [] false rest s1 with
   |none=>rw[BD] at h;cases h
   |some es=>
    obtain⟨e2,s2⟩:=es;rw[BD] at h;refine wpIn_mono (gu [] false rest s1 e2 s2 BD F none k β1 w1 a1 (fun _=>rfl) sf (by rw[LZ];exact aj.2) dH) fun e3 a3 w3 zs=>?_;obtain⟨⟨_,β3,⟨rfl,rfl⟩,jy,gg⟩,wY⟩:=zs
    have kS:(match qU P fn s2 with
     |some (.inl _,m,nx)=>some (m,nx)
     |_=>none)=some (m',aA)->a3.defers=[]/\∃ VC,({ J with mode:=C }::M:List Frame)={ J with mode:=VC }::M/\∃ v,(results fn a3.tmps).run P w3=.ok v w3/\
     ∃ v',Ending.returned v=.returned v'/\settle VC=.returning/\∃ β',aC P F (aW m') β' w3/\(∀ i,aA<=i->β' i=none)/\Step β w β' w3/\nx<=aA/\∀ i,i<nx->β i=none->β' i=none:=fun h=>by
     split at h
     rotate_left
     .cases h
     rename_i d m2 iC hl;cases h;unfold qU at hl;split at hl
     rotate_left
     .cases hl
     rename_i ds bN;cases hl;obtain⟨v,d,g1,_,_⟩:=EP (fn:=fn) (K:=fun d=>d=rv ds) jy (FI _ ds [] bN rfl);exact⟨(wY rfl).trans cK,C,rfl,v,g1,v,rfl,s6,β3,jy.m,jy.n,O.step.trans gg.step,Nat.le_trans O.le gg.le,fun i hi hb=>gg.grow i (Nat.lt_of_lt_of_le hi O.le) (O.grow i hi hb)⟩
    cases e3 with
    |normal=>exact kS h
    |ret=>exact kS h
    |_=>cases h
  .have:aO ⟨X,m,nx⟩=St.put (aO ⟨t,m,nx⟩) (some tr) (.s v):=by
    show(⟨fc X,aW m,nx⟩:St)=_;rw[adq];rfl
   rw[this];exact bW.put (st':=aO ⟨t,m,nx⟩) Hl.e (fun t ht=>by cases ht;exact fC) (.s v mf) Hl.m Hl.n
  .exact dC.refl ⟨fc X,aW m,nx⟩ β w _
 rw[List.range_eq_range',aga];simp only[List.range'_succ,wpOpsSIn,ho];refine⟨fun _ _=>trivial,?_⟩;rw[hw,if_pos rfl,dc,q2];rcases hu with⟨rfl,rfl⟩|rfl
 .have:recoverD (J::M)=none:=by simp[recoverD,Lv]
  simp only[this];have h2:=go .returning rfl;have h3:({ J with mode:=.returning }:Frame)=J:=by rw[<- Lv]
  rw[h3] at h2;exact h2
 .have:recoverD (J::M)=some (v,{ J with mode:=.panicking [⟨v,true,false⟩] }::M):=by simp[recoverD,Lv]
  simp only[this];exact go _ rfl
theorem abp(hx:o7 P x)(gu:rA P ev)(n:Nat){f:FuncId}{args:List D}{m m':T Row}{nx aA:Nat}{y:D ⊕ List PanicEntry}(h:wA P x ev n f args m nx=some (y,m',aA)):ZC P [] f args (aW m) nx y (aW m') aA:=by
 unfold wA at h;split at h
 .cases h
 .rename_i fn c hf;obtain⟨wX,hb,aj,he⟩:=hx.gM _ _ _ hf;refine⟨he,fun F β w vs hh hm fH hR=>?_⟩;cases hn:iN args.length (List.replicate fn.ntmps .u) with
  |false=>rw[hn] at h;cases h
  |true=>
   rw[hn] at h;have dN:args.length<=fn.ntmps:=by simpa[lO] using hn
   simp only[cond_true] at h;split at h
   .cases h
   .rename_i t ht;cases hd:Dw P x ev n c ⟨t,m,nx⟩ with
    |none=>rw[hd] at h;cases h
    |some es=>
     obtain⟨e,s,od⟩:=es;rw[hd] at h;have zp:aO ⟨t,m,nx⟩=⟨kK args,aW m,nx⟩:=by rw[<- Jd ht];rfl
     have Eg:∀ dv,od=some dv->∃ g fs cs,dv=.fn (.func g) fs cs:=fun dv HZ=>by
      subst HZ;simp only[Hk] at h;split at h
      .rename_i C;cases C
      .rename_i C;cases C;exact⟨_,_,_,rfl⟩
      .rename_i C;cases C;exact⟨_,_,_,rfl⟩
      .rename_i C;cases C;exact⟨_,_,_,rfl⟩
      .cases h
     refine Oq wX hb dN hm fH hR fun a HX ha rS hs=>wpIn_mono (abo (F:=F) hx gu n c ⟨t,m,nx⟩ s e od hd Eg 0 β w a (by rw[ha];exact aj) (by rw[zp];exact hs)) fun e2 a2 w2 hp=>?_;obtain⟨rfl,β2,J,rq,X,Hm,af6,M⟩:=hp;rw[rS] at M
     have ret:∀ {env:T D} {mm:T Row} {nn:Nat} {U:az} {O:World},qU P fn ⟨env,mm,nn⟩=some (y,m',aA)->bW P F (aO ⟨env,mm,nn⟩) U O a2->Step β w U O->nx<=nn->(∀ i,i<nx->β i=none->U i=none)->∃ v,(results fn a2.tmps).run P O=.ok v O/\Ends P F β w nx y (aW m') aA (.returned v) O:=fun {env mm nn U O} hl jy agb agc agd=>by
      unfold qU at hl;split at hl
      .rename_i ds bN;simp only[aK,cq] at hl;obtain⟨rfl,rfl,rfl⟩:=hl;obtain⟨v,d,g1,rfl,g3⟩:=EP (fn:=fn) (K:=fun d=>d=rv ds) jy (FI _ ds [] bN rfl);exact⟨v,g1,U,⟨v,rfl,g3⟩,jy.m,jy.n,agb,agc,agd⟩
      .cases hl
     cases od with
     |none=>
      have M:a2.defers=[]:=M;simp only[Hk] at h;cases e2 with
      |normal=>
       show LeavesInM _ _ _ _ _ _ a2.defers _ _;rw[M];exact ret h J rq X Hm
      |ret=>
       show LeavesInM _ _ _ _ _ _ a2.defers _ _;rw[M];exact ret h J rq X Hm
      |panic ch=>
       show LeavesInM _ _ _ _ _ _ a2.defers _ _;rw[M];simp only[Gp,aK,cq] at h;obtain⟨rfl,rfl,rfl⟩:=h;exact⟨β2,rfl,J.m,J.n,rq,X,Hm⟩
      |_=>cases h
     |some dv=>
      obtain⟨g,fs,cs,rfl⟩:=Eg dv rfl;obtain⟨us,VD,r1,r2,r3⟩:=M g fs cs rfl
      have Np:∀ {v:Value} {u:FrameMode},u≠ .run->((u=.returning/\v=.nilIface)\/u=.panicking [⟨v,false,false⟩])->Gt P fn s.env (yN P x ev g (fs++cs) v s.mem s.nx)=some (y,m',aA)->
       LeavesInM (Fe none) 0 P fn a2.tmps (Ends P F β w nx y (aW m') aA) a2.defers u w2:=fun {v u} hur hu h=>by
       cases hc:yN P x ev g (fs++cs) v s.mem s.nx with
       |none=>rw[hc] at h;cases h
       |some z=>
        obtain⟨m3,Nq⟩:=z;rw[hc] at h;obtain⟨bL,iV⟩:=acn (F:=F) hx gu hc J.m J.n (Rs.append r1 r2) (k:=0 - 1) hu;rw[r3];refine⟨hur,.inr ⟨oS,.func g,VD,g,us++VD,rfl,?_,fun _ _=>trivial,iV.mono fun e' u' w' hp=>?_⟩⟩
        .simp only[invoke];unfold callFunc;unfold lf at bL;simp only[Sem.run_bind,run_program,Result.andThen_ok];split at bL
         .rename_i Nr age;simp only[ay,Bool.not_eq_true'] at bL
          have l8:Nr.body.isNone=false:=by
           cases Hz:Nr.body<;>simp_all
          rw[age];simp only[bL.1,l8,Bool.false_eq_true,if_false,Sem.run_pure]
         .cases bL
        .obtain⟨v',rfl,s6,U,j1,j2,j3,j4,j5⟩:=hp;show LeavesInM _ _ _ _ _ _ [] (settle u') w';rw[s6];exact ret h ⟨fun t=>(J.e t).step j3,j1,j2⟩ (rq.trans j3) (Nat.le_trans X j4) fun i hi hb=>j5 i (Nat.lt_of_lt_of_le hi X) (Hm i hi hb)
      simp only[Hk] at h;cases e2 with
      |normal=>exact Np oS (.inl ⟨rfl,rfl⟩) h
      |ret=>exact Np oS (.inl ⟨rfl,rfl⟩) h
      |panic ch=>
       split at h
       .rename_i C;cases C
       .rename_i C;cases C
       .rename_i C;cases C
       .rename_i C;cases C;exact Np oS (.inr rfl) h
       .cases h
      |_=>cases h
theorem Yt(hx:o7 P x)(C:rA P ev)(n:Nat){f:FuncId}{args:List D}{r:D}(h:wg P (wA P x ev n f args .leaf 0)=some (.inl r))(ht:args.all (nQ depth)=true):ax P f args r:=by
 cases hr:wA P x ev n f args .leaf 0 with
 |none=>rw[hr] at h;cases h
 |some z=>
  obtain⟨y,m',aA⟩:=z;rw[hr] at h;exact Qn h (abp hx C n hr) fun a ha=>qb (b7.1 ht a ha)
end
def Ns(P:Program)(f:Nat):Bool:=match P.funcs[f]? with
 |some fn=>match fn.body with
  |some c=>fv fn.ntmps c&&lf P f
  |none=>false
 |none=>false
noncomputable def TJ:Option Func->Option (Func×Code)
 |some fn=>match fn.body with
  |some c=>some (fn,c)
  |none=>none
 |none=>none
noncomputable def Hn(P:Program)(ids:List Nat)(f:FuncId):Option (Func×Code):=bif zn f ids then TJ P.funcs[f]? else none
theorem Ru{f:Nat}:∀ {l:List Nat},zn f l=true->f∈l
 |[],h=>by cases h
 |g::l,h=>by
  simp only[zn] at h;cases hg:Nat.beq g f with
  |true=>rw[Nat.eq_of_beq_eq_true hg];exact List.mem_cons_self ..
  |false=>rw[hg] at h;exact List.mem_cons_of_mem _ (Ru h)
theorem Rv{P:Program}{ids:List Nat}(h:ids.all (Ns P)=true):GS P (Hn P ids):=fun f fn c hf=>by
 unfold Hn at hf;cases hi:zn f ids with
 |false=>rw[hi] at hf;cases hf
 |true=>
  rw[hi] at hf;have hb:=b7.1 h f (Ru hi);simp only[cond_true,TJ] at hf;unfold Ns at hb;split at hf
  .rename_i J C;split at hf
   .rename_i c' hc;cases hf;rw[C] at hb;simp only[hc,ay] at hb;exact⟨C,hc,hb.1,hb.2⟩
   .cases hf
  .cases hf
noncomputable def Mv:Value->Value->Bool
 | .int k a,.int k' b=>lB k k'&&zl a b
 | .bool a,.bool b=>bif a then b else !b
 | .string a,.string b=>Bw a.data.toList b.data.toList
 | .pointer none,.pointer none=>true
 | .nilFunc,.nilFunc=>true
 | .nilIface,.nilIface=>true
 | .map none,.map none=>true
 |_,_=>false
noncomputable def uE(g:D->D->Bool):List D->List D->Bool
 |[],[]=>true
 |a::xs,b::bs=>g a b&&uE g xs bs
 |_,_=>false
noncomputable def wB:Nat->D->D->Bool
 |0,_,_=>false
 |n+1,a,b=>match a,b with
  | .s x,.s y=>Mv x y
  | .z,.z=>true
  | .agg xs,.agg ys=>uE (wB n) xs ys
  | .bp xs,.bp ys=>uE (wB n) xs ys
  | .pt xs,.pt ys=>uE (wB n) xs ys
  | .sl xs k,.sl ys l=>Nat.beq k l&&uE (wB n) xs ys
  |_,_=>false
noncomputable def Gu:List (Nat×List D×D)->FuncId->List D->Option D
 |[],_,_=>none
 |(g,aS,r)::l,f,bs=>bif Nat.beq g f&&uE (wB 8) aS bs then some r else Gu l f bs
theorem abq{a b:Value}(h:Mv a b=true):a=b:=by
 unfold Mv at h;split at h
 .simp only[ay,Sw,beq_iff_eq] at h;rw[Ab _ _ h.1,h.2]
 .rename_i a b;cases a<;>cases b<;>first|rfl|cases h
 .rename_i a b;rw[Gr,beq_iff_eq] at h;have:a.data=b.data:=Array.toList_inj.1 h;cases a;cases b;cases this;rfl
 all_goals first|rfl|cases h
theorem J6{g:D->D->Bool}(hg:∀ a b,g a b=true->a=b):∀ {xs ys:List D},uE g xs ys=true->xs=ys
 |[],[],_=>rfl
 |a::xs,b::ys,h=>by
  simp only[uE,ay] at h;rw[hg a b h.1,J6 hg h.2]
 |[],_::_,h=>by cases h
 |_::_,[],h=>by cases h
theorem Rw:∀ (n:Nat) (a b:D),wB n a b=true->a=b
 |0,_,_,h=>by cases h
 |n+1,a,b,h=>by
  have ih:=fun {xs ys:List D}=>J6 (Rw n) (xs:=xs) (ys:=ys);simp only[wB] at h;split at h
  .rw[abq h]
  .rfl
  .rw[ih h]
  .rw[ih h]
  .rw[ih h]
  .simp only[ay] at h;rw[Nat.eq_of_beq_eq_true h.1,ih h.2]
  .cases h
theorem Ps{P:Program}:∀ {l:List (Nat×List D×D)},(∀ e∈l,ax P e.1 e.2.1 e.2.2)->∀ f args r,Gu l f args=some r->ax P f args r
 |[],_,f,args,r,h=>by cases h
 |(g,aS,q)::l,hl,f,args,r,h=>by
  simp only[Gu] at h;cases hc:Nat.beq g f&&uE (wB 8) aS args with
  |true=>
   rw[hc] at h;simp only[ay] at hc;cases h;rw[<- Nat.eq_of_beq_eq_true hc.1, <- J6 (Rw 8) hc.2];exact hl _ (List.mem_cons_self ..)
  |false=>
   rw[hc] at h;exact Ps (fun e he=>hl e (List.mem_cons_of_mem _ he)) f args r h
end Go.Abs
