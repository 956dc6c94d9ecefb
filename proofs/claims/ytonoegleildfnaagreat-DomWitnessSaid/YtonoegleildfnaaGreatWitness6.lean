/- Part 6 of the proof; the last part says what is proved. -/
import Derived.Test.YtonoegleildfnaaGreatWitness5
set_option linter.unusedVariables false
set_option linter.unusedSimpArgs false
namespace Go.Argus
open Go Go.Abs
open Go.Proofs.Tryz.K (nextR lg_ok beh_in ord_in)
def xD(r:Int):List a7->Bool->Bool
 |[],e=>e
 |y::t,e=>if dJ (bU y) r=true then true else if(bT y==r)=true then false else xD r t e
def rC(x:bB):List a7:=x.ins.drop (cg x).length
def rJ(x:bB)(r:Int):Bool:=xD r (rC x) (dJ (bS x.fin) r)
def qh(x:bB)(r:Int):Bool:=(rC x).all fun y=>bT y !=r
theorem I5(x:bB):x.ins=cg x++rC x:=by
 unfold rC cg
 conv=>lhs;rw[<- List.take_append_drop (x.ins.takeWhile bC).length x.ins]
 congr 1;have:=List.takeWhile_prefix (l:=x.ins) bC;exact(List.prefix_iff_eq_take.1 this).symm
theorem SE{α:Type}{p:α->Bool}:∀ {l:List α} {y:α},y∈l.takeWhile p->p y=true
 |[],y,h=>by simp at h
 |a::l,y,h=>by
  rw[List.takeWhile_cons] at h;split at h
  .rename_i ha;rcases List.mem_cons.1 h with rfl|h
   .exact ha
   .exact SE h
  .simp at h
theorem JF(x:bB):∀ y∈cg x,y.op=19:=fun y hy=>by
 unfold cg at hy;have:=SE hy;simpa[bC] using this
theorem ZT{r:Int}{P:List a7}(h:∀ y∈P,y.op=19)(R:List a7):dV r false (P++R)=dV r false R/\(P++R).any (fc r false)=R.any (fc r false):=by
 induction P with
 |nil=>exact⟨rfl,rfl⟩
 |cons y P ih=>
  have C:=h y oS;obtain⟨i1,i2⟩:=ih fun z J=>h z (by simp[J]);have e:fc r false y=false:=by unfold fc;simp[C]
  rw[List.cons_append];constructor
  .rw[dV,Pa C,e,i1];rfl
  .rw[List.any_cons,e,i2];rfl
theorem SF{r:Int}:∀ {R:List a7},(∀ y∈R,y.op≠19)->
 ((dV r false R=1/\∀ e,xD r R e=true)\/(dV r false R=2/\(∀ e,xD r R e=false)/\R.all (fun y=>bT y !=r)=false)\/(dV r false R=0/\(∀ e,xD r R e=e)/\R.all (fun y=>bT y !=r)=true))/\
 R.any (fc r false)= !(R.all fun y=>bT y !=r)
 |[],_=>⟨.inr (.inr ⟨rfl,fun _=>rfl,rfl⟩),rfl⟩
 |y::R,h=>by
  obtain⟨i1,i2⟩:=SF (r:=r) (R:=R) fun z U=>h z (by simp[U]);have J:(y.op !=19)=true:=by have:=h y oS;simpa using this
  have e:fc r false y=(bT y==r):=by
   unfold fc;rw[J];cases (bT y==r)<;>rfl
  rw[dV,List.any_cons,List.all_cons,i2,e];unfold xD;cases hr:dJ (bU y) r with
  |true=>exact⟨.inl ⟨rfl,fun _=>rfl⟩,by cases C:(bT y==r)<;>simp[bne,C]⟩
  |false=>
   cases C:(bT y==r) with
   |true=>exact⟨.inr (.inl ⟨rfl,fun _=>rfl,by simp[bne,C]⟩),by simp[bne,C]⟩
   |false=>
    refine⟨?_,by simp[bne,C]⟩;have e2:(bT y !=r)=true:=by simp[bne,C]
    rw[e2,Bool.true_and];exact i1
theorem JG{α:Type}{p q:α->Bool}:∀ {l:List α},(∀ y∈l,p y=q y)->l.any p=l.any q
 |[],_=>rfl
 |y::l,h=>by rw[List.any_cons,List.any_cons,h y oS,JG fun z C=>h z (by simp[C])]
section
variable{f:aA}(hF:vQ f)
include hF
theorem Rr{b:Nat}{x:bB}(hx:f.blocks[b]? =some x):∀ y∈rC x,y.op≠19:=fun y hy X=>by
 have oV:=I5 x;obtain⟨j,hj⟩:=dt hy
 have J:x.ins[(cg x).length+j]? =some y:=by
  unfold rC at hj
  rwa[List.getElem?_drop] at hj
 have U:=(hF.Ck b x hx _ y J (by simp[bC,X])).2;have ap:=(bL.1 J).1;obtain⟨z,C⟩:∃ z,x.ins[(cg x).length]? =some z:=⟨_,aG oG⟩
 have h1:bC z=false:=by
  cases e:bC z with
  |false=>rfl
  |true=>
   exfalso;have qD:(x.ins.drop (cg x).length)[0]? =some z:=by rw[List.getElem?_drop];exact C
   have hd:(x.ins.drop (cg x).length)=z::(x.ins.drop ((cg x).length+1)):=by
    rw[List.drop_eq_getElem_cons oG];congr 1;exact(bL.1 C).2
   have h2:cg x=cg x++(z::x.ins.drop ((cg x).length+1)).takeWhile bC:=by
    have h3:cg x=(cg x++rC x).takeWhile bC:=by rw[<- oV];rfl
    conv at h3=>rhs;rw[List.takeWhile_append_of_pos fun y hy=>by simp[bC,JF x y hy]]
    unfold rC at h3
    rwa[hd] at h3
   have:=congrArg List.length h2;rw[List.length_append,List.takeWhile_cons,if_pos e,List.length_cons] at this;omega
 have h2:=bJ.1 U z (cx (i:=(cg x).length) (by rw[List.getElem?_take,if_pos oG];exact C));rw[h1] at h2;cases h2
theorem aa'{b:Nat}(hb:b<f.blocks.length)(r:Int):
 ((rJ (bu f b) r=true/\cV f r b false=1)\/(rJ (bu f b) r=false/\cV f r b false=0/\qh (bu f b) r=true)\/(rJ (bu f b) r=false/\cV f r b false=2/\qh (bu f b) r=false))/\
 iT f r b false= !qh (bu f b) r:=by
 have hx:=aG hb;have C:=Rr hF hx;unfold cV iT;rw[iU hx];generalize f.blocks[b]=x at hx C;obtain⟨h1,h2⟩:=SF (r:=r) C;obtain⟨h3,h4⟩:=ZT (r:=r) (JF x) (rC x);rw[<- I5] at h3 h4;unfold ld rJ qh;rw[h3,h4,h2];refine⟨?_,rfl⟩;rcases h1 with⟨h,hr⟩|⟨h,hr,hc⟩|⟨h,hr,hc⟩
 .rw[h];exact .inl ⟨hr _,rfl⟩
 .rw[h];exact .inr (.inr ⟨hr _,rfl,hc⟩)
 .rw[h,hr,hc,if_pos rfl];cases dJ (bS x.fin) r with
  |true=>exact .inl ⟨rfl,rfl⟩
  |false=>exact .inr (.inl ⟨rfl,rfl,rfl⟩)
theorem YJ{b:Nat}(hb:b<f.blocks.length)(r:Int):(dW (bu f b) r=true/\cV f r b true=2)\/(dW (bu f b) r=false/\cV f r b true=cV f r b false/\iT f r b true=iT f r b false):=by
 have hx:=aG hb;have hp:=hF.Ck b _ hx;have U:=Rr hF hx;unfold cV iT;rw[iU hx];generalize f.blocks[b]=x at hx hp U;have hp:∀ (j:Nat) y,x.ins[j]? =some y->y.op=19->(x.ins.take (j+1)).all bC=true:=fun j y hy J=>(hp j y hy (by simp[bC,J])).2;cases C:dW x r with
 |true=>
  refine .inl ⟨rfl,?_⟩;unfold ld;rw[JH (l:=x.ins) C];rfl
 |false=>
  refine .inr ⟨rfl,?_,?_⟩
  .unfold ld;rw[JI hp C]
  .have e:∀ p,x.ins.any (fc r p)=((cg x).any (fc r p)||(rC x).any (fc r p)):=fun p=>by
    conv=>lhs;rw[I5 x]
    rw[List.any_append]
   rw[e,e];congr 1
   .refine JG fun y hy=>?_;unfold dW at C;have X:=List.any_eq_false.1 C y hy;have e0:(y.to==r)=false:=by simpa using X
    unfold fc;rw[IJ (JF x y hy),e0];rfl
   .refine JG fun y hy=>?_;have J:=U y hy;unfold fc;have:(y.op !=19)=true:=by simpa using J
    rw[this];rfl
def nK(f:aA)(r a c:Int):Bool:= !(lZ (bu f a.toNat).fin c r)&&(!(dW (bu f a.toNat) r)&&qh (bu f a.toNat) r)
def rL(f:aA)(r:Int)(prev:Option Int)(b:Int):Bool:=(rJ (bu f b.toNat) r&& !(dW (bu f b.toNat) r))||(match prev with|none=>false|some a=>nL (bu f b.toNat) (jP f b.toNat) a r)
def qq(f:aA)(r:Int):Option Int->List Int->Bool
 |_,[]=>false
 |prev,[b]=>rL f r prev b
 |_,b::c::t=>nK f r b c&&qq f r (some b) (c::t)
omit hF in
def AA(t:List Int)(a:Bool)(g:Int->Bool):Bool:=match t with|[]=>a|c::_=>g c
theorem step_eq{b:Nat}(hb:b<f.blocks.length){r:Nat}{t:List Int}{go C:Bool}(J:dW (bu f b) r=false)(h:∀ c X,t=c::X->go=(!(lZ (bu f b).fin c r)&&C)):
 n7 (cV f r b false) (iT f r b false) t go=AA t (rJ (bu f b) r) fun c=>nK f r b c&&C:=by
 obtain⟨h1,h2⟩:=aa' hF hb r;unfold n7;cases t with
 |nil=>rcases h1 with⟨e1,e2⟩|⟨e1,e2,e3⟩|⟨e1,e2,e3⟩<;>simp[e1,e2,AA]
 |cons c t=>
  have hg:=h c t rfl
  have U:nK f r b c=(!(lZ (bu f b).fin c r)&&qh (bu f b) r):=by
   unfold nK;rw[bx,J];rfl
  show _=(nK f r b c&&C)
  rw[U,h2,hg];cases hc:qh (bu f b) r<;>cases hw:lZ (bu f b).fin c r<;>rcases h1 with⟨e1,e2⟩|⟨e1,e2,e3⟩|⟨e1,e2,e3⟩<;>simp_all
theorem Qe:∀ (t:List Int) (a b r:Nat),(b:Int)∈iN f a->b<f.blocks.length->wZ (iN f) ((b:Int)::t)->gn f r (some (a:Int)) ((b:Int)::t)=(!(lZ (bu f a).fin b r)&&qq f r (some (a:Int)) ((b:Int)::t))
 |t,a,b,r,hm,hb,hw=>by
  have hW:=SC (r:=r) hm;have U:=SD hF (r:=(r:Int)) hm;rw[bx] at U
  have sQ:∀ c X,t=c::X->gn f r (some (b:Int)) t=(!(lZ (bu f b).fin c r)&&qq f r (some (b:Int)) t):=fun c X e=>by
   subst e;obtain⟨hc,sj⟩:=hw;rw[bx] at hc;have AB:=beh_in hF.ok _ _ hc;obtain⟨cn,rfl⟩:=cN AB.1;exact Qe X b cn r hc (by have:=AB.2;omega) sj
  rw[PH,bx,bx]
  have hG:dJ (jn (eN f b) a (bu f b)) r=nL (bu f b) (jP f b) a r:=by
   rw[Bool.eq_iff_iff,jD,U]
  have hE:eM f r a b=if lZ (bu f a).fin b r=true then 2 else if nL (bu f b) (jP f b) a r=true then 1 else if dW (bu f b) r=true then 2 else 0:=by
   unfold eM np;rw[<- hW,hG]
  rw[hE]
  have Ac:qq f r (some (a:Int)) ((b:Int)::t)=AA t (rL f r (some (a:Int)) b) fun c=>nK f r b c&&qq f r (some (b:Int)) t:=by
   cases t<;>rfl
  rw[Ac];have J:∀ c,dW (bu f b) r=true->nK f r b c=false:=fun c h=>by unfold nK;rw[bx,h];simp
  have Ct:rL f r (some (a:Int)) b=((rJ (bu f b) r&& !(dW (bu f b) r))||nL (bu f b) (jP f b) a r):=by unfold rL;rw[bx]
  have C:dW (bu f b) r=false->_:=fun gm=>step_eq hF hb gm sQ;rw[Ct];clear hE hG U hW Ct Ac sQ;generalize lZ (bu f a).fin b r=w1;generalize nL (bu f b) (jP f b) a r=w2;generalize n7 (cV f r b false) (iT f r b false) t (gn f r (some (b:Int)) t)=w4 at C ⊢;generalize rJ (bu f b) r=w5 at C ⊢;generalize qq f r (some (b:Int)) t=w6 at C ⊢;generalize dW (bu f b) r=w3 at J C ⊢;cases w1 with
  |true=>simp
  |false=>
   cases w3 with
   |true=>
    have J:=fun c=>J c rfl;cases t<;>cases w2<;>simp[AA,J]
   |false=>
    have C:=C rfl;rw[C];cases t<;>cases w2<;>simp[AA]
theorem aba{t:List Int}{b r:Nat}(hb:b<f.blocks.length)(hw:wZ (iN f) ((b:Int)::t)):gn f r none ((b:Int)::t)=qq f r none ((b:Int)::t):=by
 have sQ:∀ c U,t=c::U->gn f r (some (b:Int)) t=(!(lZ (bu f b).fin c r)&&qq f r (some (b:Int)) t):=fun c U e=>by
  subst e;obtain⟨hc,sj⟩:=hw;rw[bx] at hc;have X:=beh_in hF.ok _ _ hc;obtain⟨cn,rfl⟩:=cN X.1;exact Qe hF U b cn r hc (by have:=X.2;omega) sj
 have Ac:qq f r none ((b:Int)::t)=AA t (rL f r none b) fun c=>nK f r b c&&qq f r (some (b:Int)) t:=by
  cases t<;>rfl
 rw[PG,Ac,bx];rcases YJ hF hb r with⟨C,h2⟩|⟨C,h2,h3⟩
 .have aU:∀ c,nK f r b c=false:=fun c=>by unfold nK;rw[bx,C];simp
  have J:rL f r none b=false:=by unfold rL;rw[bx,C];simp
  rw[h2,n7,if_pos rfl];cases t<;>simp[aU,J,AA]
 .rw[h2,h3,step_eq hF hb C sQ];have J:rL f r none b=rJ (bu f b) r:=by unfold rL;rw[bx,C];simp
  rw[J]
end
theorem Qf(f:aA)(r:Int):∀ (t:List Int) (prev:Option Int) (b:Int),qq f r prev (b::t)=((List.range t.length).all (fun i=>nK f r ((b::t).getD i 0) ((b::t).getD (i+1) 0))&&rL f r (if t.length=0 then prev else some ((b::t).getD (t.length - 1) 0)) ((b::t).getD t.length 0))
 |[],prev,b=>by simp[qq]
 |c::t,prev,b=>by
  rw[qq,Qf f r t (some b) c,List.length_cons,List.range_succ_eq_map,List.all_cons,List.all_map,Bool.and_assoc];congr 1;congr 1;cases t with
  |nil=>rfl
  |cons d t=>rfl
def mv(f:aA)(way:List Int)(i:Nat):Bool:=jf f.blocks.length (way.getD i 0)&&ky f (way.getD i 0).toNat
def nu(f:aA)(r:Int)(way:List Int)(i:Nat):Bool:=dJ (fG f (way.getD i 0).toNat) (way.getD (i+1) 0)&&nK f r (way.getD i 0) (way.getD (i+1) 0)
def zt(f:aA)(r:Int)(way:List Int):Bool:=rL f r (if way.length - 1=0 then none else some (way.getD (way.length - 2) 0)) (way.getD (way.length - 1) 0)
def Ad(f:aA)(b r:Int)(way:List Int):Bool:=if way.length=0\/1200<way.length\/way.getD 0 0≠b then false else(List.range way.length).all (mv f way)&&((List.range (way.length - 1)).all (nu f r way)&&zt f r way)
theorem adK{f:aA}(hF:vQ f){b:Int}{r:Nat}{way:List Int}:Ad f b r way=oJ f b r way:=by
 unfold Ad oJ;by_cases hc:way.length=0\/1200<way.length\/way.getD 0 0≠b
 .rw[if_pos hc,if_pos hc]
 rw[if_neg hc,if_neg hc]
 have key:(List.range way.length).all (mv f way)=true->(∀ i,i+1<way.length->way.getD (i+1) 0∈iN f (way.getD i 0).toNat)->gn f r none way=((List.range (way.length - 1)).all (fun i=>nK f r (way.getD i 0) (way.getD (i+1) 0))&&zt f r way):=fun C hS=>by
  have hs:=Qg hS;cases way with
  |nil=>exact absurd (.inl rfl) hc
  |cons b0 t=>
   have h0:=bJ.1 C 0 oS;unfold mv at h0;rw[aO] at h0;have hw:=nV.1 h0.1;rw[List.getD_cons_zero] at hw;obtain⟨bn,rfl⟩:=cN hw.1;rw[aba hF oG hs,Qf];rfl
 have U:(List.range (way.length - 1)).all (nu f r way)=true↔(∀ i,i+1<way.length->way.getD (i+1) 0∈iN f (way.getD i 0).toNat)/\(List.range (way.length - 1)).all (fun i=>nK f r (way.getD i 0) (way.getD (i+1) 0))=true:=by
  rw[bJ,bJ];constructor
  .intro h;refine⟨fun i hi=>?_,fun i hi=>?_⟩
   .have:=h i oP;unfold nu at this;rw[aO] at this;exact jD.1 this.1
   .have:=h i hi;unfold nu at this;rw[aO] at this;exact this.2
  .rintro⟨h1,h2⟩ i hi;unfold nu;rw[aO];exact⟨jD.2 (h1 i (by simp at hi;omega)),h2 i hi⟩
 rw[Bool.eq_iff_iff];simp only[aO];unfold D8;constructor
 .rintro⟨C,J,hf⟩;obtain⟨hS,J⟩:=U.1 J;refine⟨bJ.2 fun i hi=>?_,by rw[key C hS,J,hf];rfl⟩;have h1:=bJ.1 C i hi;unfold mv at h1;rw[aO] at h1;unfold oc;rw[aO,aO,Bool.or_eq_true];refine⟨h1.1,h1.2,?_⟩;cases i with
  |zero=>exact .inl rfl
  |succ i=>exact .inr (jD.2 (hS i (by simpa using hi)))
 .rintro⟨C,hf⟩
  have X:(List.range way.length).all (mv f way)=true:=bJ.2 fun i hi=>by
   have h1:=bJ.1 C i hi;unfold oc at h1;rw[aO,aO] at h1;unfold mv;rw[aO];exact⟨h1.1,h1.2.1⟩
  have hS:∀ i,i+1<way.length->way.getD (i+1) 0∈iN f (way.getD i 0).toNat:=fun i hi=>by
   have h1:=bJ.1 C (i+1) (by simpa using hi);unfold oc at h1;rw[aO,aO,Bool.or_eq_true] at h1;rcases h1.2.2 with h|h
   .simp at h
   .exact jD.1 h
  rw[key X hS,aO] at hf;exact⟨X,U.2 ⟨hS,hf.1⟩,hf.2⟩
end Go.Argus
section
open Go Go.Abs Go.Proofs Go.Argus
namespace Go.Argus
def k9(f:aA)(b r:Int):Int:=if dS f=0 then(if pW f b r then 0 else 1) else dS f
theorem abA(f:aA)(b r:Int):k9 f b r=if Bc f [b]=0/\(r<0\/f.aj.length<=r) then 1 else Bc f [b]:=by
 have:([b].all (fun x=>decide (0<=x)&&decide (x<(f.blocks.length:Int)))=true)↔jf f.blocks.length b=true:=by
  rw[nV];simp
 have C:pW f b r↔jf f.blocks.length b=true/\0<=r/\r<f.aj.length:=Iff.rfl;unfold k9 Bc;by_cases hc:dS f=0
 .rw[if_pos hc,if_pos hc];by_cases hb:jf f.blocks.length b=true
  .rw[if_pos (this.2 hb)];by_cases hr:0<=r/\r<f.aj.length
   .rw[if_pos (C.2 ⟨hb,hr⟩),if_neg oG]
   .rw[if_neg (fun h=>hr (C.1 h).2),if_pos oG]
  .rw[if_neg (fun h=>hb (C.1 h).1),if_neg (fun h=>hb (this.1 h)),if_neg oS]
 .rw[if_neg hc,if_neg hc,if_neg (fun h=>hc h.1)]
theorem IM(l:List Int)(v:Int):zF l v=dJ l v:=by rw[Bool.eq_iff_iff,Py,jD]
def uf(r:Int):List a7->Bool->Bool×Bool
 |[],e=>(true,e)
 |y::t,e=>if dJ (bU y) r=true then(false,true) else if(bT y==r)=true then(false,false) else uf r t e
theorem N9(r:Int):∀ (l:List a7) (e:Bool),(uf r l e).2=xD r l e
 |[],_=>rfl
 |y::t,e=>by
  unfold uf xD;split
  .rfl
  .split
   .rfl
   .exact N9 r t e
def D6(x:bB)(r:Int):D:=.tup [B (uf r (rC x) (dJ (bS x.fin) r)).1,B (rJ x r)]
def uE(f:aA)(b r:Int):D:=if k9 f b r=0 then .tup [B (rX f b.toNat r.toNat),I 0] else .tup [B false,I (k9 f b r)]
theorem abB{f:aA}{b r:Int}(h:k9 f b r=0):dS f=0/\pW f b r:=by
 unfold k9 at h;split at h
 .split at h
  .exact⟨oN,oN⟩
  .cases h
 .rename_i h1;exact absurd h h1
theorem Jj{f:aA}{b r:Int}:k9 f b r=0↔dS f=0/\pW f b r:=⟨abB,fun⟨h1,h2⟩=>by unfold k9;rw[if_pos h1,if_pos h2]⟩
theorem acD{f:aA}(C:jl f)(b r:Nat):rX f b r=true↔ky f b=true/\lB f r b:=JS C r b
theorem acE(f:aA)(b r:Int):Tr (uE f b r):=by
 unfold uE;split<;>exact .tup (.cons (.s _) (.cons (.s _) .nil))
theorem NA{P:Nat->Bool}{n:Nat}(h:∀ i,i<n->P i=true):(List.range n).all P=true:=bJ.2 fun i hi=>h i (List.mem_range.1 hi)
theorem abD(f:aA)(b r:Int)(way:List Int):∃ x e,oI f b r way=.tup [B x,I e]:=by
 unfold oI;split
 .split<;>exact⟨_,_,rfl⟩
 .exact⟨_,_,rfl⟩
end Go.Argus
namespace Go.Proofs.Tryz.K
set_option maxRecDepth 10000
theorem yw{f:aA}{b r:Int}(U:uw f)(X:∀ b∈f.blocks,b.fin.aH.length<=9):PCall prog 74 [.agg (aD f),I b,I r] (I (k9 f b r)):=by
 have HU:=HU (l:=[b]) U X oS;have J:∀ {m:Mem},m 1=some (.cells [I b] 3)->Sns prog [1] m [.agg (aD f),.rs 1 0 1] [.agg (aD f),aB [b]]:=fun hm=>⟨cU (.agg (fu f)),GN hm oS (by rw[c3];rfl) (.cons (.s _) .nil),trivial⟩
 refine bc ahp (.cons (.agg (fu f)) (.cons (.s _) (.cons (.s _) .nil))) (.s _) ?_;rw[abA];rw[ahq];generalize Bc f [b]=e at HU ⊢;refine ws ?_;refine af ?_;refine ab (aw ?_);refine au ?_;refine adu HU rfl (J rfl) rfl ak ?_;refine SS ?_;refine ab (aI (bw [(0,aD f,26)] eH (l:=[(2,I r),(3,.pt (aD f)),(7,I e)]) eH) (aC (ao ?_)));by_cases he:e=0
 .have cM:(e==0)=true:=by simp[he]
  by_cases hr:r<0
  .have nB:decide (r<0)=true:=decide_eq_true hr;rw[if_pos ⟨he,.inl hr⟩];refine aE ?_;refine aJ ?_;refine ab (gU (ao ?_));refine SS ?_;refine er ?_;refine af ?_;exact ab (ax rfl rfl)
  .have nB:decide (r<0)=false:=decide_eq_false hr;by_cases C:(f.aj.length:Int)<=r
   .have uD:decide ((f.aj.length:Int)<=r)=true:=decide_eq_true C;rw[if_pos ⟨he,.inr C⟩];refine aE ?_;refine aJ ?_;refine ab (cH rfl (fun _=>ao ?_) fun h=>(by revert h;simp));refine SS ?_;refine er ?_;refine af ?_;exact ab (ax rfl rfl)
   .rw[if_neg oG];refine aE ?_;refine aJ ?_;refine ab (cH rfl (fun h=>(by revert h;simp;omega)) fun _=>b7 (ao ?_));refine af ?_;exact ab (ax rfl rfl)
 .have cM:(e==0)=false:=by simp[he]
  rw[if_neg (fun h=>he h.1)];refine aE ?_;refine aJ ?_;refine ab (hP (b7 (ao ?_)));refine af ?_;exact ab (ax rfl rfl)
theorem tv{f:aA}{b:Nat}{r:Int}{y:Argus.bB}(hx:f.blocks[b]? =some y)(hl:y.ins.length<=100000):PCall prog 78 [.agg (aD f),I b,I r] (B (dW y r)):=by
 have py:=py hx hl;refine bc ahr (.cons (.agg (fu f)) (.cons (.s _) (.cons (.s _) .nil))) (Tr.s _) ?_;rw[ahs];have xO:=CK y;refine aw ?_;refine af ?_;refine ab (aI (bw [(0,aD f,26)] eH (l:=[(1,I b),(2,I r),(3,.pt (aD f))]) eH) (aC (aw ?_)));refine SS ?_
 refine ab (bV (fun s=>Ghost prog s ⟨az [],fun _=>none,1⟩/\dW y r=false) (cI (α:=Nat) (fun i=>⟨az [(1,I b),(2,I r),(3,.pt (aD f)),(7,I i)],fun _=>none,1⟩)
  (fun i=>i<=(cg y).length/\∀ j C,j<i->(cg y)[j]? =some C->¬ C.to=r) (fun i=>(cg y).length - i) 0 (aq eH) ⟨Nat.zero_le _,fun j C hj=>absurd hj (Nat.not_lt_zero _)⟩ ?_) ?_)
 .rintro i ⟨hi,hinv⟩;refine au ?_;refine cl py ?_;refine SS ?_;refine ab ⟨_,rfl,fun h=>?_,fun h=>?_⟩
  .have fB:i<(cg y).length:=by simpa using h
   obtain⟨C,HV,J,_⟩:=GS fB;have J:(cg y)[i]? =some C:=J;refine ws ?_;by_cases X:C.to=r
   .have cM:(C.to==r)=true:=by simp[X]
    have s4:dW y r=true:=List.any_eq_true.2 ⟨C,cx J,cM⟩;refine aE ?_;refine au ?_;refine ab (av rfl (fun h=>ao ?_) fun h=>oH);refine SS ?_;refine ab (aT (bR (aL (ax (d:=B true) rfl ?_))));rw[s4]
   .have cM:(C.to==r)=false:=by simp[X]
    refine aE ?_;refine au ?_;refine ab (av rfl (fun h=>oH) fun h=>ct ?_);refine au ?_;refine ab (aK (i+1) (aq eH) ⟨oG,fun j w hj U=>?_⟩ oG);by_cases e:j=i
    .subst e;rw[J] at U;cases U;exact X
    .exact hinv j w oG U
  .have bh:¬ i<(cg y).length:=by simpa using h
   refine⟨fU (l:=[]) trivial,?_⟩;unfold dW;rw[List.any_eq_false];intro C hz;obtain⟨j,hj⟩:=dt hz;have:=hinv j C (by have:=(bL.1 hj).1;omega) hj;simpa using this
 .rintro s ⟨hg,ht⟩;refine⟨_,hg,ao ?_⟩;refine SS ?_;refine ab (ax (d:=B false) rfl ?_);rw[ht]
theorem Qv{α:Type}{l:List α}{i:Nat}{y:α}(h:l[i]? =some y):l.drop i=y::l.drop (i+1):=by
 obtain⟨hi,e⟩:=bL.1 h;rw[List.drop_eq_getElem_cons hi,e]
theorem EW{f:aA}{b:Nat}{r:Int}{x:Argus.bB}(hx:f.blocks[b]? =some x)(hl:x.ins.length<=100000):PCall prog 79 [.agg (aD f),I b,I r] (B (qh x r)):=by
 have py:=py hx hl;refine bc aht (.cons (.agg (fu f)) (.cons (.s _) (.cons (.s _) .nil))) (Tr.s _) ?_;rw[ahu];have X:=CK x;have U:qh x r=(x.ins.drop (cg x).length).all fun y=>bT y !=r:=rfl;generalize (cg x).length=p0 at py X U;refine aw ?_;refine af ?_;refine ab (aI (bw [(0,aD f,26)] eH (l:=[(1,I b),(2,I r),(3,.pt (aD f))]) eH) (aC (aw ?_)));refine af ?_;refine cl py ?_;refine SS ?_
 refine ab (bV (fun s=>Ghost prog s ⟨az [],fun _=>none,1⟩/\qh x r=true) (cI (α:=Nat) (fun i=>⟨az [(1,I b),(2,I r),(3,.pt (aD f)),(7,I i)],fun _=>none,1⟩)
  (fun i=>i<=x.ins.length/\qh x r=(x.ins.drop i).all fun y=>bT y !=r) (fun i=>x.ins.length - i) p0 (aq eH) ⟨X,U⟩ ?_) ?_)
 .clear U;rintro i ⟨hi,hinv⟩;refine aE ?_;refine ab ⟨_,rfl,fun h=>?_,fun h=>?_⟩
  .have fB:i<x.ins.length:=by simpa using h
   obtain⟨J,hz⟩:∃ J,x.ins[i]? =some J:=⟨_,aG fB⟩
   rw[Qv hz,List.all_cons] at hinv;have iq:=iq (x:=J);refine ws ?_;generalize bT J=w at iq hinv;by_cases C:w=r
   .have cM:(w==r)=true:=by simp[C]
    refine aE ?_;refine cl iq ?_;refine af ?_;refine ab (av rfl (fun h=>ao ?_) fun h=>oH);refine SS ?_;refine ab (aT (bR (aL (ax (d:=B false) rfl ?_))));rw[hinv,C];simp
   .have cM:(w==r)=false:=by simp[C]
    have aM:(w !=r)=true:=by simp[C]
    rw[aM,Bool.true_and] at hinv;refine aE ?_;refine cl iq ?_;refine af ?_;refine ab (av rfl (fun h=>oH) fun h=>ct ?_);refine au ?_;exact ab (aK (i+1) (aq eH) ⟨oG,hinv⟩ oG)
  .have bh:¬ i<x.ins.length:=by simpa using h
   refine⟨fU (l:=[]) trivial,?_⟩;rw[hinv,List.drop_eq_nil_of_le oG];rfl
 .rintro s ⟨hg,ht⟩;refine⟨_,hg,ao ?_⟩;refine SS ?_;refine ab (ax (d:=B true) rfl ?_);rw[ht]
theorem B4{f:aA}{b:Nat}{r:Int}{x:Argus.bB}(hx:f.blocks[b]? =some x)(hl:x.ins.length<=100000)(z9:∀ y∈x.ins,y.op=10\/y.op=38->y.args.length<=1000)
 (h5:x.fin.kind=5->x.fin.ins.op=10\/x.fin.ins.op=38->x.fin.ins.args.length<=1000) (h6:x.fin.kind=6\/x.fin.kind=7->x.fin.args.length<=1000):PCall prog 80 [.agg (aD f),I b,I r] (D6 x r):=by
 have py:=py hx hl;have rK:=rK (x:=x.fin) h5 h6;refine bc ahv (.cons (.agg (fu f)) (.cons (.s _) (.cons (.s _) .nil))) (.tup (.cons (.s _) (.cons (.s _) .nil))) ?_;rw[ahw];have xO:=CK x
 have U:D6 x r=.tup [B (uf r (x.ins.drop (cg x).length) (dJ (bS x.fin) r)).1,B (uf r (x.ins.drop (cg x).length) (dJ (bS x.fin) r)).2]:=by
  rw[N9];rfl
 generalize (cg x).length=p0 at py xO U;have gk:=gk (l:=bS x.fin) (v:=r);rw[IM] at gk;generalize dJ (bS x.fin) r=he at gk U;refine aw ?_;refine au ?_;refine ab (aI (bw [(0,aD f,26)] eH (l:=[(1,I b),(2,I r),(3,.pt (aD f))]) eH) (aC (aw ?_)));refine af ?_;refine cl py ?_;refine SS ?_
 refine ab (bV (fun s=>(∃ nx,Ghost prog s ⟨az [(1,I b),(2,I r),(3,.pt (aD f))],fun _=>none,nx⟩)/\D6 x r=.tup [B true,B he]) (cI (α:=Nat×Nat) (fun i=>⟨az [(1,I b),(2,I r),(3,.pt (aD f)),(8,I i.1)],fun _=>none,i.2⟩)
  (fun i=>i.1<=x.ins.length/\D6 x r=.tup [B (uf r (x.ins.drop i.1) he).1,B (uf r (x.ins.drop i.1) he).2]) (fun i=>x.ins.length - i.1) (p0,1) (aq eH) ⟨xO,U⟩ ?_) ?_)
 .clear U;rintro⟨i,nx⟩ ⟨hi,hinv⟩;dsimp only at hi hinv ⊢;refine aE ?_;refine ab ⟨_,rfl,fun h=>?_,fun h=>?_⟩
  .have fB:i<x.ins.length:=by simpa using h
   obtain⟨C,hz⟩:∃ C,x.ins[i]? =some C:=⟨_,aG fB⟩
   rw[Qv hz,uf] at hinv;have iq:=iq (x:=C);have lT:=lT (x:=C) (z9 C (cx hz));have J:=K.gk (l:=bU C) (v:=r);rw[IM] at J;refine aw ?_;generalize dJ (bU C) r=hr at J hinv;generalize bU C=rz at lT J;generalize bT C=w at iq hinv;refine aE ?_;refine af ?_;refine ab (aI (bw [(nx,a9 C,66)] ⟨up_same _ _ _,trivial⟩ (l:=[(1,I b),(2,I r),(3,.pt (aD f)),(8,I i),(9,.pt (a9 C))]) ⟨rfl,rfl,rfl,rfl,(show sub (fz0 nx (a9 C) (prog.cellsOf 66)) (.rp nx 0)=_ from lP),trivial⟩) (aC (ao ?_)));have gk:=J;cases hr with
   |true=>
    refine SS ?_;refine cl lT ?_;refine SS ?_;refine cl gk ?_;refine ab (gU (aC (ao ?_)));refine af ?_;refine ab (cK (bR (aL (dN rfl rfl ?_))));rw[hinv];rfl
   |false=>
    rw[if_neg oS] at hinv;refine SS ?_;refine cl lT ?_;refine SS ?_;refine cl gk ?_;refine ab (hP (b7 (ao ?_)));by_cases X:w=r
    .have cM:(w==r)=true:=by simp[X]
     refine SS ?_;refine cl iq ?_;refine af ?_;refine ab (av rfl (fun h=>ao ?_) fun h=>oH);refine af ?_;refine ab (aT (bR (aL (dN rfl rfl ?_))));rw[hinv,if_pos cM];rfl
    .have cM:(w==r)=false:=by simp[X]
     rw[if_neg (by rw[cM];simp)] at hinv;refine SS ?_;refine cl iq ?_;refine af ?_;refine ab (av rfl (fun h=>oH) fun h=>ct ?_);refine au ?_;exact ab (aK (i+1,nx+1) (aq eH) ⟨oM,hinv⟩ oM)
  .have bh:¬ i<x.ins.length:=by simpa using h
   refine⟨⟨nx,aq eH⟩,?_⟩;rw[hinv,List.drop_eq_nil_of_le oG];rfl
 .rintro s ⟨⟨nx,hg⟩,ht⟩;refine⟨_,hg,ao ?_⟩;rw[ht];refine bK ?_;refine cl rK ?_;refine SS ?_;refine cl gk ?_;refine af ?_;exact ab (dN rfl rfl rfl)
theorem B5{f:aA}{b r:Int}(hs:uw f)(X:∀ b∈f.blocks,b.fin.aH.length<=9):PCall prog 29 [.agg (aD f),I b,I r] (uE f b r):=by
 have yw:=yw (b:=b) (r:=r) hs X;refine bc ahx (.cons (.agg (fu f)) (.cons (.s _) (.cons (.s _) .nil))) (acE f b r) ?_;rw[ahy];have uZ:=Jj (f:=f) (b:=b) (r:=r);unfold uE;generalize k9 f b r=e at yw uZ ⊢;refine aw ?_;refine au ?_;refine ab (aI (bw [(0,aD f,26)] eH (l:=[(1,I b),(2,I r),(3,.pt (aD f))]) eH) (ao ?_));refine au ?_;refine cl yw ?_;refine SS ?_;refine ab (aC (ao ?_));by_cases he:e=0
 .have fQ:(e !=0)=false:=by simp[he]
  rw[if_pos he];obtain⟨U,ha⟩:=uZ.1 he;have hF:=Bo (Cu U);have B6:=hF.ok.lC;have Wh:=hF.ok.aj;have fJ:=nV.1 ha.1;obtain⟨C,rfl⟩:=cN fJ.1;obtain⟨J,rfl⟩:=cN ha.2.1;have z':J<f.aj.length:=by have:=ha.2.2;omega
  have u4:C<f.blocks.length:=by omega
  rw[bx,bx];have Aa:=Aa (Cu U) X;unfold zs at Aa;rw[Qw,Qw] at Aa;have hx:=abC (R:=f.aj.length) (M:=rX f) u4;have hy:((List.range f.aj.length).map (rX f C))[J]? =some (rX f C J):=by simp[z']
  generalize ((List.range f.aj.length).map (rX f C))=Rb at hx hy;generalize rX f C J=v at hy ⊢;generalize ((List.range f.blocks.length).map fun b=>(List.range f.aj.length).map (rX f b))=MI at Aa hx;generalize ((List.range f.blocks.length).map fun b=>(List.range f.aj.length).map (MM f b))=MO at Aa;refine af ?_;refine ab (hP (b7 (aw ?_)));refine SS ?_;refine cl Aa ?_;refine af ?_;refine ab (aI (bw [(1,[.sl (MI.map b9) MI.length,.sl (MO.map b9) MO.length],104)] eH (l:=[(1,I C),(2,I J),(9,.pt [.sl (MI.map b9) MI.length,.sl (MO.map b9) MO.length])]) eH) (ao ?_));refine bI ?_;refine af ?_;exact ab (dN rfl rfl rfl)
 .have fQ:(e !=0)=true:=by simp[he]
  rw[if_neg he];refine af ?_;refine ab (gU ?_);refine aC (ao ?_);refine au ?_;exact ab (cK (dN rfl rfl rfl))
set_option maxHeartbeats 2000000 in
theorem Ab{f:aA}{b r:Int}{way:List Int}(hs:uw f)(hw:∀ b∈f.blocks,b.fin.aH.length<=9):PCall prog 27 [.agg (aD f),I b,I r,aB way] (oI f b r way):=by
 have yw:=yw (b:=b) (r:=r) hs hw;have aZ:∀ a∈[D.agg (aD f),I b,I r,aB way],Tr a:=.cons (.agg (fu f)) (.cons (.s _) (.cons (.s _) (.cons (dg _) .nil)));refine m8 UO.he aZ fun fF=>?_;have jA:=(fF (aB way) oS).sl.1;unfold maxLen at jA;refine bc UO aZ (KS f b r way) ?_;rw[ahz];have uZ:=Jj (f:=f) (b:=b) (r:=r)
 have MN:k9 f b r≠0->oI f b r way=.tup [B false,I (k9 f b r)]:=fun h=>by
  unfold oI;unfold k9 at h ⊢;by_cases h1:dS f=0
  .rw[if_pos h1] at h ⊢;by_cases h2:pW f b r
   .rw[if_pos h2] at h;exact absurd rfl h
   .rw[if_neg h2,if_pos h1,if_neg h2]
  .rw[if_neg h1,if_neg h1]
 generalize k9 f b r=e at yw uZ MN;refine aw ?_;refine au ?_;refine ab (aI (bw [(0,aD f,26)] eH (l:=[(1,I b),(2,I r),(3,aB way),(4,.pt (aD f))]) eH) (ao ?_));refine au ?_;refine cl yw ?_;refine SS ?_;refine ab (aC (ao ?_));by_cases he:¬ e=0
 .have fQ:(e !=0)=true:=by simp[he]
  rw[MN he];refine af ?_;refine ab (gU ?_);refine aC (ao ?_);refine au ?_;exact ab (cK (dN rfl rfl rfl))
 have he:e=0:=Classical.not_not.1 he;have fQ:(e !=0)=false:=by simp[he]
 obtain⟨cW,ha⟩:=uZ.1 he;have BW:=Cu cW;have hF:=Bo BW;have J:=hF.ok;have Ac:∀ C:Nat,Ad f b C way=oJ f b C way:=fun C=>adK hF;unfold oI;rw[if_pos cW,if_pos ha];clear MN uZ;have B6:=J.lC;have Wh:=J.aj;have hg:=Lw J;have fJ:=nV.1 ha.1;obtain⟨C,rfl⟩:=cN ha.2.1;rw[<- Ac C];have oK:=UP BW hw;have Hd:=fun(l:List Int) (v:Int)=>gk (l:=l) (v:=v);have BD:=fun {k:Nat} (h:k<f.blocks.length)=>Ou BW h;have wA:=wA hF hw (w:= -1);have cy:=vn (w:= -1) hg.to hg.pos;have qi:∀ b,ky f b=(cS (fG f) f.blocks.length (-1)).getD b false:=fun _=>rfl;generalize j6 f.blocks=AL at oK BD;generalize cS (fG f) f.blocks.length (-1)=CN at wA cy qi;refine af ?_;refine ab (hP (b7 (ao ?_)));clear fQ;refine SS ?_;refine cl wA ?_;refine SS ?_;refine er ?_;refine SS ?_;refine cl oK ?_;refine SS ?_;refine ab (aC (ao ?_));have xP:(way.length=0\/1200<way.length\/way.getD 0 0≠b)->D.tup [B false,I 0]=.tup [B (Ad f b C way),I 0]:=fun h=>by rw[Ad,if_pos h]
 by_cases hz:way.length=0
 .have rY:way=[]:=List.length_eq_zero_iff.1 hz;have xP:=xP (.inl hz);subst rY;refine aJ ?_;(iterate 3 refine z fun _ _=>?_);refine af ?_;(iterate 5 refine z fun _ _=>?_);refine SS ?_;refine ab (gU ?_);refine aC (ao ?_);refine af ?_;exact ab (cK (dN rfl rfl xP))
 have cM:((way.length:Int)==0)=false:=by rw[ib];exact decide_eq_false oG
 by_cases hl:1200<way.length
 .have ja:decide ((1200:Int)<(way.length:Int))=true:=by simp;omega
  refine aE ?_;(iterate 5 refine z fun _ _=>?_);refine SS ?_;refine ab (gU ?_);refine aC (ao ?_);refine af ?_;exact ab (cK (dN rfl rfl (xP (.inr (.inl hl)))))
 have ja:decide ((1200:Int)<(way.length:Int))=false:=by simp;omega
 have Ae:∀ i,i<way.length->way[i]? =some (way.getD i 0):=fun i hi=>by rw[bF,aG hi];rfl
 have rZ:=Ae 0 oG;by_cases kI:¬ way.getD 0 0=b
 .have fQ:(way.getD 0 0 !=b)=true:=by simpa using kI
  have xP:=xP (.inr (.inr kI));generalize way.getD 0 0=x0 at rZ fQ;refine aE ?_;refine bK ?_;refine ab (gU ?_);refine aC (ao ?_);refine af ?_;exact ab (cK (dN rfl rfl xP))
 have kI:way.getD 0 0=b:=Classical.not_not.1 kI
 have hrB:Ad f b C way=((List.range way.length).all (mv f way)&&((List.range (way.length - 1)).all (nu f C way)&&zt f C way)):=by
  rw[Ad,if_neg (by rintro(h|h|h);exact hz h;exact hl h;exact h kI)]
 clear xP Ac;rw[hrB];have fQ:(way.getD 0 0 !=b)=false:=by simpa using kI
 have fI:=(show way.getD 0 0=b from kI)
 generalize way.getD 0 0=x0 at rZ fQ;refine aE ?_;refine bK ?_;refine ab (hP (b7 (aC (aw ?_))));clear cM ja fQ rZ;refine SS ?_;have Lx:∀ i,mv f way i=(jf f.blocks.length (way.getD i 0)&&CN.getD (way.getD i 0).toNat false):=fun i=>by unfold mv;rw[qi]
 refine ab (bV (fun s=>Ghost prog s ⟨az [(2,I C),(3,aB way),(4,.pt (aD f)),(12,bG AL)],fun _=>none,1⟩/\∀ i,i<way.length->mv f way i=true) (cI (α:=Nat)
  (fun k=>⟨az [(2,I C),(3,aB way),(4,.pt (aD f)),(11,b9 CN),(12,bG AL),(13,I k)],fun _=>none,1⟩)
  (fun k=>k<=way.length/\∀ i,i<k->mv f way i=true) (fun k=>way.length - k) 0 (aq eH) ⟨Nat.zero_le _,fun i h=>absurd h (Nat.not_lt_zero _)⟩ ?_) ?_)
 .rintro k ⟨hk,hinv⟩;refine aJ ?_;refine ab ⟨_,rfl,fun h=>?_,fun h=>?_⟩
  .have ap:k<way.length:=by simpa using h
   have hx:=Ae k ap;have tw:=Lx k;have iL:mv f way k=false->D.tup [B false,I 0]=.tup [B ((List.range way.length).all (mv f way)&&((List.range (way.length - 1)).all (nu f C way)&&zt f C way)),I 0]:=fun h=>by rw[kO ap h,Bool.false_and]
   have xE:mv f way k=true->∀ i,i<k+1->mv f way i=true:=fun h i hi=>by
    by_cases e:i=k
    .subst e;exact h
    .exact hinv i oG
   generalize mv f way k=ok at tw iL xE;generalize way.getD k 0=x at hx tw;refine c8 YZ ?_;by_cases rZ:x<0
   .have nB:decide (x<0)=true:=decide_eq_true rZ
    have rY:jf f.blocks.length x=false:=by
     refine Bool.eq_false_iff.2 fun h=>?_;have:=nV.1 h;omega
    rw[rY,Bool.false_and] at tw;refine bK ?_;(iterate 8 refine z fun _ _=>?_);refine af ?_;(iterate 8 refine z fun _ _=>?_);refine SS ?_;refine a8 bf (k8 (ao ?_));refine af ?_;exact ab (aT (bR (aL (dN rfl rfl (iL tw)))))
   have nB:decide (x<0)=false:=decide_eq_false rZ;obtain⟨xn,rfl⟩:=cN (show 0<=x by omega);rw[bx] at tw;by_cases Wi:xn<f.blocks.length
   .have uD:decide ((f.blocks.length:Int)<=(xn:Int))=false:=decide_eq_false oG;have lY:jf f.blocks.length (xn:Int)=true:=nV.2 ⟨oG,oG⟩;rw[lY,Bool.true_and] at tw;have hc:=Qx (l:=CN) (i:=xn) oG;generalize CN.getD xn false=cn at hc tw;cases cn with
    |false=>
     refine aE ?_;refine aE ?_;refine dk ?_;refine a8 bf (k8 (ao ?_));refine af ?_;exact ab (aT (bR (aL (dN rfl rfl (iL tw)))))
    |true=>
     refine aE ?_;refine aE ?_;refine dk ?_;refine a8 bf (pf (ct ?_));refine au ?_;exact ab (aK (k+1) (aq eH) ⟨oG,xE tw⟩ oG)
   .have uD:decide ((f.blocks.length:Int)<=(xn:Int))=true:=decide_eq_true oG
    have rY:jf f.blocks.length (xn:Int)=false:=by
     refine Bool.eq_false_iff.2 fun h=>?_;have:=nV.1 h;omega
    rw[rY,Bool.false_and] at tw;refine aE ?_;refine dk ?_;(iterate 8 refine z fun _ _=>?_);refine SS ?_;refine a8 bf (k8 (ao ?_));refine af ?_;exact ab (aT (bR (aL (dN rfl rfl (iL tw)))))
  .have bh:¬ k<way.length:=by simpa using h
   exact⟨aq eH,fun i hi=>hinv i oG⟩
 rintro s ⟨mP,hA⟩;have EX:(List.range way.length).all (mv f way)=true:=NA hA;rw[EX,Bool.true_and]
 have bl:∀ i,i<way.length->∃ n:Nat,way.getD i 0=n/\n<f.blocks.length:=fun i hi=>by
  have:=hA i hi;rw[Lx,aO] at this;have:=nV.1 this.1;obtain⟨n,e⟩:=cN this.1;exact⟨n,e,oG⟩
 clear Lx EX hA wA cy qi;have sW:∀ n,n<f.blocks.length->∃ x,f.blocks[n]? =some x/\x∈f.blocks/\bu f n=x:=fun n hn=>⟨f.blocks[n],aG hn,bO hn,iU (aG hn)⟩
 refine⟨_,mP,ao ?_⟩;have pw:((way.length:Nat):Int) - 1=((way.length - 1:Nat):Int)/\ -9223372036854775808<=((way.length - 1:Nat):Int)/\((way.length - 1:Nat):Int)<=9223372036854775807:=by omega
 refine aJ ?_;refine ab (aC (aw ?_));clear pw;obtain⟨m,hm⟩:∃ m,way.length=m+1:=⟨way.length - 1,oG⟩
 have zV:way.length - 1=m:=by omega
 rw[zV];refine SS ?_
 refine ab (bV (fun s=>Ghost prog s ⟨az [(2,I C),(3,aB way),(4,.pt (aD f)),(12,bG AL),(14,I m)],fun _=>none,1⟩/\∀ i,i<m->nu f C way i=true) (cI (α:=Nat)
  (fun k=>⟨az [(2,I C),(3,aB way),(4,.pt (aD f)),(12,bG AL),(14,I m),(15,I k)],fun _=>none,1⟩)
  (fun k=>k<=m/\∀ i,i<k->nu f C way i=true) (fun k=>m - k) 0 (aq eH) ⟨Nat.zero_le _,fun i h=>absurd h (Nat.not_lt_zero _)⟩ ?_) ?_)
 .clear mP;rintro k ⟨hk,hinv⟩;refine au ?_;refine ab ⟨_,rfl,fun h=>?_,fun h=>?_⟩
  .have ap:k<m:=by simpa using h
   have hx:=Ae k oG;have hy:=Ae (k+1) oG;obtain⟨X,EY,iS⟩:=bl k oG;obtain⟨cn,eK,cy⟩:=bl (k+1) oG;have iL:nu f C way k=false->D.tup [B false,I 0]=.tup [B ((List.range m).all (nu f C way)&&zt f C way),I 0]:=fun h=>by rw[kO ap h,Bool.false_and]
   have xE:nu f C way k=true->∀ i,i<k+1->nu f C way i=true:=fun h i hi=>by
    by_cases e:i=k
    .subst e;exact h
    .exact hinv i oG
   obtain⟨x,U,bM,B7⟩:=sW X iS
   have u6:nu f C way k=(dJ (fG f X) cn&&(!(lZ x.fin cn C)&&(!(dW x C)&&qh x C))):=by
    unfold nu nK;rw[EY,eK,bx,B7]
   generalize nu f C way k=ok at u6 iL xE;rw[EY] at hx;rw[eK] at hy;have wB:=hw x bM;have hlen:=(J.blk x bM).len;have gB:=gB U oG;rw[(hF.ed _ bM).2, <- CL U] at gB;have gk:=Hd (fG f X) cn;rw[IM] at gk;have oL:=oL (b:=(cn:Int)) (r:=(C:Int)) U oG;have tv:=tv (r:=(C:Int)) U hlen;have EW:=EW (r:=(C:Int)) U hlen;generalize dJ (fG f X) cn=q1 at gk u6;generalize lZ x.fin cn C=q2 at oL u6;generalize dW x C=q3 at tv u6;generalize qh x C=q4 at EW u6;generalize fG f X=nx at gB gk;refine c8 Y0 ?_;cases q1 with
   |false=>
    refine aV ?_;refine cl gB ?_;refine aV ?_;refine cl gk ?_;refine af ?_;(iterate 12 refine z fun _ _=>?_);refine af ?_;(iterate 7 refine z fun _ _=>?_);refine af ?_;(iterate 8 refine z fun _ _=>?_);refine SS ?_;refine a8 bf (k8 (ao ?_));refine af ?_;exact ab (aT (bR (aL (dN rfl rfl (iL u6)))))
   |true=>
   cases q2 with
   |true=>
    refine aV ?_;refine cl gB ?_;refine aV ?_;refine cl gk ?_;refine aE ?_;refine aJ ?_;refine gc oL ?_;refine af ?_;(iterate 7 refine z fun _ _=>?_);refine af ?_;(iterate 8 refine z fun _ _=>?_);refine SS ?_;refine a8 bf (k8 (ao ?_));refine af ?_;exact ab (aT (bR (aL (dN rfl rfl (iL u6)))))
   |false=>
   cases q3 with
   |true=>
    refine aV ?_;refine cl gB ?_;refine aV ?_;refine cl gk ?_;refine aE ?_;refine aJ ?_;refine gc oL ?_;refine bI ?_;refine gc tv ?_;refine af ?_;(iterate 8 refine z fun _ _=>?_);refine SS ?_;refine a8 bf (k8 (ao ?_));refine af ?_;exact ab (aT (bR (aL (dN rfl rfl (iL u6)))))
   |false=>
   cases q4 with
   |false=>
    refine aV ?_;refine cl gB ?_;refine aV ?_;refine cl gk ?_;refine aE ?_;refine aJ ?_;refine gc oL ?_;refine bI ?_;refine gc tv ?_;refine bI ?_;refine gc EW ?_;refine af ?_;refine a8 bf (k8 (ao ?_));refine af ?_;exact ab (aT (bR (aL (dN rfl rfl (iL u6)))))
   |true=>
    refine aV ?_;refine cl gB ?_;refine aV ?_;refine cl gk ?_;refine aE ?_;refine aJ ?_;refine gc oL ?_;refine bI ?_;refine gc tv ?_;refine bI ?_;refine gc EW ?_;refine af ?_;refine a8 bf (pf (ct ?_));refine au ?_;exact ab (aK (k+1) (aq eH) ⟨oG,xE u6⟩ oG)
  .have bh:¬ k<m:=by simpa using h
   exact⟨aq eH,fun i hi=>hinv i oG⟩
 clear mP;rintro s ⟨mP,hB⟩;rw[NA hB,Bool.true_and];clear hB;have hx:=Ae m oG;obtain⟨X,EY,iS⟩:=bl m oG;obtain⟨x,U,bM,B7⟩:=sW X iS;have hlen:=(J.blk x bM).len;have B4:=B4 (r:=(C:Int)) U hlen (fun y hy ho=>by have:=((J.blk x bM).ins y hy).ar ho;omega) (fun h5 ho=>by have:=(J.Ly _ bM h5).ar ho;omega) (fun h1=>by have:=(J.ends _ bM).fin.a2 h1;omega);have tv:=tv (r:=(C:Int)) U hlen
 obtain⟨Wj,He,Hf,oh⟩:∃ t,(m=0->t=false)/\(∀ j,m=j+1->t=nL x (jP f X) (way.getD j 0) C)/\zt f C way=((rJ x C&& !(dW x C))||t):=by
  refine⟨match (if m=0 then none else some (way.getD (m - 1) 0):Option Int) with|none=>false|some a=>nL x (jP f X) a C,fun h=>by rw[if_pos h],fun j h=>by rw[if_neg oG,show m - 1=j by omega],?_⟩;unfold zt rL;rw[show way.length - 2=m - 1 by omega,zV,EY,bx,B7]
 rw[oh];clear oh;rw[EY] at hx;unfold D6 at B4;generalize (uf (C:Int) (rC x) (dJ (bS x.fin) C)).1=u at B4;generalize rJ x C=rd at B4 ⊢;generalize dW x C=ph at tv ⊢;refine⟨_,mP,c8 Y1 ?_⟩;refine bK ?_;refine cl B4 ?_;refine aV ?_;refine a8 bf (aC (c8 Y2 ?_));cases rd with
 |false=>
  refine af ?_;(iterate 8 refine z fun _ _=>?_);refine SS ?_;refine a8 bf (hP (b7 (c8 Ov ?_)));cases rT:m with
  |zero=>
   subst rT;have ja:decide ((0:Int)<((0:Nat):Int))=false:=rfl;have eY:=He rfl;subst eY;refine au ?_;(iterate 13 refine z fun _ _=>?_);refine au ?_;refine a8 bf (dN rfl rfl ?_);rfl
  |succ j=>
   subst rT;have ja:decide ((0:Int)<((j+1:Nat):Int))=true:=by simp
   have pw:((j+1:Nat):Int) - 1=(j:Int)/\ -9223372036854775808<=(j:Int)/\(j:Int)<=9223372036854775807:=by omega
   have hp:=Ae j oG;obtain⟨pn,tx,g9⟩:=bl j oG;have eY:=Hf j rfl;rw[tx] at hp eY;have oO:=oO (a:=(pn:Int)) (r:=(C:Int)) U (BD iS) hlen (Jk J X) (fun zQ hz=>by rw[w7 iS];exact(J.xQ U hz).1);rw[<- eY] at oO;clear eY Hf He;refine aE ?_;refine bK ?_;refine gc oO ?_;refine au ?_;refine a8 bf (dN rfl rfl ?_);cases Wj<;>rfl
 |true=>
 cases ph with
 |true=>
  refine bI ?_;refine gc tv ?_;refine af ?_;refine a8 bf (hP (b7 (c8 Ov ?_)));cases rT:m with
  |zero=>
   subst rT;have ja:decide ((0:Int)<((0:Nat):Int))=false:=rfl;have eY:=He rfl;subst eY;refine au ?_;(iterate 13 refine z fun _ _=>?_);refine au ?_;refine a8 bf (dN rfl rfl ?_);rfl
  |succ j=>
   subst rT;have ja:decide ((0:Int)<((j+1:Nat):Int))=true:=by simp
   have pw:((j+1:Nat):Int) - 1=(j:Int)/\ -9223372036854775808<=(j:Int)/\(j:Int)<=9223372036854775807:=by omega
   have hp:=Ae j oG;obtain⟨pn,tx,g9⟩:=bl j oG;have eY:=Hf j rfl;rw[tx] at hp eY;have oO:=oO (a:=(pn:Int)) (r:=(C:Int)) U (BD iS) hlen (Jk J X) (fun zQ hz=>by rw[w7 iS];exact(J.xQ U hz).1);rw[<- eY] at oO;clear eY Hf He;refine aE ?_;refine bK ?_;refine gc oO ?_;refine au ?_;refine a8 bf (dN rfl rfl ?_);cases Wj<;>rfl
 |false=>
  refine bI ?_;refine gc tv ?_;refine af ?_;refine a8 bf (gU ?_);refine aC (ao ?_);refine af ?_;exact ab (cK (dN rfl rfl rfl))
theorem HW{f:aA}{b r:Int}{way:List Int}:PCall prog 26 [.agg (aD f),I b,I r,aB way] (oI f b r way):=by
 by_cases h:dS f=0
 .exact acF h
 .exact abE h
theorem ahA{f:aA}{b r:Int}:Bd prog 28 [.agg (aD f),I b,I r] (pz f b r):=by
 by_cases h:dS f=0
 .exact acG h
 .exact abF h
theorem abG{f:aA}{b r:Int}(hn:pA f=true){d:D}(hd:pz f b r d):(∃ e,d=.tup [.z,B false,I e]/\uE f b r=.tup [B false,I e])\/∃ way,d=.tup [aB way,B true,I 0]/\uE f b r=.tup [B true,I 0]/\oI f b r way=.tup [B true,I 0]:=by
 unfold pz at hd;by_cases J:dS f=0
 .rw[if_pos J] at hd;by_cases ha:jf f.blocks.length b=true/\0<=r/\r<f.aj.length
  .rw[if_pos ha] at hd;have X:pW f b r:=ha;have uZ:k9 f b r=0:=Jj.2 ⟨J,X⟩;have aY:=vC (Cu J)
   have ahB:f.blocks.length<=24:=by
    have:=abH hn;have:=aY.lC;omega
   have fJ:=nV.1 ha.1;obtain⟨C,rfl⟩:=cN fJ.1;obtain⟨U,rfl⟩:=cN ha.2.1;have hl:=acD aY C U;have Wl:uE f C U=.tup [B (rX f C U),I 0]:=by rw[uE,if_pos uZ,bx,bx]
   have hd:(ky f C=true/\lB f U C/\∃ way,d=.tup [aB way,B true,I 0]/\za f C U way)\/(¬ (ky f C=true/\lB f U C)/\d=.tup [.z,B false,I 0]):=by
    simpa only[bx,ky] using hd
   rcases hd with⟨hc,hL,way,rfl,EZ⟩|⟨ahC,rfl⟩
   .refine .inr ⟨way,rfl,?_,?_⟩
    .rw[Wl,hl.2 ⟨hc,hL⟩]
    .rw[oI,if_pos J,if_pos X,abI aY ahB oG hc EZ]
   .refine .inl ⟨0,rfl,?_⟩;rw[Wl];cases h:rX f C U with
    |false=>rfl
    |true=>exact absurd (hl.1 h) ahC
  .rw[if_neg ha] at hd;have X:¬ pW f b r:=ha;refine .inl ⟨1,hd,?_⟩;have:k9 f b r=1:=by rw[k9,if_pos J,if_neg X]
   rw[uE,this,if_neg oC]
 .rw[if_neg J] at hd;refine .inl ⟨dS f,hd,?_⟩;have:k9 f b r=dS f:=by rw[k9,if_neg J]
  rw[uE,this,if_neg J]
set_option maxHeartbeats 1000000 in
theorem k5{f:aA}{b r:Int}{l:List Int}(hs:uw f)(E0:PCall prog 17 [] (B true)):PCall prog 5 [.agg (aD f),I b,I r,aB l] (B true):=by
 have E1:=E1 (f:=f);have aZ:∀ a∈[D.agg (aD f),I b,I r,aB l],Tr a:=.cons (.agg (fu f)) (.cons (.s _) (.cons (.s _) (.cons (dg _) .nil)));refine bc ok5 aZ (Tr.s _) ?_;rw[sk5];have U:pA f=true->_:=Y3;have J:pA f=true->∀ d,pz f b r d->_:=fun h d hd=>abG h hd;generalize pA f=fb at E1 U J;refine aw ?_;refine af ?_;refine ab (aI (bw [(0,aD f,26)] eH (l:=[(1,I b),(2,I r),(3,aB l),(4,.pt (aD f))]) eH) (aC (ao ?_)));refine SS ?_;refine cl E1 ?_;refine aE ?_;refine dk ?_;refine ab (cH rfl (fun h=>?_) fun h=>b7 (ao ?_))
 .refine aC (ao ?_);refine cl E0 ?_;refine SS ?_;exact ab (cK (ax rfl rfl))
 have Wm:fb=true:=by revert h;cases fb<;>simp
 have hw:=U Wm;have J:=J Wm;clear h E1 U;have HW:=HW (f:=f) (b:=b) (r:=r) (way:=l);have UQ:=fun way=>Ab (f:=f) (b:=b) (r:=r) (way:=way) hs hw;have X:=X6 (P:=prog) (m:=fun _=>none) (nx:=1) (ahA (f:=f) (b:=b) (r:=r));have B5:=B5 (f:=f) (b:=b) (r:=r) hs hw;have Ab:=UQ l;obtain⟨x,e,C⟩:=abD f b r l;rw[C] at HW Ab;clear C;refine aJ ?_;refine cl HW ?_;refine aV ?_;refine er ?_;refine aJ ?_;refine cl Ab ?_;refine aV ?_;refine er ?_;refine au ?_;refine kZ X rfl dd fun d m' nx' hp=>?_;obtain⟨hd,rfl,rfl⟩:=hp;rcases J d hd with⟨e',rfl,mQ⟩|⟨way,rfl,mQ,C⟩
 .rw[mQ] at B5;refine SS ?_;refine J87 ?_;refine aV ?_;refine er ?_;refine au ?_;refine cl B5 ?_;refine aV ?_;refine ab (aC (ao ?_));refine af ?_;refine UR ?_;refine aE ?_;refine bK ?_;refine ab (cH rfl (fun h=>(by revert h;simp)) fun _=>b7 (aC (ao ?_)));refine af ?_;refine ab (gU ?_);refine aC (ao ?_);refine cl E0 ?_;refine SS ?_;refine ahD ?_;refine aJ ?_;exact ab (cK (ax rfl rfl))
 .rw[mQ] at B5;have Ab:=UQ way;rw[C] at Ab;refine dk ?_;refine er ?_;refine au ?_;refine cl B5 ?_;refine aV ?_;refine ab (aC (ao ?_));refine af ?_;refine UR ?_;refine aE ?_;refine bK ?_;refine ab (cH rfl (fun h=>(by revert h;simp)) fun _=>b7 (aC (ao ?_)));refine af ?_;refine ab (hP (b7 (ao ?_)));refine aJ ?_;refine cl Ab ?_;refine aV ?_;refine er ?_;refine cl E0 ?_;refine bI ?_;exact ab (ax rfl rfl)
end Go.Proofs.Tryz.K
namespace Go.Proofs.Tryz.K
theorem X7{f:aA}{b r:Int}{l:List Int}(C:uw f):PCall prog 5 [.agg (aD f),I b,I r,aB l] (B true):=k5 C E0
end Go.Proofs.Tryz.K
end
