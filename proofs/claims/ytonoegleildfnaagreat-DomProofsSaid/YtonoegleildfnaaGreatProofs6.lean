/- Part 6. -/
import Derived.Test.YtonoegleildfnaaGreatProofs5
set_option linter.all false
set_option maxHeartbeats 4000000
set_option maxRecDepth 10000
section
open Go Go.Abs Go.Proofs Go.Argus
namespace Go.Argus
def pZ(s:ay):Value:=.agg #[.int .i64 s.1,.bool s.2]
def mR(x y:ay):Value:=.agg #[.int .i64 x.1,.bool x.2,.int .i64 y.1,.bool y.2]
def eU(s:ay):List D:=[I s.1,B s.2]
def um(U:List (ay×ay)):List (Value×D):=U.map fun e=>(mR e.1 e.2,B true)
def lK(cm:List (ay×ay)):List (Value×D):=cm.map fun e=>(pZ e.1,.agg (eU e.2))
def p6(l:List ay):List D:=l.flatMap eU
@[simp] theorem aaH (s : ay) : (eU s).length = 2 := rfl
theorem JQ:∀ l:List ay,(p6 l).length=2*l.length
 |[]=>rfl
 |s::l=>by
  have:=JQ l;unfold p6 at this ⊢;rw[List.flatMap_cons,List.length_append,this,List.length_cons,aaH];omega
theorem aaI(l:List ay)(s:ay):p6 (l++[s])=p6 l++eU s:=by simp[p6]
theorem QY(s t:ay):veq (pZ s) (pZ t)=decide (s=t):=by
 obtain⟨a,x⟩:=s;obtain⟨b,y⟩:=t;rw[Bool.eq_iff_iff];simp[pZ,veq,veqs,veq1]
theorem acb(x y C J:ay):veq (mR x y) (mR C J)=decide ((x,y)=(C,J)):=by
 obtain⟨a,b⟩:=x;obtain⟨c,d⟩:=y;obtain⟨a',M⟩:=C;obtain⟨X,d'⟩:=J;rw[Bool.eq_iff_iff];simp[mR,veq,veqs,veq1,and_assoc]
theorem DR{x y:ay}:∀ {U:List (ay×ay)},((x,y)∈U->∃ i,lookD (mR x y) (um U)=some (i,B true)/\(um U).eraseIdx i=um (U.erase (x,y)))/\((x,y)∉U->lookD (mR x y) (um U)=none)
 |[]=>⟨fun h=>by simp at h,fun _=>rfl⟩
 |(a,b)::U=>by
  obtain⟨i1,i2⟩:=DR (x:=x) (y:=y) (U:=U);unfold um at i1 i2 ⊢;simp only[List.map_cons,lookD,acb];by_cases h:(a,b)=(x,y)
  .rw[if_pos (by simpa using h)];refine⟨fun _=>⟨0,rfl,?_⟩,fun hn=>absurd (by rw[h];simp) hn⟩;rw[h,List.erase_cons_head];rfl
  .rw[if_neg (by simpa using h)];refine⟨fun hm=>?_,fun hn=>?_⟩
   .have hm:(x,y)∈U:=by
     rcases List.mem_cons.1 hm with e|e
     .exact absurd e.symm h
     .exact e
    obtain⟨i,e1,e2⟩:=i1 hm;refine⟨i+1,by rw[e1];rfl,?_⟩;rw[List.eraseIdx_cons_succ,e2,List.erase_cons_tail (by simpa using h)];rfl
   .rw[i2 fun hm=>hn (by simp[hm])];rfl
theorem BY{P:Program}{t:TypeId}(C:zeroD P (melP P t)=B false)(x y:ay)(U:List (ay×ay)):gotD P t false (lookD (mR x y) (um U))=B (eh U x y):=by
 unfold eh;by_cases h:(x,y)∈U
 .obtain⟨i,e,_⟩:=DR.1 h;rw[e,decide_eq_true h];rfl
 .rw[DR.2 h,decide_eq_false h];simp[gotD,C]
theorem aeL{x y:ay}{U:List (ay×ay)}(h:(x,y)∉U):putD (mR x y) (B true) (um U)=um (U++[(x,y)]):=by
 unfold putD;rw[DR.2 h];simp[um]
theorem aeM{x y:ay}{U:List (ay×ay)}(h:(x,y)∈U):delD (mR x y) (um U)=um (U.erase (x,y)):=by
 obtain⟨i,e1,e2⟩:=DR.1 h;unfold delD;rw[e1];exact e2
theorem DJ{y:ay}:∀ {cm:List (ay×ay)},(y∈bY cm->∃ i x,lookD (pZ y) (lK cm)=some (i,.agg (eU x))/\(y,x)∈cm)/\(y∉bY cm->lookD (pZ y) (lK cm)=none)
 |[]=>⟨fun h=>by simp[bY] at h,fun _=>rfl⟩
 |(a,b)::cm=>by
  obtain⟨i1,i2⟩:=DJ (y:=y) (cm:=cm);unfold lK bY at i1 i2 ⊢;simp only[List.map_cons,lookD,QY];by_cases h:a=y
  .rw[if_pos (by simpa using h)];exact⟨fun _=>⟨0,b,rfl,by rw[h];simp⟩,fun hn=>absurd (by rw[h];simp) hn⟩
  .rw[if_neg (by simpa using h)];refine⟨fun hm=>?_,fun hn=>?_⟩
   .have hm:y∈cm.map (·.1):=by
     rcases List.mem_cons.1 hm with e|e
     .exact absurd e.symm h
     .exact e
    obtain⟨i,x,e1,e2⟩:=i1 hm;exact⟨i+1,x,by rw[e1];rfl,by simp[e2]⟩
   .rw[i2 fun hm=>hn (by simp[hm])];rfl
theorem adF{x y:ay}{cm:List (ay×ay)}(h:y∉bY cm):putD (pZ y) (.agg (eU x)) (lK cm)=lK (cm++[(y,x)]):=by
 unfold putD;rw[DJ.2 h];simp[lK]
def ij(s:ay):Prop:=0<=s.1/\s.1<=100000
structure qu(i8 i9 i11 u c q:Nat)(m:Mem)(nx:Nat)(U cm:List (ay×ay))(op:List ay)(off:Nat):Prop where
 h8:m i8=some (.cells [.mp u] 165)
 h9:m i9=some (.cells [.mp c] 166)
 kZ:m i11=some (.cells [.rs q off op.length] 169)
 mu:m u=some (.map (um U))
 mc:m c=some (.map (lK cm))
 mq:∃ pre,m q=some (.cells (pre++p6 op) 168)/\pre.length=off
 lt:i8<nx/\i9<nx/\i11<nx/\u<nx/\c<nx/\q<nx
 ne:i8≠i9/\i8≠i11/\i8≠c/\i8≠q/\i9≠i11/\i9≠c/\i9≠q/\i11≠c/\i11≠q/\i11≠u/\u≠c/\u≠q/\c≠q/\i8≠u/\i9≠u
 us:∀ e∈U,ij e.1/\ij e.2
 cs:∀ e∈cm,ij e.1/\ij e.2
 ol:op.length<=100000
def Wv(beh:Nat->List Int)(fr to:Int)(d:D):Prop:=∃ C J,d=.tup [au C,au J]/\me beh fr to C/\me beh fr to J/\∀ i,0<i->i+1<C.length->C.getD i 0∉J
theorem aeP{beh:Nat->List Int}{fr to:Int}(d:D)(h:Wv beh fr to d):Tr d:=by
 obtain⟨C,J,rfl,_⟩:=h;exact .tup (.cons (cL _) (.cons (cL _) .nil))
def Wo(beh ahd:Nat->List Int)(fr to:Int)(d:D):Prop:=Wv beh fr to d/\Cx beh ahd fr to d
def o6:List (List Int)->List D
 |[]=>[.z,.z]
 |[a]=>[au a,.z]
 |a::b::_=>[au a,au b]
theorem L7(U:List (ay×ay)):Tr (.im (um U)):=.im fun x hx=>by
 obtain⟨e,_,rfl⟩:=List.mem_map.1 hx;exact .s _
theorem acf(C:List (List Int))(i:Nat)(cs:List D)(sz:Nat):(o6 C).map (Abs.sub (fz0 i cs sz))=o6 C:=by
 match C with
 |[]=>rfl
 |[a]=>rfl
 |a::b::_=>rfl
theorem adK{p:Int->Bool}{l:List Int}{x:Int}(hx:x∈l)(hp:p x=true):∃ (k:Nat) (y:Int),nX p l=k/\l[k]? =some y/\p y=true:=by
 cases h:l.findIdx? p with
 |none=>rw[List.findIdx?_eq_none_iff] at h;rw[h x hx] at hp;cases hp
 |some k=>
  obtain⟨h1,h2,_⟩:=List.findIdx?_eq_some_iff_getElem.1 h;exact⟨k,l[k],by unfold nX;rw[h],aM h1,h2⟩
theorem iB.rng{beh:Nat->List Int}{fr to v:Int}{U:List (ay×ay)}{l:List Int}{n:Nat}(C:iJ beh fr to v U)(h:iB U fr to l)(hb:∀ b,∀ c∈beh b,0<=c/\c.toNat<n)(hf:0<=fr/\fr.toNat<n):∀ x∈l,0<=x/\x.toNat<n:=fun x hx=>by
 obtain⟨j,hj⟩:=cC hx;have J:=(bw.1 hj).1;have hg:l.getD j 0=x:=by rw[bl,hj];rfl
 rcases Nat.eq_zero_or_pos j with g|g
 .subst g;rw[<- hg,h.hd];exact hf
 .have:=C.ed _ (h.ch (j - 1) oG);rw[show j - 1+1=j by omega,hg] at this;cases this;exact hb _ _ oN
theorem Y3{α:Type}(p:α->Bool)(l:List α)(i:Nat):((l.take i).filter p).length<=(l.filter p).length:=((List.take_sublist i l).filter p).length_le
theorem YX{α:Type}(p:α->Bool){l:List α}{i:Nat}{x:α}(h:l[i]? =some x):(l.take (i+1)).filter p=(l.take i).filter p++(if p x=true then [x] else []):=by
 rw[List.take_add_one,h,Option.toList_some,List.filter_append];congr 1;simp only[List.filter_cons,List.filter_nil]
theorem adG{beh:Nat->List Int}{fr to:Int}(C:fr≠to)(h:to∈beh fr.toNat):me beh fr to [fr,to]:=by
 refine⟨bF _,rfl,rfl,by simp[C],fun i hi=>?_⟩;have:i=0:=by simp at hi;omega
 subst this;exact h
theorem acd{beh:Nat->List Int}{fr to:Int}{n:Nat}{i8 i9 i11 u c q off nx nx':Nat}{m':Mem}{U cm:List (ay×ay)}{op:List ay}{x y:ay}(hb:∀ b,∀ c∈beh b,0<=c/\c.toNat<n)(pz:∀ b,n<=b->beh b=[])(us:∀ e∈U,0<=e.1.1/\0<=e.2.1)(ed:∀ e∈U,lx beh fr to e.1 e.2)
 (hS:SR beh fr to U cm (x::op)) (hk:∀ k∈bY cm,wP n fr to k) (fC:(x,y)∉U->uw beh fr to U x y)
 (X:if y∉bY cm/\(x,y)∉U then(∃ C,nx<=C/\qu i8 i9 i11 u c C m' nx' U (cm++[(y,x)]) (op++[y]) 0) else qu i8 i9 i11 u c q m' nx' U cm op off):
 ∃ uy M C ajY,qu i8 i9 i11 u c C m' nx' U uy M ajY/\SR beh fr to U uy (x::M)/\((x,y)∉U->y∈bY uy)/\(∀ k∈bY uy,wP n fr to k)/\uy.length+op.length=cm.length+M.length/\(∀ k∈bY cm,k∈bY uy)/\(C=q\/nx<=C)/\cm.length<=uy.length/\(uy,M)=rN U x (cm,op) y:=by
 have mA:x∈bY cm:=hS.IW x oS;by_cases h:y∉bY cm/\(x,y)∉U
 .rw[if_pos h] at X;obtain⟨C,hq,hM⟩:=X;have Fw:=hS.push mA (fC h.2) h.1;have jE:bY (cm++[(y,x)])=bY cm++[y]:=by simp[bY]
  refine⟨_,_,C,0,hM,Fw,fun _=>by rw[jE];simp,fun k J=>?_,by simp;omega,fun k J=>by rw[jE];simp[J],.inr hq,oS,by unfold rN;rw[if_pos h]⟩;rw[jE,List.mem_append] at J;rcases J with g|g
  .exact hk k g
  .simp only[List.mem_singleton] at g;subst g;exact adH hb pz us ed (hk x mA) (fC h.2)
 .rw[if_neg h] at X;exact⟨cm,op,q,off,X,hS,fun hn=>Classical.byContradiction fun g=>h ⟨g,hn⟩,hk,rfl,fun _ g=>g,.inl rfl,bF _,by unfold rN;rw[if_neg h]⟩
structure SI(beh:Nat->List Int)(fr to:Int)(n nx a:Nat)(U cm:List (ay×ay))(op:List ay)(x:ay)(fP:List (ay×ay))(jf:List ay)(q off:Nat)(m:Mem)(cI:Nat):Prop where
 nm:qu 1 (nx+1) (nx+4) 0 nx q m cI U fP jf off
 sr:SR beh fr to U fP (x::jf)
 ky:∀ k∈bY fP,wP n fr to k
 le:fP.length+op.length=cm.length+jf.length
 ge:cm.length<=fP.length
 ra:m a=some (.cells (eU x) 168)
 rs:m (nx+2)=some (.cells (eU (fr,true)) 168)
 lo:a<cI/\nx+5<=a
 qn:q≠nx+2/\q≠a
theorem SI.ext{beh:Nat->List Int}{fr to:Int}{n nx a:Nat}{U cm:List (ay×ay)}{op:List ay}{x:ay}{fP:List (ay×ay)}{jf:List ay}{q off:Nat}{m m':Mem}{cI nx':Nat}(h:SI beh fr to n nx a U cm op x fP jf q off m cI)(hf:∀ i,i<cI->m' i=m i)(hn:cI<=nx'):
 SI beh fr to n nx a U cm op x fP jf q off m' nx':=by
 have⟨h8,h9,kZ,mu,mc,⟨pre,mq,sC⟩,lt,ne,us,cs,ol⟩:=h.nm;have:=h.lo;exact⟨⟨(hf _ oG).trans h8,(hf _ oG).trans h9,(hf _ oG).trans kZ,(hf _ oG).trans mu,(hf _ oG).trans mc,⟨pre,(hf _ oG).trans mq,sC⟩,oG,ne,us,cs,ol⟩,h.sr,h.ky,h.le,h.ge,(hf _ oG).trans h.ra,(hf _ oG).trans h.rs,oG,h.qn⟩
theorem SI.next{beh:Nat->List Int}{fr to:Int}{n nx a:Nat}{U cm:List (ay×ay)}{op:List ay}{x y:ay}{fP:List (ay×ay)}{jf:List ay}{q off:Nat}{m m':Mem}{cI nx':Nat}(h:SI beh fr to n nx a U cm op x fP jf q off m cI)
 (hb:∀ b,∀ c∈beh b,0<=c/\c.toNat<n) (pz:∀ b,n<=b->beh b=[]) (us:∀ e∈U,0<=e.1.1/\0<=e.2.1) (ed:∀ e∈U,lx beh fr to e.1 e.2) (fC:(x,y)∉U->uw beh fr to U x y)
 (hn:cI<=nx') (hf:∀ i,i<cI->i≠nx+4->i≠nx->i≠q->m' i=m i)
 (hP:if y∉bY fP/\(x,y)∉U then(∃ q',cI<=q'/\qu 1 (nx+1) (nx+4) 0 nx q' m' nx' U (fP++[(y,x)]) (jf++[y]) 0) else qu 1 (nx+1) (nx+4) 0 nx q m' nx' U fP jf off):
 ∃ C J M X,SI beh fr to n nx a U cm op x C J M X m' nx'/\((x,y)∉U->y∈bY C)/\(∀ k∈bY fP,k∈bY C)/\(C,J)=rN U x (fP,jf) y:=by
 obtain⟨C,J,M,X,h1,h2,h3,h4,h5,h6,h7,h8,h9⟩:=acd hb pz us ed h.sr h.ky fC hP;have:=h.lo;have:=h.qn;have:=h.le;have:=h.ge;refine⟨C,J,M,X,⟨h1,h2,h4,oG,oG,(hf a oG oG oG oG).trans h.ra,(hf (nx+2) oG oG oG oG).trans h.rs,oG,oG⟩,h3,h6,h9⟩
end Go.Argus
namespace Go.Proofs.Tryz.K
theorem ju{s:ay}(h:ij s): -9223372036854775808<=s.1/\s.1<=9223372036854775807:=by
 have:=h.1;have:=h.2;omega
theorem yz{U:List (ay×ay)}(h:∀ e∈U,ij e.1/\ij e.2):(um U).all (fun e=>keyP prog 172 e.1)=true:=by
 refine bj.2 fun x hx=>?_;obtain⟨e,he,rfl⟩:=List.mem_map.1 hx;exact wM _ _ (ju (h e he).1) (ju (h e he).2)
theorem G3{cm:List (ay×ay)}(h:∀ e∈cm,ij e.1/\ij e.2):(lK cm).all (fun e=>keyP prog 168 e.1)=true:=by
 refine bj.2 fun x hx=>?_;obtain⟨e,he,rfl⟩:=List.mem_map.1 hx;exact Cc _ (ju (h e he).1)
theorem Cd:zeroD prog (melP prog 165)=B false:=kr
theorem af6:zeroD prog (melP prog 166)=.agg (eU (0,false)):=kr
theorem Ib{i8 i9 i11 u c q off:Nat}{m:Mem}{nx:Nat}{U cm:List (ay×ay)}{op:List ay}{x y:ay}(hM:qu i8 i9 i11 u c q m nx U cm op off)(hx:ij x)(hy:ij y)(oe:op.length<100000):
 ACalls prog 129 [.agg (eU x),.agg (eU y),.rp i9 0,.rp i8 0,.rp i11 0] m nx (fun d m' nx'=>d=.tup []/\nx<=nx'/\(∀ i,i<nx->i≠i11->i≠c->i≠q->m' i=m i)/\
  if y∉bY cm/\(x,y)∉U then(∃ q',nx<=q'/\qu i8 i9 i11 u c q' m' nx' U (cm++[(y,x)]) (op++[y]) 0) else qu i8 i9 i11 u c q m' nx' U cm op off):=by
 refine zF UG ?_;rw[af7];have⟨h8,h9,kZ,mu,mc,⟨pre,mq,sC⟩,⟨l8,l9,l11,lu,lc,lq⟩,⟨n1,n2,n3,n4,n5,n6,n7,n8,n9,n10,n11,n12,n13,n14,n15⟩,us,cs,ol⟩:=hM;have xS:eU x=[I x.1,B x.2]:=rfl;have zG:eU y=[I y.1,B y.2]:=rfl
 have AE:∃ x0,gotD prog 166 true (lookD (pZ y) (lK cm))=.tup [.agg (eU x0),B (decide (y∈bY cm))]:=by
  by_cases hk:y∈bY cm
  .obtain⟨i,x0,e,_⟩:=DJ.1 hk;exact⟨x0,by rw[e,decide_eq_true hk];rfl⟩
  .refine⟨(0,false),?_⟩;rw[DJ.2 hk,decide_eq_false hk];simp only[gotD,if_true,af6]
 obtain⟨x0,AE⟩:=AE;refine ws (ag ?_);refine af (az ?_);have ax:=h9;refine aI (gO rfl (aC oG (aC oG ax)) rfl V.h) ak (gP V.h V.h rfl) (SS ?_);refine aI (yr (es:=lK cm) (key:=pZ y) rfl (aC oG (aC oG mc)) rfl Ce AE) cv ⟨Cf,Cc _ (ju hy),G3 cs⟩ (bB ?_);generalize hk:decide (y∈bY cm)=yk;refine af (so (l:=[(2,.rp i9 0),(3,.rp i8 0),(4,.rp i11 0),(5,.rp nx 0),(6,.rp (nx+1) 0),(8,B yk)]) ⟨rfl,rfl,rfl,rfl,rfl,rfl,trivial⟩ fun C J=>?_);have g8:C i8=some (.cells [.mp u] 165):=(dI J h8)
 have g9:C i9=some (.cells [.mp c] 166):=(dI J h9)
 have NO:C i11=some (.cells [.rs q off op.length] 169):=(dI J kZ)
 have gu:C u=some (.map (um U)):=(dI J mu)
 have gc:C c=some (.map (lK cm)):=(dI J mc)
 have gq:C q=some (.cells (pre++p6 op) 168):=(dI J mq)
 have gx:C nx=some (.cells (eU x) 168):=(dI J mq)
 have gy:C (nx+1)=some (.cells (eU y) 168):=(dI J mq)
 have gf:∀ i,i<nx->C i=m i:=fun i hi=>by
  rw[J]
  repeat (first|exact rfl|refine aC oG ?_)
 clear J AE h8 h9 kZ mu mc mq ax
 have qe:yk=true\/eh U x y=true->¬ (y∉bY cm/\(x,y)∉U):=fun h=>by
  rintro⟨h1,h2⟩;rcases h with h|h
  .rw[h] at hk;exact h1 (by simpa using hk)
  .unfold eh at h;exact h2 (by simpa using h)
 have b8:(yk=true\/eh U x y=true)->(D.tup []:D)=.tup []/\nx<=nx+3/\(∀ i,i<nx->i≠i11->i≠c->i≠q->C i=m i)/\(if y∉bY cm/\(x,y)∉U then(∃ q',nx<=q'/\qu i8 i9 i11 u c q' C (nx+3) U (cm++[(y,x)]) (op++[y]) 0) else qu i8 i9 i11 u c q C (nx+3) U cm op off):=fun h=>by
  refine⟨rfl,oG,fun i hi _ _ _=>gf i hi,?_⟩;rw[if_neg (qe h)];exact⟨g8,g9,NO,gu,gc,⟨pre,gq,sC⟩,oG,oG,us,cs,ol⟩
 refine ws ?_;cases yk with
 |true=>
  refine aq ?_;(iterate 6 refine z fun _ _=>?_);refine SS ?_;refine af (gR (bS (qN (b8 (.inl rfl)))))
 |false=>
 have ax:=g8;have di:=gx;have gT:=gy;refine aP ?_;refine bt rfl rfl (ep rfl di V.h V.h rfl) (fun hc=>⟨ak,(ez V.h V.h (by first|(simp;done)|omega|exact bD rfl))⟩) ?_;refine bt rfl rfl (ep rfl gT V.h V.h rfl) (fun hc=>⟨ak,(ez V.h V.h (by first|(simp;done)|omega|exact bD rfl))⟩) ?_;refine SS ?_;refine bt rfl rfl (yr (es:=um U) (key:=mR x y) rfl gu rfl wN (BY Cd x y U)) (fun hc=>⟨(by repeat' (first|exact trivial|exact hc|exact rfl|refine And.intro ?_ ?_)),⟨wO,wM _ _ (ju hx) (ju hy),yz us⟩⟩) ?_;generalize hu:eh U x y=ux at qe b8;refine ag ?_;cases ux with
 |true=>
  refine af (gR (bS (qN (b8 (.inr rfl)))))
 |false=>
 have IV:y∉bY cm:=by simpa using hk
 have hxu:(x,y)∉U:=by unfold eh at hu;simpa using hu
 clear b8;refine af (gH (az ?_));have ax:=g9;have di:=gy;have gT:=gx;refine aq ?_;refine cA (Hx (es:=lK cm) (key:=pZ y) (v:=.agg (eU x)) rfl gc rfl rfl Ce) cv ⟨Cf,Cc _ (ju hy),G3 cs⟩ ?_;rw[adF IV];refine af (so (l:=[(2,.rp i9 0),(3,.rp i8 0),(4,.rp i11 0),(6,.rp (nx+1) 0)]) ⟨rfl,rfl,rfl,rfl,trivial⟩ fun M X=>gA ?_);have e8:M i8=some (.cells [.mp u] 165):=(dI X g8)
 have e9:M i9=some (.cells [.mp c] 166):=(dI X g9)
 have sX:M i11=some (.cells [.rs q off op.length] 169):=(dI X NO)
 have eu:M u=some (.map (um U)):=(dI X gu)
 have ec:M c=some (.map (lK (cm++[(y,x)]))):=(dI X gc)
 have eq:M q=some (.cells (pre++p6 op) 168):=(dI X gq)
 have ey:M (nx+1)=some (.cells (eU y) 168):=(dI X gy)
 have ef:∀ i,i<nx->i≠c->M i=m i:=fun i hi hc=>by
  rw[X];refine(aC ?_ rfl).trans (gf i hi);exact hc
 clear X g8 g9 NO gu gc gq gx gy gf ax di gT;have ax:=sX;have di:=ey;have gT:=eq;have sY:=JQ op;refine ag ?_;refine Wi ?_;refine vm (uV (sz:=2) (cs:=pre++p6 op) rfl (aC oG eq) rfl Ic y8 (wj (news:=eU y) (up_same _ _ _) rfl) rfl) cv ⟨HR,rfl,(show 0+1*2<=2 by decide),oC,(by rw[List.length_append];omega),(by unfold maxLen;omega),(by rw[Wj];omega),oP⟩ ?_;have ax:up (up (up M (nx+3) (some (.cells (eU y) 168))) q none) (nx+3+1) (some (.cells ((pre++p6 op).drop off++eU y) 168)) i11=some (.cells [.rs q off op.length] 169):=aC oG (aC oG (aC oG sX));refine cA (fG (d:=.rs _ _ _) (cs':=[_]) rfl rfl ax rfl rfl) ak (dt V.h V.h (by first|(simp;done)|exact⟨rfl,bD rfl⟩|(simp;omega)) rfl) ?_;refine af (qN ⟨rfl,oM,fun i hi h1 h2 h3=>?_,?_⟩)
 .dsimp only;exact aC h1 (aC oG (aC h3 (aC oG (ef i hi h2))))
 .rw[if_pos ⟨IV,hxu⟩];refine⟨nx+3+1,oG,⟨(q9 e8),(q9 e9),?_,(q9 eu),(q9 ec),⟨[],?_,rfl⟩,oM,oG,us,fun e he=>?_,?_⟩⟩
  .dsimp only;rw[up_same,List.length_append];rfl
  .dsimp only;rw[up_ne _ _ oG,up_same,aaI,List.nil_append, <- sC,List.drop_left]
  .rcases List.mem_append.1 he with g|g
   .exact cs e g
   .simp only[List.mem_singleton] at g;subst g;exact⟨hy,hx⟩
  .rw[List.length_append,List.length_singleton];omega
end Go.Proofs.Tryz.K
namespace Go.Abs
theorem agb{P:Program}{rds:List Nat}{m:Mem}{f:Fn}{xs bs:List D}(h:Sns P rds m xs bs):Sn P rds m (.fn f [] xs) (.fn f [] bs):=fun F β w v hl hv=>by
 cases hv with
 |fn _ _ _ us vs C hv h1 h2=>
  obtain⟨e1,e2⟩:=sns_R hl h;refine .fn f [] bs us vs C oG (fun k d v hd _=>by simp at hd) fun k d u hd C=>?_;have hk:k<xs.length:=by rw[e1];exact(bw.1 hd).1
  exact e2 k xs[k] d (by simp[hk]) hd u (h2 k xs[k] u (by simp[hk]) C)
theorem aeR{id:Nat}{Q:Exit->St->Prop}{s:St}(h:Q .normal s):blockQ id Q (.exit id) s:=by simp only[blockQ,if_true];exact h
theorem ace{P:Program}{env:Env}{m:Mem}{nx i j:Nat}{es:List (Value×D)}{t:TypeId}{l:List (Nat×D)}(hi:m i=some (.map es))(hj:m j=some (.cells [.mp i] t))(C:j≠i)(hl:jM l fun u=>sub (fz0 j [.im es] (P.cellsOf t)) (sub (fm0 i es) (env u))):
 Ghost P ⟨env,m,nx⟩ ⟨aD l,fun _=>none,nx⟩:=by
 refine(Ghost.freezeM env m nx i es hi).trans ((Ghost.freeze _ _ nx j [.im es] t ?_).trans ((Ghost.forget _ _ _ _ (pL hl)).trans (Ghost.drop _ _ _ _ fun _=>.inr rfl)));show(if j=i then none else(m j).map _)=_;rw[if_neg C,hj];simp[Row.sub,sub,sub1,fm0]
theorem aaJ{P:Program}{Y:YSpec}{rf:Bool}{b:Code}{Q:Exit->St->Prop}{st:St}{l:Nat}(h:∃ st',Ghost P st st'/\AW P Y rf b Q st'):AW P Y rf (.seq (.label l) b) Q st:=h
theorem aeN{P:Program}{Y:YSpec}[eC Y]{rf:Bool}{Q:Exit->St->Prop}{st:St}{id t i1:Nat}{rc:Array Oper}{body:Code}{α:Type}(S:α->St)(J:α->Prop)(μ:α->Nat)(C:α)(hg:Ghost P st (S C))(M:J C)
 (h:∀ x,J x->AOps P Y rc false [] (gK fun s=>∃ g,opd s.env (.tmp t)=.s (.bool g)/\(g=true->AW P Y rf body (seqQ (sw P S J μ x) (blockQ id Q)) s)/\(g=false->Q .normal s)) rc.toList (S x) []):
 ∃ st',Ghost P st st'/\AW P Y rf (.block id (.loop (.seq (.seq (.region i1 rc false) (.cond (.tmp t) .skip (.exit id))) body))) Q st':=by
 refine BG (Q:=blockQ id Q) S J μ C hg M (fun x hx=>aB (qG (rf:=rf) (id:=i1) (AOps.lA (h x hx) fun s hs=>?_))) (a:=.skip) fun _ h=>h;obtain⟨g,h1,h2,h3⟩:=hs;refine⟨s,.refl s,cx h1 (fun X=>?_) fun xE=>?_⟩
 .exact bP (h2 X)
 .refine jw ?_;simp only[seqQ,blockQ,if_true];exact h3 xE
theorem aeO{P:Program}{env:Env}{m:Mem}{nx i:Nat}{es:List (Value×D)}{key:Value}{kt t C:TypeId}{x y:Operand}(hx:(opd env x).core=.mp i)(hm:m i=some (.map es))(hk:keyV (opd env y).core=some key)(ht:mkeyP P t=kt):
 Ef P (.call { callee:=.builtin .delete,args:= #[x,y],argTypes:= #[t,C] }) env m nx ⟨mapT P t=true/\keyP P kt key=true/\es.all (fun e=>keyP P kt e.1)=true,.tup [],[(i,some (.map (delD key es)))],[i],0⟩:=
 wK («aS»:=[.mp i,(opd env y).core]) rfl (by simp[hx]) (by
  show mapDelD P m t _ _=_
  simp only[mapDelD,hk,hm,ht])
section
variable{P:Program}{f:FuncId}
def EL(d:D):Prop:=∃ F w v,(∀ b,F b->b<w.heap.size)/\R F noRows w d v
theorem Zc{a:D}{cN:D->Prop}(he:enterOk P f=true)(ht:∀ x∈[a],Tr x)(h:EL a->tF P f [a] cN):tF P f [a] cN:=
 ⟨he,ht,fun F w vs hF hR=>by
  have hs:0<vs.size:=by rw[hR.1];exact Nat.one_pos
  exact(h ⟨F,w,vs[0],hF,hR.2 0 a _ rfl (by simp[hs])⟩).2.2 F w vs hF hR⟩
theorem ZK{a r:D}(hc:PCall P f [a] r)(h:EL a):EL r:=by
 obtain⟨F,w,v,hF,hR⟩:=h
 obtain⟨e,w',_,⟨M,_,J,hk⟩,_⟩:=hc.2.2 F w #[v] hF ⟨rfl,fun k d u hd C=>by
  obtain rfl:k=0:=by
   have:=(bw.1 hd).1;simp at this;omega
  simp at hd C;subst hd C
  exact hR⟩ []
 exact⟨F,w',M,fun b hb=>Nat.lt_of_lt_of_le (hF b hb) (kept_step (β:=noRows) hk).size,J⟩
theorem ZL{args:List D}{cN:D->Prop}(h:tF P f args cN)(M:∀ d d',cN d->cN d'->d=d')(hr:∃ F w vs,(∀ b,F b->b<w.heap.size)/\Rs F noRows w args vs):∃ d,cN d/\PCall P f args d:=by
 obtain⟨F,w,vs,hF,hR⟩:=hr;obtain⟨_,_,_,⟨_,d,hp,_⟩,_⟩:=h.2.2 F w vs hF hR [];refine⟨d,hp,h.1,h.2.1,fun F w vs hF hR=>(h.2.2 F w vs hF hR).mono fun e w' hq=>?_⟩;obtain⟨v,r,J,he,C,hk⟩:=hq;rw[M d r hp J];exact⟨v,he,C,hk⟩
theorem adL{a q:D}(h:EL (.tup [a,q]))(u v:Int):∃ F w vs,(∀ b,F b->b<w.heap.size)/\Rs F noRows w [a,Argus.I u,Argus.I v] vs:=by
 obtain⟨F,w,x,hF,hR⟩:=h;obtain⟨us,rfl,hl,C⟩:=hR.tup_inv;have h0:0<us.length:=by rw[hl];exact Nat.succ_pos _
 refine⟨F,w, #[us[0],.int .i64 u,.int .i64 v],hF,rfl,fun k d y hd hy=>?_⟩;have hk:k<3:=by simpa using(bw.1 hd).1
 match k,hk with
 |0,_=>
  simp at hd hy;subst hd hy;exact C 0 _ _ rfl (by simp[h0])
 |1,_=>simp at hd hy;subst hd hy;exact .s _ rfl
 |2,_=>simp at hd hy;subst hd hy;exact .s _ rfl
end
end Go.Abs
namespace Go.Proofs.Tryz.K
theorem aj9{U:List (ay×ay)}(us:∀ e∈U,ij e.1/\ij e.2){b d:Int}(hb:0<=b/\b<=100000)(hd:0<=d/\d<=100000):PCall prog 131 [I d,.pt [.im (um U)],.pt [I b]] (B (eh U (b,true) (d,false))):=by
 refine bg UL (.cons (.s _) (.cons (.pt (.cons (L7 U) .nil)) (.cons (.pt (.cons (.s _) .nil)) .nil))) (Tr.s _) ?_;rw[agc];refine ws (SS ?_);refine er (bB ?_);refine aI (Gy (es:=um U) (key:=mR (b,true) (d,false)) rfl rfl wN (BY Cd (b,true) (d,false) U)) cv ⟨wO,wM _ _ (ju ⟨hb.1,hb.2⟩) (ju ⟨hd.1,hd.2⟩),yz us⟩ (SS ?_);refine af (aY (av rfl rfl))
section
variable{f:aG}{beh ahd:List (List Int)}{c:D}
theorem aj8{n:Nat}(jd:n<=10000)(cZ:beh.length=n)(jt:∀ b,∀ t∈aA beh b,0<=t/\t.toNat<n)
 (cR:∀ b,(aA beh b).Nodup) (iP:∀ b,(aA beh b).length<=100000) {fn J:Nat} (pd:fn<n) (Da:J<n) (qv:fn≠J) {U:List (ay×ay)} {m:Mem} {o:Nat} (ho:2<=o) (mu:m 0=some (.map (um U))) (h8:m 1=some (.cells [.mp 0] 165)) (hU:iJ (aA beh) fn J 2 U) (us:∀ e∈U,ij e.1/\ij e.2) (hW:vV (aA beh) (aA ahd) fn J 2 U) (jH:(J:Int)∉aA beh fn):
 ∃ s',Ghost prog ⟨aD [(0,.pt (bA f beh ahd c)),(1,I fn),(2,I J),(8,.rp 1 0)],m,o⟩ s'/\AW prog noY true  (.seq (.region 43 (Z bJ 43) false) (.seq (.region 44 (Z bJ 44) false) (.seq (.seq (.region 45 (Z bJ 45) false) (.block 11 (.loop (.seq (.region 46 (Z bJ 46) false) (.seq (.cond (.tmp 182) .skip (.exit 11)) (.seq (.block 12 (.seq (.region 47 (Z bJ 47) false) (.seq (.seq (.region 48 (Z bJ 48) false) (.cond (.tmp 196) (.exit 12) .skip)) (.seq (.region 49 (Z bJ 49) false) (.seq (.seq (.region 50 (Z bJ 50) false) (.block 13 (.loop (.seq (.block 14 (.seq (.region 51 (Z bJ 51) false) (.seq (.seq (.region 52 (Z bJ 52) false) (.cond (.tmp 206) (.exit 13) .skip)) (.region 53 (Z bJ 53) true)))) (.seq (.region 54 (Z bJ 54) false) (.region 55 (Z bJ 55) false)))))) (.seq (.region 56 (Z bJ 56) false) (.region 57 (Z bJ 57) false))))))) (.region 58 (Z bJ 58) false))))))) (.seq (.region 59 (Z bJ 59) true) .ret)))) (retQ prog [ResultVar.tmp 6,ResultVar.tmp 7] fun d _=>Wo (aA beh) (aA ahd) fn J d) s':=by
 refine⟨_,ace mu h8 oG (l:=[(0,.pt (bA f beh ahd c)),(1,I fn),(2,I J),(8,.pt [.im (um U)])]) eH,aj ?_⟩;clear mu h8;refine SS ?_;refine er (SS ?_);refine af (aB (az ?_));have py:=tf (beh:=beh) (b:=fn) oG;have ao:=jt fn;have MN:=cR fn;have jg:=iP fn;have L8:=hU.outs (L:=aA beh fn) MN (fun c=>by rw[bN]);generalize hl:aA beh fn=l at py ao jg MN L8 jH;refine aJ ?_
 refine af (bR (fun s=>∃ w1 w2 M nx,Ghost prog s ⟨aD [(22,.rp o 0)],M,nx⟩/\M o=some (.cells [au w1,au w2] 174)/\iB U fn J w1/\iB U fn J w2/\w1.getD (w1.length - 1) 0=(J:Int)/\w2.getD (w2.length - 1) 0=(J:Int)/\w1.getD 1 0≠w2.getD 1 0/\Cx (aA beh) (aA ahd) fn J (.tup [au w1,au w2])) (dV (α:=Nat×List (List Int)×Mem×Nat)
  (fun s=>⟨aD [(0,.pt (bA f beh ahd c)),(1,I fn),(2,I J),(8,.pt [.im (um U)]),(22,.rp o 0),(23,I s.2.1.length),(179,au l),(180,I l.length),(181,I s.1)],s.2.2.1,s.2.2.2⟩)
  (fun s=>s.1<=l.length/\s.2.1.length<=2/\(∀ w∈s.2.1,iB U fn J w/\w.getD (w.length - 1) 0=(J:Int)/\Au (aA beh) fn J U (w.getD 1 0) w)/\s.2.1.map (fun w=>w.getD 1 0)=(l.take s.1).filter (fun c=>eh U ((fn:Int),true) (c,false))/\s.2.2.1 o=some (.cells (o6 s.2.1) 174)/\o<s.2.2.2) (fun s=>l.length - s.1) (0,[],up (fun _=>none) o (some (.cells [.z,.z] 174)),o+1)
  (ap eH) ⟨Nat.zero_le _,Nat.zero_le _,fun w h=>(by simp at h),rfl,(by dsimp only[o6];exact up_same _ _ _),Nat.lt_succ_self _⟩ ?_) ?_)
 .rintro⟨i,C,M,nx⟩ ⟨hi,xT,om,xU,hM,mB⟩;dsimp only at hi xT om xU hM mB ⊢;refine SS ?_;refine af ⟨_,rfl,fun h=>?_,fun h=>?_⟩
  .have fX:i<l.length:=by simpa using h
   obtain⟨t,ht⟩:∃ t,l[i]? =some t:=⟨_,aM fX⟩
   have s5:=ao t (bU ht);have vP:=YX (fun c=>eh U ((fn:Int),true) (c,false)) ht;have xG:=Y3 (fun c=>eh U ((fn:Int),true) (c,false)) l (i+1);rw[L8,vP,List.length_append, <- xU,List.length_map] at xG;refine ws (aq ?_);refine af (aB (aj ?_));by_cases h2:C.length=2
   .have eM:decide ((1:Int)<(C.length:Int))=true:=by simp[h2]
    refine aq ?_;(iterate 8 refine z fun _ _=>?_);refine SS ?_;refine af (dN (jw (mO ?_)));show AOps _ _ _ _ _ _ _ _ _;refine ag ?_;refine af (aK (i+1,C,M,nx) (ap eH) ⟨oM,xT,om,?_,hM,mB⟩ oM);dsimp only;rw[vP,xU];cases hu:eh U ((fn:Int),true) (t,false) with
    |false=>simp
    |true=>rw[hu] at xG;simp at xG;omega
   .have eM:decide ((1:Int)<(C.length:Int))=false:=by simp;omega
    refine aJ ?_;refine bt rfl rfl (Gy (es:=um U) (key:=mR ((fn:Int),true) (t,false)) rfl rfl wN (BY Cd _ _ U)) (fun hc=>⟨(by repeat' (first|exact trivial|exact hc|exact rfl|refine And.intro ?_ ?_)),⟨wO,wM _ _ (ju ⟨oM,oM⟩) (ju ⟨oM,oM⟩),yz us⟩⟩) ?_;generalize hu:eh U ((fn:Int),true) (t,false)=ux at vP xG;refine ag ?_;cases ux with
    |false=>
     refine af (dN (jw (mO ?_)));show AOps _ _ _ _ _ _ _ _ _;refine ag ?_;refine af (aK (i+1,C,M,nx) (ap eH) ⟨oM,xT,om,by dsimp only;rw[vP,xU];simp,hM,mB⟩ oM)
    |true=>
     have s6:((((fn:Int),true),(t,false)):ay×ay)∈U:=by unfold eh at hu;simpa using hu
     refine af (gS (bP (az ?_)));have aj':C.length<2:=by omega
     clear xG hu eM;refine aq ?_;refine af (so (l:=[(0,.pt (bA f beh ahd c)),(1,I fn),(2,I J),(8,.pt [.im (um U)]),(22,.rp o 0),(23,I C.length),(179,au l),(180,I l.length),(181,I i),(25,I t),(26,.rs nx 0 1)]) ⟨rfl,rfl,rfl,rfl,rfl,rfl,rfl,rfl,rfl,rfl,rfl,trivial⟩ fun M1 j3=>aB (az ?_));have N6:M1 nx=some (.cells [I fn] 3):=(dI j3 j3)
     have N7:M1 o=some (.cells (o6 C) 174):=(dI j3 hM)
     clear j3 hM;refine ag ?_;refine cA (fG (d:=.s (.int _ _)) (cs':=[_]) rfl rfl (up_same _ _ _) rfl rfl) ak (dt V.h V.h (by first|(simp;done)|exact⟨rfl,bD rfl⟩|(simp;omega)) rfl) ?_
     refine af (bR (fun s=>∃ w q M nx,Ghost prog s ⟨aD [(0,.pt (bA f beh ahd c)),(1,I fn),(2,I J),(8,.pt [.im (um U)]),(22,.rp o 0),(23,I C.length),(179,au l),(180,I l.length),(181,I i),(26,.rs q 0 w.length)],M,nx⟩/\M q=some (.cells (w.map I) 3)/\q≠o/\M o=some (.cells (o6 C) 174)/\iB U fn J w/\w.getD (w.length - 1) 0=(J:Int)/\w.getD 1 0=t/\o<nx/\q<nx/\Au (aA beh) fn J U t w)
      (BG (Q:=blockQ 13 _) (α:=List Int×Int×Nat×Nat×Mem×Nat) (fun s=>⟨aD [(0,.pt (bA f beh ahd c)),(1,I fn),(2,I J),(8,.pt [.im (um U)]),(22,.rp o 0),(23,I C.length),(179,au l),(180,I l.length),(181,I i),(26,.rs s.2.2.1 0 s.1.length),(27,.rp s.2.2.2.1 0)],s.2.2.2.2.1,s.2.2.2.2.2⟩)
      (fun s=>(∃ k,oi (Ch (aA beh) J U) k ([(fn:Int)],t)=some (s.1,s.2.1))/\iB U fn J (s.1++[s.2.1])/\(s.1++[s.2.1]).getD 1 0=t/\1<=s.1.length/\s.2.2.2.2.1 s.2.2.1=some (.cells (s.1.map I) 3)/\s.2.2.2.2.1 s.2.2.2.1=some (.cells [I s.2.1] 3)/\s.2.2.2.2.1 o=some (.cells (o6 C) 174)/\s.2.2.1≠o/\s.2.2.2.1≠o/\s.2.2.1≠s.2.2.2.1/\s.2.2.1<s.2.2.2.2.2/\s.2.2.2.1<s.2.2.2.2.2/\o<s.2.2.2.2.2)
      (fun s=>n - s.1.length) ([(fn:Int)],t,nx,nx+1,up (up M1 (nx+1) (some (.cells [I 0] 3))) (nx+1) (some (.cells [I t] 3)),nx+2)
      (ap eH) ⟨⟨0,rfl⟩,.two s6,rfl,bF _,(q9 N6),up_same _ _ _,(q9 N7),oM,oM,oM,oM,oM,oM⟩ (fun x hx=>?_) (a:=.skip) fun _ h=>h) ?_)
     .clear N6 N7;obtain⟨w,b,q,a,M,je⟩:=x;obtain⟨⟨k0,dT⟩,hF,De,oh,mq,ma,mo,n1,n2,n3,l1,l2,l3⟩:=hx;dsimp only at dT hF De oh mq ma mo n1 n2 n3 l1 l2 l3 ⊢;have Ww:=hF.rng hU jt (n:=n) ⟨oG,oG⟩;have N8:=Bx (hF.nodup hU oG) Ww;have nr:=Ww b oS
      have fS:(w++[b]).getD ((w++[b]).length - 1) 0=b:=by
       rw[show(w++[b]).length - 1=w.length by simp];exact Pn
      rw[List.length_append,List.length_singleton] at N8;obtain⟨X,rfl⟩:=cU nr.1;have pz:X<n:=by have:=nr.2;simpa using this
      refine O9 (fun s=>∃ d M2,Ghost prog s ⟨aD [(0,.pt (bA f beh ahd c)),(1,I fn),(2,I J),(8,.pt [.im (um U)]),(22,.rp o 0),(23,I C.length),(179,au l),(180,I l.length),(181,I i),(26,.rs (je+1) 0 (w.length+1)),(27,.rp a 0)],M2,je+2⟩/\((((X:Int),true),(d,false)):ay×ay)∈U/\(X:Int)≠J/\Ch (aA beh) J U (w,(X:Int))=some (w++[(X:Int)],d)/\M2 a=some (.cells [I d] 3)/\M2 (je+1)=some (.cells ((w++[(X:Int)]).map I) 3)/\M2 o=some (.cells (o6 C) 174)) (az ?_) fun s hs=>?_
      .have ax:=ma;refine aq ?_;refine vm (uV (sz:=1) (cs:=w.map I) rfl (aC oG mq) rfl vS c3 (wj (news:=[I X]) (up_same _ _ _) rfl) rfl) cv ⟨vn,rfl,(show 0+1*1<=1 by decide),oC,(by rw[List.length_map];omega),(by unfold maxLen;omega),(by rw[b3];omega),oP⟩ ?_;refine SS ?_;refine af (so (l:=[(0,.pt (bA f beh ahd c)),(1,I fn),(2,I J),(8,.pt [.im (um U)]),(22,.rp o 0),(23,I C.length),(179,au l),(180,I l.length),(181,I i),(26,.rs (je+1) 0 (w.length+1)),(27,.rp a 0)]) ⟨rfl,rfl,rfl,rfl,rfl,rfl,rfl,rfl,rfl,rfl,rfl,trivial⟩ fun M2 ik=>aB (aj ?_));have I2:M2 (je+1)=some (.cells ((w++[(X:Int)]).map I) 3):=(by rw[ik,up_same,List.map_append];rfl)
       have ea:M2 a=some (.cells [I X] 3):=(dI ik ma)
       have eo:M2 o=some (.cells (o6 C) 174):=(dI ik mo)
       clear ik ma mo mq ax;have ax:=ea;by_cases AF:X=J
       .have dY:((X:Int)==(J:Int))=true:=by simp[AF]
        refine aq ?_;refine af (dN (jw (Ts oC (Tf (Tf (aeR ⟨w++[(X:Int)],je+1,M2,je+2,ap ⟨rfl,rfl,rfl,rfl,rfl,rfl,rfl,rfl,rfl,?_,trivial⟩,I2,oG,eo,hF,by rw[fS,AF],De,oG,oG,⟨k0,w,by rw[dT,AF],by rw[AF]⟩⟩))))));rw[List.length_append];rfl
       .have dY:((X:Int)==(J:Int))=false:=by simp;omega
        have xg:(X:Int)≠(J:Int):=by omega
        refine aq ?_;refine af (gS (bP (Kg aaN ?_)));have UM:=hF.more hU (by rw[fS];exact xg);rw[fS,bN] at UM;obtain⟨d0,kD,xx⟩:=UM;have aka:=tf (beh:=beh) (b:=X) oG;have vr:=jt X;have akb:=iP X;generalize N9:aA beh X=lb at aka vr akb xx;obtain⟨k,d,hk,hkd,rO⟩:=adK (p:=fun d=>eh U ((X:Int),true) (d,false)) xx (by unfold eh;simpa using kD);have Ba:((((X:Int),true),(d,false)):ay×ay)∈U:=by unfold eh at rO;simpa using rO
        have aF:Ch (aA beh) J U (w,(X:Int))=some (w++[(X:Int)],d):=by
         unfold Ch;rw[if_neg xg,bN,N9,hk,bN,hkd];rfl
        have AD:=AD (l:=lb) (g:=131) (fs:=[]) (cs:=[.pt [.im (um U)],.pt [I X]]) (p:=fun d=>eh U ((X:Int),true) (d,false)) (.fn oS (.cons (.pt (.cons (L7 U) .nil)) (.cons (.pt (.cons (.s _) .nil)) .nil))) fun x hx=>aj9 us ⟨oG,oG⟩ (by have:=vr x hx;omega);rw[hk] at AD;have agd:Sns prog [a] M2 [au lb,.fn (.func 131) [] [.pt [.im (um U)],.rp a 0]] [au lb,.fn (.func 131) [] [.pt [.im (um U)],.pt [I X]]]:=⟨c8 (cL _),agb ⟨c8 (.pt (.cons (L7 U) .nil)),Un ea oS rfl (.cons (.s _) .nil),trivial⟩,trivial⟩
        clear hk rO;refine aJ ?_;refine bB ?_;refine afM AD rfl agd rfl cv (ag ?_);refine cA (fG (d:=.s (.int _ _)) (cs':=[_]) rfl rfl ax rfl rfl) ak (dt V.h V.h (by first|(simp;done)|exact⟨rfl,bD rfl⟩|(simp;omega)) rfl) ?_;refine a8 bc ⟨d,_,ap eH,Ba,xg,aF,up_same _ _ _,?_,?_⟩
        .exact aC oG I2
        .exact aC oG eo
      .obtain⟨d,M2,gV,Ba,xg,aF,ma2,mq2,mo2⟩:=hs;refine⟨_,gV,az ?_⟩;have ax:=ma2;refine SS ?_;refine af (so (l:=[(0,.pt (bA f beh ahd c)),(1,I fn),(2,I J),(8,.pt [.im (um U)]),(22,.rp o 0),(23,I C.length),(179,au l),(180,I l.length),(181,I i),(26,.rs (je+1) 0 (w.length+1)),(225,I d)]) ⟨rfl,rfl,rfl,rfl,rfl,rfl,rfl,rfl,rfl,rfl,rfl,trivial⟩ fun M4 pC=>qG (rf:=true) (id:=_) ?_);have I2:M4 (je+1)=_:=pC▸mq2;have eo:M4 o=_:=pC▸mo2;clear pC ax;refine SS ?_;refine cA (fG (d:=.s (.int _ _)) (cs':=[_]) rfl rfl (up_same _ _ _) rfl rfl) ak (dt V.h V.h (by first|(simp;done)|exact⟨rfl,bD rfl⟩|(simp;omega)) rfl) ?_;refine af (aK (w++[(X:Int)],d,je+1,je+2,up (up M4 (je+2) (some (.cells [I 0] 3))) (je+2) (some (.cells [I d] 3)),je+3) (ap ⟨rfl,rfl,rfl,rfl,rfl,rfl,rfl,rfl,rfl,?_,rfl,trivial⟩) ⟨⟨k0+1,BC dT aF⟩,hF.next (by rw[fS];exact xg) (by rw[fS];exact Ba),?_,by dsimp only;rw[List.length_append];omega,?_,up_same _ _ _,?_,oM,oM,oM,oM,oM,oM⟩ (by dsimp only;rw[List.length_append,List.length_singleton];omega))
       .dsimp only;rw[List.length_append];rfl
       .dsimp only;rw[Br (by rw[List.length_append,List.length_singleton];omega)];exact De
       .dsimp only;exact(aC oG (aC oG rfl)).trans I2
       .dsimp only;exact(aC oG (aC oG rfl)).trans eo
     .clear N6 N7;rintro s ⟨w,q,M,nx4,gV,mq,X6,mo,hF,Nm,De,l1,l2,hWy⟩
      have X7:(if o=q then none else(M o).map (Row.sub (fz0 q (w.map I) (prog.cellsOf 3))))=some (.cells (o6 C) 174):=by
       rw[if_neg (Ne.symm X6),mo];show some (Row.cells ((o6 C).map _) 174)=_;rw[acf]
      refine⟨_,gV.trans (lO (l:=[(0,.pt (bA f beh ahd c)),(1,I fn),(2,I J),(8,.pt [.im (um U)]),(22,.rp o 0),(23,I C.length),(179,au l),(180,I l.length),(181,I i),(26,au w)]) (ml:=[(o,.cells (o6 C) 174)]) mq ⟨rfl,rfl,rfl,rfl,if_neg (Ne.symm X6),rfl,rfl,rfl,rfl,?_,trivial⟩ ⟨X7,trivial⟩),aj ?_⟩
      .show(if q=q then D.sl (((w.map I).drop 0).take (w.length*prog.cellsOf 3)) w.length else _)=_;rw[if_pos rfl,c3,List.drop_zero,Nat.mul_one,df oS]
      .have qw:bf [(o,.cells (o6 C) 174)] o=some (.cells (o6 C) 174):=by simp[bf]
       generalize bf [(o,Row.cells (o6 C) 174)]=M3 at qw;clear mq mo X7 gV
       have Wx:∀ x∈C++[w],iB U fn J x/\x.getD (x.length - 1) 0=(J:Int)/\Au (aA beh) fn J U (x.getD 1 0) x:=fun x hx=>by
        rcases List.mem_append.1 hx with g|g
        .exact om x g
        .simp only[List.mem_singleton] at g;subst g;exact⟨hF,Nm,by rw[De];exact hWy⟩
       have Wy:(C++[w]).map (fun w=>w.getD 1 0)=(l.take (i+1)).filter (fun c=>eh U ((fn:Int),true) (c,false)):=by
        rw[vP,List.map_append,xU,if_pos rfl];show _++[w.getD 1 0]=_;rw[De]
       have ax:=qw;rcases C with _|⟨a,_|⟨b,C⟩⟩
       .have ax:M3 o=some (.cells [.z,.z] 174):=qw;refine aq ?_;refine cA (fG (d:=.sl _ _) (cs':=_) rfl rfl ax rfl rfl) ak (dt V.h V.h (by first|(simp;done)|exact⟨rfl,bD rfl⟩|(simp;omega)) rfl) ?_;refine af (gA (aq ?_));refine af ?_;show AOps _ _ _ _ _ _ _ _ _;refine ag ?_;refine af (aK (i+1,[w],_,_) (ap eH) ⟨oM,(show _<=2 from by simp),Wx,Wy,up_same _ _ _,oM⟩ oM)
       .have ax:M3 o=some (.cells [au a,.z] 174):=qw;refine aq ?_;refine cA (fG (d:=.sl _ _) (cs':=_) rfl rfl ax rfl rfl) ak (dt V.h V.h (by first|(simp;done)|exact⟨rfl,bD rfl⟩|(simp;omega)) rfl) ?_;refine af (gA (aq ?_));refine af ?_;show AOps _ _ _ _ _ _ _ _ _;refine ag ?_;refine af (aK (i+1,[a,w],_,_) (ap eH) ⟨oM,(show _<=2 from by simp),Wx,Wy,up_same _ _ _,oM⟩ oM)
       .simp at aj';omega
  .have a9:¬ i<l.length:=by simpa using h
   rw[df oG] at xU;have N8:C.length=2:=by rw[<- L8, <- xU,List.length_map]
   obtain⟨w1,w2,rfl⟩:∃ a b,C=[a,b]:=by
    match C,N8 with
    |[a,b],_=>exact⟨a,b,rfl⟩
   have Oa:=MN.filter (fun c=>eh U ((fn:Int),true) (c,false));rw[<- xU] at Oa;refine⟨w1,w2,M,nx,ap eH,hM,(om w1 oS).1,(om w2 oS).1,(om w1 oS).2.1,(om w2 oS).2.1,fun e=>?_,.inr ⟨by rw[bN,hl];exact jH,U,w1,w2,hW,by rw[bN,hl];exact xU,fun w hw=>(om w hw).2.2,rfl⟩⟩;simp at Oa;exact Oa (by simpa using e)
 .rintro s ⟨w1,w2,M,nx,gV,hM,f1,f2,e1,e2,aE,NQ⟩;refine⟨_,gV,dE aaO ?_⟩;have ax:=hM;refine bB ?_;refine a8 bc (aY (fj rfl rfl ⟨⟨w1,w2,rfl,f1.X8 hU oG e1,f2.X8 hU oG e2,f1.apart hU f2 aE⟩,NQ⟩))
end
section
variable{f:aG}{beh ahd:List (List Int)}{c:D}(hc:Tr c)
include hc
theorem IX{n:Nat}(jd:n<=10000)(cZ:beh.length=n)(my:ahd.length=n)(jt:∀ b,∀ t∈aA beh b,0<=t/\t.toNat<n)(Wn:∀ (c:Nat) (a:Int),a∈aA ahd c↔0<=a/\a.toNat<n/\(c:Int)∈aA beh a.toNat)
 (cR:∀ b,(aA beh b).Nodup) (iP:∀ b,(aA beh b).length<=100000) (A6:∀ b,(aA ahd b).length<=100000) {fn J:Nat} (pd:fn<n) (Da:J<n) (qv:fn≠J) (hR:∀ w,w≠(fn:Int)->w≠(J:Int)->Rf (aA beh) fn w J):
 tF prog 62 [.pt (bA f beh ahd c),I fn,I J] (Wo (aA beh) (aA ahd) fn J):=by
 have a7:∀ x∈[D.pt (bA f beh ahd c),I fn,I J],Tr x:=.cons (z8 hc) (.cons (.s _) (.cons (.s _) .nil));refine NP Wp a7 (fun d h=>aeP d h.1) ?_;rw[ajZ];have py:=tf (beh:=beh) (b:=fn) oG;have kY:=kY (l:=aA beh fn) (v:=(J:Int));have jm:=te (l:=aA beh fn) (x:=(J:Int));generalize hq:eQ (aA beh fn) J=q at kY jm;refine ws (ag ?_);refine af (aB (aj (bK ?_)));refine cl kY ?_;cases q with
 |true=>
  have Wq:=adG (beh:=aA beh) (fr:=(fn:Int)) (to:=(J:Int)) oG (by simpa using jm.1 rfl);have NQ:Cx (aA beh) (aA ahd) fn J (.tup [au [(fn:Int),(J:Int)],au [(fn:Int),(J:Int)]]):=.inl ⟨by simpa using jm.1 rfl,rfl⟩;refine af (dN (aB (az (bK ?_))));refine af (aW (bG [(0,[I fn,I J],3),(1,[I fn,I J],3)] eH (l:=[(6,au [(fn:Int),(J:Int)]),(7,au [(fn:Int),(J:Int)])]) eH) (bX (fj rfl rfl ⟨⟨_,_,rfl,Wq,Wq,fun i h0 hi=>?_⟩,NQ⟩)));simp at hi;omega
 |false=>
 have jH:(J:Int)∉aA beh fn:=fun h=>by
  have:=jm.2 h;cases this
 clear jm hq kY;refine af (gS (bP (aj (ag ?_))));refine cA (fG (d:=.mp _) (cs':=[_]) rfl rfl rfl rfl rfl) ak (dt V.h V.h (by first|(simp;done)|exact⟨rfl,bD rfl⟩|(simp;omega)) rfl) ?_;refine af (aB (az ?_))
 have E1:∀ b,n<=b->aA beh b=[]:=fun b hb=>by
  unfold aA;rw[bl,List.getElem?_eq_none oG];rfl
 have aga:∀ b,∀ t∈aA beh b,ij (t,false)/\ij (t,true):=fun b t ht=>by
  have:=jt b t ht;exact⟨⟨this.1,oM⟩,⟨this.1,oM⟩⟩
 refine SS ?_
 refine af (bR (fun s=>∃ U m nx,Ghost prog s ⟨aD [(0,.pt (bA f beh ahd c)),(1,I fn),(2,I J),(8,.rp 1 0)],m,nx⟩/\2<=nx/\m 0=some (.map (um U))/\m 1=some (.cells [.mp 0] 165)/\iJ (aA beh) fn J 2 U/\(∀ e∈U,ij e.1/\ij e.2)/\N2 U/\vV (aA beh) (aA ahd) fn J 2 U) (dV (α:=Nat×List (ay×ay)×Mem×Nat)
  (fun s=>⟨aD [(0,.pt (bA f beh ahd c)),(1,I fn),(2,I J),(8,.rp 1 0),(44,I s.1)],s.2.2.1,s.2.2.2⟩)
  (fun s=>s.1<=2/\2<=s.2.2.2/\s.2.2.1 0=some (.map (um s.2.1))/\s.2.2.1 1=some (.cells [.mp 0] 165)/\iJ (aA beh) fn J s.1 s.2.1/\(∀ e∈s.2.1,ij e.1/\ij e.2)/\N2 s.2.1/\vV (aA beh) (aA ahd) fn J s.1 s.2.1) (fun s=>2 - s.1) (0,[],_,2)
  (ap eH) ⟨Nat.zero_le _,bF _,rfl,rfl,iJ.nil,fun e h=>(by simp at h),fun x y h=>(by simp at h),.zero⟩ ?_) ?_)
 .rintro⟨r,U,m,nx⟩ ⟨hr,fM,mu,h8,hU,us,Db,FN⟩;dsimp only at hr fM mu h8 hU us Db FN ⊢;refine SS ?_;refine af ⟨_,rfl,fun h=>?_,fun h=>?_⟩
  .have FP:r<2:=by
    have:(r:Int)<2:=by simpa using h
    omega
   show AW _ _ _ _ (scopeQ _) _;refine ws (ag ?_);refine cA (fG (d:=.mp _) (cs':=[_]) rfl rfl (up_same _ _ _) rfl rfl) ak (dt V.h V.h (by first|(simp;done)|exact⟨rfl,bD rfl⟩|(simp;omega)) rfl) ?_;refine er (aP ?_);refine af (az ?_);have NR:ij ((fn:Int),true):=⟨oM,oM⟩
   refine aI (gO rfl (aC oG (aC oG (up_same _ _ _))) rfl V.h) ak (gP V.h V.h rfl) (ag ?_);refine cA (Hx (es:=[]) (key:=pZ ((fn:Int),true)) (v:=.agg (eU ((fn:Int),true))) rfl (aC oG (aC oG (aC oG (aC oG (up_same _ _ _))))) rfl rfl Ce) cv ⟨Cf,Cc _ (ju NR),rfl⟩ (af (so (l:=[(0,.pt (bA f beh ahd c)),(1,I fn),(2,I J),(8,.rp 1 0),(44,I r),(9,.rp (nx+1) 0),(10,.rp (nx+2) 0)]) ⟨rfl,rfl,rfl,rfl,rfl,rfl,rfl,trivial⟩ fun M1 j3=>aj ?_));have f0:M1 0=some (.map (um U)):=(dI j3 mu)
   have f1:M1 1=some (.cells [.mp 0] 165):=(dI j3 h8)
   have fc:M1 nx=some (.map (lK [(((fn:Int),true),((fn:Int),true))])):=(dI j3 h8)
   have f9:M1 (nx+1)=some (.cells [.mp nx] 166):=(dI j3 h8)
   have f10:M1 (nx+2)=some (.cells (eU ((fn:Int),true)) 168):=(dI j3 h8)
   clear j3 mu h8;have ax:=f10;refine SS ?_;refine Wi ?_;refine SS ?_;refine cA (fG (d:=.rs _ _ _) (cs':=[_]) rfl rfl (up_same _ _ _) rfl rfl) ak (dt V.h V.h (by first|(simp;done)|exact⟨rfl,bD rfl⟩|(simp;omega)) rfl) ?_;refine af (az (ag ?_));refine af (so (l:=[(0,.pt (bA f beh ahd c)),(1,I fn),(2,I J),(8,.rp 1 0),(44,I r),(9,.rp (nx+1) 0),(10,.rp (nx+2) 0),(11,.rp (nx+4) 0),(12,.fn (.func 129) [] [.rp (nx+1) 0,.rp 1 0,.rp (nx+4) 0])]) ⟨rfl,rfl,rfl,rfl,rfl,rfl,rfl,rfl,rfl,trivial⟩ fun M2 ik=>aaJ ?_)
   have NS:qu 1 (nx+1) (nx+4) 0 nx (nx+3) M2 (nx+5) U [(((fn:Int),true),((fn:Int),true))] [((fn:Int),true)] 0:=by
    refine⟨(dI ik f1),(dI ik f9),(dI ik f9),(dI ik f0),(dI ik fc),⟨[],(dI ik f9),rfl⟩,oG,oG,us,fun e he=>?_,oS⟩;simp only[List.mem_singleton] at he;subst he;exact⟨NR,NR⟩
   have Dc:M2 (nx+2)=some (.cells (eU ((fn:Int),true)) 168):=(dI ik f10)
   clear ik f0 f1 fc f9 f10 ax;have NT:SR (aA beh) fn J U [(((fn:Int),true),((fn:Int),true))] [((fn:Int),true)]:=SR.init;have hr2:((r:Nat):Int)<=1:=by omega
   have FQ:∀ e∈U,0<=e.1.1/\0<=e.2.1:=fun e he=>⟨(us e he).1.1,(us e he).2.1⟩
   have hK0:∀ k∈bY [(((fn:Int),true),((fn:Int),true))],wP n fn J k:=fun k hk=>by
    simp only[bY,List.map_cons,List.map_nil,List.mem_singleton] at hk;subst hk;exact⟨oM,oM,(fun h=>by cases h),fun _=>by dsimp only;omega⟩
   refine bR (fun s=>∃ cm op m nx',Ghost prog s ⟨aD [(0,.pt (bA f beh ahd c)),(1,I fn),(2,I J),(8,.rp 1 0),(44,I r),(9,.rp (nx+1) 0),(10,.rp (nx+2) 0)],m,nx'⟩/\m 0=some (.map (um U))/\m 1=some (.cells [.mp 0] 165)/\m nx=some (.map (lK cm))/\m (nx+1)=some (.cells [.mp nx] 166)/\(∀ e∈cm,ij e.1/\ij e.2)/\SR (aA beh) fn J U cm op/\m (nx+2)=some (.cells (eU ((fn:Int),true)) 168)/\((J:Int),false)∈bY cm/\nx+5<=nx'/\Es (aA beh) (aA ahd) fn J U cm) (yx (α:=List (ay×ay)×List ay×Nat×Nat×Mem×Nat)
    (fun s=>⟨aD [(0,.pt (bA f beh ahd c)),(1,I fn),(2,I J),(8,.rp 1 0),(44,I r),(9,.rp (nx+1) 0),(10,.rp (nx+2) 0),(11,.rp (nx+4) 0),(12,.fn (.func 129) [] [.rp (nx+1) 0,.rp 1 0,.rp (nx+4) 0])],s.2.2.2.2.1,s.2.2.2.2.2⟩)
    (fun s=>qu 1 (nx+1) (nx+4) 0 nx s.2.2.1 s.2.2.2.2.1 s.2.2.2.2.2 U s.1 s.2.1 s.2.2.2.1/\SR (aA beh) fn J U s.1 s.2.1/\s.2.2.2.2.1 (nx+2)=some (.cells (eU ((fn:Int),true)) 168)/\nx+5<=s.2.2.2.2.2/\s.2.2.1≠nx+2/\s.2.1.length<=s.1.length/\(∀ k∈bY s.1,wP n fn J k)/\∃ k,oi (EK (aA beh) (aA ahd) fn J U) k ([(((fn:Int),true),((fn:Int),true))],[((fn:Int),true)])=some (s.1,s.2.1)) (fun s=>2*(2*n - s.1.length)+s.2.1.length) ([(((fn:Int),true),((fn:Int),true))],[((fn:Int),true)],nx+3,0,M2,nx+5)
    (ap eH) ⟨NS,NT,Dc,bF _,oM,bF _,hK0,0,rfl⟩ ?_) ?_
   .clear NS NT Dc;rintro⟨cm,op,q,off,m,nx'⟩ ⟨hM,hS,vo,Wr,X2,Ws,hK,k0,dT⟩;dsimp only at hM hS vo Wr X2 Ws hK dT ⊢;have⟨h8,h9,kZ,mu,mc,⟨pre,mq,sC⟩,⟨l8,l9,l11,lu,lc,lq⟩,⟨n1,n2,n3,n4,n5,n6,n7,n8,n9,n10,n11,n12,n13,n14,n15⟩,us,cs,ol⟩:=hM;have ax:=kZ;have di:=mq;cases op with
    |nil=>
     exfalso;exact hS.full hU hr2 oG (by simpa using jH) hR ⟨-1,oG,oG⟩
    |cons x op=>
     have eM:decide ((0:Int)<(((x::op).length:Nat):Int))=true:=decide_eq_true (by rw[List.length_cons];omega);refine SS ?_;refine aI (BV rfl di) ak V.h (SS ?_);refine af ⟨_,rfl,fun _=>ws ?_,fun h=>oH⟩
     have Cg:((pre++p6 (x::op)).drop (off+(0:Int).toNat*2)).take 2=eU x:=by
      rw[show off+(0:Int).toNat*2=pre.length by rw[sC];rfl,List.drop_left];rfl
     have iN:(pre++p6 (x::op)).length=off+2*(op.length+1):=by rw[List.length_append,JQ,sC];rfl
     refine SS ?_;refine aI (Hw rfl rfl mq Ic y8) cv ⟨HR,oG,by rw[List.length_cons];omega⟩ (aI (ep (vs:=eU x) rfl mq Wt y8 Cg) cv (ez t168 y8 (by rw[iN];simp;omega)) ?_);refine ag ?_;refine af (az (aI (gO rfl (aC oG (aC oG ax)) rfl V.h) ak (gP V.h V.h rfl) (aI (J9 (a:=1) (b:=((op.length+1:Nat):Int)) rfl (aC oG (aC oG mq)) Ic y8 rfl rfl) cv ⟨⟨HR,rfl⟩,oG,oG,by rw[List.length_cons];omega⟩ (SS ?_))));refine af (so (l:=[(0,.pt (bA f beh ahd c)),(1,I fn),(2,I J),(8,.rp 1 0),(44,I r),(9,.rp (nx+1) 0),(10,.rp (nx+2) 0),(11,.rp (nx+4) 0),(12,.fn (.func 129) [] [.rp (nx+1) 0,.rp 1 0,.rp (nx+4) 0]),(13,.rp nx' 0)]) ⟨rfl,rfl,rfl,rfl,rfl,rfl,rfl,rfl,rfl,rfl,trivial⟩ fun M3 qw=>?_)
     have FR:qu 1 (nx+1) (nx+4) 0 nx q M3 (nx'+1) U cm op (off+2):=by
      refine⟨(dI qw h8),(dI qw h9),?_,(dI qw mu),(dI qw mc),⟨pre++eU x,?_,by rw[List.length_append,sC];rfl⟩,oG,oG,us,cs,by simp at ol;omega⟩
      .rw[qw,up_same,show(((op.length+1:Nat):Int) - 1).toNat=op.length by omega];rfl
      .rw[show pre++eU x++p6 op=pre++p6 (x::op) by rw[List.append_assoc];rfl];exact(dI qw mq)
     have NU:M3 nx'=some (.cells (eU x) 168):=(dI qw mq)
     have Dc:M3 (nx+2)=some (.cells (eU ((fn:Int),true)) 168):=(dI qw vo)
     clear qw h8 h9 kZ mu mc mq ax di vo Cg iN eM hM sC ol;have mA:=hS.IW x oS;have io:=hK x mA;have cJ:=B0 hS hK;obtain⟨xb,xl⟩:=x;obtain⟨C,rfl⟩:=cU io.1;have pz:C<n:=by have:=io.2.1;simpa using this
     refine oI (aj ?_);have ax:=NU;have aj0:q<nx':=by omega
     have aoC:nx+5<=nx':=Wr;have M:SI (aA beh) fn J n nx nx' U cm op ((C:Int),xl) cm op q (off+2) M3 (nx'+1):=⟨FR,hS,hK,rfl,bF _,NU,Dc,oG,X2,oG⟩
     have aor:op.length<cm.length:=by rw[List.length_cons] at Ws;omega
     clear FR ax NU Dc;have ax:=M.ra;cases xl with
     |true=>
      refine aN ?_;refine Wu ?_;refine aP ?_;refine af (aw rfl (fun h=>(by revert h;simp)) fun _=>aj ?_);refine aq ?_;refine af (gH (aB (pI aaK ?_)));have py:=tf (beh:=beh) (b:=C) oG;have ao:=jt C;have jg:=iP C;generalize hl:aA beh C=l at py ao jg;refine bK ?_;refine ag ?_
      refine a8 bc (bR (fun s=>∃ fP jf q2 vp m2 cI,Ghost prog s ⟨aD [(0,.pt (bA f beh ahd c)),(1,I fn),(2,I J),(8,.rp 1 0),(44,I r),(9,.rp (nx+1) 0),(10,.rp (nx+2) 0),(11,.rp (nx+4) 0),(12,.fn (.func 129) [] [.rp (nx+1) 0,.rp 1 0,.rp (nx+4) 0]),(13,.rp nx' 0)],m2,cI⟩/\SI (aA beh) fn J n nx nx' U cm op ((C:Int),true) fP jf q2 vp m2 cI/\(∀ t∈l,t≠(fn:Int)->((((C:Int),true),(t,false)):ay×ay)∉U->(t,false)∈bY fP)/\(fP,jf)=zI fn U C l (cm,op)) (dV (α:=Nat×List (ay×ay)×List ay×Nat×Nat×Mem×Nat)
       (fun s=>⟨aD [(0,.pt (bA f beh ahd c)),(1,I fn),(2,I J),(8,.rp 1 0),(44,I r),(9,.rp (nx+1) 0),(10,.rp (nx+2) 0),(11,.rp (nx+4) 0),(12,.fn (.func 129) [] [.rp (nx+1) 0,.rp 1 0,.rp (nx+4) 0]),(13,.rp nx' 0),(114,au l),(115,I l.length),(116,I s.1)],s.2.2.2.2.2.1,s.2.2.2.2.2.2⟩)
       (fun s=>s.1<=l.length/\SI (aA beh) fn J n nx nx' U cm op ((C:Int),true) s.2.1 s.2.2.1 s.2.2.2.1 s.2.2.2.2.1 s.2.2.2.2.2.1 s.2.2.2.2.2.2/\(∀ j t,j<s.1->l[j]? =some t->t≠(fn:Int)->((((C:Int),true),(t,false)):ay×ay)∉U->(t,false)∈bY s.2.1)/\(s.2.1,s.2.2.1)=zI fn U C (l.take s.1) (cm,op)) (fun s=>l.length - s.1) (0,cm,op,q,off+2,M3,nx'+1)
       (ap eH) ⟨Nat.zero_le _,M,fun j t h=>absurd h (Nat.not_lt_zero _),rfl⟩ ?_) ?_)
      .clear M ax;rintro⟨i,fP,jf,q2,vp,m2,cI⟩ ⟨hi,M,bm,hex⟩;dsimp only at hi M bm hex ⊢;refine SS ?_;refine af ⟨_,rfl,fun h=>?_,fun h=>?_⟩
       .have fX:i<l.length:=by simpa using h
        obtain⟨t,ht⟩:∃ t,l[i]? =some t:=⟨_,aM fX⟩
        have s5:=ao t (bU ht);refine ws (aq ?_);refine er ?_;by_cases Dd:t=(fn:Int)
        .have du:(t !=(fn:Int))=false:=by simp[Dd]
         refine aq ?_;refine af (gR (bS (ag ?_)));refine af (aK (i+1,fP,jf,q2,vp,m2,cI) (ap eH) ⟨oM,M,fun j s hj hs aE b8=>?_,by dsimp only;rw[QZ ht,if_pos Dd];exact hex⟩ oM);by_cases e:j=i
         .subst e;rw[ht] at hs;cases hs;exact absurd Dd aE
         .exact bm j s (by dsimp only at hj;omega) hs aE b8
        .have du:(t !=(fn:Int))=true:=by simp[Dd]
         refine aq ?_;refine af (gH (ff ?_));have ax:=M.ra;refine aP ?_;have aoD:=B0 M.sr M.ky;have aoE:=M.le;refine kN (Ib (x:=((C:Int),true)) (y:=(t,false)) M.nm ⟨oM,oM⟩ (aga C t (by rw[hl];exact bU ht)).1 oG) rfl cv fun d m' je hp=>?_;obtain⟨rfl,y9,jZ,yU⟩:=hp;obtain⟨pB,sZ,q3,tX,mf,zJ,yV,uz⟩:=M.next jt E1 FQ hU.ed (fun hn=>.inl ⟨.out (by rw[bN,hl];exact bU ht) Dd (io.2.2.2 rfl),hn⟩) y9 jZ yU
         refine af (ag ?_);refine af (aK (i+1,pB,sZ,q3,tX,m',je) (ap eH) ⟨oM,mf,fun j s hj hs aE b8=>?_,by dsimp only;rw[QZ ht,if_neg Dd, <- hex];exact uz⟩ oM);by_cases e:j=i
         .subst e;rw[ht] at hs;cases hs;exact zJ b8
         .exact yV _ (bm j s (by dsimp only at hj;omega) hs aE b8)
       .have a9:¬ i<l.length:=by simpa using h
        refine⟨fP,jf,q2,vp,m2,cI,ap eH,M,fun t ht aE b8=>?_,by rw[df oG] at hex;exact hex⟩;obtain⟨j,hj⟩:=cC ht;exact bm j t (by have:=(bw.1 hj).1;omega) hj aE b8
      .clear M ax;rintro s ⟨fP,jf,q2,vp,m2,cI,gV,Ie,bC,hex⟩
       have aF:EK (aA beh) (aA ahd) fn J U (cm,((C:Int),true)::op)=some (if(C:Int)≠(fn:Int)/\eh U ((C:Int),false) ((C:Int),true)=true then rN U ((C:Int),true) (fP,jf) ((C:Int),false) else(fP,jf)):=by
        rw[hex, <- hl];rfl
       refine⟨_,gV,az ?_⟩;have ax:=Ie.ra;refine aN ?_;refine af (so (l:=[(0,.pt (bA f beh ahd c)),(1,I fn),(2,I J),(8,.rp 1 0),(44,I r),(9,.rp (nx+1) 0),(10,.rp (nx+2) 0),(11,.rp (nx+4) 0),(12,.fn (.func 129) [] [.rp (nx+1) 0,.rp 1 0,.rp (nx+4) 0]),(13,.rp nx' 0),(16,.rp cI 0)]) ⟨rfl,rfl,rfl,rfl,rfl,rfl,rfl,rfl,rfl,rfl,rfl,trivial⟩ fun M4 pC=>aj ?_);have aj1:=Ie.lo;have X:=Ie.ext (m':=M4) (nx':=cI+1) (fun i hi=>(dI pC pC)) oG;have NV:M4 cI=some (.cells (eU ((C:Int),false)) 168):=(dI pC pC)
       clear pC Ie ax;have ax:=X.ra;have di:=NV;have gT:=X.nm.h8;have IY:=B0 X.sr X.ky;have IZ:=X.le;have NW:=X.ge;have NX:=X.lo
       have L6:∀ t∈aA beh (((C:Nat):Int)).toNat,t≠(fn:Int)->((((C:Int),true),(t,false)):ay×ay)∉U->(t,false)∈bY fP:=by
        rw[bN,hl];exact bC
       by_cases uA:C=fn
       .have du:((C:Int) !=(fn:Int))=false:=by simp[uA]
        have cJ:=Jv hU.ed (K:=fun y=>y∈bY fP) L6 (fun h=>absurd (by rw[uA]) h);refine aN ?_;(iterate 5 refine z fun _ _=>?_);refine SS ?_;refine af (gR (bS (aK (fP,jf,q2,vp,M4,cI+1) (ap eH) ⟨X.nm,X.sr.pop oS cJ,X.rs,oM,X.qn.1,oM,X.ky,k0+1,BC dT (by rw[aF,if_neg (fun h=>h.1 (by rw[uA]))])⟩ (by dsimp only;rw[List.length_cons];omega))))
       .have du:((C:Int) !=(fn:Int))=true:=by simp;omega
        refine aN ?_;refine bt rfl rfl (gO rfl gT rfl V.h) (fun hc=>⟨ak,(gP V.h V.h rfl)⟩) (bt rfl rfl (ep rfl di V.h V.h rfl) (fun hc=>⟨ak,(ez V.h V.h (by first|(simp;done)|omega|exact bD rfl))⟩) ?_);refine bt rfl rfl (ep rfl ax V.h V.h rfl) (fun hc=>⟨ak,(ez V.h V.h (by first|(simp;done)|omega|exact bD rfl))⟩) ?_;refine SS ?_;refine bt rfl rfl (yr (es:=um U) (key:=mR ((C:Int),false) ((C:Int),true)) rfl X.nm.mu rfl wN (BY Cd _ _ U)) (fun hc=>⟨(by repeat' (first|exact trivial|exact hc|exact rfl|refine And.intro ?_ ?_)),⟨wO,wM _ _ (ju ⟨oM,oM⟩) (ju ⟨oM,oM⟩),yz us⟩⟩) ?_;generalize hu:eh U ((C:Int),false) ((C:Int),true)=ux;refine SS ?_;cases ux with
        |false=>
         have NY:((((C:Int),false),((C:Int),true)):ay×ay)∉U:=by unfold eh at hu;simpa using hu
         have cJ:=Jv hU.ed (K:=fun y=>y∈bY fP) L6 (fun _ h=>absurd h NY);refine af (gR (bS (aK (fP,jf,q2,vp,M4,cI+1) (ap eH) ⟨X.nm,X.sr.pop oS cJ,X.rs,oM,X.qn.1,oM,X.ky,k0+1,BC dT (by rw[aF,if_neg (fun h=>by rw[hu] at h;cases h.2)])⟩ (by dsimp only;rw[List.length_cons];omega))))
        |true=>
         have s6:((((C:Int),false),((C:Int),true)):ay×ay)∈U:=by unfold eh at hu;simpa using hu
         have b8:=Db _ _ s6;refine af (gH (gA (aq ?_)));refine kN (Ib (x:=((C:Int),true)) (y:=((C:Int),false)) X.nm ⟨oM,oM⟩ ⟨oM,oM⟩ oG) rfl cv fun d m' je hp=>?_;obtain⟨rfl,y9,jZ,yU⟩:=hp;obtain⟨pB,sZ,q3,tX,mf,zJ,yV,uz⟩:=X.next jt E1 FQ hU.ed (fun _=>.inr s6) y9 jZ yU
         have cJ:=Jv hU.ed (K:=fun y=>y∈bY pB) (fun t ht h1 h2=>yV _ (L6 t ht h1 h2)) (fun _ _=>zJ b8);clear IY IZ NW NX;have IY:=B0 mf.sr mf.ky;have IZ:=mf.le;have NW:=mf.ge;have NX:=mf.lo;refine af (aK (pB,sZ,q3,tX,m',je) (ap eH) ⟨mf.nm,mf.sr.pop oS cJ,mf.rs,oM,mf.qn.1,oM,mf.ky,k0+1,BC dT (by rw[aF,if_pos ⟨oG,hu⟩, <- uz])⟩ (by dsimp only;rw[List.length_cons];omega))
     |false=>
      by_cases AF:C=J
      .have dY:((C:Int)==(J:Int))=true:=by simp[AF]
       refine aN ?_;refine Wu ?_;refine aP ?_;refine af (gH (aeE (Ts oC (ads oC ⟨cm,_,M3,nx'+1,ap eH,M.nm.mu,M.nm.h8,M.nm.mc,M.nm.h9,M.nm.cs,hS,M.rs,?_,oG,k0,_,dT,?_⟩))))
       .rw[<- AF];exact mA
       .show(if(C:Int)=(J:Int) then none else _)=none;rw[if_pos oG]
      .have dY:((C:Int)==(J:Int))=false:=by simp;omega
       have aj2:(C:Int)≠(fn:Int):=io.2.2.1 rfl;have xg:(C:Int)≠(J:Int):=by omega
       refine aN ?_;(iterate 3 refine z fun _ _=>?_);refine ag ?_;refine af (aw rfl (fun h=>(by revert h;simp)) fun _=>aj ?_);refine aq ?_;refine af (gR (aj (aN ?_)));refine kN (Ib (x:=((C:Int),false)) (y:=((C:Int),true)) M.nm ⟨oM,oM⟩ ⟨oM,oM⟩ oG) rfl cv fun d m' je hp=>?_;obtain⟨rfl,y9,jZ,yU⟩:=hp;obtain⟨pB,sZ,q3,tX,mf,zJ,yV,uz⟩:=M.next jt E1 FQ hU.ed (fun hn=>.inl ⟨.A' aj2 xg,hn⟩) y9 jZ yU
       clear M ax jZ yU cJ y9 aj0;refine af (pI aaL ?_);have py:=tf (beh:=ahd) (b:=C) oG
       have ao:∀ t∈aA ahd C,0<=t/\t.toNat<n:=fun t ht=>by
        have:=(Wn C t).1 ht;exact⟨this.1,this.2.1⟩
       have jg:=A6 C
       have bm:∀ a:Int,0<=a->(C:Int)∈aA beh a.toNat->a∈aA ahd C:=fun a h0 hm=>by
        refine(Wn C a).2 ⟨h0,Nat.lt_of_not_le fun h=>?_,hm⟩;rw[E1 _ h] at hm;cases hm
       generalize hl:aA ahd C=l at py ao jg bm;have ax:=mf.ra;refine bK ?_;refine ag ?_
       refine a8 bc (dV (α:=Nat×List (ay×ay)×List ay×Nat×Nat×Mem×Nat)
        (fun s=>⟨aD [(0,.pt (bA f beh ahd c)),(1,I fn),(2,I J),(8,.rp 1 0),(44,I r),(9,.rp (nx+1) 0),(10,.rp (nx+2) 0),(11,.rp (nx+4) 0),(12,.fn (.func 129) [] [.rp (nx+1) 0,.rp 1 0,.rp (nx+4) 0]),(13,.rp nx' 0),(76,au l),(77,I l.length),(78,I s.1)],s.2.2.2.2.2.1,s.2.2.2.2.2.2⟩)
        (fun s=>s.1<=l.length/\SI (aA beh) fn J n nx nx' U cm op ((C:Int),false) s.2.1 s.2.2.1 s.2.2.2.1 s.2.2.2.2.1 s.2.2.2.2.2.1 s.2.2.2.2.2.2/\(((((C:Int),false),((C:Int),true)):ay×ay)∉U->(((C:Int),true):ay)∈bY s.2.1)/\(∀ j t,j<s.1->l[j]? =some t->(((t,true),((C:Int),false)):ay×ay)∈U->(t,true)∈bY s.2.1)/\(s.2.1,s.2.2.1)=zK U C (l.take s.1) (rN U ((C:Int),false) (cm,op) ((C:Int),true))) (fun s=>l.length - s.1) (0,pB,sZ,q3,tX,m',je)
        (ap eH) ⟨Nat.zero_le _,mf,zJ,fun j t h=>absurd h (Nat.not_lt_zero _),uz⟩ ?_)
       have aF:EK (aA beh) (aA ahd) fn J U (cm,((C:Int),false)::op)=some (zK U C l (rN U ((C:Int),false) (cm,op) ((C:Int),true))):=by
        show(if(C:Int)=(J:Int) then none else some (zK U C (aA ahd C) _))=_;rw[if_neg xg,hl]
       clear mf zJ yV ax uz;rintro⟨i,fP,jf,q2,vp,m2,cI⟩ ⟨hi,M,vW,Ig,hex⟩;dsimp only at hi M vW Ig hex ⊢;refine SS ?_;refine af ⟨_,rfl,fun h=>?_,fun h=>?_⟩
       .have fX:i<l.length:=by simpa using h
        obtain⟨t,ht⟩:∃ t,l[i]? =some t:=⟨_,aM fX⟩
        have s5:=ao t (bU ht);refine ws (aq ?_);refine af (az (aP ?_));refine af (so (l:=[(0,.pt (bA f beh ahd c)),(1,I fn),(2,I J),(8,.rp 1 0),(44,I r),(9,.rp (nx+1) 0),(10,.rp (nx+2) 0),(11,.rp (nx+4) 0),(12,.fn (.func 129) [] [.rp (nx+1) 0,.rp 1 0,.rp (nx+4) 0]),(13,.rp nx' 0),(76,au l),(77,I l.length),(78,I i),(19,.rp cI 0)]) ⟨rfl,rfl,rfl,rfl,rfl,rfl,rfl,rfl,rfl,rfl,rfl,rfl,rfl,rfl,trivial⟩ fun M4 pC=>aj ?_);have aj1:=M.lo;have X:=M.ext (m':=M4) (nx':=cI+1) (fun i hi=>(dI pC pC)) oG;have NV:M4 cI=some (.cells (eU (t,true)) 168):=(dI pC pC)
        clear pC M;have ax:=X.ra;have di:=NV;have gT:=X.nm.h8;have IY:=B0 X.sr X.ky;have IZ:=X.le;refine aP ?_;refine aI (yr (es:=um U) (key:=mR (t,true) ((C:Int),false)) rfl X.nm.mu rfl wN (BY Cd _ _ U)) cv ⟨wO,wM _ _ (ju ⟨oM,oM⟩) (ju ⟨oM,oM⟩),yz us⟩ ?_;generalize hu:eh U (t,true) ((C:Int),false)=ux;cases ux with
        |false=>
         have NY:(((t,true),((C:Int),false)):ay×ay)∉U:=by unfold eh at hu;simpa using hu
         refine af (gR (bS (ag ?_)));refine af (aK (i+1,fP,jf,q2,vp,M4,cI+1) (ap eH) ⟨oM,X,vW,fun j s hj hs s6=>?_,by dsimp only;rw[Q1 ht,hu,if_neg oS];exact hex⟩ oM);by_cases e:j=i
         .subst e;rw[ht] at hs;cases hs;exact absurd s6 NY
         .exact Ig j s (by dsimp only at hj;omega) hs s6
        |true=>
         have s6:(((t,true),((C:Int),false)):ay×ay)∈U:=by unfold eh at hu;simpa using hu
         have b8:=Db _ _ s6;refine af (gH (ff (aq ?_)));refine kN (Ib (x:=((C:Int),false)) (y:=(t,true)) X.nm ⟨oM,oM⟩ ⟨oM,oM⟩ oG) rfl cv fun d m' je hp=>?_;obtain⟨rfl,y9,jZ,yU⟩:=hp;obtain⟨pB,sZ,q3,tX,mf,zJ,yV,uz⟩:=X.next jt E1 FQ hU.ed (fun _=>.inr s6) y9 jZ yU
         refine af (ag ?_);refine af (aK (i+1,pB,sZ,q3,tX,m',je) (ap eH) ⟨oM,mf,fun h=>yV _ (vW h),fun j s hj hs aj3=>?_,by dsimp only;rw[Q1 ht,hu,if_pos rfl, <- hex];exact uz⟩ oM);by_cases e:j=i
         .subst e;rw[ht] at hs;cases hs;exact zJ b8
         .exact yV _ (Ig j s (by dsimp only at hj;omega) hs aj3)
       .have a9:¬ i<l.length:=by simpa using h
        have cJ:=aaM hU.ed FQ (b:=(C:Int)) (K:=fun y=>y∈bY fP) vW (fun a h0 hm s6=>by
         obtain⟨j,hj⟩:=cC (bm a h0 hm)
         exact Ig j a (by have:=(bw.1 hj).1;omega) hj s6)
        have IY:=B0 M.sr M.ky;have IZ:=M.le;have NW:=M.ge;have NX:=M.lo;refine aK (fP,jf,q2,vp,m2,cI) (ap eH) ⟨M.nm,M.sr.pop (by simpa using xg) cJ,M.rs,oM,M.qn.1,oM,M.ky,k0+1,BC dT (by rw[aF];rw[df oG] at hex;rw[hex])⟩ (by dsimp only;rw[List.length_cons];omega)
   .clear NS NT Dc;rintro s ⟨cm,op,m,nx',gV,mu,h8,mc,h9,cs,hS,vo,uv,nj,aj4⟩;refine⟨_,gV,az ?_⟩;refine aP ?_;obtain⟨i0,X3⟩:=TR.init hS hU uv
    refine af (aeN (α:=Nat×ay×List (ay×ay)×Nat×Mem×Nat)
     (fun s=>⟨aD [(0,.pt (bA f beh ahd c)),(1,I fn),(2,I J),(8,.rp 1 0),(44,I r),(9,.rp (nx+1) 0),(10,.rp (nx+2) 0),(20,.rp s.2.2.2.1 0)],s.2.2.2.2.1,s.2.2.2.2.2⟩)
     (fun s=>(∃ k,oi (HS (fn:Int) cm) k (((J:Int),false),U)=some (s.2.1,s.2.2.1))/\TR (aA beh) fn J U cm s.1 s.2.1 s.2.2.1/\N2 s.2.2.1/\(∀ e∈s.2.2.1,ij e.1/\ij e.2)/\s.2.2.2.2.1 0=some (.map (um s.2.2.1))/\s.2.2.2.2.1 1=some (.cells [.mp 0] 165)/\s.2.2.2.2.1 nx=some (.map (lK cm))/\s.2.2.2.2.1 (nx+1)=some (.cells [.mp nx] 166)/\s.2.2.2.2.1 (nx+2)=some (.cells (eU ((fn:Int),true)) 168)/\s.2.2.2.2.1 s.2.2.2.1=some (.cells (eU s.2.1) 168)/\nx+5<=s.2.2.2.1/\s.2.2.2.1<s.2.2.2.2.2)
     (fun s=>s.1) (i0,((J:Int),false),U,nx',_,_)
     (ap eH) ⟨⟨0,rfl⟩,X3,Db,us,(q9 mu),(q9 h8),(q9 mc),(q9 h9),(q9 vo),(q9 h9),oM,oM⟩ ?_)
    clear mu h8 mc h9 vo X3 gV;rintro⟨i,y,Vv,a,m,zL⟩ ⟨⟨k0,dT⟩,hT,hN,vs,mu,h8,mc,h9,vo,I0,my,uq⟩;dsimp only at dT hT hN vs mu h8 mc h9 vo I0 my uq ⊢;have ax:=I0;have di:=vo;have xG:flatT prog 168=some [0,1]:=kr;have heg:prog.eqGuardType prog.depth 168=false:=kr
    have X4:(!veqs [.int .i64 y.1,.bool y.2] [.int .i64 (fn:Int),.bool true])= !decide (y=((fn:Int),true)):=by
     rw[<- QY];rfl
    refine ag ?_;generalize Ba:decide (y=((fn:Int),true))=yd at X4;refine aI (UK (us:=[.int .i64 y.1,.bool y.2]) (vs:=[.int .i64 (fn:Int),.bool true]) rfl rfl xG rfl X4) cv ⟨rfl,heg⟩ (af ⟨_,rfl,fun h=>?_,fun h=>?_⟩)
    .have NZ:y≠((fn:Int),true):=by
      intro e;rw[e,decide_eq_true rfl] at Ba;subst Ba;cases h
     have AG:=hT.at_;obtain⟨x0,pw⟩:=AG;have IV:y∈bY cm:=List.mem_map.2 ⟨_,bU pw,rfl⟩;obtain⟨k9,x,rM,zy⟩:=DJ.1 IV
     have FT:cm[i]? =some (y,x):=by
      obtain⟨j,hj⟩:=cC zy;rw[KP hS.nd pw hj];exact hj
     obtain⟨j,dm,X5⟩:=hT.step hS FT NZ
     have fC:uw (aA beh) fn J U x y:=by
      refine(hS.par i y x ?_ FT).1;rcases Nat.eq_zero_or_pos i with g|g
      .subst g;rw[hS.hd] at FT;simp only[aV,bQ] at FT;exact absurd FT.1.symm NZ
      .exact g
     have aj5:x≠y:=aeQ hU.ed fC;have aj6:=adI hT.ed hN hT.nd aj5;have zG:=(cs _ zy).1;have xS:=(cs _ zy).2;dsimp only at xS zG
     have XN:∀ e∈lZ Vv x y,ij e.1/\ij e.2:=fun e he=>by
      unfold lZ at he;split at he
      .exact vs e (List.mem_of_mem_erase he)
      .rcases List.mem_append.1 he with g|g
       .exact vs e g
       .simp only[List.mem_singleton] at g;subst g;exact⟨xS,zG⟩
     have AE:gotD prog 166 false (lookD (pZ y) (lK cm))=.agg (eU x):=by rw[rM];rfl
     refine O9 (fun s=>∃ m2 cI,Ghost prog s ⟨aD [(0,.pt (bA f beh ahd c)),(1,I fn),(2,I J),(8,.rp 1 0),(44,I r),(9,.rp (nx+1) 0),(10,.rp (nx+2) 0),(20,.rp a 0)],m2,cI⟩/\zL<=cI/\m2 0=some (.map (um (lZ Vv x y)))/\∀ i,i<zL->i≠0->m2 i=m i) (az ?_) fun s hs=>?_
     .have gT:=h9;refine ag ?_;refine aI (yr (es:=lK cm) (key:=pZ y) rfl mc rfl Ce AE) cv ⟨Cf,Cc _ (ju zG),G3 cs⟩ (ag ?_);refine af (so (l:=[(0,.pt (bA f beh ahd c)),(1,I fn),(2,I J),(8,.rp 1 0),(44,I r),(9,.rp (nx+1) 0),(10,.rp (nx+2) 0),(20,.rp a 0),(21,.rp zL 0)]) ⟨rfl,rfl,rfl,rfl,rfl,rfl,rfl,rfl,rfl,trivial⟩ fun M5 FU=>aj ?_);have jZ:∀ i,i<zL->M5 i=m i:=fun i hi=>(dI FU FU)
      have g21:M5 zL=some (.cells (eU x) 168):=(dI FU FU)
      have N5:M5 0=some (.map (um Vv)):=(jZ 0 oG).trans mu;clear FU ax di gT;have ax:=(jZ 1 oG).trans h8;have di:=(jZ a uq).trans I0;have gT:=g21;refine aP ?_;refine aI (yr (es:=um Vv) (key:=mR y x) rfl N5 rfl wN (BY Cd y x Vv)) cv ⟨wO,wM _ _ (ju zG) (ju xS),yz vs⟩ ?_;generalize hu:eh Vv y x=ux;cases ux with
      |true=>
       have hyx:(y,x)∈Vv:=by unfold eh at hu;simpa using hu
       refine af (gH (nE (aP ?_)));refine cA (aeO (es:=um Vv) (key:=mR y x) rfl N5 rfl wN) cv ⟨wO,wM _ _ (ju zG) (ju xS),yz vs⟩ (af ⟨_,_,ap eH,oG,?_,fun i hi h0=>?_⟩)
       .unfold lZ;rw[hu,if_pos rfl, <- aeM hyx];exact up_same _ _ _
       .exact(aC h0 rfl).trans (jZ i hi)
      |false=>
       refine af (gR (nE (aP ?_)));refine cA (Hx (es:=um Vv) (key:=mR x y) (v:=B true) rfl N5 rfl rfl wN) cv ⟨wO,wM _ _ (ju xS) (ju zG),yz vs⟩ ?_
       have aj7:(x,y)∉Vv:=fun hm=>by
        have cR:=X5.nd;unfold lZ at cR;rw[hu,if_neg oS,List.nodup_append] at cR;exact cR.2.2 _ hm _ oS rfl
       refine af ⟨_,_,ap eH,oG,?_,fun i hi h0=>?_⟩
       .unfold lZ;rw[hu,if_neg oS, <- aeL aj7];exact up_same _ _ _
       .exact(aC h0 rfl).trans (jZ i hi)
     .obtain⟨m2,cI,gV,AV,mu2,jZ⟩:=hs;refine⟨_,gV,aB (aj ?_)⟩;have ax:=(jZ a uq oG).trans I0;refine SS ?_;refine af (az (ag ?_));refine af (so (l:=[(0,.pt (bA f beh ahd c)),(1,I fn),(2,I J),(8,.rp 1 0),(44,I r),(9,.rp (nx+1) 0),(10,.rp (nx+2) 0),(20,.rp cI 0)]) ⟨rfl,rfl,rfl,rfl,rfl,rfl,rfl,rfl,trivial⟩ fun M6 FV=>qG (rf:=true) (id:=_) ?_);have MM:∀ i,i<zL->i≠0->M6 i=m i:=fun i hi h0=>(dI FV (jZ i hi h0))
      have g20:M6 cI=some (.cells (eU y) 168):=(dI FV FV)
      have mu6:M6 0=some (.map (um (lZ Vv x y))):=(dI FV mu2)
      have mc6:=(MM nx oG oG).trans mc;clear FV ax di;have ax:=(MM (nx+1) oG oG).trans h9;have di:=g20;refine ag ?_;refine aI (yr (es:=lK cm) (key:=pZ y) rfl mc6 rfl Ce AE) cv ⟨Cf,Cc _ (ju zG),G3 cs⟩ (cA (jh rfl rfl di rfl) ak (dt V.h V.h (by first|(simp;done)|exact⟨rfl,bD rfl⟩|(simp;omega)) (by rfl)) ?_);have I1:∀ i,i<zL->i≠0->∀ r,up M6 cI r i=m i:=fun i hi h0 r=>(aC oG rfl).trans (MM i hi h0);refine af (aK (j,x,lZ Vv x y,cI,_,_) (ap eH) ⟨⟨k0+1,BC dT (by unfold HS;rw[if_neg NZ,adJ hS.nd zy];rfl)⟩,X5,aj6,XN,(q9 mu6),(I1 1 oG oG _).trans h8,(I1 nx oG oG _).trans mc,(I1 (nx+1) oG oG _).trans h9,(I1 (nx+2) oG oG _).trans vo,up_same _ _ _,oM,oM⟩ dm)
    .have hyf:y=((fn:Int),true):=by
      cases yd with
      |true=>simpa using Ba
      |false=>cases h
     subst hyf;have sH:=hT.fin hU;show AOps _ _ _ _ _ _ _ _ _;refine ag ?_;refine af (aK (r+1,Vv,m,zL) (ap eH) ⟨oM,oM,mu,h8,by dsimp only;push_cast;exact sH,vs,hN,FN.succ aj4 ⟨k0,dT⟩⟩ oM)
  .have FP:r=2:=by
    have:¬ (r:Int)<2:=by simpa using h
    omega
   subst FP;exact⟨U,m,nx,ap eH,fM,mu,h8,hU,us,Db,FN⟩
 rintro s ⟨U,m,nx,gV,fM,mu,h8,hU,us,Db,FN⟩;obtain⟨s',h1,h2⟩:=aj8 (f:=f) (ahd:=ahd) (c:=c) jd cZ jt cR iP pd Da qv fM mu h8 hU us FN jH;exact⟨s',gV.trans h1,h2⟩
end
end Go.Proofs.Tryz.K
namespace Go.Argus
def jv(G:Nat->List Int)(n:Nat):List D:=(List.range n).map fun i=>au (G i)
@[simp] theorem aok (G : Nat -> List Int) (n : Nat) : (jv G n).length = n := by simp [jv]
theorem RO{G:Nat->List Int}{n i:Nat}{l:List Int}:(jv G n).set i (au l)=jv (up G i l) n:=by
 unfold jv;rw[GF];refine congrArg (fun F=>(List.range n).map F) (funext fun k=>?_);by_cases e:k=i
 .subst e;rw[up_same,up_same]
 .rw[up_ne _ _ e,up_ne _ _ e]
def pT(f:aG)(d:D):Prop:=
 if dG f=0 then ∃ x:eV,d=.tup [.agg (ct x),I 0]/\oQ (aT f) (c9 f) f.blocks.length x/\At x else d=.tup [.agg [.z,.z,.z],I (dG f)]
theorem Q2{f:aG}(d:D)(h:pT f d):Tr d:=by
 unfold pT at h;split at h
 .obtain⟨x,rfl,_⟩:=h;exact .tup (.cons (.agg (wm x)) (.cons (.s _) .nil))
 .subst h;exact .tup (.cons (.agg (.cons .z (.cons .z (.cons .z .nil)))) (.cons (.s _) .nil))
theorem adM(f:aG)(b:Nat):(aT f b).Nodup:=by
 rcases Nat.lt_or_ge b f.blocks.length with g|g
 .rw[show aT f b=_ from yv (aM g)];exact(JR _).imp fun h=>by omega
 .rw[show aT f b=[] from GG g];exact List.nodup_nil
theorem aaP(f:aG)(d:eV):wv f d=qP f d:=by
 unfold wv qP;split
 .rename_i C;rw[aci (xf (tE (Dt C)))]
 .rfl
theorem Zd{f:aG}{d:eV}(C:dG f=0)(h:oQ (aT f) (c9 f) f.blocks.length d):wv f d=.tup [B true,I 0]:=by
 unfold wv;rw[if_pos C,(RQ (xf (tE (Dt C)))).2 h]
theorem ZO{f:aG}{d:eV}(C:dG f=0)(h:oQ (aT f) (c9 f) f.blocks.length d):d.par=gg (aT f) (c9 f) f.blocks.length:=aaQ (xf (tE (Dt C))) h
end Go.Argus
namespace Go.Proofs.Tryz.K
theorem adN{f:aG}(C:dG f≠0):tF prog 20 [.agg (aH f)] (pT f):=by
 have M:=RN C;refine NP Ih (.cons (.agg (iq f)) .nil) Q2 ?_
 have J:pT f (.tup [.agg [.z,.z,.z],I (dG f)]):=by
  unfold pT;rw[if_neg C]
 generalize pT f=Q at J;generalize dG f=e at M C J;have du:(e !=0)=true:=by simpa using C
 rw[Wz];refine ws (aq ?_);refine er (SS ?_);refine cl M (SS ?_);refine XV ?_;refine ag ?_;refine akc ?_;refine SS ?_;refine af (aB (aj (ag ?_)));refine af (dN (aB (aj (aP ?_))));refine af (bX (JE (mF rfl rfl Oc Od rfl t30 (bD rfl)) rfl J))
theorem ZM{f:aG}(C:dG f=0)(hr:EL (.agg (aH f))):∀ b:Nat,bM (aT f) f.blocks.length b->b≠0->∃ w:List Int×List Int,PCall prog 62 [.pt (wF f),I (fu (aT f) (c9 f) f.blocks.length b:Nat),I b] (.tup [au w.1,au w.2])/\
 me (aT f) (fu (aT f) (c9 f) f.blocks.length b:Nat) b w.1/\me (aT f) (fu (aT f) (c9 f) f.blocks.length b:Nat) b w.2/\∀ i,0<i->i+1<w.1.length->w.1.getD i 0∉w.2:=fun b X hz=>by
 have hf:jx f=true:=by
  unfold dG at C;split at C
  .assumption
  .cases C
 have J:=tE hf;have hg:=xf J;have akd:=J.mz;obtain⟨_,Oe,ao⟩:=HB hg X hz;have M:=wG hg Oe;have Nj:=wG hg X;have aE:fu (aT f) (c9 f) f.blocks.length b≠b:=fun e=>by rw[e] at ao;omega
 have FW:=IX (f:=f) (beh:=bI f) (ahd:=cM f.blocks) (c:=dv (cO (aA (bI f)) f.blocks.length (-1))) (.sl (.map fun _=>.s _)) (n:=f.blocks.length) oG (by simp[bI]) (by simp[cM]) hg.to hg.rI (adM f) (KQ J) (G0 J) M Nj aE (fun w h1 h2=>adO hg X hz h1 h2);obtain⟨d,⟨⟨l1,l2,rfl,h1,h2,h3⟩,_⟩,hc⟩:=ZL FW (fun d d' h h'=>h.2.vt h'.2) (adL (ZK (HA C) hr) _ _);exact⟨(l1,l2),hc,h1,h2,h3⟩
theorem Tt{n:Nat}:∀ (k:Nat) (d d':D),(List.replicate n D.z)[k]? =some d->(jv (fun _=>[]) n)[k]? =some d'->Wk d d':=fun k d d' hd C=>by
 have h1:=bU hd;rw[(List.mem_replicate.1 h1).2];unfold jv at C;rw[List.getElem?_map,dw] at C;obtain⟨q,_,rfl⟩:=C;exact WA
def iQ(W:Nat->List Int):List Int->Nat->List Int:=fun xs=>xs.foldl (fun G b=>if 0<b then up G b.toNat (W b.toNat) else G) fun _=>[]
theorem RP(W:Nat->List Int)(b:Nat):∀ xs:List Int,(∀ x∈xs,0<=x)->iQ W xs b=if(b:Int)∈xs/\0<b then W b else []:=fun xs=>by
 unfold iQ
 induction xs using Hh with
 |h0=>intro _;simp
 |h1 xs x ih=>
  intro hx;rw[List.foldl_append,List.foldl_cons,List.foldl_nil];have ih:=ih fun y hy=>hx y (by simp[hy]);have h0:=hx x oS;by_cases hp:0<x
  .rw[if_pos hp];by_cases e:b=x.toNat
   .have e1:(b:Int)=x:=by omega
    rw[e,up_same,if_pos ⟨by rw[<- e,e1];simp,oG⟩]
   .have e1:(b:Int)≠x:=by omega
    rw[up_ne _ _ e,ih];simp[e1]
  .rw[if_neg hp,ih];by_cases e:(b:Int)=x
   .have:¬ 0<b:=by omega
    simp[this]
   .simp[e]
structure I3(par:List Int)(n:Nat)(G1 G2:Nat->List Int)(m:Mem)(nx:Nat):Prop where
 Nr:6<=nx
 m1:m 1=some (.cells [.z,.z,.z] 30)
 m3:m 3=some (.cells (jv G1 n) 27)
 m4:m 4=some (.cells (jv G2 n) 27)
 m5:m 5=some (.cells [au par,.rs 3 0 n,.rs 4 0 n] 30)
theorem adP{P:Program}{Y:YSpec}{rf:Bool}{Q:Exit->St->Prop}{st:St}[eC Y]{ops:Array Oper}{cf:List (Nat×Nat)}{i:Nat}(hi:drawInfo ops=some cf)(h:AOps P Y ops true cf (gK (Q .normal)) ops.toList st []):AW P Y rf (.region i ops true) Q st:=BW (rf:=rf) (id:=i) hi (AOps.lA h fun _ h=>h)
theorem ake{f:aG}{xs par:List Int}{n:Nat}(hn:f.blocks.length=n)(jd:n<=10000){R:Nat->Prop}{Of:Nat->Nat}{W1 W2:Nat->List Int}{Q:D->Prop}{M:D}(np:PCall prog 51 [.agg (aH f)] (.tup [.pt (bA f (bI f) (cM f.blocks) M),I 0]))
 (Bc:PCall prog 60 [.pt (bA f (bI f) (cM f.blocks) M)] (au par)) (xV:SeqA prog 61 [.pt (bA f (bI f) (cM f.blocks) M)] [] (xs.map fun n=>[I n])) (cz:∀ b:Nat,(b:Int)∈xs↔R b) (pw:∀ x∈xs,∃ b:Nat,x=b)
 (AG:∀ b:Nat,R b->b≠0->par[b]? =some ((Of b:Nat):Int)) (kX:∀ b:Nat,R b->b<n) (FW:∀ b:Nat,R b->b≠0->PCall prog 62 [.pt (bA f (bI f) (cM f.blocks) M),I (Of b:Nat),I b] (.tup [au (W1 b),au (W2 b)]))
 (hQt:∀ d,Q d->Tr d) (hQ:Q (.tup [.agg [au par,bx ((List.range n).map (iQ W1 xs)),bx ((List.range n).map (iQ W2 xs))],I 0])):tF prog 20 [.agg (aH f)] Q:=by
 refine NP Ih (.cons (.agg (iq f)) .nil) hQt ?_;generalize bI f=BL at np Bc xV FW;generalize cM f.blocks=AL at np Bc xV FW;rw[Wz];refine ws (aq ?_);refine af (az (SS ?_));refine cl np (SS ?_);refine XW ?_;refine ag ?_;refine akf ?_;refine SS ?_;refine af (aW (lO (i:=2) (e:=79) (cs:=[.pt (bA f BL AL M)]) (l:=[(2,.rp 1 0),(4,.pt [.pt (bA f BL AL M)]),(5,I 0)]) (ml:=[(1,.cells [.z,.z,.z] 30)]) rfl eH eH) (aB (aj (ag ?_))));refine af (gS (bP (aj (dz ?_))));refine af (pI acg ?_);have dn:((f.blocks.length:Nat):Int).toNat=n:=hn;refine SS ?_;refine cl Bc (dz ?_)
 refine a8 bc ⟨_,(aQ (l:=[(2,.rp 1 0),(4,.pt [.pt (bA f BL AL M)]),(7,.rp 5 0)]) (ml:=[(1,.cells [.z,.z,.z] 30),(3,.cells (List.replicate n .z) 27),(4,.cells (List.replicate n .z) 27),(5,.cells [au par,.rs 3 0 n,.rs 4 0 n] 30)]) eH ⟨rfl,?_,?_,?_,trivial⟩).trans
  (.weak _ _ _ (bf [(1,.cells [.z,.z,.z] 30),(3,.cells (jv (fun _=>[]) n) 27),(4,.cells (jv (fun _=>[]) n) 27),(5,.cells [au par,.rs 3 0 n,.rs 4 0 n] 30)]) _ (fun _=>Hi _) fun i=>?_),eI (fun s=>∃ m nx,Ghost prog s ⟨aD [(2,.rp 1 0),(7,.rp 5 0)],m,nx⟩/\I3 par n (iQ W1 xs) (iQ W2 xs) m nx) (aj ?_) fun s hs=>?_⟩
 .exact congrArg (fun c=>some (Row.cells c 27)) ((congrArg (fun k=>replD k [D.z]) dn).trans (BJ n))
 .exact congrArg (fun c=>some (Row.cells c 27)) ((congrArg (fun k=>replD k [D.z]) dn).trans (BJ n))
 .exact congrArg (fun k=>some (Row.cells [au par,.rs 3 0 k,.rs 4 0 k] 30)) dn
 .by_cases e:i=3
  .subst e;exact .inr ⟨_,_,27,rfl,rfl,oS,Tt⟩
  .by_cases e4:i=4
   .subst e4;exact .inr ⟨_,_,27,rfl,rfl,oS,Tt⟩
   .exact .inl (by simp[bf,e,e4])
 .refine ag ?_;refine af (oI ?_);refine⟨rfl,trivial,61,_,[],xs.map (fun n=>[I n]),fun k m nx=>I3 par n (iQ W1 (xs.take k)) (iQ W2 (xs.take k)) m nx,rfl,xV,?_,?_,?_,?_⟩
  .intro y hy;obtain⟨n,_,rfl⟩:=List.mem_map.1 hy;exact⟨rfl,.cons (.s _) .nil⟩
  .exact⟨bF _,rfl,rfl,rfl,rfl⟩
  .rintro k m nx y hy C;simp only[List.getElem?_map,dw] at hy;obtain⟨b,hb,rfl⟩:=hy;obtain⟨J,rfl⟩:=pw b (bU hb);have hR:=(cz J).1 (bU hb);have pz:=kX J hR
   have aF:∀ W:Nat->List Int,iQ W (xs.take (k+1))=if(0:Int)<(J:Int) then up (iQ W (xs.take k)) J (W J) else iQ W (xs.take k):=fun W=>by
    unfold iQ;rw[List.take_add_one,hb,Option.toList_some,List.foldl_append];rfl
   have X:∀ m nx,I3 par n (if(0:Int)<(J:Int) then up (iQ W1 (xs.take k)) J (W1 J) else iQ W1 (xs.take k)) (if(0:Int)<(J:Int) then up (iQ W2 (xs.take k)) J (W2 J) else iQ W2 (xs.take k)) m nx->I3 par n (iQ W1 (xs.take (k+1))) (iQ W2 (xs.take (k+1))) m nx:=fun m nx h=>by rw[aF W1,aF W2];exact h
   clear aF;generalize iQ W1 (xs.take k)=G1 at C X;generalize iQ W2 (xs.take k)=G2 at C X;refine gA (SS ?_);refine af (show AW _ _ _ _ _ _ from oI (aj ?_));by_cases hz:J=0
   .have eM:decide ((0:Int)<(J:Int))=false:=by simp[hz]
    refine ag ?_;refine af (gR (bS ?_));rw[if_neg oG,if_neg oG] at X;exact X _ _ C
   .have eM:decide ((0:Int)<(J:Int))=true:=by simp;omega
    refine ag ?_;refine af (gH (adP ach ?_));have ax:=C.m5;have di:=C.m3;have gT:=C.m4;have zM:=AG J hR hz;have IX:=FW J hR hz;generalize ((Of J:Nat):Int)=u at zM IX;rw[if_pos oG,if_pos oG] at X;have akg:=C.Nr;have No:=C.m1;clear C;refine aJ ?_;refine aP ?_;refine cl IX (aP ?_);refine cA (fG (d:=.sl _ _) (cs':=_) rfl rfl di rfl rfl) ak (dt V.h V.h (by first|(simp;done)|exact⟨rfl,bD rfl⟩|(simp;omega)) rfl) ?_;refine aI (mK rfl rfl gT V.h V.h) ak ⟨V.h,oG⟩ (cA (fG (d:=.sl _ _) (cs':=_) rfl rfl gT rfl rfl) ak (dt V.h V.h (by first|(simp;done)|exact⟨rfl,bD rfl⟩|(simp;omega)) rfl) ?_);refine a8 bc (X _ _ ⟨akg,?_,?_,?_,?_⟩)
    .dsimp only;rw[up_ne _ _ oC,up_ne _ _ oC];exact No
    .dsimp only;rw[<- RO,up_ne _ _ oC,up_same]
    .dsimp only;rw[<- RO,up_same]
    .dsimp only;rw[up_ne _ _ oC,up_ne _ _ oC];exact ax
  .rintro m nx C;rw[List.length_map,List.take_length] at C;exact⟨m,nx,ap eH,C⟩
 .obtain⟨m,nx,gV,C⟩:=hs
  have X9:∀ G:Nat->List Int,((jv G n).drop 0).take (n*prog.cellsOf 27)=jv G n:=fun G=>by
   rw[Bd,List.drop_zero,Nat.mul_one,df oS]
  have WB:∀ G:Nat->List Int,D.sl (jv G n) n=bx ((List.range n).map G):=fun G=>by
   rw[<- G4];unfold jv;congr 1;exact List.map_congr_left fun i _=>by simp[au]
  have bm:∀ (G:Nat->List Int) (i:Nat) (cs:List D) (sz:Nat),(jv G n).map (Abs.sub (fz0 i cs sz))=jv G n:=fun G i cs sz=>by
   unfold jv;rw[List.map_map];exact List.map_congr_left fun i _=>rfl
  generalize iQ W1 xs=G1 at C hQ;generalize iQ W2 xs=G2 at C hQ
  refine⟨_,gV.trans ((lO (i:=3) (e:=27) (cs:=jv G1 n) (l:=[(2,.rp 1 0),(7,.rp 5 0)]) (ml:=[(1,.cells [.z,.z,.z] 30),(4,.cells (jv G2 n) 27),(5,.cells [au par,bx ((List.range n).map G1),.rs 4 0 n] 30)]) C.m3 eH ⟨?_,?_,?_,trivial⟩).trans
   (lO (i:=4) (e:=27) (cs:=jv G2 n) (l:=[(2,.rp 1 0),(7,.rp 5 0)]) (ml:=[(1,.cells [.z,.z,.z] 30),(5,.cells [au par,bx ((List.range n).map G1),bx ((List.range n).map G2)] 30)]) rfl eH ⟨rfl,?_,trivial⟩)),aj ?_⟩
  .dsimp only;rw[if_neg oC,C.m1];rfl
  .dsimp only;rw[if_neg oC,C.m4];show some (Row.cells ((jv G2 n).map _) 27)=_;rw[bm]
  .dsimp only;rw[if_neg oC,C.m5];show some (Row.cells [au par,D.sl (((jv G1 n).drop 0).take (n*prog.cellsOf 27)) n,.rs 4 0 n] 30)=_;rw[X9,WB]
  .show some (Row.cells [au par,bx ((List.range n).map G1),D.sl (((jv G2 n).drop 0).take (n*prog.cellsOf 27)) n] 30)=_;rw[X9,WB]
  .refine aq ?_;refine af (aY (JE (mF rfl rfl Oc Od rfl t30 (bD rfl)) rfl hQ))
theorem aeS{f:aG}(M:dG f=0):tF prog 20 [.agg (aH f)] (pT f):=by
 refine Zc Ih.he (.cons (.agg (iq f)) .nil) fun fp=>?_;have X:=ZM M fp;have np:=HA M
 have hf:jx f=true:=by
  unfold dG at M;split at M
  .assumption
  .cases M
 have bZ:=tE hf;have hg:=xf bZ;have akd:=bZ.mz
 obtain⟨W,X⟩:∃ W:Nat->List Int×List Int,∀ b:Nat,bM (aT f) f.blocks.length b->b≠0->PCall prog 62 [.pt (wF f),I (fu (aT f) (c9 f) f.blocks.length b:Nat),I b] (.tup [au (W b).1,au (W b).2])/\
  me (aT f) (fu (aT f) (c9 f) f.blocks.length b:Nat) b (W b).1/\me (aT f) (fu (aT f) (c9 f) f.blocks.length b:Nat) b (W b).2/\∀ i,0<i->i+1<(W b).1.length->(W b).1.getD i 0∉(W b).2:=
  Classical.axiomOfChoice (r:=fun(b:Nat) (w:List Int×List Int)=>bM (aT f) f.blocks.length b->b≠0->PCall prog 62 [.pt (wF f),I (fu (aT f) (c9 f) f.blocks.length b:Nat),I b] (.tup [au w.1,au w.2])/\
   me (aT f) (fu (aT f) (c9 f) f.blocks.length b:Nat) b w.1/\me (aT f) (fu (aT f) (c9 f) f.blocks.length b:Nat) b w.2/\∀ i,0<i->i+1<w.1.length->w.1.getD i 0∉w.2) fun b=>by
   by_cases h:bM (aT f) f.blocks.length b/\b≠0
   .obtain⟨w,hw⟩:=X b h.1 h.2;exact⟨w,fun _ _=>hw⟩
   .exact⟨([],[]),fun h1 h2=>absurd ⟨h1,h2⟩ h⟩
 have xR:wF f=bA f (bI f) (cM f.blocks) (dv (cO (aT f) f.blocks.length (-1))):=rfl;have Bc:=akh bZ (c:=dv (cO (aT f) f.blocks.length (-1))) (.sl (.map fun _=>.s _)) rfl;have kX:=wg (w:= -1) hg.to hg.pos;have xV:=xV (f:=f) (beh:=bI f) (ahd:=cM f.blocks) (cnt:=cO (aT f) f.blocks.length (-1)) (by rw[kX];omega);rw[kX] at xV;have iN:=z2 hg
 have cz:∀ b:Nat,(b:Int)∈allI (cO (aT f) f.blocks.length (-1)) f.blocks.length↔bM (aT f) f.blocks.length b:=fun b=>by
  unfold allI;rw[List.mem_map];constructor
  .rintro⟨c,hc,e⟩;obtain rfl:c=b:=by omega
   exact(List.mem_filter.1 hc).2
  .intro h;exact⟨b,List.mem_filter.2 ⟨List.mem_range.2 (wG hg h),h⟩,rfl⟩
 have pw:∀ x∈allI (cO (aT f) f.blocks.length (-1)) f.blocks.length,∃ b:Nat,x=b:=fun x hx=>by
  unfold allI at hx;obtain⟨b,_,rfl⟩:=List.mem_map.1 hx;exact⟨b,rfl⟩
 have AG:∀ b:Nat,bM (aT f) f.blocks.length b->b≠0->(gg (aT f) (c9 f) f.blocks.length)[b]? =some ((fu (aT f) (c9 f) f.blocks.length b:Nat):Int):=fun b C J=>by
  have hb:=wG hg C;rw[sm (by rw[iN];exact hb),ww hg hb,if_pos ⟨J,C⟩]
 have za:∀ b:Nat,bM (aT f) f.blocks.length b->b<f.blocks.length:=fun b C=>wG hg C
 have hP:pT f (.tup [.agg [au (gg (aT f) (c9 f) f.blocks.length),bx ((List.range f.blocks.length).map (iQ (fun b=>(W b).1) (allI (cO (aT f) f.blocks.length (-1)) f.blocks.length))),bx ((List.range f.blocks.length).map (iQ (fun b=>(W b).2) (allI (cO (aT f) f.blocks.length (-1)) f.blocks.length)))],I 0]):=by
  have WC:∀ x∈allI (cO (aT f) f.blocks.length (-1)) f.blocks.length,0<=x:=fun x hx=>by
   obtain⟨b,rfl⟩:=pw x hx;omega
  have pD:∀ (G:Nat->List Int) (b:Nat),b<f.blocks.length->((List.range f.blocks.length).map G).getD b []=G b:=fun G b hb=>by
   rw[bl,List.getElem?_map,List.getElem?_range hb];rfl
  have h1:=fun b=>RP (fun b=>(W b).1) b _ WC;have h2:=fun b=>RP (fun b=>(W b).2) b _ WC;generalize iQ (fun b=>(W b).1) _=G1 at h1 ⊢;generalize iQ (fun b=>(W b).2) _=G2 at h2 ⊢
  have MO:∀ b:Nat,bM (aT f) f.blocks.length b->b≠0->G1 b=(W b).1/\G2 b=(W b).2:=fun b C J=>by
   rw[h1 b,h2 b,if_pos ⟨(cz b).2 C,oG⟩,if_pos ⟨(cz b).2 C,oG⟩];exact⟨rfl,rfl⟩
  have WD:∀ b:Nat,(b=0\/¬ bM (aT f) f.blocks.length b)->G1 b=[]/\G2 b=[]:=fun b b8=>by
   have:¬ ((b:Int)∈allI (cO (aT f) f.blocks.length (-1)) f.blocks.length/\0<b):=fun h=>by
    rcases b8 with g|g
    .omega
    .exact g ((cz b).1 h.1)
   rw[h1 b,h2 b,if_neg this,if_neg this];exact⟨rfl,rfl⟩
  have hlen:∀ b,b<f.blocks.length->(G1 b).length<=10000/\(G2 b).length<=10000:=fun b hb=>by
   by_cases h:b≠0/\bM (aT f) f.blocks.length b
   .obtain⟨e1,e2⟩:=MO b h.2 h.1;obtain⟨_,w1,w2,_⟩:=X b h.2 h.1;obtain⟨_,Oe,_⟩:=HB hg h.2 h.1;have:=wG hg Oe;have:=KR hg.to w1 oG oG;have:=KR hg.to w2 oG oG;rw[e1,e2];omega
   .obtain⟨e1,e2⟩:=WD b (by
     by_cases g:b=0
     .exact .inl g
     .exact .inr fun r=>h ⟨g,r⟩)
    rw[e1,e2];simp
  unfold pT;rw[if_pos M];refine⟨⟨_,_,_⟩,rfl,ZN hg rfl oS oS (fun b hb b8=>?_) (fun b C J=>?_),⟨fun l hl=>?_,fun l hl=>?_⟩⟩
  .rw[pD _ _ hb,pD _ _ hb];exact WD b b8
  .dsimp only;rw[pD _ _ (za b C),pD _ _ (za b C),(MO b C J).1,(MO b C J).2];exact(X b C J).2
  .obtain⟨b,hb,rfl⟩:=List.mem_map.1 hl;exact(hlen b (List.mem_range.1 hb)).1
  .obtain⟨b,hb,rfl⟩:=List.mem_map.1 hl;exact(hlen b (List.mem_range.1 hb)).2
 rw[xR] at np X;exact ake (W1:=fun b=>(W b).1) (W2:=fun b=>(W b).2) rfl oG np Bc xV cz pw AG za (fun b C J=>(X b C J).1) Q2 hP
theorem I4{f:aG}:tF prog 20 [.agg (aH f)] (pT f):=by
 by_cases h:dG f=0
 .exact aeS h
 .exact adN h
theorem k3{f:aG}{d:eV}(hs:yT f)(Df:PCall prog 17 [] (B true)):PCall prog 3 [.agg (aH f),.agg (ct d)] (B true):=by
 have Dg:=Dg (f:=f);have A9:=A9 (d:=d);have a7:∀ x∈[D.agg (aH f),.agg (ct d)],Tr x:=.cons (.agg (iq f)) (.cons (.agg (wm d)) .nil);refine bg ok3 a7 (Tr.s _) ?_;have Og:sI f=true->_:=aaR;have fO:BI d=true->_:=aca;generalize sI f=fb at Dg Og;generalize BI d=sb at A9 fO;rw[sk3];refine az (aq ?_);refine af (aW (bG [(0,aH f,26),(1,ct d,30)] eH (l:=[(2,.pt (aH f)),(3,.pt (ct d))]) eH) (aB (aj ?_)));cases fb with
 |false=>
  refine SS ?_;refine cl Dg (ag ?_);(iterate 3 refine z fun _ _=>?_);refine SS ?_;refine af (dN (aB (aj (cl Df (SS ?_)))));exact af (bX (av rfl rfl))
 |true=>
 have A9:(false==false)=true->PCall prog 16 [.agg (ct d)] (B sb):=fun _=>A9;refine SS ?_;refine cl Dg (ag ?_);refine bt rfl rfl (mH rfl V.h V.h rfl) (fun hc=>⟨ak,(mI V.h V.h oS)⟩) (BX rfl rfl rfl (fun hc=>⟨ak,A9 hc⟩) (ag ?_));refine af (cx rfl (fun h=>?_) fun h=>bP (aj ?_))
 .refine aB (aj (cl Df (SS ?_)));exact af (bX (av rfl rfl))
 have hw:=Og rfl;have hd:=fO (by revert h;cases sb<;>simp);clear h Dg A9 Og fO;have A8:=A8 (f:=f) hd;have WE:=fun(x:eV) (hx:At x)=>uu (f:=f) (d:=x) hs hw hx;have uu:=uu hs hw hd;rw[aaP] at uu;have zN:=zN hs hw;have I4:=ZP (P:=prog) (m:=fun _=>none) (nx:=2) (I4 (f:=f));by_cases C:dG f=0
 .have M:∃ x,qP f d=.tup [B x,I 0]:=⟨_,by unfold qP;rw[if_pos C]⟩
  have s7:yW f=.tup [au (gg (aT f) (c9 f) f.blocks.length),I 0]:=by unfold yW;rw[if_pos C]
  have vT:∀ x,oQ (aT f) (c9 f) f.blocks.length x->wv f x=.tup [B true,I 0]/\x.par=gg (aT f) (c9 f) f.blocks.length:=fun x hx=>⟨Zd C hx,ZO C hx⟩
  have X:∀ d',pT f d'->∃ x:eV,d'=.tup [.agg (ct x),I 0]/\oQ (aT f) (c9 f) f.blocks.length x/\At x:=fun d' h=>by
   unfold pT at h
   rwa[if_pos C] at h
  obtain⟨x,M⟩:=M;rw[M] at A8 uu;rw[s7] at zN;clear M s7;refine ag ?_;refine cl A8 (aN ?_);refine er (ag ?_);refine cl uu (aN ?_);refine er (SS ?_);refine kN I4 rfl cv fun d' m' nx' hp=>?_;obtain⟨hp,rfl,rfl⟩:=hp;obtain⟨y,rfl,hy,CV⟩:=X d' hp;obtain⟨hyv,J⟩:=vT y hy;have WG:=WE y CV;rw[hyv] at WG;generalize gg (aT f) (c9 f) f.blocks.length=par at zN J;clear X vT WE hy CV;refine bB ?_;refine er (SS ?_);refine cl zN (aN ?_);refine af (aB (aj (ag ?_)));refine WH ?_;refine bK ?_;refine ag ?_;refine af (cx rfl (fun h=>(by revert h;simp)) fun _=>bP (aB (aj ?_)));refine ag ?_;refine af (gS (bP (aj ?_)));have uu:=WG;refine ag ?_;refine cl uu (aN ?_);refine er ?_;have Dh:=aki (l:=par);rw[<- J] at Dh;rw[<- J];have Dh:(true==true)=true->PCall prog 22 [au y.par,au y.par] (B true):=fun _=>Dh;refine cl Df (aJ ?_);refine ag ?_;refine BX rfl rfl rfl (fun hc=>⟨ak,Dh hc⟩) (ag ?_);exact af (aY (av rfl rfl))
 .have M:qP f d=.tup [B false,I (dG f)]:=by unfold qP;rw[if_neg C]
  have s7:yW f=.tup [.z,I (dG f)]:=by unfold yW;rw[if_neg C]
  have X:∀ d',pT f d'->d'=.tup [.agg [.z,.z,.z],I (dG f)]:=fun d' h=>by
   unfold pT at h
   rwa[if_neg C] at h
  rw[M] at A8 uu;rw[s7] at zN;clear M s7;generalize dG f=e at A8 uu zN C X;refine ag ?_;refine cl A8 (aN ?_);refine er (ag ?_);refine cl uu (aN ?_);refine er (SS ?_);refine kN I4 rfl cv fun d' m' nx' hp=>?_;obtain⟨hp,rfl,rfl⟩:=hp;obtain rfl:=X d' hp;clear X;refine bB ?_;refine er (SS ?_);refine cl zN (aN ?_);refine af (aB (aj (ag ?_)));refine WH ?_;refine bK ?_;refine ag ?_;refine af (cx rfl (fun h=>(by revert h;simp)) fun _=>bP (aB (aj ?_)));have du:(e !=0)=true:=by simpa using C
  refine ag ?_;refine af (dN (aB (aj (cl Df (aJ ?_)))));refine bB ?_;exact af (bX (av rfl rfl))
end Go.Proofs.Tryz.K
namespace Go.Proofs.Tryz.K
theorem aaS{f:aG}{d:eV}(hs:yT f):PCall prog 3 [.agg (aH f),.agg (ct d)] (B true):=k3 hs Df
end Go.Proofs.Tryz.K
end
namespace Go.Argus
open Go.Abs
abbrev EA:Sh:=.pair (.sl mY) (.pair (.sl (.sl mY)) (.pair (.sl (.sl mY)) .unit))
def afo(x:EA.val):eV:=⟨x.1,x.2.1,x.2.2.1⟩
theorem RC(L:List (List Int)):D.sl (List.flatMap (Sh.enc (.sl mY)) L) L.length=bx L:=
 congrArg (D.sl · L.length) ((flat_congr (g:=fun l=>[au l]) (h:=id) (fun l=>congrArg (fun d=>[d]) (B5 (k:=.i64) l)) L).trans ((congrArg (List.flatMap _) (List.map_id L)).trans (flat_one au L)))
theorem acX(x:EA.val):EA.arg x=.agg (ct (afo x)):=
 YW (fun a b c=>D.agg [a,b,c]) (B5 (k:=.i64) x.1) (RC x.2.1) (RC x.2.2.1)
end Go.Argus
