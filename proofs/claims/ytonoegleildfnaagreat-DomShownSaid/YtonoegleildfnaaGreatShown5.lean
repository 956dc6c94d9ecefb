/- Part 5 of the proof; the last part says what is proved. -/
import Derived.Test.YtonoegleildfnaaGreatShown4
section
open Go Go.Abs Go.Proofs Go.Argus
namespace Go.Abs
theorem XN{P:Program}{rds:List Nat}{m:Mem}{f:Fn}{xs bs:List D}(h:Sns P rds m xs bs):Sn P rds m (.fn f [] xs) (.fn f [] bs):=fun F β w v hl hv=>by
 cases hv with
 |fn _ _ _ us vs C hv h1 h2=>
  obtain⟨e1,e2⟩:=sns_R hl h;refine .fn f [] bs us vs C oG (fun k d v hd _=>by simp at hd) fun k d u hd C=>?_;have hk:k<xs.length:=by rw[e1];exact(bj.1 hd).1
  exact e2 k xs[k] d (by simp[hk]) hd u (h2 k xs[k] u (by simp[hk]) C)
theorem Wp{id:Nat}{Q:Exit->St->Prop}{s:St}(h:Q .normal s):blockQ id Q (.exit id) s:=by simp only[blockQ,if_true];exact h
theorem Um{P:Program}{env:Env}{m:Mem}{nx i j:Nat}{es:List (Value×D)}{t:TypeId}{l:List (Nat×D)}(hi:m i=some (.map es))(hj:m j=some (.cells [.mp i] t))(C:j≠i)(hl:gU l fun u=>sub (fz0 j [.im es] (P.cellsOf t)) (sub (fm0 i es) (env u))):
 Ghost P ⟨env,m,nx⟩ ⟨aw l,fun _=>none,nx⟩:=by
 refine(Ghost.freezeM env m nx i es hi).trans ((Ghost.freeze _ _ nx j [.im es] t ?_).trans ((Ghost.forget _ _ _ _ (kY hl)).trans (Ghost.drop _ _ _ _ fun _=>.inr rfl)));show(if j=i then none else(m j).map _)=_;rw[if_neg C,hj];simp[Row.sub,sub,sub1,fm0]
theorem Tf{P:Program}{Y:YSpec}{rf:Bool}{b:Code}{Q:Exit->St->Prop}{st:St}{l:Nat}(h:∃ st',Ghost P st st'/\AW P Y rf b Q st'):AW P Y rf (.seq (.label l) b) Q st:=h
theorem Wl{P:Program}{Y:YSpec}[cR Y]{rf:Bool}{Q:Exit->St->Prop}{st:St}{id t i1:Nat}{rc:Array Oper}{body:Code}{α:Type}(S:α->St)(J:α->Prop)(μ:α->Nat)(C:α)(hg:Ghost P st (S C))(M:J C)
 (h:∀ x,J x->AOps P Y rc false [] (dV fun s=>∃ g,opd s.env (.tmp t)=.s (.bool g)/\(g=true->AW P Y rf body (seqQ (pf P S J μ x) (blockQ id Q)) s)/\(g=false->Q .normal s)) rc.toList (S x) []):
 ∃ st',Ghost P st st'/\AW P Y rf (.block id (.loop (.seq (.seq (.region i1 rc false) (.cond (.tmp t) .skip (.exit id))) body))) Q st':=by
 refine vL (Q:=blockQ id Q) S J μ C hg M (fun x hx=>?_) (a:=.skip) fun _ h=>h;refine aB (lL (rf:=rf) (id:=i1) (AOps.iv (h x hx) fun s hs=>?_));obtain⟨g,h1,h2,h3⟩:=hs;refine⟨s,.refl s,c6 h1 (fun X=>?_) fun qT=>?_⟩
 .exact cu (h2 X)
 .refine jK ?_;simp only[seqQ,blockQ,if_true];exact h3 qT
theorem Wm{P:Program}{env:Env}{m:Mem}{nx i:Nat}{es:List (Value×D)}{key:Value}{kt t C:TypeId}{x y:Operand}(hx:(opd env x).core=.mp i)(hm:m i=some (.map es))(hk:keyV (opd env y).core=some key)(ht:mkeyP P t=kt):
 Ef P (.call { callee:=.builtin .delete,args:= #[x,y],argTypes:= #[t,C] }) env m nx ⟨mapT P t=true/\keyP P kt key=true/\es.all (fun e=>keyP P kt e.1)=true,.tup [],[(i,some (.map (delD key es)))],[i],0⟩:=
 sg («aS»:=[.mp i,(opd env y).core]) rfl (by simp[hx]) (by
  show mapDelD P m t _ _=_
  simp only[mapDelD,hk,hm,ht])
section
variable{P:Program}{f:FuncId}
def zk(d:D):Prop:=∃ F w v,(∀ b,F b->b<w.heap.size)/\R F noRows w d v
theorem RT{a:D}{bA:D->Prop}(he:enterOk P f=true)(ht:∀ x∈[a],Tr x)(h:zk a->nQ P f [a] bA):nQ P f [a] bA:=
 ⟨he,ht,fun F w vs hF hR=>by
  have hs:0<vs.size:=by rw[hR.1];exact Nat.one_pos
  exact(h ⟨F,w,vs[0],hF,hR.2 0 a _ rfl (by simp[hs])⟩).2.2 F w vs hF hR⟩
theorem Ss{a r:D}(hc:PCall P f [a] r)(h:zk a):zk r:=by
 obtain⟨F,w,v,hF,hR⟩:=h
 obtain⟨e,w',_,⟨M,_,J,hk⟩,_⟩:=hc.2.2 F w #[v] hF ⟨rfl,fun k d u hd C=>by
  obtain rfl:k=0:=by
   have:=(bj.1 hd).1;simp at this;omega
  simp at hd C;subst hd C
  exact hR⟩ []
 exact⟨F,w',M,fun b hb=>Nat.lt_of_lt_of_le (hF b hb) (kept_step (β:=noRows) hk).size,J⟩
theorem Su{args:List D}{bA:D->Prop}(h:nQ P f args bA)(M:∀ d d',bA d->bA d'->d=d')(hr:∃ F w vs,(∀ b,F b->b<w.heap.size)/\Rs F noRows w args vs):∃ d,bA d/\PCall P f args d:=by
 obtain⟨F,w,vs,hF,hR⟩:=hr;obtain⟨_,_,_,⟨_,d,hp,_⟩,_⟩:=h.2.2 F w vs hF hR [];refine⟨d,hp,h.1,h.2.1,fun F w vs hF hR=>(h.2.2 F w vs hF hR).mono fun e w' hq=>?_⟩;obtain⟨v,r,J,he,C,hk⟩:=hq;rw[M d r hp J];exact⟨v,he,C,hk⟩
theorem aca{a q:D}(h:zk (.tup [a,q]))(u v:Int):∃ F w vs,(∀ b,F b->b<w.heap.size)/\Rs F noRows w [a,Argus.I u,Argus.I v] vs:=by
 obtain⟨F,w,x,hF,hR⟩:=h;obtain⟨us,rfl,hl,C⟩:=hR.tup_inv;have h0:0<us.length:=by rw[hl];exact Nat.succ_pos _
 refine⟨F,w, #[us[0],.int .i64 u,.int .i64 v],hF,rfl,fun k d y hd hy=>?_⟩;have hk:k<3:=by simpa using(bj.1 hd).1
 match k,hk with
 |0,_=>
  simp at hd hy;subst hd hy;exact C 0 _ _ rfl (by simp[h0])
 |1,_=>simp at hd hy;subst hd hy;exact .s _ rfl
 |2,_=>simp at hd hy;subst hd hy;exact .s _ rfl
end
end Go.Abs
namespace Go.Argus
def OV(beh:Nat->List Int)(fr to:Int)(d:D):Prop:=∃ C J,d=.tup [ao C,ao J]/\iP beh fr to C/\iP beh fr to J/\∀ i,0<i->i+1<C.length->C.getD i 0∉J
theorem Wn{beh:Nat->List Int}{fr to:Int}(d:D)(h:OV beh fr to d):Tr d:=by
 obtain⟨C,J,rfl,_⟩:=h;exact .tup (.cons (cH _) (.cons (cH _) .nil))
def OO(beh ahd:Nat->List Int)(fr to:Int)(d:D):Prop:=OV beh fr to d/\wS beh ahd fr to d
def kI:List (List Int)->List D
 |[]=>[.z,.z]
 |[a]=>[ao a,.z]
 |a::b::_=>[ao a,ao b]
theorem FB(U:List (ag×ag)):Tr (.im (um U)):=.im fun x hx=>by
 obtain⟨e,_,rfl⟩:=List.mem_map.1 hx;exact .s _
theorem Un(C:List (List Int))(i:Nat)(cs:List D)(sz:Nat):(kI C).map (Abs.sub (fz0 i cs sz))=kI C:=by
 match C with
 |[]=>rfl
 |[a]=>rfl
 |a::b::_=>rfl
theorem Vu{p:Int->Bool}{l:List Int}{x:Int}(hx:x∈l)(hp:p x=true):∃ (k:Nat) (y:Int),j3 p l=k/\l[k]? =some y/\p y=true:=by
 cases h:l.findIdx? p with
 |none=>rw[List.findIdx?_eq_none_iff] at h;rw[h x hx] at hp;cases hp
 |some k=>
  obtain⟨h1,h2,_⟩:=List.findIdx?_eq_some_iff_getElem.1 h;exact⟨k,l[k],by unfold j3;rw[h],aK h1,h2⟩
theorem eL.rng{beh:Nat->List Int}{fr to v:Int}{U:List (ag×ag)}{l:List Int}{n:Nat}(C:eR beh fr to v U)(h:eL U fr to l)(hb:∀ b,∀ c∈beh b,0<=c/\c.toNat<n)(hf:0<=fr/\fr.toNat<n):∀ x∈l,0<=x/\x.toNat<n:=fun x hx=>by
 obtain⟨j,hj⟩:=cU hx;have J:=(bj.1 hj).1;have hg:l.getD j 0=x:=by rw[aV,hj];rfl
 rcases Nat.eq_zero_or_pos j with g|g
 .subst g;rw[<- hg,h.hd];exact hf
 .have:=C.ed _ (h.ch (j - 1) oG);rw[show j - 1+1=j by omega,hg] at this;cases this;exact hb _ _ oN
theorem RH{α:Type}(p:α->Bool)(l:List α)(i:Nat):((l.take i).filter p).length<=(l.filter p).length:=((List.take_sublist i l).filter p).length_le
theorem RC{α:Type}(p:α->Bool){l:List α}{i:Nat}{x:α}(h:l[i]? =some x):(l.take (i+1)).filter p=(l.take i).filter p++(if p x=true then [x] else []):=by
 rw[List.take_add_one,h,Option.toList_some,List.filter_append];congr 1;simp only[List.filter_cons,List.filter_nil]
theorem Vq{beh:Nat->List Int}{fr to:Int}(C:fr≠to)(h:to∈beh fr.toNat):iP beh fr to [fr,to]:=by
 refine⟨aU _,rfl,rfl,by simp[C],fun i hi=>?_⟩;have:i=0:=by simp at hi;omega
 subst this;exact h
theorem Ul{beh:Nat->List Int}{fr to:Int}{n:Nat}{i8 i9 i11 u c q off nx nx':Nat}{m':Mem}{U cm:List (ag×ag)}{op:List ag}{x y:ag}(hb:∀ b,∀ c∈beh b,0<=c/\c.toNat<n)(mw:∀ b,n<=b->beh b=[])(us:∀ e∈U,0<=e.1.1/\0<=e.2.1)(ed:∀ e∈U,iu beh fr to e.1 e.2)
 (hS:SR beh fr to U cm (x::op)) (hk:∀ k∈bf cm,qu n fr to k) (eh:(x,y)∉U->oF beh fr to U x y)
 (M:if y∉bf cm/\(x,y)∉U then(∃ C,nx<=C/\lE i8 i9 i11 u c C m' nx' U (cm++[(y,x)]) (op++[y]) 0) else lE i8 i9 i11 u c q m' nx' U cm op off):
 ∃ oI J C aay,lE i8 i9 i11 u c C m' nx' U oI J aay/\SR beh fr to U oI (x::J)/\((x,y)∉U->y∈bf oI)/\(∀ k∈bf oI,qu n fr to k)/\oI.length+op.length=cm.length+J.length/\(∀ k∈bf cm,k∈bf oI)/\(C=q\/nx<=C)/\cm.length<=oI.length/\(oI,J)=my U x (cm,op) y:=by
 have kb:x∈bf cm:=hS.CJ x oS;by_cases h:y∉bf cm/\(x,y)∉U
 .rw[if_pos h] at M;obtain⟨C,hq,hM⟩:=M;have zZ:=hS.push kb (eh h.2) h.1;have fS:bf (cm++[(y,x)])=bf cm++[y]:=by simp[bf]
  refine⟨_,_,C,0,hM,zZ,fun _=>by rw[fS];simp,fun k X=>?_,by simp;omega,fun k X=>by rw[fS];simp[X],.inr hq,oS,by unfold my;rw[if_pos h]⟩;rw[fS,List.mem_append] at X;rcases X with g|g
  .exact hk k g
  .simp only[List.mem_singleton] at g;subst g;exact Vr hb mw us ed (hk x kb) (eh h.2)
 .rw[if_neg h] at M;exact⟨cm,op,q,off,M,hS,fun hn=>Classical.byContradiction fun g=>h ⟨g,hn⟩,hk,rfl,fun _ g=>g,.inl rfl,aU _,by unfold my;rw[if_neg h]⟩
structure SI(beh:Nat->List Int)(fr to:Int)(n nx a:Nat)(U cm:List (ag×ag))(op:List ag)(x:ag)(dA:List (ag×ag))(fp:List ag)(q off:Nat)(m:Mem)(bx:Nat):Prop where
 nm:lE 1 (nx+1) (nx+4) 0 nx q m bx U dA fp off
 sr:SR beh fr to U dA (x::fp)
 ky:∀ k∈bf dA,qu n fr to k
 le:dA.length+op.length=cm.length+fp.length
 ge:cm.length<=dA.length
 ra:m a=some (.cells (c7 x) 168)
 rs:m (nx+2)=some (.cells (c7 (fr,true)) 168)
 lo:a<bx/\nx+5<=a
 qn:q≠nx+2/\q≠a
theorem SI.ext{beh:Nat->List Int}{fr to:Int}{n nx a:Nat}{U cm:List (ag×ag)}{op:List ag}{x:ag}{dA:List (ag×ag)}{fp:List ag}{q off:Nat}{m m':Mem}{bx nx':Nat}(h:SI beh fr to n nx a U cm op x dA fp q off m bx)(hf:∀ i,i<bx->m' i=m i)(hn:bx<=nx'):
 SI beh fr to n nx a U cm op x dA fp q off m' nx':=by
 have⟨h8,h9,tk,mu,mc,⟨pre,mq,mV⟩,lt,ne,us,cs,ol⟩:=h.nm;have:=h.lo;exact⟨⟨(hf _ oG).trans h8,(hf _ oG).trans h9,(hf _ oG).trans tk,(hf _ oG).trans mu,(hf _ oG).trans mc,⟨pre,(hf _ oG).trans mq,mV⟩,oG,ne,us,cs,ol⟩,h.sr,h.ky,h.le,h.ge,(hf _ oG).trans h.ra,(hf _ oG).trans h.rs,oG,h.qn⟩
theorem SI.next{beh:Nat->List Int}{fr to:Int}{n nx a:Nat}{U cm:List (ag×ag)}{op:List ag}{x y:ag}{dA:List (ag×ag)}{fp:List ag}{q off:Nat}{m m':Mem}{bx nx':Nat}(h:SI beh fr to n nx a U cm op x dA fp q off m bx)
 (hb:∀ b,∀ c∈beh b,0<=c/\c.toNat<n) (mw:∀ b,n<=b->beh b=[]) (us:∀ e∈U,0<=e.1.1/\0<=e.2.1) (ed:∀ e∈U,iu beh fr to e.1 e.2) (eh:(x,y)∉U->oF beh fr to U x y)
 (hn:bx<=nx') (hf:∀ i,i<bx->i≠nx+4->i≠nx->i≠q->m' i=m i)
 (hP:if y∉bf dA/\(x,y)∉U then(∃ q',bx<=q'/\lE 1 (nx+1) (nx+4) 0 nx q' m' nx' U (dA++[(y,x)]) (fp++[y]) 0) else lE 1 (nx+1) (nx+4) 0 nx q m' nx' U dA fp off):
 ∃ C J X M,SI beh fr to n nx a U cm op x C J X M m' nx'/\((x,y)∉U->y∈bf C)/\(∀ k∈bf dA,k∈bf C)/\(C,J)=my U x (dA,fp) y:=by
 obtain⟨C,J,X,M,h1,h2,h3,h4,h5,h6,h7,h8,h9⟩:=Ul hb mw us ed h.sr h.ky eh hP;have:=h.lo;have:=h.qn;have:=h.le;have:=h.ge;refine⟨C,J,X,M,⟨h1,h2,h4,oG,oG,(hf a oG oG oG oG).trans h.ra,(hf (nx+2) oG oG oG oG).trans h.rs,oG,oG⟩,h3,h6,h9⟩
end Go.Argus
namespace Go.Proofs.Tryz.K
set_option maxRecDepth 10000
theorem aaJ{U:List (ag×ag)}(us:∀ e∈U,eB e.1/\eB e.2){b d:Int}(hb:0<=b/\b<=100000)(hd:0<=d/\d<=100000):PCall prog 131 [I d,.pt [.im (um U)],.pt [I b]] (B (cP U (b,true) (d,false))):=by
 refine bd Ng (.cons (.s _) (.cons (.pt (.cons (FB U) .nil)) (.cons (.pt (.cons (.s _) .nil)) .nil))) (Tr.s _) ?_;rw[XO];refine ws ?_;refine SS ?_;refine er ?_;refine bC ?_;refine au (AO (es:=um U) (key:=jr (b,true) (d,false)) rfl rfl qq (wi wA (b,true) (d,false) U)) bF ⟨qt,qp _ _ (fI ⟨hb.1,hb.2⟩) (fI ⟨hd.1,hd.2⟩),rS us⟩ ?_;refine SS ?_;refine aa (bq (az rfl rfl))
section
variable{f:aC}{beh ahd:List (List Int)}{c:D}
set_option maxHeartbeats 4000000 in
theorem aaI{n:Nat}(iX:n<=10000)(bV:beh.length=n)(fH:∀ b,∀ t∈ah beh b,0<=t/\t.toNat<n)
 (bG:∀ b,(ah beh b).Nodup) (fV:∀ b,(ah beh b).length<=100000) {fn J:Nat} (kN:fn<n) (xy:J<n) (lF:fn≠J) {U:List (ag×ag)} {m:Mem} {o:Nat} (ho:2<=o) (mu:m 0=some (.map (um U))) (h8:m 1=some (.cells [.mp 0] 165)) (hU:eR (ah beh) fn J 2 U) (us:∀ e∈U,eB e.1/\eB e.2) (hW:pP (ah beh) (ah ahd) fn J 2 U) (ke:(J:Int)∉ah beh fn):
 ∃ s',Ghost prog ⟨aw [(0,.pt (aM f beh ahd c)),(1,I fn),(2,I J),(8,.rp 1 0)],m,o⟩ s'/\AW prog noY true  (.seq (.region 43 (Z aY 43) false) (.seq (.region 44 (Z aY 44) false) (.seq (.seq (.region 45 (Z aY 45) false) (.block 11 (.loop (.seq (.region 46 (Z aY 46) false) (.seq (.cond (.tmp 182) .skip (.exit 11)) (.seq (.block 12 (.seq (.region 47 (Z aY 47) false) (.seq (.seq (.region 48 (Z aY 48) false) (.cond (.tmp 196) (.exit 12) .skip)) (.seq (.region 49 (Z aY 49) false) (.seq (.seq (.region 50 (Z aY 50) false) (.block 13 (.loop (.seq (.block 14 (.seq (.region 51 (Z aY 51) false) (.seq (.seq (.region 52 (Z aY 52) false) (.cond (.tmp 206) (.exit 13) .skip)) (.region 53 (Z aY 53) true)))) (.seq (.region 54 (Z aY 54) false) (.region 55 (Z aY 55) false)))))) (.seq (.region 56 (Z aY 56) false) (.region 57 (Z aY 57) false))))))) (.region 58 (Z aY 58) false))))))) (.seq (.region 59 (Z aY 59) true) .ret)))) (retQ prog [ResultVar.tmp 6,ResultVar.tmp 7] fun d _=>OO (ah beh) (ah ahd) fn J d) s':=by
 refine⟨_,Um mu h8 oG (l:=[(0,.pt (aM f beh ahd c)),(1,I fn),(2,I J),(8,.pt [.im (um U)])]) eH,ai ?_⟩;clear mu h8;refine SS ?_;refine er ?_;refine SS ?_;refine aa (aB (ax ?_));have nh:=nC (beh:=beh) (b:=fn) oG;have af:=fH fn;have Gg:=bG fn;have jG:=fV fn;have FC:=hU.outs (L:=ah beh fn) Gg (fun c=>by rw[b9]);generalize hl:ah beh fn=l at nh af jG Gg FC ke;refine aN ?_
 refine aa (cN (fun s=>∃ w1 w2 M nx,Ghost prog s ⟨aw [(22,.rp o 0)],M,nx⟩/\M o=some (.cells [ao w1,ao w2] 174)/\eL U fn J w1/\eL U fn J w2/\w1.getD (w1.length - 1) 0=(J:Int)/\w2.getD (w2.length - 1) 0=(J:Int)/\w1.getD 1 0≠w2.getD 1 0/\wS (ah beh) (ah ahd) fn J (.tup [ao w1,ao w2])) (cG (α:=Nat×List (List Int)×Mem×Nat)
  (fun s=>⟨aw [(0,.pt (aM f beh ahd c)),(1,I fn),(2,I J),(8,.pt [.im (um U)]),(22,.rp o 0),(23,I s.2.1.length),(179,ao l),(180,I l.length),(181,I s.1)],s.2.2.1,s.2.2.2⟩)
  (fun s=>s.1<=l.length/\s.2.1.length<=2/\(∀ w∈s.2.1,eL U fn J w/\w.getD (w.length - 1) 0=(J:Int)/\uq (ah beh) fn J U (w.getD 1 0) w)/\s.2.1.map (fun w=>w.getD 1 0)=(l.take s.1).filter (fun c=>cP U ((fn:Int),true) (c,false))/\s.2.2.1 o=some (.cells (kI s.2.1) 174)/\o<s.2.2.2) (fun s=>l.length - s.1) (0,[],up (fun _=>none) o (some (.cells [.z,.z] 174)),o+1)
  (aq eH) ⟨Nat.zero_le _,Nat.zero_le _,fun w h=>(by simp at h),rfl,(by dsimp only[kI];exact up_same _ _ _),Nat.lt_succ_self _⟩ ?_) ?_)
 .rintro⟨i,C,M,nx⟩ ⟨hi,rr,ki,ru,hM,xD⟩;dsimp only at hi rr ki ru hM xD ⊢;refine SS ?_;refine aa ⟨_,rfl,fun h=>?_,fun h=>?_⟩
  .have fg:i<l.length:=by simpa using h
   obtain⟨t,ht⟩:∃ t,l[i]? =some t:=⟨_,aK fg⟩
   have rm:=af t (bJ ht);have pO:=RC (fun c=>cP U ((fn:Int),true) (c,false)) ht;have qW:=RH (fun c=>cP U ((fn:Int),true) (c,false)) l (i+1);rw[FC,pO,List.length_append, <- ru,List.length_map] at qW;refine ws ?_;refine av ?_;refine aa (aB (ai ?_));by_cases h2:C.length=2
   .have ei:decide ((1:Int)<(C.length:Int))=true:=by simp[h2]
    refine av ?_;(iterate 8 refine z fun _ _=>?_);refine SS ?_;refine aa (fA (jK (o9 ?_)));show AOps _ _ _ _ _ _ _ _ _;refine ab ?_;refine aa (aJ (i+1,C,M,nx) (aq eH) ⟨oM,rr,ki,?_,hM,xD⟩ oM);dsimp only;rw[pO,ru];cases hu:cP U ((fn:Int),true) (t,false) with
    |false=>simp
    |true=>rw[hu] at qW;simp at qW;omega
   .have ei:decide ((1:Int)<(C.length:Int))=false:=by simp;omega
    refine aN ?_;refine aT rfl rfl (AO (es:=um U) (key:=jr ((fn:Int),true) (t,false)) rfl rfl qq (wi wA _ _ U)) (fun hc=>⟨(by repeat' (first|exact trivial|exact hc|exact rfl|refine And.intro ?_ ?_)),⟨qt,qp _ _ (fI ⟨oM,oM⟩) (fI ⟨oM,oM⟩),rS us⟩⟩) ?_;generalize hu:cP U ((fn:Int),true) (t,false)=ux at pO qW;refine ab ?_;cases ux with
    |false=>
     refine aa (fA (jK (o9 ?_)));show AOps _ _ _ _ _ _ _ _ _;refine ab ?_;refine aa (aJ (i+1,C,M,nx) (aq eH) ⟨oM,rr,ki,by dsimp only;rw[pO,ru];simp,hM,xD⟩ oM)
    |true=>
     have nk:((((fn:Int),true),(t,false)):ag×ag)∈U:=by unfold cP at hu;simpa using hu
     refine aa (ll (cu (ax ?_)));have aaK:C.length<2:=by omega
     clear qW hu ei;refine av ?_;refine aa (mO (l:=[(0,.pt (aM f beh ahd c)),(1,I fn),(2,I J),(8,.pt [.im (um U)]),(22,.rp o 0),(23,I C.length),(179,ao l),(180,I l.length),(181,I i),(25,I t),(26,.rs nx 0 1)]) ⟨rfl,rfl,rfl,rfl,rfl,rfl,rfl,rfl,rfl,rfl,rfl,trivial⟩ fun M1 gC=>aB (ax ?_));have Ht:M1 nx=some (.cells [I fn] 3):=(cg gC gC)
     have Hu:M1 o=some (.cells (kI C) 174):=(cg gC hM)
     clear gC hM;refine ab ?_;refine bB (dC (d:=.s (.int _ _)) (cs':=[_]) rfl rfl (up_same _ _ _) rfl rfl) ak (cF V.h V.h (by first|(simp;done)|exact⟨rfl,aP rfl⟩|(simp;omega)) rfl) ?_
     refine aa (cN (fun s=>∃ w q M nx,Ghost prog s ⟨aw [(0,.pt (aM f beh ahd c)),(1,I fn),(2,I J),(8,.pt [.im (um U)]),(22,.rp o 0),(23,I C.length),(179,ao l),(180,I l.length),(181,I i),(26,.rs q 0 w.length)],M,nx⟩/\M q=some (.cells (w.map I) 3)/\q≠o/\M o=some (.cells (kI C) 174)/\eL U fn J w/\w.getD (w.length - 1) 0=(J:Int)/\w.getD 1 0=t/\o<nx/\q<nx/\uq (ah beh) fn J U t w)
      (vL (Q:=blockQ 13 _) (α:=List Int×Int×Nat×Nat×Mem×Nat) (fun s=>⟨aw [(0,.pt (aM f beh ahd c)),(1,I fn),(2,I J),(8,.pt [.im (um U)]),(22,.rp o 0),(23,I C.length),(179,ao l),(180,I l.length),(181,I i),(26,.rs s.2.2.1 0 s.1.length),(27,.rp s.2.2.2.1 0)],s.2.2.2.2.1,s.2.2.2.2.2⟩)
      (fun s=>(∃ k,kf (wD (ah beh) J U) k ([(fn:Int)],t)=some (s.1,s.2.1))/\eL U fn J (s.1++[s.2.1])/\(s.1++[s.2.1]).getD 1 0=t/\1<=s.1.length/\s.2.2.2.2.1 s.2.2.1=some (.cells (s.1.map I) 3)/\s.2.2.2.2.1 s.2.2.2.1=some (.cells [I s.2.1] 3)/\s.2.2.2.2.1 o=some (.cells (kI C) 174)/\s.2.2.1≠o/\s.2.2.2.1≠o/\s.2.2.1≠s.2.2.2.1/\s.2.2.1<s.2.2.2.2.2/\s.2.2.2.1<s.2.2.2.2.2/\o<s.2.2.2.2.2)
      (fun s=>n - s.1.length) ([(fn:Int)],t,nx,nx+1,up (up M1 (nx+1) (some (.cells [I 0] 3))) (nx+1) (some (.cells [I t] 3)),nx+2)
      (aq eH) ⟨⟨0,rfl⟩,.two nk,rfl,aU _,(l0 Ht),up_same _ _ _,(l0 Hu),oM,oM,oM,oM,oM,oM⟩ (fun x hx=>?_) (a:=.skip) fun _ h=>h) ?_)
     .clear Ht Hu;obtain⟨w,b,q,a,M,fk⟩:=x;obtain⟨⟨k0,fT⟩,hF,xE,pQ,mq,ma,mo,n1,n2,n3,l1,l2,l3⟩:=hx;dsimp only at fT hF xE pQ mq ma mo n1 n2 n3 l1 l2 l3 ⊢;have OW:=hF.rng hU fH (n:=n) ⟨oG,oG⟩;have Hv:=vA (hF.nodup hU oG) OW;have jH:=OW b oS
      have iJ:(w++[b]).getD ((w++[b]).length - 1) 0=b:=by
       rw[show(w++[b]).length - 1=w.length by simp];exact IC
      rw[List.length_append,List.length_singleton] at Hv;obtain⟨X,rfl⟩:=dd jH.1;have mw:X<n:=by have:=jH.2;simpa using this
      refine Ip (fun s=>∃ d M2,Ghost prog s ⟨aw [(0,.pt (aM f beh ahd c)),(1,I fn),(2,I J),(8,.pt [.im (um U)]),(22,.rp o 0),(23,I C.length),(179,ao l),(180,I l.length),(181,I i),(26,.rs (fk+1) 0 (w.length+1)),(27,.rp a 0)],M2,fk+2⟩/\((((X:Int),true),(d,false)):ag×ag)∈U/\(X:Int)≠J/\wD (ah beh) J U (w,(X:Int))=some (w++[(X:Int)],d)/\M2 a=some (.cells [I d] 3)/\M2 (fk+1)=some (.cells ((w++[(X:Int)]).map I) 3)/\M2 o=some (.cells (kI C) 174)) (ax ?_) fun s hs=>?_
      .have aj:=ma;refine av ?_;refine sH (r5 (sz:=1) (cs:=w.map I) rfl (al oG mq) rfl CF c3 (rH (news:=[I X]) (up_same _ _ _) rfl) rfl) bF ⟨B7,rfl,(show 0+1*1<=1 by decide),oC,(by rw[List.length_map];omega),(by unfold maxLen;omega),(by rw[b3];omega),oP⟩ ?_;refine SS ?_;refine aa (mO (l:=[(0,.pt (aM f beh ahd c)),(1,I fn),(2,I J),(8,.pt [.im (um U)]),(22,.rp o 0),(23,I C.length),(179,ao l),(180,I l.length),(181,I i),(26,.rs (fk+1) 0 (w.length+1)),(27,.rp a 0)]) ⟨rfl,rfl,rfl,rfl,rfl,rfl,rfl,rfl,rfl,rfl,rfl,trivial⟩ fun M2 fU=>aB (ai ?_));have CQ:M2 (fk+1)=some (.cells ((w++[(X:Int)]).map I) 3):=(by rw[fU,up_same,List.map_append];rfl)
       have ea:M2 a=some (.cells [I X] 3):=(cg fU ma)
       have eo:M2 o=some (.cells (kI C) 174):=(cg fU mo)
       clear fU ma mo mq aj;have aj:=ea;by_cases uB:X=J
       .have gL:((X:Int)==(J:Int))=true:=by simp[uB]
        refine av ?_;refine aa (fA (jK ?_));refine LU oC ?_;refine LI (LI (Wp ⟨w++[(X:Int)],fk+1,M2,fk+2,aq ⟨rfl,rfl,rfl,rfl,rfl,rfl,rfl,rfl,rfl,?_,trivial⟩,CQ,oG,eo,hF,by rw[iJ,uB],xE,oG,oG,⟨k0,w,by rw[fT,uB],by rw[uB]⟩⟩));rw[List.length_append];rfl
       .have gL:((X:Int)==(J:Int))=false:=by simp;omega
        have qI:(X:Int)≠(J:Int):=by omega
        refine av ?_;refine aa (ll (cu (D4 Tj ?_)));have Nh:=hF.more hU (by rw[iJ];exact qI);rw[iJ,b9] at Nh;obtain⟨d0,jD,qQ⟩:=Nh;have aaL:=nC (beh:=beh) (b:=X) oG;have pz:=fH X;have aaM:=fV X;generalize hlb:ah beh X=lb at aaL pz aaM qQ;obtain⟨k,d,hk,hkd,oL⟩:=Vu (p:=fun d=>cP U ((X:Int),true) (d,false)) qQ (by unfold cP;simpa using jD);have u6:((((X:Int),true),(d,false)):ag×ag)∈U:=by unfold cP at oL;simpa using oL
        have aA:wD (ah beh) J U (w,(X:Int))=some (w++[(X:Int)],d):=by
         unfold wD;rw[if_neg qI,b9,hlb,hk,b9,hkd];rfl
        have uz:=uz (l:=lb) (g:=131) (fs:=[]) (cs:=[.pt [.im (um U)],.pt [I X]]) (p:=fun d=>cP U ((X:Int),true) (d,false)) (.fn oS (.cons (.pt (.cons (FB U) .nil)) (.cons (.pt (.cons (.s _) .nil)) .nil))) fun x hx=>aaJ us ⟨oG,oG⟩ (by have:=pz x hx;omega);rw[hk] at uz;have XP:Sns prog [a] M2 [ao lb,.fn (.func 131) [] [.pt [.im (um U)],.rp a 0]] [ao lb,.fn (.func 131) [] [.pt [.im (um U)],.pt [I X]]]:=⟨bQ (cH _),XN ⟨bQ (.pt (.cons (FB U) .nil)),MK ea oS rfl (.cons (.s _) .nil),trivial⟩,trivial⟩
        clear hk oL;refine aN ?_;refine bC ?_;refine Xo uz rfl XP rfl bF ?_;refine ab ?_;refine bB (dC (d:=.s (.int _ _)) (cs':=[_]) rfl rfl aj rfl rfl) ak (cF V.h V.h (by first|(simp;done)|exact⟨rfl,aP rfl⟩|(simp;omega)) rfl) ?_;refine bE bP ⟨d,_,aq eH,u6,qI,aA,up_same _ _ _,?_,?_⟩
        .exact al oG CQ
        .exact al oG eo
      .obtain⟨d,M2,fm,u6,qI,aA,ma2,mq2,mo2⟩:=hs;refine⟨_,fm,ax ?_⟩;have aj:=ma2;refine SS ?_;refine aa (mO (l:=[(0,.pt (aM f beh ahd c)),(1,I fn),(2,I J),(8,.pt [.im (um U)]),(22,.rp o 0),(23,I C.length),(179,ao l),(180,I l.length),(181,I i),(26,.rs (fk+1) 0 (w.length+1)),(225,I d)]) ⟨rfl,rfl,rfl,rfl,rfl,rfl,rfl,rfl,rfl,rfl,rfl,trivial⟩ fun M4 kW=>lL (rf:=true) (id:=_) ?_);have CQ:M4 (fk+1)=_:=kW▸mq2;have eo:M4 o=_:=kW▸mo2;clear kW aj;refine SS ?_;refine bB (dC (d:=.s (.int _ _)) (cs':=[_]) rfl rfl (up_same _ _ _) rfl rfl) ak (cF V.h V.h (by first|(simp;done)|exact⟨rfl,aP rfl⟩|(simp;omega)) rfl) ?_;refine aa (aJ (w++[(X:Int)],d,fk+1,fk+2,up (up M4 (fk+2) (some (.cells [I 0] 3))) (fk+2) (some (.cells [I d] 3)),fk+3) (aq ⟨rfl,rfl,rfl,rfl,rfl,rfl,rfl,rfl,rfl,?_,rfl,trivial⟩) ⟨⟨k0+1,vF fT aA⟩,hF.next (by rw[iJ];exact qI) (by rw[iJ];exact u6),?_,by dsimp only;rw[List.length_append];omega,?_,up_same _ _ _,?_,oM,oM,oM,oM,oM,oM⟩ (by dsimp only;rw[List.length_append,List.length_singleton];omega))
       .dsimp only;rw[List.length_append];rfl
       .dsimp only;rw[vo (by rw[List.length_append,List.length_singleton];omega)];exact xE
       .dsimp only;exact(al oG (al oG rfl)).trans CQ
       .dsimp only;exact(al oG (al oG rfl)).trans eo
     .clear Ht Hu;rintro s ⟨w,q,M,nx4,fm,mq,QI,mo,hF,GL,xE,l1,l2,hWy⟩
      have QJ:(if o=q then none else(M o).map (Row.sub (fz0 q (w.map I) (prog.cellsOf 3))))=some (.cells (kI C) 174):=by
       rw[if_neg (Ne.symm QI),mo];show some (Row.cells ((kI C).map _) 174)=_;rw[Un]
      refine⟨_,fm.trans (oX (l:=[(0,.pt (aM f beh ahd c)),(1,I fn),(2,I J),(8,.pt [.im (um U)]),(22,.rp o 0),(23,I C.length),(179,ao l),(180,I l.length),(181,I i),(26,ao w)]) (ml:=[(o,.cells (kI C) 174)]) mq ⟨rfl,rfl,rfl,rfl,if_neg (Ne.symm QI),rfl,rfl,rfl,rfl,?_,trivial⟩ ⟨QJ,trivial⟩),ai ?_⟩
      .show(if q=q then D.sl (((w.map I).drop 0).take (w.length*prog.cellsOf 3)) w.length else _)=_;rw[if_pos rfl,c3,List.drop_zero,Nat.mul_one,ez oS]
      .have lG:bi [(o,.cells (kI C) 174)] o=some (.cells (kI C) 174):=by simp[bi]
       generalize bi [(o,Row.cells (kI C) 174)]=M3 at lG;clear mq mo QJ fm
       have OX:∀ x∈C++[w],eL U fn J x/\x.getD (x.length - 1) 0=(J:Int)/\uq (ah beh) fn J U (x.getD 1 0) x:=fun x hx=>by
        rcases List.mem_append.1 hx with g|g
        .exact ki x g
        .simp only[List.mem_singleton] at g;subst g;exact⟨hF,GL,by rw[xE];exact hWy⟩
       have OY:(C++[w]).map (fun w=>w.getD 1 0)=(l.take (i+1)).filter (fun c=>cP U ((fn:Int),true) (c,false)):=by
        rw[pO,List.map_append,ru,if_pos rfl];show _++[w.getD 1 0]=_;rw[xE]
       have aj:=lG;rcases C with _|⟨a,_|⟨b,C⟩⟩
       .have aj:M3 o=some (.cells [.z,.z] 174):=lG;refine av ?_;refine bB (dC (d:=.sl _ _) (cs':=_) rfl rfl aj rfl rfl) ak (cF V.h V.h (by first|(simp;done)|exact⟨rfl,aP rfl⟩|(simp;omega)) rfl) ?_;refine aa (kB ?_);refine av ?_;refine aa ?_;show AOps _ _ _ _ _ _ _ _ _;refine ab ?_;refine aa (aJ (i+1,[w],_,_) (aq eH) ⟨oM,(show _<=2 from by simp),OX,OY,up_same _ _ _,oM⟩ oM)
       .have aj:M3 o=some (.cells [ao a,.z] 174):=lG;refine av ?_;refine bB (dC (d:=.sl _ _) (cs':=_) rfl rfl aj rfl rfl) ak (cF V.h V.h (by first|(simp;done)|exact⟨rfl,aP rfl⟩|(simp;omega)) rfl) ?_;refine aa (kB ?_);refine av ?_;refine aa ?_;show AOps _ _ _ _ _ _ _ _ _;refine ab ?_;refine aa (aJ (i+1,[a,w],_,_) (aq eH) ⟨oM,(show _<=2 from by simp),OX,OY,up_same _ _ _,oM⟩ oM)
       .simp at aaK;omega
  .have ba:¬ i<l.length:=by simpa using h
   rw[ez oG] at ru;have Hv:C.length=2:=by rw[<- FC, <- ru,List.length_map]
   obtain⟨w1,w2,rfl⟩:∃ a b,C=[a,b]:=by
    match C,Hv with
    |[a,b],_=>exact⟨a,b,rfl⟩
   have Hw:=Gg.filter (fun c=>cP U ((fn:Int),true) (c,false));rw[<- ru] at Hw;refine⟨w1,w2,M,nx,aq eH,hM,(ki w1 oS).1,(ki w2 oS).1,(ki w1 oS).2.1,(ki w2 oS).2.1,fun e=>?_,.inr ⟨by rw[b9,hl];exact ke,U,w1,w2,hW,by rw[b9,hl];exact ru,fun w hw=>(ki w hw).2.2,rfl⟩⟩;simp at Hw;exact Hw (by simpa using e)
 .rintro s ⟨w1,w2,M,nx,fm,hM,f1,f2,e1,e2,ap,Hi⟩;refine⟨_,fm,fK Tk ?_⟩;have aj:=hM;refine bC ?_;refine bE bP (bq (iH rfl rfl ⟨⟨w1,w2,rfl,f1.QK hU oG e1,f2.QK hU oG e2,f1.apart hU f2 ap⟩,Hi⟩))
end
section
variable{f:aC}{beh ahd:List (List Int)}{c:D}(hc:Tr c)
include hc
set_option maxHeartbeats 4000000 in
theorem CK{n:Nat}(iX:n<=10000)(bV:beh.length=n)(ng:ahd.length=n)(fH:∀ b,∀ t∈ah beh b,0<=t/\t.toNat<n)(ON:∀ (c:Nat) (a:Int),a∈ah ahd c↔0<=a/\a.toNat<n/\(c:Int)∈ah beh a.toNat)
 (bG:∀ b,(ah beh b).Nodup) (fV:∀ b,(ah beh b).length<=100000) (Hf:∀ b,(ah ahd b).length<=100000) {fn J:Nat} (kN:fn<n) (xy:J<n) (lF:fn≠J) (hR:∀ w,w≠(fn:Int)->w≠(J:Int)->Rf (ah beh) fn w J):
 nQ prog 62 [.pt (aM f beh ahd c),I fn,I J] (OO (ah beh) (ah ahd) fn J):=by
 have aH:∀ x∈[D.pt (aM f beh ahd c),I fn,I J],Tr x:=.cons (tN hc) (.cons (.s _) (.cons (.s _) .nil));refine Hh OP aH (fun d h=>Wn d h.1) ?_;rw[aaz];have nh:=nC (beh:=beh) (b:=fn) oG;have ij:=ij (l:=ah beh fn) (v:=(J:Int));have gp:=o4 (l:=ah beh fn) (x:=(J:Int));generalize hq:gM (ah beh fn) J=q at ij gp;refine ws ?_;refine ab ?_;refine aa (aB (ai ?_));refine cy ?_;refine cl ij ?_;cases q with
 |true=>
  have OQ:=Vq (beh:=ah beh) (fr:=(fn:Int)) (to:=(J:Int)) oG (by simpa using gp.1 rfl);have Hi:wS (ah beh) (ah ahd) fn J (.tup [ao [(fn:Int),(J:Int)],ao [(fn:Int),(J:Int)]]):=.inl ⟨by simpa using gp.1 rfl,rfl⟩;refine aa (fA ?_);refine aB (ax ?_);refine cy ?_;refine aa (aR (cE [(0,[I fn,I J],3),(1,[I fn,I J],3)] eH (l:=[(6,ao [(fn:Int),(J:Int)]),(7,ao [(fn:Int),(J:Int)])]) eH) (c8 (iH rfl rfl ⟨⟨_,_,rfl,OQ,OQ,fun i h0 hi=>?_⟩,Hi⟩)));simp at hi;omega
 |false=>
 have ke:(J:Int)∉ah beh fn:=fun h=>by
  have:=gp.2 h;cases this
 clear gp hq ij;refine aa (ll (cu (ai ?_)));refine ab ?_;refine bB (dC (d:=.mp _) (cs':=[_]) rfl rfl rfl rfl rfl) ak (cF V.h V.h (by first|(simp;done)|exact⟨rfl,aP rfl⟩|(simp;omega)) rfl) ?_;refine aa (aB (ax ?_))
 have zx:∀ b,n<=b->ah beh b=[]:=fun b hb=>by
  unfold ah;rw[aV,List.getElem?_eq_none oG];rfl
 have XM:∀ b,∀ t∈ah beh b,eB (t,false)/\eB (t,true):=fun b t ht=>by
  have:=fH b t ht;exact⟨⟨this.1,oM⟩,⟨this.1,oM⟩⟩
 refine SS ?_
 refine aa (cN (fun s=>∃ U m nx,Ghost prog s ⟨aw [(0,.pt (aM f beh ahd c)),(1,I fn),(2,I J),(8,.rp 1 0)],m,nx⟩/\2<=nx/\m 0=some (.map (um U))/\m 1=some (.cells [.mp 0] 165)/\eR (ah beh) fn J 2 U/\(∀ e∈U,eB e.1/\eB e.2)/\N2 U/\pP (ah beh) (ah ahd) fn J 2 U) (cG (α:=Nat×List (ag×ag)×Mem×Nat)
  (fun s=>⟨aw [(0,.pt (aM f beh ahd c)),(1,I fn),(2,I J),(8,.rp 1 0),(44,I s.1)],s.2.2.1,s.2.2.2⟩)
  (fun s=>s.1<=2/\2<=s.2.2.2/\s.2.2.1 0=some (.map (um s.2.1))/\s.2.2.1 1=some (.cells [.mp 0] 165)/\eR (ah beh) fn J s.1 s.2.1/\(∀ e∈s.2.1,eB e.1/\eB e.2)/\N2 s.2.1/\pP (ah beh) (ah ahd) fn J s.1 s.2.1) (fun s=>2 - s.1) (0,[],_,2)
  (aq eH) ⟨Nat.zero_le _,aU _,rfl,rfl,eR.nil,fun e h=>(by simp at h),fun x y h=>(by simp at h),.zero⟩ ?_) ?_)
 .rintro⟨r,U,m,nx⟩ ⟨hr,dx,mu,h8,hU,us,xA,Ab⟩;dsimp only at hr dx mu h8 hU us xA Ab ⊢;refine SS ?_;refine aa ⟨_,rfl,fun h=>?_,fun h=>?_⟩
  .have QD:r<2:=by
    have:(r:Int)<2:=by simpa using h
    omega
   show AW _ _ _ _ (scopeQ _) _;refine ws ?_;refine ab ?_;refine bB (dC (d:=.mp _) (cs':=[_]) rfl rfl (up_same _ _ _) rfl rfl) ak (cF V.h V.h (by first|(simp;done)|exact⟨rfl,aP rfl⟩|(simp;omega)) rfl) ?_;refine er ?_;refine aI ?_;refine aa (ax ?_);have Hj:eB ((fn:Int),true):=⟨oM,oM⟩
   refine au (eD rfl (al oG (al oG (up_same _ _ _))) rfl V.h) ak (eE V.h V.h rfl) ?_;refine ab ?_;refine bB (Bx (es:=[]) (key:=lm ((fn:Int),true)) (v:=.agg (c7 ((fn:Int),true))) rfl (al oG (al oG (al oG (al oG (up_same _ _ _))))) rfl rfl wB) bF ⟨wC,wz _ (fI Hj),rfl⟩ ?_;refine aa (mO (l:=[(0,.pt (aM f beh ahd c)),(1,I fn),(2,I J),(8,.rp 1 0),(44,I r),(9,.rp (nx+1) 0),(10,.rp (nx+2) 0)]) ⟨rfl,rfl,rfl,rfl,rfl,rfl,rfl,trivial⟩ fun M1 gC=>ai ?_);have f0:M1 0=some (.map (um U)):=(cg gC mu)
   have f1:M1 1=some (.cells [.mp 0] 165):=(cg gC h8)
   have fc:M1 nx=some (.map (iA [(((fn:Int),true),((fn:Int),true))])):=(cg gC h8)
   have f9:M1 (nx+1)=some (.cells [.mp nx] 166):=(cg gC h8)
   have f10:M1 (nx+2)=some (.cells (c7 ((fn:Int),true)) 168):=(cg gC h8)
   clear gC mu h8;have aj:=f10;refine SS ?_;refine OJ ?_;refine SS ?_;refine bB (dC (d:=.rs _ _ _) (cs':=[_]) rfl rfl (up_same _ _ _) rfl rfl) ak (cF V.h V.h (by first|(simp;done)|exact⟨rfl,aP rfl⟩|(simp;omega)) rfl) ?_;refine aa (ax ?_);refine ab ?_;refine aa (mO (l:=[(0,.pt (aM f beh ahd c)),(1,I fn),(2,I J),(8,.rp 1 0),(44,I r),(9,.rp (nx+1) 0),(10,.rp (nx+2) 0),(11,.rp (nx+4) 0),(12,.fn (.func 129) [] [.rp (nx+1) 0,.rp 1 0,.rp (nx+4) 0])]) ⟨rfl,rfl,rfl,rfl,rfl,rfl,rfl,rfl,rfl,trivial⟩ fun M2 fU=>Tf ?_)
   have Hk:lE 1 (nx+1) (nx+4) 0 nx (nx+3) M2 (nx+5) U [(((fn:Int),true),((fn:Int),true))] [((fn:Int),true)] 0:=by
    refine⟨(cg fU f1),(cg fU f9),(cg fU f9),(cg fU f0),(cg fU fc),⟨[],(cg fU f9),rfl⟩,oG,oG,us,fun e he=>?_,oS⟩;simp only[List.mem_singleton] at he;subst he;exact⟨Hj,Hj⟩
   have xB:M2 (nx+2)=some (.cells (c7 ((fn:Int),true)) 168):=(cg fU f10)
   clear fU f0 f1 fc f9 f10 aj;have Hl:SR (ah beh) fn J U [(((fn:Int),true),((fn:Int),true))] [((fn:Int),true)]:=SR.init;have hr2:((r:Nat):Int)<=1:=by omega
   have Ac:∀ e∈U,0<=e.1.1/\0<=e.2.1:=fun e he=>⟨(us e he).1.1,(us e he).2.1⟩
   have hK0:∀ k∈bf [(((fn:Int),true),((fn:Int),true))],qu n fn J k:=fun k hk=>by
    simp only[bf,List.map_cons,List.map_nil,List.mem_singleton] at hk;subst hk;exact⟨oM,oM,(fun h=>by cases h),fun _=>by dsimp only;omega⟩
   refine cN (fun s=>∃ cm op m nx',Ghost prog s ⟨aw [(0,.pt (aM f beh ahd c)),(1,I fn),(2,I J),(8,.rp 1 0),(44,I r),(9,.rp (nx+1) 0),(10,.rp (nx+2) 0)],m,nx'⟩/\m 0=some (.map (um U))/\m 1=some (.cells [.mp 0] 165)/\m nx=some (.map (iA cm))/\m (nx+1)=some (.cells [.mp nx] 166)/\(∀ e∈cm,eB e.1/\eB e.2)/\SR (ah beh) fn J U cm op/\m (nx+2)=some (.cells (c7 ((fn:Int),true)) 168)/\((J:Int),false)∈bf cm/\nx+5<=nx'/\yX (ah beh) (ah ahd) fn J U cm) (Bj (α:=List (ag×ag)×List ag×Nat×Nat×Mem×Nat)
    (fun s=>⟨aw [(0,.pt (aM f beh ahd c)),(1,I fn),(2,I J),(8,.rp 1 0),(44,I r),(9,.rp (nx+1) 0),(10,.rp (nx+2) 0),(11,.rp (nx+4) 0),(12,.fn (.func 129) [] [.rp (nx+1) 0,.rp 1 0,.rp (nx+4) 0])],s.2.2.2.2.1,s.2.2.2.2.2⟩)
    (fun s=>lE 1 (nx+1) (nx+4) 0 nx s.2.2.1 s.2.2.2.2.1 s.2.2.2.2.2 U s.1 s.2.1 s.2.2.2.1/\SR (ah beh) fn J U s.1 s.2.1/\s.2.2.2.2.1 (nx+2)=some (.cells (c7 ((fn:Int),true)) 168)/\nx+5<=s.2.2.2.2.2/\s.2.2.1≠nx+2/\s.2.1.length<=s.1.length/\(∀ k∈bf s.1,qu n fn J k)/\∃ k,kf (zj (ah beh) (ah ahd) fn J U) k ([(((fn:Int),true),((fn:Int),true))],[((fn:Int),true)])=some (s.1,s.2.1)) (fun s=>2*(2*n - s.1.length)+s.2.1.length) ([(((fn:Int),true),((fn:Int),true))],[((fn:Int),true)],nx+3,0,M2,nx+5)
    (aq eH) ⟨Hk,Hl,xB,aU _,oM,aU _,hK0,0,rfl⟩ ?_) ?_
   .clear Hk Hl xB;rintro⟨cm,op,q,off,m,nx'⟩ ⟨hM,hS,pw,OR,CL,OS,hK,k0,fT⟩;dsimp only at hM hS pw OR CL OS hK fT ⊢;have⟨h8,h9,tk,mu,mc,⟨pre,mq,mV⟩,⟨l8,l9,l11,lu,lc,lq⟩,⟨n1,n2,n3,n4,n5,n6,n7,n8,n9,n10,n11,n12,n13,n14,n15⟩,us,cs,ol⟩:=hM;have aj:=tk;have bX:=mq;cases op with
    |nil=>
     exfalso;exact hS.full hU hr2 oG (by simpa using ke) hR ⟨-1,oG,oG⟩
    |cons x op=>
     have ei:decide ((0:Int)<(((x::op).length:Nat):Int))=true:=decide_eq_true (by rw[List.length_cons];omega);refine SS ?_;refine au (Bw rfl bX) ak V.h ?_;refine SS ?_;refine aa ⟨_,rfl,fun _=>?_,fun h=>oH⟩;refine ws ?_
     have Nd:((pre++ln (x::op)).drop (off+(0:Int).toNat*2)).take 2=c7 x:=by
      rw[show off+(0:Int).toNat*2=pre.length by rw[mV];rfl,List.drop_left];rfl
     have eV:(pre++ln (x::op)).length=off+2*(op.length+1):=by rw[List.length_append,DD,mV];rfl
     refine SS ?_;refine au (Bv rfl rfl mq B9 sJ) bF ⟨BP,oG,by rw[List.length_cons];omega⟩ ?_;refine au (df (vs:=c7 x) rfl mq OT sJ Nd) bF (dg t168 sJ (by rw[eV];simp;omega)) ?_;refine ab ?_;refine aa (ax ?_);refine au (eD rfl (al oG (al oG aj)) rfl V.h) ak (eE V.h V.h rfl) ?_;refine au (DV (a:=1) (b:=((op.length+1:Nat):Int)) rfl (al oG (al oG mq)) B9 sJ rfl rfl) bF ⟨⟨BP,rfl⟩,oG,oG,by rw[List.length_cons];omega⟩ ?_;refine SS ?_;refine aa (mO (l:=[(0,.pt (aM f beh ahd c)),(1,I fn),(2,I J),(8,.rp 1 0),(44,I r),(9,.rp (nx+1) 0),(10,.rp (nx+2) 0),(11,.rp (nx+4) 0),(12,.fn (.func 129) [] [.rp (nx+1) 0,.rp 1 0,.rp (nx+4) 0]),(13,.rp nx' 0)]) ⟨rfl,rfl,rfl,rfl,rfl,rfl,rfl,rfl,rfl,rfl,trivial⟩ fun M3 lG=>?_)
     have QE:lE 1 (nx+1) (nx+4) 0 nx q M3 (nx'+1) U cm op (off+2):=by
      refine⟨(cg lG h8),(cg lG h9),?_,(cg lG mu),(cg lG mc),⟨pre++c7 x,?_,by rw[List.length_append,mV];rfl⟩,oG,oG,us,cs,by simp at ol;omega⟩
      .rw[lG,up_same,show(((op.length+1:Nat):Int) - 1).toNat=op.length by omega];rfl
      .rw[show pre++c7 x++ln op=pre++ln (x::op) by rw[List.append_assoc];rfl];exact(cg lG mq)
     have Hm:M3 nx'=some (.cells (c7 x) 168):=(cg lG mq)
     have xB:M3 (nx+2)=some (.cells (c7 ((fn:Int),true)) 168):=(cg lG pw)
     clear lG h8 h9 tk mu mc mq aj bX pw Nd eV ei hM mV ol;have kb:=hS.CJ x oS;have eC:=hK x kb;have cD:=wj hS hK;obtain⟨xb,xl⟩:=x;obtain⟨C,rfl⟩:=dd eC.1;have mw:C<n:=by have:=eC.2.1;simpa using this
     refine lM (ai ?_);have aj:=Hm;have aaA:q<nx':=by omega
     have ae7:nx+5<=nx':=OR;have M:SI (ah beh) fn J n nx nx' U cm op ((C:Int),xl) cm op q (off+2) M3 (nx'+1):=⟨QE,hS,hK,rfl,aU _,Hm,xB,oG,CL,oG⟩
     have aeW:op.length<cm.length:=by rw[List.length_cons] at OS;omega
     clear QE aj Hm xB;have aj:=M.ra;cases xl with
     |true=>
      refine aQ ?_;refine OU ?_;refine aI ?_;refine aa (aD rfl (fun h=>(by revert h;simp)) fun _=>ai ?_);refine av ?_;refine aa (gI (aB (oV Tg ?_)));have nh:=nC (beh:=beh) (b:=C) oG;have af:=fH C;have jG:=fV C;generalize hl:ah beh C=l at nh af jG;refine cy ?_;refine ab ?_
      refine bE bP (cN (fun s=>∃ dA fp q2 py m2 bx,Ghost prog s ⟨aw [(0,.pt (aM f beh ahd c)),(1,I fn),(2,I J),(8,.rp 1 0),(44,I r),(9,.rp (nx+1) 0),(10,.rp (nx+2) 0),(11,.rp (nx+4) 0),(12,.fn (.func 129) [] [.rp (nx+1) 0,.rp 1 0,.rp (nx+4) 0]),(13,.rp nx' 0)],m2,bx⟩/\SI (ah beh) fn J n nx nx' U cm op ((C:Int),true) dA fp q2 py m2 bx/\(∀ t∈l,t≠(fn:Int)->((((C:Int),true),(t,false)):ag×ag)∉U->(t,false)∈bf dA)/\(dA,fp)=tt fn U C l (cm,op)) (cG (α:=Nat×List (ag×ag)×List ag×Nat×Nat×Mem×Nat)
       (fun s=>⟨aw [(0,.pt (aM f beh ahd c)),(1,I fn),(2,I J),(8,.rp 1 0),(44,I r),(9,.rp (nx+1) 0),(10,.rp (nx+2) 0),(11,.rp (nx+4) 0),(12,.fn (.func 129) [] [.rp (nx+1) 0,.rp 1 0,.rp (nx+4) 0]),(13,.rp nx' 0),(114,ao l),(115,I l.length),(116,I s.1)],s.2.2.2.2.2.1,s.2.2.2.2.2.2⟩)
       (fun s=>s.1<=l.length/\SI (ah beh) fn J n nx nx' U cm op ((C:Int),true) s.2.1 s.2.2.1 s.2.2.2.1 s.2.2.2.2.1 s.2.2.2.2.2.1 s.2.2.2.2.2.2/\(∀ j t,j<s.1->l[j]? =some t->t≠(fn:Int)->((((C:Int),true),(t,false)):ag×ag)∉U->(t,false)∈bf s.2.1)/\(s.2.1,s.2.2.1)=tt fn U C (l.take s.1) (cm,op)) (fun s=>l.length - s.1) (0,cm,op,q,off+2,M3,nx'+1)
       (aq eH) ⟨Nat.zero_le _,M,fun j t h=>absurd h (Nat.not_lt_zero _),rfl⟩ ?_) ?_)
      .clear M aj;rintro⟨i,dA,fp,q2,py,m2,bx⟩ ⟨hi,M,bc,hex⟩;dsimp only at hi M bc hex ⊢;refine SS ?_;refine aa ⟨_,rfl,fun h=>?_,fun h=>?_⟩
       .have fg:i<l.length:=by simpa using h
        obtain⟨t,ht⟩:∃ t,l[i]? =some t:=⟨_,aK fg⟩
        have rm:=af t (bJ ht);refine ws ?_;refine av ?_;refine er ?_;by_cases xC:t=(fn:Int)
        .have fR:(t !=(fn:Int))=false:=by simp[xC]
         refine av ?_;refine aa (gk (cI ?_));refine ab ?_;refine aa (aJ (i+1,dA,fp,q2,py,m2,bx) (aq eH) ⟨oM,M,fun j s hj hs ap bK=>?_,by dsimp only;rw[JV ht,if_pos xC];exact hex⟩ oM);by_cases e:j=i
         .subst e;rw[ht] at hs;cases hs;exact absurd xC ap
         .exact bc j s (by dsimp only at hj;omega) hs ap bK
        .have fR:(t !=(fn:Int))=true:=by simp[xC]
         refine av ?_;refine aa (gI (fY ?_));have aj:=M.ra;refine aI ?_;have ae8:=wj M.sr M.ky;have ae9:=M.le;refine gW (B8 (x:=((C:Int),true)) (y:=(t,false)) M.nm ⟨oM,oM⟩ (XM C t (by rw[hl];exact bJ ht)).1 oG) rfl bF fun d m' fk hp=>?_;obtain⟨rfl,sK,gA,so⟩:=hp;obtain⟨kV,nj,q3,oe,iQ,tu,sq,oJ⟩:=M.next fH zx Ac hU.ed (fun hn=>.inl ⟨.out (by rw[b9,hl];exact bJ ht) xC (eC.2.2.2 rfl),hn⟩) sK gA so
         refine aa ?_;refine ab ?_;refine aa (aJ (i+1,kV,nj,q3,oe,m',fk) (aq eH) ⟨oM,iQ,fun j s hj hs ap bK=>?_,by dsimp only;rw[JV ht,if_neg xC, <- hex];exact oJ⟩ oM);by_cases e:j=i
         .subst e;rw[ht] at hs;cases hs;exact tu bK
         .exact sq _ (bc j s (by dsimp only at hj;omega) hs ap bK)
       .have ba:¬ i<l.length:=by simpa using h
        refine⟨dA,fp,q2,py,m2,bx,aq eH,M,fun t ht ap bK=>?_,by rw[ez oG] at hex;exact hex⟩;obtain⟨j,hj⟩:=cU ht;exact bc j t (by have:=(bj.1 hj).1;omega) hj ap bK
      .clear M aj;rintro s ⟨dA,fp,q2,py,m2,bx,fm,B',br,hex⟩
       have aA:zj (ah beh) (ah ahd) fn J U (cm,((C:Int),true)::op)=some (if(C:Int)≠(fn:Int)/\cP U ((C:Int),false) ((C:Int),true)=true then my U ((C:Int),true) (dA,fp) ((C:Int),false) else(dA,fp)):=by
        rw[hex, <- hl];rfl
       refine⟨_,fm,ax ?_⟩;have aj:=B'.ra;refine aQ ?_;refine aa (mO (l:=[(0,.pt (aM f beh ahd c)),(1,I fn),(2,I J),(8,.rp 1 0),(44,I r),(9,.rp (nx+1) 0),(10,.rp (nx+2) 0),(11,.rp (nx+4) 0),(12,.fn (.func 129) [] [.rp (nx+1) 0,.rp 1 0,.rp (nx+4) 0]),(13,.rp nx' 0),(16,.rp bx 0)]) ⟨rfl,rfl,rfl,rfl,rfl,rfl,rfl,rfl,rfl,rfl,rfl,trivial⟩ fun M4 kW=>ai ?_);have aaB:=B'.lo;have X:=B'.ext (m':=M4) (nx':=bx+1) (fun i hi=>(cg kW kW)) oG;have Hn:M4 bx=some (.cells (c7 ((C:Int),false)) 168):=(cg kW kW)
       clear kW B' aj;have aj:=X.ra;have bX:=Hn;have dZ:=X.nm.h8;have CM:=wj X.sr X.ky;have CN:=X.le;have Ho:=X.ge;have Hp:=X.lo
       have FA:∀ t∈ah beh (((C:Nat):Int)).toNat,t≠(fn:Int)->((((C:Int),true),(t,false)):ag×ag)∉U->(t,false)∈bf dA:=by
        rw[b9,hl];exact br
       by_cases oK:C=fn
       .have fR:((C:Int) !=(fn:Int))=false:=by simp[oK]
        have cD:=Dh hU.ed (K:=fun y=>y∈bf dA) FA (fun h=>absurd (by rw[oK]) h);refine aQ ?_;(iterate 5 refine z fun _ _=>?_);refine SS ?_;refine aa (gk (cI (aJ (dA,fp,q2,py,M4,bx+1) (aq eH) ⟨X.nm,X.sr.pop oS cD,X.rs,oM,X.qn.1,oM,X.ky,k0+1,vF fT (by rw[aA,if_neg (fun h=>h.1 (by rw[oK]))])⟩ (by dsimp only;rw[List.length_cons];omega))))
       .have fR:((C:Int) !=(fn:Int))=true:=by simp;omega
        refine aQ ?_;refine aT rfl rfl (eD rfl dZ rfl V.h) (fun hc=>⟨ak,(eE V.h V.h rfl)⟩) ?_;refine aT rfl rfl (df rfl bX V.h V.h rfl) (fun hc=>⟨ak,(dg V.h V.h (by first|(simp;done)|omega|exact aP rfl))⟩) ?_;refine aT rfl rfl (df rfl aj V.h V.h rfl) (fun hc=>⟨ak,(dg V.h V.h (by first|(simp;done)|omega|exact aP rfl))⟩) ?_;refine SS ?_;refine aT rfl rfl (rI (es:=um U) (key:=jr ((C:Int),false) ((C:Int),true)) rfl X.nm.mu rfl qq (wi wA _ _ U)) (fun hc=>⟨(by repeat' (first|exact trivial|exact hc|exact rfl|refine And.intro ?_ ?_)),⟨qt,qp _ _ (fI ⟨oM,oM⟩) (fI ⟨oM,oM⟩),rS us⟩⟩) ?_;generalize hu:cP U ((C:Int),false) ((C:Int),true)=ux;refine SS ?_;cases ux with
        |false=>
         have Hq:((((C:Int),false),((C:Int),true)):ag×ag)∉U:=by unfold cP at hu;simpa using hu
         have cD:=Dh hU.ed (K:=fun y=>y∈bf dA) FA (fun _ h=>absurd h Hq);refine aa (gk (cI (aJ (dA,fp,q2,py,M4,bx+1) (aq eH) ⟨X.nm,X.sr.pop oS cD,X.rs,oM,X.qn.1,oM,X.ky,k0+1,vF fT (by rw[aA,if_neg (fun h=>by rw[hu] at h;cases h.2)])⟩ (by dsimp only;rw[List.length_cons];omega))))
        |true=>
         have nk:((((C:Int),false),((C:Int),true)):ag×ag)∈U:=by unfold cP at hu;simpa using hu
         have bK:=xA _ _ nk;refine aa (gI (kB ?_));refine av ?_;refine gW (B8 (x:=((C:Int),true)) (y:=((C:Int),false)) X.nm ⟨oM,oM⟩ ⟨oM,oM⟩ oG) rfl bF fun d m' fk hp=>?_;obtain⟨rfl,sK,gA,so⟩:=hp;obtain⟨kV,nj,q3,oe,iQ,tu,sq,oJ⟩:=X.next fH zx Ac hU.ed (fun _=>.inr nk) sK gA so
         have cD:=Dh hU.ed (K:=fun y=>y∈bf kV) (fun t ht h1 h2=>sq _ (FA t ht h1 h2)) (fun _ _=>tu bK);clear CM CN Ho Hp;have CM:=wj iQ.sr iQ.ky;have CN:=iQ.le;have Ho:=iQ.ge;have Hp:=iQ.lo;refine aa (aJ (kV,nj,q3,oe,m',fk) (aq eH) ⟨iQ.nm,iQ.sr.pop oS cD,iQ.rs,oM,iQ.qn.1,oM,iQ.ky,k0+1,vF fT (by rw[aA,if_pos ⟨oG,hu⟩, <- oJ])⟩ (by dsimp only;rw[List.length_cons];omega))
     |false=>
      by_cases uB:C=J
      .have gL:((C:Int)==(J:Int))=true:=by simp[uB]
       refine aQ ?_;refine OU ?_;refine aI ?_;refine aa (gI (Wb ?_));refine LU oC (Vd oC ⟨cm,_,M3,nx'+1,aq eH,M.nm.mu,M.nm.h8,M.nm.mc,M.nm.h9,M.nm.cs,hS,M.rs,?_,oG,k0,_,fT,?_⟩)
       .rw[<- uB];exact kb
       .show(if(C:Int)=(J:Int) then none else _)=none;rw[if_pos oG]
      .have gL:((C:Int)==(J:Int))=false:=by simp;omega
       have aaC:(C:Int)≠(fn:Int):=eC.2.2.1 rfl;have qI:(C:Int)≠(J:Int):=by omega
       refine aQ ?_;(iterate 3 refine z fun _ _=>?_);refine ab ?_;refine aa (aD rfl (fun h=>(by revert h;simp)) fun _=>ai ?_);refine av ?_;refine aa (gk (ai ?_));refine aQ ?_;refine gW (B8 (x:=((C:Int),false)) (y:=((C:Int),true)) M.nm ⟨oM,oM⟩ ⟨oM,oM⟩ oG) rfl bF fun d m' fk hp=>?_;obtain⟨rfl,sK,gA,so⟩:=hp;obtain⟨kV,nj,q3,oe,iQ,tu,sq,oJ⟩:=M.next fH zx Ac hU.ed (fun hn=>.inl ⟨.uY aaC qI,hn⟩) sK gA so
       clear M aj gA so cD sK aaA;refine aa (oV Th ?_);have nh:=nC (beh:=ahd) (b:=C) oG
       have af:∀ t∈ah ahd C,0<=t/\t.toNat<n:=fun t ht=>by
        have:=(ON C t).1 ht;exact⟨this.1,this.2.1⟩
       have jG:=Hf C
       have bc:∀ a:Int,0<=a->(C:Int)∈ah beh a.toNat->a∈ah ahd C:=fun a h0 hm=>by
        refine(ON C a).2 ⟨h0,Nat.lt_of_not_le fun h=>?_,hm⟩;rw[zx _ h] at hm;cases hm
       generalize hl:ah ahd C=l at nh af jG bc;have aj:=iQ.ra;refine cy ?_;refine ab ?_
       refine bE bP (cG (α:=Nat×List (ag×ag)×List ag×Nat×Nat×Mem×Nat)
        (fun s=>⟨aw [(0,.pt (aM f beh ahd c)),(1,I fn),(2,I J),(8,.rp 1 0),(44,I r),(9,.rp (nx+1) 0),(10,.rp (nx+2) 0),(11,.rp (nx+4) 0),(12,.fn (.func 129) [] [.rp (nx+1) 0,.rp 1 0,.rp (nx+4) 0]),(13,.rp nx' 0),(76,ao l),(77,I l.length),(78,I s.1)],s.2.2.2.2.2.1,s.2.2.2.2.2.2⟩)
        (fun s=>s.1<=l.length/\SI (ah beh) fn J n nx nx' U cm op ((C:Int),false) s.2.1 s.2.2.1 s.2.2.2.1 s.2.2.2.2.1 s.2.2.2.2.2.1 s.2.2.2.2.2.2/\(((((C:Int),false),((C:Int),true)):ag×ag)∉U->(((C:Int),true):ag)∈bf s.2.1)/\(∀ j t,j<s.1->l[j]? =some t->(((t,true),((C:Int),false)):ag×ag)∈U->(t,true)∈bf s.2.1)/\(s.2.1,s.2.2.1)=tv U C (l.take s.1) (my U ((C:Int),false) (cm,op) ((C:Int),true))) (fun s=>l.length - s.1) (0,kV,nj,q3,oe,m',fk)
        (aq eH) ⟨Nat.zero_le _,iQ,tu,fun j t h=>absurd h (Nat.not_lt_zero _),oJ⟩ ?_)
       have aA:zj (ah beh) (ah ahd) fn J U (cm,((C:Int),false)::op)=some (tv U C l (my U ((C:Int),false) (cm,op) ((C:Int),true))):=by
        show(if(C:Int)=(J:Int) then none else some (tv U C (ah ahd C) _))=_;rw[if_neg qI,hl]
       clear iQ tu sq aj oJ;rintro⟨i,dA,fp,q2,py,m2,bx⟩ ⟨hi,M,uZ,Ca,hex⟩;dsimp only at hi M uZ Ca hex ⊢;refine SS ?_;refine aa ⟨_,rfl,fun h=>?_,fun h=>?_⟩
       .have fg:i<l.length:=by simpa using h
        obtain⟨t,ht⟩:∃ t,l[i]? =some t:=⟨_,aK fg⟩
        have rm:=af t (bJ ht);refine ws ?_;refine av ?_;refine aa (ax ?_);refine aI ?_;refine aa (mO (l:=[(0,.pt (aM f beh ahd c)),(1,I fn),(2,I J),(8,.rp 1 0),(44,I r),(9,.rp (nx+1) 0),(10,.rp (nx+2) 0),(11,.rp (nx+4) 0),(12,.fn (.func 129) [] [.rp (nx+1) 0,.rp 1 0,.rp (nx+4) 0]),(13,.rp nx' 0),(76,ao l),(77,I l.length),(78,I i),(19,.rp bx 0)]) ⟨rfl,rfl,rfl,rfl,rfl,rfl,rfl,rfl,rfl,rfl,rfl,rfl,rfl,rfl,trivial⟩ fun M4 kW=>ai ?_);have aaB:=M.lo;have X:=M.ext (m':=M4) (nx':=bx+1) (fun i hi=>(cg kW kW)) oG;have Hn:M4 bx=some (.cells (c7 (t,true)) 168):=(cg kW kW)
        clear kW M;have aj:=X.ra;have bX:=Hn;have dZ:=X.nm.h8;have CM:=wj X.sr X.ky;have CN:=X.le;refine aI ?_;refine au (rI (es:=um U) (key:=jr (t,true) ((C:Int),false)) rfl X.nm.mu rfl qq (wi wA _ _ U)) bF ⟨qt,qp _ _ (fI ⟨oM,oM⟩) (fI ⟨oM,oM⟩),rS us⟩ ?_;generalize hu:cP U (t,true) ((C:Int),false)=ux;cases ux with
        |false=>
         have Hq:(((t,true),((C:Int),false)):ag×ag)∉U:=by unfold cP at hu;simpa using hu
         refine aa (gk (cI ?_));refine ab ?_;refine aa (aJ (i+1,dA,fp,q2,py,M4,bx+1) (aq eH) ⟨oM,X,uZ,fun j s hj hs nk=>?_,by dsimp only;rw[JW ht,hu,if_neg oS];exact hex⟩ oM);by_cases e:j=i
         .subst e;rw[ht] at hs;cases hs;exact absurd nk Hq
         .exact Ca j s (by dsimp only at hj;omega) hs nk
        |true=>
         have nk:(((t,true),((C:Int),false)):ag×ag)∈U:=by unfold cP at hu;simpa using hu
         have bK:=xA _ _ nk;refine aa (gI (fY ?_));refine av ?_;refine gW (B8 (x:=((C:Int),false)) (y:=(t,true)) X.nm ⟨oM,oM⟩ ⟨oM,oM⟩ oG) rfl bF fun d m' fk hp=>?_;obtain⟨rfl,sK,gA,so⟩:=hp;obtain⟨kV,nj,q3,oe,iQ,tu,sq,oJ⟩:=X.next fH zx Ac hU.ed (fun _=>.inr nk) sK gA so
         refine aa ?_;refine ab ?_;refine aa (aJ (i+1,kV,nj,q3,oe,m',fk) (aq eH) ⟨oM,iQ,fun h=>sq _ (uZ h),fun j s hj hs aaD=>?_,by dsimp only;rw[JW ht,hu,if_pos rfl, <- hex];exact oJ⟩ oM);by_cases e:j=i
         .subst e;rw[ht] at hs;cases hs;exact tu bK
         .exact sq _ (Ca j s (by dsimp only at hj;omega) hs aaD)
       .have ba:¬ i<l.length:=by simpa using h
        have cD:=Ti hU.ed Ac (b:=(C:Int)) (K:=fun y=>y∈bf dA) uZ (fun a h0 hm nk=>by
         obtain⟨j,hj⟩:=cU (bc a h0 hm)
         exact Ca j a (by have:=(bj.1 hj).1;omega) hj nk)
        have CM:=wj M.sr M.ky;have CN:=M.le;have Ho:=M.ge;have Hp:=M.lo;refine aJ (dA,fp,q2,py,m2,bx) (aq eH) ⟨M.nm,M.sr.pop (by simpa using qI) cD,M.rs,oM,M.qn.1,oM,M.ky,k0+1,vF fT (by rw[aA];rw[ez oG] at hex;rw[hex])⟩ (by dsimp only;rw[List.length_cons];omega)
   .clear Hk Hl xB;rintro s ⟨cm,op,m,nx',fm,mu,h8,mc,h9,cs,hS,pw,uX,kT,aaE⟩;refine⟨_,fm,ax ?_⟩;refine aI ?_;obtain⟨i0,QF⟩:=TR.init hS hU uX
    refine aa (Wl (α:=Nat×ag×List (ag×ag)×Nat×Mem×Nat)
     (fun s=>⟨aw [(0,.pt (aM f beh ahd c)),(1,I fn),(2,I J),(8,.rp 1 0),(44,I r),(9,.rp (nx+1) 0),(10,.rp (nx+2) 0),(20,.rp s.2.2.2.1 0)],s.2.2.2.2.1,s.2.2.2.2.2⟩)
     (fun s=>(∃ k,kf (BQ (fn:Int) cm) k (((J:Int),false),U)=some (s.2.1,s.2.2.1))/\TR (ah beh) fn J U cm s.1 s.2.1 s.2.2.1/\N2 s.2.2.1/\(∀ e∈s.2.2.1,eB e.1/\eB e.2)/\s.2.2.2.2.1 0=some (.map (um s.2.2.1))/\s.2.2.2.2.1 1=some (.cells [.mp 0] 165)/\s.2.2.2.2.1 nx=some (.map (iA cm))/\s.2.2.2.2.1 (nx+1)=some (.cells [.mp nx] 166)/\s.2.2.2.2.1 (nx+2)=some (.cells (c7 ((fn:Int),true)) 168)/\s.2.2.2.2.1 s.2.2.2.1=some (.cells (c7 s.2.1) 168)/\nx+5<=s.2.2.2.1/\s.2.2.2.1<s.2.2.2.2.2)
     (fun s=>s.1) (i0,((J:Int),false),U,nx',_,_)
     (aq eH) ⟨⟨0,rfl⟩,QF,xA,us,(l0 mu),(l0 h8),(l0 mc),(l0 h9),(l0 pw),(l0 h9),oM,oM⟩ ?_)
    clear mu h8 mc h9 pw QF fm;rintro⟨i,y,Vv,a,m,tw⟩ ⟨⟨k0,fT⟩,hT,hN,vs,mu,h8,mc,h9,pw,CO,ng,rh⟩;dsimp only at fT hT hN vs mu h8 mc h9 pw CO ng rh ⊢;have aj:=CO;have bX:=pw;have qW:flatT prog 168=some [0,1]:=kr;have heg:prog.eqGuardType prog.depth 168=false:=kr
    have QG:(!veqs [.int .i64 y.1,.bool y.2] [.int .i64 (fn:Int),.bool true])= !decide (y=((fn:Int),true)):=by
     rw[<- JU];rfl
    refine ab ?_;generalize u6:decide (y=((fn:Int),true))=yd at QG;refine au (Nf (us:=[.int .i64 y.1,.bool y.2]) (vs:=[.int .i64 (fn:Int),.bool true]) rfl rfl qW rfl QG) bF ⟨rfl,heg⟩ ?_;refine aa ⟨_,rfl,fun h=>?_,fun h=>?_⟩
    .have Hr:y≠((fn:Int),true):=by
      intro e;rw[e,decide_eq_true rfl] at u6;subst u6;cases h
     have zy:=hT.at_;obtain⟨x0,oA⟩:=zy;have CI:y∈bf cm:=List.mem_map.2 ⟨_,bJ oA,rfl⟩;obtain⟨k9,x,rk,td⟩:=ye.1 CI
     have Ad:cm[i]? =some (y,x):=by
      obtain⟨j,hj⟩:=cU td;rw[Eu hS.nd oA hj];exact hj
     obtain⟨j,bU,QH⟩:=hT.step hS Ad Hr
     have eh:oF (ah beh) fn J U x y:=by
      refine(hS.par i y x ?_ Ad).1;rcases Nat.eq_zero_or_pos i with g|g
      .subst g;rw[hS.hd] at Ad;simp only[ay,a8] at Ad;exact absurd Ad.1.symm Hr
      .exact g
     have aaF:x≠y:=Wo hU.ed eh;have aaG:=Vs hT.ed hN hT.nd aaF;have tm:=(cs _ td).1;have xv:=(cs _ td).2;dsimp only at xv tm
     have Qq:∀ e∈iI Vv x y,eB e.1/\eB e.2:=fun e he=>by
      unfold iI at he;split at he
      .exact vs e (List.mem_of_mem_erase he)
      .rcases List.mem_append.1 he with g|g
       .exact vs e g
       .simp only[List.mem_singleton] at g;subst g;exact⟨xv,tm⟩
     have uA:gotD prog 166 false (lookD (lm y) (iA cm))=.agg (c7 x):=by rw[rk];rfl
     refine Ip (fun s=>∃ m2 bx,Ghost prog s ⟨aw [(0,.pt (aM f beh ahd c)),(1,I fn),(2,I J),(8,.rp 1 0),(44,I r),(9,.rp (nx+1) 0),(10,.rp (nx+2) 0),(20,.rp a 0)],m2,bx⟩/\tw<=bx/\m2 0=some (.map (um (iI Vv x y)))/\∀ i,i<tw->i≠0->m2 i=m i) (ax ?_) fun s hs=>?_
     .have dZ:=h9;refine ab ?_;refine au (rI (es:=iA cm) (key:=lm y) rfl mc rfl wB uA) bF ⟨wC,wz _ (fI tm),A6 cs⟩ ?_;refine ab ?_;refine aa (mO (l:=[(0,.pt (aM f beh ahd c)),(1,I fn),(2,I J),(8,.rp 1 0),(44,I r),(9,.rp (nx+1) 0),(10,.rp (nx+2) 0),(20,.rp a 0),(21,.rp tw 0)]) ⟨rfl,rfl,rfl,rfl,rfl,rfl,rfl,rfl,rfl,trivial⟩ fun M5 Ae=>ai ?_);have gA:∀ i,i<tw->M5 i=m i:=fun i hi=>(cg Ae Ae)
      have g21:M5 tw=some (.cells (c7 x) 168):=(cg Ae Ae)
      have Hs:M5 0=some (.map (um Vv)):=(gA 0 oG).trans mu;clear Ae aj bX dZ;have aj:=(gA 1 oG).trans h8;have bX:=(gA a rh).trans CO;have dZ:=g21;refine aI ?_;refine au (rI (es:=um Vv) (key:=jr y x) rfl Hs rfl qq (wi wA y x Vv)) bF ⟨qt,qp _ _ (fI tm) (fI xv),rS vs⟩ ?_;generalize hu:cP Vv y x=ux;cases ux with
      |true=>
       have hyx:(y,x)∈Vv:=by unfold cP at hu;simpa using hu
       refine aa (gI (jM ?_));refine aI ?_;refine bB (Wm (es:=um Vv) (key:=jr y x) rfl Hs rfl qq) bF ⟨qt,qp _ _ (fI tm) (fI xv),rS vs⟩ ?_;refine aa ⟨_,_,aq eH,oG,?_,fun i hi h0=>?_⟩
       .unfold iI;rw[hu,if_pos rfl, <- Wj hyx];exact up_same _ _ _
       .exact(al h0 rfl).trans (gA i hi)
      |false=>
       refine aa (gk (jM ?_));refine aI ?_;refine bB (Bx (es:=um Vv) (key:=jr x y) (v:=B true) rfl Hs rfl rfl qq) bF ⟨qt,qp _ _ (fI xv) (fI tm),rS vs⟩ ?_
       have aaH:(x,y)∉Vv:=fun hm=>by
        have bG:=QH.nd;unfold iI at bG;rw[hu,if_neg oS,List.nodup_append] at bG;exact bG.2.2 _ hm _ oS rfl
       refine aa ⟨_,_,aq eH,oG,?_,fun i hi h0=>?_⟩
       .unfold iI;rw[hu,if_neg oS, <- Wi aaH];exact up_same _ _ _
       .exact(al h0 rfl).trans (gA i hi)
     .obtain⟨m2,bx,fm,Qd,mu2,gA⟩:=hs;refine⟨_,fm,aB (ai ?_)⟩;have aj:=(gA a rh oG).trans CO;refine SS ?_;refine aa (ax ?_);refine ab ?_;refine aa (mO (l:=[(0,.pt (aM f beh ahd c)),(1,I fn),(2,I J),(8,.rp 1 0),(44,I r),(9,.rp (nx+1) 0),(10,.rp (nx+2) 0),(20,.rp bx 0)]) ⟨rfl,rfl,rfl,rfl,rfl,rfl,rfl,rfl,trivial⟩ fun M6 Af=>lL (rf:=true) (id:=_) ?_);have Gf:∀ i,i<tw->i≠0->M6 i=m i:=fun i hi h0=>(cg Af (gA i hi h0))
      have g20:M6 bx=some (.cells (c7 y) 168):=(cg Af Af)
      have mu6:M6 0=some (.map (um (iI Vv x y))):=(cg Af mu2)
      have mc6:=(Gf nx oG oG).trans mc;clear Af aj bX;have aj:=(Gf (nx+1) oG oG).trans h9;have bX:=g20;refine ab ?_;refine au (rI (es:=iA cm) (key:=lm y) rfl mc6 rfl wB uA) bF ⟨wC,wz _ (fI tm),A6 cs⟩ ?_;refine bB (iE rfl rfl bX rfl) ak (cF V.h V.h (by first|(simp;done)|exact⟨rfl,aP rfl⟩|(simp;omega)) (by rfl)) ?_;have CP:∀ i,i<tw->i≠0->∀ r,up M6 bx r i=m i:=fun i hi h0 r=>(al oG rfl).trans (Gf i hi h0);refine aa (aJ (j,x,iI Vv x y,bx,_,_) (aq eH) ⟨⟨k0+1,vF fT (by unfold BQ;rw[if_neg Hr,Vt hS.nd td];rfl)⟩,QH,aaG,Qq,(l0 mu6),(CP 1 oG oG _).trans h8,(CP nx oG oG _).trans mc,(CP (nx+1) oG oG _).trans h9,(CP (nx+2) oG oG _).trans pw,up_same _ _ _,oM,oM⟩ bU)
    .have hyf:y=((fn:Int),true):=by
      cases yd with
      |true=>simpa using u6
      |false=>cases h
     subst hyf;have wT:=hT.fin hU;show AOps _ _ _ _ _ _ _ _ _;refine ab ?_;refine aa (aJ (r+1,Vv,m,tw) (aq eH) ⟨oM,oM,mu,h8,by dsimp only;push_cast;exact wT,vs,hN,Ab.succ aaE ⟨k0,fT⟩⟩ oM)
  .have QD:r=2:=by
    have:¬ (r:Int)<2:=by simpa using h
    omega
   subst QD;exact⟨U,m,nx,aq eH,dx,mu,h8,hU,us,xA,Ab⟩
 rintro s ⟨U,m,nx,fm,dx,mu,h8,hU,us,xA,Ab⟩;obtain⟨s',h1,h2⟩:=aaI (f:=f) (ahd:=ahd) (c:=c) iX bV fH bG fV kN xy lF dx mu h8 hU us Ab ke;exact⟨s',fm.trans h1,h2⟩
end
end Go.Proofs.Tryz.K
namespace Go.Argus
def fJ(G:Nat->List Int)(n:Nat):List D:=(List.range n).map fun i=>ao (G i)
@[simp] theorem aeO (G : Nat -> List Int) (n : Nat) : (fJ G n).length = n := by simp [fJ]
theorem Kw{G:Nat->List Int}{n i:Nat}{l:List Int}:(fJ G n).set i (ao l)=fJ (up G i l) n:=by
 unfold fJ;rw[DE];refine congrArg (fun F=>(List.range n).map F) (funext fun k=>?_);by_cases e:k=i
 .subst e;rw[up_same,up_same]
 .rw[up_ne _ _ e,up_ne _ _ e]
def ld(f:aC)(d:D):Prop:=
 if bW f=0 then ∃ x:c9,d=.tup [.agg (bO x),I 0]/\kC (a7 f) (cY f) f.blocks.length x/\wy x else d=.tup [.agg [.z,.z,.z],I (bW f)]
theorem JX{f:aC}(d:D)(h:ld f d):Tr d:=by
 unfold ld at h;split at h
 .obtain⟨x,rfl,_⟩:=h;exact .tup (.cons (.agg (rJ x)) (.cons (.s _) .nil))
 .subst h;exact .tup (.cons (.agg (.cons .z (.cons .z (.cons .z .nil)))) (.cons (.s _) .nil))
theorem Vw(f:aC)(b:Nat):(a7 f b).Nodup:=by
 rcases Nat.lt_or_ge b f.blocks.length with g|g
 .rw[show a7 f b=_ from rL (aK g)];exact(Tl _).imp fun h=>by omega
 .rw[show a7 f b=[] from AU g];exact List.nodup_nil
theorem Tm(f:aC)(d:c9):Bl f d=la f d:=by
 unfold Bl la;split
 .rename_i C;rw[Uq (qH (mN (tI C)))]
 .rfl
theorem RU{f:aC}{d:c9}(C:bW f=0)(h:kC (a7 f) (cY f) f.blocks.length d):Bl f d=.tup [B true,I 0]:=by
 unfold Bl;rw[if_pos C,(Ky (qH (mN (tI C)))).2 h]
theorem Sx{f:aC}{d:c9}(C:bW f=0)(h:kC (a7 f) (cY f) f.blocks.length d):d.par=dQ (a7 f) (cY f) f.blocks.length:=I8 (qH (mN (tI C))) h
theorem Sy{f:aC}{d:c9}(C:bW f=0):∃ x,la f d=.tup [B x,I 0]/\(x=true->d.par=dQ (a7 f) (cY f) f.blocks.length):=by
 refine⟨qf (a7 f) (cY f) f.blocks.length d,by unfold la;rw[if_pos C],fun h=>?_⟩;have hg:=qH (mN (tI C));exact I8 hg ((I9 hg).1 h)
theorem VA{f:aC}(C:bW f=0):(dQ (a7 f) (cY f) f.blocks.length).length=f.blocks.length/\f.blocks.length<=10000/\∀ b,b<f.blocks.length->∃ v c,(dQ (a7 f) (cY f) f.blocks.length)[b]? =some v/\(b8 (a7 f) f.blocks.length (-1))[b]? =some c/\(v== -1)=(((b:Nat):Int)==0|| !c):=by
 have hg:=qH (mN (tI C));have J:=tK hg;have M:=vB (w:= -1) hg.to hg.pos;refine⟨J,by have:=(mN (tI C)).oD;omega,fun b hb=>⟨_,(b8 (a7 f) f.blocks.length (-1)).getD b false,sc (by rw[J];exact hb),?_,?_⟩⟩
 .rw[aV,aK (by rw[M];exact hb)];rfl
 .rw[o6 hg hb];by_cases h:b≠0/\a9 (a7 f) f.blocks.length b
  .have h2:(b8 (a7 f) f.blocks.length (-1)).getD b false=true:=h.2;rw[if_pos h,h2];have:¬ ((b:Int)=0):=by omega
   have h3:¬ (((dB (a7 f) (cY f) f.blocks.length b:Nat):Int)= -1):=by omega
   have h4:(((dB (a7 f) (cY f) f.blocks.length b:Nat):Int)== -1)=false:=by simp[h3]
   have h5:((b:Int)==0)=false:=by simpa using this
   rw[h4,h5];rfl
  .rw[if_neg h];cases hc:(b8 (a7 f) f.blocks.length (-1)).getD b false with
   |false=>simp
   |true=>
    have:b=0:=Classical.byContradiction fun g=>h ⟨g,hc⟩;simp[this]
end Go.Argus
namespace Go.Proofs.Tryz.K
set_option maxRecDepth 10000
theorem Vx{f:aC}(C:bW f≠0):nQ prog 20 [.agg (aX f)] (ld f):=by
 have M:=Bk C;refine Hh Cb (.cons (.agg (jL f)) .nil) JX ?_
 have J:ld f (.tup [.agg [.z,.z,.z],I (bW f)]):=by
  unfold ld;rw[if_neg C]
 generalize ld f=Q at J;generalize bW f=e at M C J;have fR:(e !=0)=true:=by simpa using C
 rw[OZ];refine ws ?_;refine av ?_;refine er ?_;refine SS ?_;refine cl M ?_;refine aI ?_;refine aaN ?_;refine SS ?_;refine aa (aB (ai ?_));refine ab ?_;refine aa (fA (aB (ai ?_)));refine aI ?_;refine aa (c8 (Ds (nw rfl rfl Hy Hz rfl t30 (aP rfl)) rfl J))
theorem Sv{f:aC}(C:bW f=0)(hr:zk (.agg (aX f))):∀ b:Nat,a9 (a7 f) f.blocks.length b->b≠0->∃ w:List Int×List Int,PCall prog 62 [.pt (nP f),I (dB (a7 f) (cY f) f.blocks.length b:Nat),I b] (.tup [ao w.1,ao w.2])/\
 iP (a7 f) (dB (a7 f) (cY f) f.blocks.length b:Nat) b w.1/\iP (a7 f) (dB (a7 f) (cY f) f.blocks.length b:Nat) b w.2/\∀ i,0<i->i+1<w.1.length->w.1.getD i 0∉w.2:=fun b X hz=>by
 have hf:k6 f=true:=by
  unfold bW at C;split at C
  .assumption
  .cases C
 have J:=mN hf;have hg:=qH J;have aaO:=J.oD;obtain⟨_,HA,af⟩:=ES hg X hz;have M:=qg hg HA;have GI:=qg hg X;have ap:dB (a7 f) (cY f) f.blocks.length b≠b:=fun e=>by rw[e] at af;omega
 have Ah:=CK (f:=f) (beh:=aO f) (ahd:=bu f.blocks) (c:=dk (b8 (ah (aO f)) f.blocks.length (-1))) (.sl (.map fun _=>.s _)) (n:=f.blocks.length) oG (by simp[aO]) (by simp[bu]) hg.to hg.ni (Vw f) (Ev J) (D6 J) M GI ap (fun w h1 h2=>Vy hg X hz h1 h2);obtain⟨d,⟨⟨l1,l2,rfl,h1,h2,h3⟩,_⟩,hc⟩:=Su Ah (fun d d' h h'=>h.2.pB h'.2) (aca (Ss (we C) hr) _ _);exact⟨(l1,l2),hc,h1,h2,h3⟩
theorem LV{n:Nat}:∀ (k:Nat) (d d':D),(List.replicate n D.z)[k]? =some d->(fJ (fun _=>[]) n)[k]? =some d'->Wk d d':=fun k d d' hd C=>by
 have h1:=bJ hd;rw[(List.mem_replicate.1 h1).2];unfold fJ at C;rw[List.getElem?_map,bY] at C;obtain⟨q,_,rfl⟩:=C;exact O0
def eY(W:Nat->List Int):List Int->Nat->List Int:=fun xs=>xs.foldl (fun G b=>if 0<b then up G b.toNat (W b.toNat) else G) fun _=>[]
theorem Kx(W:Nat->List Int)(b:Nat):∀ xs:List Int,(∀ x∈xs,0<=x)->eY W xs b=if(b:Int)∈xs/\0<b then W b else []:=fun xs=>by
 unfold eY
 induction xs using Bm with
 |h0=>intro _;simp
 |h1 xs x ih=>
  intro hx;rw[List.foldl_append,List.foldl_cons,List.foldl_nil];have ih:=ih fun y hy=>hx y (by simp[hy]);have h0:=hx x oS;by_cases hp:0<x
  .rw[if_pos hp];by_cases e:b=x.toNat
   .have e1:(b:Int)=x:=by omega
    rw[e,up_same,if_pos ⟨by rw[<- e,e1];simp,oG⟩]
   .have e1:(b:Int)≠x:=by omega
    rw[up_ne _ _ e,ih];simp[e1]
  .rw[if_neg hp,ih];by_cases e:(b:Int)=x
   .have:¬ 0<b:=by omega
    simp[this]
   .simp[e]
structure CR(par:List Int)(n:Nat)(G1 G2:Nat->List Int)(m:Mem)(nx:Nat):Prop where
 GQ:6<=nx
 m1:m 1=some (.cells [.z,.z,.z] 30)
 m3:m 3=some (.cells (fJ G1 n) 27)
 m4:m 4=some (.cells (fJ G2 n) 27)
 m5:m 5=some (.cells [ao par,.rs 3 0 n,.rs 4 0 n] 30)
theorem Vz{P:Program}{Y:YSpec}{rf:Bool}{Q:Exit->St->Prop}{st:St}[cR Y]{ops:Array Oper}{cf:List (Nat×Nat)}{i:Nat}(hi:drawInfo ops=some cf)(h:AOps P Y ops true cf (dV (Q .normal)) ops.toList st []):AW P Y rf (.region i ops true) Q st:=wc (rf:=rf) (id:=i) hi (AOps.iv h fun _ h=>h)
set_option maxHeartbeats 2000000 in
theorem aaP{f:aC}{xs par:List Int}{n:Nat}(hn:f.blocks.length=n)(iX:n<=10000){R:Nat->Prop}{HB:Nat->Nat}{W1 W2:Nat->List Int}{Q:D->Prop}{M:D}(dP:PCall prog 51 [.agg (aX f)] (.tup [.pt (aM f (aO f) (bu f.blocks) M),I 0]))
 (oO:PCall prog 60 [.pt (aM f (aO f) (bu f.blocks) M)] (ao par)) (rv:SeqA prog 61 [.pt (aM f (aO f) (bu f.blocks) M)] [] (xs.map fun n=>[I n])) (fW:∀ b:Nat,(b:Int)∈xs↔R b) (oA:∀ x∈xs,∃ b:Nat,x=b)
 (zy:∀ b:Nat,R b->b≠0->par[b]? =some ((HB b:Nat):Int)) (mn:∀ b:Nat,R b->b<n) (Ah:∀ b:Nat,R b->b≠0->PCall prog 62 [.pt (aM f (aO f) (bu f.blocks) M),I (HB b:Nat),I b] (.tup [ao (W1 b),ao (W2 b)]))
 (hQt:∀ d,Q d->Tr d) (hQ:Q (.tup [.agg [ao par,bR ((List.range n).map (eY W1 xs)),bR ((List.range n).map (eY W2 xs))],I 0])):nQ prog 20 [.agg (aX f)] Q:=by
 refine Hh Cb (.cons (.agg (jL f)) .nil) hQt ?_;generalize aO f=BL at dP oO rv Ah;generalize bu f.blocks=AL at dP oO rv Ah;rw[OZ];refine ws ?_;refine av ?_;refine aa (ax ?_);refine SS ?_;refine cl dP ?_;refine aI ?_;refine aaQ ?_;refine SS ?_;refine aa (aR (oX (i:=2) (e:=79) (cs:=[.pt (aM f BL AL M)]) (l:=[(2,.rp 1 0),(4,.pt [.pt (aM f BL AL M)]),(5,I 0)]) (ml:=[(1,.cells [.z,.z,.z] 30)]) rfl eH eH) (aB (ai ?_)));refine ab ?_;refine aa (ll (cu (ai ?_)));refine eW ?_;refine aa (oV Uo ?_);have dp:((f.blocks.length:Nat):Int).toNat=n:=hn;refine SS ?_;refine cl oO ?_;refine eW ?_
 refine bE bP ⟨_,(bg (l:=[(2,.rp 1 0),(4,.pt [.pt (aM f BL AL M)]),(7,.rp 5 0)]) (ml:=[(1,.cells [.z,.z,.z] 30),(3,.cells (List.replicate n .z) 27),(4,.cells (List.replicate n .z) 27),(5,.cells [ao par,.rs 3 0 n,.rs 4 0 n] 30)]) eH ⟨rfl,?_,?_,?_,trivial⟩).trans
  (.weak _ _ _ (bi [(1,.cells [.z,.z,.z] 30),(3,.cells (fJ (fun _=>[]) n) 27),(4,.cells (fJ (fun _=>[]) n) 27),(5,.cells [ao par,.rs 3 0 n,.rs 4 0 n] 30)]) _ (fun _=>Bn _) fun i=>?_),eO (fun s=>∃ m nx,Ghost prog s ⟨aw [(2,.rp 1 0),(7,.rp 5 0)],m,nx⟩/\CR par n (eY W1 xs) (eY W2 xs) m nx) (ai ?_) fun s hs=>?_⟩
 .exact congrArg (fun c=>some (Row.cells c 27)) ((congrArg (fun k=>replD k [D.z]) dp).trans (yo n))
 .exact congrArg (fun c=>some (Row.cells c 27)) ((congrArg (fun k=>replD k [D.z]) dp).trans (yo n))
 .exact congrArg (fun k=>some (Row.cells [ao par,.rs 3 0 k,.rs 4 0 k] 30)) dp
 .by_cases e:i=3
  .subst e;exact .inr ⟨_,_,27,rfl,rfl,oS,LV⟩
  .by_cases e4:i=4
   .subst e4;exact .inr ⟨_,_,27,rfl,rfl,oS,LV⟩
   .exact .inl (by simp[bi,e,e4])
 .refine ab ?_;refine aa (lM ?_);refine⟨rfl,trivial,61,_,[],xs.map (fun n=>[I n]),fun k m nx=>CR par n (eY W1 (xs.take k)) (eY W2 (xs.take k)) m nx,rfl,rv,?_,?_,?_,?_⟩
  .intro y hy;obtain⟨n,_,rfl⟩:=List.mem_map.1 hy;exact⟨rfl,.cons (.s _) .nil⟩
  .exact⟨aU _,rfl,rfl,rfl,rfl⟩
  .rintro k m nx y hy C;simp only[List.getElem?_map,bY] at hy;obtain⟨b,hb,rfl⟩:=hy;obtain⟨J,rfl⟩:=oA b (bJ hb);have hR:=(fW J).1 (bJ hb);have mw:=mn J hR
   have aA:∀ W:Nat->List Int,eY W (xs.take (k+1))=if(0:Int)<(J:Int) then up (eY W (xs.take k)) J (W J) else eY W (xs.take k):=fun W=>by
    unfold eY;rw[List.take_add_one,hb,Option.toList_some,List.foldl_append];rfl
   have X:∀ m nx,CR par n (if(0:Int)<(J:Int) then up (eY W1 (xs.take k)) J (W1 J) else eY W1 (xs.take k)) (if(0:Int)<(J:Int) then up (eY W2 (xs.take k)) J (W2 J) else eY W2 (xs.take k)) m nx->CR par n (eY W1 (xs.take (k+1))) (eY W2 (xs.take (k+1))) m nx:=fun m nx h=>by rw[aA W1,aA W2];exact h
   clear aA;generalize eY W1 (xs.take k)=G1 at C X;generalize eY W2 (xs.take k)=G2 at C X;refine kB ?_;refine SS ?_;refine aa (show AW _ _ _ _ _ _ from lM (ai ?_));by_cases hz:J=0
   .have ei:decide ((0:Int)<(J:Int))=false:=by simp[hz]
    refine ab ?_;refine aa (gk (cI ?_));rw[if_neg oG,if_neg oG] at X;exact X _ _ C
   .have ei:decide ((0:Int)<(J:Int))=true:=by simp;omega
    refine ab ?_;refine aa (gI (Vz Up ?_));have aj:=C.m5;have bX:=C.m3;have dZ:=C.m4;have tx:=zy J hR hz;have CK:=Ah J hR hz;generalize ((HB J:Nat):Int)=u at tx CK;rw[if_pos oG,if_pos oG] at X;have aaR:=C.GQ;have GN:=C.m1;clear C;refine aN ?_;refine aI ?_;refine cl CK ?_;refine aI ?_;refine bB (dC (d:=.sl _ _) (cs':=_) rfl rfl bX rfl rfl) ak (cF V.h V.h (by first|(simp;done)|exact⟨rfl,aP rfl⟩|(simp;omega)) rfl) ?_;refine au (kv rfl rfl dZ V.h V.h) ak ⟨V.h,oG⟩ ?_;refine bB (dC (d:=.sl _ _) (cs':=_) rfl rfl dZ rfl rfl) ak (cF V.h V.h (by first|(simp;done)|exact⟨rfl,aP rfl⟩|(simp;omega)) rfl) ?_;refine bE bP ?_;refine X _ _ ⟨aaR,?_,?_,?_,?_⟩
    .dsimp only;rw[up_ne _ _ oC,up_ne _ _ oC];exact GN
    .dsimp only;rw[<- Kw,up_ne _ _ oC,up_same]
    .dsimp only;rw[<- Kw,up_same]
    .dsimp only;rw[up_ne _ _ oC,up_ne _ _ oC];exact aj
  .rintro m nx C;rw[List.length_map,List.take_length] at C;exact⟨m,nx,aq eH,C⟩
 .obtain⟨m,nx,fm,C⟩:=hs
  have QL:∀ G:Nat->List Int,((fJ G n).drop 0).take (n*prog.cellsOf 27)=fJ G n:=fun G=>by
   rw[xF,List.drop_zero,Nat.mul_one,ez oS]
  have O1:∀ G:Nat->List Int,D.sl (fJ G n) n=bR ((List.range n).map G):=fun G=>by
   rw[<- D7];unfold fJ;congr 1;exact List.map_congr_left fun i _=>by simp[ao]
  have bc:∀ (G:Nat->List Int) (i:Nat) (cs:List D) (sz:Nat),(fJ G n).map (Abs.sub (fz0 i cs sz))=fJ G n:=fun G i cs sz=>by
   unfold fJ;rw[List.map_map];exact List.map_congr_left fun i _=>rfl
  generalize eY W1 xs=G1 at C hQ;generalize eY W2 xs=G2 at C hQ
  refine⟨_,fm.trans ((oX (i:=3) (e:=27) (cs:=fJ G1 n) (l:=[(2,.rp 1 0),(7,.rp 5 0)]) (ml:=[(1,.cells [.z,.z,.z] 30),(4,.cells (fJ G2 n) 27),(5,.cells [ao par,bR ((List.range n).map G1),.rs 4 0 n] 30)]) C.m3 eH ⟨?_,?_,?_,trivial⟩).trans
   (oX (i:=4) (e:=27) (cs:=fJ G2 n) (l:=[(2,.rp 1 0),(7,.rp 5 0)]) (ml:=[(1,.cells [.z,.z,.z] 30),(5,.cells [ao par,bR ((List.range n).map G1),bR ((List.range n).map G2)] 30)]) rfl eH ⟨rfl,?_,trivial⟩)),ai ?_⟩
  .dsimp only;rw[if_neg oC,C.m1];rfl
  .dsimp only;rw[if_neg oC,C.m4];show some (Row.cells ((fJ G2 n).map _) 27)=_;rw[bc]
  .dsimp only;rw[if_neg oC,C.m5];show some (Row.cells [ao par,D.sl (((fJ G1 n).drop 0).take (n*prog.cellsOf 27)) n,.rs 4 0 n] 30)=_;rw[QL,O1]
  .show some (Row.cells [ao par,bR ((List.range n).map G1),D.sl (((fJ G2 n).drop 0).take (n*prog.cellsOf 27)) n] 30)=_;rw[QL,O1]
  .refine QM ?_;refine ab ?_;refine aa (bq (Ds (nw rfl rfl Hy Hz rfl t30 (aP rfl)) rfl hQ))
set_option maxHeartbeats 2000000 in
theorem Wq{f:aC}(M:bW f=0):nQ prog 20 [.agg (aX f)] (ld f):=by
 refine RT Cb.he (.cons (.agg (jL f)) .nil) fun eQ=>?_;have X:=Sv M eQ;have dP:=we M
 have hf:k6 f=true:=by
  unfold bW at M;split at M
  .assumption
  .cases M
 have bz:=mN hf;have hg:=qH bz;have aaO:=bz.oD
 obtain⟨W,X⟩:∃ W:Nat->List Int×List Int,∀ b:Nat,a9 (a7 f) f.blocks.length b->b≠0->PCall prog 62 [.pt (nP f),I (dB (a7 f) (cY f) f.blocks.length b:Nat),I b] (.tup [ao (W b).1,ao (W b).2])/\
  iP (a7 f) (dB (a7 f) (cY f) f.blocks.length b:Nat) b (W b).1/\iP (a7 f) (dB (a7 f) (cY f) f.blocks.length b:Nat) b (W b).2/\∀ i,0<i->i+1<(W b).1.length->(W b).1.getD i 0∉(W b).2:=
  Classical.axiomOfChoice (r:=fun(b:Nat) (w:List Int×List Int)=>a9 (a7 f) f.blocks.length b->b≠0->PCall prog 62 [.pt (nP f),I (dB (a7 f) (cY f) f.blocks.length b:Nat),I b] (.tup [ao w.1,ao w.2])/\
   iP (a7 f) (dB (a7 f) (cY f) f.blocks.length b:Nat) b w.1/\iP (a7 f) (dB (a7 f) (cY f) f.blocks.length b:Nat) b w.2/\∀ i,0<i->i+1<w.1.length->w.1.getD i 0∉w.2) fun b=>by
   by_cases h:a9 (a7 f) f.blocks.length b/\b≠0
   .obtain⟨w,hw⟩:=X b h.1 h.2;exact⟨w,fun _ _=>hw⟩
   .exact⟨([],[]),fun h1 h2=>absurd ⟨h1,h2⟩ h⟩
 have rj:nP f=aM f (aO f) (bu f.blocks) (dk (b8 (a7 f) f.blocks.length (-1))):=rfl;have oO:=O2 bz (c:=dk (b8 (a7 f) f.blocks.length (-1))) (.sl (.map fun _=>.s _)) rfl;have mn:=vB (w:= -1) hg.to hg.pos;have rv:=rv (f:=f) (beh:=aO f) (ahd:=bu f.blocks) (cnt:=b8 (a7 f) f.blocks.length (-1)) (by rw[mn];omega);rw[mn] at rv;have eV:=tK hg
 have fW:∀ b:Nat,(b:Int)∈allI (b8 (a7 f) f.blocks.length (-1)) f.blocks.length↔a9 (a7 f) f.blocks.length b:=fun b=>by
  unfold allI;rw[List.mem_map];constructor
  .rintro⟨c,hc,e⟩;obtain rfl:c=b:=by omega
   exact(List.mem_filter.1 hc).2
  .intro h;exact⟨b,List.mem_filter.2 ⟨List.mem_range.2 (qg hg h),h⟩,rfl⟩
 have oA:∀ x∈allI (b8 (a7 f) f.blocks.length (-1)) f.blocks.length,∃ b:Nat,x=b:=fun x hx=>by
  unfold allI at hx;obtain⟨b,_,rfl⟩:=List.mem_map.1 hx;exact⟨b,rfl⟩
 have zy:∀ b:Nat,a9 (a7 f) f.blocks.length b->b≠0->(dQ (a7 f) (cY f) f.blocks.length)[b]? =some ((dB (a7 f) (cY f) f.blocks.length b:Nat):Int):=fun b C J=>by
  have hb:=qg hg C;rw[sc (by rw[eV];exact hb),o6 hg hb,if_pos ⟨J,C⟩]
 have sL:∀ b:Nat,a9 (a7 f) f.blocks.length b->b<f.blocks.length:=fun b C=>qg hg C
 have hP:ld f (.tup [.agg [ao (dQ (a7 f) (cY f) f.blocks.length),bR ((List.range f.blocks.length).map (eY (fun b=>(W b).1) (allI (b8 (a7 f) f.blocks.length (-1)) f.blocks.length))),bR ((List.range f.blocks.length).map (eY (fun b=>(W b).2) (allI (b8 (a7 f) f.blocks.length (-1)) f.blocks.length)))],I 0]):=by
  have O3:∀ x∈allI (b8 (a7 f) f.blocks.length (-1)) f.blocks.length,0<=x:=fun x hx=>by
   obtain⟨b,rfl⟩:=oA x hx;omega
  have np:∀ (G:Nat->List Int) (b:Nat),b<f.blocks.length->((List.range f.blocks.length).map G).getD b []=G b:=fun G b hb=>by
   rw[aV,List.getElem?_map,List.getElem?_range hb];rfl
  have h1:=fun b=>Kx (fun b=>(W b).1) b _ O3;have h2:=fun b=>Kx (fun b=>(W b).2) b _ O3;generalize eY (fun b=>(W b).1) _=G1 at h1 ⊢;generalize eY (fun b=>(W b).2) _=G2 at h2 ⊢
  have Gh:∀ b:Nat,a9 (a7 f) f.blocks.length b->b≠0->G1 b=(W b).1/\G2 b=(W b).2:=fun b C J=>by
   rw[h1 b,h2 b,if_pos ⟨(fW b).2 C,oG⟩,if_pos ⟨(fW b).2 C,oG⟩];exact⟨rfl,rfl⟩
  have O4:∀ b:Nat,(b=0\/¬ a9 (a7 f) f.blocks.length b)->G1 b=[]/\G2 b=[]:=fun b bK=>by
   have:¬ ((b:Int)∈allI (b8 (a7 f) f.blocks.length (-1)) f.blocks.length/\0<b):=fun h=>by
    rcases bK with g|g
    .omega
    .exact g ((fW b).1 h.1)
   rw[h1 b,h2 b,if_neg this,if_neg this];exact⟨rfl,rfl⟩
  have hlen:∀ b,b<f.blocks.length->(G1 b).length<=10000/\(G2 b).length<=10000:=fun b hb=>by
   by_cases h:b≠0/\a9 (a7 f) f.blocks.length b
   .obtain⟨e1,e2⟩:=Gh b h.2 h.1;obtain⟨_,w1,w2,_⟩:=X b h.2 h.1;obtain⟨_,HA,_⟩:=ES hg h.2 h.1;have:=qg hg HA;have:=Ew hg.to w1 oG oG;have:=Ew hg.to w2 oG oG;rw[e1,e2];omega
   .obtain⟨e1,e2⟩:=O4 b (by
     by_cases g:b=0
     .exact .inl g
     .exact .inr fun r=>h ⟨g,r⟩)
    rw[e1,e2];simp
  unfold ld;rw[if_pos M];refine⟨⟨_,_,_⟩,rfl,Sw hg rfl oS oS (fun b hb bK=>?_) (fun b C J=>?_),⟨fun l hl=>?_,fun l hl=>?_⟩⟩
  .rw[np _ _ hb,np _ _ hb];exact O4 b bK
  .dsimp only;rw[np _ _ (sL b C),np _ _ (sL b C),(Gh b C J).1,(Gh b C J).2];exact(X b C J).2
  .obtain⟨b,hb,rfl⟩:=List.mem_map.1 hl;exact(hlen b (List.mem_range.1 hb)).1
  .obtain⟨b,hb,rfl⟩:=List.mem_map.1 hl;exact(hlen b (List.mem_range.1 hb)).2
 rw[rj] at dP X;exact aaP (W1:=fun b=>(W b).1) (W2:=fun b=>(W b).2) rfl oG dP oO rv fW oA zy sL (fun b C J=>(X b C J).1) JX hP
theorem Ai{f:aC}:nQ prog 20 [.agg (aX f)] (ld f):=by
 by_cases h:bW f=0
 .exact Wq h
 .exact Vx h
set_option maxHeartbeats 1000000 in
theorem k8{f:aC}{d:c9}(xG:PCall prog 17 [] (B true)):PCall prog 8 [.agg (aX f),.agg (bO d)] (B true):=by
 have xH:=xH (f:=f);have uV:=uV (d:=d);have aH:∀ x∈[D.agg (aX f),.agg (bO d)],Tr x:=.cons (.agg (jL f)) (.cons (.agg (rJ d)) .nil);refine bd ok8 aH (Tr.s _) ?_;have gD:vO d=true->_:=Uj;generalize qJ f=fb at xH;generalize vO d=sb at uV gD;rw[sk8];refine ax ?_;refine av ?_;refine aa (aR (cE [(0,aX f,26),(1,bO d,30)] eH (l:=[(2,.pt (aX f)),(3,.pt (bO d))]) eH) (aB (ai ?_)));cases fb with
 |false=>
  refine SS ?_;refine cl xH ?_;refine ab ?_;(iterate 3 refine z fun _ _=>?_);refine SS ?_;refine aa (fA ?_);refine aB (ai ?_);refine cl xG ?_;refine SS ?_;exact aa (c8 (az rfl rfl))
 |true=>
 have uV:(false==false)=true->PCall prog 16 [.agg (bO d)] (B sb):=fun _=>uV;refine SS ?_;refine cl xH ?_;refine ab ?_;refine aT rfl rfl (je rfl V.h V.h rfl) (fun hc=>⟨ak,(jf V.h V.h oS)⟩) ?_;refine ud rfl rfl rfl (fun hc=>⟨ak,uV hc⟩) ?_;refine ab ?_;refine aa (c6 rfl (fun h=>?_) fun h=>cu (ai ?_))
 .refine aB (ai ?_);refine cl xG ?_;refine SS ?_;exact aa (c8 (az rfl rfl))
 have hd:=gD (by revert h;cases sb<;>simp);clear h xH uV gD;have O5:=fun(x:c9) (hx:wy x)=>oE (f:=f) (d:=x) hx;have oE:=oE (f:=f) hd;have ry:=ry (f:=f);have rz:=rz (f:=f);have Ai:=Sz (P:=prog) (m:=fun _=>none) (nx:=2) (Ai (f:=f));by_cases C:bW f=0
 .obtain⟨x,oL,hx⟩:=Sy (d:=d) C;have nq:ss f=.tup [ao (dQ (a7 f) (cY f) f.blocks.length),I 0]:=by unfold ss;rw[if_pos C]
  have X:nR f=.tup [dk (b8 (a7 f) f.blocks.length (-1)),I 0]:=by unfold nR;rw[if_pos C]
  have QN:∀ x,kC (a7 f) (cY f) f.blocks.length x->la f x=.tup [B true,I 0]/\dQ (a7 f) (cY f) f.blocks.length=x.par:=fun x hx=>⟨(Tm f x)▸RU C hx,(Sx C hx).symm⟩
  have J:∀ d',ld f d'->∃ x:c9,d'=.tup [.agg (bO x),I 0]/\kC (a7 f) (cY f) f.blocks.length x/\wy x:=fun d' h=>by
   unfold ld at h
   rwa[if_pos C] at h
  obtain⟨eV,z5,M⟩:=VA C;rw[oL] at oE;rw[nq] at ry;rw[X] at rz;clear oL nq X;refine SS ?_;refine cl ry ?_;refine aQ ?_;refine er ?_;refine ab ?_;refine cl oE ?_;refine aQ ?_;refine er ?_;refine SS ?_;refine gW Ai rfl bF fun d' m' nx' hp=>?_;obtain⟨hp,rfl,rfl⟩:=hp;obtain⟨y,rfl,hy,xi⟩:=J d' hp;obtain⟨QO,hyp⟩:=QN y hy;have Gi:=O5 y xi;rw[QO] at Gi;clear J QN O5 hy xi;generalize b8 (a7 f) f.blocks.length (-1)=RL at rz M;generalize dQ (a7 f) (cY f) f.blocks.length=par at ry hyp eV M hx;subst hyp;generalize f.blocks.length=n at eV M z5;refine bC ?_;refine er ?_;refine SS ?_;refine cl rz ?_;refine aQ ?_;refine aa (aB (ai ?_));refine aN ?_;refine aI ?_;refine aa (c6 rfl (fun h=>(by revert h;simp)) fun _=>cu (aB (ai ?_)));refine ab ?_;refine aa (ll (cu (ai ?_)));have oE:=Gi;refine SS ?_;refine QM ?_;refine cl oE ?_;refine aQ ?_;have Ak:(false==false)=true->PCall prog 22 [ao y.par,ao y.par] (B true):=fun _=>O6;refine aa (eO (fun s=>Ghost prog s ⟨aw [(5,ao y.par),(11,dk RL)],fun _=>none,3⟩) (ai ?_) fun s hs=>⟨_,hs,?_⟩)
  .cases x with
   |false=>
    refine cy ?_;refine ab ?_;refine ud rfl rfl rfl (fun hc=>⟨ak,Ak hc⟩) ?_;refine aQ ?_;(iterate 5 refine z fun _ _=>?_);refine ab ?_;exact aa (gk (bD (A7 eH fun _=>.inr rfl)))
   |true=>
    have hdp:=hx rfl;have aaS:PCall prog 22 [ao d.par,ao y.par] (B true):=hdp▸O6;refine cy ?_;refine ab ?_;refine ud rfl rfl rfl (fun hc=>⟨ak,Ak hc⟩) ?_;refine cy ?_;refine gc aaS ?_;refine av ?_;exact aa (gk (bD (A7 eH fun _=>.inr rfl)))
  .clear oE Gi ry rz QO hx hd hs Ak Ai;generalize y.par=par at eV M ⊢;have ae':par.length=n:=eV;refine aB (ax ?_);refine SS ?_;refine aa (cN (fun s=>Ghost prog s ⟨aw [],fun _=>none,3⟩) (lk (α:=Nat) (fun k=>⟨aw [(5,ao par),(11,dk RL),(15,I k)],fun _=>none,3⟩) (fun k=>k<=n) (fun k=>n - k) 0 (aq eH) (Nat.zero_le _) ?_) fun s hs=>⟨_,hs,ai ?_⟩)
   .intro k hk;refine aI ?_;refine aa ⟨_,rfl,fun h=>?_,fun h=>aq trivial⟩;have fi:k<par.length:=by simpa using h
    obtain⟨v,c,hv,hc,HC⟩:=M k oG;refine fK Ur ?_;generalize hq:(v== -1)=q at HC;have gL:(v== -1)=q:=hq;generalize CL:((k:Int)==0)=q2 at HC;have uo:((k:Int)==0)=q2:=CL;subst HC;cases q2 with
    |false=>
     refine bC ?_;refine au (yW rfl rfl uo) ak rfl ?_;refine eW ?_;refine O7 ?_;refine bE bP (aD rfl (fun h=>(by revert h;cases c<;>simp)) fun _=>cI ?_);show AOps _ _ _ _ _ _ _ _ _;refine av ?_;exact aa (aJ (k+1) (aq eH) oG oG)
    |true=>
     refine bC ?_;refine au (yW rfl rfl uo) ak rfl ?_;refine SS ?_;(iterate 5 refine z fun _ _=>?_);refine SS ?_;refine O7 ?_;refine bE bP (aD rfl (fun h=>(by revert h;cases c<;>simp)) fun _=>cI ?_);show AOps _ _ _ _ _ _ _ _ _;refine av ?_;exact aa (aJ (k+1) (aq eH) oG oG)
   .refine cl xG ?_;refine SS ?_;exact aa (bq (az rfl rfl))
 .have oL:la f d=.tup [B false,I (bW f)]:=by unfold la;rw[if_neg C]
  have nq:ss f=.tup [.z,I (bW f)]:=by unfold ss;rw[if_neg C]
  have X:nR f=.tup [.z,I (bW f)]:=by unfold nR;rw[if_neg C]
  have J:∀ d',ld f d'->d'=.tup [.agg [.z,.z,.z],I (bW f)]:=fun d' h=>by
   unfold ld at h
   rwa[if_neg C] at h
  rw[oL] at oE;rw[nq] at ry;rw[X] at rz;clear oL nq X;generalize bW f=e at oE ry rz C J;refine SS ?_;refine cl ry ?_;refine SS ?_;refine QP ?_;refine av ?_;refine er ?_;refine ab ?_;refine cl oE ?_;refine aQ ?_;refine er ?_;refine SS ?_;refine gW Ai rfl bF fun d' m' nx' hp=>?_;obtain⟨hp,rfl,rfl⟩:=hp;obtain rfl:=J d' hp;clear J;refine bC ?_;refine er ?_;refine SS ?_;refine cl rz ?_;refine SS ?_;refine QP ?_;refine av ?_;refine aa (aB (ai ?_));refine aN ?_;refine aI ?_;refine aa (c6 rfl (fun h=>(by revert h;simp)) fun _=>cu (aB (ai ?_)));have fR:(e !=0)=true:=by simpa using C
  refine ab ?_;refine aa (fA ?_);refine aB (ai ?_);refine cl xG ?_;refine aQ ?_;exact aa (c8 (az rfl rfl))
end Go.Proofs.Tryz.K
namespace Go.Proofs.Tryz.K
theorem Us{f:aC}{d:c9}:PCall prog 8 [.agg (aX f),.agg (bO d)] (B true):=k8 xG
end Go.Proofs.Tryz.K
end
namespace Go.Argus
open Go.Abs
abbrev y6:Sh:=.pair (.sl jw) (.pair (.sl (.sl jw)) (.pair (.sl (.sl jw)) .unit))
def WX(x:y6.val):c9:=⟨x.1,x.2.1,x.2.2.1⟩
theorem Kl(L:List (List Int)):D.sl (List.flatMap (Sh.enc (.sl jw)) L) L.length=bR L:=
 congrArg (D.sl · L.length) ((flat_congr (g:=fun l=>[ao l]) (h:=id) (fun l=>congrArg (fun d=>[d]) (wm (k:=.i64) l)) L).trans ((congrArg (List.flatMap _) (List.map_id L)).trans (flat_one ao L)))
theorem UT(x:y6.val):y6.arg x=.agg (bO (WX x)):=
 RB (fun a b c=>D.agg [a,b,c]) (wm (k:=.i64) x.1) (Kl x.2.1) (Kl x.2.2.1)
end Go.Argus
