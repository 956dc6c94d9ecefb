/- Part 4 of the proof; the last part says what is proved. -/
import Derived.Test.YtonoegleildfnaaGreatLive3
section
open Go Go.Abs Go.Proofs Go.Argus
namespace Go.Argus
open Go.Proofs.Tryz.K (nextR)
theorem Zj(a b:Int):c8 (xJ a b):=by
 unfold xJ intBitsV c8;simp only;rw[wrap_u64 (n:=(BitVec.ofInt IntKind.u64.bits a||| BitVec.ofInt IntKind.u64.bits b).toNat) (BitVec.isLt (w:=64) _)];have h:(BitVec.ofInt IntKind.u64.bits a||| BitVec.ofInt IntKind.u64.bits b).toNat<18446744073709551616:=BitVec.isLt (w:=64) _;exact⟨Int.natCast_nonneg _,Int.ofNat_lt.2 h⟩
theorem Lj{w:List Int}{n:Int}(h:∀ u∈w,c8 u):∀ u∈fP w n,c8 u:=fun u C=>by
 unfold fP at C;split at C
 .unfold gT at C;rcases List.mem_or_eq_of_mem_set C with h1|h1
  .exact h u h1
  .rw[h1];exact Zj _ _
 .exact h u C
theorem CZ:∀ k,∀ u∈gD k,c8 u
 |0,u,hu=>by
  rw[List.eq_of_mem_replicate hu];simp[c8]
 |k+1,u,hu=>Lj (CZ k) u hu
theorem nU.rl{x:aW}(h:nU x):(bK x).length<=100000:=by
 unfold bK;split
 .simp
 .split
  .simp
  .split
   .rename_i J;have:=h.ar (.inl J);omega
   .split
    .rename_i C;have:=h.ar (.inr C);simp;omega
    .simp
theorem y4.rf{x:End}(h:y4 x)(hi:x.kind=5->nU x.ins):(bJ x).length<=100000:=by
 unfold bJ;split
 .simp
 .split
  .split<;>simp
  .split
   .rename_i h5;exact(hi h5).rl
   .split
    .rename_i C;have:=h.a2 (by simpa[aG] using C);omega
    .simp
structure iE(f:aA):Prop where
 pos:0<f.blocks.length
 mK:f.blocks.length<=1200
 aj:f.aj.length<=1200
 args:0<=f.args/\f.args<=6
 blk:∀ b∈f.blocks,qF f.blocks.length b
 ends:∀ b∈f.blocks,D' f b.fin
 right:∀ (b:Nat) x,f.blocks[b]? =some x->∀ (j:Nat) y,x.ins[j]? =some y->hD f b y ((x.ins.take (j+1)).all bx) (br f.blocks f.blocks.length b).length=true
 aP:(∀ k∈f.aP,k≠0)/\f.aP.length<=60
 TL:∀ b∈f.blocks,b.fin.kind=5->nU b.fin.ins
theorem MB{l:List Int}{m:Int}(h:dO l m=true):∀ k∈l,k≠0:=fun k hk e=>by
 subst e;simp only[dO,Bool.not_eq_true',List.any_eq_false] at h;have:=h 0 hk;simp[lm] at this
theorem aas{f:aA}{x:End}(hl:f.aj.length<=1200)(h:iC f x=true)(h5:x.kind=5):nU x.ins:=by
 unfold iC at h;rw[Bool.and_eq_true] at h;have h:=h.1;unfold eO at h;simp only[h5,Int.reduceEq,if_false,if_true,Bool.and_eq_true] at h;obtain⟨J,U,_⟩:=h;cases C:eF iD x.ins.op with
 |none=>rw[C] at J;simp at J
 |some s=>rw[C] at U;exact FV hl (.inr (FU C)) (Ge U)
theorem yS{f:aA}(h:hC f=true):iE f:=by
 unfold hC at h;simp only[Bool.and_eq_true] at h;obtain⟨X,hK,_,hE,hR⟩:=h;unfold lZ at X;simp only[Bool.and_eq_true,jF,Bool.not_eq_true',decide_eq_false_iff_not] at X;obtain⟨_,ha,hr,pX,fM,cO⟩:=X;unfold pk at hK;simp only[Bool.and_eq_true,Bool.not_eq_true',decide_eq_false_iff_not] at hK;obtain⟨_,_,vw,_,_⟩:=hK;have C:f.aj.length<=1200:=by omega
 have U:∀ x∈f.blocks,iC f x.fin=true/\x.ins.length<=200:=fun x hx=>by
  obtain⟨k,hk⟩:=List.getElem?_of_mem hx;have ao:k<f.blocks.length:=(List.getElem?_eq_some_iff.1 hk).1;have:=List.all_eq_true.1 hE k (by simpa using ao);rw[iy,getD_some hk] at this;simp only[Bool.and_eq_true,Bool.not_eq_true',decide_eq_false_iff_not] at this;exact⟨this.1,by omega⟩
 have J:∀ x∈f.blocks,D' f x.fin:=fun x hx=>GL C hr (U x hx).1
 have Vj:∀ (b:Nat) x,f.blocks[b]? =some x->∀ (j:Nat) y,x.ins[j]? =some y->hD f b y ((x.ins.take (j+1)).all bx) (br f.blocks f.blocks.length b).length=true:=fun b x hx j y hy=>by
  have ao:b<f.blocks.length:=(List.getElem?_eq_some_iff.1 hx).1;have:=List.all_eq_true.1 hR b (by simpa using ao);rw[qh,getD_some hx] at this;have:=List.all_eq_true.1 this j (by simpa using(List.getElem?_eq_some_iff.1 hy).1);rw[sV,getD_some hy] at this;exact this
 have h5:∀ b∈f.blocks,b.fin.kind=5->nU b.fin.ins:=fun b hb h5=>aas C (U b hb).1 h5
 have qQ:∀ b∈f.blocks,∀ x∈b.ins,nU x:=fun b hb x hx=>by
  obtain⟨k,hk⟩:=List.getElem?_of_mem hb;obtain⟨j,hj⟩:=List.getElem?_of_mem hx;exact(FW C (MB vw) oG (Vj k b hk j x hj)).1
 refine⟨by omega,by omega,C,⟨ha.1,by have:=ha.2;split at this<;>omega⟩,fun b hb=>⟨by have:=(U b hb).2;omega,qQ b hb,(J b hb).fin,fun x hx=>(qQ b hb x hx).rl,(J b hb).fin.rf (h5 b hb),fun t ht=>(J b hb).to t (Ab.1 ht)⟩,J,Vj,⟨MB vw,by omega⟩,h5⟩
theorem iE.Fh{f:aA}(h:iE f){b:Nat}{x:bt}(hx:f.blocks[b]? =some x){y:aW}(hy:y∈x.ins)(C:y.op=19):y.args.length=(br f.blocks f.blocks.length b).length/\∀ r∈y.args,0<=r/\r<1280:=by
 obtain⟨j,hj⟩:=List.getElem?_of_mem hy;obtain⟨h1,_,_,_,h2⟩:=(FW h.aj h.aP.1 h.aP.2 (h.right b x hx j y hj)).2 C;refine⟨by omega,fun r hr=>?_⟩;have:=(h2 r hr).2;unfold gU at this;have:=h.aj;omega
end Go.Argus
namespace Go.Proofs.Tryz.K
set_option maxRecDepth 10000
theorem vI{f:aA}:PCall prog 95 [.agg (aC f)] (I (fN f)):=by
 have U:∀ a∈[D.agg (aC f)],Tr a:=.cons (.agg (gz f)) .nil;refine aX mixed TM (by rw[ajK];rfl) U (.s _) ?_;rw[ajL,ajM];have I1:=I1 (f:=f);refine av ?_;refine ag ?_;refine ab (aJ (mR (i:=0) (l:=[(1,.pt (aC f))]) rfl eH) (lW (an ?_)));refine SS ?_;refine cl I1 ?_;refine ag ?_;refine ab (au rfl (fun h=>an ?_) fun h=>an ?_)
 .have hf:hC f=false:=by simpa using h
  refine SS ?_;refine ab (aU (bu (aQ (ax (d:=I 80) rfl ?_))));rw[fN,if_neg (by simp[hf])]
 .have hf:hC f=true:=by simpa using h
  have C:=yS hf;obtain⟨args,ha⟩:=Int.eq_ofNat_of_zero_le C.args.1;have q0:=C.args.2;have Es:=Es (p:=.s (.map none)) (q:=.s (.map none)) (f:=f) (.s _) (.s _) rfl rfl rfl C.pos (by have:=C.mK;omega) ha oG (CZ args) C.blk (fun b x hx y hy X=>C.Fh hx hy X);have J:fN f=if uw f.blocks args=true then 0 else 81:=by rw[fN,if_pos hf,ha,Int.toNat_natCast]
  generalize uw f.blocks args=r at Es J;refine SS ?_;refine TN ?_;refine cl Es ?_;refine ag ?_;refine ab (au rfl (fun h=>an ?_) fun h=>lx (an ?_))
  .have hr:r=false:=by simpa using h
   refine SS ?_;refine ab (aU (bu (aQ (ax (d:=I 81) rfl ?_))));rw[J,hr];rfl
  .have hr:r=true:=by simpa using h
   refine SS ?_;refine ab (aU (ax (d:=I 0) rfl ?_));rw[J,hr];rfl
end Go.Proofs.Tryz.K
namespace Go.Abs
theorem Ax{z l:List D}(C:z.length=19)(hl:l.length=19):splice z 0 l=l:=by
 unfold splice;split
 .simp at hl
 .rw[List.take_zero,List.nil_append,List.drop_eq_nil_of_le oG,List.append_nil]
end Go.Abs
namespace Go.Argus
def Ea(a b:Int):Int:=intBitsV .andNot .u64 a b
def wM(w:List Int)(m:Nat):List Int:=w.set (m / 64) (Ea (w.getD (m / 64) 0) (IntKind.u64.wrap (1*2 ^ (min (m % 64) 64))))
def fS(w:List Int)(n:Int):List Int:=if 0<=n then wM w n.toNat else w
def jh(w v:List Int):Nat->List Int
 |0=>w
 |k+1=>(jh w v k).set k (xJ ((jh w v k).getD k 0) (v.getD k 0))
def nV(w v:List Int):List Int:=jh w v 19
@[simp] theorem aow (w : List Int) (m : Nat) : (wM w m).length = w.length := by simp [wM]
@[simp] theorem aox (w : List Int) (n : Int) : (fS w n).length = w.length := by unfold fS; split <;> simp
@[simp] theorem LI (w v : List Int) : ∀ k, (jh w v k).length = w.length
 |0=>rfl
 |k+1=>by simp[jh,LI w v k]
@[simp] theorem aoy (w v : List Int) : (nV w v).length = w.length := LI w v 19
def dZ(w:List Int)(n:Nat):List Int:=((List.range n).filter (gW w)).map fun(k:Nat)=>(k:Int)
theorem W4(w:List Int)(n:Nat):dZ w (n+1)=if gW w n=true then dZ w n++[(n:Int)] else dZ w n:=by
 unfold dZ;rw[List.range_succ,List.filter_append,List.map_append];by_cases h:gW w n=true
 .simp[h]
 .simp[h]
def eC(x:End):List Int:=if x.kind≠3/\x.kind≠4 then [x.to] else []
def lT(x:End):List Int:=if x.kind=2\/x.kind=8 then eC x++[x.eL] else eC x
def cL(x:End)(k:Nat):List Int:=lT x++(x.aE.take k).map (·.to)
def cE(x:End):List Int:=if 0<=x.cm then cL x x.aE.length++[x.cm] else cL x x.aE.length
theorem MC{x:End}{k:Nat}{w:jn}(h:x.aE[k]? =some w):cL x (k+1)=cL x k++[w.to]:=by
 unfold cL;rw[List.take_add_one,h,List.map_append,List.append_assoc];rfl
theorem Az(x:End):(lT x).length<=2:=by unfold lT eC;repeat' split<;>simp
theorem vZ(x:End):(cE x).length<=x.aE.length+3:=by
 have:=Az x;unfold cE cL;split<;>simp<;>omega
end Go.Argus
namespace Go.Proofs.Tryz.K
set_option maxRecDepth 10000
theorem we{off:Nat}{vs cs:List D}(hv:vs.length=19)(hl:off+19<=cs.length)(C:vs.all D.one=true):tyOk prog 100=true/\vs.length=prog.cellsOf 100/\off+prog.cellsOf 100<=cs.length/\vs.all D.one=true:=by
 rw[u9];exact⟨t100,hv,hl,C⟩
theorem J3{w:List Int}{m:Nat}(J:w.length=19)(hm:m<1216):PCall prog 82 [cX w,I m] (B (gW w m)):=by
 have C:∀ a∈[cX w,I m],Tr a:=.cons (iK _) (.cons (.s _) .nil);have hi:w[m / 64]? =some w[m / 64]:=List.getElem?_eq_getElem oG;have hg:w.getD (m / 64) 0=w[m / 64]:=by simp[List.getD_eq_getElem?_getD,hi]
 have BE:=Bs (m:=m) oG;have BF:=Bt m;have kd:=eV (f:=bc) hi;refine aX mixed TO (by rw[ajN];rfl) C (Tr.s _) ?_;rw[ajO,ajP];refine ws ?_;refine ag ?_;refine er ?_;refine bD ?_;refine aB (QZ rfl rfl) ak oG ?_;refine aw ?_;refine ab (ax (d:=.s (.bool _)) rfl ?_);unfold gW;rw[hg];rfl
theorem qR{w:List Int}{m:Nat}(J:w.length=19)(hm:m<1216):PCall prog 133 [cX w,I m] (cX (gT w m)):=by
 have C:∀ a∈[cX w,I m],Tr a:=.cons (iK _) (.cons (.s _) .nil);have hi:w[m / 64]? =some w[m / 64]:=List.getElem?_eq_getElem oG;have hg:w.getD (m / 64) 0=w[m / 64]:=by simp[List.getD_eq_getElem?_getD,hi]
 have BE:=Bs (m:=m) oG;have BF:=Bt m;have kd:=eV (f:=bc) hi;refine aX mixed RS (by rw[ad1];rfl) C (iK _) ?_;rw[ad2,ad3];refine ws ?_;refine ag ?_;refine ab (dd XV ?_);refine bA ?_;refine ag ?_;refine bj (by simp[apartT]) (an ?_);refine ag ?_;refine ab (iz (iV rfl rfl BO u9 (gC (by first|rfl|simp;omega)) t100 oP) ?_);simp only[gT,hg,cX,List.map_set];rfl
theorem tC{w:List Int}{n:Int}(J:w.length=19)(hn: -1000000<=n/\n<1216):PCall prog 135 [cX w,I n] (cX (fS w n)):=by
 have C:∀ a∈[cX w,I n],Tr a:=.cons (iK _) (.cons (.s _) .nil);refine aX mixed RT (by rw[ad4];rfl) C (iK _) ?_;rw[ad5,ad6];refine ws ?_;refine ag ?_;refine ab (aD (an ?_));by_cases h0:0<=n
 .obtain⟨m,rfl⟩:=Int.eq_ofNat_of_zero_le h0;have hm:m<1216:=by omega
  have hi:w[m / 64]? =some w[m / 64]:=List.getElem?_eq_getElem oG;have hg:w.getD (m / 64) 0=w[m / 64]:=by simp[List.getD_eq_getElem?_getD,hi]
  have BE:=Bs (m:=m) oG;have BF:=Bt m;have kd:=eV (f:=bc) hi;have zi:decide (0<=(m:Int))=true:=by simp
  refine ag ?_;refine ab (bC rfl (fun _=>dd XW ?_) fun h=>oH);refine cK ?_;refine aB (YP rfl rfl) ak rfl ?_;refine ag ?_;refine bj (by simp[apartT]) (an ?_);refine ag ?_;refine ab (iz (iV rfl rfl BO u9 (gC (by first|rfl|simp;omega)) t100 oP) ?_);simp only[fS,h0,if_true,Int.toNat_natCast,wM,hg,cX,List.map_set];rfl
 .have zi:decide (0<=n)=false:=by simpa using h0
  refine ag ?_;refine ab (bC rfl (fun h=>oH) fun _=>cx (an ?_));refine ag ?_;refine ab (iz (iV rfl rfl BO u9 (gC oP) t100 oP) ?_);simp only[fS,h0,if_false]
theorem Ew{w v:List Int}(C:w.length=19)(hv:v.length=19):PCall prog 134 [cX w,cX v] (cX (nV w v)):=by
 have X:∀ a∈[cX w,cX v],Tr a:=.cons (iK _) (.cons (iK _) .nil);refine aX mixed RU (by rw[ad7];rfl) X (iK _) ?_;rw[ad8,ad9];refine ws ?_;refine aw ?_;refine ab (aD (av ?_));refine SS ?_
 refine ab (bG (fun s=>Ghost prog s ⟨ay [(2,.rp 0 0),(3,.rp 1 0),(4,.rp 2 0)],a9 [(0,.cells ((nV w v).map bc) 100),(1,.cells (v.map bc) 100),(2,.cells (List.replicate 19 (bc 0)) 100)],3⟩) (dq (α:=Nat)
  (fun k=>⟨ay [(2,.rp 0 0),(3,.rp 1 0),(4,.rp 2 0),(6,I k)],a9 [(0,.cells ((jh w v k).map bc) 100),(1,.cells (v.map bc) 100),(2,.cells (List.replicate 19 (bc 0)) 100)],3⟩)
  (fun k=>k<=19) (fun k=>19 - k) 0 (aK eH eH) oG ?_) ?_)
 .intro k hk;refine SS ?_;refine ab ⟨_,rfl,fun h=>?_,fun h=>?_⟩
  .have ao:k<19:=by have h:(k:Int)<19:=by simpa using h
                    omega
   have k8:(jh w v k).length=19:=by simp[C]
   have hi:(jh w v k)[k]? =some (jh w v k)[k]:=List.getElem?_eq_getElem oG;have hj:v[k]? =some v[k]:=List.getElem?_eq_getElem oG;have hg:(jh w v k).getD k 0=(jh w v k)[k]:=by simp[List.getD_eq_getElem?_getD,hi]
   have J:v.getD k 0=v[k]:=by simp[List.getD_eq_getElem?_getD,hj]
   have kd:=eV (f:=bc) hi;have fh:=eV (f:=bc) hj;refine ws ?_;refine ag ?_;refine ab (iZ XX ?_);refine aV ?_;refine aB (eX rfl rfl fh V.h) ak (eY V.h V.h fh) ?_;refine aw ?_;refine bj (by simp[apartT]) ?_;refine ag ?_;refine ab (aH (k+1) (aK eH ⟨?_,rfl,rfl,trivial⟩) oG oG);rw[up_same];simp only[jh,hg,J,List.map_set];rfl
  .have aY:¬ k<19:=by intro hh;simp at h;omega
   have:k=19:=by omega
   subst this;exact .forget _ _ _ _ fun t=>lY (l:=[(2,.rp 0 0),(3,.rp 1 0),(4,.rp 2 0)]) ⟨rfl,rfl,rfl,trivial⟩ t
 .intro s hg;have U:(nV w v).length=19:=by simp[C]
  generalize nV w v=u at hg U ⊢;refine⟨_,hg,an ?_⟩;refine ag ?_;refine ab (iz (iV rfl rfl BO u9 (gC oP) t100 oP) ?_);rfl
end Go.Proofs.Tryz.K
end
namespace Go.Argus
open Go Go.Abs
theorem KG(v:BitVec 64)(i:Nat):(IntKind.u64.wrap (v.toNat:Int)).toNat.testBit i=v.getLsbD i:=by
 rw[wrap_u64 v.isLt,Int.toNat_natCast,BitVec.testBit_toNat]
theorem z9{a:Int}(ha:c8 a)(i:Nat):(BitVec.ofInt 64 a).getLsbD i=a.toNat.testBit i:=by
 obtain⟨n,rfl⟩:=Int.eq_ofNat_of_zero_le ha.1;have h:=ha.2;rw[<- BitVec.testBit_toNat,BitVec.toNat_ofInt];congr 1;omega
theorem Te{a b:Int}(ha:c8 a)(hb:c8 b)(i:Nat):(xJ a b).toNat.testBit i=(a.toNat.testBit i||b.toNat.testBit i):=by
 have:xJ a b=IntKind.u64.wrap (((BitVec.ofInt 64 a||| BitVec.ofInt 64 b).toNat:Nat):Int):=rfl;rw[this,KG,BitVec.getLsbD_or,z9 ha,z9 hb]
theorem QP{a b:Int}(ha:c8 a)(hb:c8 b)(i:Nat):(n9 a b).toNat.testBit i=(a.toNat.testBit i&&b.toNat.testBit i):=by
 have:n9 a b=IntKind.u64.wrap (((BitVec.ofInt 64 a&&& BitVec.ofInt 64 b).toNat:Nat):Int):=rfl;rw[this,KG,BitVec.getLsbD_and,z9 ha,z9 hb]
theorem aaR{a b:Int}(ha:c8 a)(hb:c8 b)(i:Nat):(Ea a b).toNat.testBit i=(a.toNat.testBit i&& !(b.toNat.testBit i)):=by
 have:Ea a b=IntKind.u64.wrap (((BitVec.ofInt 64 a&&& ~~~ BitVec.ofInt 64 b).toNat:Nat):Int):=rfl;rw[this,KG,BitVec.getLsbD_and,z9 ha,BitVec.getLsbD_not,z9 hb];by_cases h:i<64
 .simp[h]
 .have:a.toNat.testBit i=false:=by
   apply Nat.testBit_lt_two_pow;have:=ha.2;have:=ha.1;have h2:2 ^ 64<=2 ^ i:=Nat.pow_le_pow_right oG oG;omega
  simp[this]
theorem Gp(v:BitVec 64):c8 (IntKind.u64.wrap (v.toNat:Int)):=by
 rw[wrap_u64 v.isLt];have:=v.isLt;unfold c8;omega
theorem Xx(a b:Int):c8 (Ea a b):=Gp (BitVec.ofInt 64 a&&& ~~~ BitVec.ofInt 64 b)
theorem Ma(a b:Int):c8 (xJ a b):=Gp (BitVec.ofInt 64 a||| BitVec.ofInt 64 b)
theorem OU{k:Nat}(hk:k<64):IntKind.u64.wrap (1*2 ^ (min k 64))=((2 ^ k:Nat):Int):=by
 have h1:min k 64=k:=by omega
 have h2:(2:Nat) ^ k<2 ^ 64:=Nat.pow_lt_pow_right oG hk;rw[h1,Int.one_mul, <- wrap_u64 h2]
 norm_cast
def a7(w:List Int)(r:Nat):Bool:=(w.getD (r / 64) 0).toNat.testBit (r % 64)
def dk(w:List Int):Prop:=∀ u∈w,c8 u
theorem dk.get{w:List Int}(h:dk w)(i:Nat):c8 (w.getD i 0):=by
 rw[List.getD_eq_getElem?_getD];cases hx:w[i]? with
 |none=>exact⟨by simp,by simp⟩
 |some u=>exact h u (List.mem_of_getElem? hx)
theorem M3{k:Nat}(hk:k<64):c8 ((2 ^ k:Nat):Int):=by
 have h2:(2:Nat) ^ k<2 ^ 64:=Nat.pow_lt_pow_right oG hk;generalize (2:Nat) ^ k=z at h2;unfold c8;omega
theorem Dw{w:List Int}(h:dk w)(m:Nat):gW w m=a7 w m:=by
 have C:=h.get (m / 64);unfold gW a7;generalize w.getD (m / 64) 0=u at C;have hk:min (m % 64) 64=m % 64:=by omega
 rw[hk];obtain⟨n,rfl⟩:=Int.eq_ofNat_of_zero_le C.1
 have e:((n:Int).fdiv (2 ^ (m % 64)))=((n / 2 ^ (m % 64):Nat):Int):=by
  rw[Int.fdiv_eq_ediv_of_nonneg _ (Int.le_of_lt (Int.pow_pos oG)),Int.natCast_ediv,Int.natCast_pow];rfl
 rw[e];have hd:n / 2 ^ (m % 64)<=n:=Nat.div_le_self _ _
 have hq:c8 ((n / 2 ^ (m % 64):Nat):Int):=by
  have:=C.2;revert hd;generalize n / 2 ^ (m % 64)=z;intro hd;unfold c8;omega
 have h1:c8 1:=by unfold c8;omega
 have hb:∀ i,(n9 ((n / 2 ^ (m % 64):Nat):Int) 1).toNat.testBit i=(n.testBit (m % 64)&&decide (i=0)):=fun i=>by
  rw[QP hq h1,Int.toNat_natCast];by_cases hi:i=0
  .subst hi;simp[Nat.testBit_eq_decide_div_mod_eq]
  .have:(1:Int).toNat.testBit i=false:=by
    show Nat.testBit 1 i=false;cases i with
    |zero=>omega
    |succ j=>simp[Nat.testBit_succ]
   rw[this];simp[hi]
 have hp:c8 (n9 ((n / 2 ^ (m % 64):Nat):Int) 1):=Gp (BitVec.ofInt 64 _&&& BitVec.ofInt 64 1);generalize n9 ((n / 2 ^ (m % 64):Nat):Int) 1=z at hb hp;obtain⟨q,rfl⟩:=Int.eq_ofNat_of_zero_le hp.1;simp only[Int.toNat_natCast] at hb ⊢;cases hn:n.testBit (m % 64) with
 |false=>
  have:q=0:=Nat.eq_of_testBit_eq fun i=>by rw[hb i,hn];simp
  subst this;rfl
 |true=>
  have:q=1:=Nat.eq_of_testBit_eq fun i=>by
   rw[hb i,hn];cases i with
   |zero=>simp
   |succ j=>simp[Nat.testBit_succ]
  subst this;rfl
theorem DL{w:List Int}{i:Nat}{u:Int}(hi:i<w.length)(r:Nat):a7 (w.set i u) r=if r / 64=i then u.toNat.testBit (r % 64) else a7 w r:=by
 unfold a7;simp only[List.getD_eq_getElem?_getD,List.getElem?_set];split
 .rename_i h;subst h;simp[hi]
 .rename_i h;rw[if_neg fun e=>h e.symm]
theorem MV{w:List Int}(h:dk w){m:Nat}(hm:m / 64<w.length)(r:Nat):a7 (gT w m) r=(a7 w r||decide (r=m)):=by
 have hk:m % 64<64:=by omega
 unfold gT;rw[OU hk,DL hm];split
 .rename_i e;rw[Te (h.get _) (M3 hk),Int.toNat_natCast,Nat.testBit_two_pow,a7,e];congr 1;apply decide_eq_decide.2;omega
 .rename_i e;have:¬ r=m:=fun h=>e (by rw[h]);simp[this]
theorem ZV{w:List Int}(h:dk w){m:Nat}(hm:m / 64<w.length)(r:Nat):a7 (wM w m) r=(a7 w r&& !decide (r=m)):=by
 have hk:m % 64<64:=by omega
 unfold wM;rw[OU hk,DL hm];split
 .rename_i e;rw[aaR (h.get _) (M3 hk),Int.toNat_natCast,Nat.testBit_two_pow,a7,e];congr 2;apply decide_eq_decide.2;omega
 .rename_i e;have:¬ r=m:=fun h=>e (by rw[h]);simp[this]
theorem dk.set{w:List Int}(h:dk w){i:Nat}{u:Int}(C:c8 u):dk (w.set i u):=fun x hx=>by
 rcases List.mem_or_eq_of_mem_set hx with h1|h1
 .exact h x h1
 .subst h1;exact C
theorem dk.with{w:List Int}(h:dk w)(m:Nat):dk (gT w m):=h.set (Ma _ _)
theorem dk.less{w:List Int}(h:dk w)(m:Nat):dk (wM w m):=h.set (Xx _ _)
theorem dk.fS{w:List Int}(h:dk w)(n:Int):dk (fS w n):=by
 unfold Argus.fS;split
 .exact h.less _
 .exact h
theorem dk.jh{w v:List Int}(h:dk w):∀ k,dk (jh w v k)
 |0=>h
 |k+1=>(dk.jh h k).set (Ma _ _)
theorem Mc{w:List Int}(h:dk w){n:Int}(hn:n<64*w.length)(r:Nat):a7 (fS w n) r=(a7 w r&& !decide ((r:Int)=n)):=by
 unfold fS;split
 .rename_i h0;rw[ZV h oG];congr 2;apply decide_eq_decide.2;omega
 .have:¬ (r:Int)=n:=by omega
  simp[this]
theorem Md{w v:List Int}(h:dk w)(hv:dk v):∀ k,k<=w.length->∀ r,a7 (jh w v k) r=(a7 w r||(decide (r / 64<k)&&a7 v r))
 |0,_,r=>by simp[jh]
 |k+1,hk,r=>by
  have ih:=Md h hv k oG;rw[jh,DL oP];split
  .rename_i e;have h1:=ih r;have h2:¬ r / 64<k:=by omega
   simp only[h2,decide_false,Bool.false_and,Bool.or_false] at h1;unfold a7 at h1;rw[e] at h1;rw[Te ((dk.jh h k).get _) (hv.get _),h1];unfold a7;rw[e];simp
  .rename_i e;rw[ih r];have:decide (r / 64<k)=decide (r / 64<k+1):=decide_eq_decide.2 oG;rw[this]
theorem ZW{w v:List Int}(h:dk w)(hv:dk v)(C:w.length=19)(J:v.length=19)(r:Nat):a7 (nV w v) r=(a7 w r||a7 v r):=by
 unfold nV;rw[Md h hv 19 oG];by_cases hr:r / 64<19
 .simp[hr]
 .have:a7 v r=false:=by
   unfold a7;rw[List.getD_eq_getElem?_getD,List.getElem?_eq_none oG];simp
  simp[this]
theorem Gn{w v:List Int}(h:dk w)(hv:dk v)(hl:w.length=v.length)(he:∀ r,a7 w r=a7 v r):w=v:=by
 apply List.ext_getElem hl;intro i h1 h2;have e1:w.getD i 0=w[i]:=by simp[List.getD_eq_getElem?_getD,List.getElem?_eq_getElem h1]
 have e2:v.getD i 0=v[i]:=by simp[List.getD_eq_getElem?_getD,List.getElem?_eq_getElem h2]
 have a:=h w[i] oS;have b:=hv v[i] oS
 have:w[i].toNat=v[i].toNat:=Nat.eq_of_testBit_eq fun k=>by
  by_cases hk:k<64
  .have:=he (i*64+k);unfold a7 at this;rw[show(i*64+k) / 64=i by omega,show(i*64+k) % 64=k by omega,e1,e2] at this;exact this
  .have h2:2 ^ 64<=2 ^ k:=Nat.pow_le_pow_right oG oG;unfold c8 at a b;rw[Nat.testBit_lt_two_pow oG,Nat.testBit_lt_two_pow oG]
 unfold c8 at a b;omega
theorem GX(n r:Nat):a7 (List.replicate n 0) r=false:=by
 unfold a7;rw[List.getD_eq_getElem?_getD,List.getElem?_replicate];split<;>simp
theorem YF(n:Nat):dk (List.replicate n 0):=fun u C=>by
 rw[List.eq_of_mem_replicate C];simp[c8]
section
variable(beh:Nat->List Int)(EQ:Nat->Bool->Int)(KH:Nat->Nat->Int)
inductive Lv:Nat->Prop
 |here {b:Nat}:EQ b true=1->Lv b
 |read {b:Nat} {c:Int}:EQ b true=0->c∈beh b->KH b c.toNat=1->Lv b
 |on {b:Nat} {c:Int}:EQ b true=0->c∈beh b->KH b c.toNat=0->Lv c.toNat->Lv b
variable{beh EQ KH}{BP:Nat->Bool}{wIn:Nat->Bool->Bool}
end
def uR(s:List Bool)(c:Int):Bool:=s.getD c.toNat false
def dE(beh:Nat->List Int)(w:Int):Nat->List Bool×List Int->Nat->List Bool×List Int
 |0,s,_=>s
 |k+1,s,b=>
  let r:=(beh b).foldl (fun s c=>if uR s.1 c=false/\c≠w then dE beh w k s c.toNat else s) (s.1.set b true,s.2)
  (r.1,r.2++[(b:Int)])
def dv(beh:Nat->List Int)(w:Int)(k:Nat)(s:List Bool×List Int)(l:List Int):List Bool×List Int:=
 l.foldl (fun s c=>if uR s.1 c=false/\c≠w then dE beh w k s c.toNat else s) s
theorem v8(beh:Nat->List Int)(w:Int)(k:Nat)(s:List Bool×List Int)(b:Nat):
 dE beh w (k+1) s b=((dv beh w k (s.1.set b true,s.2) (beh b)).1,(dv beh w k (s.1.set b true,s.2) (beh b)).2++[(b:Int)]):=rfl
theorem Gh(beh:Nat->List Int)(w:Int)(k:Nat)(s:List Bool×List Int)(l:List Int)(c:Int):
 dv beh w k s (l++[c])=(if uR (dv beh w k s l).1 c=false/\c≠w then dE beh w k (dv beh w k s l) c.toNat else dv beh w k s l):=by
 rw[dv,List.foldl_append];rfl
theorem aaU{α:Type}{p:List α->Prop}(h0:p [])(h1:∀ l a,p l->p (l++[a]))(l:List α):p l:=by
 have h:∀ l:List α,p l.reverse:=fun l=>by
  induction l with
  |nil=>exact h0
  |cons a l ih=>rw[List.reverse_cons];exact h1 _ _ ih
 have:=h l.reverse
 rwa[List.reverse_reverse] at this
theorem FP{l:List Bool}{b:Nat}:(l.set b true).count false<=l.count false:=by
 induction l generalizing b with
 |nil=>simp
 |cons x l ih=>
  cases b with
  |zero=>cases x<;>simp
  |succ b=>simp only[List.set_cons_succ,List.count_cons];have:=ih (b:=b);omega
theorem um{l:List Bool}{b:Nat}(h:l[b]? =some false):(l.set b true).count false+1=l.count false:=by
 induction l generalizing b with
 |nil=>simp at h
 |cons x l ih=>
  cases b with
  |zero=>simp at h;subst h;simp
  |succ b=>simp only[List.set_cons_succ,List.count_cons];have:=ih (b:=b) (by simpa using h);omega
structure sC(beh:Nat->List Int)(w:Int)(s s':List Bool×List Int):Prop where
 len:s'.1.length=s.1.length
 cnt:s'.1.count false<=s.1.count false
 mono:∀ i,s.1.getD i false=true->s'.1.getD i false=true
 out:∃ l:List Int,s'.2=s.2++l/\l.Nodup/\∀ x,x∈l↔0<=x/\s'.1.getD x.toNat false=true/\s.1.getD x.toNat false=false
theorem sC.refl{beh:Nat->List Int}{w:Int}(s:List Bool×List Int):sC beh w s s:=⟨rfl,Nat.le_refl _,fun _ h=>h,[],by simp,List.nodup_nil,fun x=>by
 constructor
 .intro h;simp at h
 .rintro⟨_,h1,h2⟩;rw[h1] at h2;cases h2⟩
theorem sC.trans{beh:Nat->List Int}{w:Int}{s t u:List Bool×List Int}(h1:sC beh w s t)(h2:sC beh w t u):sC beh w s u:=by
 refine⟨h2.len.trans h1.len,Nat.le_trans h2.cnt h1.cnt,fun i h=>h2.mono i (h1.mono i h),?_⟩;obtain⟨J,a1,b1,c1⟩:=h1.out;obtain⟨U,a2,b2,c2⟩:=h2.out;refine⟨J++U,by rw[a2,a1,List.append_assoc],?_,fun x=>?_⟩
 .rw[List.nodup_append];refine⟨b1,b2,fun a ha b hb e=>?_⟩;subst e;have:=((c1 a).1 ha).2.1;rw[((c2 a).1 hb).2.2] at this;cases this
 .rw[List.mem_append,c1,c2];constructor
  .rintro(⟨h0,h,h'⟩|⟨h0,h,h'⟩)
   .exact⟨h0,h2.mono _ h,h'⟩
   .refine⟨h0,h,?_⟩;cases C:s.1.getD x.toNat false with
    |false=>rfl
    |true=>rw[h1.mono _ C] at h';cases h'
  .rintro⟨h0,h,h'⟩;cases ht:t.1.getD x.toNat false with
   |true=>exact .inl ⟨h0,rfl,h'⟩
   |false=>exact .inr ⟨h0,h,rfl⟩
theorem getD_set_true{l:List Bool}{b i:Nat}(hb:b<l.length):(l.set b true).getD i false=(decide (i=b)||l.getD i false):=by
 simp only[List.getD_eq_getElem?_getD,List.getElem?_set];split
 .rename_i h;subst h;simp[hb]
 .rename_i h;have:¬ i=b:=fun e=>h e.symm;simp[this]
section
variable{beh:Nat->List Int}{w:Int}{n:Nat}(hb:∀ b,∀ c∈beh b,0<=c/\c.toNat<n)
theorem uo{l:List Bool}{c:Nat}(h:l.getD c false=false)(hc:c<l.length):l[c]? =some false:=by
 rw[List.getD_eq_getElem?_getD,List.getElem?_eq_getElem hc] at h;rw[List.getElem?_eq_getElem hc];simpa using h
include hb in
theorem M5:∀ (k:Nat) (s:List Bool×List Int) (b:Nat),s.1.length=n->b<n->s.1.count false<=k->s.1.getD b false=false->
 sC beh w s (dE beh w k s b)/\(dE beh w k s b).1.getD b false=true/\
 (∀ x,(dE beh w k s b).1.getD x false=true->s.1.getD x false=false->∀ c∈beh x,c≠w->(dE beh w k s b).1.getD c.toNat false=true)
 |0,s,b,hn,xM,hk,hs=>by
  have:=um (uo hs oG);omega
 |k+1,s,b,hn,xM,hk,hs=>by
  have h0:sC beh w s (s.1.set b true,s.2++[(b:Int)]):=by
   refine⟨by simp,FP,fun i h=>?_,[(b:Int)],rfl,by simp,fun x=>?_⟩
   .simp only;rw[getD_set_true oG,h,Bool.or_true]
   .simp only[getD_set_true (show b<s.1.length by omega),List.mem_singleton];constructor
    .rintro rfl;simp[<- List.getD_eq_getElem?_getD,hs]
    .rintro⟨h1,h2,h3⟩;rw[h3,Bool.or_false,decide_eq_true_eq] at h2;omega
  have hF:∀ l:List Int,(∀ c∈l,0<=c/\c.toNat<n)->∀ o,let r:=dv beh w k (s.1.set b true,o) l
   sC beh w (s.1.set b true,o) r/\(∀ c∈l,c≠w->r.1.getD c.toNat false=true)/\
   (∀ x,r.1.getD x false=true->(s.1.set b true).getD x false=false->∀ c∈beh x,c≠w->r.1.getD c.toNat false=true):=by
   intro l
   induction l using aaU with
   |h0=>intro _ o;exact⟨.refl _,fun c h=>by simp at h,fun x h h'=>by rw[show(dv beh w k (s.1.set b true,o) []).1=s.1.set b true from rfl,h'] at h;cases h⟩
   |h1 l c ih=>
    intro hl o;obtain⟨C,X,g3⟩:=ih (fun c h=>hl c (by simp[h])) o;simp only;rw[Gh];generalize dv beh w k (s.1.set b true,o) l=t at C X g3;have hc:=hl c oS;have cN:t.1.length=n:=by rw[C.len];simp[hn]
    split
    .rename_i j0;have pU:t.1.getD c.toNat false=false:=j0.1
     have tE:t.1.count false<=k:=by
      have a1:=C.cnt;have a2:=um (uo hs oG);simp only at a1;omega
     obtain⟨q1,q2,q3⟩:=M5 k t c.toNat cN hc.2 tE pU;refine⟨C.trans q1,fun U h' J=>?_,fun x h1 h2 U zD J=>?_⟩
     .rw[List.mem_append] at h';rcases h' with h'|h'
      .exact q1.mono _ (X U h' J)
      .simp at h';subst h';exact q2
     .cases ht:t.1.getD x false with
      |true=>exact q1.mono _ (g3 x ht h2 U zD J)
      |false=>exact q3 x h1 ht U zD J
    .rename_i j0;refine⟨C,fun U h' J=>?_,g3⟩;rw[List.mem_append] at h';rcases h' with h'|h'
     .exact X U h' J
     .simp at h';subst h';cases ht:t.1.getD U.toNat false with
      |true=>rfl
      |false=>exact absurd ⟨ht,J⟩ j0
  rw[v8];obtain⟨C,X,g3⟩:=hF (beh b) (hb b) s.2;generalize dv beh w k (s.1.set b true,s.2) (beh b)=t at C X g3;have zN:t.1.getD b false=true:=C.mono b (by simp only;rw[getD_set_true oG];simp);refine⟨⟨by have:=C.len;simp at this;exact this,Nat.le_trans C.cnt FP,fun i h=>C.mono i (by simp only;rw[getD_set_true oG,h,Bool.or_true]),?_⟩,zN,fun x h1 h2 c hc J=>?_⟩
  .obtain⟨l,e,nd,hm⟩:=C.out;simp only at e hm;refine⟨l++[(b:Int)],by simp only;rw[e,List.append_assoc],?_,fun x=>?_⟩
   .rw[List.nodup_append];refine⟨nd,by simp,fun a ha b' lN e=>?_⟩;simp at lN;subst lN e;have:=((hm _).1 ha).2.2;rw[getD_set_true oG] at this;simp at this
   .rw[List.mem_append,hm,getD_set_true oG,List.mem_singleton];simp only;constructor
    .rintro(⟨h0,h1,h2⟩|rfl)
     .simp only[Bool.or_eq_false_iff] at h2;exact⟨h0,h1,h2.2⟩
     .exact⟨by omega,by simpa using zN,by simpa using hs⟩
    .rintro⟨h0,h1,h2⟩;by_cases hx:x=(b:Int)
     .exact .inr hx
     .refine .inl ⟨h0,h1,?_⟩;rw[h2];have:¬ x.toNat=b:=by omega
      simp[this]
  .simp only at h1 ⊢;by_cases hx:x=b
   .subst hx;exact X c hc J
   .exact g3 x h1 (by rw[getD_set_true oG,h2];simp[hx]) c hc J
end
def dC(beh:Nat->List Int)(n:Nat)(w:Int):List Bool:=if w=0 then List.replicate n false else(dE beh w n (List.replicate n false,[]) 0).1
def rY(beh:Nat->List Int)(n:Nat):List Int:=(dE beh (-1) n (List.replicate n false,[]) 0).2.reverse
section
variable{beh:Nat->List Int}{n:Nat}(hb:∀ b,∀ c∈beh b,0<=c/\c.toNat<n)(hn:0<n)
include hb hn
theorem EP(w:Int):sC beh w (List.replicate n false,[]) (dE beh w n (List.replicate n false,[]) 0)/\(dE beh w n (List.replicate n false,[]) 0).1.getD 0 false=true/\
 (∀ x,(dE beh w n (List.replicate n false,[]) 0).1.getD x false=true->∀ c∈beh x,c≠w->(dE beh w n (List.replicate n false,[]) 0).1.getD c.toNat false=true):=by
 have C:∀ i,(List.replicate n false).getD i false=false:=fun i=>by
  rw[List.getD_eq_getElem?_getD,List.getElem?_replicate];split<;>rfl
 obtain⟨h1,h2,h3⟩:=M5 (w:=w) hb n (List.replicate n false,[]) 0 oS hn oS (C 0);exact⟨h1,h2,fun x hx=>h3 x hx (C x)⟩
theorem yp(w:Int):(dC beh n w).length=n:=by
 unfold dC;split
 .simp
 .rw[(EP hb hn w).1.len];simp
theorem LO{x:Int}:x∈rY beh n↔0<=x/\(dC beh n (-1)).getD x.toNat false=true:=by
 obtain⟨h1,_,_⟩:=EP hb hn (-1);obtain⟨l,e,_,hm⟩:=h1.out;unfold rY dC;rw[if_neg oG,List.mem_reverse,e];simp only[List.nil_append];rw[hm]
 have C:(List.replicate n false).getD x.toNat false=false:=by
  rw[List.getD_eq_getElem?_getD,List.getElem?_replicate];split<;>rfl
 simp only[C,and_true]
theorem KQ{x:Nat}(hx:(dC beh n (-1)).getD x false=true):∀ c∈beh x,(dC beh n (-1)).getD c.toNat false=true:=by
 obtain⟨_,_,h3⟩:=EP hb hn (-1);unfold dC at hx ⊢;rw[if_neg oG] at hx ⊢;intro c hc;exact h3 x hx c hc (by have:=hb x c hc;omega)
end
end Go.Argus
section
open Go Go.Abs Go.Proofs Go.Argus
namespace Go.Proofs.Tryz.K
set_option maxRecDepth 10000
def vJ(x:Argus.End)(l:List Int)(s:St):Prop:=∃ r m nx,r<nx/\m r=some (.cells (l.map I) 3)/\Ghost prog s ⟨ay [(1,.pt (aT x)),(3,.rs r 0 l.length)],m,nx⟩
theorem tD{x:Argus.End}(hlen:x.aE.length<=100000):OCall prog 115 [.agg (aT x)] ((cE x).map I) (cE x).length 3:=by
 have aR:∀ a∈[D.agg (aT x)],Tr a:=.cons (.agg (ix x)) .nil;refine uv mixed RV (by rw[ad'];rfl) aR (.map fun _=>.s _) ?_;rw[aea,aeb];refine av ?_;refine ag ?_;refine ab (aJ (bp [(0,aT x,69)] eH (l:=[(1,.pt (aT x))]) eH) (av ?_));refine SS ?_;refine ab ⟨_,.nilrow _ _ _ 3 3 rfl,?_⟩;refine dB (vJ x (eC x)) (an ?_) fun s C=>?_
 .have yes:x.kind≠3/\x.kind≠4->eC x=[x.to]:=fun h=>by rw[eC,if_pos h]
  have no:¬ (x.kind≠3/\x.kind≠4)->eC x=[]:=fun h=>by rw[eC,if_neg h]
  have aq:up (fun _=>(none:Option Row)) 1 (some (.cells [] 3)) 1=some (.cells [] 3):=up_same _ _ _;by_cases h3:x.kind=3
  .have lG:(x.kind !=3)=false:=by simp[h3]
   refine aF ?_;(iterate 3 refine z fun _ _=>?_);refine SS ?_;refine ab (au rfl (fun h=>oH) fun h=>aZ ?_);rw[no (by simp[h3])];exact⟨_,_,_,Nat.lt_succ_self _,up_same _ _ _,ap eH⟩
  .by_cases h4:x.kind=4
   .have lG:(x.kind !=3)=true:=by simp[h4]
    have Ie:(x.kind !=4)=false:=by simp[h4]
    refine bA ?_;refine ab (au rfl (fun h=>(by simp[h4] at h)) fun h=>aZ ?_);rw[no (by simp[h4])];exact⟨_,_,_,Nat.lt_succ_self _,up_same _ _ _,ap eH⟩
   .have lG:(x.kind !=3)=true:=by simp[h3]
    have Ie:(x.kind !=4)=true:=by simp[h4]
    refine bA ?_;refine ab (au rfl (fun h=>?_) fun h=>(by simp[h4] at h));refine fI ?_;refine bD ?_;refine ab ?_;rw[yes ⟨h3,h4⟩];exact⟨_,_,_,Nat.lt_succ_self _,up_same _ _ _,ap eH⟩
 obtain⟨r,m,nx,hr,aq,hg⟩:=C;refine⟨_,hg,dB (vJ x (lT x)) (an ?_) fun s C=>?_⟩
 .have J:lT x=if x.kind=2\/x.kind=8 then eC x++[x.eL] else eC x:=rfl
  have U:(eC x).length<=1:=by unfold eC;split<;>simp
  generalize eC x=l at aq J U;have pZ:(l.map I).length=l.length:=by simp
  by_cases h2:x.kind=2\/x.kind=8
  .rw[if_pos h2] at J;refine bA ?_;refine ab (au rfl (fun h=>fI ?_) fun h=>(by rcases h2 with h2|h2<;>simp[h2] at h));refine bD ?_;refine ab ?_;rw[J];refine⟨_,_,_,Nat.lt_succ_self _,(up_same _ _ _).trans (by rw[List.map_append];rfl),ap ⟨rfl,?_,trivial⟩⟩;show D.rs _ 0 _=D.rs _ 0 _;rw[List.length_append];rfl
  .rw[if_neg h2] at J;refine bA ?_;refine ab (au rfl (fun h=>(by exfalso;apply h2;revert h;by_cases e2:x.kind=2<;>by_cases e8:x.kind=8<;>simp[e2,e8])) fun h=>aZ ?_);rw[J];exact⟨r,m,nx,hr,aq,ap eH⟩
 clear hg hr aq;obtain⟨r,m,nx,hr,aq,hg⟩:=C;refine⟨_,hg,dB (vJ x (cL x x.aE.length)) (av ?_) fun s C=>?_⟩
 .refine aF ?_
  refine ab (dq (α:=Nat×Nat×Mem×Nat) (fun s=>⟨ay [(1,.pt (aT x)),(3,.rs s.2.1 0 (cL x s.1).length),(33,nH x.aE),(34,I x.aE.length),(35,I s.1)],s.2.2.1,s.2.2.2⟩)
   (fun s=>s.1<=x.aE.length/\s.2.1<s.2.2.2/\s.2.2.1 s.2.1=some (.cells ((cL x s.1).map I) 3)) (fun s=>x.aE.length - s.1) (0,r,m,nx) (ap ⟨rfl,?_,rfl,rfl,rfl,trivial⟩) ⟨Nat.zero_le _,hr,?_⟩ ?_)
  .show D.rs r 0 _=D.rs r 0 _;simp[cL]
  .show m r=_;rw[aq];simp[cL]
  clear hg hr aq;rintro⟨j,r,m,nx⟩ ⟨hj,hr,aq⟩;dsimp only at hj hr aq ⊢;refine SS ?_;refine ab ⟨_,rfl,fun h=>?_,fun h=>?_⟩
  .have bZ:j<x.aE.length:=by simpa using h
   have hy:x.aE[j]? =some x.aE[j]:=List.getElem?_eq_getElem bZ;generalize x.aE[j]=w at hy;have X:=MC hy;have vD:(cL x (j+1)).length=(cL x j).length+1:=by rw[X];simp
   have pZ:((cL x j).map I).length=(cL x j).length:=by simp
   have U:(cL x j).length<=2+j:=by have:=Az x;unfold cL;simp;omega
   generalize cL x j=l at aq X pZ vD U;refine ws ?_;refine aF ?_;refine ab (dJ ?_);refine aF ?_;refine pJ (pA rfl (af oG (af oG (af oG aq))) rfl V.h V.h (nG (up_same _ _ _) rfl) rfl) ak ⟨V.h,rfl,(by first|omega|exact Nat.le_of_ble_eq_true rfl|(simp;done)|(simp;omega)),oC,(by first|rfl|(simp;done)|(simp;omega)),(by unfold maxLen;first|omega|(simp;omega)),(by rw[b3];first|omega|(simp;omega)),(by first|(simp;done)|(simp;omega))⟩ ?_;refine SS ?_;refine ab ?_;refine ag ?_;refine ab (aH (j+1,nx+1+1,_,_) (ap ⟨rfl,?_,rfl,rfl,rfl,trivial⟩) ⟨by dsimp only;omega,by dsimp only;omega,?_⟩ oM)
   .show D.rs _ 0 _=D.rs _ 0 _;rw[vD]
   .dsimp only;rw[X,List.map_append];exact up_same _ _ _
  .have aY:¬ j<x.aE.length:=by simpa using h
   have:j=x.aE.length:=by omega
   subst this;exact⟨r,m,nx,hr,aq,ap eH⟩
 clear hg hr aq;obtain⟨r,m,nx,hr,aq,hg⟩:=C;refine⟨_,hg,dB (vJ x (cE x)) (an ?_) fun s C=>?_⟩
 .have hd:cE x=if 0<=x.cm then cL x x.aE.length++[x.cm] else cL x x.aE.length:=rfl
  have U:(cL x x.aE.length).length<=2+x.aE.length:=by have:=Az x;unfold cL;simp;omega
  generalize cL x x.aE.length=l at aq hd U;have pZ:(l.map I).length=l.length:=by simp
  refine aw ?_;refine ab (au rfl (fun h=>fI ?_) fun h=>aZ ?_)
  .rw[if_pos (by simpa using h)] at hd;refine bD ?_;refine ab ?_;rw[hd];refine⟨_,_,_,Nat.lt_succ_self _,(up_same _ _ _).trans (by rw[List.map_append];rfl),ap ⟨rfl,?_,trivial⟩⟩;show D.rs _ 0 _=D.rs _ 0 _;rw[List.length_append];rfl
  .rw[if_neg (by simpa using h)] at hd;rw[hd];exact⟨r,m,nx,hr,aq,ap eH⟩
 clear hg hr aq;obtain⟨r,m,nx,hr,aq,hg⟩:=C;refine⟨_,hg,an ?_⟩;refine ag ?_;exact ab (ax rfl ⟨r,rfl,aq⟩)
end Go.Proofs.Tryz.K
namespace Go.Abs
theorem Wo{P:Program}{Y:YSpec}{rf:Bool}{Q:Exit->St->Prop}{st:St}{b:Code}[dD Y](h:∃ st',Ghost P st st'/\AW P Y rf b Q st'):AW P Y rf (.seq .skip b) Q st:=by
 obtain⟨st',h1,h2⟩:=h;exact⟨st',h1,h2⟩
end Go.Abs
namespace Go.Argus
def c6(f:aA)(beh ahd:List (List Int))(c:D):List D:=[S f.name,B f.iter,I f.args,U8 f.result,jD f.aj,jD f.aP,pg f.signals,eE f.blocks,bd beh,bd ahd,c]
theorem Gf{f:aA}{beh ahd:List (List Int)}{c:D}(hc:Tr c):∀ a∈c6 f beh ahd c,Tr a:=.cons (.s _) (.cons (.s _) (.cons (.s _) (.cons (.s _) (.cons (o9 _) (.cons (o9 _) (.cons (wm _) (.cons (Df _) (.cons (nI _) (.cons (nI _) (.cons hc .nil))))))))))
theorem Ar{f:aA}{beh ahd:List (List Int)}{c:D}(hc:Tr c):Tr (.pt (c6 f beh ahd c)):=.pt (Gf hc)
@[simp] theorem aom (f : aA) (beh ahd : List (List Int)) (c : D) : (c6 f beh ahd c).length = 11 := rfl
def dH(x:bt):List aW:=x.ins.takeWhile bx
theorem XY(l:List aW):(iJ (fun y=>y.op !=19) l= -1/\l.takeWhile bx=l.take l.length)\/∃ k:Nat,k<=l.length/\iJ (fun y=>y.op !=19) l=k/\l.takeWhile bx=l.take k:=by
 unfold iJ;cases h:l.findIdx? (fun y=>y.op !=19) with
 |none=>
  refine .inl ⟨rfl,takeWhile_eq (fun y hy=>?_) fun y hy=>by simp at hy⟩;rw[List.findIdx?_eq_none_iff] at h;have:=h y (List.mem_of_mem_take hy);simpa[bx] using this
 |some k=>
  obtain⟨hk,hp,hj⟩:=List.findIdx?_eq_some_iff_getElem.1 h;refine .inr ⟨k,by omega,rfl,takeWhile_eq (fun y hy=>?_) fun y hy=>?_⟩
  .obtain⟨j,C,rfl⟩:=List.getElem_of_mem hy;rw[List.length_take] at C;rw[List.getElem_take];simpa[bx] using hj j oG
  .rw[List.getElem?_eq_getElem hk] at hy;cases hy;simpa[bx] using hp
def iL(l:List Int)(x:Int):Bool:=l.any fun y=>x==y
theorem nJ{l:List Int}{x:Int}:iL l x=true↔x∈l:=by simp[iL]
def jd(A:List Int)(a:Int)(x:bt):List Int:=(dH x).map fun y=>y.args.getD (iJ (fun y=>a==y) A).toNat 0
def gH(b:Int)(l:List Int):Nat:=l.countP fun y=>y==b
def wE(x:End)(b:Int):Bool:=if((gH b (cE x):Int)==1)=true then x.to==b else false
def fG(x:End)(b:Int):Int:=if wE x b=true then dp x else -1
def AA(r:Int)(p:Bool)(y:aW):Bool:=if(bM y==r)=true then(if p=true then true else y.op !=19) else false
def jk(r:Int)(p:Bool):List aW->Int
 |[]=>0
 |y::t=>if iL (bK y) r=true then 1 else if AA r p y=true then 2 else jk r p t
def Eb(x:bt)(r:Int)(p:Bool):Int:=if jk r p x.ins=0 then(if iL (bJ x.fin) r=true then 1 else 0) else jk r p x.ins
def BP(y:bt)(r:Int):Bool:=(dH y).any fun z=>z.to==r
def Hh(x y:bt)(A:List Int)(a b r:Int):Int:=if(fG x.fin b==r)=true then 2 else if iL (jd A a y) r=true then 1 else if BP y r=true then 2 else 0
def aoF(n:Nat)(b:Int):Bool:=if decide (0<=b)=true then decide (b<(n:Int)) else false
end Go.Argus
namespace Go.Proofs.Tryz.K
set_option maxRecDepth 10000
theorem Ex{l:List Int}{v:Int}:PCall prog 110 [az l,I v] (I (iJ (fun y=>v==y) l)):=by
 refine lj Ig.he (.cons (cI _) (.cons (.s _) .nil)) fun C=>?_;have hlen:=(C (az l) oS).sl.1;unfold maxLen at hlen;refine aX mixed Ig (by rw[aec];rfl) (.cons (cI _) (.cons (.s _) .nil)) (Tr.s _) ?_;rw[aed,aee];refine ws ?_;refine SS ?_;refine ab (aD (av ?_));refine aw ?_
 refine ab (bG (fun s=>Ghost prog s ⟨ay [],fun _=>none,0⟩/\∀ (j:Nat) y,l[j]? =some y->(v==y)=false) (dq (α:=Nat) (fun k=>⟨ay [(0,az l),(1,I v),(7,I l.length),(8,I k)],fun _=>none,0⟩)
  (fun k=>k<=l.length/\∀ j y,j<k->l[j]? =some y->(v==y)=false) (fun k=>l.length - k) 0 (ap eH) ⟨by omega,fun j y hj=>by omega⟩ ?_) ?_)
 .rintro k ⟨hk,hinv⟩;refine SS ?_;refine ab ⟨_,rfl,fun h=>?_,fun h=>?_⟩
  .have ao:k<l.length:=by simpa using h
   have hx:l[k]? =some l[k]:=by simp[ao]
   generalize l[k]=x at hx;refine ws ?_;refine ag ?_;refine er ?_;refine bD ?_;refine ab (au rfl (fun hp=>?_) fun hp=>?_)
   .refine ws ?_;refine ag ?_;refine ab (aU (b7 (aQ (ax rfl ?_))));rw[yj hx hp hinv];rfl
   .refine b8 ?_;refine ag ?_;refine ab (aH (k+1) (ap eH) ⟨by omega,fun j y hj hy=>?_⟩ oG);by_cases e:j=k
    .subst e;rw[hx] at hy;cases hy;exact hp
    .exact hinv j y oG hy
  .have U:¬ k<l.length:=by simpa using h
   exact⟨.forget _ _ _ _ fun _=>.inr rfl,fun j y hy=>hinv j y (by have:=(List.getElem?_eq_some_iff.1 hy).1;omega) hy⟩
 .rintro s ⟨hg,J⟩;refine⟨_,hg,an ?_⟩;refine SS ?_;refine ab (ax rfl ?_);rw[yk J];rfl
theorem ajQ{x:aW}:PCall prog 177 [.agg (a8 x)] (B (x.op !=19)):=by
 have C:∀ a∈[D.agg (a8 x)],Tr a:=.cons (.agg (mW x)) .nil;refine aX mixed RW (by rw[aef];rfl) C (Tr.s _) ?_;rw[aeg,aeh];refine av ?_;refine ag ?_;refine ab (aJ (bp [(0,a8 x,66)] eH (l:=[(1,.pt (a8 x))]) eH) (an ?_));refine aF ?_;refine ab (ax (d:=.s (.bool _)) rfl ?_);rfl
section
variable{f:aA}{beh ahd:List (List Int)}{c:D}(hc:Tr c)(fL:c.one=true)
include hc fL
theorem Ey{b:Int}{k:Nat}{x:bt}(hb:b=k)(hx:f.blocks[k]? =some x)(hl:x.ins.length<=100000):PCall prog 141 [.pt (c6 f beh ahd c),I b] (dt (dH x)):=by
 have _:=fL;subst hb;have IN:=IN (l:=x.ins) (g:=177) (fs:=[]) (cs:=[]) (p:=fun y=>y.op !=19) (.fn oS oS) (fun x _=>ajQ);refine aX mixed RX (by rw[aei];rfl) (.cons (Ar hc) (.cons (.s _) .nil)) (yD _) ?_;have ao:=(List.getElem?_eq_some_iff.1 hx).1;rw[aej,aek];refine ws ?_;refine SS ?_;refine er ?_;refine bA ?_;refine ag ?_;refine er ?_;refine SS ?_;refine cl IN ?_;refine SS ?_;refine ab (aD (an ?_))
 have fin:∀ j:Nat,j<=x.ins.length->x.ins.takeWhile bx=x.ins.take j->AW prog noY true (.seq (.region 5 (Z rP 5) false) .ret) (retQ prog [.tmp 4] fun d C=>d=dt (dH x)) ⟨ay [(5,dt x.ins),(6,I j)],fun _=>none,0⟩:=fun j hj h2=>by
  refine ws ?_;refine aw ?_;refine aB (YQ rfl V.h V.h rfl rfl rfl rfl) ak ⟨V.h,rfl,by omega,by omega,by omega,by omega⟩ ?_;refine SS ?_;refine ab (ax rfl ?_);rw[dH,h2];exact Np W5 hj
 rcases XY x.ins with⟨h1,h2⟩|⟨j,hj,h1,h2⟩
 .rw[h1];refine ag ?_;refine ab (bC rfl (fun _=>av ?_) fun h=>oH);refine aw ?_;exact ab (aJ (ap (l:=[(5,dt x.ins),(6,I x.ins.length)]) eH) (fin _ (Nat.le_refl _) h2))
 .rw[h1];have pK:decide ((j:Int)<0)=false:=by simp
  refine ag ?_;refine ab (bC rfl (fun h=>oH) fun _=>Wo (aJ (ap (l:=[(5,dt x.ins),(6,I j)]) eH) (fin j hj h2)))
end
theorem I3{x:Argus.End}{b:Int}(hlen:x.aE.length<=1000):PCall prog 174 [.agg (aT x),I b] (B (wE x b)):=by
 have X:∀ a∈[D.agg (aT x),I b],Tr a:=.cons (.agg (ix x)) (.cons (.s _) .nil);have tD:=tD (x:=x) oG;have hl:=vZ x;refine aX mixed RY (by rw[ael];rfl) X (Tr.s _) ?_;rw[aem,aen];refine av ?_;refine ag ?_;refine ab (aJ (bp [(0,aT x,69)] eH (l:=[(1,I b),(2,.pt (aT x))]) eH) (an ?_));refine SS ?_;have U:wE x b=if((gH b (cE x):Int)==1)=true then x.to==b else false:=rfl
 generalize cE x=l at tD hl U;refine ab (aD (av ?_));refine SS ?_;refine y0 tD rfl (by repeat' (first|exact trivial|exact rfl|refine And.intro ?_ ?_)) ?_;refine ag ?_
 refine ab (bG (fun s=>Ghost prog s ⟨ay [(1,I b),(2,.pt (aT x)),(5,I (gH b l))],fun _=>none,2⟩) (dq (α:=Nat) (fun k=>⟨ay [(1,I b),(2,.pt (aT x)),(5,I (gH b (l.take k))),(9,az l),(10,I l.length),(11,I k)],fun _=>none,2⟩)
  (fun k=>k<=l.length) (fun k=>l.length - k) 0 (mR (i:=1) (up_same _ _ _) ⟨rfl,rfl,rfl,gv (by rw[c3];simp),rfl,rfl,trivial⟩) oG ?_) ?_)
 .intro k hk;refine SS ?_;refine ab ⟨_,rfl,fun h=>?_,fun h=>?_⟩
  .have ao:k<l.length:=by simpa using h
   have hx:l[k]? =some l[k]:=by simp[ao]
   have C:gH b (l.take (k+1))=gH b (l.take k)+(if l[k]=b then 1 else 0):=by
    unfold gH;rw[List.take_add_one,hx,List.countP_append];by_cases e:l[k]=b<;>simp[e]
   have J:gH b (l.take k)<=k:=Nat.le_trans List.countP_le_length oP;generalize gH b (l.take k)=q at C J;generalize l[k]=y at hx C;refine ws ?_;refine aw ?_;refine er ?_;refine aw ?_;refine ab (au rfl (fun hp=>?_) fun hp=>?_)
   .have hp:y=b:=by simpa using hp
    refine dJ ?_;refine aw ?_;refine ab ?_;refine ag ?_;refine ab (aH (k+1) (ap ⟨rfl,rfl,?_,rfl,rfl,rfl,trivial⟩) oG oG);rw[C,if_pos hp];rfl
   .have hp:¬ y=b:=by simpa using hp
    refine b8 ?_;refine ag ?_;refine ab (aH (k+1) (ap ⟨rfl,rfl,?_,rfl,rfl,rfl,trivial⟩) oG oG);rw[C,if_neg hp];rfl
  .have aY:¬ k<l.length:=by simpa using h
   have:k=l.length:=by omega
   subst this;rw[List.take_length];exact ap eH
 .intro s hg;refine⟨_,hg,an ?_⟩;refine aL ?_;refine ab (ax (d:=.s (.bool _)) rfl ?_);rw[U]
theorem Ez{x:Argus.End}{b:Int}(hlen:x.aE.length<=1000):PCall prog 136 [.agg (aT x),I b] (I (fG x b)):=by
 have C:∀ a∈[D.agg (aT x),I b],Tr a:=.cons (.agg (ix x)) (.cons (.s _) .nil);have I3:=I3 (x:=x) (b:=b) hlen;have zl:=zl (x:=x);refine aX mixed RZ (by rw[aeo];rfl) C (Tr.s _) ?_;rw[aep,aeq];refine av ?_;refine ag ?_;refine ab (aJ (bp [(0,aT x,69)] eH (l:=[(1,I b),(2,.pt (aT x))]) eH) (aD (an ?_)));refine ag ?_;refine cl I3 ?_;refine ab (bC rfl (fun h=>?_) fun h=>cx (an ?_))
 .refine aD (an ?_);refine SS ?_;refine cl zl ?_;refine SS ?_;refine ab (dx (ax rfl ?_));rw[fG,if_pos h];rfl
 .refine SS ?_;refine ab (ax rfl ?_);rw[fG,if_neg (by simp[h])];rfl
section
variable{f:aA}{beh ahd:List (List Int)}{c:D}(hc:Tr c)(fL:c.one=true)
include hc fL
end
end Go.Proofs.Tryz.K
namespace Go.Argus
def s9(l:List aW):List (List D):=(List.range l.length).map fun i=>[I ((l.length - 1 - i:Nat):Int),.agg (a8 (l.getD (l.length - 1 - i) dh))]
@[simp] theorem Gg (l : List aW) : (s9 l).length = l.length := by simp [s9]
theorem LJ{l:List aW}{i:Nat}{x:aW}(hi:i<l.length)(hx:l[l.length - 1 - i]? =some x):(s9 l)[i]? =some [I ((l.length - 1 - i:Nat):Int),.agg (a8 x)]:=by
 unfold s9;rw[List.getElem?_map,List.getElem?_range hi];simp[List.getD_eq_getElem?_getD,hx]
theorem abn{l:List Int}{a:Int}(h:a∈l):∃ p:Nat,iJ (fun y=>a==y) l=p/\p<l.length:=by
 unfold iJ;cases e:l.findIdx? (fun y=>a==y) with
 |none=>rw[List.findIdx?_eq_none_iff] at e;have:=e a h;simp at this
 |some p=>exact⟨p,rfl,(List.findIdx?_eq_some_iff_getElem.1 e).1⟩
def bq(beh:List (List Int))(b:Nat):List Int:=beh.getD b []
theorem GM{beh:List (List Int)}{b:Nat}(h:b<beh.length):beh[b]? =some (bq beh b):=by
 unfold bq;rw[List.getD_eq_getElem?_getD,List.getElem?_eq_getElem h];rfl
theorem LK(beh:Nat->List Int)(w:Int)(k:Nat)(s:List Bool×List Int)(c:Int)(l:List Int):
 dv beh w k s (c::l)=dv beh w k (if uR s.1 c=false/\c≠w then dE beh w k s c.toNat else s) l:=rfl
theorem DH{beh:Nat->List Int}{w:Int}:∀ (k:Nat),(∀ s b,(dE beh w k s b).1.length=s.1.length/\(dE beh w k s b).1.count false<=s.1.count false)/\
 (∀ l s,(dv beh w k s l).1.length=s.1.length/\(dv beh w k s l).1.count false<=s.1.count false):=by
 have key:∀ k,(∀ s b,(dE beh w k s b).1.length=s.1.length/\(dE beh w k s b).1.count false<=s.1.count false)->
  (∀ l s,(dv beh w k s l).1.length=s.1.length/\(dv beh w k s l).1.count false<=s.1.count false):=fun k h l=>by
  induction l with
  |nil=>exact fun s=>⟨rfl,Nat.le_refl _⟩
  |cons c l ih=>
   intro s;rw[LK];split
   .obtain⟨a1,a2⟩:=ih (dE beh w k s c.toNat);obtain⟨b1,b2⟩:=h s c.toNat;exact⟨a1.trans b1,Nat.le_trans a2 b2⟩
   .exact ih s
 intro k
 induction k with
 |zero=>exact⟨fun s b=>⟨rfl,Nat.le_refl _⟩,key 0 fun s b=>⟨rfl,Nat.le_refl _⟩⟩
 |succ k ih=>
  have h:∀ s b,(dE beh w (k+1) s b).1.length=s.1.length/\(dE beh w (k+1) s b).1.count false<=s.1.count false:=fun s b=>by
   rw[v8];obtain⟨a1,a2⟩:=ih.2 (beh b) (s.1.set b true,s.2);refine⟨a1.trans oS,Nat.le_trans a2 FP⟩
  exact⟨h,key (k+1) h⟩
theorem abo{beh:Nat->List Int}{w:Int}{k:Nat}{s:List Bool×List Int}{b:Nat}:(dE beh w (k+1) s b).2≠[]:=by
 rw[v8];simp
theorem ajV{l c:List Int}{n k:Nat}(hl:l.length=n)(hc:c.length=n)(h:∀ p,p<n->c.getD p 0=if p<k\/n<=p+k then l.getD (n - 1 - p) 0 else l.getD p 0)(hk:n<=2*k+1):c=l.reverse:=by
 apply List.ext_getElem (by simp[hl,hc]);intro p h1 h2;rw[List.getElem_reverse];have hp:=h p oG;rw[show c.getD p 0=c[p] by simp[List.getD_eq_getElem?_getD,List.getElem?_eq_getElem h1]] at hp;rw[hp];have e:∀ (i j:Nat) (h:i=j) (hj:j<l.length),l.getD i 0=l[j]:=fun i j h hj=>by subst h;simp[List.getD_eq_getElem?_getD,List.getElem?_eq_getElem hj]
 split
 .exact e _ _ oG _
 .exact e _ _ oG _
theorem Hi{beh:Nat->List Int}{w:Int}{n:Nat}(hb:∀ b,∀ c∈beh b,0<=c/\c.toNat<n):∀ (k:Nat),(∀ (s:List Bool×List Int) b,s.1.length=n->b<n->s.1.getD b false=false->(dE beh w k s b).2.length+(dE beh w k s b).1.count false<=s.2.length+s.1.count false)/\
 (∀ l,(∀ c∈l,0<=c/\c.toNat<n)->∀ s:List Bool×List Int,s.1.length=n->(dv beh w k s l).2.length+(dv beh w k s l).1.count false<=s.2.length+s.1.count false):=by
 have key:∀ k,(∀ (s:List Bool×List Int) b,s.1.length=n->b<n->s.1.getD b false=false->(dE beh w k s b).2.length+(dE beh w k s b).1.count false<=s.2.length+s.1.count false)->
  (∀ l,(∀ c∈l,0<=c/\c.toNat<n)->∀ s:List Bool×List Int,s.1.length=n->(dv beh w k s l).2.length+(dv beh w k s l).1.count false<=s.2.length+s.1.count false):=fun k h l=>by
  induction l with
  |nil=>exact fun _ s _=>Nat.le_refl _
  |cons c l ih=>
   intro hl s C;have hc:=hl c oS;rw[LK];split
   .rename_i J;have a:=ih (fun c h=>hl c (by simp[h])) (dE beh w k s c.toNat) (((DH k).1 s c.toNat).1.trans C);have b:=h s c.toNat C hc.2 J.1;omega
   .exact ih (fun c h=>hl c (by simp[h])) s C
 intro k
 induction k with
 |zero=>exact⟨fun s b _ _ _=>Nat.le_refl _,key 0 fun s b _ _ _=>Nat.le_refl _⟩
 |succ k ih=>
  have h:∀ (s:List Bool×List Int) b,s.1.length=n->b<n->s.1.getD b false=false->(dE beh w (k+1) s b).2.length+(dE beh w (k+1) s b).1.count false<=s.2.length+s.1.count false:=fun s b C X U=>by
   rw[v8];have a:=ih.2 (beh b) (hb b) (s.1.set b true,s.2) (by simpa using C);have b:=um (uo U oG);simp only[List.length_append,List.length_singleton] at a ⊢;omega
  exact⟨h,key (k+1) h⟩
end Go.Argus
namespace Go.Proofs.Tryz.K
set_option maxRecDepth 10000
section
variable{f:aA}{beh ahd:List (List Int)}{c:D}(hc:Tr c)(fL:c.one=true)
include hc fL
theorem EA{a b:Int}{k:Nat}{x:bt}{A:List Int}(hb:b=k)(hx:f.blocks[k]? =some x)(hA:ahd[k]? =some A)(hl:x.ins.length<=100000)(X:∀ y∈dH x,y.args.length=A.length)(hm:a∈A):
 PCall prog 132 [.pt (c6 f beh ahd c),I a,I b] (az (jd A a x)):=by
 subst hb;obtain⟨p,hp,iT⟩:=abn hm;have Ex:=Ex (l:=A) (v:=a);rw[hp] at Ex;have Ey:=Ey (f:=f) (beh:=beh) (ahd:=ahd) hc fL rfl hx hl
 have oW:(dH x).length<=100000:=by
  have:(dH x).length<=x.ins.length:=(List.takeWhile_prefix bx).length_le;omega
 have U:jd A a x=(dH x).map fun y=>y.args.getD p 0:=by rw[jd,hp,Int.toNat_natCast]
 generalize dH x=ph at Ey oW X U;have nA:=(List.getElem?_eq_some_iff.1 hA).1;refine aX mixed R0 (by rw[aer];rfl) (.cons (Ar hc) (.cons (.s _) (.cons (.s _) .nil))) (cI _) ?_;rw[aes,aet];refine ws ?_;refine SS ?_;refine er ?_;refine bA ?_;refine cl Ex ?_;refine SS ?_;refine ab (av ?_);refine SS ?_;refine ab ⟨_,.nilrow _ _ _ 8 3 rfl,aD (av ?_)⟩;refine ag ?_;refine cl Ey ?_;refine ag ?_
 refine ab (bG (fun s=>∃ r m nx,Ghost prog s ⟨ay [(8,.rs r 0 ph.length)],m,nx⟩/\m r=some (.cells ((ph.map fun y=>y.args.getD p 0).map I) 3)) (dq (α:=Nat×Nat×Mem×Nat)
  (fun s=>⟨ay [(7,I p),(8,.rs s.2.1 0 s.1),(22,dt ph),(23,I ph.length),(24,I s.1)],s.2.2.1,s.2.2.2⟩)
  (fun s=>s.1<=ph.length/\s.2.1<s.2.2.2/\s.2.2.1 s.2.1=some (.cells (((ph.take s.1).map fun y=>y.args.getD p 0).map I) 3)) (fun s=>ph.length - s.1) (0,_,_,_)
  (ap eH) ⟨Nat.zero_le _,Nat.lt_succ_self _,rfl⟩ ?_) ?_)
 .rintro⟨j,r,m,nx⟩ ⟨hj,hr,aq⟩;dsimp only at hj hr aq ⊢;refine SS ?_;refine ab ⟨_,rfl,fun h=>?_,fun h=>?_⟩
  .have bZ:j<ph.length:=by simpa using h
   have hy:ph[j]? =some ph[j]:=by simp[bZ]
   have gE:ph[j]∈ph:=List.getElem_mem _
   have C:((ph.take (j+1)).map fun y=>y.args.getD p 0).map I=((ph.take j).map fun y=>y.args.getD p 0).map I++[I (ph[j].args.getD p 0)]:=by
    rw[List.take_add_one,hy,List.map_append,List.map_append];rfl
   have pZ:(((ph.take j).map fun y=>y.args.getD p 0).map I).length=j:=by simp;omega
   generalize ph[j]=y at hy gE C;generalize ((ph.take j).map fun y=>y.args.getD p 0).map I=cs at aq C pZ;have hya:=X y gE;have hv:y.args[p]? =some y.args[p]:=List.getElem?_eq_getElem oG;have J:y.args.getD p 0=y.args[p]:=by simp[List.getD_eq_getElem?_getD,hv]
   rw[J] at C;generalize y.args[p]=v at hv C;refine ws ?_;refine aF ?_;refine ab (dJ ?_);refine cK ?_;refine pJ (pA rfl (af oG (af oG (af oG aq))) rfl V.h V.h (nG (up_same _ _ _) rfl) rfl) ak ⟨V.h,rfl,(by first|omega|exact Nat.le_of_ble_eq_true rfl|(simp;done)|(simp;omega)),oC,(by first|rfl|(simp;done)|(simp;omega)),(by unfold maxLen;first|omega|(simp;omega)),(by rw[b3];first|omega|(simp;omega)),(by first|(simp;done)|(simp;omega))⟩ ?_;refine SS ?_;refine ab ?_;refine ag ?_;refine ab (aH (j+1,nx+1+1,_,_) (ap eH) ⟨by dsimp only;omega,by dsimp only;omega,?_⟩ oM);dsimp only;rw[C];exact up_same _ _ _
  .have aY:¬ j<ph.length:=by simpa using h
   have:j=ph.length:=by omega
   subst this;rw[List.take_length] at aq;exact⟨r,m,nx,ap eH,aq⟩
 .rintro s ⟨r,m,nx,hg,aq⟩;refine⟨_,hg,av ?_⟩;refine ag ?_;refine ab (aJ (mR aq (l:=[(6,az (jd A a x))]) ⟨?_,trivial⟩) (ax rfl rfl));rw[U];exact(gv (by rw[c3];simp)).trans oS
end
theorem zW{w:List Int}{n:Nat}(U:w.length=19)(hn:n<=1200):PCall prog 66 [cX w,I n] (az (dZ w n)):=by
 refine aX mixed TP (by rw[ajR];rfl) (.cons (iK _) (.cons (.s _) .nil)) (cI _) ?_;rw[ajS,ajT];refine av ?_;refine ag ?_;refine ab (aJ (bp [(0,w.map bc,100)] eH (l:=[(1,I n),(2,.pt (w.map bc))]) eH) (av ?_));refine SS ?_;refine ab ⟨_,.nilrow _ _ _ 5 3 rfl,aD (av ?_)⟩;refine ag ?_
 refine ab (bG (fun s=>∃ r l m nx,Ghost prog s ⟨ay [(5,.rs r 0 l)],m,nx⟩/\m r=some (.cells ((dZ w n).map I) 3)/\l=(dZ w n).length) (dq (α:=Nat×Nat×Nat×Mem×Nat)
  (fun s=>⟨ay [(1,I n),(2,.pt (w.map bc)),(5,.rs s.2.1 0 s.2.2.1),(7,I n),(8,I s.1)],s.2.2.2.1,s.2.2.2.2⟩)
  (fun s=>s.1<=n/\s.2.1<s.2.2.2.2/\s.2.2.2.1 s.2.1=some (.cells ((dZ w s.1).map I) 3)/\s.2.2.1=(dZ w s.1).length/\s.2.2.1<=s.1) (fun s=>n - s.1) (0,_,0,_,_)
  (ap eH) ⟨Nat.zero_le _,Nat.lt_succ_self _,rfl,rfl,Nat.le_refl _⟩ ?_) ?_)
 .rintro⟨j,r,l,m,nx⟩ ⟨hj,hr,aq,C,X⟩;dsimp only at hj hr aq C X ⊢;refine SS ?_;refine ab ⟨_,rfl,fun h=>?_,fun h=>?_⟩
  .have bZ:j<n:=by simpa using h
   have J3:=J3 (w:=w) (m:=j) U oG;have J:=W4 w j;generalize dZ w j=L at aq C J;refine ws ?_;refine ag ?_;refine er ?_;refine aB (kH rfl V.h V.h (HE (by first|rfl|exact Nat.le_of_ble_eq_true rfl|(simp;done)|(simp;omega)|omega))) ak (kI V.h V.h (by first|rfl|exact Nat.le_of_ble_eq_true rfl|(simp;done)|(simp;omega)|omega)) ?_;refine SS ?_;refine cl J3 ?_;refine ab (au rfl (fun hp=>?_) fun hp=>?_)
   .rw[if_pos hp] at J;have pZ:(L.map I).length=l:=by simp[C]
    refine dJ ?_;refine aV ?_;refine ab ?_;refine ag ?_;refine ab (aH (j+1,nx+1,l+1,_,_) (ap eH) ⟨by dsimp only;omega,by dsimp only;omega,?_,?_,?_⟩ oM)
    .dsimp only;rw[J,List.map_append];exact up_same _ _ _
    .dsimp only;rw[J];simp[C]
    .dsimp only;omega
   .rw[if_neg (by simp[hp])] at J;refine b8 ?_;refine ag ?_;exact ab (aH (j+1,r,l,m,nx) (ap eH) ⟨by dsimp only;omega,by dsimp only;omega,by rw[J];exact aq,by rw[J];exact C,by dsimp only;omega⟩ oM)
  .have aY:¬ j<n:=by simpa using h
   have:j=n:=by omega
   subst this;exact⟨r,l,m,nx,ap eH,aq,C⟩
 .rintro s ⟨r,l,m,nx,hg,aq,C⟩;generalize dZ w n=L at aq C ⊢;refine⟨_,hg,av ?_⟩;refine ag ?_;refine ab (aJ (mR aq (l:=[(4,az L)]) ⟨?_,trivial⟩) (ax rfl rfl));subst C;exact(gv (by rw[c3];simp)).trans oS
theorem I4{l:List aW}:PCall prog 138 [dt l] (.fn (.func 176) [] [.pt [dt l]]):=by
 have C:∀ a∈[dt l],Tr a:=.cons (yD l) .nil;refine aX mixed R1 (by rw[aeu];rfl) C (.fn oS (.cons (.pt (.cons (yD l) .nil)) .nil)) ?_;rw[aev,aew];refine av ?_;refine eQ (A9 (d:=.sl _ _) rfl rfl) ak rfl ?_;refine aB (lk (v:=.s .nilFunc) rfl) ak trivial ?_;refine ab (aJ (bp [(0,[dt l],70)] eH (l:=[(1,.pt [dt l])]) eH) (an ?_));refine SS ?_;refine Tv ?_;exact ab (ax rfl rfl)
theorem TQ{l:List aW}(hlen:l.length<=100000):SeqA prog 176 [] [.pt [dt l]] (s9 l):=by
 refine Hv mixed R2 (by rw[aex];rfl) fun L J Stop m nx hI X h0=>?_;rw[aey,aez];refine av ?_;refine aF ?_
 refine ab (cq (α:=Nat×Mem×Nat) (fun k=>⟨ay [(0,.fn (.yield L) [] []),(1,.pt [dt l]),(3,I ((l.length:Int) - 1 - k.1))],k.2.1,k.2.2⟩)
  (fun k=>k.1<=l.length/\J k.1 k.2.1 k.2.2) (fun k=>l.length - k.1) (0,m,nx) (ap ⟨rfl,rfl,congrArg (fun z:Int=>I z) (show(l.length:Int) - 1=(l.length:Int) - 1 - ((0:Nat):Int) by omega),trivial⟩) ⟨by omega,h0⟩ ?_)
 rintro⟨k,m,nx⟩ ⟨hk,C⟩;dsimp only at hk C ⊢;refine ag ?_;refine ab ⟨_,rfl,fun h=>?_,fun h=>?_⟩
 .have ao:k<l.length:=by have h:(0:Int)<=(l.length:Int) - 1 - k:=by simpa using h
                         omega
  have hx:l[l.length - 1 - k]? =some l[l.length - 1 - k]:=List.getElem?_eq_getElem oG;generalize l[l.length - 1 - k]=x at hx;have hy:=LJ ao hx;have U:(l.length:Int) - 1 - k=((l.length - 1 - k:Nat):Int):=by omega
  rw[U];refine ws ?_;refine bD ?_;refine IK rfl rfl (by repeat' (first|exact trivial|exact rfl|refine And.intro ?_ ?_)) ⟨rfl,k,hy,C,fun d m' nx' hp=>?_⟩;rcases hp with⟨rfl,hp⟩|⟨rfl,hp⟩
  .refine SS ?_;refine ab (au rfl (fun h=>oH) fun h=>b8 ?_);refine aw ?_;exact ab (aH (k+1,m',nx') (ap ⟨rfl,rfl,congrArg (fun z:Int=>I z) (show((l.length - 1 - k:Nat):Int) - 1=(l.length:Int) - 1 - ((k+1:Nat):Int) by omega),trivial⟩) ⟨by simp only;omega,hp⟩ (by simp only;omega))
  .refine SS ?_;exact ab (au rfl (fun h=>aU (b7 (s3 (.inr hp)))) fun h=>oH)
 .have aY:¬ k<l.length:=by
   intro ao;simp at h;omega
  have:k=l.length:=by omega
  subst this;exact rX (.inl (by rw[Gg];exact C))
section
variable{f:aA}{beh ahd:List (List Int)}{c:D}(hc:Tr c)(fL:c.one=true)
include hc fL
theorem EB{n:Nat}{w:Int}(hn:beh.length=n)(qS:∀ b,∀ t∈bq beh b,0<=t/\t.toNat<n)(cO:∀ b,(bq beh b).length<=100000){i5 i6 r:Nat}(X:i5≠i6)(Cu:i5≠r)(Vk:i6≠r):∀ (k:Nat) (m:Mem) (nx:Nat) (seen:List Bool) (o:List Int) (b:Nat),
 i5<nx->i6<nx->r<nx->m i5=some (.cells [.rs r 0 n] 52)->m i6=some (.cells [.fn (.func 168) [] [.rp i5 0,.pt [.pt (c6 f beh ahd c)],.pt [I w],.rp i6 0]] 128)->m r=some (.cells (seen.map B) 4)->
 seen.length=n->b<n->seen.count false<=k->seen.getD b false=false->
 ACalls prog 168 [I b,.rp i5 0,.pt [.pt (c6 f beh ahd c)],.pt [I w],.rp i6 0] m nx (fun d m' nx'=>d=.tup []/\nx'=nx/\m'=up m r (some (.cells ((dE (bq beh) w k (seen,o) b).1.map B) 4)))
 |0,m,nx,seen,o,b,h5,h6,hr,J4,tM,tL,fM,hb,tE,tU=>by
  have _:=hc;have _:=fL;have:=um (uo tU oG);omega
 |k+1,m,nx,seen,o,b,h5,h6,hr,J4,tM,tL,fM,hb,tE,tU=>by
  have tV:=GM (beh:=beh) (b:=b) oG;have cZ:=qS b;have eT:=cO b;have pU:=um (uo tU oG);have IH:=EB (w:=w) hn qS cO X Cu Vk k;refine uu mixed R3 (by rw[aeA];rfl) ?_;rw[aeB,aeC];have aq:=J4;have bX:=tL;rw[v8];generalize bq beh b=l at tV cZ eT;refine ws ?_;refine aw ?_;refine TR ?_;refine ab (av ?_);refine aL ?_
  refine ab (dq (α:=Nat) (fun j=>⟨ay [(1,.rp i5 0),(3,.pt [I w]),(4,.rp i6 0),(17,az l),(18,I l.length),(19,I j)],up m r (some (.cells ((dv (bq beh) w k (seen.set b true,o) (l.take j)).1.map B) 4)),nx⟩)
   (fun j=>j<=l.length) (fun j=>l.length - j) 0 (gO eH ?_) (Nat.zero_le _) ?_)
  .rw[List.take_zero];show up m r _=up m r (some (.cells ((seen.set b true).map B) 4));rw[List.map_set]
  intro j hj;obtain⟨cl,cc⟩:=(DH (beh:=bq beh) (w:=w) k).2 (l.take j) (seen.set b true,o)
  have bL:∀ t,l[j]? =some t->dv (bq beh) w k (seen.set b true,o) (l.take (j+1))=if uR (dv (bq beh) w k (seen.set b true,o) (l.take j)).1 t=false/\t≠w then dE (bq beh) w k (dv (bq beh) w k (seen.set b true,o) (l.take j)) t.toNat else dv (bq beh) w k (seen.set b true,o) (l.take j):=fun t ht=>by
   rw[List.take_add_one,ht];exact Gh (bq beh) w k (seen.set b true,o) (l.take j) t
  have fR:j=l.length->dv (bq beh) w k (seen.set b true,o) (l.take j)=dv (bq beh) w k (seen.set b true,o) l:=fun e=>by rw[e,List.take_length]
  generalize dv (bq beh) w k (seen.set b true,o) (l.take j)=s at cl cc bL fR;simp only[List.length_set] at cl cc;have aq:up m r (some (.cells (s.1.map B) 4)) i5=some (.cells [.rs r 0 n] 52):=af Cu J4;have bX:up m r (some (.cells (s.1.map B) 4)) r=some (.cells (s.1.map B) 4):=up_same _ _ _;have fe:up m r (some (.cells (s.1.map B) 4)) i6=some (.cells [.fn (.func 168) [] [.rp i5 0,.pt [.pt (c6 f beh ahd c)],.pt [I w],.rp i6 0]] 128):=af Vk tM;have ld:∀ v,up (up m r (some (.cells (s.1.map B) 4))) r v=up m r v:=fun v=>jN _ _ _ _;generalize hM:up m r (some (.cells (s.1.map B) 4))=M at aq bX fe ld;refine SS ?_;refine ab ⟨_,rfl,fun h=>?_,fun h=>?_⟩
  .have ao:j<l.length:=by simpa using h
   have hx:l[j]? =some l[j]:=List.getElem?_eq_getElem ao;have pW:=cZ _ (List.getElem_mem ao);generalize l[j]=t at hx pW;have J:=bL t hx;obtain⟨C,rfl⟩:=Int.eq_ofNat_of_zero_le pW.1;have xK:C<n:=pW.2;have hv:s.1[C]? =some s.1[C]:=List.getElem?_eq_getElem oG;have nC:s.1.getD C false=s.1[C]:=by simp[List.getD_eq_getElem?_getD,hv]
   have xL:uR s.1 (C:Int)=s.1[C]:=nC;generalize s.1[C]=v at hv nC xL;have kd:=eV (f:=B) hv;refine ws ?_;refine aw ?_;refine er ?_;refine bA ?_;refine ag ?_;refine ab (au rfl (fun hp=>?_) fun hp=>?_)
   .have U:v=false/\(C:Int)≠w:=by
     revert hp;cases v<;>simp
    have J:=J.trans (if_pos ⟨xL.trans U.1,U.2⟩);refine dJ ?_;refine aB (eX rfl fe rfl V.h) ak (eY V.h V.h rfl) ?_;refine SS ?_;refine mu (IH M nx s.1 s.2 C h5 h6 hr aq fe bX (cl.trans fM) xK oG (nC.trans U.1)) rfl (by repeat' (first|exact trivial|exact rfl|refine And.intro ?_ ?_)) fun d m' nx' hp=>?_;obtain⟨rfl,rfl,rfl⟩:=hp;refine ab ?_;refine ag ?_;refine ab (aH (j+1) (gO eH ?_) oG oG);rw[ld,J];rfl
   .have U:¬ (v=false/\(C:Int)≠w):=by
     revert hp;cases v<;>simp
    have J:=J.trans (if_neg fun hh=>U ⟨xL.symm.trans hh.1,hh.2⟩);refine b8 ?_;refine ag ?_;refine ab (aH (j+1) (gO eH ?_) oG oG);rw[J];exact hM.symm
  .have aY:¬ j<l.length:=by simpa using h
   refine rX ⟨rfl,rfl,?_⟩;rw[<- fR oG];exact hM.symm
end
theorem Vl{m:Mem}{nx i n:Nat}{l:List Int}(hi:i<nx)(hm:m i=some (.cells (l.map I) 3))(hl:l.length=n)(hn:n<=100000):
 ACalls prog 84 [.rs i 0 n] m nx (fun r m' nx'=>r=.tup []/\nx'=nx/\m'=up m i (some (.cells (l.reverse.map I) 3))):=by
 refine uu mixed TS (by rw[ajW];rfl) ?_;rw[ajX,ajY]
 have zK:up m i (some (.cells (l.map I) 3))=m:=by
  funext j;simp only[up];split
  .rename_i e;rw[e,hm]
  .rfl
 have aq:=hm;refine av ?_;refine aV ?_
 refine ab (cq (α:=List Int×Nat) (fun s=>⟨ay [(0,.rs i 0 n),(2,I s.2),(3,I ((n:Int) - 1 - s.2))],up m i (some (.cells (s.1.map I) 3)),nx⟩)
  (fun s=>s.1.length=n/\s.2<=n/\∀ p,p<n->s.1.getD p 0=if p<s.2\/n<=p+s.2 then l.getD (n - 1 - p) 0 else l.getD p 0) (fun s=>n - s.2) (l,0) (gO ⟨rfl,rfl,congrArg (fun z:Int=>I z) (show(n:Int) - 1=(n:Int) - 1 - ((0:Nat):Int) by omega),trivial⟩ zK.symm) ⟨hl,Nat.zero_le _,fun p hp=>by rw[if_neg (by simp only;omega)]⟩ ?_)
 rintro⟨d,k⟩ ⟨hd,hk,hinv⟩;dsimp only at hd hk hinv ⊢;have aq:up m i (some (.cells (d.map I) 3)) i=some (.cells (d.map I) 3):=up_same _ _ _;refine aw ?_;refine ab ⟨_,rfl,fun h=>?_,fun h=>?_⟩
 .have ao:(k:Int)<(n:Int) - 1 - k:=by simpa using h
  obtain⟨j,hj⟩:∃ j:Nat,(n:Int) - 1 - k=j/\j=n - 1 - k:=⟨n - 1 - k,by omega,rfl⟩
  have ha:d[k]? =some d[k]:=List.getElem?_eq_getElem oG;have hb:d[j]? =some d[j]:=List.getElem?_eq_getElem oG;have C:d.getD k 0=d[k]:=by simp[List.getD_eq_getElem?_getD,ha]
  have J:d.getD j 0=d[j]:=by simp[List.getD_eq_getElem?_getD,hb]
  have kd:=eV (f:=I) hb;have fh:=eV (f:=I) ha;generalize U:d[k]=a at ha C fh;generalize X:d[j]=b at hb J kd;clear U X;rw[hj.1];refine iZ Zk ?_;refine aL ?_;refine ag ?_;refine aB (eX rfl aq fh V.h) ak (eY V.h V.h fh) ?_;refine SS ?_;refine cr (gy (d:=.s (.int _ _)) (cs':=_) rfl rfl aq rfl rfl) ak (dy V.h V.h (by first|(simp;done)|exact⟨rfl,Nat.le_of_ble_eq_true rfl⟩|(simp;omega)) rfl) ?_;refine ag ?_;refine bj (by simp[apartT]) ?_;refine bD ?_;refine ab (aH ((d.set k b).set j a,k+1) (gO ⟨rfl,rfl,congrArg (fun z:Int=>I z) (show(j:Int) - 1=(n:Int) - 1 - ((k+1:Nat):Int) by omega),trivial⟩ ?_) ⟨by simp[hd],by simp only;omega,fun p hp=>?_⟩ (by simp only;omega))
  .rw[jN,jN];simp only[List.map_set]
  .simp only
   have e:((d.set k b).set j a).getD p 0=if p=j then a else if p=k then b else d.getD p 0:=by
    simp only[List.getD_eq_getElem?_getD,List.getElem?_set];by_cases e1:j=p
    .subst e1;simp[hd,hp]
    .rw[if_neg e1,if_neg (show ¬ p=j from fun e=>e1 e.symm)];by_cases e2:k=p
     .subst e2;simp[hd,hp]
     .rw[if_neg e2,if_neg (show ¬ p=k from fun e=>e2 e.symm)]
   rw[e];have h1:=hinv p hp;by_cases e1:p=j
   .subst e1;rw[if_pos rfl,if_pos oG];have:=hinv k oG;rw[if_neg oG,C] at this;rw[this,show n - 1 - p=k by omega]
   .rw[if_neg e1];by_cases e2:p=k
    .subst e2;rw[if_pos rfl,if_pos oG];have:=hinv j oG;rw[if_neg oG,J] at this;rw[this,show n - 1 - p=j by omega]
    .rw[if_neg e2,h1];by_cases e3:p<k\/n<=p+k
     .rw[if_pos e3,if_pos oG]
     .rw[if_neg e3,if_neg oG]
 .have aY:¬ (k:Int)<(n:Int) - 1 - k:=by simpa using h
  refine rX ⟨rfl,rfl,?_⟩;rw[ajV hl hd hinv oG]
section
variable{f:aA}{beh ahd:List (List Int)}{c:D}(hc:Tr c)(fL:c.one=true)
include hc fL
theorem ED{n:Nat}{w:Int}(hn:beh.length=n)(vg:f.blocks.length=n)(oJ:0<n)(lO:n<=100000)(qS:∀ b,∀ t∈bq beh b,0<=t/\t.toNat<n)(X:∀ b,(bq beh b).length<=100000):
 OCall prog 116 [.pt (c6 f beh ahd c),I w] ((dC (bq beh) n w).map B) n 4:=by
 refine uv mixed R6 (by rw[aeS];rfl) (.cons (Ar hc) (.cons (.s _) .nil)) (.map fun _=>.s _) ?_;rw[aeT,aeU];refine av ?_;refine eQ (A9 (d:=.pt _) rfl rfl) ak rfl ?_;refine ag ?_;refine ab (aJ (bp [(0,[.pt (c6 f beh ahd c)],79),(1,[I w],3)] eH (l:=[(2,.pt [.pt (c6 f beh ahd c)]),(3,.pt [I w])]) eH) (av ?_));have J:((f.blocks.length:Nat):Int).toNat=n:=vg;refine bA ?_;refine TT ?_;refine ab (aJ (aK (l:=[(2,.pt [.pt (c6 f beh ahd c)]),(3,.pt [I w]),(5,.rp 3 0)]) (ml:=[(2,.cells ((List.replicate n false).map B) 4),(3,.cells [.rs 2 0 n] 52)]) eH ⟨?_,?_,trivial⟩) (aD (an ?_)))
 .exact congrArg (fun c=>some (Row.cells c 4)) ((congrArg (fun k=>replD k [B false]) J).trans (pj n false))
 .exact congrArg (fun k=>some (Row.cells [D.rs 2 0 k] 52)) J
 refine ag ?_;refine ab (bC rfl (fun h=>?_) fun h=>cx (an ?_))
 .have C:w=0:=by simpa using h
  refine aD (av ?_);refine ag ?_;refine ab (aJ (.refl _) (dx (ax rfl ⟨2,rfl,?_⟩)));rw[dC,if_pos C];rfl
 .have C:¬ w=0:=by simpa using h
  refine SS ?_;refine er ?_;refine SS ?_;refine cr (gy (d:=.fn _ _ _) (cs':=[_]) rfl rfl rfl rfl rfl) ak (dy V.h V.h (by first|(simp;done)|exact⟨rfl,Nat.le_of_ble_eq_true rfl⟩|(simp;omega)) rfl) ?_;refine ab (av ?_);have EB:=EB (f:=f) (beh:=beh) (ahd:=ahd) (w:=w) hc fL hn qS X (i5:=3) (i6:=4) (r:=2) oC oC oC n;have hR:dC (bq beh) n w=(dE (bq beh) w n (List.replicate n false,[]) 0).1:=by rw[dC,if_neg C]
  have U:=(DH (beh:=bq beh) (w:=w) n).1 (List.replicate n false,[]) 0;rw[<- hR] at U;refine SS ?_;refine mu (EB _ _ (List.replicate n false) [] 0 oG oG oG rfl rfl rfl oS oJ oS (by rw[List.getD_eq_getElem?_getD,List.getElem?_replicate];split<;>rfl)) rfl (by repeat' (first|exact trivial|exact rfl|refine And.intro ?_ ?_)) fun d m' nx' hp=>?_;obtain⟨rfl,rfl,rfl⟩:=hp;rw[<- hR];generalize dC (bq beh) n w=R at U hR ⊢;refine ab (aJ (aK (l:=[(5,.rp 3 0)]) (ml:=[(2,.cells (R.map B) 4),(3,.cells [.rs 2 0 n] 52)]) eH eH) (av ?_));refine ag ?_;exact ab (aJ (.refl _) (ax rfl ⟨2,rfl,rfl⟩))
end
structure EE(i3 i4 i5 r n:Nat)(fv:D)(m:Mem)(nx q:Nat)(s:List Bool×List Int):Prop where
 h3:i3<nx
 h4:i4<nx
 h5:i5<nx
 hr:r<nx
 m3:m i3=some (.cells [.rs r 0 n] 52)
 m5:m i5=some (.cells [fv] 128)
 mr:m r=some (.cells (s.1.map B) 4)
 m4:m i4=some (.cells [jc q (s.2.map I)] 27)
 mq:s.2≠[]->q<nx/\q≠i3/\q≠i4/\q≠i5/\q≠r/\m q=some (.cells (s.2.map I) 3)
section
variable{f:aA}{beh ahd:List (List Int)}{c:D}(hc:Tr c)(fL:c.one=true)
include hc fL
theorem BQ{n:Nat}(hn:beh.length=n)(qS:∀ b,∀ t∈bq beh b,0<=t/\t.toNat<n)(cO:∀ b,(bq beh b).length<=100000){i3 i4 i5 r:Nat}(pY:i3≠i4)(h35:i3≠i5)(Vm:i3≠r)(J5:i4≠i5)(Fj:i4≠r)(Cu:i5≠r):
 ∀ (k:Nat) (m:Mem) (nx q:Nat) (C:List Bool×List Int) (b:Nat),
 EE i3 i4 i5 r n (.fn (.func 149) [] [.rp i3 0,.pt [.pt (c6 f beh ahd c)],.rp i5 0,.rp i4 0]) m nx q C->C.1.length=n->b<n->C.1.count false<=k->C.1.getD b false=false->C.2.length+C.1.count false<=100000->
 ACalls prog 149 [I b,.rp i3 0,.pt [.pt (c6 f beh ahd c)],.rp i5 0,.rp i4 0] m nx (fun d m' nx'=>d=.tup []/\∃ q',EE i3 i4 i5 r n (.fn (.func 149) [] [.rp i3 0,.pt [.pt (c6 f beh ahd c)],.rp i5 0,.rp i4 0]) m' nx' q' (dE (bq beh) (-1) k C b))
 |0,m,nx,q,C,b,J,fM,hb,tE,tU,hlen=>by
  have _:=hc;have _:=fL;have:=um (uo tU oG);omega
 |k+1,m,nx,q,C,b,J,fM,hb,tE,tU,hlen=>by
  have tV:=GM (beh:=beh) (b:=b) oG;have cZ:=qS b;have eT:=cO b;have pU:=um (uo tU oG);have IH:=BQ hn qS cO pY h35 Vm J5 Fj Cu k;have iT:=(Hi (w:= -1) qS k).2;refine uu mixed R7 (by rw[aeV];rfl) ?_;rw[aeW,aeX];have aq:=J.m3;have bX:=J.mr;have⟨p3,p4,p5,pr,_,_,_,_,pq⟩:=J;rw[v8];generalize bq beh b=l at tV cZ eT;refine ws ?_;refine aw ?_;refine TR ?_;refine ab (aD (av ?_));refine aL ?_
  refine ab (bG (fun s=>∃ m nx q,Ghost prog s ⟨ay [(0,I b),(4,.rp i4 0)],m,nx⟩/\EE i3 i4 i5 r n (.fn (.func 149) [] [.rp i3 0,.pt [.pt (c6 f beh ahd c)],.rp i5 0,.rp i4 0]) m nx q (dv (bq beh) (-1) k (C.1.set b true,C.2) l)) (dq (α:=Nat×Nat×Mem×Nat)
   (fun j=>⟨ay [(0,I b),(1,.rp i3 0),(3,.rp i5 0),(4,.rp i4 0),(17,az l),(18,I l.length),(19,I j.1)],j.2.2.1,j.2.2.2⟩)
   (fun j=>j.1<=l.length/\EE i3 i4 i5 r n (.fn (.func 149) [] [.rp i3 0,.pt [.pt (c6 f beh ahd c)],.rp i5 0,.rp i4 0]) j.2.2.1 j.2.2.2 j.2.1 (dv (bq beh) (-1) k (C.1.set b true,C.2) (l.take j.1))) (fun j=>l.length - j.1) (0,q,_,nx)
   (ap eH) ⟨Nat.zero_le _,?_⟩ ?_) ?_)
  .dsimp only;refine⟨p3,p4,p5,pr,af Vm J.m3,af Cu J.m5,?_,af Fj J.m4,fun h=>?_⟩
   .rw[List.take_zero];show up m r _ r=some (.cells ((C.1.set b true).map B) 4);rw[List.map_set];exact up_same _ _ _
   .obtain⟨a1,a2,a3,a4,a5,a6⟩:=pq h;exact⟨a1,a2,a3,a4,a5,af a5 a6⟩
  .clear J aq bX p3 p4 p5 pr pq;rintro⟨j,q,m,nx⟩ ⟨hj,J⟩;dsimp only at hj J ⊢;obtain⟨cl,cc⟩:=(DH (beh:=bq beh) (w:= -1) k).2 (l.take j) (C.1.set b true,C.2);have cp:=iT (l.take j) (fun c h=>cZ c (List.mem_of_mem_take h)) (C.1.set b true,C.2) (by simpa using fM)
   have bL:∀ t,l[j]? =some t->dv (bq beh) (-1) k (C.1.set b true,C.2) (l.take (j+1))=if uR (dv (bq beh) (-1) k (C.1.set b true,C.2) (l.take j)).1 t=false/\t≠ -1 then dE (bq beh) (-1) k (dv (bq beh) (-1) k (C.1.set b true,C.2) (l.take j)) t.toNat else dv (bq beh) (-1) k (C.1.set b true,C.2) (l.take j):=fun t ht=>by
    rw[List.take_add_one,ht];exact Gh (bq beh) (-1) k (C.1.set b true,C.2) (l.take j) t
   have fR:j=l.length->dv (bq beh) (-1) k (C.1.set b true,C.2) (l.take j)=dv (bq beh) (-1) k (C.1.set b true,C.2) l:=fun e=>by rw[e,List.take_length]
   generalize dv (bq beh) (-1) k (C.1.set b true,C.2) (l.take j)=s at cl cc bL fR J cp;simp only[List.length_set] at cl cc cp;have aq:=J.m3;have bX:=J.mr;have fe:=J.m5;refine SS ?_;refine ab ⟨_,rfl,fun h=>?_,fun h=>?_⟩
   .have ao:j<l.length:=by simpa using h
    have hx:l[j]? =some l[j]:=List.getElem?_eq_getElem ao;have pW:=cZ _ (List.getElem_mem ao);generalize l[j]=t at hx pW;have X:=bL t hx;obtain⟨U,rfl⟩:=Int.eq_ofNat_of_zero_le pW.1;have xK:U<n:=pW.2;have hv:s.1[U]? =some s.1[U]:=List.getElem?_eq_getElem oG;have nC:s.1.getD U false=s.1[U]:=by simp[List.getD_eq_getElem?_getD,hv]
    have xL:uR s.1 (U:Int)=s.1[U]:=nC;generalize s.1[U]=v at hv nC xL;have kd:=eV (f:=B) hv;refine ws ?_;refine aw ?_;refine er ?_;refine aV ?_;refine ab (au rfl (fun hp=>?_) fun hp=>?_)
    .have sM:v=false:=by simpa using hp
     have X:=X.trans (if_pos ⟨xL.trans sM,by omega⟩);refine dJ ?_;refine aB (eX rfl fe rfl V.h) ak (eY V.h V.h rfl) ?_;refine SS ?_;refine mu (IH m nx q s U J (cl.trans fM) xK oG (nC.trans sM) oG) rfl (by repeat' (first|exact trivial|exact rfl|refine And.intro ?_ ?_)) fun d m' nx' hp=>?_;obtain⟨rfl,q',hp⟩:=hp;refine ab ?_;refine ag ?_;refine ab (aH (j+1,q',m',nx') (ap eH) ⟨by dsimp only;omega,?_⟩ oM);dsimp only;rw[X];exact hp
    .have sM:v=true:=by simpa using hp
     have X:=X.trans (if_neg fun hh=>by rw[xL,sM] at hh;exact absurd hh.1 oS);refine b8 ?_;refine ag ?_;refine ab (aH (j+1,q,m,nx) (ap eH) ⟨by dsimp only;omega,?_⟩ oM);dsimp only;rw[X];exact J
   .have aY:¬ j<l.length:=by simpa using h
    rw[<- fR oG];exact⟨m,nx,q,ap eH,J⟩
  .clear J aq bX p3 p4 p5 pr pq;rintro s ⟨m,nx,q,hg,J⟩;have cp:=iT l cZ (C.1.set b true,C.2) (by simpa using fM);generalize dv (bq beh) (-1) k (C.1.set b true,C.2) l=u at J cp ⊢;obtain⟨u1,u2⟩:=u;have⟨p3,p4,p5,pr,m3,m5,mr,m4,pq⟩:=J;dsimp only at mr m4 pq cp ⊢;refine⟨_,hg,fI ?_⟩;by_cases hz:u2=[]
   .subst hz;have aq:m i4=some (.cells [.z] 27):=m4;refine aF ?_;refine Ty ?_;refine ab (rX ⟨rfl,nx+1,?_⟩);dsimp only;refine⟨by omega,by omega,by omega,by omega,?_,?_,?_,?_,fun _=>⟨by omega,by omega,by omega,by omega,by omega,?_⟩⟩
    .exact af pY (af oG (af oG m3))
    .exact af (Ne.symm J5) (af oG (af oG m5))
    .exact af (Ne.symm Fj) (af oG (af oG mr))
    .exact(up_same _ _ _).trans rfl
    .exact af oG ((up_same _ _ _).trans rfl)
   .have aI:u2.map I≠[]:=by simpa using hz
    obtain⟨q1,q2,q3,q4,q5,q6⟩:=pq hz;have aq:m i4=some (.cells [.rs q 0 u2.length] 27):=by rw[m4,pE aI,List.length_map]
    have bX:=q6;have pZ:(u2.map I).length=u2.length:=by simp
    refine aF ?_;refine Tz ?_;refine ab (rX ⟨rfl,nx+1,?_⟩);dsimp only;refine⟨by omega,by omega,by omega,by omega,?_,?_,?_,?_,fun _=>⟨by omega,by omega,by omega,by omega,by omega,?_⟩⟩
    .exact af pY (af oG (af (Ne.symm q2) (af oG m3)))
    .exact af (Ne.symm J5) (af oG (af (Ne.symm q4) (af oG m5)))
    .exact af (Ne.symm Fj) (af oG (af (Ne.symm q5) (af oG mr)))
    .refine(up_same _ _ _).trans ?_;rw[List.map_append,pE oS];simp
    .refine af oG ((up_same _ _ _).trans ?_);rw[List.map_append];rfl
theorem Cv{n:Nat}(hn:beh.length=n)(vg:f.blocks.length=n)(oJ:0<n)(lO:n<=100000)(qS:∀ b,∀ t∈bq beh b,0<=t/\t.toNat<n)(cO:∀ b,(bq beh b).length<=100000):
 OCall prog 85 [.pt (c6 f beh ahd c)] ((rY (bq beh) n).map I) (rY (bq beh) n).length 3:=by
 refine uv mixed TU (by rw[ajZ];rfl) (.cons (Ar hc) .nil) (.map fun _=>.s _) ?_;rw[aj0,aj1];refine av ?_;refine eQ (A9 (d:=.pt _) rfl rfl) ak rfl ?_;refine SS ?_;refine ab (aJ (bp [(0,[.pt (c6 f beh ahd c)],79)] eH (l:=[(1,.pt [.pt (c6 f beh ahd c)])]) eH) (av ?_));have cY:((f.blocks.length:Nat):Int).toNat=n:=vg;refine bA ?_;refine TT ?_;refine ab (aJ (aK (l:=[(1,.pt [.pt (c6 f beh ahd c)]),(3,.rp 2 0)]) (ml:=[(1,.cells ((List.replicate n false).map B) 4),(2,.cells [.rs 1 0 n] 52)]) eH ⟨?_,?_,trivial⟩) (an ?_))
 .exact congrArg (fun c=>some (Row.cells c 4)) ((congrArg (fun k=>replD k [B false]) cY).trans (pj n false))
 .exact congrArg (fun k=>some (Row.cells [D.rs 1 0 k] 52)) cY
 refine SS ?_;refine er ?_;refine SS ?_;refine er ?_;refine SS ?_;refine cr (gy (d:=.fn _ _ _) (cs':=[_]) rfl rfl rfl rfl rfl) ak (dy V.h V.h (by first|(simp;done)|exact⟨rfl,Nat.le_of_ble_eq_true rfl⟩|(simp;omega)) rfl) ?_;refine ab (av ?_);have BQ:=BQ (f:=f) (beh:=beh) (ahd:=ahd) hc fL hn qS cO (i3:=2) (i4:=3) (i5:=4) (r:=1) oC oC oC oC oC oC n;have hz:(List.replicate n false).getD 0 false=false:=by rw[List.getD_eq_getElem?_getD,List.getElem?_replicate];split<;>rfl
 have sN:=(Hi (w:= -1) qS n).1 (List.replicate n false,[]) 0 oS oJ hz
 have C:(dE (bq beh) (-1) n (List.replicate n false,[]) 0).2≠[]:=by
  obtain⟨j,rfl⟩:∃ j,n=j+1:=⟨n - 1,by omega⟩
  exact abo
 have hR:rY (bq beh) n=(dE (bq beh) (-1) n (List.replicate n false,[]) 0).2.reverse:=rfl;refine SS ?_;refine mu (BQ _ _ 0 (List.replicate n false,[]) 0 ⟨by decide,by decide,by decide,by decide,rfl,rfl,rfl,rfl,fun h=>absurd rfl h⟩ oS oJ oS hz oP) rfl (by repeat' (first|exact trivial|exact rfl|refine And.intro ?_ ?_)) fun d m' nx' hp=>?_;obtain⟨rfl,J,X⟩:=hp;have m4:=X.m4;obtain⟨q1,q2,q3,q4,q5,U⟩:=X.mq C;rw[hR];clear X hR BQ;generalize (dE (bq beh) (-1) n (List.replicate n false,[]) 0)=u at sN C m4 U ⊢;obtain⟨u1,u2⟩:=u;dsimp only at sN C m4 U ⊢;have BB:u2.map I≠[]:=by simpa using C
 have aq:m' 3=some (.cells [.rs J 0 u2.length] 27):=by rw[m4,pE BB,List.length_map]
 have bX:=U;have eT:u2.length<=100000:=by simp at sN;omega
 refine ab (aJ (ap (l:=[(4,.rp 3 0)]) eH) (an ?_));refine SS ?_;refine mu (Vl q1 U rfl eT) rfl (by repeat' (first|exact trivial|exact rfl|refine And.intro ?_ ?_)) fun d m2 fW hp=>?_;obtain⟨rfl,rfl,rfl⟩:=hp;refine er ?_;have aq:up m' J (some (.cells (u2.reverse.map I) 3)) 3=some (.cells [.rs J 0 u2.length] 27):=af (Ne.symm q3) aq;refine ag ?_;refine ab (ax rfl ⟨J,?_,up_same _ _ _⟩);rw[List.length_reverse];rfl
end
end Go.Proofs.Tryz.K
namespace Go.Abs
section
variable{P:Program}{m:Mem}{nx:Nat}
theorem Wc{f:FuncId}{rds:List Nat}{args args' es:List D}{n:Nat}{t:TypeId}(om:Sns P rds m args args')(hc:OCall P f args' es n t)(gL:∀ d∈es,d.scal=true):
 ACalls P f args m nx (fun d m' nx'=>d=.rs nx 0 n/\m'=up m nx (some (.cells es t))/\nx'=nx+1):=by
 refine⟨hc.1,fun F β w vs hm hβ hR=>?_⟩;have hn:=hβ nx (Nat.le_refl _)
 obtain⟨h1,h2⟩:=sns_R (P:=P) (F:=F) (β:=β) (w:=w) (fun i hi r hr=>by
  obtain⟨p,hp,aq⟩:=hm.row i r hr
  exact⟨p,hp,aq,fun b hb=>hm.nf i p b hp hb⟩) om
 refine(hc.2.2 F w vs (fun b hb=>hm.fb b hb) ⟨by rw[hR.1,h1],fun k d v hd hv=>?_⟩).mono ?_
 .have ao:k<args.length:=by rw[h1];exact(List.getElem?_eq_some_iff.1 hd).1
  exact h2 k args[k] d (by simp[ao]) hd v (hR.2 k args[k] v (by simp[ao]) hv)
 rintro e w' ⟨v,p,he,HJ,C,aq,hv,hk⟩;have jv:=hm.kept hk
 have hs:Step β w (up β nx (some p)) w':=by
  refine⟨hk.1,fun b hb hf=>⟨hk.2.1 b hb,fun i q hq=>?_⟩,fun i q hq=>.inl ?_,hk.2.2⟩
  .by_cases hi:i=nx
   .subst hi;rw[up_same] at hq;cases hq;intro e;have:=(C b e).1;omega
   .rw[up_ne _ _ hi] at hq;exact hf i q hq
  .rw[up_ne _ _ (fun e=>by rw[e,hn] at hq;cases hq)];exact hq
 have U:∀ i q b,up β nx (some p) i=some q->q.blk=some b->(i=nx/\q=p)\/(i≠nx/\β i=some q):=fun i q b hq _=>by
  by_cases hi:i=nx
  .subst hi;rw[up_same] at hq;cases hq;exact .inl ⟨rfl,rfl⟩
  .rw[up_ne _ _ hi] at hq;exact .inr ⟨hi,hq⟩
 have HK:RowR P F (up β nx (some p)) w' (.cells es t) p:=by
  cases aq with
  |nil _=>exact .nil _
  |cells _ _ b o room sz c h1 h2 h3 h4 h5=>
   refine .cells es t b o room sz c h1 h2 h3 h4 fun k d hd=>?_;obtain⟨u,oq,ot,ou⟩:=h5 k d hd;exact⟨u,oq,scal_R (gL d (List.mem_of_getElem? hd)) ot,ou⟩
 refine⟨v,.rs nx 0 n,up m nx (some (.cells es t)),nx+1,up β nx (some p),he,⟨rfl,rfl,rfl⟩,?_,fun i hi=>by rw[up_ne _ _ oG];exact hβ i oG,?_,hs,Nat.le_succ _,fun i hi hb=>by rw[up_ne _ _ oG];exact hb⟩
 .refine⟨fun i r hi=>?_,fun i j q q' b hq fV e J=>?_,fun i q b hq e=>?_,fun i q b hq e=>?_,jv.fb⟩
  .by_cases X:i=nx
   .subst X;rw[up_same] at hi;cases hi;exact⟨p,up_same _ _ _,HK⟩
   .rw[up_ne _ _ X] at hi;obtain⟨q,hq,Jr⟩:=hm.row i r hi;exact⟨q,by rw[up_ne _ _ X];exact hq,Jr.step hs fun b hb=>hk.2.1 b (hm.lt i q b hq hb)⟩
  .rcases U i q b hq e with⟨rfl,rfl⟩|⟨hi,h1⟩<;>rcases U j q' b fV J with⟨rfl,rfl⟩|⟨hj,h2⟩
   .rfl
   .have:=(C b e).1;have:=hm.lt j q' b h2 J;omega
   .have:=(C b J).1;have:=hm.lt i q b h1 e;omega
   .exact hm.inj i j q q' b h1 h2 e J
  .rcases U i q b hq e with⟨_,rfl⟩|⟨_,h1⟩
   .exact(C b e).2
   .exact jv.lt i q b h1 e
  .rcases U i q b hq e with⟨_,rfl⟩|⟨_,h1⟩
   .intro hF;have:=hm.fb b hF;have:=(C b e).1;omega
   .exact hm.nf i q b h1 e
 .cases hv with
  |rsd _ _ _ _ h _=>rw[up_same] at h;cases h;exact absurd rfl HJ
  |rsn _ a h=>rw[up_same] at h;cases h;exact .rsn nx a (up_same _ _ _)
  |rsz _ _ a b o len room sz h=>rw[up_same] at h;cases h;exact .rsz nx 0 a b o len room sz (up_same _ _ _)
  |rs _ _ _ cap b o len room sz h h1 h2 h3 h4=>rw[up_same] at h;cases h;exact .rs nx 0 n cap b o len room sz (up_same _ _ _) h1 h2 h3 h4
end
section
variable{P:Program}{env:Env}{m:Mem}{nx:Nat}
theorem Dq{f:FuncId}{args:List D}{dS:D->Mem->Nat->Prop}{i:Nat}{r:Row}(hm:m i=some r)(he:enterOk P f=true)(h:i<nx->ACalls P f args m nx dS):ACalls P f args m nx dS:=⟨he,fun F β w vs C J hR=>by
 refine(h ?_).2 F β w vs C J hR;rcases Nat.lt_or_ge i nx with g|g
 .exact g
 .obtain⟨p,hp,_⟩:=C.row i r hm
  rw[J i g] at hp;cases hp⟩
theorem Ec{Y:YSpec}{ops:Array Oper}{dr:Bool}{cf:List (Nat×Nat)}{Q:Exit->St->Prop}{rest:List Oper}{tr:Tra}{op:Op}{ty:TypeId}{pos:String}{after:Array Edge}{f:FuncId}{args:List D}{r:D}{ups:List (Nat×Option Row)}{rds:List Nat}{d:Option Nat}
 (h:∀ C J,(∀ i∈rds,m i≠none->C i=m i)->ACalls P f args C J fun r' m' nx'=>r'=r/\m'=upds C ups/\nx'=J) (U:∀ i∈ups.map (·.1),i∈rds/\m i≠none) (hc:callD (rho env op) op=some (f,args)) (ha:gG env op.operands.toList)
 (K:AOps P Y ops dr cf Q rest (St.put ⟨env,upds m ups,nx⟩ d r) (tr++[(rds,ups.map (·.1))])):AOps P Y ops dr cf Q (⟨d,op,ty,pos,after,none⟩::rest) ⟨env,m,nx⟩ tr:=DE hc ha (.inr (.inr (.inr (.inr (.inl ⟨r,ups,rds,h,U,K⟩)))))
theorem LM{i:Nat}{cs:List D}{e:TypeId}{l:List (Nat×D)}(hm:m i=some (.cells cs e))(hl:iA l fun t=>sub (fz0 i cs (P.cellsOf e)) (env t)):
 Ghost P ⟨env,m,nx⟩ ⟨ay l,fun j=>if j=i then none else(m j).map (Row.sub (fz0 i cs (P.cellsOf e))),nx⟩:=
 (Ghost.freeze env m nx i cs e hm).trans (Ghost.forget _ _ _ _ (lY hl))
theorem fF.fz{j n q sz:Nat}{e et:TypeId}{ρ:Nat->Nat}{L:Nat->List D}{cs:List D}(h:fF m nx j n e et ρ L)(J:∀ i,np (L i))(hq:j≠q)(C:∀ i,i<n->L i≠[]->ρ i≠q):
 fF (fun p=>if p=q then none else(m p).map (Row.sub (fz0 q cs sz))) nx j n e et ρ L:=by
 refine⟨?_,h.jx,fun i hi hl=>?_,h.lt,h.ne,h.inj⟩
 .rw[if_neg hq,h.row];refine congrArg some (iB.cells (X:=fun p=>p=q) (fun d hd=>?_) q cs sz rfl);obtain⟨i,hi,rfl⟩:=List.mem_map.1 hd;by_cases hl:L i=[]
  .rw[hl];exact .z
  .rw[pE hl];exact .rs (C i (by simpa using hi) hl)
 .rw[if_neg (C i hi hl),h.jr i hi hl];exact congrArg some (iB.BK (X:=fun p=>p=q) (J i) q cs sz rfl)
end
end Go.Abs
namespace Go.Argus
open Go.Proofs.Tryz.K (nextR)
theorem Dg{f:aA}{x:End}(h:iC f x=true):cE x=cz x:=by
 unfold iC at h;rw[Bool.and_eq_true] at h;obtain⟨h,hb⟩:=h;have hb:=Nn hb;obtain⟨kind,a,b,to,eL,name,ins,args,aE,cm⟩:=x;simp only[eO] at h hb;by_cases h1:kind=1
 .subst h1;simp only[Int.reduceEq,if_false,if_true] at hb;have J:aE=[]:=List.length_eq_zero_iff.1 hb.2.2.2.2.2.2.2;have C:cm= -1:=hb.2.2.2.2.2.1;subst J C;simp[cE,eC,lT,cL,cz,fX,aG]
 by_cases h2:kind=2
 .subst h2;simp only[Int.reduceEq,if_false,if_true] at hb;have J:aE=[]:=List.length_eq_zero_iff.1 hb.2.2.2.2.2.2.2;have C:cm= -1:=hb.2.2.2.2.2.1;subst J C;simp[cE,eC,lT,cL,cz,fX,aG]
 by_cases h3:kind=3
 .subst h3;simp only[Int.reduceEq,if_false,if_true] at hb;have J:aE=[]:=List.length_eq_zero_iff.1 hb.2.2.2.2.2.2.2;have C:cm= -1:=hb.2.2.2.2.2.1;subst J C;simp[cE,eC,lT,cL,cz,fX,aG]
 by_cases h4:kind=4
 .subst h4;simp only[Int.reduceEq,if_false,if_true] at hb;have J:aE=[]:=List.length_eq_zero_iff.1 hb.2.2.2.2.2.2.2;have C:cm= -1:=hb.2.2.2.2.2.1;subst J C;simp[cE,eC,lT,cL,cz,fX,aG]
 by_cases h5:kind=5
 .subst h5;by_cases C:0<=cm<;>simp[cE,eC,lT,cL,cz,fX,aG,C]
 by_cases U:kind=6
 .subst U;by_cases C:0<=cm<;>simp[cE,eC,lT,cL,cz,fX,aG,C]
 by_cases X:kind=7
 .subst X;simp only[Int.reduceEq,if_false,if_true] at hb;have J:aE=[]:=List.length_eq_zero_iff.1 hb.2.2.2.2.2.2.2;have C:cm= -1:=hb.2.2.2.2.2.1;subst J C;simp[cE,eC,lT,cL,cz,fX,aG]
 by_cases h8:kind=8
 .subst h8;by_cases C:0<=cm<;>simp[cE,eC,lT,cL,cz,fX,aG,C]
 by_cases h9:kind=9
 .subst h9;simp only[Int.reduceEq,if_false,if_true] at hb;have J:aE=[]:=List.length_eq_zero_iff.1 hb.2.2.2.2.2.2.2;have C:cm= -1:=hb.2.2.2.2.2.1;subst J C;simp[cE,eC,lT,cL,cz,fX,aG]
 .simp only[h1,h2,h3,h4,h5,U,X,h8,h9,if_false] at h;cases h
theorem Wp{f:aA}(h:hC f=true):∀ x∈f.blocks,cE x.fin=cz x.fin:=by
 unfold hC at h;simp only[Bool.and_eq_true] at h;obtain⟨J,U,_,C,hR⟩:=h;intro x hx;obtain⟨k,hk⟩:=List.getElem?_of_mem hx;have ao:k<f.blocks.length:=(List.getElem?_eq_some_iff.1 hk).1;have:=List.all_eq_true.1 C k (by simpa using ao);rw[iy,getD_some hk] at this;simp only[Bool.and_eq_true,Bool.not_eq_true',decide_eq_false_iff_not] at this;exact Dg this.1
def bw(f:aA):List (List Int):=f.blocks.map fun x=>nextR x.fin
theorem rJ{f:aA}{k:Nat}{x:bt}(h:f.blocks[k]? =some x):bq (bw f) k=nextR x.fin:=by
 unfold bq bw;simp[List.getD_eq_getElem?_getD,h]
theorem Ah{f:aA}{k:Nat}(h:f.blocks.length<=k):bq (bw f) k=[]:=by
 unfold bq bw;rw[List.getD_eq_getElem?_getD,List.getElem?_eq_none (by simpa using h)];rfl
def gA(f:aA)(a b c:D):List D:=[S f.name,B f.iter,I f.args,U8 f.result,jD f.aj,jD f.aP,pg f.signals,eE f.blocks,a,b,c]
def ik(f:aA)(n k:Nat):List D:=(List.range n).map fun i=>if i<k then az (bq (bw f) i) else .z
@[simp] theorem aoD (f : aA) (n k : Nat) : (ik f n k).length = n := by simp [ik]
theorem Zl{f:aA}{n k:Nat}{x:D}(hk:k<n):(ik f n k).set k x=(List.range n).map fun i=>if i=k then x else if i<k then az (bq (bw f) i) else .z:=by
 unfold ik;rw[Gb];exact List.map_congr_left fun i _=>rfl
def Bd(f:aA):List D:=c6 f (bw f) (cu f.blocks) (bW (dC (bq (bw f)) f.blocks.length (-1)))
end Go.Argus
namespace Go.Proofs.Tryz.K
set_option maxRecDepth 10000
theorem beh_in{f:aA}(h:iE f):∀ b,∀ t∈bq (bw f) b,0<=t/\t.toNat<f.blocks.length:=fun b t ht=>by
 cases hx:f.blocks[b]? with
 |none=>rw[Ah (List.getElem?_eq_none_iff.1 hx)] at ht;simp at ht
 |some x=>
  rw[rJ hx] at ht;have:=(h.ends x (List.mem_of_getElem? hx)).to t (Ab.1 ht);omega
theorem Nq{f:aA}(h:iE f):∀ b,(bq (bw f) b).length<=100000:=fun b=>by
 cases hx:f.blocks[b]? with
 |none=>rw[Ah (List.getElem?_eq_none_iff.1 hx)];simp
 |some x=>
  rw[rJ hx];have:=ur x.fin;have:=(h.ends x (List.mem_of_getElem? hx)).wh;omega
set_option maxHeartbeats 2000000 in
theorem Pv{f:aA}(dL:fN f=0):PCall prog 51 [.agg (aC f)] (.tup [.pt (Bd f),I 0]):=by
 have vI:=vI (f:=f);rw[dL] at vI
 have hf:hC f=true:=by
  unfold fN at dL;split at dL
  .assumption
  .cases dL
 have bf:=yS hf;have sE:=Wp hf;obtain⟨n,hn⟩:∃ n,f.blocks.length=n:=⟨_,rfl⟩
 have lO:n<=1200:=hn▸bf.mK;have gu:∀ b,∀ t∈bq (bw f) b,0<=t/\t.toNat<n:=hn▸beh_in bf;have cO:=Nq bf;refine aX mixed I5 (by rw[TV];rfl) (.cons (.agg (gz f)) .nil) (.tup (.cons (.pt (Gf (.sl (.map fun _=>.s _)))) (.cons (.s _) .nil))) ?_;rw[TW,TX];refine av ?_;refine aw ?_;refine ab (aJ (bp [(0,aC f,26)] eH (l:=[(1,.pt (aC f))]) eH) (aD (an ?_)));refine SS ?_;refine cl vI ?_;refine SS ?_;refine ab (aD (an ?_));refine ag ?_;refine ab (bC rfl (fun h=>oH) fun h=>cx (an ?_));refine aF ?_;refine ab (mQ Zm ?_);refine cK ?_;refine aB (lk (v:=.rp _ _) rfl) ak trivial ?_;have cY:((f.blocks.length:Nat):Int).toNat=n:=hn;refine bj (by simp[apartT]) (aJ (aK (l:=[(1,.pt (aC f)),(6,.rp 3 0)]) (ml:=[(1,.cells (List.replicate n .z) 27),(2,.cells (List.replicate n .z) 27),(3,.cells (gA f (.rs 1 0 n) (.rs 2 0 n) .z) 89)]) eH ⟨?_,?_,?_,trivial⟩) (aD (av ?_)))
 .exact congrArg (fun c=>some (Row.cells c 27)) ((congrArg (fun k=>replD k [D.z]) cY).trans (DG n))
 .exact congrArg (fun c=>some (Row.cells c 27)) ((congrArg (fun k=>replD k [D.z]) cY).trans (DG n))
 .exact congrArg (fun k=>some (Row.cells (gA f (.rs 1 0 k) (.rs 2 0 k) .z) 89)) cY
 refine aF ?_
 have pV:ik f n 0=List.replicate n D.z:=by
  unfold ik;simp only[Nat.not_lt_zero,if_false];rw[List.map_const',List.length_range]
 refine ab (bG (fun s=>∃ m nx ρ,Ghost prog s ⟨ay [(6,.rp 3 0)],m,nx⟩/\4<=nx/\m 1=some (.cells (ik f n n) 27)/\m 3=some (.cells (gA f (.rs 1 0 n) (.rs 2 0 n) .z) 89)/\fF m nx 2 n 27 3 ρ (fun i=>(br f.blocks n i).map I)/\(∀ i,i<n->(br f.blocks n i).map I≠[]->ρ i≠1/\ρ i≠3)) (dq (α:=Nat×Mem×Nat)
  (fun k=>⟨ay [(1,.pt (aC f)),(6,.rp 3 0),(28,eE f.blocks),(29,I n),(30,I k.1)],k.2.1,k.2.2⟩)
  (fun k=>k.1<=n/\4<=k.2.2/\k.2.1 1=some (.cells (ik f n k.1) 27)/\k.2.1 3=some (.cells (gA f (.rs 1 0 n) (.rs 2 0 n) .z) 89)/\(∃ ρ,fF k.2.1 k.2.2 2 n 27 3 ρ (fun i=>(br f.blocks k.1 i).map I)/\(∀ i,i<n->(br f.blocks k.1 i).map I≠[]->ρ i≠1/\ρ i≠3))/\∀ i,(br f.blocks k.1 i).length<=12*k.1) (fun k=>n - k.1)
  (0,a9 [(1,.cells (List.replicate n .z) 27),(2,.cells (List.replicate n .z) 27),(3,.cells (gA f (.rs 1 0 n) (.rs 2 0 n) .z) 89)],4)
  (ap ⟨rfl,rfl,rfl,congrArg (fun k:Nat=>I k) hn,rfl,trivial⟩) ⟨Nat.zero_le _,Nat.le_refl _,by rw[pV];rfl,rfl,⟨fun _=>0,GI (show 2<4 by decide) rfl,fun _ _ h=>absurd rfl h⟩,fun _=>Nat.le_refl _⟩ ?_) ?_)
 .rintro⟨k,m,nx⟩ ⟨hk,fC,U,m3,⟨ρ,C,J⟩,hlen⟩;dsimp only at hk fC U m3 C J hlen ⊢;refine SS ?_;refine ab ⟨_,rfl,fun h=>?_,fun h=>?_⟩
  .have ao:k<n:=by simpa using h
   have hx:f.blocks[k]? =some f.blocks[k]:=List.getElem?_eq_getElem oG;have bI:f.blocks[k]∈f.blocks:=List.getElem_mem _;generalize f.blocks[k]=x at hx bI
   have bL:br f.blocks (k+1)=(nextR x.fin).foldl (cS k) (br f.blocks k):=by
    rw[br,List.range_succ,List.foldl_append];show nQ f.blocks _ k=_;rw[nQ,hx];rfl
   have gN:=rJ hx;have cZ:=gu k;have zO:=(bf.ends x bI).wh;have hle:=vZ x.fin;have Vn:=sE x bI;have zH:=ur x.fin;have vA:nextR x.fin=jE (eI (cE x.fin)):=by rw[Vn];rfl
   have tD:=tD (x:=x.fin) oG;rw[gN] at cZ;generalize br f.blocks k=L0 at C hlen J bL;refine ws ?_;refine bD ?_;refine er ?_;refine SS ?_;refine aB (cP (vs:=aT _) rfl (up_same _ _ _) V.h V.h rfl) ak (cQ V.h V.h (by first|(simp;done)|omega|exact Nat.le_of_ble_eq_true rfl)) ?_;refine y0 tD rfl (by repeat' (first|exact trivial|exact rfl|refine And.intro ?_ ?_)) ?_;refine SS ?_;generalize cE x.fin=d at hle vA tD;refine ab (av ?_);refine SS ?_;refine mu (tR (i:=nx+1) (l:=d) oG (up_same _ _ _) rfl oG) rfl (by repeat' (first|exact trivial|exact rfl|refine And.intro ?_ ?_)) fun r m' nx' hp=>?_;obtain⟨rfl,rfl,rfl⟩:=hp;have fM:(eI d).length=d.length:=Ga d;have cN:(jE (eI d)).length=(nextR x.fin).length:=by rw[vA]
   refine ab (aJ (gO (l:=[(1,.pt (aC f)),(6,.rp 3 0),(7,I k),(9,.rs (nx+1) 0 d.length),(28,eE f.blocks),(29,I n),(30,I k)]) (m':=up (up m nx (some (.cells (cR x) 72))) (nx+1) (some (.cells ((eI d).map I) 3))) eH (by rw[jN,jN])) (mQ X0 ?_));have aq:up (up m nx (some (.cells (cR x) 72))) (nx+1) (some (.cells ((eI d).map I) 3)) 3=some (.cells (gA f (.rs 1 0 n) (.rs 2 0 n) .z) 89):=af oG (af oG m3);have bX:up (up m nx (some (.cells (cR x) 72))) (nx+1) (some (.cells ((eI d).map I) 3)) 1=some (.cells (ik f n k) 27):=af oG (af oG U);have fe:up (up m nx (some (.cells (cR x) 72))) (nx+1) (some (.cells ((eI d).map I) 3)) (nx+1)=some (.cells ((eI d).map I) 3):=up_same _ _ _;have zU:=C.lt;have C:=C.ext (m':=up (up m nx (some (.cells (cR x) 72))) (nx+1) (some (.cells ((eI d).map I) 3))) (nx':=nx+2) (fun q hq=>af oG (af oG rfl)) oG;generalize up (up m nx (some (.cells (cR x) 72))) (nx+1) (some (.cells ((eI d).map I) 3))=M at aq bX fe C;clear U m3;refine bD ?_;refine Ec (r:=.rs (nx+1) 0 (jE (eI d)).length) (ups:=[(nx+1,some (.cells (s7 (eI d) d.length) 3))]) (rds:=[nx+1]) (fun m2 fW k9=>?_) ?_ rfl (by repeat' (first|exact trivial|exact rfl|refine And.intro ?_ ?_)) ?_
   .have e:=k9 (nx+1) oS (by rw[fe];simp);rw[fe] at e;refine Dq e zk.he fun w7=>(BJ w7 e fM oG).mono ?_;rintro r m' nx' ⟨h1,h2,h3⟩;exact⟨h2,h3,h1⟩
   .intro i hi;simp at hi;subst hi;exact⟨by simp,by rw[fe];simp⟩
   have j0:s7 (eI d) d.length=(nextR x.fin).map I++List.replicate (d.length - (nextR x.fin).length) (I 0):=by rw[s7,vA]
   show AOps _ _ _ _ _ _ _ ⟨up _ 46 _,up M (nx+1) (some (.cells (s7 (eI d) d.length) 3)),_⟩ _;rw[<- vA,j0]
   have dm:(nextR x.fin).length<=d.length:=by
    rw[vA];have:(jE (eI d)).length<=(eI d).length:=G' _;omega
   clear j0 cN vA fe;generalize nextR x.fin=l at cZ zH bL gN dm;refine aB (jG rfl rfl (af oG bX) V.h V.h) ak ⟨V.h,by omega⟩ ?_;refine cr (gy (d:=.rs _ _ _) (cs':=_) rfl rfl (af oG bX) rfl rfl) ak (dy V.h V.h (by first|(simp;done)|exact⟨rfl,Nat.le_of_ble_eq_true rfl⟩|(simp;omega)) rfl) ?_;refine bj (by simp[apartT];omega) ?_;have e1:(ik f n k).set k (.rs (nx+1) 0 l.length)=(List.range n).map fun i=>if i=k then .rs (nx+1) 0 l.length else if i<k then az (bq (bw f) i) else .z:=Zl ao
   rw[e1];refine aJ (LM (i:=nx+1) (e:=3) (cs:=l.map I++List.replicate (d.length - l.length) (I 0)) (l:=[(1,.pt (aC f)),(6,.rp 3 0),(7,I k),(28,eE f.blocks),(29,I n),(30,I k)]) (af oG (up_same _ _ _)) ⟨rfl,Dr oG,rfl,rfl,rfl,rfl,trivial⟩) (av ?_)
   have N1:(fun j=>if j=nx+1 then none else(up (up M (nx+1) (some (.cells (l.map I++List.replicate (d.length - l.length) (I 0)) 3))) 1 (some (.cells ((List.range n).map fun i=>if i=k then .rs (nx+1) 0 l.length else if i<k then az (bq (bw f) i) else .z) 27)) j).map (Row.sub (fz0 (nx+1) (l.map I++List.replicate (d.length - l.length) (I 0)) (prog.cellsOf 3)))) 1=some (.cells (ik f n (k+1)) 27):=by
    dsimp only;rw[if_neg oG,up_same];show some (Row.cells (List.map _ (List.map _ _)) 27)=_;rw[List.map_map,ik];refine congrArg (fun c=>some (Row.cells c 27)) (List.map_congr_left fun i _=>?_);simp only[Function.comp_apply];by_cases Vo:i=k
    .subst Vo;rw[if_pos rfl,if_pos oG,gN,c3,y5];simp[az]
    .rw[if_neg Vo];by_cases h2:i<k
     .rw[if_pos h2,if_pos oG];rfl
     .rw[if_neg h2,if_neg oG];rfl
   have N3:(fun j=>if j=nx+1 then none else(up (up M (nx+1) (some (.cells (l.map I++List.replicate (d.length - l.length) (I 0)) 3))) 1 (some (.cells ((List.range n).map fun i=>if i=k then .rs (nx+1) 0 l.length else if i<k then az (bq (bw f) i) else .z) 27)) j).map (Row.sub (fz0 (nx+1) (l.map I++List.replicate (d.length - l.length) (I 0)) (prog.cellsOf 3)))) 3=some (.cells (gA f (.rs 1 0 n) (.rs 2 0 n) .z) 89):=by
    dsimp only;rw[if_neg oG,up_ne _ _ oG,up_ne _ _ oG,aq];refine congrArg some (iB.cells (X:=fun p=>p=nx+1) (fun d hd=>?_) _ _ _ rfl);simp only[gA,List.mem_cons,List.not_mem_nil,or_false] at hd;rcases hd with rfl|rfl|rfl|rfl|rfl|rfl|rfl|rfl|rfl|rfl|rfl
    .exact .s _
    .exact .s _
    .exact .s _
    .exact .s _
    .exact .sl _ _
    .exact .sl _ _
    .exact .sl _ _
    .exact .sl _ _
    .exact .rs oG
    .exact .rs oG
    .exact .z
   have NJ:fF (fun j=>if j=nx+1 then none else(up (up M (nx+1) (some (.cells (l.map I++List.replicate (d.length - l.length) (I 0)) 3))) 1 (some (.cells ((List.range n).map fun i=>if i=k then .rs (nx+1) 0 l.length else if i<k then az (bq (bw f) i) else .z) 27)) j).map (Row.sub (fz0 (nx+1) (l.map I++List.replicate (d.length - l.length) (I 0)) (prog.cellsOf 3)))) (nx+2) 2 n 27 3 ρ (fun i=>(L0 i).map I):=by
    refine fF.fz ⟨?_,C.jx,fun i hi hl=>?_,C.lt,C.ne,C.inj⟩ (fun _=>.map) oG fun i hi hl=>by have:=zU i hi hl;omega
    .exact af oG (af oG C.row)
    .have:=zU i hi hl;exact af (J i hi hl).1 (af oG (C.jr i hi hl))
   clear aq bX C e1;generalize (fun j=>if j=nx+1 then none else(up (up M (nx+1) (some (.cells (l.map I++List.replicate (d.length - l.length) (I 0)) 3))) 1 (some (.cells ((List.range n).map fun i=>if i=k then .rs (nx+1) 0 l.length else if i<k then az (bq (bw f) i) else .z) 27)) j).map (Row.sub (fz0 (nx+1) (l.map I++List.replicate (d.length - l.length) (I 0)) (prog.cellsOf 3))))=m at N1 N3 NJ ⊢;have aq:=N3;have bX:=N1
   have kd:(ik f n (k+1)).drop k=az l::(ik f n (k+1)).drop (k+1):=by
    rw[List.drop_eq_getElem_cons oP];congr 1;simp[ik,gN]
   refine aL ?_;have nD:l.length<=10:=by omega
   clear kd aq bX hx zO Vn hle zH fM dm tD
   refine ab (dq (α:=Nat×Mem×Nat)
    (fun j=>⟨ay [(1,.pt (aC f)),(6,.rp 3 0),(7,I k),(28,eE f.blocks),(29,I n),(30,I k),(54,az l),(55,I l.length),(56,I j.1)],j.2.1,j.2.2⟩)
    (fun j=>j.1<=l.length/\4<=j.2.2/\j.2.1 1=some (.cells (ik f n (k+1)) 27)/\j.2.1 3=some (.cells (gA f (.rs 1 0 n) (.rs 2 0 n) .z) 89)/\(∃ ρ,fF j.2.1 j.2.2 2 n 27 3 ρ (fun i=>((l.take j.1).foldl (cS k) L0 i).map I)/\(∀ i,i<n->((l.take j.1).foldl (cS k) L0 i).map I≠[]->ρ i≠1/\ρ i≠3))/\∀ i,((l.take j.1).foldl (cS k) L0 i).length<=12*k+j.1) (fun j=>l.length - j.1) (0,m,nx+2)
    (ap eH) ⟨Nat.zero_le _,by dsimp only;omega,N1,N3,⟨ρ,NJ,J⟩,hlen⟩ ?_)
   clear N1 N3 NJ hlen J zU fC;rintro⟨j,m,nx⟩ ⟨hj,fC,U,m3,⟨ρ,C,J⟩,hlen⟩;dsimp only at hj fC U m3 C J hlen ⊢;have aq:=C.row;have bX:=m3;have bZ:=C.jx;have du:∀ t,l[j]? =some t->(l.take (j+1)).foldl (cS k) L0=cS k ((l.take j).foldl (cS k) L0) t:=fun t ht=>kE ht;have m9:j=l.length->(l.take j).foldl (cS k) L0=br f.blocks (k+1):=fun e=>by rw[bL,List.take_of_length_le oG]
   generalize (l.take j).foldl (cS k) L0=L at C J hlen aq du m9;refine SS ?_;refine ab ⟨_,rfl,fun h=>?_,fun h=>?_⟩
   .have u7:j<l.length:=by simpa using h
    have tS:l[j]? =some l[j]:=List.getElem?_eq_getElem u7;have mM:=cZ _ (List.getElem_mem u7);generalize l[j]=t at tS mM;obtain⟨i,rfl⟩:=Int.eq_ofNat_of_zero_le mM.1;have bl:i<n:=mM.2;have hL:=hlen i;have du:(l.take (j+1)).foldl (cS k) L0=up L i (L i++[(k:Int)]):=du _ tS
    have qE:∀ i,((l.take (j+1)).foldl (cS k) L0 i).length<=12*k+(j+1):=fun a=>by
     rw[du];exact CW (t:=(i:Int)) hlen a
    have vF:(fun a=>((l.take (j+1)).foldl (cS k) L0 a).map I)=up (fun a=>(L a).map I) i ((L i++[(k:Int)]).map I):=by rw[du];exact HD
    obtain⟨cs,kd⟩:=GH (ρ:=ρ) (L:=fun i=>(L i).map I) bl
    have Vp:∀ a,a<n->((l.take (j+1)).foldl (cS k) L0 a).map I≠[]->up ρ i (nx+1) a≠1/\up ρ i (nx+1) a≠3:=fun a ha aI=>by
     simp only[up];split
     .omega
     .rename_i vE;refine J a ha ?_;rw[du,up_ne _ _ vE] at aI;exact aI
    refine ws ?_;refine aw ?_;refine ab (iZ X2 ?_);by_cases hz:L i=[]
    .have rk:jc (ρ i) ((L i).map I)=.z:=by rw[hz];rfl
     rw[rk] at kd;refine aL ?_;refine bA ?_;refine bj (by simp[apartT];omega) ?_;refine ag ?_;refine ab (aH (j+1,up (up (up m nx (some (.cells [I k] 3))) (nx+1) (some (.cells [I k] 3))) 2 (some (.cells ((mB ρ (fun i=>(L i).map I) n).set i (.rs (nx+1) 0 1)) 27)),nx+2) (ap eH) ⟨by dsimp only;omega,by dsimp only;omega,?_,?_,⟨up ρ i (nx+1),?_,Vp⟩,qE⟩ oM)
     .dsimp only;exact af oG (af oG (af oG U))
     .dsimp only;exact af oG (af oG (af oG m3))
     dsimp only;rw[vF];refine C.zP bl oS oG oG ?_ ?_ (fun q hq oQ _=>?_)
     .rw[hz];exact up_same _ _ _
     .rw[hz];exact af oG (up_same _ _ _)
     .exact af oG (af oG (af oG rfl))
    .have aI:(L i).map I≠[]:=by simpa using hz
     have rk:jc (ρ i) ((L i).map I)=.rs (ρ i) 0 (L i).length:=by rw[pE aI,List.length_map]
     rw[rk] at kd;have fe:=C.jr i bl aI;have zU:=C.lt i bl aI;have hρ2:=C.ne i bl aI;obtain⟨Vb,hρ3⟩:=J i bl aI;refine aL ?_;refine aV ?_;refine pJ (pA rfl (af oG fe) rfl V.h V.h (nG (up_same _ _ _) rfl) rfl) ak ⟨V.h,rfl,(by first|omega|exact Nat.le_of_ble_eq_true rfl|(simp;done)|(simp;omega)),oC,(by first|rfl|(simp;done)|(simp;omega)),(by unfold maxLen;first|omega|(simp;omega)),(by rw[b3];first|omega|(simp;omega)),(by first|(simp;done)|(simp;omega))⟩ ?_;refine ag ?_;refine bj (by simp[apartT];omega) ?_;refine ag ?_;refine ab (aH (j+1,up (up (up (up m nx (some (.cells [I k] 3))) (ρ i) none) (nx+1) (some (.cells ((L i).map I++[I k]) 3))) 2 (some (.cells ((mB ρ (fun i=>(L i).map I) n).set i (.rs (nx+1) 0 ((L i).length+1))) 27)),nx+2) (ap eH) ⟨by dsimp only;omega,by dsimp only;omega,?_,?_,⟨up ρ i (nx+1),?_,Vp⟩,qE⟩ oM)
     .dsimp only;exact af oG (af oG (af oG (af oG U)))
     .dsimp only;exact af oG (af oG (af oG (af oG m3)))
     dsimp only;rw[vF];refine C.zP bl oS oG oG ?_ ?_ (fun q hq oQ mJ=>?_)
     .rw[List.length_map,List.length_append];exact up_same _ _ _
     .rw[List.map_append];exact af oG (up_same _ _ _)
     .have:=mJ aI;exact af oG (af oG (af oG (af oG rfl)))
   .have aY:¬ j<l.length:=by simpa using h
    have vl:=m9 oG;subst vl;show AOps _ _ _ _ _ _ _ _ _;refine ag ?_;refine ab (aH (k+1,m,nx) (ap eH) ⟨by dsimp only;omega,fC,U,m3,⟨ρ,C,J⟩,fun i=>by have:=hlen i;dsimp only at this ⊢;omega⟩ oM)
  .have aY:¬ k<n:=by simpa using h
   have:k=n:=by omega
   subst this;exact⟨m,nx,ρ,ap eH,fC,U,m3,C,J⟩
 .rintro s ⟨m,nx,ρ,hg,fC,U,m3,C,J⟩;have rh:¬ ∃ i,i<n/\(br f.blocks n i).map I≠[]/\ρ i=2:=fun⟨i,h1,h2,h3⟩=>C.ne i h1 h2 h3;have Vq:¬ ∃ i,i<n/\(br f.blocks n i).map I≠[]/\ρ i=1:=fun⟨i,h1,h2,h3⟩=>(J i h1 h2).1 h3;have Vr:¬ ∃ i,i<n/\(br f.blocks n i).map I≠[]/\ρ i=3:=fun⟨i,h1,h2,h3⟩=>(J i h1 h2).2 h3;have xx:=hg.trans (Gc (l:=[(6,.rp 3 0)]) (ml:=[(1,.cells (ik f n n) 27),(3,.cells (gA f (.rs 1 0 n) (.rs 2 0 n) .z) 89)]) (fun r=>∃ i,i<n/\(br f.blocks n i).map I≠[]/\ρ i=r) C (fun _=>.map) c3 (fun i h1 h2=>⟨i,h1,h2,rfl⟩) rh ⟨rfl,trivial⟩ (fun x hx=>by simp at hx;subst hx;exact .rp Vr) ⟨U,m3,trivial⟩ (fun x hx=>?_))
  rotate_left
  .simp only[List.mem_cons,List.not_mem_nil,or_false] at hx;rcases hx with rfl|rfl
   .refine⟨iB.cells fun d hd=>?_,Vq⟩;obtain⟨i,_,rfl⟩:=List.mem_map.1 hd;split
    .exact .sl _ _
    .exact .z
   .refine⟨iB.cells fun d hd=>?_,Vr⟩;simp only[gA,List.mem_cons,List.not_mem_nil,or_false] at hd;rcases hd with rfl|rfl|rfl|rfl|rfl|rfl|rfl|rfl|rfl|rfl|rfl
    .exact .s _
    .exact .s _
    .exact .s _
    .exact .s _
    .exact .sl _ _
    .exact .sl _ _
    .exact .sl _ _
    .exact .sl _ _
    .exact .rs Vq
    .exact .rs rh
    .exact .z
  have Cw:ik f n n=(bw f).map az:=by
   unfold ik bw;refine List.ext_getElem (by simp[hn]) fun i h1 h2=>?_;have hi:i<n:=by simpa using h1
   simp only[List.getElem_map,List.getElem_range,hi,if_true];exact congrArg az (rJ (List.getElem?_eq_getElem oG))
  have hg2:=xx.trans (kF (i:=1) (e:=27) (cs:=ik f n n) (l:=[(6,.rp 3 0)]) (ml:=[(2,.cells ((List.range n).map fun i=>.sl ((br f.blocks n i).map I) ((br f.blocks n i).map I).length) 27),(3,.cells (gA f (bd (bw f)) (.rs 2 0 n) .z) 89)]) rfl eH ⟨?_,?_,trivial⟩)
  rotate_left
  .refine sW oG rfl (iB.cells (X:=fun p=>p=1) (fun d hd=>?_) _ _ _ rfl);obtain⟨i,_,rfl⟩:=List.mem_map.1 hd;exact .sl _ _
  .show some (Row.cells (List.map _ (gA f (.rs 1 0 n) (.rs 2 0 n) .z)) 89)=_
   have e1:sub (fz0 1 (ik f n n) (prog.cellsOf 27)) (.rs 1 0 n)=bd (bw f):=by
    rw[gv (by rw[sK];simp),Cw,bd,show(bw f).length=n by simp[bw,hn]]
   have e2:sub (fz0 1 (ik f n n) (prog.cellsOf 27)) (.rs 2 0 n)=.rs 2 0 n:=qe oG;simp only[gA,List.map_cons,List.map_nil,e1,e2];rfl
  have hg3:=hg2.trans (kF (i:=2) (e:=27) (cs:=(List.range n).map fun i=>.sl ((br f.blocks n i).map I) ((br f.blocks n i).map I).length) (l:=[(6,.rp 3 0)]) (ml:=[(3,.cells (gA f (bd (bw f)) (bd (cu f.blocks)) .z) 89)]) rfl eH ⟨?_,trivial⟩)
  rotate_left
  .show some (Row.cells (List.map _ (gA f (bd (bw f)) (.rs 2 0 n) .z)) 89)=_
   have e1:sub (fz0 2 ((List.range n).map fun i=>.sl ((br f.blocks n i).map I) ((br f.blocks n i).map I).length) (prog.cellsOf 27)) (.rs 2 0 n)=bd (cu f.blocks):=by
    rw[gv (by rw[sK];simp),GJ,cu,hn]
   simp only[gA,List.map_cons,List.map_nil,e1];rfl
  refine⟨_,hg3,av ?_⟩;have ED:=ED (f:=f) (beh:=bw f) (ahd:=cu f.blocks) (c:=.z) (w:= -1) .z rfl (by simp[bw,hn]) hn (by have:=bf.pos;omega) oG gu cO;have sN:=yp (w:= -1) gu (by have:=bf.pos;omega);have tW:Bd f=c6 f (bw f) (cu f.blocks) (bW (dC (bq (bw f)) n (-1))):=by rw[Bd,hn]
  rw[tW];generalize dC (bq (bw f)) n (-1)=R at ED sN ⊢;refine ag ?_;refine mu (Wc (rds:=[3]) (args:=[.rp 3 0,I (-1)]) (args':=[.pt (c6 f (bw f) (cu f.blocks) .z),I (-1)]) ⟨ab1 (cs:=c6 f (bw f) (cu f.blocks) .z) rfl oS rfl (Gf .z),cC (.s _),trivial⟩ ED (fun d hd=>by obtain⟨x,_,rfl⟩:=List.mem_map.1 hd;rfl)) rfl (by repeat' (first|exact trivial|exact rfl|refine And.intro ?_ ?_)) fun d m' nx' hp=>?_;obtain⟨rfl,rfl,rfl⟩:=hp;have aq:up (a9 [(3,.cells (gA f (bd (bw f)) (bd (cu f.blocks)) .z) 89)]) nx (some (.cells (R.map B) 4)) 3=some (.cells (gA f (bd (bw f)) (bd (cu f.blocks)) .z) 89):=af oG rfl;refine ag ?_;refine cr (gy (d:=.rs _ _ _) (cs':=_) rfl rfl aq rfl rfl) ak (dy V.h V.h (by first|(simp;done)|exact⟨rfl,Nat.le_of_ble_eq_true rfl⟩|(simp;omega)) rfl) ?_;refine ab ?_
  have e0:(fun j=>if j=nx then none else(up (up (a9 [(3,.cells (gA f (bd (bw f)) (bd (cu f.blocks)) .z) 89)]) nx (some (.cells (R.map B) 4))) 3 (some (.cells (gA f (bd (bw f)) (bd (cu f.blocks)) (.rs nx 0 n)) 89)) j).map (Row.sub (fz0 nx (R.map B) (prog.cellsOf 4)))) 3=some (.cells (gA f (bd (bw f)) (bd (cu f.blocks)) (bW R)) 89):=by
   dsimp only;rw[if_neg oG,up_same];show some (Row.cells (List.map _ (gA f (bd (bw f)) (bd (cu f.blocks)) (.rs nx 0 n))) 89)=_
   have e1:sub (fz0 nx (R.map B) (prog.cellsOf 4)) (.rs nx 0 n)=bW R:=by
    rw[gv (by rw[c4];simp[sN]),bW,sN]
   simp only[gA,List.map_cons,List.map_nil,e1];rfl
  refine⟨_,(LM (i:=nx) (e:=4) (cs:=R.map B) (l:=[(6,.rp 3 0)]) (af oG (up_same _ _ _)) ⟨Dr oG,trivial⟩).trans (mR (i:=3) (l:=[(6,.pt (c6 f (bw f) (cu f.blocks) (bW R)))]) e0 ⟨lC,trivial⟩),an ?_⟩;refine SS ?_;refine TY ?_;refine SS ?_;exact ab (yQ rfl rfl rfl)
end Go.Proofs.Tryz.K
end
namespace Go.Argus
open Go Go.Abs
def eJ:List Int:=List.replicate 19 0
def cD(w:List Int)(l:List Int):List Int:=l.foldl (fun w r=>gT w r.toNat) w
def jt(s:List Int)(y:aW):List Int:=cD (fS s (bM y)) (bK y)
structure LS where
 aN:List (List Int)
 out:List (List Int)
 ch:Bool
structure LG where
 beh:Nat->List Int
 blk:Nat->bt
 vK:Nat->Int->List Int
 vL:Nat->Int->Int
def jl(g:LG)(aN:List (List Int))(b:Nat)(s:List Int)(c:Int):List Int:=nV s (fS (cD (aN.getD c.toNat []) (g.vK b c)) (g.vL b c))
def jU(g:LG)(aN:List (List Int))(b:Nat):List Int:=cD ((g.beh b).foldl (jl g aN b) eJ) (bJ (g.blk b).fin)
def pM(g:LG)(b:Nat)(s:List Int):List Int:=(g.blk b).ins.reverse.foldl jt s
def fT(g:LG)(s:LS)(b:Nat):LS:=
 if jU g s.aN b≠s.out.getD b []\/pM g b (jU g s.aN b)≠s.aN.getD b [] then⟨s.aN.set b (pM g b (jU g s.aN b)),s.out.set b (jU g s.aN b),true⟩ else s
def rL(g:LG)(l:List Int)(s:LS):LS:=l.foldl (fun s b=>fT g s b.toNat) ⟨s.aN,s.out,false⟩
def nK(g:LG)(l:List Int):Nat->LS->LS
 |0,s=>s
 |k+1,s=>if(rL g l s).ch=true then nK g l k (rL g l s) else rL g l s
def cM(w:List Int):Prop:=w.length=19/\dk w
theorem cM.with{w:List Int}(h:cM w)(m:Nat):cM (gT w m):=⟨by simp[h.1],h.2.with m⟩
theorem cM.zero:cM eJ:=⟨by simp[eJ],YF 19⟩
theorem cM.fS{w:List Int}(h:cM w)(n:Int):cM (fS w n):=⟨by simp[h.1],h.2.fS n⟩
theorem cM.both{w v:List Int}(h:cM w):cM (nV w v):=⟨by simp[h.1],dk.jh h.2 19⟩
theorem cM.cD{w:List Int}(h:cM w):∀ l:List Int,cM (cD w l)
 |[]=>h
 |r::l=>cM.cD (h.with r.toNat) l
def DW(l:List Int):Prop:=∀ r∈l,0<=r/\r<1216
theorem Gq{w:List Int}(h:cM w){l:List Int}(hl:DW l)(r:Nat):a7 (cD w l) r=true↔a7 w r=true\/(r:Int)∈l:=by
 induction l generalizing w with
 |nil=>simp[cD]
 |cons a l ih=>
  have ha:=hl a oS;have:cD w (a::l)=cD (gT w a.toNat) l:=rfl;rw[this,ih (h.with _) (fun r hr=>hl r (by simp[hr])),MV h.2 (by have:=h.1;omega)];simp only[Bool.or_eq_true,decide_eq_true_eq,List.mem_cons];have:r=a.toNat↔(r:Int)=a:=by omega
  rw[this];constructor
  .rintro((h|h)|h)
   .exact .inl h
   .exact .inr (.inl h)
   .exact .inr (.inr h)
  .rintro(h|h|h)
   .exact .inl (.inl h)
   .exact .inl (.inr h)
   .exact .inr h
def og(r:Nat)(p:Prop):List aW->Prop
 |[]=>p
 |y::t=>(r:Int)∈bK y\/(bM y≠(r:Int)/\og r p t)
structure Ix(y:aW):Prop where
 rd:DW (bK y)
 wr:bM y<1216
theorem cM.jt{s:List Int}(h:cM s)(y:aW):cM (jt s y):=(h.fS _).cD _
theorem Z0{s:List Int}(h:cM s){y:aW}(hy:Ix y)(r:Nat):a7 (jt s y) r=true↔(r:Int)∈bK y\/(bM y≠(r:Int)/\a7 s r=true):=by
 unfold jt;rw[Gq (h.fS _) hy.rd,Mc h.2 (by have:=h.1;have:=hy.wr;omega)];simp only[Bool.and_eq_true,Bool.not_eq_true',decide_eq_false_iff_not];constructor
 .rintro(⟨h1,h2⟩|h1)
  .exact .inr ⟨fun e=>h2 e.symm,h1⟩
  .exact .inl h1
 .rintro(h1|⟨h1,h2⟩)
  .exact .inr h1
  .exact .inl ⟨h2,fun e=>h1 e.symm⟩
theorem cM.AB{s:List Int}(h:cM s):∀ l:List aW,cM (l.foldl Argus.jt s)
 |[]=>h
 |y::l=>cM.AB (h.jt y) l
theorem K2{s:List Int}(h:cM s)(r:Nat):∀ (l:List aW),(∀ y∈l,Ix y)->(a7 (l.reverse.foldl jt s) r=true↔og r (a7 s r=true) l)
 |[],_=>Iff.rfl
 |y::l,hl=>by
  rw[List.reverse_cons,List.foldl_append];show a7 (jt (l.reverse.foldl jt s) y) r=true↔_;rw[Z0 (h.AB _) (hl y oS),K2 h r l fun y hy=>hl y (by simp[hy])];rfl
theorem yq{r:Nat}{p q:Prop}(h:p->q):∀ {l:List aW},og r p l->og r q l
 |[],hp=>h hp
 |y::l,hp=>by
  rcases hp with hp|⟨h1,h2⟩
  .exact .inl hp
  .exact .inr ⟨h1,yq h h2⟩
structure sv(g:LG)(n:Nat):Prop where
 beh:∀ b,∀ c∈g.beh b,0<=c/\c.toNat<n
 ins:∀ b,∀ y∈(g.blk b).ins,Ix y
 vK:∀ b,∀ c∈g.beh b,DW (g.vK b c)
 vL:∀ b,∀ c∈g.beh b,g.vL b c<1216
 Vw:∀ b,DW (bJ (g.blk b).fin)
def za(g:LG)(p:Nat->Prop)(b:Nat)(r:Nat)(c:Int):Prop:=g.vL b c≠(r:Int)/\((r:Int)∈g.vK b c\/p c.toNat)
def oh(g:LG)(p:Nat->Prop)(b:Nat)(r:Nat):Prop:=(r:Int)∈bJ (g.blk b).fin\/∃ c∈g.beh b,za g p b r c
def oi(g:LG)(p:Nat->Prop)(b:Nat)(r:Nat):Prop:=og r (oh g p b r) (g.blk b).ins
structure amp(n:Nat)(s:LS):Prop where
 ln:s.aN.length=n
 lo:s.out.length=n
 aN:∀ w∈s.aN,cM w
 out:∀ w∈s.out,cM w
section
variable{g:LG}{n:Nat}
theorem HI{l:List (List Int)}(hl:∀ w∈l,cM w){k:Nat}(hk:k<l.length):cM (l.getD k []):=by
 rw[List.getD_eq_getElem?_getD,List.getElem?_eq_getElem hk];exact hl _ (List.getElem_mem hk)
theorem Z1(hg:sv g n){aN:List (List Int)}(hi:aN.length=n)(X:∀ w∈aN,cM w){b:Nat}(r:Nat){c:Int}(hc:c∈g.beh b){s:List Int}(C:cM s):
 a7 (jl g aN b s c) r=true↔a7 s r=true\/za g (fun c=>a7 (aN.getD c []) r=true) b r c:=by
 have eR:=hg.beh b c hc;have J:=HI X (show c.toNat<aN.length by omega);have h1:=J.cD (g.vK b c);have h2:=h1.fS (g.vL b c);have ao:=hg.vL b c hc;have U:=hg.vK b c hc;have dF:=h1.1;unfold jl za;rw[ZW C.2 h2.2 C.1 h2.1,Bool.or_eq_true,Mc h1.2 oG];simp only[Bool.and_eq_true,Bool.not_eq_true',decide_eq_false_iff_not];rw[Gq J U];constructor
 .rintro(h|⟨h1,h2⟩)
  .exact .inl h
  .exact .inr ⟨fun e=>h2 e.symm,h1.symm⟩
 .rintro(h|⟨h1,h2⟩)
  .exact .inl h
  .exact .inr ⟨h2.symm,fun e=>h1 e.symm⟩
theorem Hj(hg:sv g n){aN:List (List Int)}(hi:aN.length=n)(U:∀ w∈aN,cM w){b:Nat}(r:Nat)(l:List Int)(hl:∀ c∈l,c∈g.beh b):∀ s,cM s->
 cM (l.foldl (jl g aN b) s)/\(a7 (l.foldl (jl g aN b) s) r=true↔a7 s r=true\/∃ c∈l,za g (fun c=>a7 (aN.getD c []) r=true) b r c):=by
 induction l with
 |nil=>exact fun s C=>⟨C,by simp⟩
 |cons c l ih=>
  intro s C;have hc:=hl c oS;have J:cM (jl g aN b s c):=C.both;have he:=Z1 hg hi U r hc C;rw[List.foldl_cons];generalize jl g aN b s c=s1 at J he;obtain⟨a1,a2⟩:=ih (fun c h=>hl c (by simp[h])) s1 J;refine⟨a1,?_⟩;rw[a2,he];constructor
  .rintro((h|h)|⟨d,h1,h2⟩)
   .exact .inl h
   .exact .inr ⟨c,by simp,h⟩
   .exact .inr ⟨d,by simp[h1],h2⟩
  .rintro(h|⟨d,h1,h2⟩)
   .exact .inl (.inl h)
   .rcases List.mem_cons.1 h1 with e|e
    .exact .inl (.inr (e▸h2))
    .exact .inr ⟨d,e,h2⟩
theorem Hn(hg:sv g n){aN:List (List Int)}(hi:aN.length=n)(C:∀ w∈aN,cM w)(b r:Nat):
 cM (jU g aN b)/\(a7 (jU g aN b) r=true↔oh g (fun c=>a7 (aN.getD c []) r=true) b r):=by
 obtain⟨h1,h2⟩:=Hj hg hi C (b:=b) r (g.beh b) (fun _ h=>h) eJ cM.zero;refine⟨h1.cD _,?_⟩;unfold jU oh;rw[Gq h1 (hg.Vw b),h2];have:a7 eJ r=false:=GX 19 r;rw[this];simp[or_comm]
theorem aaV(hg:sv g n){s:List Int}(C:cM s)(b r:Nat):cM (pM g b s)/\(a7 (pM g b s) r=true↔og r (a7 s r=true) (g.blk b).ins):=
 ⟨C.AB _,K2 C r _ (hg.ins b)⟩
theorem M6(hg:sv g n){aN:List (List Int)}(hi:aN.length=n)(C:∀ w∈aN,cM w)(b r:Nat):
 cM (pM g b (jU g aN b))/\(a7 (pM g b (jU g aN b)) r=true↔oi g (fun c=>a7 (aN.getD c []) r=true) b r):=by
 obtain⟨h1,h2⟩:=Hn hg hi C b r;obtain⟨h3,h4⟩:=aaV hg h1 b r;refine⟨h3,?_⟩;rw[h4];unfold oi;exact⟨yq h2.1,yq h2.2⟩
theorem yr{p q:Nat->Prop}(h:∀ c,p c->q c){b r:Nat}:oh g p b r->oh g q b r:=by
 rintro(h1|⟨c,h1,h2,h3⟩)
 .exact .inl h1
 .exact .inr ⟨c,h1,h2,h3.imp_right (h _)⟩
theorem An{p q:Nat->Prop}(h:∀ c,p c->q c){b r:Nat}:oi g p b r->oi g q b r:=yq (yr h)
end
end Go.Argus
namespace Go.Argus
def qK(w:List Int):Nat:=(List.range 1216).countP fun r=> !a7 w r
theorem LY{p q:Nat->Bool}{l:List Nat}(h:∀ x,q x=true->p x=true){x:Nat}(hx:x∈l)(hp:p x=true)(hq:q x=false):l.countP q<l.countP p:=by
 induction l with
 |nil=>simp at hx
 |cons a l ih=>
  simp only[List.countP_cons];have C:l.countP q<=l.countP p:=List.countP_mono_left fun y _ hy=>h y hy;rcases List.mem_cons.1 hx with e|e
  .subst e;simp[hp,hq];omega
  .have:=ih e;cases J:q a with
   |false=>simp;omega
   |true=>simp[h a J];omega
theorem M7{w v:List Int}(h:∀ r,a7 w r=true->a7 v r=true):qK v<=qK w:=List.countP_mono_left fun r _ hr=>by
 cases C:a7 w r with
 |false=>rfl
 |true=>rw[h r C] at hr;cases hr
theorem M8{w v:List Int}(U:cM w)(hv:cM v)(h:∀ r,a7 w r=true->a7 v r=true)(X:w≠v):qK v<qK w:=by
 have:∃ r,a7 w r≠a7 v r:=by
  apply Classical.byContradiction;intro hc;refine X (Gn U.2 hv.2 (by rw[U.1,hv.1]) fun r=>?_);apply Classical.byContradiction;exact fun hr=>hc ⟨r,hr⟩
 obtain⟨r,hr⟩:=this
 have J:a7 w r=false:=by
  cases e:a7 w r with
  |false=>rfl
  |true=>rw[h r e] at hr;exact absurd e hr
 have C:a7 v r=true:=by
  cases e:a7 v r with
  |true=>rfl
  |false=>rw[J,e] at hr;exact absurd rfl hr
 have ao:r<1216:=by
  apply Classical.byContradiction;intro hc
  have:a7 v r=false:=by
   unfold a7;rw[List.getD_eq_getElem?_getD,List.getElem?_eq_none (by rw[hv.1];omega)];simp
  rw[this] at C;cases C
 refine LY (p:=fun r=> !a7 w r) (q:=fun r=> !a7 v r) (fun x hx=>?_) (x:=r) (by simpa using ao) (by simp[J]) (by simp[C]);cases e:a7 w x with
 |false=>rfl
 |true=>rw[h x e] at hx;cases hx
def Bz(l:List (List Int)):Nat:=(l.map qK).sum
theorem Mg{l:List (List Int)}{k:Nat}{w v:List Int}(h:l[k]? =some w):Bz (l.set k v)+qK w=Bz l+qK v:=by
 unfold Bz;rw[List.map_set];exact Hc (by simp[h])
def rm(s:LS):Nat:=Bz s.aN+Bz s.out
def tX(s:LS):Nat:=rm s+if s.ch=true then 1 else 0
def yc(s:LS)(r:Nat)(c:Nat):Prop:=a7 (s.aN.getD c []) r=true
structure nq(g:LG)(n:Nat)(ord:List Int)(s:LS):Prop where
 ok:amp n s
 mi:∀ b r,a7 (s.aN.getD b []) r=true->oi g (yc s r) b r
 mo:∀ b r,a7 (s.out.getD b []) r=true->oh g (yc s r) b r
 si:∀ b r,a7 (s.aN.getD b []) r=true->(b:Int)∈ord
 so:∀ b r,a7 (s.out.getD b []) r=true->(b:Int)∈ord
 snd:∀ (r:Nat) (Q:Nat->Prop),(∀ b,oi g Q b r->Q b)->∀ b,a7 (s.aN.getD b []) r=true->Q b
theorem yz{l:List (List Int)}{b:Nat}(hb:b<l.length)(v:List Int)(c:Nat):(l.set b v).getD c []=if c=b then v else l.getD c []:=by
 simp only[List.getD_eq_getElem?_getD,List.getElem?_set];by_cases h:b=c
 .subst h;simp[hb]
 .rw[if_neg h,if_neg fun e=>h e.symm]
section
variable{g:LG}{n:Nat}{ord:List Int}
theorem MD(hg:sv g n){s:LS}(h:nq g n ord s){b:Nat}(hb:b<n)(vM:(b:Int)∈ord):nq g n ord (fT g s b)/\tX (fT g s b)<=tX s:=by
 have U:=fun r=>Hn hg h.ok.ln h.ok.aN b r;have C:=fun r=>M6 hg h.ok.ln h.ok.aN b r;have J:b<s.aN.length:=by rw[h.ok.ln];exact hb
 have X:b<s.out.length:=by rw[h.ok.lo];exact hb
 have vu:=HI h.ok.aN J;have hwo:=HI h.ok.out X;have gi:s.aN[b]? =some (s.aN.getD b []):=by rw[List.getD_eq_getElem?_getD,List.getElem?_eq_getElem J];rfl
 have go:s.out[b]? =some (s.out.getD b []):=by rw[List.getD_eq_getElem?_getD,List.getElem?_eq_getElem X];rfl
 unfold fT;generalize hOe:jU g s.aN b=O at U C;generalize hTe:pM g b O=T at C;split
 .rename_i hc;have xZ:∀ r,a7 (s.out.getD b []) r=true->a7 O r=true:=fun r hr=>(U r).2.2 (h.mo b r hr);have vV:∀ r,a7 (s.aN.getD b []) r=true->a7 T r=true:=fun r hr=>(C r).2.2 (h.mi b r hr)
  have zh:∀ r c,yc s r c->yc ⟨s.aN.set b T,s.out.set b O,true⟩ r c:=fun r c hr=>by
   unfold yc at hr ⊢;simp only;rw[yz J];split
   .rename_i e;subst e;exact vV r hr
   .exact hr
  refine⟨⟨⟨by simp[h.ok.ln],by simp[h.ok.lo],fun w hw=>?_,fun w hw=>?_⟩,fun c r hr=>?_,fun c r hr=>?_,fun c r hr=>?_,fun c r hr=>?_,fun r Q hQ c hr=>?_⟩,?_⟩
  .rcases List.mem_or_eq_of_mem_set hw with e|e
   .exact h.ok.aN w e
   .subst e;exact(C 0).1
  .rcases List.mem_or_eq_of_mem_set hw with e|e
   .exact h.ok.out w e
   .subst e;exact(U 0).1
  .simp only at hr;rw[yz J] at hr;split at hr
   .rename_i e;subst e;exact An (zh r) ((C r).2.1 hr)
   .exact An (zh r) (h.mi c r hr)
  .simp only at hr;rw[yz X] at hr;split at hr
   .rename_i e;subst e;exact yr (zh r) ((U r).2.1 hr)
   .exact yr (zh r) (h.mo c r hr)
  .simp only at hr;rw[yz J] at hr;split at hr
   .rename_i e;subst e;exact vM
   .exact h.si c r hr
  .simp only at hr;rw[yz X] at hr;split at hr
   .rename_i e;subst e;exact vM
   .exact h.so c r hr
  .simp only at hr;rw[yz J] at hr;split at hr
   .rename_i e;subst e;exact hQ _ (An (fun d hd=>h.snd r Q hQ d hd) ((C r).2.1 hr))
   .exact h.snd r Q hQ c hr
  .unfold tX rm;simp only;have e1:=Mg (v:=T) gi;have e2:=Mg (v:=O) go;have l1:=M7 xZ;have l2:=M7 vV
   have:qK O<qK (s.out.getD b [])\/qK T<qK (s.aN.getD b []):=by
    rcases hc with hc|hc
    .exact .inl (M8 hwo (U 0).1 xZ fun e=>hc e.symm)
    .exact .inr (M8 vu (C 0).1 vV fun e=>hc e.symm)
   split<;>omega
 .exact⟨h,Nat.le_refl _⟩
theorem Z2{s:LS}{b:Nat}(h:s.ch=true):(fT g s b).ch=true:=by
 unfold fT;split
 .rfl
 .exact h
theorem OW:∀ {l:List Int} {s:LS},s.ch=true->(l.foldl (fun s b=>fT g s b.toNat) s).ch=true
 |[],_,h=>h
 |b::l,s,h=>by rw[List.foldl_cons];exact OW (Z2 h)
theorem M9:∀ {l:List Int} {s:LS},(l.foldl (fun s b=>fT g s b.toNat) s).ch=false->l.foldl (fun s b=>fT g s b.toNat) s=s/\∀ b∈l,jU g s.aN b.toNat=s.out.getD b.toNat []/\pM g b.toNat (jU g s.aN b.toNat)=s.aN.getD b.toNat []
 |[],_,_=>⟨rfl,by simp⟩
 |b::l,s,h=>by
  rw[List.foldl_cons] at h ⊢;by_cases hc:jU g s.aN b.toNat≠s.out.getD b.toNat []\/pM g b.toNat (jU g s.aN b.toNat)≠s.aN.getD b.toNat []
  .have:(fT g s b.toNat).ch=true:=by unfold fT;rw[if_pos hc]
   rw[OW this] at h;cases h
  .have e:fT g s b.toNat=s:=by unfold fT;rw[if_neg hc]
   rw[e] at h ⊢;obtain⟨h1,h2⟩:=M9 h;refine⟨h1,fun c C=>?_⟩;rcases List.mem_cons.1 C with e|e
   .subst e;exact⟨Classical.byContradiction fun e=>hc (.inl e),Classical.byContradiction fun e=>hc (.inr e)⟩
   .exact h2 c e
theorem Ns(hg:sv g n)(C:∀ b∈ord,0<=b/\b.toNat<n){s:LS}(h:nq g n ord s):nq g n ord (rL g ord s)/\tX (rL g ord s)<=rm s:=by
 have h0:nq g n ord ⟨s.aN,s.out,false⟩:=⟨⟨h.ok.ln,h.ok.lo,h.ok.aN,h.ok.out⟩,h.mi,h.mo,h.si,h.so,h.snd⟩
 have:=ym (J:=nq g n ord) (φ:=tX) (f:=fun s b=>fT g s b.toNat) (l:=ord) (fun b hb s U=>MD hg U (C b hb).2 (by have:=(C b hb).1;rwa[Int.toNat_of_nonneg this])) (s:=⟨s.aN,s.out,false⟩) h0;exact⟨this.1,this.2⟩
theorem OX(hg:sv g n)(C:∀ b∈ord,0<=b/\b.toNat<n):∀ (k:Nat) {s:LS},nq g n ord s->rm s<k->nq g n ord (nK g ord k s)/\
 ∀ b∈ord,jU g (nK g ord k s).aN b.toNat=(nK g ord k s).out.getD b.toNat []/\pM g b.toNat (jU g (nK g ord k s).aN b.toNat)=(nK g ord k s).aN.getD b.toNat []
 |0,s,_,hk=>by omega
 |k+1,s,h,hk=>by
  obtain⟨h1,h2⟩:=Ns hg C h;rw[nK];split
  .rename_i hc;refine OX hg C k h1 ?_;unfold tX at h2;rw[if_pos hc] at h2;omega
  .rename_i hc;have hc:(rL g ord s).ch=false:=by simpa using hc
   refine⟨h1,?_⟩;obtain⟨e1,e2⟩:=M9 (g:=g) hc;have e1:rL g ord s=⟨s.aN,s.out,false⟩:=e1;rw[e1];exact e2
def pd(n:Nat):LS:=⟨List.replicate n eJ,List.replicate n eJ,true⟩
theorem YG(n b r:Nat):a7 ((List.replicate n eJ).getD b []) r=false:=by
 rw[List.getD_eq_getElem?_getD,List.getElem?_replicate];split
 .exact GX 19 r
 .simp[a7]
theorem Nr(n:Nat):nq g n ord (pd n):=by
 have C:∀ b r,¬ a7 ((List.replicate n eJ).getD b []) r=true:=fun b r h=>by rw[YG] at h;cases h
 exact⟨⟨by simp[pd],by simp[pd],fun w J=>by rw[List.eq_of_mem_replicate J];exact .zero,fun w J=>by rw[List.eq_of_mem_replicate J];exact .zero⟩,
  fun b r h=>absurd h (C b r),fun b r h=>absurd h (C b r),fun b r h=>absurd h (C b r),fun b r h=>absurd h (C b r),fun r Q _ b h=>absurd h (C b r)⟩
def hZ(g:LG)(n:Nat)(ord:List Int):LS:=nK g ord (rm (pd n)+1) (pd n)
theorem Ai(hg:sv g n)(C:∀ b∈ord,0<=b/\b.toNat<n):nq g n ord (hZ g n ord)/\
 (∀ (b:Nat) r,(b:Int)∈ord->(a7 ((hZ g n ord).aN.getD b []) r=true↔oi g (yc (hZ g n ord) r) b r))/\(∀ (b:Nat) r,(b:Int)∈ord->(a7 ((hZ g n ord).out.getD b []) r=true↔oh g (yc (hZ g n ord) r) b r)):=by
 obtain⟨h1,h2⟩:=OX hg C (rm (pd n)+1) (Nr n) (Nat.lt_succ_self _);unfold hZ;generalize nK g ord (rm (pd n)+1) (pd n)=R at h1 h2;refine⟨h1,fun b r hb=>?_,fun b r hb=>?_⟩
 .obtain⟨e1,e2⟩:=h2 b hb;simp only[Int.toNat_natCast] at e1 e2;rw[<- e2];exact(M6 hg h1.ok.ln h1.ok.aN b r).2
 .obtain⟨e1,e2⟩:=h2 b hb;simp only[Int.toNat_natCast] at e1 e2;rw[<- e1];exact(Hn hg h1.ok.ln h1.ok.aN b r).2
end
end Go.Argus
section
open Go Go.Abs Go.Proofs Go.Argus
namespace Go.Argus
def gh(f:aA)(c:Nat):List Int:=br f.blocks f.blocks.length c
def bY(f:aA)(b:Nat):bt:=f.blocks.getD b iH
def bP(f:aA):LG:=⟨bq (bw f),bY f,fun b c=>jd (gh f c.toNat) b (bY f c.toNat),fun b c=>fG (bY f b).fin c⟩
theorem rK{f:aA}{b:Nat}{x:bt}(h:f.blocks[b]? =some x):bY f b=x:=getD_some h
theorem LN{f:aA}{b:Nat}(h:f.blocks.length<=b):bY f b=iH:=by
 unfold bY;rw[List.getD_eq_getElem?_getD,List.getElem?_eq_none h];rfl
theorem Pw{α:Type}{p:α->Bool}{y:α}:∀ {l:List α},y∈l.takeWhile p->p y=true
 |[],h=>by simp at h
 |a::l,h=>by
  rw[List.takeWhile_cons] at h;split at h
  .rename_i ha;rcases List.mem_cons.1 h with e|e
   .subst e;exact ha
   .exact Pw e
  .simp at h
theorem Zn{x:bt}{y:aW}(h:y∈dH x):y.op=19:=by simpa[bx] using Pw h
theorem X3{x:bt}{y:aW}(h:y∈dH x):y∈x.ins:=(List.takeWhile_prefix bx).subset h
theorem iE.EF{f:aA}(h:iE f){b:Nat}{x:bt}(hx:f.blocks[b]? =some x){y:aW}(hy:y∈dH x):y.args.length=(gh f b).length/\∀ r∈y.args,0<=r/\r<1200:=by
 obtain⟨j,hj⟩:=List.getElem?_of_mem (X3 hy);obtain⟨h1,_,_,_,h2⟩:=(FW h.aj h.aP.1 h.aP.2 (h.right b x hx j y hj)).2 (Zn hy);refine⟨by unfold gh;omega,fun r hr=>?_⟩;have:=(h2 r hr).2;unfold gU at this;have:=h.aj;omega
def ew(f:aA):List Int:=(rY (bq (bw f)) f.blocks.length).reverse
theorem F4{w:List Int}{l:List Int}{j:Nat}{r:Int}(h:l[j]? =some r):cD w (l.take (j+1))=gT (cD w (l.take j)) r.toNat:=by
 unfold cD;exact kE (f:=fun w (r:Int)=>gT w r.toNat) h
def wq(f:aA):List (List Int):=(hZ (bP f) f.blocks.length (ew f)).aN.map fun w=>dZ w f.aj.length
def wg(f:aA):List (List Int):=(hZ (bP f) f.blocks.length (ew f)).out.map fun w=>dZ w f.aj.length
end Go.Argus
namespace Go.Proofs.Tryz.K
set_option maxRecDepth 10000
theorem lg_ok{f:aA}(h:iE f):sv (bP f) f.blocks.length:=by
 have U:∀ b,∀ y∈(bY f b).ins,nU y:=fun b y hy=>by
  cases hx:f.blocks[b]? with
  |none=>rw[LN (List.getElem?_eq_none_iff.1 hx)] at hy;simp[iH] at hy
  |some x=>rw[rK hx] at hy;exact(h.blk x (List.mem_of_getElem? hx)).ins y hy
 have C:∀ b,b<f.blocks.length->y4 (bY f b).fin:=fun b hb=>by
  rw[rK (List.getElem?_eq_getElem hb)];exact(h.ends _ (List.getElem_mem hb)).fin
 refine⟨beh_in h,fun b y hy=>?_,fun b c hc=>?_,fun b c hc=>?_,fun b=>?_⟩
 .have:=U b y hy;exact⟨fun r hr=>by have:=this.rd r hr;omega,by have:=this.wr;omega⟩
 .have J:=beh_in h b c hc;have hx:=List.getElem?_eq_getElem J.2;intro r hr;obtain⟨y,hy,rfl⟩:=List.mem_map.1 hr;rw[rK hx] at hy;obtain⟨e1,e2⟩:=h.EF hx hy;rw[List.getD_eq_getElem?_getD];cases e:y.args[(iJ (fun z=>(b:Int)==z) (gh f c.toNat)).toNat]? with
  |none=>simp
  |some v=>
   have:=e2 v (List.mem_of_getElem? e);simp only[Option.getD_some];omega
 .show fG _ _<1216
  have hb:b<f.blocks.length:=by
   rcases Nat.lt_or_ge b f.blocks.length with g|g
   .exact g
   .have hc:c∈bq (bw f) b:=hc;rw[Ah g] at hc;simp at hc
  have:=(C b hb).wr;show fG (bY f b).fin c<1216;unfold fG;split<;>omega
 .intro r hr;have hr:r∈bJ (bY f b).fin:=hr;rcases Nat.lt_or_ge b f.blocks.length with g|g
  .have:=(C b g).rd r hr;omega
  .rw[LN g] at hr;simp[iH,bJ,aG] at hr
theorem ord_in{f:aA}(h:iE f):∀ b∈ew f,0<=b/\b.toNat<f.blocks.length:=fun b hb=>by
 have C:=h.pos;have hb:=(LO (beh_in h) C).1 (List.mem_reverse.1 hb);refine⟨hb.1,?_⟩;have hl:=yp (w:= -1) (beh_in h) C;rcases Nat.lt_or_ge b.toNat f.blocks.length with g|g
 .exact g
 .rw[List.getD_eq_getElem?_getD,List.getElem?_eq_none oG] at hb;simp at hb
theorem aat{f:aA}(h:iE f):(ew f).length<=1200:=by
 have J:=h.pos;have C:(List.replicate f.blocks.length false).getD 0 false=false:=by rw[List.getD_eq_getElem?_getD,List.getElem?_replicate];split<;>rfl
 have:=(Hi (w:= -1) (beh_in h) f.blocks.length).1 (List.replicate f.blocks.length false,[]) 0 oS J C;have hl:=h.mK;unfold ew rY;simp at this ⊢;omega
end Go.Proofs.Tryz.K
namespace Go.Abs
theorem Ed{i j sz:Nat}{C cs:List D}{e:TypeId}{m:Mem}(J:j≠i)(hm:m j=some (.cells cs e))(h:np cs):(if j=i then none else(m j).map (Row.sub (fz0 i C sz)))=some (.cells cs e):=
 sW J hm (iB.BK (X:=fun p=>p=i) h i C sz rfl)
section
variable{P:Program}{m:Mem}{nx:Nat}
end
end Go.Abs
namespace Go.Proofs.Tryz.K
set_option maxRecDepth 10000
set_option maxHeartbeats 1000000 in
theorem Fk{f:aA}{n:Nat}(h:iE f)(hn:f.blocks.length=n){c:D}(hc:Tr c)(fL:c.one=true):PCall prog 65 [.pt (c6 f (bw f) (cu f.blocks) c)] (.tup [.sl (bk (hZ (bP f) n (ew f)).aN) n,.sl (bk (hZ (bP f) n (ew f)).out) n]):=by
 have pS:=h;have gu:=beh_in h;have cO:=Nq h;have ie:=h.pos;have lO:n<=1200:=hn▸h.mK;have p6:=lg_ok h;have ku:=ord_in h;have ns:=aat h;rw[hn] at gu ie p6 ku;have Cv:=Cv (f:=f) (beh:=bw f) (ahd:=cu f.blocks) hc fL (n:=n) (by simp[bw,hn]) hn ie oG gu cO;have y6:ew f=(rY (bq (bw f)) n).reverse:=by rw[ew,hn]
 refine aX mixed TZ (by rw[aj2];rfl) (.cons (Ar hc) .nil) (.tup (.cons (.sl (HB _)) (.cons (.sl (HB _)) .nil))) ?_;rw[aj3,aj4];refine ws ?_;refine ag ?_;refine er ?_;refine cK ?_;refine ab (mQ Zo ?_);refine SS ?_;refine eQ (yv rfl rfl V.h V.h) ak ⟨by omega,rfl,by omega,by rw[I6];omega,V.h⟩ ?_;refine SS ?_;refine eQ (yv rfl rfl V.h V.h) ak ⟨by omega,rfl,by omega,by rw[I6];omega,V.h⟩ ?_;refine ag ?_;have cY:((f.blocks.length:Nat):Int).toNat=n:=hn;refine bj (by simp[apartT]) (aJ (aK (l:=[(0,.pt (c6 f (bw f) (cu f.blocks) c)),(2,.rs 0 0 n),(3,.rs 1 0 n)]) (ml:=[(0,.cells (bk (List.replicate n eJ)) 100),(1,.cells (bk (List.replicate n eJ)) 100)]) ⟨rfl,?_,?_,trivial⟩ ⟨?_,?_,trivial⟩) (an ?_))
 .exact congrArg (fun k=>D.rs 0 0 k) cY
 .exact congrArg (fun k=>D.rs 1 0 k) cY
 .exact congrArg (fun c=>some (Row.cells c 100)) ((congrArg (fun k=>replD k (eJ.map bc)) cY).trans (GC n eJ))
 .exact congrArg (fun c=>some (Row.cells c 100)) ((congrArg (fun k=>replD k (eJ.map bc)) cY).trans (GC n eJ))
 have pX:(rY (bq (bw f)) n).length<=1200:=by rw[y6,List.length_reverse] at ns;exact ns
 generalize rY (bq (bw f)) n=O at Cv y6 pX;refine SS ?_;refine y0 Cv rfl (by repeat' (first|exact trivial|exact rfl|refine And.intro ?_ ?_)) ?_;refine SS ?_;refine ab (av ?_);refine SS ?_;refine mu (Vl (i:=2) (l:=O) (Nat.lt_succ_self _) rfl rfl oG) rfl (by repeat' (first|exact trivial|exact rfl|refine And.intro ?_ ?_)) fun r m' nx' hp=>?_;obtain⟨rfl,rfl,rfl⟩:=hp;generalize hR:hZ (bP f) n (ew f)=R;have hR:R=nK (bP f) (ew f) (rm (pd n)+1) (pd n):=hR.symm;have xH:nq (bP f) n (ew f) (pd n):=Nr n;have aeY:D.sl (O.reverse.map I) O.length=az (ew f):=by rw[y6,az,List.length_reverse]
 have zX:O.reverse=ew f:=y6.symm;rw[zX];have J6:O.length=(ew f).length:=by rw[y6,List.length_reverse]
 clear zX aeY;generalize ew f=ord at*
 refine ab (aJ (kF (i:=2) (e:=3) (cs:=ord.map I) (l:=[(0,.pt (c6 f (bw f) (cu f.blocks) c)),(2,.rs 0 0 n),(3,.rs 1 0 n),(5,az ord)]) (ml:=[(0,.cells (bk (List.replicate n eJ)) 100),(1,.cells (bk (List.replicate n eJ)) 100)]) rfl ⟨rfl,rfl,rfl,?_,trivial⟩ ⟨Ed oG rfl (Ay _),Ed oG rfl (Ay _),trivial⟩) (aD (av ?_)))
 .refine(gv (by rw[c3];simp[J6])).trans ?_;rw[J6]
 refine SS ?_
 refine ab (bG (fun s=>∃ n',Ghost prog s ⟨ay [(2,.rs 0 0 n),(3,.rs 1 0 n)],a9 [(0,.cells (bk R.aN) 100),(1,.cells (bk R.out) 100)],n'⟩/\nq (bP f) n ord R) (wl (α:=LS×Nat)
  (fun s=>⟨ay [(0,.pt (c6 f (bw f) (cu f.blocks) c)),(2,.rs 0 0 n),(3,.rs 1 0 n),(5,az ord),(6,B s.1.ch)],a9 [(0,.cells (bk s.1.aN) 100),(1,.cells (bk s.1.out) 100)],s.2⟩)
  (fun s=>nq (bP f) n ord s.1/\3<=s.2/\(s.1.ch=true->∃ k,rm s.1<k/\nK (bP f) ord k s.1=R)/\(s.1.ch=false->s.1=R)) (fun s=>2*rm s.1+if s.1.ch=true then 1 else 0) (pd n,3)
  (aK eH eH) ⟨xH,Nat.le_refl _,fun _=>⟨_,Nat.lt_succ_self _,hR.symm⟩,fun h=>by cases h⟩ ?_) ?_)
 .clear hR xH Cv J6 y6;rintro⟨s0,N0⟩ ⟨jq,la,vC,u4⟩;dsimp only at jq la vC u4 ⊢;refine SS ?_;refine ab ⟨_,rfl,fun h0=>?_,fun h=>?_⟩
  .obtain⟨ff,RH,uP⟩:=vC h0;obtain⟨ff,rfl⟩:∃ j,ff=j+1:=⟨ff - 1,by omega⟩
   have uQ:=Ns p6 ku jq;refine ws ?_;refine SS ?_;refine ab (av ?_);refine aw ?_
   refine ab (dq (α:=Nat×Nat)
    (fun k=>⟨ay [(0,.pt (c6 f (bw f) (cu f.blocks) c)),(2,.rs 0 0 n),(3,.rs 1 0 n),(5,az ord),(6,B ((ord.take k.1).foldl (fun s b=>fT (bP f) s b.toNat) ⟨s0.aN,s0.out,false⟩).ch),(38,az ord),(39,I ord.length),(40,I k.1)],a9 [(0,.cells (bk ((ord.take k.1).foldl (fun s b=>fT (bP f) s b.toNat) ⟨s0.aN,s0.out,false⟩).aN) 100),(1,.cells (bk ((ord.take k.1).foldl (fun s b=>fT (bP f) s b.toNat) ⟨s0.aN,s0.out,false⟩).out) 100)],k.2⟩)
    (fun k=>k.1<=ord.length/\3<=k.2) (fun k=>ord.length - k.1) (0,N0) (aK eH eH) ⟨Nat.zero_le _,la⟩ ?_)
   rintro⟨k,N⟩ ⟨hk,hN⟩;dsimp only at hk hN ⊢;have bf:=(ym (J:=nq (bP f) n ord) (φ:=tX) (f:=fun s b=>fT (bP f) s b.toNat) (l:=ord.take k) (fun b hb s hs=>MD p6 hs (ku b (List.mem_of_mem_take hb)).2 (by have:=(ku b (List.mem_of_mem_take hb)).1;rw[Int.toNat_of_nonneg this];exact List.mem_of_mem_take hb)) (s:=⟨s0.aN,s0.out,false⟩) ⟨⟨jq.ok.ln,jq.ok.lo,jq.ok.aN,jq.ok.out⟩,jq.mi,jq.mo,jq.si,jq.so,jq.snd⟩).1;have bL:∀ b,ord[k]? =some b->(ord.take (k+1)).foldl (fun s b=>fT (bP f) s b.toNat) ⟨s0.aN,s0.out,false⟩=fT (bP f) ((ord.take k).foldl (fun s b=>fT (bP f) s b.toNat) ⟨s0.aN,s0.out,false⟩) b.toNat:=fun b hb=>kE (f:=fun s (b:Int)=>fT (bP f) s b.toNat) hb;have fR:k=ord.length->(ord.take k).foldl (fun s b=>fT (bP f) s b.toNat) ⟨s0.aN,s0.out,false⟩=rL (bP f) ord s0:=fun e=>by rw[e,List.take_length];rfl
   generalize (ord.take k).foldl (fun s b=>fT (bP f) s b.toNat) ⟨s0.aN,s0.out,false⟩=u at bf bL fR;refine SS ?_;refine ab ⟨_,rfl,fun h=>?_,fun h=>?_⟩
   .have ao:k<ord.length:=by simpa using h
    have Vs:ord[k]? =some ord[k]:=List.getElem?_eq_getElem ao;have J7:=ku _ (List.getElem_mem ao);generalize ord[k]=b at Vs J7;obtain⟨C,rfl⟩:=Int.eq_ofNat_of_zero_le J7.1;have xM:C<n:=J7.2;have hx:f.blocks[C]? =some f.blocks[C]:=List.getElem?_eq_getElem oG;have bI:f.blocks[C]∈f.blocks:=List.getElem_mem _;generalize f.blocks[C]=x at hx bI;have aO:=bL _ Vs;rw[Int.toNat_natCast] at aO;refine ws ?_;refine aw ?_;refine ab (av ?_);refine bA ?_;refine ag ?_;refine ab (aJ (kF (i:=N) (e:=72) (cs:=cR x) (l:=[(0,.pt (c6 f (bw f) (cu f.blocks) c)),(2,.rs 0 0 n),(3,.rs 1 0 n),(5,az ord),(6,B u.ch),(8,I C),(9,.pt (cR x)),(38,az ord),(39,I ord.length),(40,I k)]) (ml:=[(0,.cells (bk u.aN) 100),(1,.cells (bk u.out) 100)]) (up_same _ _ _) ⟨rfl,qe oG,qe oG,rfl,rfl,rfl,lC,rfl,rfl,rfl,trivial⟩ ⟨Ed oG (af oG (af oG rfl)) (Ay _),Ed oG (af oG (af oG rfl)) (Ay _),trivial⟩) (av ?_));refine SS ?_;have tV:=gu C;have hgb:=rJ hx;have hlb:=cO C;have aoS:(bP f).beh C=bq (bw f) C:=rfl;have uT:(bP f).blk C=x:=rK hx;have hbg:(bw f)[C]? =some (bq (bw f) C):=GM (by simp[bw];omega);have xN:True->jU (bP f) u.aN C=cD ((bq (bw f) C).foldl (jl (bP f) u.aN C) eJ) (bJ x.fin):=fun _=>by rw[jU,uT];rfl
    generalize T0:bq (bw f) C=l at tV hlb hbg xN;have I7:∀ c∈l,c∈(bP f).beh C:=fun c h=>by rw[<- T0] at h;exact h
    refine ab (aJ (gO (l:=[(0,.pt (c6 f (bw f) (cu f.blocks) c)),(2,.rs 0 0 n),(3,.rs 1 0 n),(5,az ord),(6,B u.ch),(8,I C),(9,.pt (cR x)),(10,.rp (N+1) 0),(38,az ord),(39,I ord.length),(40,I k)]) (m':=up (a9 [(0,.cells (bk u.aN) 100),(1,.cells (bk u.out) 100)]) (N+1) (some (.cells (eJ.map bc) 100))) eH rfl) (aD (av ?_)));refine aL ?_
    refine ab (bG (fun s=>∃ m nx,Ghost prog s ⟨ay [(0,.pt (c6 f (bw f) (cu f.blocks) c)),(2,.rs 0 0 n),(3,.rs 1 0 n),(5,az ord),(6,B u.ch),(8,I C),(9,.pt (cR x)),(10,.rp (N+1) 0),(38,az ord),(39,I ord.length),(40,I k)],m,nx⟩/\N+1<nx/\m 0=some (.cells (bk u.aN) 100)/\m 1=some (.cells (bk u.out) 100)/\m (N+1)=some (.cells ((l.foldl (jl (bP f) u.aN C) eJ).map bc) 100)) (dq (α:=Nat×Mem×Nat)
     (fun j=>⟨ay [(0,.pt (c6 f (bw f) (cu f.blocks) c)),(2,.rs 0 0 n),(3,.rs 1 0 n),(5,az ord),(6,B u.ch),(8,I C),(9,.pt (cR x)),(10,.rp (N+1) 0),(38,az ord),(39,I ord.length),(40,I k),(58,az l),(59,I l.length),(60,I j.1)],j.2.1,j.2.2⟩)
     (fun j=>j.1<=l.length/\N+1<j.2.2/\j.2.1 0=some (.cells (bk u.aN) 100)/\j.2.1 1=some (.cells (bk u.out) 100)/\j.2.1 (N+1)=some (.cells (((l.take j.1).foldl (jl (bP f) u.aN C) eJ).map bc) 100)) (fun j=>l.length - j.1) (0,up (a9 [(0,.cells (bk u.aN) 100),(1,.cells (bk u.out) 100)]) (N+1) (some (.cells (eJ.map bc) 100)),N+2)
     (ap eH) ⟨Nat.zero_le _,Nat.lt_succ_self _,by dsimp only;exact af oG rfl,by dsimp only;exact af oG rfl,up_same _ _ _⟩ ?_) ?_)
    .rintro⟨j,m,nx⟩ ⟨hj,fC,X,m1,mq⟩;dsimp only at hj fC X m1 mq ⊢;have gL:=(Hj p6 bf.ok.ln bf.ok.aN (b:=C) 0 (l.take j) (fun c h=>I7 c (List.mem_of_mem_take h)) eJ cM.zero).1;have BR:∀ c,l[j]? =some c->(l.take (j+1)).foldl (jl (bP f) u.aN C) eJ=jl (bP f) u.aN C ((l.take j).foldl (jl (bP f) u.aN C) eJ) c:=fun c hc=>kE hc;have T1:j=l.length->(l.take j).foldl (jl (bP f) u.aN C) eJ=l.foldl (jl (bP f) u.aN C) eJ:=fun e=>by rw[e,List.take_length]
     generalize (l.take j).foldl (jl (bP f) u.aN C) eJ=w at mq gL BR T1;have hw:w.length=19:=gL.1;refine SS ?_;refine ab ⟨_,rfl,fun h=>?_,fun h=>?_⟩
     .have bZ:j<l.length:=by simpa using h
      have Vt:l[j]? =some l[j]:=List.getElem?_eq_getElem bZ;have zY:=List.getElem_mem bZ;generalize l[j]=cc at Vt zY;have dU:=tV cc zY;have cN:=I7 cc zY;have BR:=BR cc Vt;obtain⟨U,rfl⟩:=Int.eq_ofNat_of_zero_le dU.1;have eR:U<n:=dU.2;have Vu:U<u.aN.length:=by rw[bf.ok.ln];exact eR
      have hi:u.aN[U]? =some u.aN[U]:=List.getElem?_eq_getElem Vu;have vu:=bf.ok.aN _ (List.getElem_mem Vu);have nC:u.aN.getD U []=u.aN[U]:=getD_some hi;generalize u.aN[U]=wc at hi vu nC;have aoT:wc.length=19:=vu.1;have xG:∀ w∈u.aN,w.length=19:=fun w hw=>(bf.ok.aN w hw).1;have aq:=X;refine ws ?_;refine aw ?_;refine ab (av ?_);refine ag ?_;refine aB (rM rfl rfl aq V.h V.h) ak ⟨V.h,by omega⟩ ?_;refine aB (cP rfl aq V.h V.h (wK oN oN)) ak (cQ V.h V.h (pD oN oN)) ?_;refine SS ?_;refine cr (fk rfl rfl (up_same _ _ _) (Ax (by first|rfl|exact Nat.le_of_ble_eq_true rfl|(simp;done)|(simp;omega)|omega) (by first|rfl|exact Nat.le_of_ble_eq_true rfl|(simp;done)|(simp;omega)|omega))) ak (we (by first|rfl|exact Nat.le_of_ble_eq_true rfl|(simp;done)|(simp;omega)|omega) (by first|rfl|exact Nat.le_of_ble_eq_true rfl|(simp;done)|(simp;omega)|omega) (by first|rfl|exact ig _|(simp[ig];done)|exact Dn)) ?_;have Fl:f.blocks[U]? =some f.blocks[U]:=List.getElem?_eq_getElem oG;have gY:f.blocks[U]∈f.blocks:=List.getElem_mem _;generalize f.blocks[U]=y at Fl gY
      have J8:(bP f).vK C (U:Int)=jd (gh f U) C y:=by
       show jd (gh f U) C (bY f U)=_;rw[rK Fl]
      have gZ:(bP f).vL C (U:Int)=fG x.fin (U:Int):=by
       show fG (bY f C).fin _=_;rw[rK hx]
      have xI:=p6.vK C (U:Int) cN;have J9:=p6.vL C (U:Int) cN;have hma:(C:Int)∈gh f U:=Ad.2 ⟨C,rfl,by omega,x,hx,(U:Int),by rw[<- hgb];rw[T0];exact zY,by simp⟩
      have J':(cu f.blocks)[U]? =some (gh f U):=by
       unfold gh;exact CY rfl oG
      have Vv:=pS.blk y gY;have EA:=EA (f:=f) (beh:=bw f) (ahd:=cu f.blocks) hc fL (a:=(C:Int)) (b:=(U:Int)) (k:=U) rfl Fl J' Vv.len (fun z hz=>(pS.EF Fl hz).1) hma
      have aj5:(jd (gh f U) C y).length<=100000:=by
       have:=(List.takeWhile_prefix (l:=y.ins) bx).length_le;have:=Vv.len;unfold jd dH;rw[List.length_map];omega
      have q9:jl (bP f) u.aN C w (U:Int)=nV w (fS (cD wc (jd (gh f U) C y)) (fG x.fin (U:Int))):=by
       unfold jl;rw[J8,gZ,Int.toNat_natCast,nC]
      rw[J8] at xI;rw[gZ] at J9;have q9:True->(l.take (j+1)).foldl (jl (bP f) u.aN C) eJ=nV w (fS (cD wc (jd (gh f U) C y)) (fG x.fin (U:Int))):=fun _=>BR.trans q9;clear J8 gZ BR nC;generalize jd (gh f U) C y=gl at EA aj5 q9 xI;refine ab (aJ (gO (l:=[(0,.pt (c6 f (bw f) (cu f.blocks) c)),(2,.rs 0 0 n),(3,.rs 1 0 n),(5,az ord),(6,B u.ch),(8,I C),(9,.pt (cR x)),(10,.rp (N+1) 0),(12,I U),(13,.rp nx 0),(38,az ord),(39,I ord.length),(40,I k),(58,az l),(59,I l.length),(60,I j)]) (m':=up m nx (some (.cells (wc.map bc) 100))) eH (jN _ _ _ _)) (aD (av ?_)));refine aw ?_;refine cl EA ?_;refine ag ?_
      refine ab (bG (fun s=>Ghost prog s ⟨ay [(0,.pt (c6 f (bw f) (cu f.blocks) c)),(2,.rs 0 0 n),(3,.rs 1 0 n),(5,az ord),(6,B u.ch),(8,I C),(9,.pt (cR x)),(10,.rp (N+1) 0),(12,I U),(13,.rp nx 0),(38,az ord),(39,I ord.length),(40,I k),(58,az l),(59,I l.length),(60,I j)],up m nx (some (.cells ((cD wc gl).map bc) 100)),nx+1⟩) (dq (α:=Nat)
       (fun i=>⟨ay [(0,.pt (c6 f (bw f) (cu f.blocks) c)),(2,.rs 0 0 n),(3,.rs 1 0 n),(5,az ord),(6,B u.ch),(8,I C),(9,.pt (cR x)),(10,.rp (N+1) 0),(12,I U),(13,.rp nx 0),(38,az ord),(39,I ord.length),(40,I k),(58,az l),(59,I l.length),(60,I j),(71,az gl),(72,I gl.length),(73,I i)],up m nx (some (.cells ((cD wc (gl.take i)).map bc) 100)),nx+1⟩)
       (fun i=>i<=gl.length) (fun i=>gl.length - i) 0 (ap eH) (Nat.zero_le _) ?_) ?_)
      .intro i hi;have lf:(cD wc (gl.take i)).length=19:=(vu.cD _).1;have iN:∀ r,gl[i]? =some r->cD wc (gl.take (i+1))=gT (cD wc (gl.take i)) r.toNat:=fun r hr=>F4 hr;have vd:i=gl.length->cD wc (gl.take i)=cD wc gl:=fun e=>by rw[e,List.take_length]
       generalize cD wc (gl.take i)=v at lf iN vd;have aq:up m nx (some (.cells (v.map bc) 100)) nx=some (.cells (v.map bc) 100):=up_same _ _ _;refine SS ?_;refine ab ⟨_,rfl,fun h=>?_,fun h=>?_⟩
       .have fK:i<gl.length:=by simpa using h
        have hr:gl[i]? =some gl[i]:=List.getElem?_eq_getElem fK;have mE:=xI _ (List.getElem_mem fK);generalize gl[i]=r at hr mE;have iN:=iN r hr;obtain⟨rn,rfl⟩:=Int.eq_ofNat_of_zero_le mE.1;rw[Int.toNat_natCast] at iN;have qR:=qR (w:=v) (m:=rn) lf oG;have EG:(gT v rn).length=19:=by simp[lf]
        refine ws ?_;refine aw ?_;refine ab (dJ ?_);refine ag ?_;refine cl qR ?_;refine SS ?_;refine ab ?_;refine ag ?_;refine ab (aH (i+1) (gO eH ?_) oG oG);rw[iN,jN]
       .have aY:¬ i<gl.length:=by simpa using h
        rw[vd oG];exact ap eH
      .intro s hg;have lf:(cD wc gl).length=19:=(vu.cD _).1;generalize cD wc gl=v at lf hg q9;have aq:up m nx (some (.cells (v.map bc) 100)) (N+1)=some (.cells (w.map bc) 100):=af oG mq;have bX:up m nx (some (.cells (v.map bc) 100)) nx=some (.cells (v.map bc) 100):=up_same _ _ _;have Ez:=Ez (x:=x.fin) (b:=(U:Int)) (by have:=(pS.ends x bI).wh;omega);have tC:=tC (w:=v) (n:=fG x.fin (U:Int)) lf ⟨by unfold fG;have:=(pS.ends x bI).fin.wr;split<;>omega,J9⟩;have nD:(fS v (fG x.fin (U:Int))).length=19:=by simp[lf]
       generalize fG x.fin (U:Int)=wn at Ez tC nD q9 J9;generalize fS v wn=v1 at tC nD q9;have Ew:=Ew (w:=w) (v:=v1) hw nD;have Cx:(nV w v1).length=19:=by simp[hw]
       generalize nV w v1=v2 at Ew Cx q9;refine⟨_,hg,iZ X4 ?_⟩;refine SS ?_;refine aB (cP rfl bX V.h V.h (gC (by first|rfl|exact Nat.le_of_ble_eq_true rfl|(simp;done)|(simp;omega)|omega))) ak (cQ V.h V.h (by first|rfl|exact Nat.le_of_ble_eq_true rfl|(simp;done)|(simp;omega)|omega)) ?_;refine aw ?_;refine cl Ez ?_;refine cl tC ?_;refine cl Ew ?_;refine SS ?_;refine bj (by simp[apartT]) ?_;refine ag ?_;refine ab (aH (j+1,up (up m nx (some (.cells (v.map bc) 100))) (N+1) (some (.cells (v2.map bc) 100)),nx+1) (ap eH) ⟨by dsimp only;omega,by dsimp only;omega,?_,?_,?_⟩ oM)
       .dsimp only;exact af oG (af oG X)
       .dsimp only;exact af oG (af oG m1)
       .dsimp only;rw[q9 trivial];exact up_same _ _ _
     .have aY:¬ j<l.length:=by simpa using h
      rw[T1 oG] at mq;exact⟨m,nx,ap eH,fC,X,m1,mq⟩
    .rintro s ⟨m,nx,hg,fC,X,m1,mq⟩;have gL:=(Hj p6 bf.ok.ln bf.ok.aN (b:=C) 0 l I7 eJ cM.zero).1;generalize l.foldl (jl (bP f) u.aN C) eJ=w0 at mq gL xN;have wX:=wX (x:=x.fin) (pS.ends x bI).fin.a1 (pS.ends x bI).fin.a2;have aj6:=(pS.blk x bI).rf;have cF:=p6.Vw C;rw[uT] at cF;generalize bJ x.fin=rl at wX aj6 cF xN;refine⟨_,hg,aD (av ?_)⟩;refine ag ?_;refine cl wX ?_;refine ag ?_
     refine ab (bG (fun s=>Ghost prog s ⟨ay [(0,.pt (c6 f (bw f) (cu f.blocks) c)),(2,.rs 0 0 n),(3,.rs 1 0 n),(5,az ord),(6,B u.ch),(8,I C),(9,.pt (cR x)),(10,.rp (N+1) 0),(38,az ord),(39,I ord.length),(40,I k)],up m (N+1) (some (.cells ((cD w0 rl).map bc) 100)),nx⟩) (dq (α:=Nat)
      (fun i=>⟨ay [(0,.pt (c6 f (bw f) (cu f.blocks) c)),(2,.rs 0 0 n),(3,.rs 1 0 n),(5,az ord),(6,B u.ch),(8,I C),(9,.pt (cR x)),(10,.rp (N+1) 0),(38,az ord),(39,I ord.length),(40,I k),(92,az rl),(93,I rl.length),(94,I i)],up m (N+1) (some (.cells ((cD w0 (rl.take i)).map bc) 100)),nx⟩)
      (fun i=>i<=rl.length) (fun i=>rl.length - i) 0 (gO eH ?_) (Nat.zero_le _) ?_) ?_)
     .funext p;simp only[up];split
      .rename_i e;subst e;exact mq
      .rfl
     .intro i hi;have lf:(cD w0 (rl.take i)).length=19:=(gL.cD _).1;have iN:∀ r,rl[i]? =some r->cD w0 (rl.take (i+1))=gT (cD w0 (rl.take i)) r.toNat:=fun r hr=>F4 hr;have vd:i=rl.length->cD w0 (rl.take i)=cD w0 rl:=fun e=>by rw[e,List.take_length]
      generalize cD w0 (rl.take i)=v at lf iN vd;have aq:up m (N+1) (some (.cells (v.map bc) 100)) (N+1)=some (.cells (v.map bc) 100):=up_same _ _ _;refine SS ?_;refine ab ⟨_,rfl,fun h=>?_,fun h=>?_⟩
      .have fK:i<rl.length:=by simpa using h
       have hr:rl[i]? =some rl[i]:=List.getElem?_eq_getElem fK;have mE:=cF _ (List.getElem_mem fK);generalize rl[i]=r at hr mE;have iN:True->_:=fun _=>iN r hr;obtain⟨rn,rfl⟩:=Int.eq_ofNat_of_zero_le mE.1;rw[Int.toNat_natCast] at iN;have qR:=qR (w:=v) (m:=rn) lf oG;have EG:(gT v rn).length=19:=by simp[lf]
       generalize gT v rn=v2 at qR EG iN;refine ws ?_;refine aw ?_;refine ab (dJ ?_);refine ag ?_;refine cl qR ?_;refine SS ?_;refine ab ?_;refine ag ?_;refine ab (aH (i+1) (gO eH ?_) oG oG);rw[iN trivial,jN]
      .have aY:¬ i<rl.length:=by simpa using h
       rw[vd oG];exact ap eH
     .intro s hg;have xO:=gL.cD rl;have Fm:True->pM (bP f) C (jU (bP f) u.aN C)=x.ins.reverse.foldl jt (cD w0 rl):=fun _=>by rw[pM,uT,xN trivial]
      generalize cD w0 rl=v at hg xO xN Fm;have lf:v.length=19:=xO.1;have aq:up m (N+1) (some (.cells (v.map bc) 100)) (N+1)=some (.cells (v.map bc) 100):=up_same _ _ _;have X:up m (N+1) (some (.cells (v.map bc) 100)) 0=some (.cells (bk u.aN) 100):=af oG X;have m1:up m (N+1) (some (.cells (v.map bc) 100)) 1=some (.cells (bk u.out) 100):=af oG m1;refine⟨_,hg,av ?_⟩;clear hg;generalize up m (N+1) (some (.cells (v.map bc) 100))=m at aq X m1;refine ag ?_;refine cr (fk rfl rfl (up_same _ _ _) (Ax (by first|rfl|exact Nat.le_of_ble_eq_true rfl|(simp;done)|(simp;omega)|omega) (by first|rfl|exact Nat.le_of_ble_eq_true rfl|(simp;done)|(simp;omega)|omega))) ak (we (by first|rfl|exact Nat.le_of_ble_eq_true rfl|(simp;done)|(simp;omega)|omega) (by first|rfl|exact Nat.le_of_ble_eq_true rfl|(simp;done)|(simp;omega)|omega) (by first|rfl|exact ig _|(simp[ig];done)|exact Dn)) ?_;have Ka:up m nx (some (.cells (v.map bc) 100)) nx=some (.cells (v.map bc) 100):=up_same _ _ _;have Cy:up m nx (some (.cells (v.map bc) 100)) (N+1)=some (.cells (v.map bc) 100):=af oG aq;have X:up m nx (some (.cells (v.map bc) 100)) 0=some (.cells (bk u.aN) 100):=af oG X;have m1:up m nx (some (.cells (v.map bc) 100)) 1=some (.cells (bk u.out) 100):=af oG m1;refine ab (aJ (gO (l:=[(0,.pt (c6 f (bw f) (cu f.blocks) c)),(2,.rs 0 0 n),(3,.rs 1 0 n),(5,az ord),(6,B u.ch),(8,I C),(9,.pt (cR x)),(10,.rp (N+1) 0),(18,.rp nx 0),(38,az ord),(39,I ord.length),(40,I k)]) (m':=up m nx (some (.cells (v.map bc) 100))) eH (jN _ _ _ _)) ?_);clear aq;generalize up m nx (some (.cells (v.map bc) 100))=m at Ka Cy X m1;obtain⟨T,hT⟩:∃ T,T=nx:=⟨_,rfl⟩
      rw[<- hT] at Ka fC ⊢;clear hT;have I4:=I4 (l:=x.ins);refine dB (fun s=>∃ m' nx',Ghost prog s ⟨ay [(0,.pt (c6 f (bw f) (cu f.blocks) c)),(2,.rs 0 0 n),(3,.rs 1 0 n),(5,az ord),(6,B u.ch),(8,I C),(9,.pt (cR x)),(10,.rp (N+1) 0),(18,.rp T 0),(38,az ord),(39,I ord.length),(40,I k)],m',nx'⟩/\m' 0=some (.cells (bk u.aN) 100)/\m' 1=some (.cells (bk u.out) 100)/\m' (N+1)=some (.cells (v.map bc) 100)/\m' T=some (.cells ((x.ins.reverse.foldl jt v).map bc) 100)/\T<nx') (an ?_) fun s hs=>?_
      .refine ag ?_;refine cl I4 ?_;refine ab (nL ?_);refine⟨rfl,trivial,176,[],[.pt [dt x.ins]],s9 x.ins,fun i m' nx'=>m' 0=some (.cells (bk u.aN) 100)/\m' 1=some (.cells (bk u.out) 100)/\m' (N+1)=some (.cells (v.map bc) 100)/\m' T=some (.cells (((x.ins.reverse.take i).foldl jt v).map bc) 100)/\T<nx',rfl,TQ (pS.blk x bI).len,?_,⟨X,m1,Cy,Ka,Nat.lt_succ_self _⟩,?_,?_⟩
       .intro y hy;obtain⟨i,_,rfl⟩:=List.mem_map.1 hy;exact⟨rfl,.cons (.s _) (.cons (.agg (mW _)) .nil)⟩
       .rintro i m nx y hy ⟨X,m1,mq,mT,I8⟩;have fK:i<x.ins.length:=by rw[<- Gg];exact(List.getElem?_eq_some_iff.1 hy).1
        have hz:x.ins[x.ins.length - 1 - i]? =some x.ins[x.ins.length - 1 - i]:=List.getElem?_eq_getElem oG;have Fo:x.ins[x.ins.length - 1 - i]∈x.ins:=List.getElem_mem _;generalize x.ins[x.ins.length - 1 - i]=z at hz Fo;rw[LJ fK hz] at hy;cases hy;have hrz:x.ins.reverse[i]? =some z:=by rw[List.getElem?_reverse fK];exact hz
        have q8:True->(x.ins.reverse.take (i+1)).foldl jt v=jt ((x.ins.reverse.take i).foldl jt v) z:=fun _=>kE hrz;have tY:cM ((x.ins.reverse.take i).foldl jt v):=xO.AB _;generalize (x.ins.reverse.take i).foldl jt v=w1 at mT tY q8;have lQ:w1.length=19:=tY.1;have Kb:=(p6.ins C) z (by rw[uT];exact Fo);have qZ:=(pS.blk x bI).ins z Fo;have sJ:=(pS.blk x bI).rl z Fo;have tx:=tx (x:=z);have sr:=sr (x:=z) qZ.ar;have tC:=tC (w:=w1) (n:=bM z) lQ ⟨by have:=qZ.wr;omega,Kb.wr⟩;have nD:(fS w1 (bM z)).length=19:=by simp[lQ]
        have zZ:=tY.fS (bM z);have oE:=Kb.rd;have q8:True->(x.ins.reverse.take (i+1)).foldl jt v=cD (fS w1 (bM z)) (bK z):=q8;generalize fS w1 (bM z)=w2 at tC nD q8 zZ;generalize bK z=rl at sr sJ q8 oE;refine fI ?_;refine ag ?_;have aq:=mT;refine ab (show AW _ _ _ _ _ _ from nL (dd X5 ?_));refine aB (cP rfl (af oG (af oG aq)) V.h V.h (gC (by first|rfl|exact Nat.le_of_ble_eq_true rfl|(simp;done)|(simp;omega)|omega))) ak (cQ V.h V.h (by first|rfl|exact Nat.le_of_ble_eq_true rfl|(simp;done)|(simp;omega)|omega)) ?_;refine SS ?_;refine cl tx ?_;refine cl tC ?_;refine cr (fk rfl rfl (af oG (af oG aq)) (Ax (by first|rfl|exact Nat.le_of_ble_eq_true rfl|(simp;done)|(simp;omega)|omega) (by first|rfl|exact Nat.le_of_ble_eq_true rfl|(simp;done)|(simp;omega)|omega))) ak (we (by first|rfl|exact Nat.le_of_ble_eq_true rfl|(simp;done)|(simp;omega)|omega) (by first|rfl|exact Nat.le_of_ble_eq_true rfl|(simp;done)|(simp;omega)|omega) (by first|rfl|exact ig _|(simp[ig];done)|exact Dn)) ?_;refine bj (by simp[apartT]) (av ?_);clear aq;refine aB (cP (vs:=a8 _) rfl (af oG (up_same _ _ _)) V.h V.h rfl) ak (cQ V.h V.h (by first|(simp;done)|omega|exact Nat.le_of_ble_eq_true rfl)) ?_;refine cl sr ?_;refine ag ?_
        refine ab (dq (α:=Nat×Mem) (fun j=>⟨ay [(18,.rp T 0),(113,az rl),(114,I rl.length),(115,I j.1)],j.2,nx+1⟩)
         (fun j=>j.1<=rl.length/\j.2 0=some (.cells (bk u.aN) 100)/\j.2 1=some (.cells (bk u.out) 100)/\j.2 (N+1)=some (.cells (v.map bc) 100)/\j.2 T=some (.cells ((cD w2 (rl.take j.1)).map bc) 100)) (fun j=>rl.length - j.1) (0,up (up m nx (some (.cells (a8 z) 66))) T (some (.cells (w2.map bc) 100)))
         (gO eH (by rw[jN])) ⟨Nat.zero_le _,by dsimp only;exact af oG (af oG X),by dsimp only;exact af oG (af oG m1),by dsimp only;exact af oG (af oG mq),by dsimp only;exact up_same _ _ _⟩ ?_)
        clear X m1 mq mT;rintro⟨j,m⟩ ⟨hj,X,m1,mq,mT⟩;dsimp only at hj X m1 mq mT ⊢;have lf:(cD w2 (rl.take j)).length=19:=(zZ.cD _).1;have iN:∀ r,rl[j]? =some r->cD w2 (rl.take (j+1))=gT (cD w2 (rl.take j)) r.toNat:=fun r hr=>F4 hr;have vd:j=rl.length->cD w2 (rl.take j)=cD w2 rl:=fun e=>by rw[e,List.take_length]
        generalize cD w2 (rl.take j)=w3 at lf iN vd mT;have aq:=mT;refine SS ?_;refine ab ⟨_,rfl,fun h=>?_,fun h=>?_⟩
        .have bZ:j<rl.length:=by simpa using h
         have hr:rl[j]? =some rl[j]:=List.getElem?_eq_getElem bZ;have mE:=oE _ (List.getElem_mem bZ);generalize rl[j]=r at hr mE;have iN:True->_:=fun _=>iN r hr;obtain⟨rn,rfl⟩:=Int.eq_ofNat_of_zero_le mE.1;rw[Int.toNat_natCast] at iN;have qR:=qR (w:=w3) (m:=rn) lf oG;have EG:(gT w3 rn).length=19:=by simp[lf]
         generalize gT w3 rn=w4 at qR EG iN;refine ws ?_;refine aw ?_;refine ab (dJ ?_);refine ag ?_;refine cl qR ?_;refine SS ?_;refine ab ?_;refine ag ?_;refine ab (aH (j+1,up m T (some (.cells (w4.map bc) 100))) (ap eH) ⟨by dsimp only;omega,by dsimp only;exact af oG X,by dsimp only;exact af oG m1,by dsimp only;exact af oG mq,?_⟩ oM);dsimp only;rw[iN trivial];exact up_same _ _ _
        .have aY:¬ j<rl.length:=by simpa using h
         refine⟨X,m1,mq,?_,by dsimp only;omega⟩;rw[q8 trivial, <- vd oG];exact mT
       .rintro m nx ⟨X,m1,mq,mT,I8⟩;refine⟨m,nx,ap eH,X,m1,mq,?_,I8⟩;rw[mT,Gg,List.take_of_length_le oS]
      .obtain⟨m2,fW,hg,X,m1,mq,mT,I8⟩:=hs;have pW:=xO.AB x.ins.reverse;generalize x.ins.reverse.foldl jt v=tt at mT pW Fm;have aoU:tt.length=19:=pW.1;have xP:C<u.aN.length:=by rw[bf.ok.ln];exact xM
       have vM:C<u.out.length:=by rw[bf.ok.lo];exact xM
       have Cz:u.aN[C]? =some u.aN[C]:=List.getElem?_eq_getElem xP;have CA:u.out[C]? =some u.out[C]:=List.getElem?_eq_getElem vM;have aj7:u.aN[C].length=19:=(bf.ok.aN _ (List.getElem_mem xP)).1;have aj8:u.out[C].length=19:=(bf.ok.out _ (List.getElem_mem vM)).1;have I9:True->u.aN.getD C []=u.aN[C]:=fun _=>getD_some Cz;have Ja:True->u.out.getD C []=u.out[C]:=fun _=>getD_some CA;have aj9:∀ w∈u.aN,w.length=19:=fun w hw=>(bf.ok.aN w hw).1;have iN:∀ w∈u.out,w.length=19:=fun w hw=>(bf.ok.out w hw).1;generalize u.aN[C]=wi at Cz aj7 I9;generalize u.out[C]=wo at CA aj8 Ja
       have Fp:fT (bP f) u C=if v≠wo\/tt≠wi then⟨u.aN.set C tt,u.out.set C v,true⟩ else u:=by
        unfold fT;rw[Fm trivial,xN trivial,I9 trivial,Ja trivial]
       have aO:True->_:=fun _=>aO.trans Fp;clear Fp xN Fm I9 Ja;have aq:=mq;have bX:=mT;have fe:=X;have Bu:=m1;refine⟨_,hg,dd X6 ?_⟩;clear hg;refine aw ?_;refine aB (rM rfl rfl Bu V.h V.h) ak ⟨V.h,by omega⟩ ?_;refine aB (cP rfl Bu V.h V.h (wK oN oN)) ak (cQ V.h V.h (pD oN oN)) ?_;refine aB (RE rfl rfl (by first|assumption|(simp;omega)|omega)) ak (RF (by first|assumption|(simp;omega)|omega)) ?_;refine SS ?_;refine bm rfl rfl (cP rfl bX V.h V.h (gC (by first|rfl|exact Nat.le_of_ble_eq_true rfl|(simp;done)|(simp;omega)|omega))) (fun hc=>⟨ak,(cQ V.h V.h (by first|rfl|exact Nat.le_of_ble_eq_true rfl|(simp;done)|(simp;omega)|omega))⟩) ?_;refine ag ?_;refine bm rfl rfl (rM rfl rfl fe V.h V.h) (fun hc=>⟨ak,⟨V.h,by omega⟩⟩) ?_;refine bm rfl rfl (cP rfl fe V.h V.h (wK oN oN)) (fun hc=>⟨ak,(cQ V.h V.h (pD oN oN))⟩) ?_;refine bm rfl rfl (RE rfl rfl (by first|assumption|(simp;omega)|omega)) (fun hc=>⟨ak,(RF (by first|assumption|(simp;omega)|omega))⟩) ?_;refine SS ?_;refine bj (by simp[apartT]) (au rfl (fun hp=>?_) fun hp=>?_)
       .have aI:v≠wo\/tt≠wi:=by
         revert hp;by_cases e1:v=wo<;>by_cases e2:tt=wi<;>simp[e1,e2]
        have aO:True->_:=fun _=>(aO trivial).trans (if_pos aI);have pT:v.length=19:=lf;refine iZ X7 ?_;refine aF ?_;refine aB (cP rfl bX V.h V.h (gC (by first|rfl|exact Nat.le_of_ble_eq_true rfl|(simp;done)|(simp;omega)|omega))) ak (cQ V.h V.h (by first|rfl|exact Nat.le_of_ble_eq_true rfl|(simp;done)|(simp;omega)|omega)) ?_;refine SS ?_;refine aB (rM rfl rfl fe V.h V.h) ak ⟨V.h,by omega⟩ ?_;refine cr (fk rfl rfl fe (D9 oC oN oN (by first|assumption|(simp;omega)|(simp;done)))) ak (we (by first|(simp;omega)|(simp;done)) (pD oN oN) (ig _)) ?_;refine aB (rM rfl rfl Bu V.h V.h) ak ⟨V.h,by omega⟩ ?_;refine cr (fk rfl rfl Bu (D9 oC oN oN (by first|assumption|(simp;omega)|(simp;done)))) ak (we (by first|(simp;omega)|(simp;done)) (pD oN oN) (ig _)) ?_;refine SS ?_;refine bj (by simp[apartT]) ?_;refine ag ?_;refine ab (aH (k+1,fW) (aK ⟨rfl,rfl,rfl,rfl,?_,rfl,rfl,rfl,trivial⟩ ⟨?_,?_,trivial⟩) ⟨by dsimp only;omega,by dsimp only;omega⟩ oM)
        .dsimp only;rw[aO trivial];rfl
        .dsimp only;rw[aO trivial];exact af oG (up_same _ _ _)
        .dsimp only;rw[aO trivial];exact up_same _ _ _
       .have aI:¬ (v≠wo\/tt≠wi):=by
         revert hp;by_cases e1:v=wo<;>by_cases e2:tt=wi<;>simp[e1,e2]
        have aO:True->_:=fun _=>(aO trivial).trans (if_neg aI);refine b8 ?_;refine ag ?_;refine ab (aH (k+1,fW) (aK ⟨rfl,rfl,rfl,rfl,?_,rfl,rfl,rfl,trivial⟩ ⟨?_,?_,trivial⟩) ⟨by dsimp only;omega,by dsimp only;omega⟩ oM)
        .dsimp only;rw[aO trivial];rfl
        .dsimp only;rw[aO trivial];exact X
        .dsimp only;rw[aO trivial];exact m1
   .have aY:¬ k<ord.length:=by simpa using h
    have hl:=fR oG;subst hl;refine aH (rL (bP f) ord s0,N) (aK eH eH) ⟨bf,hN,fun hc=>?_,fun hc=>?_⟩ ?_
    .refine⟨ff,?_,?_⟩
     .have:=uQ.2;unfold tX at this;show rm (rL (bP f) ord s0)<ff;rw[if_pos hc] at this;omega
     .dsimp only at hc ⊢;rw[<- uP,nK,if_pos hc]
    .dsimp only at hc ⊢;rw[<- uP,nK,if_neg (by simp[hc])]
    .have:=uQ.2;unfold tX at this;dsimp only;rw[if_pos h0];split at this<;>rename_i hc
     .rw[if_pos hc];omega
     .rw[if_neg hc];omega
  .have Cn:=u4 h;subst Cn;exact⟨N0,aK eH eH,jq⟩
 .rintro s ⟨n',hg,u6⟩;refine⟨_,hg,av ?_⟩;refine aF ?_;refine ab (aJ (bp [(0,bk R.aN,100),(1,bk R.out,100)] ⟨rfl,DF oG rfl (Ay _),trivial⟩ (l:=[(2,.sl (bk R.aN) n),(3,.sl (bk R.out) n)]) ⟨?_,?_,trivial⟩) (yQ rfl rfl rfl))
  .show sub (fz0 1 (bk R.out) (prog.cellsOf 100)) (sub (fz0 0 (bk R.aN) (prog.cellsOf 100)) (D.rs 0 0 n))=_;rw[gv (by rw[u9,Ag (fun w hw=>(u6.ok.aN w hw).1),u6.ok.ln]),HC]
  .show sub (fz0 1 (bk R.out) (prog.cellsOf 100)) (sub (fz0 0 (bk R.aN) (prog.cellsOf 100)) (D.rs 1 0 n))=_;rw[qe oG,gv (by rw[u9,Ag (fun w hw=>(u6.ok.out w hw).1),u6.ok.lo])]
theorem aau{f:aA}(C:fN f≠0):PCall prog 51 [.agg (aC f)] (.tup [.s (.pointer none),I (fN f)]):=by
 have vI:=vI (f:=f);generalize fN f=e at vI C;have lG:(e !=0)=true:=by simpa using C
 refine aX mixed I5 (by rw[TV];rfl) (.cons (.agg (gz f)) .nil) (.tup (.cons (.s _) (.cons (.s _) .nil))) ?_;rw[TW,TX];refine av ?_;refine aw ?_;refine ab (aJ (bp [(0,aC f,26)] eH (l:=[(1,.pt (aC f))]) eH) (aD (an ?_)));refine SS ?_;refine cl vI ?_;refine SS ?_;refine ab (aD (an ?_));refine ag ?_;refine ab (bC rfl (fun _=>?_) fun h=>oH);refine aD (an ?_);refine aw ?_;exact ab (dx (yQ rfl rfl rfl))
theorem aav{f:aA}(C:fN f≠0):PCall prog 23 [.agg (aC f)] (.tup [.z,.z,I (fN f)]):=by
 have J:=aau C;generalize fN f=e at J C;have lG:(e !=0)=true:=by simpa using C
 refine aX mixed Jb (by rw[T2];rfl) (.cons (.agg (gz f)) .nil) (.tup (.cons .z (.cons .z (.cons (.s _) .nil)))) ?_;rw[T3,T4];refine av ?_;refine aF ?_;refine ab (aJ (bp [(0,aC f,26)] eH (l:=[(1,.pt (aC f))]) eH) (an ?_));refine SS ?_;refine cl J ?_;refine SS ?_;refine aj' ?_;refine aw ?_;refine ab (aD (an ?_));refine ag ?_;refine ab (bC rfl (fun _=>?_) fun h=>oH);refine aD (an ?_);refine aF ?_;exact ab (dx (DP rfl rfl rfl rfl))
set_option maxHeartbeats 1000000 in
theorem abp{f:aA}(dL:fN f=0):PCall prog 23 [.agg (aC f)] (.tup [bd (wq f),bd (wg f),I 0]):=by
 have Fq:=Pv dL
 have hf:hC f=true:=by
  unfold fN at dL;split at dL
  .assumption
  .cases dL
 have bf:=yS hf;obtain⟨n,hn⟩:∃ n,f.blocks.length=n:=⟨_,rfl⟩
 have lO:n<=1200:=hn▸bf.mK;have Vx:=bf.aj;have Fk:=Fk (f:=f) (n:=n) bf hn (c:=bW (dC (bq (bw f)) f.blocks.length (-1))) (.sl (.map fun _=>.s _)) rfl
 change PCall _ _ [.pt (Bd f)] _ at Fk
 have p6:=lg_ok bf;have ku:=ord_in bf;rw[hn] at p6 ku;have hI:=(Ai p6 ku).1;have Vy:wq f=(hZ (bP f) n (ew f)).aN.map fun w=>dZ w f.aj.length:=by rw[wq,hn]
 have Vz:wg f=(hZ (bP f) n (ew f)).out.map fun w=>dZ w f.aj.length:=by rw[wg,hn]
 have hA:=hI.ok.aN;have hB:=hI.ok.out;have vG:=hI.ok.ln;have hBl:=hI.ok.lo;clear hI;rw[Vy,Vz];clear Vy Vz;generalize (hZ (bP f) n (ew f)).aN=A at*
 generalize (hZ (bP f) n (ew f)).out=C at*
 refine aX mixed Jb (by rw[T2];rfl) (.cons (.agg (gz f)) .nil) (.tup (.cons (nI _) (.cons (nI _) (.cons (.s _) .nil)))) ?_;rw[T3,T4];refine av ?_;refine aF ?_;refine ab (aJ (bp [(0,aC f,26)] eH (l:=[(1,.pt (aC f)),(2,.z),(3,.z),(4,I 0)]) eH) (an ?_));refine SS ?_;refine cl Fq ?_;refine SS ?_;refine aka ?_;refine SS ?_;refine TY ?_;refine SS ?_;refine ab (aD (an ?_));refine ag ?_;refine ab (bC rfl (fun h=>oH) fun _=>cx (av ?_));refine SS ?_;refine cl Fk ?_;refine aV ?_;refine ab ⟨_,(Ghost.nilrow _ _ _ 2 27 rfl).trans ((Ghost.nilrow _ _ _ 3 27 rfl).trans (aK (l:=[(1,.pt (aC f)),(2,.rs 1 0 0),(3,.rs 2 0 0),(4,I 0),(6,.sl (bk A) n),(7,.sl (bk C) n)]) (ml:=[(1,.cells [] 27),(2,.cells [] 27)]) eH eH)),aD (av ?_)⟩;refine aw ?_
 refine ab (bG (fun s=>∃ J U m nx,Ghost prog s ⟨ay [(2,.rs J 0 n),(3,.rs U 0 n),(4,I 0)],m,nx⟩/\J≠U/\m J=some (.cells ((A.map fun w=>dZ w f.aj.length).map az) 27)/\m U=some (.cells ((C.map fun w=>dZ w f.aj.length).map az) 27)) (dq (α:=Nat×Nat×Nat×Mem×Nat)
  (fun s=>⟨ay [(1,.pt (aC f)),(2,.rs s.2.1 0 s.1),(3,.rs s.2.2.1 0 s.1),(4,I 0),(6,.sl (bk A) n),(7,.sl (bk C) n),(23,I n),(24,I s.1)],s.2.2.2.1,s.2.2.2.2⟩)
  (fun s=>s.1<=n/\s.2.1<s.2.2.2.2/\s.2.2.1<s.2.2.2.2/\s.2.1≠s.2.2.1/\s.2.2.2.1 s.2.1=some (.cells (((A.take s.1).map fun w=>dZ w f.aj.length).map az) 27)/\s.2.2.2.1 s.2.2.1=some (.cells (((C.take s.1).map fun w=>dZ w f.aj.length).map az) 27)) (fun s=>n - s.1)
  (0,1,2,a9 [(1,.cells [] 27),(2,.cells [] 27)],3) (aK eH eH) ⟨Nat.zero_le _,Nat.lt_succ_of_lt (Nat.lt_succ_self _),Nat.lt_succ_self _,(by intro h;cases h),rfl,rfl⟩ ?_) ?_)
 .rintro⟨j,J,U,m,nx⟩ ⟨hj,Fs,hr2,aI,m1,m2⟩;dsimp only at hj Fs hr2 aI m1 m2 ⊢;refine SS ?_;refine ab ⟨_,rfl,fun h=>?_,fun h=>?_⟩
  .have bZ:j<n:=by simpa using h
   have VA:j<A.length:=by omega
   have VB:j<C.length:=by omega
   have Cz:A[j]? =some A[j]:=List.getElem?_eq_getElem VA;have CA:C[j]? =some C[j]:=List.getElem?_eq_getElem VB;have lQ:A[j].length=19:=(hA _ (List.getElem_mem VA)).1;have vH:C[j].length=19:=(hB _ (List.getElem_mem VB)).1;have aj9:∀ w∈A,w.length=19:=fun w hw=>(hA w hw).1;have iN:∀ w∈C,w.length=19:=fun w hw=>(hB w hw).1;have akb:(((A.take j).map fun w=>dZ w f.aj.length).map az).length=j:=by simp;omega
   have akc:(((C.take j).map fun w=>dZ w f.aj.length).map az).length=j:=by simp;omega
   have Kc:True->((A.take (j+1)).map fun w=>dZ w f.aj.length).map az=((A.take j).map fun w=>dZ w f.aj.length).map az++[az (dZ A[j] f.aj.length)]:=fun _=>by
    rw[List.take_add_one,Cz,List.map_append,List.map_append];rfl
   have Kd:True->((C.take (j+1)).map fun w=>dZ w f.aj.length).map az=((C.take j).map fun w=>dZ w f.aj.length).map az++[az (dZ C[j] f.aj.length)]:=fun _=>by
    rw[List.take_add_one,CA,List.map_append,List.map_append];rfl
   generalize ((A.take j).map fun w=>dZ w f.aj.length).map az=c1 at m1 akb Kc;generalize ((C.take j).map fun w=>dZ w f.aj.length).map az=c2 at m2 akc Kd;generalize A[j]=w1 at Cz lQ Kc;generalize C[j]=w2 at CA vH Kd;have akd:=zW (w:=w2) (n:=f.aj.length) vH Vx;have zW:=zW (w:=w1) (n:=f.aj.length) lQ Vx;have aq:=m1;have bX:=m2;refine ws ?_;refine ag ?_;refine ab (iZ Zp ?_);refine bA ?_;refine cl zW ?_;refine ag ?_;have zW:=akd;refine bA ?_;refine cl zW ?_;refine SS ?_;refine pJ (pA rfl (af oG (af oG (af oG (af oG bX)))) rfl V.h V.h (nG (up_same _ _ _) rfl) rfl) ak ⟨V.h,rfl,(by first|omega|exact Nat.le_of_ble_eq_true rfl|(simp;done)|(simp;omega)),oC,(by first|rfl|(simp;done)|(simp;omega)),(by unfold maxLen;first|omega|(simp;omega)),(by rw[E'];first|omega|(simp;omega)),(by first|(simp;done)|(simp;omega))⟩ ?_;refine ag ?_;refine bj (by simp[apartT];try omega) ?_;refine ag ?_;refine ab (aH (j+1,nx+1,nx+1+1+1,_,nx+1+1+1+1) (ap eH) ⟨by dsimp only;omega,by dsimp only;omega,by dsimp only;omega,by dsimp only;omega,?_,?_⟩ oM)
   .dsimp only;rw[Kc trivial];exact af oG (af oG (af oG (up_same _ _ _)))
   .dsimp only;rw[Kd trivial];exact up_same _ _ _
  .have aY:¬ j<n:=by simpa using h
   have:j=n:=by omega
   subst this;rw[List.take_of_length_le oG] at m1 m2;exact⟨J,U,m,nx,ap eH,aI,m1,m2⟩
 .rintro s ⟨J,U,m,nx,hg,aI,m1,m2⟩;refine⟨_,hg,av ?_⟩;refine aV ?_;refine ab (aJ (bp [(J,(A.map fun w=>dZ w f.aj.length).map az,27),(U,(C.map fun w=>dZ w f.aj.length).map az,27)] ⟨m1,sW (Ne.symm aI) m2 (iB.cells (X:=fun p=>p=J) (fun d hd=>by obtain⟨x,_,rfl⟩:=List.mem_map.1 hd;exact .sl _ _) _ _ _ rfl),trivial⟩ (l:=[(2,bd (A.map fun w=>dZ w f.aj.length)),(3,bd (C.map fun w=>dZ w f.aj.length)),(4,I 0)]) ⟨?_,?_,rfl,trivial⟩) (DP rfl rfl rfl rfl))
  .show sub (fz0 U _ (prog.cellsOf 27)) (sub (fz0 J _ (prog.cellsOf 27)) (D.rs J 0 n))=_;rw[gv (by rw[sK];simp;omega),HC,bd];simp[vG]
  .show sub (fz0 U _ (prog.cellsOf 27)) (sub (fz0 J _ (prog.cellsOf 27)) (D.rs U 0 n))=_;rw[qe (Ne.symm aI),gv (by rw[sK];simp;omega),bd];simp[hBl]
end Go.Proofs.Tryz.K
end
namespace Go.Argus
open Go Go.Abs
open Go.Proofs.Tryz.K (nextR lg_ok beh_in ord_in)
def UN(f:aA):Nat->List Int:=bq (bw f)
def sf(f:aA)(r:Int)(b:Nat)(p:Bool):Int:=Eb (bY f b) r p
def xh(f:aA)(r:Int)(a c:Nat):Int:=Hh (bY f a) (bY f c) (gh f c) a c r
def sS(f:aA)(r:Int)(b:Nat):Prop:=Lv (UN f) (sf f r) (xh f r) b
theorem OY(r:Int)(p:Bool):∀ l,jk r p l=0\/jk r p l=1\/jk r p l=2
 |[]=>.inl rfl
 |y::t=>by
  unfold jk;split
  .exact .inr (.inl rfl)
  .split
   .exact .inr (.inr rfl)
   .exact OY r p t
theorem YH{y:aW}(h:y.op=19):bK y=[]:=by simp[bK,aG,l5,po,h]
theorem Xy{y:aW}(h:y.op=19):bM y=y.to:=by simp[bM,aG,kG,h]
theorem Na{r:Int}:∀ {l:List aW},(l.takeWhile bx).any (fun z=>z.to==r)=true->jk r true l=2
 |[],h=>by simp at h
 |y::l,h=>by
  rw[List.takeWhile_cons] at h;split at h
  .rename_i hp;have C:y.op=19:=by simpa[bx] using hp
   unfold jk;rw[YH C];simp only[iL,List.any_nil,Bool.false_eq_true,if_false];rw[List.any_cons,Bool.or_eq_true] at h;unfold AA;rw[Xy C];rcases h with h|h
   .simp[h]
   .split
    .rfl
    .exact Na h
  .simp at h
theorem F7{r:Nat}{p:Prop}:∀ (l:List aW),(jk r true l=1->og r p l)/\(jk r true l=2->¬ og r p l)/\(jk r true l=0->(og r p l↔p))
 |[]=>⟨fun h=>by simp[jk] at h,fun h=>by simp[jk] at h,fun _=>Iff.rfl⟩
 |y::l=>by
  obtain⟨h1,h2,h3⟩:=F7 (p:=p) l;unfold jk;by_cases hr:iL (bK y) r=true
  .rw[if_pos hr];refine⟨fun _=>.inl (nJ.1 hr),fun h=>by omega,fun h=>by omega⟩
  .have U:¬ (r:Int)∈bK y:=fun h=>hr (nJ.2 h);rw[if_neg hr];by_cases C:AA r true y=true
   .have J:bM y=(r:Int):=by
     unfold AA at C;split at C
     .rename_i h;simpa using h
     .cases C
    rw[if_pos C];refine⟨fun h=>by omega,fun _ h=>?_,fun h=>by omega⟩;rcases h with h|⟨h,_⟩
    .exact U h
    .exact h J
   .have J:bM y≠(r:Int):=fun e=>C (by unfold AA;simp[e]);rw[if_neg C];refine⟨fun h=>.inr ⟨J,h1 h⟩,fun h h'=>?_,fun h=>?_⟩
    .rcases h' with h'|⟨_,h'⟩
     .exact U h'
     .exact h2 h h'
    .refine Iff.trans ?_ (h3 h);exact⟨fun h'=>by rcases h' with h'|⟨_,h'⟩;exact absurd h' U;exact h',fun h'=>.inr ⟨J,h'⟩⟩
theorem QR{f:aA}{r:Int}{a c:Nat}:xh f r a c=0↔fG (bY f a).fin c≠r/\¬ r∈jd (gh f c) a (bY f c)/\BP (bY f c) r=false:=by
 unfold xh Hh;by_cases h1:(fG (bY f a).fin c==r)=true
 .rw[if_pos h1];have:fG (bY f a).fin c=r:=by simpa using h1
  constructor
  .intro h;omega
  .rintro⟨h,_⟩;exact absurd this h
 .have C:fG (bY f a).fin c≠r:=by simpa using h1
  rw[if_neg h1];by_cases h2:iL (jd (gh f c) a (bY f c)) r=true
  .rw[if_pos h2];constructor
   .intro h;omega
   .rintro⟨_,h,_⟩;exact absurd (nJ.1 h2) h
  .rw[if_neg h2];by_cases h3:BP (bY f c) r=true
   .rw[if_pos h3];constructor
    .intro h;omega
    .rintro⟨_,_,h⟩;rw[h3] at h;cases h
   .rw[if_neg h3];exact⟨fun _=>⟨C,fun h=>h2 (nJ.2 h),by simpa using h3⟩,fun _=>rfl⟩
theorem QS{f:aA}{r:Int}{a c:Nat}:xh f r a c=1↔fG (bY f a).fin c≠r/\r∈jd (gh f c) a (bY f c):=by
 unfold xh Hh;by_cases h1:(fG (bY f a).fin c==r)=true
 .rw[if_pos h1];have:fG (bY f a).fin c=r:=by simpa using h1
  constructor
  .intro h;omega
  .rintro⟨h,_⟩;exact absurd this h
 .have C:fG (bY f a).fin c≠r:=by simpa using h1
  rw[if_neg h1];by_cases h2:iL (jd (gh f c) a (bY f c)) r=true
  .rw[if_pos h2];exact⟨fun _=>⟨C,nJ.1 h2⟩,fun _=>rfl⟩
  .rw[if_neg h2];constructor
   .intro h;split at h<;>omega
   .rintro⟨_,h⟩;exact absurd (nJ.2 h) h2
theorem Z3{f:aA}{r:Int}{b:Nat}(h:sf f r b true=2):¬ sS f r b:=by
 intro hl;cases hl with
 |here h'=>omega
 |read h' _ _=>omega
 |on h' _ _ _=>omega
theorem OZ{f:aA}{r:Int}{b:Nat}:sf f r b true=0↔jk r true (bY f b).ins=0/\¬ r∈bJ (bY f b).fin:=by
 unfold sf Eb;by_cases h:jk r true (bY f b).ins=0
 .rw[if_pos h];by_cases h2:iL (bJ (bY f b).fin) r=true
  .rw[if_pos h2];constructor
   .intro h;omega
   .rintro⟨_,h'⟩;exact absurd (nJ.1 h2) h'
  .rw[if_neg h2];exact⟨fun _=>⟨h,fun h'=>h2 (nJ.2 h')⟩,fun _=>rfl⟩
 .rw[if_neg h];exact⟨fun h'=>absurd h' h,fun h'=>absurd h'.1 h⟩
theorem DN{f:aA}{r:Int}{b:Nat}:sf f r b true=1↔jk r true (bY f b).ins=1\/(jk r true (bY f b).ins=0/\r∈bJ (bY f b).fin):=by
 unfold sf Eb;by_cases h:jk r true (bY f b).ins=0
 .rw[if_pos h];by_cases h2:iL (bJ (bY f b).fin) r=true
  .rw[if_pos h2];exact⟨fun _=>.inr ⟨h,nJ.1 h2⟩,fun _=>rfl⟩
  .rw[if_neg h2];constructor
   .intro h';omega
   .rintro(h'|⟨_,h'⟩)
    .omega
    .exact absurd (nJ.2 h') h2
 .rw[if_neg h];exact⟨fun h'=>.inl h',fun h'=>by rcases h' with h'|⟨h',_⟩;exact h';exact absurd h' h⟩
theorem Me{f:aA}(h:iE f)(r b:Nat)(hi:oi (bP f) (sS f r) b r):sS f r b:=by
 unfold oi at hi;obtain⟨h1,h2,h3⟩:=F7 (r:=r) (p:=oh (bP f) (sS f r) b r) (bY f b).ins;have hi:og r (oh (bP f) (sS f r) b r) (bY f b).ins:=hi;rcases OY r true (bY f b).ins with hf|hf|hf
 .rcases(h3 hf).1 hi with ho|⟨c,hc,C,hg⟩
  .exact .here (DN.2 (.inr ⟨hf,ho⟩))
  .by_cases X:(r:Int)∈bJ (bY f b).fin
   .exact .here (DN.2 (.inr ⟨hf,X⟩))
   .have h0:=OZ.2 ⟨hf,X⟩;have eR:=beh_in h b c hc;have U:((c.toNat:Nat):Int)=c:=Int.toNat_of_nonneg eR.1;have C:fG (bY f b).fin c≠r:=C;by_cases J:(r:Int)∈jd (gh f c.toNat) b (bY f c.toNat)
    .exact .read h0 hc (QS.2 ⟨by rw[U];exact C,J⟩)
    .rcases hg with hg|hg
     .exact absurd hg J
     .by_cases hp:BP (bY f c.toNat) r=true
      .have h2:sf f r c.toNat true=2:=by
        have:=Na (r:=(r:Int)) (l:=(bY f c.toNat).ins) hp;unfold sf Eb;rw[this];rfl
       exact absurd hg (Z3 h2)
      .exact .on h0 hc (QR.2 ⟨by rw[U];exact C,J,by simpa using hp⟩) hg
 .exact .here (DN.2 (.inl hf))
 .exact absurd hi (h2 hf)
theorem yN{f:aA}(h:iE f){p:Nat->Prop}{r b:Nat}(C:sf f r b true=1\/(sf f r b true=0/\∃ c∈UN f b,xh f r b c.toNat=1\/(xh f r b c.toNat=0/\p c.toNat))):oi (bP f) p b r:=by
 obtain⟨h1,h2,h3⟩:=F7 (r:=r) (p:=oh (bP f) p b r) (bY f b).ins;show og r (oh (bP f) p b r) (bY f b).ins;rcases C with C|⟨h0,c,hc,C⟩
 .rcases DN.1 C with hf|⟨hf,X⟩
  .exact h1 hf
  .exact(h3 hf).2 (.inl X)
 .have hf:=(OZ.1 h0).1;have U:=beh_in h b c hc;have J:((c.toNat:Nat):Int)=c:=Int.toNat_of_nonneg U.1;refine(h3 hf).2 (.inr ⟨c,hc,?_⟩);rcases C with C|⟨C,hp⟩
  .have:=QS.1 C;rw[J] at this;exact⟨this.1,.inl this.2⟩
  .have:=QR.1 C;rw[J] at this;exact⟨this.1,.inr hp⟩
theorem M4{f:aA}(h:iE f){x:Int}:x∈ew f↔0<=x/\(dC (bq (bw f)) f.blocks.length (-1)).getD x.toNat false=true:=by
 unfold ew;rw[List.mem_reverse];exact LO (beh_in h) h.pos
theorem aaT{f:aA}(h:iE f)(r b:Nat):a7 ((hZ (bP f) f.blocks.length (ew f)).aN.getD b []) r=true↔(dC (bq (bw f)) f.blocks.length (-1)).getD b false=true/\sS f r b:=by
 obtain⟨U,J,_⟩:=Ai (lg_ok h) (ord_in h)
 have C:∀ c:Nat,(c:Int)∈ew f↔(dC (bq (bw f)) f.blocks.length (-1)).getD c false=true:=fun c=>by
  rw[M4 h];simp
 constructor
 .intro hb;exact⟨(C b).1 (U.si b r hb),U.snd r (sS f r) (fun c hc=>Me h r c hc) b hb⟩
 .rintro⟨hc,hl⟩
  have key:∀ b,sS f r b->(b:Int)∈ew f->a7 ((hZ (bP f) f.blocks.length (ew f)).aN.getD b []) r=true:=fun b hl=>by
   induction hl with
   |here h1=>exact fun hb=>(J _ r hb).2 (yN h (.inl h1))
   |read h1 h2 h3=>exact fun hb=>(J _ r hb).2 (yN h (.inr ⟨h1,_,h2,.inl h3⟩))
   |@on b c h1 h2 h3 _ ih=>
    intro hb;have X:=beh_in h b c h2;have j0:((c.toNat:Nat):Int)=c:=Int.toNat_of_nonneg X.1;have:=KQ (beh_in h) h.pos ((C b).1 hb) c h2;exact(J _ r hb).2 (yN h (.inr ⟨h1,c,h2,.inr ⟨h3,ih ((C c.toNat).2 this)⟩⟩))
  exact key b hl ((C b).2 hc)
end Go.Argus
section
open Go Go.Abs Go.Proofs Go.Argus
namespace Go.Argus
def Px(f:aA)(b r:Int):Prop:=aoF f.blocks.length b=true/\0<=r/\r<f.aj.length
instance(f:aA)(b r:Int):Decidable (Px f b r):=by unfold Px;infer_instance
theorem hd9:∀ a b c d e f g h i:Bool,(if(if(if(if(if(if(if a=true then b else false)=true then true else c)=true then true else(if d=true then e else false))=true then true else f)=true then true else g)=true then true else h)=true then true else i)=((a&&b)||(c||((d&&e)||(f||(g||(h||i)))))):=by decide
theorem ake:∀ a b c d e:Bool,(if(if(if(if a=true then true else b)=true then true else c)=true then true else d)=true then true else e)=(a||(b||(c||(d||e)))):=by decide
def zp(l:List Int)(n:Int):Bool:=l.any fun y=>y==n
theorem Zq{l:List Int}{x:Int}:zp l x=true↔x∈l:=by simp[zp]
def zq(f:aA):Bool:=(decide (24<(f.blocks.length:Int))&&decide ((f.blocks.length:Int)<=1200))||(decide (1210<(f.blocks.length:Int))||((decide (14<(f.aj.length:Int))&&decide ((f.aj.length:Int)<=1200))||(decide (1210<(f.aj.length:Int))||(decide (130<(f.name.size:Int))||(decide (70<(f.aP.length:Int))||decide (10<(f.signals.length:Int)))))))
def qx(b:bt):Bool:=decide (12<(b.ins.length:Int))||(decide (8<(b.fin.aE.length:Int))||(decide (10<(b.fin.args.length:Int))||(decide (130<(b.fin.name.size:Int))||decide (10<(b.fin.ins.args.length:Int)))))
def qy(y:aW):Bool:=decide (26<(y.args.length:Int))
def pN(f:aA):Bool:= !(zq f)&&(f.signals.all (fun s=> !(decide (20<(s.size:Int))))&&f.blocks.all (fun b=> !(qx b)&&b.ins.all fun y=> !(qy y)))
theorem aoG{f:aA}(h:pN f=true):f.blocks.length<=24\/1200<f.blocks.length:=by
 unfold pN zq at h;simp only[Bool.and_eq_true,Bool.not_eq_true',Bool.or_eq_false_iff] at h;have h1:=h.1.1;by_cases h2:24<f.blocks.length
 .by_cases h3:f.blocks.length<=1200
  .simp at h1;omega
  .omega
 .omega
def allI(cnt:List Bool)(k:Nat):List Int:=((List.range k).filter fun i=>cnt.getD i false).map fun(i:Nat)=>(i:Int)
theorem Gj(cnt:List Bool)(k:Nat):allI cnt (k+1)=if cnt.getD k false=true then allI cnt k++[(k:Int)] else allI cnt k:=by
 unfold allI;rw[List.range_succ,List.filter_append,List.map_append];by_cases h:cnt.getD k false=true
 .rw[if_pos h,List.filter_cons_of_pos (by exact h)];rfl
 .rw[if_neg h,List.filter_cons_of_neg (by exact h),List.filter_nil,List.map_nil,List.append_nil]
theorem MF(cnt:List Bool):∀ {k n:Nat},k<=n->∃ t,allI cnt n=allI cnt k++t
 |k,0,h=>by
  have:k=0:=by omega
  subst this;exact⟨[],by simp⟩
 |k,n+1,h=>by
  rcases Nat.lt_or_ge k (n+1) with g|g
  .obtain⟨t,ht⟩:=MF cnt (k:=k) (n:=n) oG;rw[Gj];split
   .exact⟨t++[(n:Int)],by rw[ht,List.append_assoc]⟩
   .exact⟨t,ht⟩
  .have:k=n+1:=by omega
   subst this;exact⟨[],by simp⟩
theorem aaw{cnt:List Bool}{k n:Nat}(hk:k<n)(hc:cnt.getD k false=true):(allI cnt n)[(allI cnt k).length]? =some (k:Int):=by
 obtain⟨t,ht⟩:=MF cnt (k:=k+1) (n:=n) oG;rw[ht,Gj,if_pos hc,List.append_assoc,List.getElem?_append_right (Nat.le_refl _),Nat.sub_self];rfl
def BT(k a to eL:Int)(x:aW):End:=⟨k,a,0,to,eL,⟨#[]⟩,x,[],[], -1⟩
def oc:aA:=⟨⟨#[115,117,109]⟩,false,1,1,[1,1,1],[],[],[⟨[⟨1,1,0,0,0,[]⟩],BT 1 0 1 0 dh⟩,⟨[],BT 2 0 2 3 dh⟩,⟨[⟨1,2,0,0, -1,[]⟩],BT 5 0 4 0 ⟨30,1,1,0,0,[]⟩⟩,⟨[],BT 3 1 0 0 dh⟩,⟨[],BT 5 0 1 0 ⟨30,0,0,2,0,[]⟩⟩]⟩
def tF:List D:=c6 oc [[1],[2,3],[4],[],[1]] [[],[0,4],[1],[1],[2]] (bW [true,true,true,true,true])
end Go.Argus
namespace Go.Proofs.Tryz.K
set_option maxRecDepth 10000
set_option maxHeartbeats 1000000 in
theorem CB{f:aA}:PCall prog 15 [.agg (aC f)] (B (pN f)):=by
 have aR:∀ a∈[D.agg (aC f)],Tr a:=.cons (.agg (gz f)) .nil;refine aX mixed T5 (by rw[akf];rfl) aR (Tr.s _) ?_;rw[akg,akh];refine av ?_;refine ag ?_;refine ab (aJ (bp [(0,aC f,26)] eH (l:=[(1,.pt (aC f))]) eH) (aD (av ?_)));refine aL ?_;refine aL ?_;refine aL ?_;refine bA ?_;refine ag ?_;refine bm rfl rfl (Ht rfl) (fun hc=>⟨ak,V.h⟩) ?_;refine aL ?_;refine aV ?_;have hd:zq f=_:=(hd9 (decide (24<(f.blocks.length:Int))) (decide ((f.blocks.length:Int)<=1200)) (decide (1210<(f.blocks.length:Int))) (decide (14<(f.aj.length:Int))) (decide ((f.aj.length:Int)<=1200)) (decide (1210<(f.aj.length:Int))) (decide (130<(f.name.size:Int))) (decide (70<(f.aP.length:Int))) (decide (10<(f.signals.length:Int)))).symm;refine ab ⟨_,.refl _,bC rfl (fun h=>?_) fun h=>cx (aD (av ?_))⟩
 .have h1:zq f=true:=hd.trans h;refine aD (an ?_);refine SS ?_;refine ab (dx (ax (d:=B false) rfl ?_));rw[pN,h1];rfl
 have h1:zq f=false:=hd.trans h;clear hd h
 have aoM:f.blocks.length<=100000/\f.signals.length<=100000:=by
  unfold zq at h1;simp only[Bool.or_eq_false_iff,decide_eq_false_iff_not] at h1;omega
 refine SS ?_
 refine ab (bG (fun s=>Ghost prog s ⟨ay [(1,.pt (aC f))],fun _=>none,1⟩/\f.signals.all (fun s=> !(decide (20<(s.size:Int))))=true) (cq (α:=Nat) (fun k=>⟨ay [(1,.pt (aC f)),(3,I k)],fun _=>none,1⟩)
  (fun k=>k<=f.signals.length/\(f.signals.take k).all (fun s=> !(decide (20<(s.size:Int))))=true) (fun k=>f.signals.length - k) 0 (ap eH) ⟨by omega,rfl⟩ ?_) ?_)
 .rintro k ⟨hk,hinv⟩;refine aV ?_;refine ab ⟨_,rfl,fun h=>?_,fun h=>?_⟩
  .have ao:k<f.signals.length:=by simpa using h
   have hx:f.signals[k]? =some f.signals[k]:=by simp[ao]
   have J:f.signals[k]∈f.signals:=List.getElem_mem _;generalize f.signals[k]=x at hx J;refine ws ?_;refine cK ?_;refine ab (au rfl (fun hp=>?_) fun hp=>?_)
   .refine ws ?_;refine SS ?_;refine ab (aU (b7 (aQ (ax (d:=B false) rfl ?_))))
    have:f.signals.all (fun s=> !(decide (20<(s.size:Int))))=false:=by
     refine Bool.eq_false_iff.2 fun ht=>?_;have:=List.all_eq_true.1 ht x J;rw[hp] at this;cases this
    rw[pN,this];simp
   .refine b8 ?_;refine aw ?_;refine ab (aH (k+1) (ap eH) ⟨by omega,?_⟩ oG);rw[List.take_add_one,hx,List.all_append,hinv];show(true&&(!(decide (20<(x.size:Int)))&&true))=true;rw[hp];rfl
  .have X:¬ k<f.signals.length:=by simpa using h
   rw[List.take_of_length_le oG] at hinv;exact⟨ap eH,hinv⟩
 rintro s ⟨hg,T6⟩;refine⟨_,hg,aD (av ?_)⟩;refine SS ?_
 refine ab (bG (fun s=>(∃ nx,Ghost prog s ⟨ay [],fun _=>none,nx⟩)/\f.blocks.all (fun b=> !(qx b)&&b.ins.all fun y=> !(qy y))=true) (cq (α:=Nat×Nat) (fun k=>⟨ay [(1,.pt (aC f)),(4,I k.1)],fun _=>none,k.2⟩)
  (fun k=>k.1<=f.blocks.length/\(f.blocks.take k.1).all (fun b=> !(qx b)&&b.ins.all fun y=> !(qy y))=true) (fun k=>f.blocks.length - k.1) (0,1) (ap eH) ⟨Nat.zero_le _,rfl⟩ ?_) ?_)
 .rintro⟨k,nx⟩ ⟨hk,hinv⟩;dsimp only at hk hinv ⊢;refine aV ?_;refine ab ⟨_,rfl,fun h=>?_,fun h=>?_⟩
  .have ao:k<f.blocks.length:=by simpa using h
   have hx:f.blocks[k]? =some f.blocks[k]:=by simp[ao]
   have J:f.blocks[k]∈f.blocks:=List.getElem_mem _;generalize f.blocks[k]=x at hx J
   have C:(!(qx x)&&x.ins.all fun y=> !(qy y))=false->pN f=false:=fun hb=>by
    have:f.blocks.all (fun b=> !(qx b)&&b.ins.all fun y=> !(qy y))=false:=by
     refine Bool.eq_false_iff.2 fun ht=>?_;have:=List.all_eq_true.1 ht x J;rw[hb] at this;cases this
    rw[pN,this];simp
   refine av ?_;refine cK ?_;refine ab (aJ (mR (i:=nx) (l:=[(1,.pt (aC f)),(4,I k),(5,.pt (cR x))]) (up_same _ _ _) ⟨rfl,rfl,lC,trivial⟩) (aD (an ?_)));refine aL ?_;refine aL ?_;refine aF ?_;refine bm rfl rfl (Ht rfl) (fun hc=>⟨ak,V.h⟩) ?_;refine bA ?_;refine ag ?_;have hd:qx x=_:=(ake (decide (12<(x.ins.length:Int))) (decide (8<(x.fin.aE.length:Int))) (decide (10<(x.fin.args.length:Int))) (decide (130<(x.fin.name.size:Int))) (decide (10<(x.fin.ins.args.length:Int)))).symm;refine ab (bC rfl (fun h=>?_) fun h=>cx (av ?_))
   .have hb:qx x=true:=hd.trans h;refine aD (an ?_);refine SS ?_;refine ab (dx (b7 (aQ (ax (d:=B false) rfl ?_))));rw[C (by rw[hb];rfl)]
   .have hb:qx x=false:=hd.trans h;clear hd h
    have fK:x.ins.length<=100000:=by
     unfold qx at hb;simp only[Bool.or_eq_false_iff,decide_eq_false_iff_not] at hb;omega
    refine SS ?_
    refine ab (cq (α:=Nat) (fun j=>⟨ay [(1,.pt (aC f)),(4,I k),(5,.pt (cR x)),(6,I j)],fun _=>none,nx+1⟩)
     (fun j=>j<=x.ins.length/\(x.ins.take j).all (fun y=> !(qy y))=true) (fun j=>x.ins.length - j) 0 (ap eH) ⟨Nat.zero_le _,rfl⟩ ?_)
    rintro j ⟨hj,U⟩;refine aV ?_;refine ab ⟨_,rfl,fun h=>?_,fun h=>?_⟩
    .have bZ:j<x.ins.length:=by simpa using h
     have hy:x.ins[j]? =some x.ins[j]:=by simp[bZ]
     have gY:x.ins[j]∈x.ins:=List.getElem_mem _;generalize x.ins[j]=y at hy gY;refine ws ?_;refine bA ?_;refine ab (au rfl (fun hp=>?_) fun hp=>?_)
     .have hp:qy y=true:=hp;refine ws ?_;refine SS ?_;refine ab (aU (b7 (b7 (aQ (ax (d:=B false) rfl ?_)))));rw[C]
      have:x.ins.all (fun y=> !(qy y))=false:=by
       refine Bool.eq_false_iff.2 fun ht=>?_;have:=List.all_eq_true.1 ht y gY;rw[hp] at this;cases this
      rw[this];simp
     .have hp:qy y=false:=hp;refine b8 ?_;refine aw ?_;refine ab (aH (j+1) (ap eH) ⟨by omega,?_⟩ oG);rw[List.take_add_one,hy,List.all_append,U];show(true&&(!(qy y)&&true))=true;rw[hp];rfl
    .have X:¬ j<x.ins.length:=by simpa using h
     rw[List.take_of_length_le oG] at U;show AOps _ _ _ _ _ _ _ _ _;refine aw ?_;refine ab (aH (k+1,nx+1) (ap eH) ⟨by dsimp only;omega,?_⟩ oM);dsimp only;rw[List.take_add_one,hx,List.all_append,hinv];show(true&&((!(qx x)&&x.ins.all fun y=> !(qy y))&&true))=true;rw[hb,U];rfl
  .have X:¬ k<f.blocks.length:=by simpa using h
   rw[List.take_of_length_le oG] at hinv;exact⟨⟨nx,ap trivial⟩,hinv⟩
 rintro s ⟨⟨nx,hg⟩,bH⟩;refine⟨_,hg,an ?_⟩;refine SS ?_;refine ab (ax (d:=B true) rfl ?_);rw[pN,h1,T6,bH];rfl
theorem s61{f:aA}{beh ahd:List (List Int)}{cnt:List Bool}(hlen:cnt.length<=100000):SeqA prog 61 [.pt (c6 f beh ahd (bW cnt))] [] ((allI cnt cnt.length).map fun n=>[I n]):=by
 refine Hv mixed T7 (by rw[aki];rfl) fun L X Stop m nx hI D1 h0=>?_;rw[akj,akk];refine av ?_;refine bD ?_
 refine ab (dq (α:=Nat×Mem×Nat) (fun k=>⟨ay [(1,.fn (.yield L) [] []),(9,bW cnt),(10,I cnt.length),(11,I k.1)],k.2.1,k.2.2⟩)
  (fun k=>k.1<=cnt.length/\X (allI cnt k.1).length k.2.1 k.2.2) (fun k=>cnt.length - k.1) (0,m,nx) (ap eH) ⟨Nat.zero_le _,h0⟩ ?_)
 rintro⟨k,m,nx⟩ ⟨hk,J⟩;dsimp only at hk J ⊢;refine SS ?_;refine ab ⟨_,rfl,fun h=>?_,fun h=>?_⟩
 .have ao:k<cnt.length:=by simpa using h
  have hx:cnt[k]? =some cnt[k]:=List.getElem?_eq_getElem ao;have hg:cnt.getD k false=cnt[k]:=getD_some hx;have C:=Gj cnt k
  have U:cnt.getD k false=true->((allI cnt cnt.length).map fun n=>[I n])[(allI cnt k).length]? =some [I k]:=fun h=>by
   rw[List.getElem?_map,aaw ao h];rfl
  rw[hg] at C U;generalize cnt[k]=c at hx C U;refine ws ?_;refine aV ?_;refine er ?_;cases c with
  |false=>
   refine ag ?_;(iterate 4 refine z fun _ _=>?_);refine SS ?_;refine ab (au rfl (fun h=>oH) fun _=>b8 ?_);refine ag ?_;refine ab (aH (k+1,m,nx) (ap eH) ⟨by dsimp only;omega,?_⟩ oM);dsimp only;rw[C];exact J
  |true=>
   refine aF ?_;refine D7 rfl rfl rfl rfl (by repeat' (first|exact trivial|exact rfl|refine And.intro ?_ ?_)) ⟨rfl,_,U rfl,J,fun d m' nx' hp=>?_⟩;rcases hp with⟨rfl,hp⟩|⟨rfl,hp⟩
   .refine ag ?_;refine ab (au rfl (fun h=>oH) fun _=>b8 ?_);refine ag ?_;refine ab (aH (k+1,m',nx') (ap eH) ⟨by dsimp only;omega,?_⟩ oM);dsimp only;rw[C,if_pos rfl,List.length_append];exact hp
   .refine ag ?_;exact ab (au rfl (fun _=>aU (b7 (s3 (.inr hp)))) fun h=>oH)
 .have aY:¬ k<cnt.length:=by simpa using h
  have:k=cnt.length:=by omega
  subst this;exact rX (.inl (by rw[List.length_map];exact J))
end Go.Proofs.Tryz.K
end
namespace Go.Argus
open Go Go.Abs
open Go.Proofs.Tryz.K (nextR lg_ok beh_in ord_in)
def pQ(f:aA)(b:Nat):Bool:=(dC (bq (bw f)) f.blocks.length (-1)).getD b false
end Go.Argus
section
open Go Go.Abs Go.Proofs Go.Argus
namespace Go.Abs
def Ft:Value->Value->Bool
 | .int k n,.int k' n'=>decide (k=k')&&decide (n=n')
 | .bool a,.bool b=>a==b
 | .string a,.string b=>decide (a=b)
 |_,_=>false
theorem Py{a b:Value}(h:Ft a b=true):a=b:=by
 unfold Ft at h;split at h
 .rw[Bool.and_eq_true,decide_eq_true_eq,decide_eq_true_eq] at h;rw[h.1,h.2]
 .rw[show _=_ from eq_of_beq h]
 .rw[of_decide_eq_true h]
 .cases h
def kq(g:D->D->Bool):List D->List D->Bool
 |[],[]=>true
 |a::xs,b::bs=>g a b&&kq g xs bs
 |_,_=>false
def rq:Nat->D->D->Bool
 |0,_,_=>false
 |_+1,.s a,.s b=>Ft a b
 |_+1,.z,.z=>true
 |_+1,.sl [] 0,.z=>true
 |k+1,.agg a,.agg b=>kq (rq k) a b
 |k+1,.tup a,.tup b=>kq (rq k) a b
 |k+1,.sl a n,.sl b m=>Nat.beq n m&&kq (rq k) a b
 |k+1,.pt a,.pt b=>kq (rq k) a b
 |_+1,_,_=>false
theorem wj{g:D->D->Bool}:∀ {xs bs:List D},kq g xs bs=true->xs.length=bs.length/\∀ (k:Nat) a,xs[k]? =some a->∃ b,bs[k]? =some b/\g a b=true
 |[],[],_=>⟨rfl,fun k a h=>by simp at h⟩
 |a::xs,b::bs,h=>by
  simp only[kq,Bool.and_eq_true] at h;obtain⟨h1,h2⟩:=wj h.2;refine⟨by simp[h1],fun k x hx=>?_⟩;cases k with
  |zero=>simp at hx;subst hx;exact⟨b,rfl,h.1⟩
  |succ k=>exact h2 k x (by simpa using hx)
 |[],_::_,h=>by simp[kq] at h
 |_::_,[],h=>by simp[kq] at h
theorem y7{F:Nat->Prop}{β:Pla}{w:World}:∀ (k:Nat) {a b:D} {v:Value},rq k a b=true->R F β w b v->R F β w a v
 |0,a,b,v,h,_=>by simp[rq] at h
 |k+1,a,b,v,h,hv=>by
  unfold rq at h;split at h
  .cases h
  .rename_i e;rw[Py h];exact hv
  .exact hv
  .obtain⟨x,rfl⟩:=hv.z_inv;exact .sln x 0
  .rename_i a b e;cases e;obtain⟨h1,h2⟩:=wj h;cases hv with
   |agg _ vs hl hh=>
    refine .agg _ vs oG fun j d u hd hu=>?_;obtain⟨C,hb,hg⟩:=h2 j d hd;exact y7 k hg (hh j C u hb hu)
  .rename_i a b e;cases e;obtain⟨h1,h2⟩:=wj h;cases hv with
   |tup _ vs hl hh=>
    refine .tup _ vs oG fun j d u hd hu=>?_;obtain⟨C,hb,hg⟩:=h2 j d hd;exact y7 k hg (hh j C u hb hu)
  .rename_i a n b m e;cases e;rw[Bool.and_eq_true] at h;have Fu:n=m:=Nat.eq_of_beq_eq_true h.1;obtain⟨h1,h2⟩:=wj h.2;subst Fu;cases hv with
   |sln a' cap=>
    have:a=[]:=List.length_eq_zero_iff.1 (by simpa using h1);subst this;exact .sln _ _
   |sl _ _ C o cap us J U X g4 g5 g6 g7=>
    refine .sl _ _ C o cap us J U X g4 g5 (fun j hj=>g6 j oG) fun j d hd=>?_;obtain⟨d',hb,hg⟩:=h2 j d hd;exact y7 k hg (g7 j d' hb)
  .rename_i a b e;cases e;obtain⟨h1,h2⟩:=wj h;cases hv with
   |pt _ C o us J U X g6 g7=>
    refine .pt _ C o us J U X (fun j hj=>g6 j oG) fun j d hd=>?_;obtain⟨d',hb,hg⟩:=h2 j d hd;exact y7 k hg (g7 j d' hb)
  .cases h
theorem W6{P:Program}{f:FuncId}{args args':List D}{r:D}{k:Nat}(hc:PCall P f args' r)(h:kq (rq k) args' args=true)(ht:∀ a∈args,Tr a):PCall P f args r:=by
 obtain⟨h1,h2⟩:=wj h;refine⟨hc.1,ht,fun F w vs hF hR=>hc.2.2 F w vs hF ⟨by rw[hR.1,h1],fun j d v hd hv=>?_⟩⟩;obtain⟨b,hb,hg⟩:=h2 j d hd;exact y7 k hg (hR.2 j b v hb hv)
theorem Zr{P:Program}{f:FuncId}{fs C:List D}{xs:List (List D)}{k:Nat}(hc:SeqA P f C [] xs)(h:kq (rq k) C fs=true):SeqA P f fs [] xs:=by
 obtain⟨h1,h2⟩:=wj h;refine⟨hc.1,fun F l I Stop m nx β w vs J hS hm hn hR hy h0=>hc.2 F l I Stop m nx β w vs J hS hm hn ⟨?_,fun j d v hd hv=>?_⟩ hy h0⟩
 .have:=hR.1;simp only[List.length_append] at this ⊢;omega
 .rcases Nat.lt_or_ge j C.length with g|g
  .rw[List.append_nil,List.getElem?_append_left g] at hd;obtain⟨b,hb,hg⟩:=h2 j d hd;exact y7 k hg (hR.2 j b v (by rw[List.append_nil,List.getElem?_append_left oG];exact hb) hv)
  .rw[List.append_nil,List.getElem?_append_right g] at hd;exact hR.2 j d v (by rw[List.append_nil,List.getElem?_append_right oG, <- h1];exact hd) hv
def DT(t:List (FuncId×List D×D))(f:FuncId)(args:List D):Option D:=(t.find? fun x=>Nat.beq x.1 f&&(kq (rq 20) x.2.1 args&&args.all (oB depth))).map (·.2.2)
def Ee(t:List (FuncId×List D×List (List D)))(f:FuncId)(fs cs:List D):Option (List (List D)):=match cs with
 |[]=>(t.find? fun x=>Nat.beq x.1 f&&kq (rq 20) x.2.1 fs).map (·.2.2)
 |_=>none
theorem LQ{P:Program}{t:List (FuncId×List D×D)}(h:∀ x∈t,PCall P x.1 x.2.1 x.2.2){f:FuncId}{args:List D}{r:D}(hr:DT t f args=some r):PCall P f args r:=by
 unfold DT at hr;rw[Option.map_eq_some_iff] at hr;obtain⟨x,hx,rfl⟩:=hr;have h1:=List.find?_some hx;rw[Bool.and_eq_true,Bool.and_eq_true] at h1;have hf:x.1=f:=Nat.eq_of_beq_eq_true h1.1;have:=h x (List.mem_of_find?_eq_some hx);rw[hf] at this;exact W6 this h1.2.1 fun a ha=>nP (List.all_eq_true.1 h1.2.2 a ha)
theorem ME{P:Program}{t:List (FuncId×List D×List (List D))}(h:∀ x∈t,SeqA P x.1 x.2.1 [] x.2.2/\∀ y∈x.2.2,∀ d∈y,Tr d){f:FuncId}{fs cs:List D}{xs:List (List D)}(hr:Ee t f fs cs=some xs):SeqA P f fs cs xs/\∀ y∈xs,∀ d∈y,Tr d:=by
 unfold Ee at hr;split at hr
 .rw[Option.map_eq_some_iff] at hr;obtain⟨x,hx,rfl⟩:=hr;have h1:=List.find?_some hx;rw[Bool.and_eq_true] at h1;have hf:x.1=f:=Nat.eq_of_beq_eq_true h1.1;have h2:=h x (List.mem_of_find?_eq_some hx);rw[hf] at h2;exact⟨Zr h2.1 h1.2,h2.2⟩
 .cases hr
def z1:Nat->D->D->Bool
 |0,_,_=>false
 |_+1,.s a,.s b=>Ft a b
 |_+1,.z,.z=>true
 |k+1,.sl a n,.sl b m=>Nat.beq n m&&kq (z1 k) a b
 |_+1,_,_=>false
theorem Nt{g:D->D->Bool}(hg:∀ a b,g a b=true->a=b):∀ {xs bs:List D},kq g xs bs=true->xs=bs
 |[],[],_=>rfl
 |a::xs,b::bs,h=>by
  simp only[kq,Bool.and_eq_true] at h;rw[hg a b h.1,Nt hg h.2]
 |[],_::_,h=>by simp[kq] at h
 |_::_,[],h=>by simp[kq] at h
theorem abq:∀ (k:Nat) (a b:D),z1 k a b=true->a=b:=fun k=>by
 induction k with
 |zero=>exact fun a b h=>by simp[z1] at h
 |succ k ih=>
  intro a b h;cases a<;>cases b<;>simp only[z1,Bool.and_eq_true,reduceCtorEq,Bool.false_eq_true] at h ⊢
  .rw[Py h]
  .rw[Nat.eq_of_beq_eq_true h.1,Nt ih h.2]
def Bf:Nat->Code->List Code
 |k+1,.seq a b=>a::Bf k b
 |_,_=>[]
def Eg:Nat->Code->Code
 |k+1,.seq a b=>Eg k b
 |_,c=>c
theorem parts_eq:∀ (k:Nat) (c:Code),c=(Bf k c).foldr .seq (Eg k c)
 |0,c=>by cases c<;>rfl
 |k+1,c=>by
  cases c with
  |seq a b=>
   show Code.seq a b=.seq a ((Bf k b).foldr .seq (Eg k b));rw[<- parts_eq k b]
  |_=>rfl
def Bg(C:Bool->Code->bQ->Option (Exit×bQ)):List Code->bQ->Option bQ
 |[],s=>some s
 |c::cs,s=>match C true c s with
  |some (.normal,s')=>Bg C cs s'
  |_=>none
theorem LR{P:Program}{U:Bool->Code->bQ->Option (Exit×bQ)}(C:zg P U){B:Code}{Q:Exit->St->Prop}:∀ {cs:List Code} {c:Code} {s s':bQ},Bg U (c::cs) s=some s'->(∃ st',Ghost P s'.st st'/\AW P noY true B Q st')->AW P noY true ((c::cs).foldr .seq B) Q s.st
 |[],c,s,s',h,k=>by
  simp only[Bg] at h;split at h
  .rename_i J he;cases h;exact dB (fun st=>st=s'.st) (C _ _ _ _ _ he _ rfl) fun st e=>e▸k
  .cases h
 |d::cs,c,s,s',h,k=>by
  rw[Bg] at h;split at h
  .rename_i J he;exact dB (fun st=>st=J.st) (C _ _ _ _ _ he _ rfl) fun st e=>⟨J.st,e▸ .refl _,LR C h k⟩
  .cases h
section
variable{P:Program}{env:Env}{m:Mem}{nx:Nat}{x y:Operand}{t p:TypeId}{n n':Int}
variable{Y:YSpec}{rf:Bool}{Q:Exit->St->Prop}{st:St}{id gp i1:Nat}{rc:Array Oper}{body:Code}{α:Type}{cf:List (Nat×Nat)}{u:Nat}
end
theorem DU{P:Program}{Y:YSpec}{rf:Bool}{b:Code}{Q:Exit->St->Prop}{env:Env}{m:Mem}{nx:Nat}{l:List (Nat×D)}(he:iA l env)(K:∀ M,M=m->AW P Y rf b Q ⟨ay l,M,nx⟩):
 ∃ st',Ghost P ⟨env,m,nx⟩ st'/\AW P Y rf b Q st':=⟨_,ap he,K m rfl⟩
end Go.Abs
namespace Go.Proofs.Tryz.K
set_option maxRecDepth 100000
theorem X8:fN oc=0:=kr
theorem X9:Bd oc=tF:=kr
end Go.Proofs.Tryz.K
namespace Go.Argus
def R'(n:Int):List Int:=n::List.replicate 18 0
def Sa:D:=.sl (bk ([1,3,3,2,7].map R')) 5
def Pz:D:=.sl (bk ([3,3,7,2,7].map R')) 5
def Be:List (List D):=[[I 0],[I 1],[I 2],[I 3],[I 4]]
def T8:List (List aW):=[[],[⟨1,1,0,0,0,[]⟩],[⟨1,2,0,0, -1,[]⟩]]
def Jc(f:FuncId)(fs cs:List D):Option (List (List D)):=match Ee [(61,[.pt tF],Be)] f fs cs with
 |some x=>some x
 |none=>match fs,cs with
  |[],[.pt [e]]=>if Nat.beq f 176 then(T8.find? fun l=>z1 10 (dt l) e).map s9 else none
  |_,_=>none
def Bh:D:=.sl [.z,.sl [I 1] 1,.sl [I 1] 1,.z,.sl [I 1] 1] 5
end Go.Argus
namespace Go.Proofs.Tryz.K
set_option maxRecDepth 100000
theorem Sb:PCall prog 51 [.agg (aC oc)] (.tup [.pt tF,I 0]):=by
 have h:=Pv X8;rw[X9] at h;exact h
theorem Sc:SeqA prog 61 [.pt tF] [] Be:=s61 (f:=oc) (cnt:=[true,true,true,true,true]) oC
theorem Zs{l:List aW}{y:List D}{d:D}(hy:y∈s9 l)(hd:d∈y):Tr d:=by
 unfold s9 at hy;rw[List.mem_map] at hy;obtain⟨i,_,rfl⟩:=hy;simp only[List.mem_cons,List.not_mem_nil,or_false] at hd;rcases hd with rfl|rfl
 .exact .s _
 .exact .agg (mW _)
theorem aax{f:FuncId}{fs cs:List D}{xs:List (List D)}(h:Jc f fs cs=some xs):SeqA prog f fs cs xs/\∀ y∈xs,∀ d∈y,Tr d:=by
 unfold Jc at h;split at h
 .rename_i x hx;cases h
  exact ME (fun x hx=>by
   simp only[List.mem_singleton] at hx;subst hx;refine⟨Sc,fun y hy d hd=>?_⟩;simp only[Be,List.mem_cons,List.not_mem_nil,or_false] at hy
   rcases hy with rfl|rfl|rfl|rfl|rfl<;>(simp only[List.mem_singleton] at hd;subst hd;exact .s _)) hx
 .rename_i hn;clear hn;split at h
  .rename_i e;split at h
   .rename_i hf;rw[Option.map_eq_some_iff] at h;obtain⟨l,hl,rfl⟩:=h;have hm:=List.mem_of_find?_eq_some hl;have he:=abq 10 _ _ (List.find?_some (p:=fun l=>z1 10 (dt l) e) hl);subst he;have hf:f=176:=Nat.eq_of_beq_eq_true hf;subst hf
    have hlen:l.length<=100000:=by
     simp only[T8,List.mem_cons,List.not_mem_nil,or_false] at hm;rcases hm with rfl|rfl|rfl<;>decide
    refine⟨TQ hlen,fun y hy d hd=>?_⟩;exact Zs hy hd
   .cases h
  .cases h
noncomputable def VC:Ctx:=⟨fun f=>BH.get f,Jc,DT [(51,[.agg (aC oc)],.tup [.pt tF,I 0])]⟩
theorem PA:VC.Ok prog:=⟨mixed,HA,fun _ _ _ _ h=>aax h,
 fun _ _ _ h=>LQ (fun x hx=>by
  simp only[List.mem_singleton] at hx;subst hx
  exact Sb) h⟩
theorem ae6:PCall prog 65 [.pt tF] (.tup [Sa,Pz]):=j6 PA 1000 rfl kr
end Go.Proofs.Tryz.K
namespace Go.Proofs.Tryz.K
set_option maxRecDepth 100000
open Go.Abs
theorem abr:Eg 6 cV=.seq (.seq (.region 16 (Z cV 16) false) (.block 6 (.loop (.seq (.region 17 (Z cV 17) false) (.seq (.cond (.tmp 83) .skip (.exit 6)) (.seq (.block 7 (.seq (.region 18 (Z cV 18) false) (.seq (.region 19 (Z cV 19) false) (.region 20 (Z cV 20) true)))) (.region 21 (Z cV 21) false))))))) (.seq (.region 22 (Z cV 22) false) .ret):=by rw[T9];rfl
def lU:List (Nat×Row):=[(4,.cells [.z,.rs 11 0 1,.rs 9 0 1,.z,.rs 7 0 1] 27),(5,.cells [.rs 4 0 5] 28),(7,.cells [I 1] 3),(9,.cells [I 1] 3),(11,.cells [I 1] 3)]
noncomputable def VD:Option bQ:=match uF 0 [.agg (aC oc)] .leaf with
 |some t=>Bg (xy prog VC 1000) (Bf 6 cV) ⟨t,.leaf,0⟩
 |none=>none
theorem f39:(VD.map fun s=>(cT s.env 7,dT s.mem 4,dT s.mem 5,dT s.mem 7,dT s.mem 9,dT s.mem 11,s.nx))=some (.rp 5 0,some (.cells [.z,.rs 11 0 1,.rs 9 0 1,.z,.rs 7 0 1] 27),some (.cells [.rs 4 0 5] 28),some (.cells [I 1] 3),some (.cells [I 1] 3),some (.cells [I 1] 3),12):=kr
end Go.Proofs.Tryz.K
namespace Go.Proofs.Tryz.K
set_option maxRecDepth 10000
theorem T':PCall prog 89 [.z] (.tup []):=j6 ly 100 rfl kr
theorem Ua:PCall prog 90 [.z] .z:=j6 ly 100 rfl kr
theorem w39:AW prog noY true (.seq (.seq (.region 16 (Z cV 16) false) (.block 6 (.loop (.seq (.region 17 (Z cV 17) false) (.seq (.cond (.tmp 83) .skip (.exit 6)) (.seq (.block 7 (.seq (.region 18 (Z cV 18) false) (.seq (.region 19 (Z cV 19) false) (.region 20 (Z cV 20) true)))) (.region 21 (Z cV 21) false))))))) (.seq (.region 22 (Z cV 22) false) .ret)) (retQ prog [.tmp 2,.tmp 3] fun d _=>d=.tup [Bh,I 0]) ⟨ay [(7,.rp 5 0)],a9 lU,12⟩:=by
 refine aD (av ?_);refine aw ?_;refine ab (bG (fun s=>Ghost prog s ⟨ay [(7,.rp 5 0)],a9 lU,12⟩) (dq (α:=Nat) (fun k=>⟨ay [(7,.rp 5 0),(81,I 5),(82,I k)],a9 lU,12⟩) (fun k=>k<=5) (fun k=>5 - k) 0 (aK eH eH) (Nat.zero_le _) ?_) ?_)
 .intro k hk;refine SS ?_;refine ab ⟨_,rfl,fun h=>?_,fun h=>?_⟩
  .have ao:k<5:=by have h:(k:Int)<5:=by simpa using h
                   omega
   have hc:k=0\/k=3\/k=1\/k=2\/k=4:=by omega
   rcases hc with rfl|rfl|rfl|rfl|rfl
   .have tR:=T';have Cl:=Ua;refine ws ?_;refine ag ?_;refine er ?_;refine aF ?_;refine cl tR ?_;refine ab (iZ Aj ?_);refine bD ?_;refine cl Cl ?_;refine ag ?_;refine bj (by simp[apartT]) ?_;refine ag ?_;exact ab (aH (0+1) (aK eH eH) oG oG)
   .have tR:=T';have Cl:=Ua;refine ws ?_;refine ag ?_;refine er ?_;refine aF ?_;refine cl tR ?_;refine ab (iZ Aj ?_);refine bD ?_;refine cl Cl ?_;refine ag ?_;refine bj (by simp[apartT]) ?_;refine ag ?_;exact ab (aH (3+1) (aK eH eH) oG oG)
   .refine ws ?_;refine ag ?_;refine ab (av ?_);refine aF ?_;refine mu (tR (i:=11) (l:=[1]) oG rfl rfl oC) rfl (by repeat' (first|exact trivial|exact rfl|refine And.intro ?_ ?_)) fun d m' nx' hp=>?_;obtain⟨rfl,rfl,rfl⟩:=hp;refine ab (aJ (aK (l:=[(7,.rp 5 0),(12,I 1),(81,I 5),(82,I 1)]) (ml:=lU) eH eH) (iZ Aj ?_));refine bD ?_;refine Ec (r:=.rs 11 0 1) (ups:=[(11,some (.cells [I 1] 3))]) (rds:=[11]) (fun J X C=>?_) (fun i hi=>?_) rfl (by repeat' (first|exact trivial|exact rfl|refine And.intro ?_ ?_)) ?_
    .have e:=C 11 oS (by simp[lU,a9]);have e:J 11=some (.cells ([1].map I) 3):=e;refine Dq e zk.he fun U=>(BJ (d:=[1]) U e rfl oC).mono ?_;rintro r m' nx' ⟨h1,h2,h3⟩;exact⟨h2,h3,h1⟩
    .simp at hi;subst hi;exact⟨by simp,by simp[lU,a9]⟩
    show AOps _ _ _ _ _ _ _ ⟨up _ 96 _,up (a9 lU) 11 (some (.cells [I 1] 3)),_⟩ _;refine ag ?_;refine bj (by simp[apartT]) ?_;refine ag ?_;exact ab (aH (1+1) (aK eH eH) oG oG)
   .refine ws ?_;refine ag ?_;refine ab (av ?_);refine aF ?_;refine mu (tR (i:=9) (l:=[1]) oG rfl rfl oC) rfl (by repeat' (first|exact trivial|exact rfl|refine And.intro ?_ ?_)) fun d m' nx' hp=>?_;obtain⟨rfl,rfl,rfl⟩:=hp;refine ab (aJ (aK (l:=[(7,.rp 5 0),(12,I 2),(81,I 5),(82,I 2)]) (ml:=lU) eH eH) (iZ Aj ?_));refine bD ?_;refine Ec (r:=.rs 9 0 1) (ups:=[(9,some (.cells [I 1] 3))]) (rds:=[9]) (fun J X C=>?_) (fun i hi=>?_) rfl (by repeat' (first|exact trivial|exact rfl|refine And.intro ?_ ?_)) ?_
    .have e:=C 9 oS (by simp[lU,a9]);have e:J 9=some (.cells ([1].map I) 3):=e;refine Dq e zk.he fun U=>(BJ (d:=[1]) U e rfl oC).mono ?_;rintro r m' nx' ⟨h1,h2,h3⟩;exact⟨h2,h3,h1⟩
    .simp at hi;subst hi;exact⟨by simp,by simp[lU,a9]⟩
    show AOps _ _ _ _ _ _ _ ⟨up _ 96 _,up (a9 lU) 9 (some (.cells [I 1] 3)),_⟩ _;refine ag ?_;refine bj (by simp[apartT]) ?_;refine ag ?_;exact ab (aH (2+1) (aK eH eH) oG oG)
   .refine ws ?_;refine ag ?_;refine ab (av ?_);refine aF ?_;refine mu (tR (i:=7) (l:=[1]) oG rfl rfl oC) rfl (by repeat' (first|exact trivial|exact rfl|refine And.intro ?_ ?_)) fun d m' nx' hp=>?_;obtain⟨rfl,rfl,rfl⟩:=hp;refine ab (aJ (aK (l:=[(7,.rp 5 0),(12,I 4),(81,I 5),(82,I 4)]) (ml:=lU) eH eH) (iZ Aj ?_));refine bD ?_;refine Ec (r:=.rs 7 0 1) (ups:=[(7,some (.cells [I 1] 3))]) (rds:=[7]) (fun J X C=>?_) (fun i hi=>?_) rfl (by repeat' (first|exact trivial|exact rfl|refine And.intro ?_ ?_)) ?_
    .have e:=C 7 oS (by simp[lU,a9]);have e:J 7=some (.cells ([1].map I) 3):=e;refine Dq e zk.he fun U=>(BJ (d:=[1]) U e rfl oC).mono ?_;rintro r m' nx' ⟨h1,h2,h3⟩;exact⟨h2,h3,h1⟩
    .simp at hi;subst hi;exact⟨by simp,by simp[lU,a9]⟩
    show AOps _ _ _ _ _ _ _ ⟨up _ 96 _,up (a9 lU) 7 (some (.cells [I 1] 3)),_⟩ _;refine ag ?_;refine bj (by simp[apartT]) ?_;refine ag ?_;exact ab (aH (4+1) (aK eH eH) oG oG)
  .have aY:¬ k<5:=by intro hh;simp at h;omega
   exact aK eH eH
 .intro s hg;refine⟨_,hg,av ?_⟩;refine aw ?_;refine ab (aJ (bp [(7,[I 1],3),(9,[I 1],3),(11,[I 1],3),(4,[.z,.sl [I 1] 1,.sl [I 1] 1,.z,.sl [I 1] 1],27)] eH (l:=[(2,Bh),(3,I 0)]) ⟨?_,rfl,trivial⟩) (yQ rfl rfl rfl));show sub (fz0 4 _ (prog.cellsOf 27)) (.rs 4 0 5)=_;exact gv (by rw[sK];rfl)
theorem ae7:PCall prog 39 [.agg (aC oc)] (.tup [Bh,I 0]):=by
 have tS:∀ n,Tr (I n):=fun n=>.s _;have aR:Tr (.tup [Bh,I 0]):=nP (n:=5) rfl;refine aX mixed Ub (by rw[akl];rfl) (.cons (.agg (gz oc)) .nil) aR ?_;rw[akm];have h:=f39;unfold VD at h;cases U:uF 0 [.agg (aC oc)] .leaf with
 |none=>rw[U] at h;cases h
 |some t=>
  rw[U] at h;simp only[Option.map_eq_some_iff] at h;obtain⟨s,X,he⟩:=h;have tl:=Lc U
  have aO:(⟨t,.leaf,0⟩:bQ).st=⟨envOf [.agg (aC oc)],fun _=>none,0⟩:=by
   unfold bQ.st;rw[tl,XE]
  rw[<- aO,parts_eq 6 cV]
  have hp:∃ c cs,Bf 6 cV=c::cs:=by
   rw[T9];exact⟨_,_,rfl⟩
  obtain⟨c,cs,pU⟩:=hp;rw[pU] at X ⊢;refine LR (Pg PA 1000) X ?_;rw[abr];simp only[Prod.mk.injEq] at he;obtain⟨e7,e4,e5,C,e9,tZ,J⟩:=he;refine⟨⟨ay [(7,.rp 5 0)],a9 lU,12⟩,?_,w39⟩;have:s.st=⟨cT s.env,dT s.mem,12⟩:=by unfold bQ.st;rw[J]
  rw[this];exact aK ⟨e7,trivial⟩ ⟨e4,e5,C,e9,tZ,trivial⟩
end Go.Proofs.Tryz.K
namespace Go.Proofs.Tryz.K
set_option maxRecDepth 100000
noncomputable def cx2:Ctx:=⟨fun f=>BH.get f,Ee [(61,[.pt tF],Be)],DT [(51,[.agg (aC oc)],.tup [.pt tF,I 0]),(65,[.pt tF],.tup [Sa,Pz]),(39,[.agg (aC oc)],.tup [Bh,I 0])]⟩
theorem abt:cx2.Ok prog:=⟨mixed,HA,fun _ _ _ _ h=>ME (fun x hx=>by
 simp only[List.mem_singleton] at hx;subst hx;refine⟨Sc,fun y hy d hd=>?_⟩;simp only[Be,List.mem_cons,List.not_mem_nil,or_false] at hy
 rcases hy with rfl|rfl|rfl|rfl|rfl<;>(simp only[List.mem_singleton] at hd;subst hd;exact .s _)) h,
 fun _ _ _ h=>LQ (fun x hx=>by
  simp only[List.mem_cons,List.not_mem_nil,or_false] at hx;rcases hx with rfl|rfl|rfl
  .exact Sb
  .exact ae6
  .exact ae7) h⟩
theorem Ci:PCall prog 17 [] (B true):=j6 abt 1000 rfl kr
end Go.Proofs.Tryz.K
end
namespace Go.Argus
section
variable{V:Nat->Prop}{pl N O:Nat->Nat}
end
section
variable{E:Nat->Nat->Prop}{R:Nat->Prop}{pl:Nat->Nat}
end
section
variable{beh:Nat->List Int}{n:Nat}(hb:∀ b,∀ c∈beh b,0<=c/\c.toNat<n)(hn:0<n)
include hb hn
end
section
variable{V:Nat->Prop}{plL out:List Int}{pl:Nat->Nat}{n:Nat}
end
structure w8(beh ahd:Nat->List Int)(n:Nat):Prop where
 pos:0<n
 to:∀ b,∀ c∈beh b,0<=c/\c.toNat<n
 fro:∀ (c:Nat) (a:Int),a∈ahd c↔0<=a/\a.toNat<n/\(c:Int)∈beh a.toNat
section
variable{beh ahd:Nat->List Int}{n:Nat}(h:w8 beh ahd n)
include h
end
section
variable{beh ahd:Nat->List Int}{n:Nat}(h:w8 beh ahd n)
include h
end
section
variable{beh ahd:Nat->List Int}{n:Nat}(h:w8 beh ahd n)
include h
end
section
variable{cnt:List Bool}{ahd:Nat->List Int}{n:Nat}(Cp:∀ b,∀ a∈ahd b,0<=a/\a.toNat<n)
include Cp
end
section
variable{beh ahd:Nat->List Int}{n:Nat}(h:w8 beh ahd n)
include h
end
end Go.Argus
section
open Go Go.Abs Go.Proofs Go.Argus
namespace Go.Argus
def gk(f:aA):Nat->List Int:=bq (bw f)
def nr(f:aA):Nat->List Int:=bq (cu f.blocks)
theorem yF{f:aA}{c:Nat}(h:c<f.blocks.length):nr f c=br f.blocks f.blocks.length c:=by
 unfold nr bq;rw[List.getD_eq_getElem?_getD,CY rfl h];rfl
theorem MG{f:aA}{c:Nat}(h:f.blocks.length<=c):nr f c=[]:=by
 unfold nr bq;rw[List.getD_eq_getElem?_getD,List.getElem?_eq_none (by simp[cu];omega)];rfl
theorem Uc{f:aA}(h:iE f):w8 (gk f) (nr f) f.blocks.length:=by
 refine⟨h.pos,Go.Proofs.Tryz.K.beh_in h,fun c a=>?_⟩;rcases Nat.lt_or_ge c f.blocks.length with g|g
 .rw[yF g,Ad];constructor
  .rintro⟨b,rfl,hb,x,hx,t,ht,e⟩;refine⟨by omega,hb,?_⟩;show(c:Int)∈bq (bw f) _;rw[Int.toNat_natCast,rJ hx];have:=Go.Proofs.Tryz.K.beh_in h b t (by rw[rJ hx];exact ht);have e2:(c:Int)=t:=by omega
   rw[e2];exact ht
  .rintro⟨h0,hl,hm⟩;obtain⟨b,rfl⟩:=Int.eq_ofNat_of_zero_le h0;rw[Int.toNat_natCast] at hl hm;have hx:=List.getElem?_eq_getElem hl;have hm:(c:Int)∈bq (bw f) b:=hm;rw[rJ hx] at hm;exact⟨b,rfl,hl,_,hx,c,hm,by omega⟩
 .rw[MG g];refine⟨fun x=>by simp at x,fun⟨_,_,hm⟩=>?_⟩;have:=(Go.Proofs.Tryz.K.beh_in h _ _ hm).2;omega
theorem Zt{f:aA}(h:iE f)(b:Nat):(nr f b).length<=100000:=by
 rcases Nat.lt_or_ge b f.blocks.length with g|g
 .rw[yF g];have:=CX (bs:=f.blocks) (fun b hb=>by have:=(h.ends b hb).wh;omega) f.blocks.length b;have:=h.mK;omega
 .rw[MG g];simp
def Hk(l:List Int):Prop:=∀ (i j:Nat) x y,i<=j->l[i]? =some x->l[j]? =some y->x<=y
end Go.Argus
end
namespace Go.Argus
open Go Go.Abs
def amo(l:List Int)(j k:Nat):Prop:=(∀ p q,p<q->q<=k->p≠j->q≠j->l.getD p 0<=l.getD q 0)/\∀ q,j<q->q<=k->l.getD j 0<=l.getD q 0
def UK(l:List Int)(k:Nat):Prop:=∀ p q,p<=q->q<=k->l.getD p 0<=l.getD q 0
theorem L6{l:List Int}{j:Nat}(h:j+1<l.length)(i:Nat):(swapAt l j).getD i 0=if i=j then l.getD (j+1) 0 else if i=j+1 then l.getD j 0 else l.getD i 0:=by
 unfold swapAt;simp only[List.getD_eq_getElem?_getD,List.getElem?_set,List.length_set];by_cases e:j=i
 .subst e;rw[if_pos rfl,if_pos rfl,if_pos oG];rfl
 .rw[if_neg e,if_neg (show ¬ i=j from fun h=>e h.symm)];by_cases e2:j+1=i
  .subst e2;rw[if_pos rfl,if_pos rfl,if_pos h];rfl
  .rw[if_neg e2,if_neg (show ¬ i=j+1 from fun h=>e2 h.symm)]
theorem ON{k:Nat}:∀ {j:Nat} {l:List Int},j<=k->k<l.length->amo l j k->UK (nk l j) k
 |0,l,_,_,h=>fun p q J hq=>by
  rw[nk];rcases Nat.lt_or_ge p q with g|g
  .by_cases hp:p=0
   .subst hp;exact h.2 q g hq
   .exact h.1 p q g hq hp oG
  .have:p=q:=by omega
   subst this;exact Int.le_refl _
 |j+1,l,hj,hk,h=>by
  rw[nk];split
  .rename_i ao;have C:=L6 (l:=l) (j:=j) oG;refine ON oG (by simpa using hk) ⟨fun p q J hq hp U=>?_,fun q hq X=>?_⟩
   .rw[C,C,if_neg hp,if_neg U];by_cases e1:p=j+1
    .rw[if_pos e1,if_neg oG];exact h.1 j q oG hq oG oG
    .rw[if_neg e1];by_cases e2:q=j+1
     .rw[if_pos e2];exact h.1 p j oG oG e1 oG
     .rw[if_neg e2];exact h.1 p q J hq e1 e2
   .rw[C,C,if_pos rfl,if_neg oG];by_cases e2:q=j+1
    .rw[if_pos e2];omega
    .rw[if_neg e2];exact h.2 q oG X
  .rename_i aY;intro p q J hq;rcases Nat.lt_or_ge p q with g|g
   .by_cases e1:p=j+1
    .subst e1;exact h.2 q g hq
    .by_cases e2:q=j+1
     .subst e2;by_cases e3:p=j
      .subst e3;omega
      .have:=h.1 p j oG oG oG oG;omega
     .exact h.1 p q g hq e1 e2
   .have:p=q:=by omega
    subst this;exact Int.le_refl _
theorem MP{i:Nat}:∀ {j:Nat} {l:List Int},j<i->j<l.length->(nk l j).getD i 0=l.getD i 0
 |0,l,_,_=>rfl
 |j+1,l,h,hl=>by
  rw[nk];split
  .rw[MP oG oP,L6 oG,if_neg oG,if_neg oG]
  .rfl
theorem MQ{l:List Int}:∀ k,k<l.length->UK (lB l k) k/\∀ i,k<i->(lB l k).getD i 0=l.getD i 0
 |0,_=>⟨fun p q C hq=>by
  have:p=q:=by omega
  subst this;exact Int.le_refl _,fun _ _=>rfl⟩
 |k+1,hk=>by
  obtain⟨h1,h2⟩:=MQ (l:=l) k oG;rw[lB];refine⟨ON (Nat.le_refl _) (by simpa using hk) ⟨fun p q C hq hp J=>h1 p q oG oG,fun q hq J=>by omega⟩,fun i hi=>?_⟩;rw[MP hi oP];exact h2 i oG
theorem Wr(l:List Int):Hk (eI l):=fun i j x y C hx hy=>by
 obtain⟨hj,J⟩:=List.getElem?_eq_some_iff.1 hy;have hl:(eI l).length=l.length:=Ga l;have h:=(MQ (l:=l) (l.length - 1) oG).1 i j C oG;have e:lB l (l.length - 1)=eI l:=rfl;rw[e,List.getD_eq_getElem?_getD,List.getD_eq_getElem?_getD,hx,hy] at h;exact h
theorem QO{d:List Int}(J:Hk d):∀ t,t<=d.length->(ep d t).Pairwise (·<·)/\(0<t->∀ x∈ep d t,x<=d.getD (t - 1) 0)
 |0,_=>⟨by simp[ep],fun h=>absurd h (Nat.lt_irrefl 0)⟩
 |t+1,ht=>by
  obtain⟨h1,h2⟩:=QO J t oG
  have hg:∀ i,i<d.length->d[i]? =some (d.getD i 0):=fun i hi=>by
   have:=List.getElem?_eq_getElem hi;rw[List.getD_eq_getElem?_getD,this];rfl
  have C:∀ x∈ep d t,x<=d.getD t 0:=fun x hx=>by
   have h0:0<t:=by
    cases t with
    |zero=>simp[ep] at hx
    |succ t=>omega
   have a:=h2 h0 x hx;have b:=J (t - 1) t _ _ oG (hg _ oG) (hg _ oG);omega
  rw[ep];split
  .rw[List.append_nil];exact⟨h1,fun _ x hx=>by rw[Nat.add_sub_cancel];exact C x hx⟩
  .rename_i U;refine⟨?_,fun _ x hx=>?_⟩
   .rw[List.pairwise_append];refine⟨h1,by simp,fun x hx y hy=>?_⟩;rw[List.mem_singleton] at hy;subst hy
    have h0:0<t:=by
     cases t with
     |zero=>simp[ep] at hx
     |succ t=>omega
    have a:=h2 h0 x hx;have b:=J (t - 1) t _ _ oG (hg _ oG) (hg _ oG);have c:d.getD t 0≠d.getD (t - 1) 0:=fun e=>U ⟨by omega,e⟩;omega
   .rw[Nat.add_sub_cancel];rw[List.mem_append,List.mem_singleton] at hx;rcases hx with hx|hx
    .exact C x hx
    .rw[hx];exact Int.le_refl _
theorem WE{d:List Int}(C:Hk d):(jE d).Pairwise (·<·):=(QO C _ (Nat.le_refl _)).1
theorem L7(x:End):(Go.Proofs.Tryz.K.nextR x).Pairwise (·<·):=WE (Wr _)
theorem Xv{b:Nat}:∀ (l:List Int) (L:Nat->List Int),l.Pairwise (·<·)->(∀ t∈l,0<=t)->(∀ i,(L i).Pairwise (·<·)/\∀ x∈L i,x<(b:Int))->
 ∀ i,(l.foldl (cS b) L i).Pairwise (·<·)/\(∀ x∈l.foldl (cS b) L i,x<(b:Int)+1):=fun l=>by
 have key:∀ (l:List Int) (L:Nat->List Int),l.Pairwise (·<·)->(∀ t∈l,0<=t)->∀ i,l.foldl (cS b) L i=L i++(if(i:Int)∈l then [(b:Int)] else []):=fun l=>by
  induction l with
  |nil=>intro L _ _ i;simp
  |cons t l ih=>
   intro L hp h0 i;rw[List.pairwise_cons] at hp;have ht:=h0 t oS;obtain⟨C,rfl⟩:=Int.eq_ofNat_of_zero_le ht;rw[List.foldl_cons,ih _ hp.2 (fun t h=>h0 t (by simp[h]))];unfold cS;simp only[Int.toNat_natCast,up];by_cases e:i=C
   .subst e;rw[if_pos rfl,if_neg (fun h=>by have:=hp.1 _ h;omega),if_pos oS,List.append_nil]
   .rw[if_neg e];congr 1;have:¬ (i:Int)=C:=by omega
    simp[this]
 intro L hp h0 J i;rw[key l L hp h0 i];obtain⟨h1,h2⟩:=J i;split
 .refine⟨?_,fun x hx=>?_⟩
  .rw[List.pairwise_append];exact⟨h1,by simp,fun x hx y hy=>by rw[List.mem_singleton] at hy;rw[hy];exact h2 x hx⟩
  .rw[List.mem_append,List.mem_singleton] at hx;rcases hx with hx|hx
   .have:=h2 x hx;omega
   .omega
 .rw[List.append_nil];exact⟨h1,fun x hx=>by have:=h2 x hx;omega⟩
theorem C0{bs:List bt}(h0:∀ b∈bs,∀ t∈Go.Proofs.Tryz.K.nextR b.fin,0<=t):∀ k i,(br bs k i).Pairwise (·<·)/\∀ x∈br bs k i,x<(k:Int)
 |0,i=>by simp[br]
 |k+1,i=>by
  have ih:=C0 h0 k;have e:br bs (k+1)=nQ bs (br bs k) k:=by rw[br,List.range_succ,List.foldl_append];rfl
  rw[e];unfold nQ;cases hx:bs[k]? with
  |none=>exact⟨(ih i).1,fun x hx=>by have:=(ih i).2 x hx;omega⟩
  |some b=>
   obtain⟨h1,h2⟩:=Xv (b:=k) (Go.Proofs.Tryz.K.nextR b.fin) (br bs k) (L7 _) (h0 b (List.mem_of_getElem? hx)) ih i;exact⟨h1,fun x hx=>by have:=h2 x hx;omega⟩
end Go.Argus
section
open Go Go.Abs Go.Proofs Go.Argus
namespace Go.Argus
def aay(p:Int×List Int):List D:=[I p.1,az p.2]
@[simp] theorem aoq (p : Int × List Int) : (aay p).length = 2 := rfl
end Go.Argus
end
namespace Go.Argus
open Go Go.Abs
open Go.Proofs.Tryz.K (nextR)
structure eD(w:List Int):Prop where
 len:w.length=20
 all:dk w
theorem eD.fP{w:List Int}(h:eD w)(n:Int):eD (fP w n):=⟨by simp[h.len],Lj h.all⟩
theorem dk.dY{w v:List Int}(h:dk w)(hv:dk v):∀ k,dk (dY w v k)
 |0=>h
 |k+1=>(dk.dY h hv k).set (LD ((dk.dY h hv k).get _)).1
theorem L8{w v:List Int}(h:dk w)(hv:dk v):∀ k,k<=w.length->∀ r,a7 (dY w v k) r=(a7 w r&&(a7 v r|| !decide (r / 64<k)))
 |0,_,r=>by simp[Argus.dY]
 |k+1,hk,r=>by
  have ih:=L8 h hv k oG;rw[Argus.dY,DL oP];split
  .rename_i e;have h1:=ih r;have h2:¬ r / 64<k:=by omega
   simp only[h2,decide_false,Bool.not_false,Bool.or_true,Bool.and_true] at h1;unfold a7 at h1;rw[e] at h1;rw[QP ((dk.dY h hv k).get _) (hv.get _),h1];unfold a7;rw[e];simp
  .rename_i e;rw[ih r];have:decide (r / 64<k)=decide (r / 64<k+1):=decide_eq_decide.2 oG;rw[this]
theorem GU{w v:List Int}(C:eD w)(hv:eD v)(r:Nat):a7 (fQ w v) r=(a7 w r&&a7 v r):=by
 unfold fQ;rw[L8 C.all hv.all 20 (by rw[C.len];exact Nat.le_refl _)];by_cases hr:r / 64<20
 .simp[hr]
 .have:a7 w r=false:=by
   unfold a7;rw[List.getD_eq_getElem?_getD,List.getElem?_eq_none (by rw[C.len];omega)];simp
  simp[this]
theorem eD.Jq{w v:List Int}(C:eD w)(hv:eD v):eD (fQ w v):=⟨by simp[C.len],C.all.dY hv.all 20⟩
theorem Di{α:Type}{f:CS->α->CS}(hk:∀ s a,s.ch=true->(f s a).ch=true)(hn:∀ s a,(f s a).ch=false->f s a=s):∀ (l:List α) (s:CS),(l.foldl f s).ch=false->l.foldl f s=s/\∀ a∈l,f s a=s
 |[],s,_=>⟨rfl,fun a ha=>by simp at ha⟩
 |a::l,s,h=>by
  obtain⟨h1,h2⟩:=Di hk hn l (f s a) h;have h3:f s a=s:=hn s a (by rw[<- h1];exact h);rw[h3] at h1 h2;refine⟨by rw[List.foldl_cons,h3];exact h1,fun b hb=>?_⟩;rcases List.mem_cons.1 hb with rfl|hb
  .exact h3
  .exact h2 b hb
theorem MR{α:Type}{f:CS->α->CS}(hk:∀ s a,s.ch=true->(f s a).ch=true):∀ (l:List α) (s:CS),s.ch=true->(l.foldl f s).ch=true
 |[],_,h=>h
 |a::l,s,h=>MR hk l (f s a) (hk s a h)
theorem HG{x:End}{w:List Int}(s:CS)(t:Int)(h:s.ch=true):(cg x w s t).ch=true:=by
 unfold cg;split
 .rfl
 .exact h
theorem QQ{x:End}{w:List Int}(s:CS)(t:Int)(h:(cg x w s t).ch=false):cg x w s t=s:=by
 unfold cg at h ⊢;split
 .rename_i hc;rw[if_pos hc] at h;cases h
 .rfl
theorem ZN{bs:List bt}(s:CS)(k:Nat)(h:s.ch=true):(c7 bs s k).ch=true:=by
 unfold c7;split
 .exact h
 .split
  .exact MR HG _ s h
  .exact h
theorem ZO{bs:List bt}(s:CS)(k:Nat)(h:(c7 bs s k).ch=false):c7 bs s k=s:=by
 unfold c7 at h ⊢;split
 .rfl
 .rename_i x hx;rw[hx] at h;simp only at h;split
  .rename_i hr;rw[if_pos hr] at h;exact(Di HG QQ _ s h).1
  .rfl
structure UL(bs:List bt)(s:CS):Prop where
 fix:∀ b x,bs[b]? =some x->s.re.getD b false=true->∀ t∈nextR x.fin,s.re.getD t.toNat false=true/\fQ (s.ws.getD t.toNat []) (fq x.fin t (g9 x (s.ws.getD b [])).1)=s.ws.getD t.toNat []
theorem ZP{bs:List bt}{s:CS}(h:(iX bs s).ch=false):iX bs s=⟨s.ws,s.re,false⟩/\UL bs (iX bs s):=by
 obtain⟨h1,h2⟩:=Di (ZN (bs:=bs)) (ZO (bs:=bs)) (List.range bs.length) ⟨s.ws,s.re,false⟩ h;have e:iX bs s=⟨s.ws,s.re,false⟩:=h1;refine⟨e,⟨fun b x hx hr t ht=>?_⟩⟩;rw[e] at hr ⊢;have h3:=h2 b (List.mem_range.2 (List.getElem?_eq_some_iff.1 hx).1);have h4:(c7 bs ⟨s.ws,s.re,false⟩ b).ch=false:=by rw[h3]
 unfold c7 at h3 h4;rw[hx] at h3 h4;simp only at h3 h4 hr;rw[if_pos hr] at h3 h4;have h5:=(Di HG QQ _ _ h4).2 t ht;have C:(cg x.fin (g9 x (s.ws.getD b [])).1 ⟨s.ws,s.re,false⟩ t).ch=false:=by rw[h5]
 unfold cg at C;split at C
 .cases C
 .rename_i hc;have hc:=not_or.1 hc;refine⟨by simpa using hc.1,Classical.byContradiction fun J=>hc.2 J⟩
theorem MS{bs:List bt}{n:Nat}{J:CS->Prop}(hb:∀ b∈bs,qF n b)(C:∀ s,eK n s->J s->J (iX bs s)):∀ (k:Nat) (s:CS),eK n s->J s->oO s<k->eK n (ll bs k s)/\UL bs (ll bs k s)/\J (ll bs k s)
 |0,s,_,_,h=>absurd h (Nat.not_lt_zero _)
 |k+1,s,hs,hj,h=>by
  obtain⟨U,X⟩:=Aa hb hs;unfold ll;split
  .rename_i hc;refine MS hb C k _ U (C s hs hj) ?_;unfold mL at X;rw[if_pos hc] at X;omega
  .rename_i hc;exact⟨U,(ZP (by simpa using hc)).2,C s hs hj⟩
theorem ZQ{bs:List bt}{n:Nat}{J:CS->Prop}(hb:∀ b∈bs,qF n b)(h0:∀ s,J s->J ⟨s.ws,s.re,false⟩)(U:∀ s k,eK n s->J s->J (c7 bs s k)){s:CS}(C:eK n s)(h:J s):J (iX bs s):=by
 unfold iX
 have:∀ (l:List Nat) (s:CS),eK n s->J s->J (l.foldl (c7 bs) s):=fun l=>by
  induction l with
  |nil=>exact fun s _ h=>h
  |cons a l ih=>exact fun s C h=>ih _ (GG hb C).1 (U s a C h)
 exact this _ _ ⟨C.lw,C.lr,C.iU,C.rg⟩ (h0 s h)
theorem aaK{bs:List bt}{n:Nat}{J:CS->Prop}(hb:∀ b∈bs,qF n b){s:CS}{k:Nat}(hs:eK n s)(h:J s)
 (C:∀ x,bs[k]? =some x->s.re.getD k false=true->∀ u,eK n u->J u->∀ t∈nextR x.fin,J (cg x.fin (g9 x (s.ws.getD k [])).1 u t)):J (c7 bs s k):=by
 unfold c7;split
 .exact h
 .rename_i x hx;split
  .rename_i hr;have C:=C x hx hr;have X:=(hb x (List.mem_of_getElem? hx)).to;generalize (g9 x (s.ws.getD k [])).1=w at C
   have:∀ (l:List Int),(∀ t∈l,t∈nextR x.fin)->∀ u,eK n u->J u->J (l.foldl (cg x.fin w) u):=fun l=>by
    induction l with
    |nil=>exact fun _ u _ h=>h
    |cons a l ih=>exact fun hl u U h=>ih (fun t ht=>hl t (by simp[ht])) _ (CV U (X a (hl a oS))).1 (C u U h a (hl a oS))
   exact this _ (fun _ h=>h) s hs h
  .exact h
theorem eK.lb{n:Nat}{s:CS}(h:eK n s){b:Nat}(hb:b<n):eD (s.ws.getD b []):=by
 have hl:b<s.ws.length:=by rw[h.lw];exact hb
 have hx:s.ws[b]? =some s.ws[b]:=List.getElem?_eq_getElem hl;rw[getD_some hx];have hm:s.ws[b]∈s.ws:=List.getElem_mem _;exact⟨h.iU _ hm,h.rg _ hm⟩
section
variable{bs:List bt}{args:Nat}(hb:∀ b∈bs,qF bs.length b)
include hb
end
end Go.Argus
namespace Go.Proofs.Tryz.K
open Go.Abs
theorem Yn:drawInfo (Z dz 16)=some [(17,19)]:=kr
theorem Yo:drawInfo (Z dz 18)=some [(0,2)]:=kr
theorem Yp:drawInfo (Z dz 26)=some [(0,9)]:=kr
theorem Yq:drawInfo (Z dz 27)=some []:=kr
theorem Yr:drawInfo (Z dz 29)=some [(0,7)]:=kr
theorem akF:dz=(S1 (G1 dz 0) (S1 (G1 dz 1) (S1 (S1 (G1 dz 2) (C1 17 (S1 (G1 dz 3) .ret) K1)) (S1 (G1 dz 4) (S1 (G1 dz 5) (S1 (S1 (G1 dz 6) (B1 0 (.loop (S1 (S1 (G1 dz 7) (C1 26 K1 (X1 0))) (S1 (B1 1 (S1 (S1 (G1 dz 9) (C1 33 (X1 1) K1)) (S1 (G1 dz 10) (S1 (G1 dz 11) (S1 (S1 (G1 dz 12) (B1 2 (.loop (S1 (S1 (G1 dz 13) (C1 47 K1 (X1 2))) (S1 (B1 3 (S1 (G1 dz 15) (S1 (S1 (G2 dz 16) (C1 76 (S1 (G1 dz 17) .ret) K1)) (S1 (G2 dz 18) (S1 (S1 (G1 dz 19) (C1 83 (G1 dz 20) K1)) (S1 (G1 dz 21) (B1 4 (.loop (S1 (S1 (G1 dz 22) (C1 101 K1 (X1 4))) (S1 (B1 5 (S1 (G1 dz 24) (S1 (S1 (G1 dz 25) (C1 115 (X1 5) K1)) (S1 (G2 dz 26) (S1 (G2 dz 27) (C1 136 (S1 (G1 dz 28) .ret) K1)))))) (G1 dz 23))))))))))) (G1 dz 14)))))) (S1 (G2 dz 29) (C1 146 (S1 (G1 dz 30) .ret) K1))))))) (G1 dz 8)))))) (S1 (G1 dz 31) .ret))))))):=kr
theorem Zy:drawInfo (Z mg 9)=some [(3,14),(4,14)]:=kr
theorem akz:mg=(S1 (G1 mg 0) (S1 (G1 mg 1) (S1 (S1 (G1 mg 2) (B1 0 (.loop (S1 (S1 (G1 mg 3) (C1 15 K1 (X1 0))) (S1 (B1 1 (S1 (G1 mg 5) (S1 (G1 mg 6) (B1 2 (.loop (S1 (S1 (G1 mg 7) (C1 24 K1 (X1 2))) (S1 (B1 3 (G2 mg 9)) (G1 mg 8)))))))) (G1 mg 4)))))) (S1 (G1 mg 10) .ret)))):=kr
theorem akw:qA=(S1 (G1 qA 0) (S1 (G1 qA 1) (S1 (G1 qA 2) (S1 (S1 (G1 qA 3) (B1 0 (.loop (S1 (S1 (G1 qA 4) (C1 18 K1 (X1 0))) (S1 (B1 1 (G1 qA 6)) (G1 qA 5)))))) (S1 (G1 qA 7) .ret))))):=kr
theorem akt:qC=(S1 (G1 qC 0) (S1 (G1 qC 1) (S1 (B1 0 (.loop (S1 (S1 (G1 qC 2) (C1 18 K1 (X1 0))) (B1 1 (G1 qC 3))))) (S1 (S1 (G1 qC 4) (C1 32 (S1 (G1 qC 5) .ret) K1)) (S1 (G1 qC 6) (S1 (G1 qC 7) .ret)))))):=kr
theorem Xe:drawInfo (Z de 12)=some []:=kr
theorem Xf:drawInfo (Z de 26)=some []:=kr
theorem agF:de=(S1 (G1 de 0) (S1 (G1 de 1) (S1 (S1 (G1 de 2) (C1 18 (S1 (G1 de 3) .ret) K1)) (S1 (G1 de 4) (S1 (S1 (G1 de 5) (B1 0 (.loop (S1 (S1 (G1 de 6) (C1 25 K1 (X1 0))) (S1 (B1 1 (S1 (G1 de 8) (S1 (G1 de 9) (B1 2 (.loop (S1 (S1 (G1 de 10) (C1 38 K1 (X1 2))) (S1 (B1 3 (S1 (G2 de 12) (S1 (G1 de 13) (C1 48 (S1 (G1 de 14) .ret) K1)))) (G1 de 11)))))))) (G1 de 7)))))) (S1 (G1 de 15) (S1 (G1 de 16) (S1 (S1 (G1 de 17) (B1 4 (.loop (S1 (S1 (G1 de 18) (C1 60 K1 (X1 4))) (S1 (B1 5 (S1 (G1 de 20) (S1 (S1 (G1 de 21) (C1 71 (S1 (G1 de 22) .ret) K1)) (S1 (S1 (G1 de 23) (B1 6 (.loop (S1 (S1 (G1 de 24) (C1 75 K1 (X1 6))) (S1 (B1 7 (S1 (G2 de 26) (C1 106 (S1 (G1 de 27) .ret) K1))) (G1 de 25)))))) (S1 (G1 de 28) (S1 (G1 de 29) (S1 (S1 (G1 de 30) (C1 117 (S1 (G1 de 31) .ret) K1)) (S1 (G1 de 32) (C1 120 (S1 (S1 (G1 de 33) (C1 125 (S1 (G1 de 34) .ret) K1)) (G1 de 35)) K1))))))))) (G1 de 19)))))) (S1 (G1 de 36) .ret))))))))):=kr
theorem Xl:drawInfo (Z df 19)=some []:=kr
theorem Xm:drawInfo (Z df 25)=some [(0,8)]:=kr
theorem Xn:drawInfo (Z df 30)=some []:=kr
theorem Xo:drawInfo (Z df 32)=some []:=kr
theorem agW:df=(S1 (G1 df 0) (S1 (G1 df 1) (S1 (G1 df 2) (S1 (S1 (G1 df 3) (B1 0 (.loop (S1 (S1 (G1 df 4) (C1 30 K1 (X1 0))) (S1 (B1 1 (G1 df 6)) (G1 df 5)))))) (S1 (G1 df 7) (S1 (S1 (G1 df 8) (B1 2 (.loop (S1 (S1 (G1 df 9) (C1 45 K1 (X1 2))) (S1 (B1 3 (G1 df 11)) (G1 df 10)))))) (S1 (S1 (G1 df 12) (B1 4 (.loop (S1 (S1 (G1 df 13) (C1 54 K1 (X1 4))) (B1 5 (S1 (G1 df 14) (S1 (G1 df 15) (B1 6 (.loop (S1 (S1 (G1 df 16) (C1 58 K1 (X1 6))) (S1 (B1 7 (S1 (S1 (G1 df 18) (C1 65 (X1 7) K1)) (S1 (G2 df 19) (S1 (G1 df 20) (S1 (G1 df 21) (B1 8 (.loop (S1 (S1 (G1 df 22) (C1 79 K1 (X1 8))) (S1 (B1 9 (S1 (G1 df 24) (S1 (G2 df 25) (S1 (G1 df 26) (S1 (S1 (G1 df 27) (B1 10 (.loop (S1 (S1 (G1 df 28) (C1 106 K1 (X1 10))) (S1 (B1 11 (G2 df 30)) (G1 df 29)))))) (S1 (G1 df 31) (C1 124 (S1 (G2 df 32) (G1 df 33)) K1))))))) (G1 df 23)))))))))) (G1 df 17)))))))))))) (S1 (G1 df 34) .ret)))))))):=kr
theorem Yd:drawInfo (Z qk 4)=some []:=kr
theorem af4:qk=(S1 (G1 qk 0) (S1 (S1 (G1 qk 1) (B1 0 (.loop (S1 (S1 (G1 qk 2) (C1 9 K1 (X1 0))) (S1 (B1 1 (S1 (G2 qk 4) (C1 20 (S1 (G1 qk 5) .ret) K1))) (G1 qk 3)))))) (S1 (G1 qk 6) .ret))):=kr
theorem agf:dV=(S1 (G1 dV 0) (S1 (S1 (G1 dV 1) (B1 0 (S1 (S1 (G1 dV 2) (C1 5 K1 (S1 (G1 dV 3) (C1 5 K1 (S1 (G1 dV 4) (C1 5 K1 (S1 (G1 dV 5) (C1 5 K1 (S1 (G1 dV 6) (C1 5 K1 (S1 (G1 dV 7) (C1 5 K1 (S1 (G1 dV 8) (C1 5 K1 (S1 (G1 dV 9) (C1 5 K1 (G1 dV 10))))))))))))))))) (C1 5 (S1 (G1 dV 11) .ret) (S1 (S1 (G1 dV 12) (C1 18 K1 (S1 (G1 dV 13) (C1 18 K1 (S1 (G1 dV 14) (C1 18 K1 (S1 (G1 dV 15) (C1 18 K1 (S1 (G1 dV 16) (C1 18 K1 (S1 (G1 dV 17) (C1 18 K1 (S1 (G1 dV 18) (C1 18 K1 (S1 (G1 dV 19) (C1 18 K1 (S1 (G1 dV 20) (C1 18 K1 (S1 (G1 dV 21) (C1 18 K1 (S1 (G1 dV 22) (C1 18 K1 (S1 (G1 dV 23) (C1 18 K1 (G1 dV 24))))))))))))))))))))))))) (C1 18 (S1 (G1 dV 25) .ret) (S1 (G1 dV 26) (C1 37 (S1 (G1 dV 27) .ret) (S1 (G1 dV 28) (C1 43 (S1 (G1 dV 29) .ret) K1)))))))))) (S1 (G1 dV 30) .ret))):=kr
theorem Ye:drawInfo (Z rQ 3)=some [(2,3),(2,4),(0,5),(1,5)]:=kr
theorem af7:rQ=(S1 (G1 rQ 0) (S1 (S1 (G1 rQ 1) (C1 7 (S1 (G1 rQ 2) .ret) K1)) (S1 (G2 rQ 3) (S1 (G1 rQ 4) (S1 (G1 rQ 5) .ret))))):=kr
theorem af':eZ=(S1 (G1 eZ 0) (S1 (S1 (G1 eZ 1) (B1 0 (S1 (S1 (G1 eZ 2) (C1 5 K1 (S1 (G1 eZ 3) (C1 5 K1 (S1 (G1 eZ 4) (C1 5 K1 (S1 (G1 eZ 5) (C1 5 K1 (S1 (G1 eZ 6) (C1 5 K1 (S1 (G1 eZ 7) (C1 5 K1 (S1 (G1 eZ 8) (C1 5 K1 (S1 (G1 eZ 9) (C1 5 K1 (S1 (G1 eZ 10) (C1 5 K1 (S1 (G1 eZ 11) (C1 5 K1 (S1 (G1 eZ 12) (C1 5 K1 (S1 (G1 eZ 13) (C1 5 K1 (S1 (G1 eZ 14) (C1 5 K1 (S1 (G1 eZ 15) (C1 5 K1 (S1 (G1 eZ 16) (C1 5 K1 (S1 (G1 eZ 17) (C1 5 K1 (S1 (G1 eZ 18) (C1 5 K1 (S1 (G1 eZ 19) (C1 5 K1 (S1 (G1 eZ 20) (C1 5 K1 (S1 (G1 eZ 21) (C1 5 K1 (S1 (G1 eZ 22) (C1 5 K1 (G1 eZ 23))))))))))))))))))))))))))))))))))))))))))) (C1 5 (S1 (G1 eZ 24) .ret) K1)))) (S1 (G1 eZ 25) .ret))):=kr
theorem Xi:drawInfo (Z l6 10)=some [(0,2)]:=kr
theorem agT:l6=(S1 (G1 l6 0) (S1 (G1 l6 1) (S1 (G1 l6 2) (S1 (G1 l6 3) (S1 (S1 (G1 l6 4) (B1 0 (.loop (S1 (S1 (G1 l6 5) (C1 24 K1 (X1 0))) (S1 (B1 1 (G1 l6 7)) (G1 l6 6)))))) (S1 (S1 (G1 l6 8) (C1 52 (S1 (G1 l6 9) .ret) K1)) (S1 (G2 l6 10) .ret))))))):=kr
theorem Yj:drawInfo (Z mX 5)=some [(0,5)]:=kr
theorem Yk:drawInfo (Z mX 7)=some []:=kr
theorem agQ:mX=(S1 (G1 mX 0) (S1 (G1 mX 1) (S1 (S1 (G1 mX 2) (B1 0 (.loop (S1 (S1 (G1 mX 3) (C1 18 K1 (X1 0))) (S1 (B1 1 (S1 (G2 mX 5) (S1 (G1 mX 6) (C1 33 (G2 mX 7) K1)))) (G1 mX 4)))))) (S1 (G1 mX 8) .ret)))):=kr
theorem agj:jJ=(S1 (G1 jJ 0) (S1 (S1 (G1 jJ 1) (B1 0 (S1 (S1 (G1 jJ 2) (C1 5 K1 (S1 (G1 jJ 3) (C1 5 K1 (G1 jJ 4))))) (C1 5 (S1 (G1 jJ 5) .ret) (S1 (G1 jJ 6) (C1 12 (S1 (S1 (G1 jJ 7) (C1 16 (S1 (G1 jJ 8) .ret) K1)) (S1 (G1 jJ 9) .ret)) (S1 (G1 jJ 10) (C1 20 (S1 (G1 jJ 11) .ret) (S1 (S1 (G1 jJ 12) (C1 25 K1 (G1 jJ 13))) (C1 25 (S1 (G1 jJ 14) .ret) K1)))))))))) (S1 (G1 jJ 15) .ret))):=kr
theorem af1:lu=(S1 (G1 lu 0) (S1 (G1 lu 1) (S1 (S1 (G1 lu 2) (C1 12 (G1 lu 3) K1)) (S1 (S1 (G1 lu 4) (C1 25 (G1 lu 5) K1)) (S1 (S1 (G1 lu 6) (B1 0 (.loop (S1 (S1 (G1 lu 7) (C1 35 K1 (X1 0))) (S1 (B1 1 (G1 lu 9)) (G1 lu 8)))))) (S1 (S1 (G1 lu 10) (C1 49 (G1 lu 11) K1)) (S1 (G1 lu 12) .ret))))))):=kr
theorem agc:nN=(S1 (G1 nN 0) (S1 (S1 (G1 nN 1) (B1 0 (S1 (G1 nN 2) (C1 5 (S1 (G1 nN 3) .ret) (S1 (S1 (G1 nN 4) (C1 10 K1 (G1 nN 5))) (C1 10 (S1 (G1 nN 6) .ret) (S1 (G1 nN 7) (C1 15 (S1 (G1 nN 8) .ret) K1)))))))) (S1 (G1 nN 9) .ret))):=kr
theorem W8:drawInfo (Z gP 16)=some []:=kr
theorem agm:gP=(S1 (G1 gP 0) (S1 (S1 (G1 gP 1) (C1 58 (S1 (G1 gP 2) .ret) K1)) (S1 (S1 (G1 gP 3) (B1 0 (.loop (S1 (S1 (G1 gP 4) (C1 63 K1 (X1 0))) (S1 (B1 1 (S1 (G1 gP 6) (C1 93 (S1 (G1 gP 7) .ret) K1))) (G1 gP 5)))))) (S1 (S1 (G1 gP 8) (B1 2 (.loop (S1 (S1 (G1 gP 9) (C1 98 K1 (X1 2))) (S1 (B1 3 (S1 (G1 gP 11) (C1 114 (S1 (G1 gP 12) .ret) K1))) (G1 gP 10)))))) (S1 (S1 (G1 gP 13) (B1 4 (.loop (S1 (S1 (G1 gP 14) (C1 119 K1 (X1 4))) (S1 (B1 5 (S1 (G2 gP 16) (C1 146 (S1 (G1 gP 17) .ret) K1))) (G1 gP 15)))))) (S1 (G1 gP 18) .ret)))))):=kr
theorem afA:AI=(S1 (G1 AI 0) (S1 (G1 AI 1) .ret)):=kr
theorem W9:drawInfo (Z cJ 35)=some []:=kr
theorem Xa:drawInfo (Z cJ 40)=some []:=kr
theorem agu:cJ=(S1 (G1 cJ 0) (S1 (S1 (G1 cJ 1) (B1 0 (S1 (G1 cJ 2) (C1 10 (S1 (G1 cJ 3) .ret) (S1 (G1 cJ 4) (C1 25 (S1 (G1 cJ 5) .ret) (S1 (S1 (G1 cJ 6) (C1 37 K1 (S1 (G1 cJ 7) (C1 37 K1 (S1 (G1 cJ 8) (C1 37 K1 (G1 cJ 9))))))) (C1 37 (S1 (G1 cJ 10) .ret) (S1 (G1 cJ 11) (C1 62 (S1 (G1 cJ 12) .ret) (S1 (G1 cJ 13) (C1 80 (S1 (G1 cJ 14) .ret) (S1 (G1 cJ 15) (C1 96 (S1 (G1 cJ 16) .ret) (S1 (G1 cJ 17) (C1 111 (S1 (G1 cJ 18) .ret) (S1 (G1 cJ 19) (C1 138 (S1 (G1 cJ 20) .ret) (S1 (G1 cJ 21) (C1 159 (S1 (G1 cJ 22) .ret) (S1 (S1 (G1 cJ 23) (C1 180 K1 (G1 cJ 24))) (C1 180 (S1 (G1 cJ 25) .ret) (S1 (G1 cJ 26) (C1 197 (S1 (G1 cJ 27) .ret) (S1 (G1 cJ 28) (C1 207 (S1 (G1 cJ 29) .ret) (S1 (G1 cJ 30) (C1 217 (S1 (G1 cJ 31) .ret) (S1 (G1 cJ 32) (C1 229 (S1 (G1 cJ 33) .ret) (S1 (G1 cJ 34) (C1 241 (S1 (S1 (G2 cJ 35) (C1 268 (S1 (G1 cJ 36) .ret) K1)) (S1 (S1 (G1 cJ 37) (B1 1 (.loop (S1 (S1 (G1 cJ 38) (C1 273 K1 (X1 1))) (S1 (B1 2 (S1 (G2 cJ 40) (C1 285 (S1 (G1 cJ 41) .ret) K1))) (G1 cJ 39)))))) (S1 (G1 cJ 42) .ret))) K1)))))))))))))))))))))))))))))))) (S1 (G1 cJ 43) .ret))):=kr
theorem Xc:drawInfo (Z fc 10)=some []:=kr
theorem Xd:drawInfo (Z fc 22)=some []:=kr
theorem agC:fc=(S1 (G1 fc 0) (S1 (G1 fc 1) (S1 (S1 (G1 fc 2) (B1 0 (S1 (G1 fc 3) (C1 10 (S1 (G1 fc 4) .ret) (S1 (G1 fc 5) (C1 20 (S1 (G1 fc 6) .ret) (S1 (G1 fc 7) (C1 42 (S1 (S1 (G1 fc 8) (C1 50 (S1 (G1 fc 9) .ret) K1)) (S1 (G2 fc 10) .ret)) (S1 (G1 fc 11) (C1 77 (S1 (G1 fc 12) .ret) (S1 (G1 fc 13) (C1 86 (S1 (G1 fc 14) .ret) (S1 (G1 fc 15) (C1 107 (S1 (G1 fc 16) .ret) (S1 (G1 fc 17) (C1 150 (S1 (G1 fc 18) .ret) (S1 (G1 fc 19) (C1 183 (S1 (G1 fc 20) .ret) (S1 (G1 fc 21) (C1 216 (S1 (G2 fc 22) .ret) K1)))))))))))))))))))) (S1 (G1 fc 23) .ret)))):=kr
theorem Yi:drawInfo (Z l7 9)=some []:=kr
theorem agN:l7=(S1 (G1 l7 0) (S1 (S1 (G1 l7 1) (C1 8 (S1 (G1 l7 2) .ret) K1)) (S1 (S1 (G1 l7 3) (C1 11 (S1 (G1 l7 4) .ret) K1)) (S1 (G1 l7 5) (S1 (S1 (G1 l7 6) (B1 0 (.loop (S1 (S1 (G1 l7 7) (C1 22 K1 (X1 0))) (S1 (B1 1 (G2 l7 9)) (G1 l7 8)))))) (S1 (G1 l7 10) .ret)))))):=kr
theorem afu:rS=(S1 (G1 rS 0) (S1 (S1 (G1 rS 1) (B1 0 (.loop (S1 (S1 (G1 rS 2) (C1 7 K1 (X1 0))) (S1 (B1 1 (S1 (G1 rS 4) (C1 19 (S1 (G1 rS 5) .ret) K1))) (G1 rS 3)))))) (S1 (G1 rS 6) .ret))):=kr
theorem afr:AS=(S1 (G1 AS 0) (S1 (G1 AS 1) .ret)):=kr
theorem afx:rT=(S1 (G1 rT 0) (S1 (S1 (G1 rT 1) (B1 0 (.loop (S1 (S1 (G1 rT 2) (C1 7 K1 (X1 0))) (S1 (B1 1 (S1 (G1 rT 4) (C1 31 (S1 (G1 rT 5) .ret) K1))) (G1 rT 3)))))) (S1 (G1 rT 6) .ret))):=kr
theorem afV:jK=(S1 (G1 jK 0) (S1 (S1 (G1 jK 1) (B1 0 (.loop (S1 (S1 (G1 jK 2) (C1 9 K1 (X1 0))) (S1 (B1 1 (S1 (G1 jK 4) (B1 2 (S1 (G1 jK 5) (C1 15 (G1 jK 6) (S1 (G1 jK 7) (C1 18 (G1 jK 8) (S1 (G1 jK 9) (C1 21 (G1 jK 10) (S1 (G1 jK 11) (C1 24 (G1 jK 12) (S1 (G1 jK 13) (C1 27 (G1 jK 14) K1))))))))))))) (G1 jK 3)))))) (S1 (G1 jK 15) .ret))):=kr
theorem afD:l8=(S1 (G1 l8 0) (S1 (S1 (G1 l8 1) (C1 17 (S1 (G1 l8 2) .ret) K1)) (S1 (G1 l8 3) (S1 (S1 (G1 l8 4) (B1 0 (S1 (G1 l8 5) (C1 25 (S1 (G1 l8 6) .ret) (S1 (G1 l8 7) (C1 29 (S1 (G1 l8 8) .ret) (S1 (G1 l8 9) (C1 33 (S1 (G1 l8 10) .ret) K1)))))))) (S1 (G1 l8 11) .ret))))):=kr
theorem X':drawInfo (Z yI 1)=some []:=kr
theorem afG:yI=(S1 (G1 yI 0) (S1 (G2 yI 1) .ret)):=kr
theorem Ya:drawInfo (Z pz 4)=some []:=kr
theorem afJ:pz=(S1 (G1 pz 0) (S1 (S1 (G1 pz 1) (B1 0 (.loop (S1 (S1 (G1 pz 2) (C1 10 K1 (X1 0))) (S1 (B1 1 (S1 (G2 pz 4) (S1 (G1 pz 5) (C1 20 (S1 (G1 pz 6) .ret) K1)))) (G1 pz 3)))))) (S1 (G1 pz 7) .ret))):=kr
theorem Yb:drawInfo (Z yJ 1)=some []:=kr
theorem afM:yJ=(S1 (G1 yJ 0) (S1 (G2 yJ 1) .ret)):=kr
theorem afY:fp=(S1 (G1 fp 0) (S1 (G1 fp 1) (S1 (S1 (G1 fp 2) (B1 0 (.loop (S1 (S1 (G1 fp 3) (C1 10 K1 (X1 0))) (S1 (B1 1 (S1 (G1 fp 5) (B1 2 (S1 (G1 fp 6) (C1 16 (G1 fp 7) (S1 (G1 fp 8) (C1 19 (G1 fp 9) (S1 (G1 fp 10) (C1 22 (G1 fp 11) (S1 (G1 fp 12) (C1 25 (G1 fp 13) (S1 (G1 fp 14) (C1 28 (G1 fp 15) (S1 (G1 fp 16) (C1 31 (G1 fp 17) (S1 (G1 fp 18) (C1 35 (G1 fp 19) (S1 (G1 fp 20) (C1 38 (G1 fp 21) K1))))))))))))))))))) (G1 fp 4)))))) (S1 (S1 (G1 fp 22) (C1 52 (S1 (G1 fp 23) .ret) K1)) (S1 (G1 fp 24) .ret))))):=kr
theorem agr:ja=(S1 (G1 ja 0) (S1 (S1 (G1 ja 1) (B1 0 (S1 (S1 (G1 ja 2) (C1 7 K1 (S1 (G1 ja 3) (C1 7 K1 (S1 (G1 ja 4) (C1 7 K1 (S1 (G1 ja 5) (C1 7 K1 (G1 ja 6))))))))) (C1 7 (S1 (G1 ja 7) .ret) (S1 (G1 ja 8) (C1 33 (S1 (G1 ja 9) .ret) (S1 (G1 ja 10) (C1 49 (S1 (G1 ja 11) .ret) (S1 (G1 ja 12) (C1 65 (S1 (G1 ja 13) .ret) (S1 (G1 ja 14) (C1 87 (S1 (G1 ja 15) .ret) K1)))))))))))) (S1 (G1 ja 16) .ret))):=kr
theorem Yf:drawInfo (Z jL 6)=some []:=kr
theorem Xb:drawInfo (Z jL 11)=some []:=kr
theorem agy:jL=(S1 (G1 jL 0) (S1 (S1 (G1 jL 1) (C1 22 (S1 (G1 jL 2) .ret) K1)) (S1 (S1 (G1 jL 3) (B1 0 (.loop (S1 (S1 (G1 jL 4) (C1 27 K1 (X1 0))) (S1 (B1 1 (S1 (S1 (G2 jL 6) (C1 48 (S1 (G1 jL 7) .ret) K1)) (S1 (G1 jL 8) (B1 2 (.loop (S1 (S1 (G1 jL 9) (C1 51 K1 (X1 2))) (S1 (B1 3 (S1 (G2 jL 11) (C1 66 (S1 (G1 jL 12) .ret) K1))) (G1 jL 10)))))))) (G1 jL 5)))))) (S1 (G1 jL 13) .ret)))):=kr
theorem akT:Bm=(S1 (G1 Bm 0) (S1 (G1 Bm 1) .ret)):=kr
theorem ZD:drawInfo (Z nS 6)=some []:=kr
theorem akQ:nS=(S1 (G1 nS 0) (S1 (S1 (G1 nS 1) (C1 10 (S1 (G1 nS 2) .ret) K1)) (S1 (S1 (G1 nS 3) (B1 0 (.loop (S1 (S1 (G1 nS 4) (C1 14 K1 (X1 0))) (S1 (B1 1 (S1 (G2 nS 6) (C1 25 (S1 (G1 nS 7) .ret) K1))) (G1 nS 5)))))) (S1 (G1 nS 8) .ret)))):=kr
theorem akM:gS=(S1 (G1 gS 0) (S1 (G1 gS 1) (S1 (S1 (G1 gS 2) (C1 15 (S1 (G1 gS 3) .ret) K1)) (S1 (G1 gS 4) (S1 (G1 gS 5) (S1 (B1 0 (.loop (S1 (S1 (G1 gS 6) (C1 19 K1 (X1 0))) (B1 1 (S1 (G1 gS 7) (S1 (G1 gS 8) (B1 2 (.loop (S1 (S1 (G1 gS 9) (C1 24 K1 (X1 2))) (S1 (B1 3 (S1 (S1 (G1 gS 11) (C1 31 (X1 3) K1)) (S1 (G1 gS 12) (S1 (G1 gS 13) (B1 4 (.loop (S1 (S1 (G1 gS 14) (C1 38 K1 (X1 4))) (S1 (B1 5 (S1 (G1 gS 16) (C1 56 (S1 (G1 gS 17) (G1 gS 18)) K1))) (G1 gS 15))))))))) (G1 gS 10))))))))))) (S1 (G1 gS 19) .ret))))))):=kr
end Go.Proofs.Tryz.K
section
open Go Go.Abs Go.Proofs Go.Argus
namespace Go.Argus
def bF(f:aA)(h:D):List D:=[S f.name,B f.iter,I f.args,U8 f.result,jD f.aj,jD f.aP,pg f.signals,eE f.blocks,h]
@[simp] theorem aoE (f : aA) (h : D) : (bF f h).length = 9 := rfl
theorem ta{h:D}(ht:Tr h)(f:aA):∀ d∈bF f h,Tr d:=.cons (.s _) (.cons (.s _) (.cons (.s _) (.cons (.s _) (.cons (o9 _) (.cons (o9 _) (.cons (wm _) (.cons (Df _) (.cons ht .nil))))))))
def bg(f:aA)(r k:Int):Bool:=if k=119 then bU f.aj r==1 else if k=114 then bU f.aj r==2 else if k=105 then bU f.aj r==3 else dG f.aj r
theorem DI{s:ByteArray}{k:Nat}(h:k<s.size):((s.data.toList.getD (k:Int).toNat 0).toNat:Int)∈ct s/\(ct s)[k]? =some ((s.data.toList.getD (k:Int).toNat 0).toNat:Int):=by
 have h1:k<s.data.toList.length:=by simpa using h
 have h2:(ct s)[k]? =some ((s.data.toList.getD (k:Int).toNat 0).toNat:Int):=by
  simp[ct,List.getElem?_eq_getElem h1,List.getD_eq_getElem?_getD]
 exact⟨List.mem_of_getElem? h2,h2⟩
def je(f:aA)(a b:Int):Bool:=dG f.aj a&&(dG f.aj b&&bU f.aj a==bU f.aj b)
def wN(y:aW)(d:D):List D:=[U8 y.op,I y.to,I y.a,I y.b,I y.n,d]
theorem Eh:Tr .z:=fun F β w v h=>by
 obtain⟨x,rfl⟩:=h.z_inv;exact .z x
def sy(d:D)(l:List Int):Prop:=d=az l\/d=.z/\l=[]
theorem aaz{d:D}{l:List Int}(h:sy d l):Tr d:=by
 rcases h with rfl|⟨rfl,_⟩
 .exact cI _
 .exact Eh
theorem Zv{y:aW}{d:D}(h:sy d y.args):∀ a∈wN y d,Tr a:=.cons (.s _) (.cons (.s _) (.cons (.s _) (.cons (.s _) (.cons (.s _) (.cons (aaz h) .nil)))))
theorem Zw{y:aW}{d:D}(h:sy d y.args):(wN y d).all D.one=true:=by
 rcases h with rfl|⟨rfl,_⟩<;>rfl
def Sw(y:End)(C J:D):List D:=[U8 y.kind,I y.a,I y.b,I y.to,I y.eL,S y.name,U8 y.ins.op,I y.ins.to,I y.ins.a,I y.ins.b,I y.ins.n,C,J,nH y.aE,I y.cm]
end Go.Argus
namespace Go.Proofs.Tryz.K
set_option maxRecDepth 10000
theorem fw{n a b:Int}:PCall prog 212 [I n,I a,I b] (B (cA n a b)):=by
 refine aX mixed Sj (by rw[afp];rfl) (.cons (.s _) (.cons (.s _) (.cons (.s _) .nil))) (Tr.s _) ?_;rw[afq,afr];refine ws ?_;refine SS ?_;refine er ?_;refine aL ?_;refine ab (ax (d:=.s (.bool _)) rfl ?_);unfold cA;by_cases h:a<=n<;>simp[h]
theorem w9{s:ByteArray}(U:s.size<=maxLen):PCall prog 211 [S s] (B (ke s)):=by
 unfold maxLen at U;refine aX mixed Sk (by rw[afs];rfl) (.cons (.s _) .nil) (Tr.s _) ?_;rw[aft,afu];refine ws ?_;refine SS ?_;refine ab (aD (av ?_));refine SS ?_
 refine ab (bG (fun st=>Ghost prog st ⟨ay [(0,S s)],fun _=>none,0⟩/\∀ (j:Nat) y,(ct s)[j]? =some y->rG y=false) (cq (α:=Nat) (fun k=>⟨ay [(0,S s),(3,I k)],fun _=>none,0⟩)
  (fun k=>k<=s.size/\∀ j y,j<k->(ct s)[j]? =some y->rG y=false) (fun k=>s.size - k) 0 (ap eH) ⟨by omega,fun j y hj=>by omega⟩ ?_) ?_)
 .rintro k ⟨hk,hinv⟩;refine aF ?_;refine ab ⟨_,rfl,fun h=>?_,fun h=>?_⟩
  .have ao:k<s.size:=by simpa using h
   obtain⟨hm,hx⟩:=DI ao;generalize C:s.data.toList.getD (k:Int).toNat 0=z at hm hx;refine ws ?_;refine bA ?_;refine ag ?_;refine ab (au rfl (fun hp=>?_) fun hp=>?_)
   .refine ws ?_;refine SS ?_;refine ab (aU (b7 (aQ (ax (d:=B false) rfl ?_))));have h1:(ct s).any rG=true:=List.any_eq_true.2 ⟨_,hm,by rw[C] at hp;revert hp;simp[rG]⟩;unfold ke;rw[h1];simp
   .refine b8 ?_;refine aw ?_;refine ab (aH (k+1) (ap eH) ⟨by omega,fun j y hj hy=>?_⟩ oG);by_cases e:j=k
    .subst e;rw[hx] at hy;cases hy;rw[C] at hp;revert hp;simp[rG]
    .exact hinv j y oG hy
  .have X:¬ k<s.size:=by simpa using h
   exact⟨ap eH,fun j y hy=>hinv j y (by have:=(List.getElem?_eq_some_iff.1 hy).1;simp[ct] at this;omega) hy⟩
 .rintro st ⟨hg,J⟩;refine⟨_,hg,an ?_⟩;have fw:=fw (n:=s.size) (a:=1) (b:=120);refine ag ?_;refine cl fw ?_;refine SS ?_;refine ab (ax (d:=.s (.bool _)) rfl ?_)
  have h1:(ct s).any rG=false:=List.any_eq_false.2 fun x hx=>by
   obtain⟨j,hj⟩:=List.getElem?_of_mem hx;rw[J j x hj];simp
  unfold ke;rw[h1];simp
theorem mC{s:ByteArray}(U:s.size<=maxLen):PCall prog 213 [S s] (B (isName s)):=by
 unfold maxLen at U;refine aX mixed Sl (by rw[afv];rfl) (.cons (.s _) .nil) (Tr.s _) ?_;rw[afw,afx];refine ws ?_;refine SS ?_;refine ab (aD (av ?_));refine SS ?_
 refine ab (bG (fun st=>Ghost prog st ⟨ay [(0,S s)],fun _=>none,0⟩/\∀ (j:Nat) y,(ct s)[j]? =some y->rH y=false) (cq (α:=Nat) (fun k=>⟨ay [(0,S s),(3,I k)],fun _=>none,0⟩)
  (fun k=>k<=s.size/\∀ j y,j<k->(ct s)[j]? =some y->rH y=false) (fun k=>s.size - k) 0 (ap eH) ⟨by omega,fun j y hj=>by omega⟩ ?_) ?_)
 .rintro k ⟨hk,hinv⟩;refine aF ?_;refine ab ⟨_,rfl,fun h=>?_,fun h=>?_⟩
  .have ao:k<s.size:=by simpa using h
   obtain⟨hm,hx⟩:=DI ao;generalize C:s.data.toList.getD (k:Int).toNat 0=z at hm hx;refine ws ?_;refine aL ?_;refine aL ?_;refine aF ?_;refine ab (au rfl (fun hp=>?_) fun hp=>?_)
   .refine ws ?_;refine SS ?_;refine ab (aU (b7 (aQ (ax (d:=B false) rfl ?_))));have h1:(ct s).any rH=true:=List.any_eq_true.2 ⟨_,hm,by rw[C] at hp;revert hp;simp[rH]⟩;unfold isName;rw[h1];simp
   .refine b8 ?_;refine aw ?_;refine ab (aH (k+1) (ap eH) ⟨by omega,fun j y hj hy=>?_⟩ oG);by_cases e:j=k
    .subst e;rw[hx] at hy;cases hy;rw[C] at hp;revert hp;simp[rH]
    .exact hinv j y oG hy
  .have X:¬ k<s.size:=by simpa using h
   exact⟨ap eH,fun j y hy=>hinv j y (by have:=(List.getElem?_eq_some_iff.1 hy).1;simp[ct] at this;omega) hy⟩
 .rintro st ⟨hg,J⟩;refine⟨_,hg,an ?_⟩;have fw:=fw (n:=s.size) (a:=1) (b:=12);refine ag ?_;refine cl fw ?_;refine SS ?_;refine ab (ax (d:=.s (.bool _)) rfl ?_)
  have h1:(ct s).any rH=false:=List.any_eq_false.2 fun x hx=>by
   obtain⟨j,hj⟩:=List.getElem?_of_mem hx;rw[J j x hj];simp
  unfold isName;rw[h1];simp
theorem s6{f:aA}{hd:D}(h:hd.one=true):(bF f hd).all D.one=true:=by
 simp only[bF,List.all_cons,List.all_nil,h,Bool.and_true];rfl
section
variable{f:aA}{hd:D}(ht:Tr hd)(cU:hd.one=true)
include ht cU
theorem fJ{b:Int}(hn:f.blocks.length<=1200):PCall prog 170 [.agg (bF f hd),I b] (B (bN f b)):=by
 refine aX mixed Sm (by rw[afy];rfl) (.cons (.agg (ta ht f)) (.cons (.s _) .nil)) (Tr.s _) ?_;rw[afz,afA];refine av ?_;refine ag ?_;refine ab (aJ (bp [(0,bF f hd,208)] eH (l:=[(1,I b),(2,.pt (bF f hd))]) eH) (an ?_));have fw:=fw (n:=b) (a:=0) (b:=(f.blocks.length:Int) - 1);refine bD ?_;refine cl fw ?_;refine SS ?_;exact ab (ax rfl rfl)
theorem bB{r k:Int}:PCall prog 215 [.agg (bF f hd),I r,U8 k] (B (bg f r k)):=by
 refine aX mixed So (by rw[afB];rfl) (.cons (.agg (ta ht f)) (.cons (.s _) (.cons (.s _) .nil))) (Tr.s _) ?_;rw[afC,afD];refine av ?_;refine ag ?_;refine ab (aJ (bp [(0,bF f hd,208)] eH (l:=[(1,I r),(2,U8 k),(3,.pt (bF f hd))]) eH) (aD (an ?_)));refine bA ?_;refine akp ?_;refine SS ?_;refine ab (bC rfl (fun h=>?_) fun h=>cx (an ?_))
 .refine aD (an ?_);refine SS ?_;refine ab (dx (ax (d:=.s (.bool _)) rfl ?_))
  have h0:bU f.aj r=0:=Gd fun C=>by
   by_cases h1:r<0<;>simp[h1] at h<;>omega
  simp[bg,dG,h0]
 .have hr:0<=r/\r<f.aj.length:=by
   by_cases h1:r<0<;>simp[h1] at h;omega
  obtain⟨n,rfl⟩:=Int.eq_ofNat_of_zero_le hr.1;have hx:f.aj[n]? =some f.aj[n]:=List.getElem?_eq_getElem oG;have hk:=rI hx;have hi:bg f n k=if k=119 then f.aj[n]==1 else if k=114 then f.aj[n]==2 else if k=105 then f.aj[n]==3 else f.aj[n]==1||f.aj[n]==2:=by simp only[bg,dG,hk]
  rw[hi];generalize f.aj[n]=v at hx;clear h hi hk;refine cK ?_;refine ab (aD (an ?_));refine SS ?_;refine ab (lW (an ?_));refine ag ?_;refine ab (au rfl (fun h0=>?_) fun h0=>?_)
  .have h0:k=119:=by simpa using h0
   refine ws ?_;refine aw ?_;refine ab (aU (bu (aQ (ax (d:=.s (.bool _)) rfl ?_))));simp[h0]
  have h0:¬ k=119:=by simpa using h0
  refine ws ?_;refine ag ?_;refine ab (au rfl (fun h1=>?_) fun h1=>?_)
  .have h1:k=114:=by simpa using h1
   refine ws ?_;refine aw ?_;refine ab (aU (bu (aQ (ax (d:=.s (.bool _)) rfl ?_))));simp[h1]
  have h1:¬ k=114:=by simpa using h1
  refine ws ?_;refine ag ?_;refine ab (au rfl (fun h2=>?_) fun h2=>?_)
  .have h2:k=105:=by simpa using h2
   refine ws ?_;refine aw ?_;refine ab (aU (bu (aQ (ax (d:=.s (.bool _)) rfl ?_))));simp[h2]
  have h2:¬ k=105:=by simpa using h2
  refine lx (an ?_);refine cK ?_;refine ab (ax (d:=.s (.bool _)) rfl ?_);rw[if_neg h0,if_neg h1,if_neg h2];by_cases h3:v=1<;>simp[h3]
end
section
variable{f:aA}{hd:D}(ht:Tr hd)(cU:hd.one=true)
include ht cU
theorem xc{a b:Int}:PCall prog 216 [.agg (bF f hd),I a,I b] (B (je f a b)):=by
 have hi:∀ r,bg f r 118=dG f.aj r:=fun r=>rfl;have C:=bB (f:=f) ht cU (r:=a) (k:=118);have J:=bB (f:=f) ht cU (r:=b) (k:=118);rw[hi] at C J;refine aX mixed Sp (by rw[afE];rfl) (.cons (.agg (ta ht f)) (.cons (.s _) (.cons (.s _) .nil))) (Tr.s _) ?_;rw[afF,afG];refine av ?_;refine ag ?_;refine ab (aJ (bp [(0,bF f hd,208)] eH (l:=[(1,I a),(2,I b),(3,.pt (bF f hd))]) eH) (dd X' ?_))
 have vi:∀ r,dG f.aj r=true->∃ (n:Nat) (x:Int),r=n/\f.aj[n]? =some x/\bU f.aj r=x:=fun r h=>by
  obtain⟨h1,h2⟩:=mS h;obtain⟨n,rfl⟩:=Int.eq_ofNat_of_zero_le h1;have hx:f.aj[n]? =some f.aj[n]:=List.getElem?_eq_getElem oG;exact⟨n,_,rfl,hx,rI hx⟩
 unfold je;cases U:dG f.aj a with
 |false=>
  rw[U] at C;have bB:=C;refine ag ?_;refine cl bB ?_;refine SS ?_;refine z fun _ _=>?_;have bB:=J
  (iterate 2 refine z fun _ _=>?_);refine ag ?_;(iterate 13 refine z fun _ _=>?_);refine ag ?_
  exact bj (by simp[apartT]) (ax rfl rfl)
 |true=>
  rw[U] at C;cases X:dG f.aj b with
  |false=>
   rw[X] at J;have bB:=C;refine ag ?_;refine cl bB ?_;refine ag ?_;have bB:=J;refine SS ?_;refine gc bB ?_;refine ag ?_;(iterate 13 refine z fun _ _=>?_);refine ag ?_;exact bj (by simp[apartT]) (ax rfl rfl)
  |true=>
   rw[X] at J;obtain⟨n,x,rfl,hx,e1⟩:=vi a U;obtain⟨m,y,rfl,hy,e2⟩:=vi b X;rw[e1,e2];have bB:=C;refine ag ?_;refine cl bB ?_;refine ag ?_;have bB:=J;refine SS ?_;refine gc bB ?_;refine aL ?_;refine bA ?_;exact bj (by simp[apartT]) (ax rfl rfl)
theorem sx{l:List Int}:PCall prog 217 [.agg (bF f hd),az l] (B (fm f.aj l)):=by
 have C:∀ a∈[D.agg (bF f hd),az l],Tr a:=.cons (.agg (ta ht f)) (.cons (cI _) .nil);refine lj Il.he C fun U=>?_;have hlen:=(U (az l) oS).sl.1;unfold maxLen at hlen;refine aX mixed Il (by rw[afH];rfl) C (Tr.s _) ?_;rw[afI,afJ];refine av ?_;refine ag ?_;refine ab (aJ (bp [(0,bF f hd,208)] eH (l:=[(1,az l),(2,.pt (bF f hd))]) eH) (aD (av ?_)));refine SS ?_
 refine ab (bG (fun s=>Ghost prog s ⟨ay [],fun _=>none,1⟩/\∀ (j:Nat) y,l[j]? =some y->dG f.aj y=true) (cq (α:=Nat) (fun k=>⟨ay [(1,az l),(2,.pt (bF f hd)),(5,I k)],fun _=>none,1⟩)
  (fun k=>k<=l.length/\∀ j y,j<k->l[j]? =some y->dG f.aj y=true) (fun k=>l.length - k) 0 (ap eH) ⟨by omega,fun j y hj=>by omega⟩ ?_) ?_)
 .rintro k ⟨hk,hinv⟩;refine aF ?_;refine ab ⟨_,rfl,fun h=>?_,fun h=>?_⟩
  .have ao:k<l.length:=by simpa using h
   have hx:l[k]? =some l[k]:=by simp[ao]
   generalize l[k]=x at hx;have bB:PCall prog 215 [.agg (bF f hd),I x,U8 118] (B (dG f.aj x)):=bB (f:=f) ht cU (r:=x) (k:=118);refine dd Ya ?_;refine aV ?_;refine cl bB ?_;refine SS ?_;refine bj (by simp[apartT]) (an ?_);refine ag ?_;refine ab (au rfl (fun hp=>?_) fun hp=>?_)
   .refine ws ?_;refine SS ?_;refine ab (aU (b7 (aQ (ax (d:=B false) rfl ?_))));have:fm f.aj l=false:=List.all_eq_false.2 ⟨x,List.mem_of_getElem? hx,by simpa using hp⟩;rw[this]
   .refine b8 ?_;refine aw ?_;refine ab (aH (k+1) (ap eH) ⟨by omega,fun j y hj hy=>?_⟩ oG);by_cases e:j=k
    .subst e;rw[hx] at hy;cases hy;simpa using hp
    .exact hinv j y oG hy
  .have X:¬ k<l.length:=by simpa using h
   exact⟨.forget _ _ _ _ fun _=>.inr rfl,fun j y hy=>hinv j y (by have:=(List.getElem?_eq_some_iff.1 hy).1;omega) hy⟩
 .rintro s ⟨hg,J⟩;refine⟨_,hg,an ?_⟩;refine SS ?_;refine ab (ax (d:=B true) rfl ?_)
  have:fm f.aj l=true:=List.all_eq_true.2 fun x hx=>by
   obtain⟨j,hj⟩:=List.getElem?_of_mem hx;exact J j x hj
  rw[this]
theorem EH{n r:Int}(hl:f.aP.length<=60)(hs:∀ k∈f.aP,k=1\/k=2):PCall prog 218 [.agg (bF f hd),I n,I r] (B (kO f.aj f.aP r n)):=by
 have fw:=fw (n:=n) (a:=0) (b:=(f.aP.length:Int) - 1);have kv:PCall prog 215 [.agg (bF f hd),I r,U8 118] (B (dG f.aj r)):=bB (f:=f) ht cU (r:=r) (k:=118);refine aX mixed Sq (by rw[afK];rfl) (.cons (.agg (ta ht f)) (.cons (.s _) (.cons (.s _) .nil))) (Tr.s _) ?_;rw[afL,afM];refine av ?_;refine ag ?_;refine ab (aJ (bp [(0,bF f hd,208)] eH (l:=[(1,I n),(2,I r),(3,.pt (bF f hd))]) eH) (dd Yb ?_));unfold kO;have bB:=kv;cases C:cA n 0 (f.aP.length - 1) with
 |false=>
  rw[C] at fw;refine bD ?_;refine cl fw ?_;refine SS ?_;(iterate 3 refine z fun _ _=>?_);refine ag ?_;(iterate 13 refine z fun _ _=>?_);refine ag ?_;exact bj (by simp[apartT]) (ax rfl rfl)
 |true=>
  rw[C] at fw;have h0:=jF.1 C;obtain⟨m,rfl⟩:=Int.eq_ofNat_of_zero_le h0.1;have hx:f.aP[m]? =some f.aP[m]:=List.getElem?_eq_getElem oG;have X:=rI hx;have U:=hs _ (List.mem_of_getElem? hx);rw[X];generalize f.aP[m]=x at hx U;cases hv:dG f.aj r with
  |false=>
   rw[hv] at bB;refine bD ?_;refine cl fw ?_;refine aw ?_;refine gc bB ?_;refine ag ?_;(iterate 13 refine z fun _ _=>?_);refine ag ?_;refine bj (by simp[apartT]) (ax (d:=.s (.bool _)) rfl ?_)
   have:(bU f.aj r==x)=false:=by
    unfold dG at hv;rcases U with rfl|rfl<;>simp at hv ⊢<;>simp[hv]
   rw[this];rfl
  |true=>
   rw[hv] at bB;obtain⟨h1,h2⟩:=mS hv;obtain⟨i,rfl⟩:=Int.eq_ofNat_of_zero_le h1;have hy:f.aj[i]? =some f.aj[i]:=List.getElem?_eq_getElem oG;have J:=rI hy;rw[J];generalize f.aj[i]=y at hy;refine bD ?_;refine cl fw ?_;refine aw ?_;refine gc bB ?_;refine aL ?_;refine bA ?_;refine bj (by simp[apartT]) (ax (d:=.s (.bool _)) rfl ?_);show B (x==y)=B (y==x);rw[Bool.beq_comm]
end
end Go.Proofs.Tryz.K
namespace Go.Argus
open Go.Proofs.Tryz.K (nextR)
def iP:List Int->Int->List Int
 |[],n=>[n]
 |x::l,n=>if x<n then x::iP l n else if x=n then x::l else n::x::l
theorem PC{n:Int}:∀ {l:List Int} {k:Nat},k<=l.length->(∀ j y,j<k->l[j]? =some y->y<n)->(∀ y,l[k]? =some y->¬ y<n)->
 iP l n=if l[k]? =some n then l else l.take k++n::l.drop k
 |[],k,hk,_,_=>by
  have:k=0:=by simpa using hk
  subst this;simp[iP]
 |x::l,0,_,_,h=>by
  have h0:¬ x<n:=h x rfl;by_cases e:x=n
  .subst e;simp[iP]
  .simp[iP,h0,e]
 |x::l,k+1,hk,h1,h2=>by
  have h0:x<n:=h1 0 x oG rfl;have ih:=PC (n:=n) (l:=l) (k:=k) (by simpa using hk) (fun j y hj hy=>h1 (j+1) y oG (by simpa using hy)) (fun y hy=>h2 y (by simpa using hy));simp only[iP,if_pos h0,ih,List.getElem?_cons_succ];split<;>simp
theorem GV{n x:Int}:∀ {l:List Int},x∈iP l n↔x∈l\/x=n
 |[]=>by simp[iP]
 |y::l=>by
  unfold iP;split
  .rw[List.mem_cons,GV (l:=l),List.mem_cons];exact or_assoc.symm
  .split
   .rename_i e;subst e;simp only[List.mem_cons];constructor
    .exact .inl
    .rintro(h|h)
     .exact h
     .exact .inl h
   .simp only[List.mem_cons];constructor
    .rintro(h|h)
     .exact .inr h
     .exact .inl h
    .rintro(h|h)
     .exact .inr h
     .exact .inl h
theorem MT{n:Int}:∀ {l:List Int},l.Pairwise (·<·)->(iP l n).Pairwise (·<·)
 |[],_=>by simp[iP]
 |y::l,h=>by
  rw[List.pairwise_cons] at h;unfold iP;split
  .rename_i hy;refine List.pairwise_cons.2 ⟨fun z C=>?_,MT h.2⟩;rcases GV.1 C with C|rfl
   .exact h.1 z C
   .exact hy
  .split
   .exact List.pairwise_cons.2 h
   .refine List.pairwise_cons.2 ⟨fun z C=>?_,List.pairwise_cons.2 h⟩;rcases List.mem_cons.1 C with rfl|C
    .omega
    .have:=h.1 z C;omega
theorem MU{n:Int}:∀ {l:List Int},(iP l n).length<=l.length+1
 |[]=>by simp[iP]
 |y::l=>by
  have:=MU (n:=n) (l:=l);unfold iP;split
  .simp;omega
  .split<;>simp
def qH(l:List Int):List Int:=l.foldl iP []
theorem Al:∀ {l z:List Int},z.Pairwise (·<·)->(l.foldl iP z).Pairwise (·<·)/\(∀ x,x∈l.foldl iP z↔x∈z\/x∈l)/\(l.foldl iP z).length<=z.length+l.length
 |[],z,h=>⟨h,fun x=>by simp,by simp⟩
 |y::l,z,h=>by
  obtain⟨h1,h2,h3⟩:=Al (l:=l) (MT (n:=y) h);have:=MU (n:=y) (l:=z);refine⟨h1,fun x=>?_,by simp only[List.length_cons,List.foldl_cons];omega⟩;rw[List.foldl_cons,h2,GV,List.mem_cons,or_assoc]
theorem OO:∀ {l z:List Int},l.Pairwise (·<·)->z.Pairwise (·<·)->(∀ x,x∈l↔x∈z)->l=z
 |[],[],_,_,_=>rfl
 |[],y::z,_,_,h=>by have:=(h y).2 oS;simp at this
 |y::l,[],_,_,h=>by have:=(h y).1 oS;simp at this
 |x::l,y::z,hl,hz,h=>by
  rw[List.pairwise_cons] at hl hz
  have e:x=y:=by
   have h1:=(h x).1 oS;have h2:=(h y).2 oS;rcases List.mem_cons.1 h1 with h1|h1
   .exact h1
   .rcases List.mem_cons.1 h2 with h2|h2
    .exact h2.symm
    .have:=hl.1 y h2;have:=hz.1 x h1;omega
  subst e;rw[OO hl.2 hz.2 fun w=>⟨fun C=>?_,fun C=>?_⟩]
  .rcases List.mem_cons.1 ((h w).1 (by simp[C])) with e|e
   .have:=hl.1 w C;omega
   .exact e
  .rcases List.mem_cons.1 ((h w).2 (by simp[C])) with e|e
   .have:=hz.1 w C;omega
   .exact e
def nX(x:End):List Int:=qH (cE x)
theorem LV{x:End}{t:Int}:t∈nX x↔t∈cE x:=by
 unfold nX qH;rw[(Al (l:=cE x) (z:=[]) .nil).2.1];simp
theorem Yg(x:End):(nX x).length<=x.aE.length+3:=by
 have:=(Al (l:=cE x) (z:=[]) .nil).2.2;have:=vZ x;unfold nX qH;simp at*;omega
def AD(bs:List bt)(L:Nat->List Int)(b:Nat):Nat->List Int:=match bs[b]? with
 |none=>L
 |some x=>(nX x.fin).foldl (cS b) L
def kf(bs:List bt)(k:Nat):Nat->List Int:=(List.range k).foldl (AD bs) fun _=>[]
def iO(x:aW)(c:Int):aW:=if c=116 then { x with to:=0 } else if c=97 then { x with a:=0 } else if c=98 then { x with b:=0 } else if c=110 then { x with n:=0 } else if c=108 then { x with args:=[] } else x
def jQ(x:aW):Bool:=aM x.to 0&&(aM x.a 0&&(aM x.b 0&&(aM x.n 0&&iF x)))
def bE(x:aW)(fs:List Int):Bool:=jQ (fs.foldl iO x)
def jV(f:aA)(x:aW):Bool:=
 if aG [30,31,32,33,34] x.op then bE x [116,97,98]&&(bg f x.to 119&&(bg f x.a 119&&bg f x.b 119))
 else if x.op=35 then bE x [97,98]&&(bg f x.a 114&&bg f x.b 118)
 else if x.op=36 then bE x [116,97]&&(bg f x.to 118&&bg f x.a 114)
 else if x.op=37 then bE x [116,97,98]&&(bg f x.to 118&&(bg f x.a 114&&bg f x.b 119))
 else if x.op=38 then bE x [97,98,108]&&(bg f x.a 114&&(bg f x.b 119&&(aM x.args.length 1&&fm f.aj x.args)))
 else false
def di(f:aA)(b C:Int)(x:aW):Bool:=
 if x.op=1 then bE x [116,110]&&(bg f x.to 119&&cA x.n (-1000000000) 1000000000)
 else if x.op=2 then bE x [116,97]&&je f x.to x.a
 else if aG [3,4,6,7] x.op then bE x [116,97,98]&&(bg f x.to 119&&(bg f x.a 119&&bg f x.b 119))
 else if x.op=5 then bE x [116,97,98]&&(bg f x.to 119&&je f x.a x.b)
 else if x.op=8 then bE x [116,97]&&(bg f x.to 119&&bg f x.a 119)
 else if x.op=9 then bE x [116,110]&&(bg f x.to 114&&cA x.n 0 1)
 else if x.op=10 then bE x [116,110,108]&&(bg f x.to 114&&(cA x.n 0 5&&(cA x.args.length 1 6&&fm f.aj x.args)))
 else if x.op=11 then bE x [116,97,110]&&(bg f x.to 118&&(bg f x.a 114&&cA x.n 0 5))
 else if x.op=12 then bE x [97,98,110]&&(bg f x.a 114&&(bg f x.b 118&&cA x.n 0 5))
 else if aG [13,14] x.op then bE x [116,97]&&(bg f x.to 119&&bg f x.a 114)
 else if x.op=15 then bE x [97]&&bg f x.a 119
 else if x.op=16 then bE x [97]&&bg f x.a 105
 else if x.op=17 then bE x [116,110]&&kO f.aj f.aP x.to x.n
 else if x.op=18 then bE x [97,110]&&kO f.aj f.aP x.a x.n
 else if x.op=19 then !aM b 0&&(bE x [116,108]&&(bg f x.to 118&&(aM x.args.length C&&x.args.all (je f x.to))))
 else false
def fx(x:End)(c:Int):End:=
 if c=97 then { x with a:=0 } else if c=98 then { x with b:=0 } else if c=116 then { x with to:=0 } else if c=101 then { x with eL:=0 }
 else if c=110 then { x with name:=.empty } else if c=105 then { x with ins:=dh } else if c=108 then { x with args:=[] } else x
def nW(x:End):Bool:=aM x.a 0&&(aM x.b 0&&(aM x.to 0&&(aM x.eL 0&&(x.name.toList==[]&&(aM x.args.length 0&&(aM x.ins.op 0&&jQ x.ins))))))
def dc(x:End)(fs:List Int):Bool:=(fs.any (·==104)||(aM x.aE.length 0&&aM x.cm (-1)))&&nW (fs.foldl fx x)
def fy(f:aA)(x:End):Bool:=
 if x.kind=1 then dc x [116]&&bN f x.to
 else if x.kind=2 then dc x [97,116,101]&&(bg f x.a 119&&(bN f x.to&&bN f x.eL))
 else if x.kind=3 then(if f.iter=true\/f.result=0 then dc x [97]&&aM x.a (-1) else dc x [97]&&(bg f x.a 118&&aM (bU f.aj x.a) f.result))
 else if x.kind=4 then dc x [110]&&isName x.name
 else if x.kind=5 then dc x [116,105,104]&&(jV f x.ins&&(bN f x.to&&lp f x))
 else if x.kind=6 then dc x [97,116,110,108,104]&&(ke x.name&&(decide ((x.args.length:Int)<=6)&&(fm f.aj x.args&&((aM x.a (-1)||bg f x.a 118)&&(bN f x.to&&lp f x)))))
 else if x.kind=7 then dc x [97,116,110,108]&&(ke x.name&&(decide ((x.args.length:Int)<=6)&&(fm f.aj x.args&&(bg f x.a 105&&bN f x.to))))
 else if x.kind=8 then dc x [97,98,116,101,104]&&(bg f x.a 105&&(bg f x.b 118&&(bN f x.to&&(bN f x.eL&&lp f x))))
 else if x.kind=9 then dc x [97,116]&&(f.iter&&(bg f x.a 118&&(aM (bU f.aj x.a) f.result&&bN f x.to)))
 else false
theorem sd(f:aA)(r:Int):bg f r 119=aM (bU f.aj r) 1:=rfl
theorem wS(f:aA)(r:Int):bg f r 114=aM (bU f.aj r) 2:=rfl
theorem By(f:aA)(r:Int):bg f r 105=aM (bU f.aj r) 3:=rfl
theorem qJ(f:aA)(r:Int):bg f r 118=dG f.aj r:=rfl
theorem Xw{f:aA}{r n:Int}(C:∀ k∈f.aP,k=1\/k=2)(h:kO f.aj f.aP r n=true):dG f.aj r=true:=by
 unfold kO at h;rw[Bool.and_eq_true,jF] at h;obtain⟨⟨h1,h2⟩,h3⟩:=h;obtain⟨k,rfl⟩:=Int.eq_ofNat_of_zero_le h1;have hk:k<f.aP.length:=by omega
 rw[rI (List.getElem?_eq_getElem hk)] at h3;have h3:bU f.aj r=f.aP[k]:=by simpa using h3
 have:=C _ (List.getElem_mem hk);unfold dG;rw[h3];rcases this with e|e<;>simp[e]
theorem aaL(f:aA)(x:aW):jV f x=((eF iD x.op).isSome&&nM f.aj x ((eF iD x.op).getD wu)):=by
 obtain⟨op,to,a,b,n,args⟩:=x;unfold jV;dsimp only;by_cases h0:op=30\/op=31\/op=32\/op=33\/op=34
 .rcases h0 with rfl|rfl|rfl|rfl|rfl<;>
   (simp[aG,eF,iD,List.find?,nM,kM,pf,o6,bE,iO,jQ,sd,aM,iF,cA];grind)
 by_cases h5:op=35
 .subst h5;simp[aG,eF,iD,List.find?,nM,kM,pf,o6,bE,iO,jQ,sd,wS,qJ,aM,iF,cA];grind
 by_cases C:op=36
 .subst C;simp[aG,eF,iD,List.find?,nM,kM,pf,o6,bE,iO,jQ,sd,wS,qJ,aM,iF,cA];grind
 by_cases J:op=37
 .subst J;simp[aG,eF,iD,List.find?,nM,kM,pf,o6,bE,iO,jQ,sd,wS,qJ,aM,iF,cA];grind
 by_cases U:op=38
 .subst U;simp[aG,eF,iD,List.find?,nM,kM,pf,o6,bE,iO,jQ,sd,wS,qJ,aM,iF,cA];grind
 have hn:eF iD op=none:=by
  simp only[eF,iD,Option.map_eq_none_iff,List.find?_eq_none];simp;omega
 rw[hn,if_neg (by simp[aG];omega),if_neg h5,if_neg C,if_neg J,if_neg U];rfl
theorem aaM(f:aA)(to:Int)(l:List Int)(h:dG f.aj to=true):l.all (je f to)= !l.any fun r=> !aM (bU f.aj r) (bU f.aj to):=by
 have hk:bU f.aj to=1\/bU f.aj to=2:=by simpa[dG] using h
 rw[List.not_any_eq_all_not];congr 1;funext r;simp only[je,h,Bool.true_and,aM,Bool.not_not,dG];grind
theorem OP{f:aA}{b ah:Nat}{x:aW}(hs:∀ k∈f.aP,k=1\/k=2):di f b ah x=hD f b x true ah:=by
 have hsv:= @Xw f;obtain⟨op,to,a,b',n,args⟩:=x;unfold di hD;dsimp only;by_cases X:op=16
 .subst X;simp[aG,bE,iO,jQ,By,aM,iF];grind
 by_cases U:op=17
 .subst U;simp[aG,bE,iO,jQ,aM,iF];grind
 by_cases C:op=18
 .subst C;simp[aG,bE,iO,jQ,aM,iF];grind
 by_cases J:op=19
 .subst J;cases hv:dG f.aj to with
  |false=>simp[aG,qJ,hv]
  |true=>
   rw[aaM f to args hv]
   have hb:decide (0<(b:Int))= !decide ((b:Int)=0):=by
    by_cases h:b=0<;>simp[h];omega
   simp[aG,qJ,hv,hb,bE,iO,jQ,aM,iF];grind
 rw[if_neg X,if_neg U,if_neg C,if_neg J,if_neg X,if_neg U,if_neg C,if_neg J];by_cases hm:op∈[1,2,3,4,5,6,7,8,9,10,11,12,13,14,15]
 .simp only[List.mem_cons,List.not_mem_nil,or_false] at hm
  rcases hm with rfl|rfl|rfl|rfl|rfl|rfl|rfl|rfl|rfl|rfl|rfl|rfl|rfl|rfl|rfl<;>
   (simp[aG,eF,mZ,List.find?,nM,kM,pf,o6,bE,iO,jQ,sd,wS,qJ,aM,iF,cA,je,dG];grind)
 .have hn:eF mZ op=none:=by
   simp only[eF,mZ,Option.map_eq_none_iff,List.find?_eq_none];simp at hm ⊢;omega
  simp only[List.mem_cons,List.not_mem_nil,or_false,not_or] at hm;rw[hn];simp[aG];grind
theorem Hm{f:aA}{x:End}(hr:pb f=true):fy f x=iC f x:=by
 have ht:=aaL f x.ins
 have mE:(f.result=1\/f.result=2)\/f.result=0/\f.iter=false:=by
  simp[pb] at hr;grind
 obtain⟨kind,a,b,to,eL,name,ins,args,aE,cm⟩:=x;dsimp only at ht;have hz:∀ y:aW,Bi y=(aM y.op 0&&jQ y):=fun y=>by simp[Bi,jQ,aM,iF]
 have h0:jQ dh=true:=rfl;have he:ByteArray.toList .empty=[]:=by simp
 unfold fy iC eO wL;simp only[hz];by_cases h1:kind=1
 .subst h1;simp[dc,fx,nW,aM];grind
 by_cases h2:kind=2
 .subst h2;simp[dc,fx,nW,aM,sd];grind
 by_cases h3:kind=3
 .subst h3;simp[dc,fx,nW,aM,qJ,dG];grind
 by_cases h4:kind=4
 .subst h4;simp[dc,fx,nW,aM];grind
 by_cases h5:kind=5
 .subst h5;simp[dc,fx,nW,aM,ht,h0,dh];grind
 by_cases C:kind=6
 .subst C;simp[dc,fx,nW,aM,qJ,he];grind
 by_cases J:kind=7
 .subst J;simp[dc,fx,nW,aM,By,he];grind
 by_cases U:kind=8
 .subst U;simp[dc,fx,nW,aM,By,qJ];grind
 by_cases X:kind=9
 .subst X;simp[dc,fx,nW,aM,qJ,dG];grind
 simp[h1,h2,h3,h4,h5,C,J,U,X]
end Go.Argus
namespace Go.Proofs.Tryz.K
set_option maxRecDepth 10000
theorem Su{x:aW}{d0:D}{s:ByteArray}(U:sy d0 x.args)(hs:s.size<=8):PCall prog 214 [.agg (wN x d0),S s] (B (bE x (ct s))):=by
 refine aX mixed Sv (by rw[afT];rfl) (.cons (.agg (Zv U)) (.cons (.s _) .nil)) (Tr.s _) ?_;rw[afU,afV];refine av ?_;refine eQ (rW (cs:=wN x d0) rfl) (by repeat' (first|exact trivial|exact rfl|refine And.intro ?_ ?_)) (Zw U) ?_;refine SS ?_;refine ab (aJ (aK (l:=[(1,S s),(2,.rp 0 0)]) (ml:=[(0,.cells (wN x d0) 66)]) eH eH) (aD (av ?_)));refine SS ?_
 refine ab (bG (fun st=>∃ y d,Ghost prog st ⟨ay [(2,.rp 0 0)],a9 [(0,.cells (wN y d) 66)],1⟩/\(ct s).foldl iO x=y/\sy d y.args) (cq (α:=Nat×aW×D) (fun q=>⟨ay [(1,S s),(2,.rp 0 0),(5,I q.1)],a9 [(0,.cells (wN q.2.1 q.2.2) 66)],1⟩)
  (fun q=>q.1<=s.size/\((ct s).take q.1).foldl iO x=q.2.1/\sy q.2.2 q.2.1.args) (fun q=>s.size - q.1) (0,x,d0) (aK eH eH) ⟨Nat.zero_le _,rfl,U⟩ ?_) ?_)
 .rintro⟨k,y,d⟩ ⟨hk,hy,hd⟩;dsimp only at hk hy hd ⊢;refine aF ?_;refine ab ⟨_,rfl,fun h=>?_,fun h=>?_⟩
  .have ao:k<s.size:=by simpa using h
   obtain⟨hm,hx⟩:=DI ao;generalize C:s.data.toList.getD (k:Int).toNat 0=z at hm hx;have J:((ct s).take (k+1)).foldl iO x=iO y z.toNat:=by rw[kE hx,hy]
   refine ws ?_;refine aw ?_;refine ab (nL (an ?_));refine ag ?_;refine ab (au rfl (fun h1=>fI ?_) fun h1=>an ?_)
   .refine ag ?_;refine ab ?_;show AOps _ _ _ _ _ _ _ _ _;refine aw ?_;refine ab (aH (k+1,{ y with to:=0 },d) (aK eH eH) ⟨by dsimp only;omega,?_,hd⟩ oM);rw[C] at h1;rw[J,iO,if_pos (by simpa using h1)]
   rw[C] at h1;have h1:¬ (z.toNat:Int)=116:=by simpa using h1
   refine ag ?_;refine ab (au rfl (fun h2=>fI ?_) fun h2=>an ?_)
   .refine ag ?_;refine ab ?_;show AOps _ _ _ _ _ _ _ _ _;refine aw ?_;refine ab (aH (k+1,{ y with a:=0 },d) (aK eH eH) ⟨by dsimp only;omega,?_,hd⟩ oM);rw[C] at h2;rw[J,iO,if_neg h1,if_pos (by simpa using h2)]
   rw[C] at h2;have h2:¬ (z.toNat:Int)=97:=by simpa using h2
   refine ag ?_;refine ab (au rfl (fun h3=>fI ?_) fun h3=>an ?_)
   .refine ag ?_;refine ab ?_;show AOps _ _ _ _ _ _ _ _ _;refine aw ?_;refine ab (aH (k+1,{ y with b:=0 },d) (aK eH eH) ⟨by dsimp only;omega,?_,hd⟩ oM);rw[C] at h3;rw[J,iO,if_neg h1,if_neg h2,if_pos (by simpa using h3)]
   rw[C] at h3;have h3:¬ (z.toNat:Int)=98:=by simpa using h3
   refine ag ?_;refine ab (au rfl (fun h4=>fI ?_) fun h4=>an ?_)
   .refine ag ?_;refine ab ?_;show AOps _ _ _ _ _ _ _ _ _;refine aw ?_;refine ab (aH (k+1,{ y with n:=0 },d) (aK eH eH) ⟨by dsimp only;omega,?_,hd⟩ oM);rw[C] at h4;rw[J,iO,if_neg h1,if_neg h2,if_neg h3,if_pos (by simpa using h4)]
   rw[C] at h4;have h4:¬ (z.toNat:Int)=110:=by simpa using h4
   refine ag ?_;refine ab (au rfl (fun h5=>fI ?_) fun h5=>?_)
   .refine ag ?_;refine ab ?_;show AOps _ _ _ _ _ _ _ _ _;refine aw ?_;refine ab (aH (k+1,{ y with args:=[] },.z) (aK eH eH) ⟨by dsimp only;omega,?_,.inr ⟨rfl,rfl⟩⟩ oM);rw[C] at h5;rw[J,iO,if_neg h1,if_neg h2,if_neg h3,if_neg h4,if_pos (by simpa using h5)]
   rw[C] at h5;have h5:¬ (z.toNat:Int)=108:=by simpa using h5
   refine b8 ?_;show AOps _ _ _ _ _ _ _ _ _;refine aw ?_;refine ab (aH (k+1,y,d) (aK eH eH) ⟨by dsimp only;omega,?_,hd⟩ oM);rw[J,iO,if_neg h1,if_neg h2,if_neg h3,if_neg h4,if_neg h5]
  .have aY:¬ k<s.size:=by simpa using h
   rw[List.take_of_length_le (by simp[ct];omega)] at hy;exact⟨y,d,aK eH eH,hy,hd⟩
 .rintro st ⟨y,d,hg,hy,hd⟩;refine⟨_,hg,an ?_⟩;have hl:bE x (ct s)=jQ y:=by rw[bE,hy]
  rw[hl];have X:((y.args.length:Int)=0)↔y.args=[]:=⟨fun h=>List.length_eq_zero_iff.1 oG,fun h=>by rw[h];rfl⟩
  rcases hd with rfl|⟨rfl,hd⟩
  .refine aL ?_;refine aL ?_;refine cK ?_;refine ab (ax (d:=.s (.bool _)) rfl ?_);simp[jQ,aM,iF];grind
  .refine aL ?_;refine aL ?_;refine aw ?_;refine bm rfl rfl (Pa rfl) (fun hc=>⟨ak,V.h⟩) ?_;refine aw ?_;refine ab (ax (d:=.s (.bool _)) rfl ?_);simp[jQ,aM,iF,hd];grind
theorem bO{x:aW}{s:ByteArray}(C:s.size<=8):PCall prog 214 [.agg (a8 x),S s] (B (bE x (ct s))):=Su (d0:=az x.args) (.inl rfl) C
set_option maxHeartbeats 1000000 in
theorem dM{x:Argus.End}{s:ByteArray}(hs:s.size<=8):PCall prog 219 [.agg (aT x),S s] (B (dc x (ct s))):=by
 refine aX mixed Sx (by rw[afW];rfl) (.cons (.agg (ix x)) (.cons (.s _) .nil)) (Tr.s _) ?_;rw[afX,afY];refine av ?_;refine ag ?_;refine ab (aJ (aK (l:=[(1,S s),(2,.rp 0 0)]) (ml:=[(0,.cells (aT x) 69)]) eH eH) (an ?_));refine SS ?_;refine ab (aD (av ?_));refine SS ?_
 refine ab (bG (fun st=>∃ y J X,Ghost prog st ⟨ay [(2,.rp 0 0),(5,B ((ct s).any (·==104)))],a9 [(0,.cells (Sw y J X) 69)],1⟩/\(ct s).foldl fx x=y/\sy J y.ins.args/\sy X y.args) (cq (α:=Nat×Argus.End×D×D) (fun q=>⟨ay [(1,S s),(2,.rp 0 0),(5,B (((ct s).take q.1).any (·==104))),(6,I q.1)],a9 [(0,.cells (Sw q.2.1 q.2.2.1 q.2.2.2) 69)],1⟩)
  (fun q=>q.1<=s.size/\((ct s).take q.1).foldl fx x=q.2.1/\sy q.2.2.1 q.2.1.ins.args/\sy q.2.2.2 q.2.1.args) (fun q=>s.size - q.1) (0,x,az x.ins.args,az x.args) (aK eH eH) ⟨Nat.zero_le _,rfl,.inl rfl,.inl rfl⟩ ?_) ?_)
 .rintro⟨k,y,J,X⟩ ⟨hk,hy,cU,U⟩;dsimp only at hk hy cU U ⊢;refine aF ?_;refine ab ⟨_,rfl,fun h=>?_,fun h=>?_⟩
  .have ao:k<s.size:=by simpa using h
   obtain⟨hm,hx⟩:=DI ao;generalize C:s.data.toList.getD (k:Int).toNat 0=z at hm hx;have bL:((ct s).take (k+1)).foldl fx x=fx y z.toNat:=by rw[kE hx,hy]
   have sA:((ct s).take (k+1)).any (·==104)=(((ct s).take k).any (·==104)||(z.toNat:Int)==104):=by rw[List.take_add_one,hx,List.any_append];simp
   generalize ((ct s).take k).any (·==104)=hb at sA;refine ws ?_;refine aw ?_;refine ab (nL (an ?_));refine ag ?_;refine ab (au rfl (fun h0=>fI ?_) fun h0=>an ?_)
   .refine ag ?_;refine ab ?_;show AOps _ _ _ _ _ _ _ _ _;refine aw ?_;rw[C] at h0;have h0:(z.toNat:Int)=97:=by simpa using h0
    refine ab (aH (k+1,{ y with a:=0 },J,X) (aK ⟨rfl,rfl,?_,rfl,trivial⟩ eH) ⟨by dsimp only;omega,?_,cU,U⟩ oM)
    .show B hb=B (((ct s).take (k+1)).any (·==104));rw[sA,h0];simp
    .rw[bL,fx,if_pos h0]
   rw[C] at h0;have h0:¬ (z.toNat:Int)=97:=by simpa using h0
   refine ag ?_;refine ab (au rfl (fun h1=>fI ?_) fun h1=>an ?_)
   .refine ag ?_;refine ab ?_;show AOps _ _ _ _ _ _ _ _ _;refine aw ?_;rw[C] at h1;have h1:(z.toNat:Int)=98:=by simpa using h1
    refine ab (aH (k+1,{ y with b:=0 },J,X) (aK ⟨rfl,rfl,?_,rfl,trivial⟩ eH) ⟨by dsimp only;omega,?_,cU,U⟩ oM)
    .show B hb=B (((ct s).take (k+1)).any (·==104));rw[sA,h1];simp
    .rw[bL,fx,if_neg h0,if_pos h1]
   rw[C] at h1;have h1:¬ (z.toNat:Int)=98:=by simpa using h1
   refine ag ?_;refine ab (au rfl (fun h2=>fI ?_) fun h2=>an ?_)
   .refine ag ?_;refine ab ?_;show AOps _ _ _ _ _ _ _ _ _;refine aw ?_;rw[C] at h2;have h2:(z.toNat:Int)=116:=by simpa using h2
    refine ab (aH (k+1,{ y with to:=0 },J,X) (aK ⟨rfl,rfl,?_,rfl,trivial⟩ eH) ⟨by dsimp only;omega,?_,cU,U⟩ oM)
    .show B hb=B (((ct s).take (k+1)).any (·==104));rw[sA,h2];simp
    .rw[bL,fx,if_neg h0,if_neg h1,if_pos h2]
   rw[C] at h2;have h2:¬ (z.toNat:Int)=116:=by simpa using h2
   refine ag ?_;refine ab (au rfl (fun h3=>fI ?_) fun h3=>an ?_)
   .refine ag ?_;refine ab ?_;show AOps _ _ _ _ _ _ _ _ _;refine aw ?_;rw[C] at h3;have h3:(z.toNat:Int)=101:=by simpa using h3
    refine ab (aH (k+1,{ y with eL:=0 },J,X) (aK ⟨rfl,rfl,?_,rfl,trivial⟩ eH) ⟨by dsimp only;omega,?_,cU,U⟩ oM)
    .show B hb=B (((ct s).take (k+1)).any (·==104));rw[sA,h3];simp
    .rw[bL,fx,if_neg h0,if_neg h1,if_neg h2,if_pos h3]
   rw[C] at h3;have h3:¬ (z.toNat:Int)=101:=by simpa using h3
   refine ag ?_;refine ab (au rfl (fun h4=>fI ?_) fun h4=>an ?_)
   .refine ag ?_;refine ab ?_;show AOps _ _ _ _ _ _ _ _ _;refine aw ?_;rw[C] at h4;have h4:(z.toNat:Int)=110:=by simpa using h4
    refine ab (aH (k+1,{ y with name:=.empty },J,X) (aK ⟨rfl,rfl,?_,rfl,trivial⟩ eH) ⟨by dsimp only;omega,?_,cU,U⟩ oM)
    .show B hb=B (((ct s).take (k+1)).any (·==104));rw[sA,h4];simp
    .rw[bL,fx,if_neg h0,if_neg h1,if_neg h2,if_neg h3,if_pos h4]
   rw[C] at h4;have h4:¬ (z.toNat:Int)=110:=by simpa using h4
   refine ag ?_;refine ab (au rfl (fun h5=>fI ?_) fun h5=>an ?_)
   .refine aw ?_;refine ab ?_;show AOps _ _ _ _ _ _ _ _ _;refine aw ?_;rw[C] at h5;have h5:(z.toNat:Int)=105:=by simpa using h5
    refine ab (aH (k+1,{ y with ins:=dh },.z,X) (aK ⟨rfl,rfl,?_,rfl,trivial⟩ eH) ⟨by dsimp only;omega,?_,.inr ⟨rfl,rfl⟩,U⟩ oM)
    .show B hb=B (((ct s).take (k+1)).any (·==104));rw[sA,h5];simp
    .rw[bL,fx,if_neg h0,if_neg h1,if_neg h2,if_neg h3,if_neg h4,if_pos h5]
   rw[C] at h5;have h5:¬ (z.toNat:Int)=105:=by simpa using h5
   refine ag ?_;refine ab (au rfl (fun h6=>fI ?_) fun h6=>an ?_)
   .refine ag ?_;refine ab ?_;show AOps _ _ _ _ _ _ _ _ _;refine aw ?_;rw[C] at h6;have h6:(z.toNat:Int)=108:=by simpa using h6
    refine ab (aH (k+1,{ y with args:=[] },J,.z) (aK ⟨rfl,rfl,?_,rfl,trivial⟩ eH) ⟨by dsimp only;omega,?_,cU,.inr ⟨rfl,rfl⟩⟩ oM)
    .show B hb=B (((ct s).take (k+1)).any (·==104));rw[sA,h6];simp
    .rw[bL,fx,if_neg h0,if_neg h1,if_neg h2,if_neg h3,if_neg h4,if_neg h5,if_pos h6]
   rw[C] at h6;have h6:¬ (z.toNat:Int)=108:=by simpa using h6
   refine ag ?_;refine ab (au rfl (fun h8=>fI ?_) fun h8=>?_)
   .refine SS ?_;refine ab ?_;show AOps _ _ _ _ _ _ _ _ _;refine aw ?_;rw[C] at h8;refine ab (aH (k+1,y,J,X) (aK ⟨rfl,rfl,?_,rfl,trivial⟩ eH) ⟨by dsimp only;omega,?_,cU,U⟩ oM)
    .show B true=B (((ct s).take (k+1)).any (·==104));rw[sA,h8];simp
    .rw[bL,fx,if_neg h0,if_neg h1,if_neg h2,if_neg h3,if_neg h4,if_neg h5,if_neg h6]
   rw[C] at h8;refine b8 ?_;show AOps _ _ _ _ _ _ _ _ _;refine aw ?_;refine ab (aH (k+1,y,J,X) (aK ⟨rfl,rfl,?_,rfl,trivial⟩ eH) ⟨by dsimp only;omega,?_,cU,U⟩ oM)
   .show B hb=B (((ct s).take (k+1)).any (·==104));rw[sA,h8];simp
   .rw[bL,fx,if_neg h0,if_neg h1,if_neg h2,if_neg h3,if_neg h4,if_neg h5,if_neg h6]
  .have aY:¬ k<s.size:=by simpa using h
   rw[List.take_of_length_le (by simp[ct];omega)] at hy ⊢;exact⟨y,J,X,aK eH eH,hy,cU,U⟩
 .rintro st ⟨y,J,X,hg,hy,cU,U⟩;refine⟨_,hg,aD (an ?_)⟩
  have hl:dc x (ct s)=(((ct s).any (·==104)||(aM y.aE.length 0&&aM y.cm (-1)))&&nW y):=by
   have hw:∀ (l:List Int) (x:Argus.End),(l.foldl fx x).aE=x.aE/\(l.foldl fx x).cm=x.cm:=fun l=>by
    induction l with
    |nil=>exact fun _=>⟨rfl,rfl⟩
    |cons a l ih=>
     intro x
     have:(fx x a).aE=x.aE/\(fx x a).cm=x.cm:=by
      unfold fx
      repeat' split
      all_goals exact⟨rfl,rfl⟩
     rw[List.foldl_cons,(ih _).1,(ih _).2,this.1,this.2];exact⟨rfl,rfl⟩
   obtain⟨h1,h2⟩:=hw (ct s) x;rw[hy] at h1 h2;rw[dc,hy,h1,h2]
  rw[hl];clear hl hy;generalize (ct s).any (·==104)=hb;have bO:PCall prog 214 [.agg [U8 y.ins.op,I y.ins.to,I y.ins.a,I y.ins.b,I y.ins.n,J],S ⟨#[]⟩] (B (jQ y.ins)):=Su (x:=y.ins) cU oC;refine aL ?_;refine aF ?_;refine ab (bC rfl (fun h=>?_) fun h=>cx (an ?_))
  .refine aD (an ?_);refine SS ?_;refine ab (dx (ax (d:=.s (.bool _)) rfl ?_));revert h;simp[aM];grind
  rcases U with rfl|⟨rfl,U⟩
  .refine aL ?_;refine aL ?_;refine aL ?_;refine aL ?_;refine ag ?_;refine gc bO ?_;refine ag ?_;refine ab (ax (d:=.s (.bool _)) rfl ?_);revert h;simp[nW,aM];grind
  .refine aL ?_;refine aL ?_;refine bA ?_;refine bm rfl rfl (Pa rfl) (fun hc=>⟨ak,V.h⟩) ?_;refine aL ?_;refine ag ?_;refine gc bO ?_;refine ag ?_;refine ab (ax (d:=.s (.bool _)) rfl ?_);revert h;simp[nW,aM,U];grind
theorem lI{x:Argus.End}(hlen:x.aE.length<=100000):PCall prog 145 [.agg (aT x)] (az (cE x)):=by
 have aR:∀ a∈[D.agg (aT x)],Tr a:=.cons (.agg (ix x)) .nil;refine aX mixed Sy (by rw[afZ];rfl) aR (cI _) ?_;rw[af0,af1];refine av ?_;refine ag ?_;refine ab (aJ (bp [(0,aT x,69)] eH (l:=[(1,.pt (aT x))]) eH) (av ?_));refine SS ?_;refine ab ⟨_,.nilrow _ _ _ 3 3 rfl,?_⟩;refine dB (vJ x (eC x)) (an ?_) fun s C=>?_
 .have yes:x.kind≠3/\x.kind≠4->eC x=[x.to]:=fun h=>by rw[eC,if_pos h]
  have no:¬ (x.kind≠3/\x.kind≠4)->eC x=[]:=fun h=>by rw[eC,if_neg h]
  have aq:up (fun _=>(none:Option Row)) 1 (some (.cells [] 3)) 1=some (.cells [] 3):=up_same _ _ _;by_cases h3:x.kind=3
  .have lG:(x.kind !=3)=false:=by simp[h3]
   refine aF ?_;(iterate 3 refine z fun _ _=>?_);refine SS ?_;refine ab (au rfl (fun h=>oH) fun h=>aZ ?_);rw[no (by simp[h3])];exact⟨_,_,_,Nat.lt_succ_self _,up_same _ _ _,ap eH⟩
  .by_cases h4:x.kind=4
   .have lG:(x.kind !=3)=true:=by simp[h4]
    have Ie:(x.kind !=4)=false:=by simp[h4]
    refine bA ?_;refine ab (au rfl (fun h=>(by simp[h4] at h)) fun h=>aZ ?_);rw[no (by simp[h4])];exact⟨_,_,_,Nat.lt_succ_self _,up_same _ _ _,ap eH⟩
   .have lG:(x.kind !=3)=true:=by simp[h3]
    have Ie:(x.kind !=4)=true:=by simp[h4]
    refine bA ?_;refine ab (au rfl (fun h=>?_) fun h=>(by simp[h4] at h));refine fI ?_;refine bD ?_;refine ab ?_;rw[yes ⟨h3,h4⟩];exact⟨_,_,_,Nat.lt_succ_self _,up_same _ _ _,ap eH⟩
 obtain⟨r,m,nx,hr,aq,hg⟩:=C;refine⟨_,hg,dB (vJ x (lT x)) (an ?_) fun s C=>?_⟩
 .have J:lT x=if x.kind=2\/x.kind=8 then eC x++[x.eL] else eC x:=rfl
  have U:(eC x).length<=1:=by unfold eC;split<;>simp
  generalize eC x=l at aq J U;have pZ:(l.map I).length=l.length:=by simp
  by_cases h2:x.kind=2\/x.kind=8
  .rw[if_pos h2] at J;refine bA ?_;refine ab (au rfl (fun h=>fI ?_) fun h=>(by rcases h2 with h2|h2<;>simp[h2] at h));refine bD ?_;refine ab ?_;rw[J];refine⟨_,_,_,Nat.lt_succ_self _,(up_same _ _ _).trans (by rw[List.map_append];rfl),ap ⟨rfl,?_,trivial⟩⟩;show D.rs _ 0 _=D.rs _ 0 _;rw[List.length_append];rfl
  .rw[if_neg h2] at J;refine bA ?_;refine ab (au rfl (fun h=>(by exfalso;apply h2;revert h;by_cases e2:x.kind=2<;>by_cases e8:x.kind=8<;>simp[e2,e8])) fun h=>aZ ?_);rw[J];exact⟨r,m,nx,hr,aq,ap eH⟩
 clear hg hr aq;obtain⟨r,m,nx,hr,aq,hg⟩:=C;refine⟨_,hg,dB (vJ x (cL x x.aE.length)) (av ?_) fun s C=>?_⟩
 .refine SS ?_
  refine ab (cq (α:=Nat×Nat×Mem×Nat) (fun s=>⟨ay [(1,.pt (aT x)),(3,.rs s.2.1 0 (cL x s.1).length),(4,I s.1)],s.2.2.1,s.2.2.2⟩)
   (fun s=>s.1<=x.aE.length/\s.2.1<s.2.2.2/\s.2.2.1 s.2.1=some (.cells ((cL x s.1).map I) 3)) (fun s=>x.aE.length - s.1) (0,r,m,nx) (ap ⟨rfl,?_,rfl,trivial⟩) ⟨Nat.zero_le _,hr,?_⟩ ?_)
  .show D.rs r 0 _=D.rs r 0 _;simp[cL]
  .show m r=_;rw[aq];simp[cL]
  clear hg hr aq;rintro⟨j,r,m,nx⟩ ⟨hj,hr,aq⟩;dsimp only at hj hr aq ⊢;refine aV ?_;refine ab ⟨_,rfl,fun h=>?_,fun h=>?_⟩
  .have bZ:j<x.aE.length:=by simpa using h
   have hy:x.aE[j]? =some x.aE[j]:=List.getElem?_eq_getElem bZ;generalize x.aE[j]=w at hy;have X:=MC hy;have vD:(cL x (j+1)).length=(cL x j).length+1:=by rw[X];simp
   have pZ:((cL x j).map I).length=(cL x j).length:=by simp
   have U:(cL x j).length<=2+j:=by have:=Az x;unfold cL;simp;omega
   generalize cL x j=l at aq X pZ vD U;refine dJ ?_;refine bA ?_;refine ag ?_;refine ab ?_;refine aw ?_;refine ab (aH (j+1,nx+1,_,_) (ap ⟨rfl,?_,rfl,trivial⟩) ⟨by dsimp only;omega,by dsimp only;omega,?_⟩ oM)
   .show D.rs _ 0 _=D.rs _ 0 _;rw[vD]
   .dsimp only;rw[X,List.map_append];exact up_same _ _ _
  .have aY:¬ j<x.aE.length:=by simpa using h
   have:j=x.aE.length:=by omega
   subst this;exact⟨r,m,nx,hr,aq,ap eH⟩
 clear hg hr aq;obtain⟨r,m,nx,hr,aq,hg⟩:=C;refine⟨_,hg,dB (vJ x (cE x)) (an ?_) fun s C=>?_⟩
 .have hd:cE x=if 0<=x.cm then cL x x.aE.length++[x.cm] else cL x x.aE.length:=rfl
  have U:(cL x x.aE.length).length<=2+x.aE.length:=by have:=Az x;unfold cL;simp;omega
  generalize cL x x.aE.length=l at aq hd U;have pZ:(l.map I).length=l.length:=by simp
  refine aw ?_;refine ab (au rfl (fun h=>fI ?_) fun h=>aZ ?_)
  .rw[if_pos (by simpa using h)] at hd;refine bD ?_;refine ab ?_;rw[hd];refine⟨_,_,_,Nat.lt_succ_self _,(up_same _ _ _).trans (by rw[List.map_append];rfl),ap ⟨rfl,?_,trivial⟩⟩;show D.rs _ 0 _=D.rs _ 0 _;rw[List.length_append];rfl
  .rw[if_neg (by simpa using h)] at hd;rw[hd];exact⟨r,m,nx,hr,aq,ap eH⟩
 clear hg hr aq;obtain⟨r,m,nx,hr,aq,hg⟩:=C;refine⟨_,hg,av ?_⟩;refine ag ?_;refine ab (aJ (bp [(r,(cE x).map I,3)] ⟨aq,trivial⟩ (l:=[(2,az (cE x))]) ⟨jO (sz:=1) c3 (by rw[List.drop_zero,List.take_of_length_le oS]),trivial⟩) (ax rfl rfl))
theorem Ki{l:List Int}{n:Int}(hl:l.length<=100000):PCall prog 92 [az l,I n] (az (iP l n)):=by
 refine aX mixed Ug (by rw[akr];rfl) (.cons (cI _) (.cons (.s _) .nil)) (cI _) ?_;rw[aks,akt];refine ws ?_;refine SS ?_;refine ab (av ?_);refine SS ?_
 refine ab (bG (fun st=>∃ k:Nat,Ghost prog st ⟨ay [(0,az l),(1,I n),(5,I k)],fun _=>none,0⟩/\k<=l.length/\(∀ (j:Nat) y,j<k->l[j]? =some y->y<n)/\∀ y,l[k]? =some y->¬ y<n) (wl (α:=Nat) (fun k=>⟨ay [(0,az l),(1,I n),(5,I k)],fun _=>none,0⟩)
  (fun k=>k<=l.length/\∀ (j:Nat) y,j<k->l[j]? =some y->y<n) (fun k=>l.length - k) 0 (ap eH) ⟨Nat.zero_le _,fun j y hj=>by omega⟩ ?_) ?_)
 .rintro k ⟨hk,hinv⟩;by_cases ao:k<l.length
  .have hx:l[k]? =some l[k]:=List.getElem?_eq_getElem ao;generalize l[k]=y at hx;have pK:decide ((k:Int)<(l.length:Int))=true:=decide_eq_true oG;refine aL ?_;refine aw ?_;refine ab ⟨_,rfl,fun h=>?_,fun h=>?_⟩
   .have hy:y<n:=by simpa using h
    refine dJ ?_;refine aw ?_;refine ab (aH (k+1) (ap eH) ⟨by omega,fun j J hj U=>?_⟩ oG);by_cases e:j=k
    .subst e;rw[hx] at U;cases U;exact hy
    .exact hinv j J oG U
   .have hy:¬ y<n:=by simpa using h
    exact⟨k,ap eH,hk,hinv,fun J U=>by rw[hx] at U;cases U;exact hy⟩
  .have pK:decide ((k:Int)<(l.length:Int))=false:=decide_eq_false oG;refine aV ?_;(iterate 6 refine z fun _ _=>?_);refine SS ?_;refine ab ⟨_,rfl,fun h=>oH,fun h=>?_⟩;exact⟨k,ap eH,hk,hinv,fun J U=>by have:=(List.getElem?_eq_some_iff.1 U).1;omega⟩
 .rintro st ⟨k,hg,hk,hinv,aO⟩;have EI:=PC hk hinv aO;refine⟨_,hg,aD (an ?_)⟩;by_cases bl:l[k]? =some n
  .rw[if_pos bl] at EI;have pK:decide ((k:Int)<(l.length:Int))=true:=decide_eq_true (by have:=(List.getElem?_eq_some_iff.1 bl).1;omega);refine aL ?_;refine aw ?_;refine ab (bC rfl (fun h=>?_) fun h=>(by simp at h));refine aD (an ?_);refine ag ?_;refine ab (dx (ax rfl ?_));rw[EI];rfl
  rw[if_neg bl] at EI
  have sD:((l.map I).drop ((0:Int).toNat*1)).take (((k:Int) - 0).toNat*1)=(l.take k).map I:=by
   rw[show(0:Int).toNat*1=0 by simp,show((k:Int) - 0).toNat*1=k by omega,List.drop_zero,List.map_take]
  have Kj:((l.map I).drop ((k:Int).toNat*1)).take (((l.length:Int) - k).toNat*1)=(l.drop k).map I:=by
   rw[show(k:Int).toNat*1=k by omega, <- List.map_drop,List.take_of_length_le (by simp;try omega)]
  have Kk:((l.take k).map I).take (((k:Int) - 0).toNat*1)=(l.take k).map I:=List.take_of_length_le (by simp;try omega);have Kl:((l.drop k).map I).take (((l.length:Int) - k).toNat*1)=(l.drop k).map I:=List.take_of_length_le (by simp;try omega);have nD:((l.take k).map I).length=k:=by simp;omega
  have Cx:((l.drop k).map I).length=l.length - k:=by simp
  have X:((l.take k).map I++[I n])++(l.drop k).map I=(l.take k++n::l.drop k).map I:=by simp
  have hlen:(l.take k++n::l.drop k).length=l.length+1:=by simp;omega
  rw[EI];generalize l.take k++n::l.drop k=J at X hlen;generalize (l.take k).map I=A at sD Kk nD X;generalize (l.drop k).map I=C at Kj Kl Cx X;by_cases ao:k<l.length
  .have hx:l[k]? =some l[k]:=List.getElem?_eq_getElem ao;have aI:l[k]≠n:=fun e=>bl (by rw[hx,e]);generalize l[k]=y at hx aI;have pK:decide ((k:Int)<(l.length:Int))=true:=decide_eq_true oG;have dI:(y==n)=false:=by simpa using aI
   refine aL ?_;refine aw ?_;refine ab (bC rfl (fun h=>oH) fun h=>cx (an ?_));refine aw ?_;refine aB (yA (es':=A) rfl CD c3 rfl rfl sD) (by repeat' (first|exact trivial|exact rfl|refine And.intro ?_ ?_)) ⟨BU,by omega,by omega,by omega⟩ ?_;have qN:=Kk;refine aV ?_;refine ab (av ?_);refine aw ?_;refine aB (yA (es':=C) rfl CD c3 rfl rfl Kj) (by repeat' (first|exact trivial|exact rfl|refine And.intro ?_ ?_)) ⟨BU,by omega,by omega,by omega⟩ ?_;have qN:=Kl;refine ag ?_;refine ab (aJ (bp [(4,J.map I,3)] ⟨by rw[<- X];rfl,trivial⟩ (l:=[(4,az J)]) ⟨?_,trivial⟩) (aU (ax rfl rfl)));show qY _ [(4,_,3)] (.rs 4 0 (0+((k:Int) - 0).toNat+1+((l.length:Int) - k).toNat))=_;rw[show 0+((k:Int) - 0).toNat+1+((l.length:Int) - k).toNat=J.length by omega];exact jO (sz:=1) c3 (by rw[List.drop_zero,List.take_of_length_le oS])
  .have pK:decide ((k:Int)<(l.length:Int))=false:=decide_eq_false oG;refine aV ?_;(iterate 6 refine z fun _ _=>?_);refine SS ?_;refine ab (bC rfl (fun h=>oH) fun h=>cx (an ?_));refine aw ?_;refine aB (yA (es':=A) rfl CD c3 rfl rfl sD) (by repeat' (first|exact trivial|exact rfl|refine And.intro ?_ ?_)) ⟨BU,by omega,by omega,by omega⟩ ?_;have qN:=Kk;refine aV ?_;refine ab (av ?_);refine aw ?_;refine aB (yA (es':=C) rfl CD c3 rfl rfl Kj) (by repeat' (first|exact trivial|exact rfl|refine And.intro ?_ ?_)) ⟨BU,by omega,by omega,by omega⟩ ?_;have qN:=Kl;refine ag ?_;refine ab (aJ (bp [(4,J.map I,3)] ⟨by rw[<- X];rfl,trivial⟩ (l:=[(4,az J)]) ⟨?_,trivial⟩) (aU (ax rfl rfl)));show qY _ [(4,_,3)] (.rs 4 0 (0+((k:Int) - 0).toNat+1+((l.length:Int) - k).toNat))=_;rw[show 0+((k:Int) - 0).toNat+1+((l.length:Int) - k).toNat=J.length by omega];exact jO (sz:=1) c3 (by rw[List.drop_zero,List.take_of_length_le oS])
end Go.Proofs.Tryz.K
end
namespace Go.Argus
open Go Go.Abs
open Go.Proofs.Tryz.K (nextR)
theorem wa{α:Type}{l:List α}{k i:Nat}{x d:α}(hk:k<l.length):(l.set k x).getD i d=if i=k then x else l.getD i d:=by
 rw[List.getD_eq_getElem?_getD,List.getElem?_set,List.getD_eq_getElem?_getD];by_cases h:k=i
 .subst h;rw[if_pos rfl,if_pos rfl,if_pos hk];rfl
 .rw[if_neg h,if_neg fun e=>h e.symm]
theorem eK.Um{n:Nat}{s:CS}(h:eK n s){b:Nat}(hb:b<n):eD (s.ws.getD b []):=by
 have hl:b<s.ws.length:=by rw[h.lw];exact hb
 have hx:s.ws[b]? =some s.ws[b]:=List.getElem?_eq_getElem hl;rw[getD_some hx];have hm:s.ws[b]∈s.ws:=List.getElem_mem _;exact⟨h.iU _ hm,h.rg _ hm⟩
structure Cert where
 any:Bool
 is:List Bool
def eU(R i:Nat):Nat:=if i<R then i else 1200+(i - R)
def bR(R n:Nat)(w:List Int):List Bool:=(List.range n).map fun i=>a7 w (eU R i)
def kT(R n:Nat)(w:List Int):Prop:=∀ r,a7 w r=true->∃ i,i<n/\r=eU R i
def ia(c:Cert)(r:Int):Cert:=if r= -1 then c else⟨c.any,c.is.set r.toNat true⟩
def tG(R:Nat)(c:Cert)(x:aW):Cert:=if x.op=18 then ia (ia c (bM x)) ((R:Int)+x.n) else ia c (bM x)
def dR(R:Nat)(l:List aW)(c:Cert):Cert:=l.foldl (tG R) c
def lD(x:End)(to:Int)(c:Cert):Cert:=if x.to≠to\/(cE x).tail.any (·==to)=true\/x.kind=3\/x.kind=4 then c else ia c (dp x)
def nY(a b:Cert):Cert:=if a.any=true then b else if b.any=true then a else⟨false,List.zipWith (fun x y=>x&&y) a.is b.is⟩
def p7(c:Cert)(rs:List Int):Bool:=rs.all fun r=>c.is.getD r.toNat false
theorem At(R n:Nat)(w:List Int):(bR R n w).length=n:=by simp[bR]
theorem rV{R n i:Nat}{w:List Int}(h:i<n):(bR R n w)[i]? =some (a7 w (eU R i)):=by simp[bR,h]
theorem yM{R n i:Nat}{w:List Int}(h:¬ i<n):(bR R n w)[i]? =none:=by simp[bR];omega
theorem aaN{R i j:Nat}(hR:R<=1200)(h:eU R i=eU R j):i=j:=by
 unfold eU at h;split at h<;>split at h<;>omega
theorem aaO{w:List Int}(h:w.length=20){r:Nat}(hr:¬ r<1280):a7 w r=false:=by
 unfold a7;rw[List.getD_eq_getElem?_getD,List.getElem?_eq_none (by rw[h];omega)];simp
section
variable{R n:Nat}(hR:R<=1200)(hn:n<=R+60)
include hR hn
theorem abC{i:Nat}(h:i<n):eU R i<1280:=by unfold eU;split<;>omega
theorem L9{w:List Int}(C:eD w){i:Nat}(h:i<n)(r:Nat):a7 (fP w (eU R i:Nat)) r=(a7 w r||decide (r=eU R i)):=by
 have:=abC hR hn h;unfold fP;rw[if_pos oG,Int.toNat_natCast,MV C.all (by rw[C.len];omega)]
theorem Dv{w:List Int}(C:eD w){i:Nat}(h:i<n):(bR R n w).set i true=bR R n (fP w (eU R i:Nat)):=by
 apply List.ext_getElem?;intro j;rw[List.getElem?_set];by_cases hj:j<n
 .rw[rV hj,rV hj,L9 hR hn C h];by_cases e:i=j
  .subst e;simp[At,h]
  .rw[if_neg e];have:¬ eU R j=eU R i:=fun h=>e (aaN hR h).symm;simp[this]
 .rw[yM hj,yM hj];split
  .rw[At,if_neg oG]
  .rfl
theorem Dj{w:List Int}(J:eD w)(C:kT R n w){i:Nat}(h:i<n):kT R n (fP w (eU R i:Nat)):=fun r hr=>by
 rw[L9 hR hn J h,Bool.or_eq_true] at hr;rcases hr with hr|hr
 .exact C r hr
 .exact⟨i,h,by simpa using hr⟩
omit hR hn in
theorem ZR{w v:List Int}(C:eD w)(hv:eD v):List.zipWith (fun x y=>x&&y) (bR R n w) (bR R n v)=bR R n (fQ w v):=by
 apply List.ext_getElem?;intro j;rw[List.getElem?_zipWith];by_cases hj:j<n
 .rw[rV hj,rV hj,rV hj,GU C hv]
 .rw[yM hj,yM hj,yM hj]
omit hR hn in
theorem L'{w v:List Int}(J:eD w)(hv:eD v)(C:kT R n v):kT R n (fQ w v):=fun r hr=>by
 rw[GU J hv,Bool.and_eq_true] at hr;exact C r hr.2
omit hR hn in
theorem aaP{w v:List Int}(J:eD w)(hv:eD v)(C:kT R n w)(U:kT R n v)(h:bR R n w=bR R n v):w=v:=by
 refine Gn J.all hv.all (by rw[J.len,hv.len]) fun r=>?_
 have hb:∀ i,i<n->a7 w (eU R i)=a7 v (eU R i):=fun i hi=>by
  have:=congrArg (fun l:List Bool=>l[i]?) h;simpa only[rV hi,Option.some.injEq] using this
 cases e1:a7 w r with
 |true=>
  obtain⟨i,hi,rfl⟩:=C r e1;rw[<- hb i hi,e1]
 |false=>
  cases e2:a7 v r with
  |false=>rfl
  |true=>
   obtain⟨i,hi,rfl⟩:=U r e2;rw[hb i hi,e2] at e1;cases e1
end
def se:List Int:=List.replicate 20 jS
theorem GW:eD se:=⟨by simp[se],fun u C=>by rw[List.eq_of_mem_replicate C];simp[c8,jS]⟩
theorem ZS{r:Nat}(h:r<1280):a7 se r=true:=by
 have h1:se.getD (r / 64) 0=jS:=by
  unfold se;rw[List.getD_eq_getElem?_getD,List.getElem?_replicate,if_pos oG];rfl
 unfold a7;rw[h1];have h2:r % 64<64:=Nat.mod_lt _ oC;have h3:jS.toNat=2 ^ 64 - 1:=rfl;rw[h3,Nat.testBit_two_pow_sub_one];simpa using h2
theorem YC{w:List Int}(C:eD w):fQ se w=w:=by
 refine Gn (GW.Jq C).all C.all (by rw[(GW.Jq C).len,C.len]) fun r=>?_;rw[GU GW C];by_cases h:r<1280
 .rw[ZS h,Bool.true_and]
 .rw[aaO C.len h,Bool.and_false]
structure xf(R n:Nat)(x:aW):Prop where
 w:bM x= -1\/∃ i:Nat,i<R/\bM x=i
 s:x.op=18->∃ i:Nat,R+i<n/\x.n=i
theorem MW{R n:Nat}(hR:R<=1200)(hn:n<=R+60)(o5:R<=n){w:List Int}{x:aW}(h:xf R n x)(C:eD w)(U:kT R n w):
 tG R ⟨false,bR R n w⟩ x=⟨false,bR R n (uG w x)⟩/\eD (uG w x)/\kT R n (uG w x):=by
 have aI:∀ {v:List Int},fP v (-1)=v:=fun {v}=>by unfold fP;rw[if_neg oG]
 have X:∀ {i:Nat},i<R->((i:Nat):Int)=(eU R i:Nat):=fun {i} hi=>by unfold eU;rw[if_pos hi]
 unfold tG uG;by_cases J:x.op=18
 .obtain⟨i,hi,e⟩:=h.s J;have lQ:bM x= -1:=by simp[bM,aG,kG,mU,J]
  have hp:jC x.n=(eU R (R+i):Nat):=by rw[e];unfold jC eU;rw[if_neg oG];omega
  rw[if_pos J,if_pos J,lQ,hp];refine⟨?_,C.fP _,Dj hR hn C U hi⟩;unfold ia;rw[if_pos rfl,if_neg oG,e, <- Dv hR hn C hi];congr 2
 .rw[if_neg J,if_neg J];rcases h.w with e|⟨i,hi,e⟩
  .rw[e,aI];exact⟨if_pos rfl,C,U⟩
  .rw[e,X hi];refine⟨?_,C.fP _,Dj hR hn C U oG⟩;unfold ia;rw[if_neg oG, <- Dv hR hn C oG, <- X hi,Int.toNat_natCast]
theorem Au{R n:Nat}(hR:R<=1200)(hn:n<=R+60)(C:R<=n):∀ {l:List aW} (_:∀ x∈l,xf R n x) {w:List Int} {ok:Bool} (_:eD w) (_:kT R n w),
 dR R l ⟨false,bR R n w⟩=⟨false,bR R n (l.foldl mv (w,ok)).1⟩/\eD (l.foldl mv (w,ok)).1/\kT R n (l.foldl mv (w,ok)).1
 |[],_,w,ok,hw,ho=>⟨rfl,hw,ho⟩
 |x::l,h,w,ok,hw,ho=>by
  obtain⟨h1,h2,h3⟩:=MW hR hn C (h x oS) hw ho;unfold dR;rw[List.foldl_cons,List.foldl_cons,h1];exact Au hR hn C (fun y hy=>h y (by simp[hy])) h2 h3
theorem count_tail{l:List Int}{a b:Int}(h:a=b):((a::l).count b=1)↔l.any (·==b)=false:=by
 subst h;rw[List.count_cons_self,List.any_eq_false];constructor
 .intro h x hx;have h0:l.count a=0:=by omega
  rw[List.count_eq_zero] at h0;intro e;have:x=a:=by simpa using e
  subst this;exact h0 hx
 .intro h;have:l.count a=0:=List.count_eq_zero.2 fun hm=>h a hm oS;omega
theorem MX{R n:Nat}(hR:R<=1200)(hn:n<=R+60)(o5:R<=n){x:End}(he:cE x=cz x)(gZ:dp x= -1\/∃ i:Nat,i<R/\dp x=i){to:Int}{w:List Int}(C:eD w)(U:kT R n w):
 lD x to ⟨false,bR R n w⟩=⟨false,bR R n (fq x to w)⟩/\eD (fq x to w)/\kT R n (fq x to w):=by
 have aI:∀ {v:List Int},fP v (-1)=v:=fun {v}=>by unfold fP;rw[if_neg oG]
 have nA:yR x to=true↔¬ (x.to≠to\/(cE x).tail.any (·==to)=true\/x.kind=3\/x.kind=4):=by
  unfold yR;rw[Bool.and_eq_true,lX,lX,he];unfold cz;by_cases J:x.kind=3\/x.kind=4
  .rw[if_pos (by simpa[aG] using J)];simp[J]
  .rw[if_neg (by simpa[aG] using J),List.tail_cons];generalize ((if aG [2,8] x.kind=true then [x.eL] else [])++(x.aE.map (·.to)++if fX x=true then [x.cm] else []))=l;constructor
   .rintro⟨h1,h2⟩ h;rcases h with h|h|h|h
    .exact h h1
    .have:=(count_tail (l:=l) h1).1 oG;rw[this] at h;cases h
    .exact J (.inl h)
    .exact J (.inr h)
   .intro h;have h1:x.to=to:=Classical.byContradiction fun e=>h (.inl e);refine⟨h1,?_⟩;have:=(count_tail (l:=l) h1).2 (Bool.eq_false_iff.2 fun e=>h (.inr (.inl e)));omega
 unfold lD fq;by_cases ha:yR x to=true
 .rw[if_pos ha,if_neg (nA.1 ha)];rcases gZ with e|⟨i,hi,e⟩
  .rw[e,aI];exact⟨if_pos rfl,C,U⟩
  .have X:((i:Nat):Int)=(eU R i:Nat):=by unfold eU;rw[if_pos hi]
   rw[e,X];refine⟨?_,C.fP _,Dj hR hn C U oG⟩;unfold ia;rw[if_neg oG, <- Dv hR hn C oG, <- X,Int.toNat_natCast]
 .rw[if_neg ha,if_pos (Classical.byContradiction fun h=>ha (nA.2 h))];exact⟨rfl,C,U⟩
structure n3(R n N:Nat)(s:CS):Prop where
 ok:eK N s
 yes:∀ k,k<N->s.re.getD k false=true->kT R n (s.ws.getD k [])
 no:∀ k,k<N->s.re.getD k false=false->s.ws.getD k []=se
def bT(R n:Nat)(s:CS)(k:Nat):Cert:=if s.re.getD k false=true then⟨false,bR R n (s.ws.getD k [])⟩ else⟨true,List.replicate n false⟩
def zv(x:End)(R n:Nat)(w:List Int)(s:CS)(t:Nat):Cert:=nY (bT R n s t) (lD x t ⟨false,bR R n w⟩)
theorem NA{R n N:Nat}(hR:R<=1200)(hn:n<=R+60)(o5:R<=n){s:CS}(C:n3 R n N s){x:End}(he:cE x=cz x)(gZ:dp x= -1\/∃ i:Nat,i<R/\dp x=i){t:Nat}(ht:t<N)
 {w:List Int} (hw:eD w) (ho:kT R n w):
 n3 R n N (cg x w s t)/\((zv x R n w s t=bT R n s t/\cg x w s t=s)\/((zv x R n w s t).any≠(bT R n s t).any\/(zv x R n w s t).is≠(bT R n s t).is)/\(cg x w s t).ch=true/\
  ∀ k,bT R n (cg x w s t) k=if k=t then zv x R n w s t else bT R n s k):=by
 obtain⟨o1,U,X⟩:=MX hR hn o5 he gZ (to:=(t:Int)) hw ho;have hlw:s.ws.length=N:=C.ok.lw;have zX:s.re.length=N:=C.ok.lr;have lb:=C.ok.Um ht;have V7:=(CV (x:=x) (w:=w) (t:=(t:Int)) C.ok ⟨by omega,by omega⟩).1;unfold zv;rw[o1];generalize hv:fq x t w=v at U X
 have key:∀ u:List Int,(s.re.getD t false=true->u≠s.ws.getD t [])->fQ (s.ws.getD t []) v=u->kT R n u->nY (bT R n s t) ⟨false,bR R n v⟩=⟨false,bR R n u⟩->(⟨false,bR R n u⟩:Cert).any≠(bT R n s t).any\/bR R n u≠(bT R n s t).is->
  n3 R n N (cg x w s t)/\((nY (bT R n s t) ⟨false,bR R n v⟩=bT R n s t/\cg x w s t=s)\/((nY (bT R n s t) ⟨false,bR R n v⟩).any≠(bT R n s t).any\/(nY (bT R n s t) ⟨false,bR R n v⟩).is≠(bT R n s t).is)/\(cg x w s t).ch=true/\
  ∀ k,bT R n (cg x w s t) k=if k=t then nY (bT R n s t) ⟨false,bR R n v⟩ else bT R n s k):=fun u hu hm hou hb aI=>by
  have ld:cg x w s t=⟨s.ws.set t u,s.re.set t true,true⟩:=by
   unfold cg;rw[Int.toNat_natCast,hv,hm,if_pos];cases e:s.re.getD t false with
   |false=>exact .inl rfl
   |true=>exact .inr (hu e)
  rw[ld] at V7 ⊢;have KF:∀ k,(s.ws.set t u).getD k []=if k=t then u else s.ws.getD k []:=fun k=>wa oG
  have tW:∀ k,(s.re.set t true).getD k false=if k=t then true else s.re.getD k false:=fun k=>wa oG
  refine⟨⟨V7,fun k hk h=>?_,fun k hk h=>?_⟩,.inr ⟨?_,rfl,fun k=>?_⟩⟩
  .rw[KF];rw[tW] at h;by_cases e:k=t
   .rw[if_pos e];exact hou
   .rw[if_neg e] at h ⊢;exact C.yes k hk h
  .rw[KF];rw[tW] at h;by_cases e:k=t
   .rw[if_pos e] at h;cases h
   .rw[if_neg e] at h ⊢;exact C.no k hk h
  .rw[hb];exact aI
  .rw[hb];unfold bT;rw[KF,tW];by_cases e:k=t
   .rw[if_pos e,if_pos e,if_pos e,if_pos rfl]
   .rw[if_neg e,if_neg e,if_neg e]
 cases J:s.re.getD t false with
 |false=>
  have hc:bT R n s t=⟨true,List.replicate n false⟩:=by unfold bT;rw[J];rfl
  refine key v (fun h=>by rw[J] at h;cases h) (by rw[C.no t ht J,YC U]) X ?_ (.inl ?_)
  .rw[hc];rfl
  .rw[hc];simp
 |true=>
  have hc:bT R n s t=⟨false,bR R n (s.ws.getD t [])⟩:=by unfold bT;rw[J];rfl
  have hb:nY (bT R n s t) ⟨false,bR R n v⟩=⟨false,bR R n (fQ (s.ws.getD t []) v)⟩:=by
   rw[hc];unfold nY;rw[if_neg oS,if_neg oS,ZR lb U]
  by_cases hm:fQ (s.ws.getD t []) v=s.ws.getD t []
  .have ld:cg x w s t=s:=by
    unfold cg;rw[Int.toNat_natCast,hv,hm,J,if_neg oS]
   rw[ld,hb,hm,hc];exact⟨C,.inl ⟨rfl,rfl⟩⟩
  .refine key _ (fun _=>hm) rfl (L' lb U X) hb (.inr fun e=>hm ?_);rw[hc] at e;exact aaP (lb.Jq U) lb (L' lb U X) (C.yes t ht J) e
theorem Nz{R n N:Nat}{s:CS}(h:n3 R n N s)(c:Bool):n3 R n N ⟨s.ws,s.re,c⟩:=⟨⟨h.ok.lw,h.ok.lr,h.ok.iU,h.ok.rg⟩,h.yes,h.no⟩
theorem LX{R n N args:Nat}(hR:R<=1200)(hn:n<=R+60)(o5:R<=n)(X:0<N)(ha:args<=R):n3 R n N (iY N args)/\bT R n (iY N args) 0=⟨false,List.replicate args true++List.replicate (n - args) false⟩/\
 ∀ k,0<k->k<N->bT R n (iY N args) k=⟨true,List.replicate n false⟩:=by
 have hA:∀ k,k<=R->eD (gD k)/\kT R n (gD k)/\bR R n (gD k)=List.replicate k true++List.replicate (n - k) false:=fun k=>by
  induction k with
  |zero=>
   intro _;have hz:∀ r,a7 (gD 0) r=false:=GX 20;refine⟨⟨by simp,CZ 0⟩,(fun r hr=>by rw[hz r] at hr;cases hr),?_⟩;apply List.ext_getElem?;intro j;by_cases hj:j<n
   .rw[rV hj,hz];simp[hj]
   .rw[yM hj];simp;omega
  |succ k ih=>
   intro hk;obtain⟨h1,h2,h3⟩:=ih oG;have jT:((k:Nat):Int)=(eU R k:Nat):=by unfold eU;rw[if_pos oG]
   have he:gD (k+1)=fP (gD k) (eU R k:Nat):=by rw[<- jT];rfl
   rw[he];refine⟨h1.fP _,Dj hR hn h1 h2 oG,?_⟩;rw[<- Dv hR hn h1 oG,h3,Hd oG]
 obtain⟨h1,h2,h3⟩:=hA args ha;have J:∀ k,(iY N args).ws.getD k []=if k=0 then gD args else(List.replicate N se).getD k []:=fun k=>wa (by simpa using X)
 have C:∀ k,(iY N args).re.getD k false=if k=0 then true else(List.replicate N false).getD k false:=fun k=>wa (by simpa using X)
 have U:∀ k,k<N->(List.replicate N se).getD k []=se:=fun k hk=>by rw[List.getD_eq_getElem?_getD,List.getElem?_replicate,if_pos hk];rfl
 have rr:∀ k,(List.replicate N false).getD k false=false:=fun k=>by
  rw[List.getD_eq_getElem?_getD,List.getElem?_replicate];split<;>rfl
 refine⟨⟨FT (CZ args),fun k hk h=>?_,fun k hk h=>?_⟩,?_,fun k h0 hk=>?_⟩
 .rw[C] at h;rw[J];by_cases e:k=0
  .rw[if_pos e];exact h2
  .rw[if_neg e,rr] at h;cases h
 .rw[C] at h;rw[J];by_cases e:k=0
  .rw[if_pos e] at h;cases h
  .rw[if_neg e];exact U k hk
 .unfold bT;rw[C,J,if_pos rfl,if_pos rfl,if_pos rfl,h3]
 .unfold bT;rw[C,if_neg (show ¬ k=0 by omega),rr];rfl
end Go.Argus
section
open Go Go.Abs Go.Proofs Go.Argus
namespace Go.Abs
theorem Nv{P:Program}{st:St}{a n:Nat}{ty:TypeId}{cs vs:List D}(ha:st.env a=.pt cs)(hg:aggP P ty=true)(hc:P.cellsOf ty=n)(hv:cs.take n=vs)(ht:tyOk P ty=true)(hl:n<=cs.length):
 ∃ p,resD P st (.cell a ty)=some (p,.agg vs)/\p:=⟨tyOk P ty=true/\n<=cs.length,by simp only[resD,ha,takeV,hg,if_true,hc,hv],ht,hl⟩
end Go.Abs
namespace Go.Argus
def bV(c:Cert):List D:=[B c.any,bW c.is]
@[simp] theorem aoz (c : Cert) : (bV c).length = 2 := rfl
theorem rZ(c:Cert):∀ a∈bV c,Tr a:=.cons (.s _) (.cons (.sl (.map fun _=>.s _)) .nil)
theorem Dh(c:Cert)(r:Int):(ia c r).is.length=c.is.length:=by unfold ia;split<;>simp
theorem Zx(R:Nat)(c:Cert)(x:aW):(tG R c x).is.length=c.is.length:=by unfold tG;split<;>simp[Dh]
theorem Ak(R:Nat):∀ (l:List aW) (c:Cert),(dR R l c).is.length=c.is.length
 |[],_=>rfl
 |x::l,c=>by
  unfold dR;rw[List.foldl_cons];exact(Ak R l _).trans (Zx R c x)
theorem LU(x:End)(to:Int)(c:Cert):(lD x to c).is.length=c.is.length:=by unfold lD;split<;>simp[Dh]
def BV(n:Nat)(r:Int):Prop:=r= -1\/∃ i:Nat,i<n/\r=i
end Go.Argus
namespace Go.Proofs.Tryz.K
set_option maxRecDepth 10000
theorem qT{c:Cert}{rs:List Int}(U:∀ r∈rs,∃ i:Nat,i<c.is.length/\r=i):PCall prog 122 [.agg (bV c),az rs] (B (p7 c rs)):=by
 have C:∀ a∈[D.agg (bV c),az rs],Tr a:=.cons (.agg (rZ c)) (.cons (cI _) .nil);refine lj Ip.he C fun X=>?_;have hlen:=(X (az rs) oS).sl.1;unfold maxLen at hlen;refine aX mixed Ip (by rw[af2];rfl) C (Tr.s _) ?_;rw[af3,af4];refine av ?_;refine ag ?_;refine ab (aJ (bp [(0,bV c,158)] eH (l:=[(1,az rs),(2,.pt (bV c))]) eH) (aD (av ?_)));refine SS ?_
 refine ab (bG (fun s=>Ghost prog s ⟨ay [],fun _=>none,1⟩/\∀ (j:Nat) y,rs[j]? =some y->c.is.getD y.toNat false=true) (cq (α:=Nat) (fun k=>⟨ay [(1,az rs),(2,.pt (bV c)),(5,I k)],fun _=>none,1⟩)
  (fun k=>k<=rs.length/\∀ j y,j<k->rs[j]? =some y->c.is.getD y.toNat false=true) (fun k=>rs.length - k) 0 (ap eH) ⟨by omega,fun j y hj=>by omega⟩ ?_) ?_)
 .rintro k ⟨hk,hinv⟩;refine aF ?_;refine ab ⟨_,rfl,fun h=>?_,fun h=>?_⟩
  .have ao:k<rs.length:=by simpa using h
   have hx:rs[k]? =some rs[k]:=List.getElem?_eq_getElem ao;obtain⟨i,hi,e⟩:=U _ (List.getElem_mem ao);have hy:c.is[i]? =some c.is[i]:=List.getElem?_eq_getElem hi;rw[e] at hx;clear e
   have hg:∀ y,rs[k]? =some y->c.is.getD y.toNat false=c.is[i]:=fun y h=>by
    rw[hx] at h;cases h;rw[Int.toNat_natCast,getD_some hy]
   generalize c.is[i]=b at hy hg;refine dd Yd ?_;refine aL ?_;refine bj (by simp[apartT]) (au rfl (fun hp=>?_) fun hp=>?_)
   .refine ws ?_;refine SS ?_;refine ab (aU (b7 (aQ (ax (d:=B false) rfl ?_))));have:p7 c rs=false:=List.all_eq_false.2 ⟨_,List.mem_of_getElem? hx,by rw[hg _ hx];simpa using hp⟩;rw[this]
   .refine b8 ?_;refine aw ?_;refine ab (aH (k+1) (ap eH) ⟨by omega,fun j y hj hy=>?_⟩ oG);by_cases e:j=k
    .subst e;rw[hg y hy];simpa using hp
    .exact hinv j y oG hy
  .have aY:¬ k<rs.length:=by simpa using h
   exact⟨.forget _ _ _ _ fun _=>.inr rfl,fun j y hy=>hinv j y (by have:=(List.getElem?_eq_some_iff.1 hy).1;omega) hy⟩
 .rintro s ⟨hg,J⟩;refine⟨_,hg,an ?_⟩;refine SS ?_;refine ab (ax (d:=B true) rfl ?_)
  have:p7 c rs=true:=List.all_eq_true.2 fun x hx=>by
   obtain⟨j,hj⟩:=List.getElem?_of_mem hx;exact J j x hj
  rw[this]
theorem iQ{c:Cert}{r:Int}(hl:c.is.length<=100000)(hr:BV c.is.length r):PCall prog 124 [.agg (bV c),I r] (.agg (bV (ia c r))):=by
 refine aX mixed Sz (by rw[af5];rfl) (.cons (.agg (rZ c)) (.cons (.s _) .nil)) (.agg (rZ _)) ?_;rw[af6,af7];refine ws ?_;refine ag ?_;refine ab (aD (an ?_));rcases hr with rfl|⟨i,hi,rfl⟩
 .refine ag ?_;refine ab (bC rfl (fun _=>?_) fun h=>oH);refine aD (an ?_);refine ag ?_;refine ab (dx (iz (iV rfl rfl qU kW rfl t158 (Nat.le_of_ble_eq_true rfl)) ?_));rfl
 .have dI:((i:Int)== -1)=false:=by simp
  refine ag ?_;refine ab (bC rfl (fun h=>oH) fun _=>cx (dd Ye ?_));have C:(c.is.map B).length=c.is.length:=by simp
  have qN:(c.is.map B).take (c.is.length*1)=c.is.map B:=List.take_of_length_le oS;refine aV ?_;refine pJ (pA rfl rfl rfl V.h V.h (Mm qN) rfl) ak ⟨V.h,rfl,(by first|omega|exact Nat.le_of_ble_eq_true rfl|(simp;done)|(simp;omega)),oC,(by first|rfl|(simp;done)|(simp;omega)),(by unfold maxLen;first|omega|(simp;omega)),(by rw[b4];first|omega|(simp;omega)),(by first|(simp;done)|(simp;omega))⟩ ?_;refine aw ?_;refine bj (by simp[apartT]) (an ?_);refine aV ?_;refine ab (av ?_);refine ag ?_
  have e:sub (fz0 3 ((c.is.set i true).map B) (prog.cellsOf 4)) (.rs 3 0 (0+c.is.length))=.sl ((c.is.set i true).map B) c.is.length:=by
   rw[c4,Nat.zero_add,y5,List.drop_zero,List.take_of_length_le oS]
  refine ab (aJ (bp [(3,(c.is.set i true).map B,4),(1,[B c.any,.sl ((c.is.set i true).map B) c.is.length],158)] ⟨?_,?_,trivial⟩ (l:=[(4,.pt [B c.any,.sl ((c.is.set i true).map B) c.is.length])]) eH) (aU (iz (Nv rfl qU kW rfl t158 (Nat.le_refl _)) ?_)))
  .rw[List.map_set];rfl
  .exact congrArg (fun d=>some (Row.cells [B c.any,d] 158)) e
  unfold ia;rw[if_neg oG,Int.toNat_natCast];show _=D.agg [B c.any,.sl _ (c.is.set i true).length];rw[List.length_set];rfl
end Go.Proofs.Tryz.K
end
