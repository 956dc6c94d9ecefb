/- Part 21. -/
import Derived.Test.YtkogeiacmmckkaaGreatDoorFlowLists4
import Derived.Test.YtkogeiacmmckkaaGreatDoorFlowLists19
import Derived.Test.YtkogeiacmmckkaaGreatDoorFlowLists20
set_option linter.all false
set_option maxHeartbeats 1000000
set_option maxRecDepth 10000
open List(range)
open List(replicate)
section
open Go Go.Abs Go.Proofs Go.Argus
namespace Go.Argus
theorem Eb:∀ a b c d e:Bool,(if(if(if(if a=true then true else b)=true then true else c)=true then true else d)=true then true else e)=(a||(b||(c||(d||e)))):=by decide
theorem hs7:∀ a b c d e f g:Bool,(if(if(if(if(if(if a=true then b else false)=true then true else c)=true then true else d)=true then true else e)=true then true else f)=true then true else g)=((a&&b)||(c||(d||(e||(f||g))))):=by decide
def DA(f:bd):Bool:=decide (40<(f.ag.length:Int))||(decide (10<(f.aU.length:Int))||(decide (10<(f.signals.length:Int))||(decide (200<(f.name.size:Int))||decide (30<(f.blocks.length:Int)))))
def qV(b:cE):Bool:=(decide (12<(b.ins.length:Int))&&decide ((b.ins.length:Int)<=200))||(decide (210<(b.ins.length:Int))||(decide (10<(b.fin.args.length:Int))||(decide (10<(b.fin.aJ.length:Int))||(decide (200<(b.fin.name.size:Int))||decide (10<(b.fin.ins.args.length:Int))))))
def qW(y:bS):Bool:=decide (40<(y.args.length:Int))
def vT(f:bd):Bool:= !(DA f)&&f.blocks.all (fun b=> !(qV b)&&b.ins.all fun y=> !(qW y))
theorem Z8{f:bd}(h:vT f=true):∀ b∈f.blocks,b.fin.aJ.length<=10:=fun b hb=>by
 unfold vT at h;rw[ay] at h;have:=b7.1 h.2 b hb;unfold qV at this;simp only[ay,Bool.not_eq_true',Bool.or_eq_false_iff,decide_eq_false_iff_not] at this;omega
theorem cZ{l:List Int}{n c:Int}(h:(n==c)=true)(hm:c∈l):B (n==c)=B (aI l n):=by
 have:aI l n=true:=List.any_eq_true.2 ⟨c,hm,h⟩;rw[h,this]
end Go.Argus
namespace Go.Proofs.Tryz.K
theorem xd{f:bd}:ax prog 14 [.agg (a6 f)] (B (vT f)):=by
 have br:∀ a∈[D.agg (a6 f)],Tr a:=.cons (.agg (oY f)) .nil;refine bP agS br (Tr.s _) ?_;rw[agT];refine aE ?_;refine af ?_;refine ab (bj (cr [(0,a6 f,26)] eH (l:=[(1,.pt (a6 f))]) eH) (aV (aE ?_)));refine SN9 ?_;refine cT ?_;refine af ?_;refine bQ rfl rfl (Kv rfl) (fun hc=>⟨ak,V.h⟩) ?_;refine cT ?_;have hd:DA f=_:=(Eb (decide (40<(f.ag.length:Int))) (decide (10<(f.aU.length:Int))) (decide (10<(f.signals.length:Int))) (decide (200<(f.name.size:Int))) (decide (30<(f.blocks.length:Int)))).symm;refine ab ⟨_,.refl _,dI rfl (fun h=>?_) fun h=>dL (aV (aE ?_))⟩
 .have h1:DA f=true:=hd.trans h;refine aV (al ?_);refine SS ?_;refine ab (fN (ap (d:=B false) rfl ?_));rw[vT,h1];rfl
 have h1:DA f=false:=hd.trans h;clear hd h
 have U:f.blocks.length<=100000:=by
  unfold DA at h1;simp only[Bool.or_eq_false_iff,decide_eq_false_iff_not] at h1;omega
 refine a7 ?_
 refine ab (dA (fun s=>(∃ nx,aR prog s ⟨aH [],fun _=>none,nx⟩)/\f.blocks.all (fun b=> !(qV b)&&b.ins.all fun y=> !(qW y))=true) (iK (α:=Nat×Nat) (fun k=>⟨aH [(1,.pt (a6 f)),(36,gl f.blocks),(37,I f.blocks.length),(38,I k.1)],fun _=>none,k.2⟩)
  (fun k=>k.1<=f.blocks.length/\(f.blocks.take k.1).all (fun b=> !(qV b)&&b.ins.all fun y=> !(qW y))=true) (fun k=>f.blocks.length - k.1) (0,1) (aq eH) ⟨Nat.zero_le _,rfl⟩ ?_) ?_)
 .rintro⟨k,nx⟩ ⟨hk,hinv⟩;dsimp only at hk hinv ⊢;refine SS ?_;refine ab ⟨_,rfl,fun h=>?_,fun h=>?_⟩
  .have aj:k<f.blocks.length:=by simpa using h
   have hx:f.blocks[k]? =some f.blocks[k]:=by simp[aj]
   have O:f.blocks[k]∈f.blocks:=df _;generalize f.blocks[k]=x at hx O
   have C:(!(qV x)&&x.ins.all fun y=> !(qW y))=false->vT f=false:=fun hb=>by
    have:f.blocks.all (fun b=> !(qV b)&&b.ins.all fun y=> !(qW y))=false:=by
     refine Bool.eq_false_iff.2 fun ht=>?_;have:=b7.1 ht x O;rw[hb] at this;cases this
    rw[vT,this];simp
   refine aE ?_;refine a7 ?_;refine ab (bj (sj (i:=nx) (l:=[(1,.pt (a6 f)),(4,.pt (gR x)),(36,gl f.blocks),(37,I f.blocks.length),(38,I k)]) (au _ _ _) ⟨rfl,nt,rfl,rfl,rfl,trivial⟩) (aV (al ?_)));refine SN9 ?_;refine SN9 ?_;refine SN9 ?_;refine fS ?_;refine bQ rfl rfl (Kv rfl) (fun hc=>⟨ak,V.h⟩) ?_;refine cT ?_;refine af ?_;have hd:qV x=_:=(hs7 (decide (12<(x.ins.length:Int))) (decide ((x.ins.length:Int)<=200)) (decide (210<(x.ins.length:Int))) (decide (10<(x.fin.args.length:Int))) (decide (10<(x.fin.aJ.length:Int))) (decide (200<(x.fin.name.size:Int))) (decide (10<(x.fin.ins.args.length:Int)))).symm;refine ab (dI rfl (fun h=>?_) fun h=>dL (aE ?_))
   .have hb:qV x=true:=hd.trans h;refine aV (al ?_);refine SS ?_;refine ab (fN (dp (aY (ap (d:=B false) rfl ?_))));rw[C (by rw[hb];rfl)]
   .have hb:qV x=false:=hd.trans h;clear hd h
    have qz:x.ins.length<=100000:=by
     unfold qV at hb;simp only[Bool.or_eq_false_iff,Bool.and_eq_false_iff,decide_eq_false_iff_not] at hb;omega
    refine a7 ?_
    refine ab (iK (α:=Nat×Nat) (fun j=>⟨aH [(1,.pt (a6 f)),(36,gl f.blocks),(37,I f.blocks.length),(38,I k),(88,iL x.ins),(89,I x.ins.length),(90,I j.1)],fun _=>none,j.2⟩)
     (fun j=>j.1<=x.ins.length/\(x.ins.take j.1).all (fun y=> !(qW y))=true) (fun j=>x.ins.length - j.1) (0,nx+1) (aq eH) ⟨Nat.zero_le _,rfl⟩ ?_)
    rintro⟨j,ny⟩ ⟨hj,J⟩;dsimp only at hj J ⊢;refine SS ?_;refine ab ⟨_,rfl,fun h=>?_,fun h=>?_⟩
    .have dZ:j<x.ins.length:=by simpa using h
     have hy:x.ins[j]? =some x.ins[j]:=by simp[dZ]
     have M:x.ins[j]∈x.ins:=df _;generalize x.ins[j]=y at hy M;refine aE ?_;refine a7 ?_;refine ab (bj (sj (i:=ny) (l:=[(1,.pt (a6 f)),(6,.pt (bF y)),(36,gl f.blocks),(37,I f.blocks.length),(38,I k),(88,iL x.ins),(89,I x.ins.length),(90,I j)]) (au _ _ _) ⟨rfl,nt,rfl,rfl,rfl,rfl,rfl,rfl,trivial⟩) (al ?_));refine a7 ?_;refine ab (yC rfl (fun hp=>?_) fun hp=>?_)
     .have hp:qW y=true:=hp;refine ws ?_;refine SS ?_;refine ab (bh (dp (dp (aY (ap (d:=B false) rfl ?_)))));rw[C]
      have:x.ins.all (fun y=> !(qW y))=false:=by
       refine Bool.eq_false_iff.2 fun ht=>?_;have:=b7.1 ht y M;rw[hp] at this;cases this
      rw[this];simp
     .have hp:qW y=false:=hp;refine eC ?_;refine af ?_;refine ab (bD (j+1,ny+1) (aq eH) ⟨oM,?_⟩ oM);dsimp only;rw[List.take_add_one,hy,List.all_append,J];show(true&&(!(qW y)&&true))=true;rw[hp];rfl
    .have X:¬ j<x.ins.length:=by simpa using h
     rw[dO oG] at J;show aw _ _ _ _ _ _ _ _ _;refine af ?_;refine ab (bD (k+1,ny) (aq eH) ⟨oM,?_⟩ oM);dsimp only;rw[List.take_add_one,hx,List.all_append,hinv];show(true&&((!(qV x)&&x.ins.all fun y=> !(qW y))&&true))=true;rw[hb,J];rfl
  .have X:¬ k<f.blocks.length:=by simpa using h
   rw[dO oG] at hinv;exact⟨⟨nx,aq trivial⟩,hinv⟩
 rintro s ⟨⟨nx,hg⟩,bT⟩;refine⟨_,hg,al ?_⟩;refine SS ?_;refine ab (ap (d:=B true) rfl ?_);rw[vT,h1,bT];rfl
theorem qG{x:bS}:ax prog 28 [.agg (bF x)] (I (dB x)):=by
 refine bP ahB (.cons (.agg (qP x)) .nil) (Tr.s _) ?_;rw[ahC];refine aE ?_;refine af ?_;refine ab (bj (cr [(0,bF x,45)] eH (l:=[(1,.pt (bF x))]) eH) (aV (al ?_)));refine af ?_;refine ab (mW ?_)
 have J:dB x=if aI (mv++nX) x.op=true then x.to else -1:=by
  unfold dB;have:aI (mv++nX) x.op=(aI mv x.op||aI nX x.op):=List.any_append;rw[this];cases aI mv x.op<;>cases aI nX x.op<;>rfl
 refine fO (fun s=>aR prog s ⟨aH [(1,.pt (bF x)),(4,U8 x.op),(5,B (aI (mv++nX) x.op))],fun _=>none,1⟩) (al ?_) fun s hg=>⟨_,hg,?_⟩
 .refine af ?_;refine ab (yC rfl (fun h=>bq (aq ⟨rfl,rfl,cZ h oC,trivial⟩)) fun U=>al ?_);refine af ?_;refine ab (yC rfl (fun h=>bq (aq ⟨rfl,rfl,cZ h oC,trivial⟩)) fun e2=>al ?_);refine af ?_;refine ab (yC rfl (fun h=>bq (aq ⟨rfl,rfl,cZ h oC,trivial⟩)) fun e3=>al ?_);refine af ?_;refine ab (yC rfl (fun h=>bq (aq ⟨rfl,rfl,cZ h oC,trivial⟩)) fun e4=>al ?_);refine af ?_;refine ab (yC rfl (fun h=>bq (aq ⟨rfl,rfl,cZ h oC,trivial⟩)) fun e5=>al ?_);refine af ?_;refine ab (yC rfl (fun h=>bq (aq ⟨rfl,rfl,cZ h oC,trivial⟩)) fun e6=>al ?_);refine af ?_;refine ab (yC rfl (fun h=>bq (aq ⟨rfl,rfl,cZ h oC,trivial⟩)) fun e7=>al ?_);refine af ?_;refine ab (yC rfl (fun h=>bq (aq ⟨rfl,rfl,cZ h oC,trivial⟩)) fun e8=>al ?_);refine af ?_;refine ab (yC rfl (fun h=>bq (aq ⟨rfl,rfl,cZ h oC,trivial⟩)) fun e9=>al ?_);refine af ?_;refine ab (yC rfl (fun h=>bq (aq ⟨rfl,rfl,cZ h oC,trivial⟩)) fun M=>al ?_);refine af ?_;refine ab (yC rfl (fun h=>bq (aq ⟨rfl,rfl,cZ h oC,trivial⟩)) fun zC=>al ?_);refine af ?_;refine ab (yC rfl (fun h=>bq (aq ⟨rfl,rfl,cZ h oC,trivial⟩)) fun X=>al ?_);refine af ?_;refine ab (yC rfl (fun h=>bq (aq ⟨rfl,rfl,cZ h oC,trivial⟩)) fun zD=>al ?_);refine af ?_;refine ab (yC rfl (fun h=>bq (aq ⟨rfl,rfl,cZ h oC,trivial⟩)) fun Ez=>al ?_);refine af ?_;refine ab (yC rfl (fun h=>bq (aq ⟨rfl,rfl,cZ h oC,trivial⟩)) fun C=>al ?_);refine af ?_;refine ab (yC rfl (fun h=>bq (aq ⟨rfl,rfl,cZ h oC,trivial⟩)) fun vm=>al ?_);refine af ?_;refine ab (yC rfl (fun h=>bq (aq ⟨rfl,rfl,cZ h oC,trivial⟩)) fun r6=>al ?_);refine af ?_;refine ab (yC rfl (fun h=>bq (aq ⟨rfl,rfl,cZ h oC,trivial⟩)) fun vo=>al ?_);refine af ?_;refine ab (yC rfl (fun h=>bq (aq ⟨rfl,rfl,cZ h oC,trivial⟩)) fun vq=>al ?_);refine af ?_;refine ab (yC rfl (fun h=>bq (aq ⟨rfl,rfl,cZ h oC,trivial⟩)) fun vr=>al ?_);refine af ?_;refine ab (yC rfl (fun h=>bq (aq ⟨rfl,rfl,cZ h oC,trivial⟩)) fun O=>ln ?_);refine af ?_;refine ab (aq ⟨rfl,rfl,?_,trivial⟩);show D.s (.bool (x.op==37))=_;simp only[aI,mv,nX,List.cons_append,List.nil_append,List.any_cons,List.any_nil,U,e2,e3,e4,e5,e6,e7,e8,e9,M,zC,X,zD,Ez,C,vm,r6,vo,vq,vr,O,Bool.false_or,Bool.or_false]
 refine yC rfl (fun h1=>al ?_) fun h1=>mB (al ?_)
 .refine aB ?_;refine ab (bh (bR (aY (ap rfl ?_))));rw[J,if_pos h1];rfl
 .refine SS ?_;refine ab (ap rfl ?_);rw[J,if_neg (by simp[h1])];rfl
theorem Ib{x:Argus.End}:ax prog 32 [.agg (bA x)] (I (eu x)):=by
 have J:∀ a∈[D.agg (bA x)],Tr a:=.cons (.agg (lP x)) .nil;have qG:=qG (x:=x.ins);refine bP ahD J (Tr.s _) ?_;rw[ahE];refine aE ?_;refine af ?_;refine ab (bj (cr [(0,bA x,48)] eH (l:=[(1,.pt (bA x))]) eH) (aV (al ?_)));refine af ?_;refine ab (mW (al ?_));refine af ?_;refine ab (yC rfl (fun h1=>?_) fun h1=>?_)
 .have h1:x.kind=5:=by simpa using h1
  refine ws ?_;refine af ?_;refine cl qG ?_;refine SS ?_;refine ab (bh (bR (aY (ap (d:=I (dB x.ins)) rfl ?_))));simp[eu,h1]
 have h1:¬ x.kind=5:=by simpa using h1
 refine fO (fun s=>aR prog s ⟨aH [(1,.pt (bA x)),(4,U8 x.kind),(10,B (aI [6,7] x.kind))],fun _=>none,1⟩) (al ?_) fun s hg=>⟨_,hg,?_⟩
 .refine af ?_;refine ab (yC rfl (fun h=>bq (aq ⟨rfl,rfl,cZ h oC,trivial⟩)) fun e6=>ln ?_);refine af ?_;refine ab ?_;refine aq ⟨rfl,rfl,?_,trivial⟩;show D.s (.bool (x.kind==7))=_;simp[aI,e6]
 refine yC rfl (fun h2=>?_) fun h2=>?_
 .refine ws ?_;refine aB ?_;refine ab (bh (bR (aY (ap (d:=I x.a) rfl ?_))));simp[eu,h1,h2]
 refine ws ?_;refine af ?_;refine ab (yC rfl (fun C=>?_) fun C=>?_)
 .have C:x.kind=8:=by simpa using C
  refine ws ?_;refine aB ?_;refine ab (bh (bR (aY (ap (d:=I x.b) rfl ?_))));simp[eu,h2,C];simp[aI]
 have C:¬ x.kind=8:=by simpa using C
 refine mB (al ?_);refine SS ?_;refine ab (ap (d:=I (-1)) rfl ?_);simp[eu,h1,h2,C]
theorem xm{x:bS}(hx:x.op=10\/x.op=38->x.args.length<=1000):ax prog 26 [.agg (bF x)] (aX (cL x)):=by
 have X:∀ a∈[D.agg (bF x)],Tr a:=.cons (.agg (qP x)) .nil;refine bP ahF X (ew _) ?_;rw[ahG];refine aE ?_;refine af ?_;refine ab (bj (cr [(0,bF x,45)] eH (l:=[(1,.pt (bF x))]) eH) (aV (al ?_)));refine af ?_;refine ab (mW ?_);refine fO (fun s=>aR prog s ⟨aH [(1,.pt (bF x)),(4,U8 x.op),(5,B (aI n1 x.op))],fun _=>none,1⟩) (al ?_) fun s hg=>⟨_,hg,?_⟩
 .refine af ?_;refine ab (yC rfl (fun h=>bq (aq ⟨rfl,rfl,cZ h oC,trivial⟩)) fun e2=>al ?_);refine af ?_;refine ab (yC rfl (fun h=>bq (aq ⟨rfl,rfl,cZ h oC,trivial⟩)) fun e8=>al ?_);refine af ?_;refine ab (yC rfl (fun h=>bq (aq ⟨rfl,rfl,cZ h oC,trivial⟩)) fun zC=>al ?_);refine af ?_;refine ab (yC rfl (fun h=>bq (aq ⟨rfl,rfl,cZ h oC,trivial⟩)) fun vj=>al ?_);refine af ?_;refine ab (yC rfl (fun h=>bq (aq ⟨rfl,rfl,cZ h oC,trivial⟩)) fun zD=>al ?_);refine af ?_;refine ab (yC rfl (fun h=>bq (aq ⟨rfl,rfl,cZ h oC,trivial⟩)) fun EA=>al ?_);refine af ?_;refine ab (yC rfl (fun h=>bq (aq ⟨rfl,rfl,cZ h oC,trivial⟩)) fun EB=>al ?_);refine af ?_;refine ab (yC rfl (fun h=>bq (aq ⟨rfl,rfl,cZ h oC,trivial⟩)) fun O=>ln ?_);refine af ?_;refine ab ?_;refine aq ⟨rfl,rfl,?_,trivial⟩;show D.s (.bool (x.op==36))=_;simp[aI,n1,e2,e8,zC,vj,zD,EA,EB,O]
 refine yC rfl (fun h1=>?_) fun h1=>?_
 .refine aE ?_;refine a7 ?_;refine ab (bj (cr [(1,([x.a]).map I,3)] eH (l:=[(2,aX ([x.a]))]) ⟨kN c3 rfl,trivial⟩) (bh (bR (aY (ap (d:=aX ([x.a])) rfl ?_)))));exact congrArg aX (by unfold cL;rw[if_pos h1])
 refine fO (fun s=>aR prog s ⟨aH [(1,.pt (bF x)),(4,U8 x.op),(18,B (aI qQ x.op))],fun _=>none,1⟩) (al ?_) fun s hg=>⟨_,hg,?_⟩
 .refine af ?_;refine ab (yC rfl (fun h=>bq (aq ⟨rfl,rfl,cZ h oC,trivial⟩)) fun e3=>al ?_);refine af ?_;refine ab (yC rfl (fun h=>bq (aq ⟨rfl,rfl,cZ h oC,trivial⟩)) fun e4=>al ?_);refine af ?_;refine ab (yC rfl (fun h=>bq (aq ⟨rfl,rfl,cZ h oC,trivial⟩)) fun e5=>al ?_);refine af ?_;refine ab (yC rfl (fun h=>bq (aq ⟨rfl,rfl,cZ h oC,trivial⟩)) fun e6=>al ?_);refine af ?_;refine ab (yC rfl (fun h=>bq (aq ⟨rfl,rfl,cZ h oC,trivial⟩)) fun e7=>al ?_);refine af ?_;refine ab (yC rfl (fun h=>bq (aq ⟨rfl,rfl,cZ h oC,trivial⟩)) fun U=>al ?_);refine af ?_;refine ab (yC rfl (fun h=>bq (aq ⟨rfl,rfl,cZ h oC,trivial⟩)) fun vm=>al ?_);refine af ?_;refine ab (yC rfl (fun h=>bq (aq ⟨rfl,rfl,cZ h oC,trivial⟩)) fun r6=>al ?_);refine af ?_;refine ab (yC rfl (fun h=>bq (aq ⟨rfl,rfl,cZ h oC,trivial⟩)) fun vo=>al ?_);refine af ?_;refine ab (yC rfl (fun h=>bq (aq ⟨rfl,rfl,cZ h oC,trivial⟩)) fun vq=>al ?_);refine af ?_;refine ab (yC rfl (fun h=>bq (aq ⟨rfl,rfl,cZ h oC,trivial⟩)) fun vr=>al ?_);refine af ?_;refine ab (yC rfl (fun h=>bq (aq ⟨rfl,rfl,cZ h oC,trivial⟩)) fun cV=>ln ?_);refine af ?_;refine ab ?_;refine aq ⟨rfl,rfl,?_,trivial⟩;show D.s (.bool (x.op==37))=_;simp[aI,qQ,e3,e4,e5,e6,e7,U,vm,r6,vo,vq,vr,cV]
 refine yC rfl (fun h2=>?_) fun h2=>?_
 .refine aE ?_;refine cY ?_;refine ab (bj (cr [(1,([x.a,x.b]).map I,3)] eH (l:=[(2,aX ([x.a,x.b]))]) ⟨kN c3 rfl,trivial⟩) (bh (bR (aY (ap (d:=aX ([x.a,x.b])) rfl ?_)))));exact congrArg aX (by unfold cL;rw[if_neg (by simp[h1]),if_pos h2])
 refine ws ?_;refine af ?_;refine ab (yC rfl (fun C=>?_) fun C=>?_)
 .have C:x.op=10:=by simpa using C
  have hl:=hx (.inl C);have M:(x.args.map I).take (x.args.length*1)=x.args.map I:=dO oS;refine aE ?_
  (first|refine cM (mn (cs:=[]) cV c3 z3 rfl rfl) aF ⟨rfl,oC,de,oC⟩ ?_|refine cM (mn cV c3 z3 rfl rfl) aF ⟨rfl,oC,de,oC⟩ ?_)
  (first|refine ao (tS rfl Dd) aF (iT jY) ?_|refine ao (nV rfl rfl Dd) aF (iT jY) ?_)
  (first|refine ao (ua rfl pO) aF (uc t35 jY) ?_|refine ao (eJ rfl rfl kd pO) aF (eK t35 jY kd) ?_|refine ao (eJ rfl rfl gj pO) aF (eK t35 jY gj) ?_|refine ao (eJ rfl rfl rfl pO) aF (eK t35 jY rfl) ?_)
  (first|refine iw (io rfl rfl rfl cV c3 (jd M) rfl) aF ⟨de,rfl,(by first|omega|exact bg rfl|(simp;done)|(simp;omega)),oC,(by first|rfl|(simp;done)|(simp;omega)),(by unfold maxLen;first|omega|(simp;omega)),(by rw[b3];first|omega|(simp;omega)),(by first|(simp;done)|(simp;omega))⟩ ?_|refine iw (io rfl rfl rfl cV c3 (iJ rfl rfl) rfl) aF ⟨de,rfl,(by first|omega|exact bg rfl|(simp;done)|(simp;omega)),oC,(by first|rfl|(simp;done)|(simp;omega)),(by unfold maxLen;first|omega|(simp;omega)),(by rw[b3];first|omega|(simp;omega)),(by first|(simp;done)|(simp;omega))⟩ ?_|refine cM (jF rfl rfl cV c3 (jd M)) aF ⟨de,(by first|omega|exact bg rfl|(simp;done)|(simp;omega)),oC,(by unfold maxLen;first|omega|(simp;omega)),(by rw[b3];first|omega|(simp;omega))⟩ ?_|refine cM (jF rfl rfl cV c3 (iJ rfl rfl)) aF ⟨de,(by first|omega|exact bg rfl|(simp;done)|(simp;omega)),oC,(by unfold maxLen;first|omega|(simp;omega)),(by rw[b3];first|omega|(simp;omega))⟩ ?_)
  (first|refine ao (eM (v:=.sl _ _) rfl) aF trivial ?_|refine ao (eM (v:=.rs _ _ _) rfl) aF trivial ?_|refine ao (eM (v:=.z) rfl) aF trivial ?_)
  refine ab (bj (cr [(2,x.args.map I,3)] eH (l:=[(2,aX x.args)]) ⟨?_,trivial⟩) (bh (bR (aY (ap (d:=aX x.args) rfl ?_)))))
  .show rN _ [(2,_,3)] (.rs 2 0 (0+x.args.length))=_;refine(kN c3 (es:=x.args.map I) (dO oS)).trans ?_;rw[Nat.zero_add]
  exact congrArg aX (by unfold cL;rw[if_neg (by simp[h1]),if_neg (by simp[h2]),if_pos C])
 have C:¬ x.op=10:=by simpa using C
 refine ws ?_;refine af ?_;refine ab (yC rfl (fun J=>?_) fun J=>?_)
 .have J:x.op=38:=by simpa using J
  have hl:=hx (.inr J);have M:(x.args.map I).take (x.args.length*1)=x.args.map I:=dO oS;refine aE ?_
  (first|refine ao (tS rfl LJ) aF (iT c3) ?_|refine ao (nV rfl rfl LJ) aF (iT c3) ?_)
  (first|refine ao (ua rfl a3) aF (uc t3 c3) ?_|refine ao (eJ rfl rfl kd a3) aF (eK t3 c3 kd) ?_|refine ao (eJ rfl rfl gj a3) aF (eK t3 c3 gj) ?_|refine ao (eJ rfl rfl rfl a3) aF (eK t3 c3 rfl) ?_)
  (first|refine ao (tS rfl LK) aF (iT c3) ?_|refine ao (nV rfl rfl LK) aF (iT c3) ?_)
  (first|refine ao (ua rfl a3) aF (uc t3 c3) ?_|refine ao (eJ rfl rfl kd a3) aF (eK t3 c3 kd) ?_|refine ao (eJ rfl rfl gj a3) aF (eK t3 c3 gj) ?_|refine ao (eJ rfl rfl rfl a3) aF (eK t3 c3 rfl) ?_)
  (first|refine cM (mn (cs:=[_,_]) cV c3 z3 rfl rfl) aF ⟨rfl,oC,de,oC⟩ ?_|refine cM (mn cV c3 z3 rfl rfl) aF ⟨rfl,oC,de,oC⟩ ?_)
  (first|refine ao (tS rfl Dd) aF (iT jY) ?_|refine ao (nV rfl rfl Dd) aF (iT jY) ?_)
  (first|refine ao (ua rfl pO) aF (uc t35 jY) ?_|refine ao (eJ rfl rfl kd pO) aF (eK t35 jY kd) ?_|refine ao (eJ rfl rfl gj pO) aF (eK t35 jY gj) ?_|refine ao (eJ rfl rfl rfl pO) aF (eK t35 jY rfl) ?_)
  (first|refine iw (io rfl rfl rfl cV c3 (jd M) rfl) aF ⟨de,rfl,(by first|omega|exact bg rfl|(simp;done)|(simp;omega)),oC,(by first|rfl|(simp;done)|(simp;omega)),(by unfold maxLen;first|omega|(simp;omega)),(by rw[b3];first|omega|(simp;omega)),(by first|(simp;done)|(simp;omega))⟩ ?_|refine iw (io rfl rfl rfl cV c3 (iJ rfl rfl) rfl) aF ⟨de,rfl,(by first|omega|exact bg rfl|(simp;done)|(simp;omega)),oC,(by first|rfl|(simp;done)|(simp;omega)),(by unfold maxLen;first|omega|(simp;omega)),(by rw[b3];first|omega|(simp;omega)),(by first|(simp;done)|(simp;omega))⟩ ?_|refine cM (jF rfl rfl cV c3 (jd M)) aF ⟨de,(by first|omega|exact bg rfl|(simp;done)|(simp;omega)),oC,(by unfold maxLen;first|omega|(simp;omega)),(by rw[b3];first|omega|(simp;omega))⟩ ?_|refine cM (jF rfl rfl cV c3 (iJ rfl rfl)) aF ⟨de,(by first|omega|exact bg rfl|(simp;done)|(simp;omega)),oC,(by unfold maxLen;first|omega|(simp;omega)),(by rw[b3];first|omega|(simp;omega))⟩ ?_)
  (first|refine ao (eM (v:=.sl _ _) rfl) aF trivial ?_|refine ao (eM (v:=.rs _ _ _) rfl) aF trivial ?_|refine ao (eM (v:=.z) rfl) aF trivial ?_)
  refine ab (bj (cr [(2,(x.a::x.b::x.args).map I,3)] eH (l:=[(2,aX (x.a::x.b::x.args))]) ⟨?_,trivial⟩) (bh (bR (aY (ap (d:=aX (x.a::x.b::x.args)) rfl ?_)))))
  .show rN _ [(2,_,3)] (.rs 2 0 (2+x.args.length))=_;refine(kN c3 (es:=(x.a::x.b::x.args).map I) (dO oP)).trans ?_;rw[Nat.add_comm];rfl
  .exact congrArg aX (by unfold cL;rw[if_neg (by simp[h1]),if_neg (by simp[h2]),if_neg C,if_pos J])
 have J:¬ x.op=38:=by simpa using J
 refine mB (aE ?_);refine SS ?_;refine ab (bj (xF (n0:=2) rfl) (ap (d:=aX []) rfl ?_));exact congrArg aX (by unfold cL;rw[if_neg (by simp[h1]),if_neg (by simp[h2]),if_neg C,if_neg J])
theorem Ic{x:Argus.End}(hx:x.kind=5->x.ins.op=10\/x.ins.op=38->x.ins.args.length<=1000)(hy:x.kind=6\/x.kind=7->x.args.length<=1000):ax prog 30 [.agg (bA x)] (aX (cN x)):=by
 have O:∀ a∈[D.agg (bA x)],Tr a:=.cons (.agg (lP x)) .nil;refine bP ahH O (ew _) ?_;rw[ahI];refine aE ?_;refine af ?_;refine ab (bj (cr [(0,bA x,48)] eH (l:=[(1,.pt (bA x))]) eH) (aV (al ?_)));refine af ?_;refine ab (mW ?_);refine fO (fun s=>aR prog s ⟨aH [(1,.pt (bA x)),(4,U8 x.kind),(5,B (aI [2,8,9] x.kind))],fun _=>none,1⟩) (al ?_) fun s hg=>⟨_,hg,?_⟩
 .refine af ?_;refine ab (yC rfl (fun h=>bq (aq ⟨rfl,rfl,cZ h oC,trivial⟩)) fun e2=>al ?_);refine af ?_;refine ab (yC rfl (fun h=>bq (aq ⟨rfl,rfl,cZ h oC,trivial⟩)) fun e8=>ln ?_);refine af ?_;refine ab ?_;refine aq ⟨rfl,rfl,?_,trivial⟩;show D.s (.bool (x.kind==9))=_;simp[aI,e2,e8]
 refine yC rfl (fun h1=>?_) fun h1=>?_
 .refine aE ?_;refine a7 ?_;refine ab (bj (cr [(1,([x.a]).map I,3)] eH (l:=[(2,aX ([x.a]))]) ⟨kN c3 rfl,trivial⟩) (bh (bR (aY (ap (d:=aX ([x.a])) rfl ?_)))));exact congrArg aX (by unfold cN;rw[if_pos h1])
 refine ws ?_;refine af ?_;refine ab (yC rfl (fun h2=>?_) fun h2=>?_)
 .have h2:x.kind=3:=by simpa using h2
  refine aV (al ?_);refine aB ?_;refine ab (dI rfl (fun C=>?_) fun C=>dL (aE ?_))
  .have C:x.a= -1:=by simpa using C
   refine aV (aE ?_);refine SS ?_;refine ab (bj (xF (n0:=2) rfl) (fN (bR (aY (ap (d:=aX []) rfl ?_)))));exact congrArg aX (by unfold cN;rw[if_neg (by simp[h1]),if_pos h2,if_neg (by simp[C])])
  .have C:¬ x.a= -1:=by simpa using C
   refine a7 ?_;refine ab (bj (cr [(1,([x.a]).map I,3)] eH (l:=[(2,aX ([x.a]))]) ⟨kN c3 rfl,trivial⟩) (bh (bR (aY (ap (d:=aX ([x.a])) rfl ?_)))));exact congrArg aX (by unfold cN;rw[if_neg (by simp[h1]),if_pos h2,if_pos C])
 have h2:¬ x.kind=3:=by simpa using h2
 refine ws ?_;refine af ?_;refine ab (yC rfl (fun C=>?_) fun C=>?_)
 .have C:x.kind=5:=by simpa using C
  have xm:=xm (x:=x.ins) (hx C);refine ws ?_;refine af ?_;refine cl xm ?_;refine SS ?_;refine ab (bh (bR (aY (ap (d:=aX (cL x.ins)) rfl ?_))));exact congrArg aX (by unfold cN;rw[if_neg (by simp[h1]),if_neg h2,if_pos C])
 have C:¬ x.kind=5:=by simpa using C
 refine fO (fun s=>aR prog s ⟨aH [(1,.pt (bA x)),(4,U8 x.kind),(25,B (aI [6,7] x.kind))],fun _=>none,1⟩) (al ?_) fun s hg=>⟨_,hg,?_⟩
 .refine af ?_;refine ab (yC rfl (fun h=>bq (aq ⟨rfl,rfl,cZ h oC,trivial⟩)) fun e6=>ln ?_);refine af ?_;refine ab ?_;refine aq ⟨rfl,rfl,?_,trivial⟩;show D.s (.bool (x.kind==7))=_;simp[aI,e6]
 refine yC rfl (fun J=>?_) fun J=>?_
 .have U:x.kind=6\/x.kind=7:=by simpa[aI] using J
  have hl:=hy U;have M:(x.args.map I).take (x.args.length*1)=x.args.map I:=dO oS;refine aE ?_
  (first|refine cM (mn (cs:=[]) cV c3 z3 rfl rfl) aF ⟨rfl,oC,de,oC⟩ ?_|refine cM (mn cV c3 z3 rfl rfl) aF ⟨rfl,oC,de,oC⟩ ?_)
  (first|refine ao (tS rfl LL) aF (iT jY) ?_|refine ao (nV rfl rfl LL) aF (iT jY) ?_)
  (first|refine ao (ua rfl pO) aF (uc t35 jY) ?_|refine ao (eJ rfl rfl kd pO) aF (eK t35 jY kd) ?_|refine ao (eJ rfl rfl gj pO) aF (eK t35 jY gj) ?_|refine ao (eJ rfl rfl rfl pO) aF (eK t35 jY rfl) ?_)
  (first|refine iw (io rfl rfl rfl cV c3 (jd M) rfl) aF ⟨de,rfl,(by first|omega|exact bg rfl|(simp;done)|(simp;omega)),oC,(by first|rfl|(simp;done)|(simp;omega)),(by unfold maxLen;first|omega|(simp;omega)),(by rw[b3];first|omega|(simp;omega)),(by first|(simp;done)|(simp;omega))⟩ ?_|refine iw (io rfl rfl rfl cV c3 (iJ rfl rfl) rfl) aF ⟨de,rfl,(by first|omega|exact bg rfl|(simp;done)|(simp;omega)),oC,(by first|rfl|(simp;done)|(simp;omega)),(by unfold maxLen;first|omega|(simp;omega)),(by rw[b3];first|omega|(simp;omega)),(by first|(simp;done)|(simp;omega))⟩ ?_|refine cM (jF rfl rfl cV c3 (jd M)) aF ⟨de,(by first|omega|exact bg rfl|(simp;done)|(simp;omega)),oC,(by unfold maxLen;first|omega|(simp;omega)),(by rw[b3];first|omega|(simp;omega))⟩ ?_|refine cM (jF rfl rfl cV c3 (iJ rfl rfl)) aF ⟨de,(by first|omega|exact bg rfl|(simp;done)|(simp;omega)),oC,(by unfold maxLen;first|omega|(simp;omega)),(by rw[b3];first|omega|(simp;omega))⟩ ?_)
  (first|refine ao (eM (v:=.sl _ _) rfl) aF trivial ?_|refine ao (eM (v:=.rs _ _ _) rfl) aF trivial ?_|refine ao (eM (v:=.z) rfl) aF trivial ?_)
  refine ab (bj (cr [(2,x.args.map I,3)] eH (l:=[(2,aX x.args)]) ⟨?_,trivial⟩) (bh (bR (aY (ap (d:=aX x.args) rfl ?_)))))
  .show rN _ [(2,_,3)] (.rs 2 0 (0+x.args.length))=_;refine(kN c3 (es:=x.args.map I) (dO oS)).trans ?_;rw[Nat.zero_add]
  exact congrArg aX (by unfold cN;rw[if_neg (by simp[h1]),if_neg h2,if_neg C,if_pos J])
 refine mB (aE ?_)
 (first|refine ao (eM (v:=.sl _ _) rfl) aF trivial ?_|refine ao (eM (v:=.rs _ _ _) rfl) aF trivial ?_|refine ao (eM (v:=.z) rfl) aF trivial ?_)
 refine ab (bj (xF (n0:=2) rfl) (ap (d:=aX []) rfl ?_));exact congrArg aX (by unfold cN;rw[if_neg (by simp[h1]),if_neg h2,if_neg C,if_neg (by simp[J])])
end Go.Proofs.Tryz.K
namespace Go.Argus
open Go.Proofs.Tryz.K (nextR)
def pY(f:bd):Bool:=decide (f.result=1)||(decide (f.result=2)||(decide (f.result=0)&& !f.iter))
def ni(f:bd):Bool:=
 lu f.name&&(c8 f.args 0 (if(f.ag.length:Int)<6 then(f.ag.length:Int) else 6)&&(pY f&&(!decide ((1200:Int)<f.ag.length)&&(!decide ((60:Int)<f.aU.length)&&c8 f.blocks.length 1 1200))))
def p8(f:bd):Bool:=
 eV f.ag 3&&(eV (f.ag.take f.args.toNat) 2&&(eV f.aU 2&&(!decide ((6:Int)<f.signals.length)&& !f.signals.any fun s=> !isName s)))
def sv(l:List ByteArray)(i:Nat):Bool:=Op.bytesLess (l.getD i .empty).toList (l.getD (i+1) .empty).toList
def nj(f:bd):Bool:=(range (f.signals.length - 1)).all (sv f.signals)
def lh(bs:List cE)(k:Nat):List Int:=((bs.take k).filter fun x=>x.fin.kind==7).map fun x=>x.fin.a
def kq(f:bd)(k:Nat):Bool:=
 let x:=f.blocks.getD k lS
 jG f x.fin&&(!decide ((200:Int)<x.ins.length)&& !(x.fin.kind==7&&(lh f.blocks k).any (·==x.fin.a)))
def tP(f:bd)(b:Nat)(l:List bS)(j:Nat):Bool:=jk f b (l.getD j ez) ((l.take (j+1)).all cx) (cw f.blocks f.blocks.length b).length
def qL(f:bd)(b:Nat):Bool:=(range (f.blocks.getD b lS).ins.length).all (tP f b (f.blocks.getD b lS).ins)
def nZ(f:bd):Bool:=
 ni f&&(p8 f&&(nj f&&((range f.blocks.length).all (kq f)&&(range f.blocks.length).all (qL f))))
def vU(f:bd):Int:=if nZ f=true then(if vH f.blocks f.args.toNat=true then 0 else 81) else 80
def js(l:List Int)(r:Int):Prop:=0<=r/\r<l.length
theorem kI{l:List Int}{r:Int}(h:cB l r≠0):js l r:=Classical.byContradiction fun hn=>h (Jh hn)
theorem nW{l:List Int}{r:Int}(h:eA l r=true):js l r:=by
 refine kI fun e=>?_;simp[eA,e] at h
theorem xE{l rs:List Int}(h:gz l rs=true):∀ r∈rs,js l r:=fun r hr=>nW (b7.1 h r hr)
theorem JG{l:List Int}{r want of:Int}(h:lQ l r want of=true)(C:want≠0):js l r:=by
 unfold lQ at h;rw[if_neg C] at h;split at h
 .refine kI fun e=>?_;simp[e] at h
 .split at h
  .refine kI fun e=>?_;simp[e] at h
  .split at h
   .exact nW h
   .refine kI fun e=>?_;simp[e] at h
structure UO(l:List Int)(x:bS)(s:Shape):Prop where
 to:s.to≠0->js l x.to
 a:s.a≠0->js l x.a
 b:s.b≠0->js l x.b
 args:s.args=5\/s.args=6->x.args.length<=6/\∀ r∈x.args,js l r
theorem Ji{l:List Int}{x:bS}{s:Shape}(h:oZ l x s=true):UO l x s:=by
 unfold oZ at h;simp only[ay] at h;obtain⟨h1,h2,J,C,_⟩:=h;refine⟨JG h1,JG h2,JG J,fun hs=>?_⟩;unfold pU at C;rcases hs with hs|hs
 .rw[if_pos hs,ay] at C;have:=kH.1 C.1;exact⟨oG,xE C.2⟩
 .rw[if_neg oG,if_pos hs,ay] at C;have:(x.args.length:Int)=1:=by simpa using C.1
  exact⟨oG,xE C.2⟩
theorem IE{l:List (Int×Shape)}{op:Int}{s:Shape}(h:fV l op=some s):(op,s)∈l:=by
 unfold fV at h;rw[dm] at h;obtain⟨⟨o,s'⟩,h1,rfl⟩:=h;have h2:=List.find?_some h1;have C:=List.mem_of_find?_eq_some h1;have:o=op:=by simpa using h2
 subst this;exact C
theorem IF{l:List Int}{x:bS}{s:Shape}(hl:l.length<=1200)(hm:(x.op,s)∈oa\/(x.op,s)∈jH)(h:UO l x s):qf x:=by
 obtain⟨h1,h2,M,J⟩:=h;unfold js at h1 h2 M J;have hr:∀ {r:Int},0<=r/\r<l.length->0<=r/\r<1200:=fun h=>by omega
 have O:∀ {r:Int},0<=r/\r<l.length-> -1000000<=r/\r<1200:=fun h=>by omega
 obtain⟨op,to,a,b,n,args⟩:=x;dsimp only at h1 h2 M J hm;simp only[oa,jH,List.mem_cons,cq,List.not_mem_nil,or_false] at hm;rcases hm with hm|hm
 .rcases hm with hm|hm|hm|hm|hm|hm|hm|hm|hm|hm|hm|hm|hm|hm|hm<;>obtain⟨rfl,rfl⟩:=hm<;>refine⟨fun r C=>?_,fun h=>?_,?_,fun h=>?_⟩<;>
   simp_all[cL,dB,aI,n1,qQ,mv,nX]<;>first|omega|(rcases C with rfl|rfl<;>omega)|(have:=J.2 r C;omega)
 .rcases hm with hm|hm|hm|hm|hm|hm|hm|hm|hm<;>obtain⟨rfl,rfl⟩:=hm<;>refine⟨fun r C=>?_,fun h=>?_,?_,fun h=>?_⟩<;>
   simp_all[cL,dB,aI,n1,qQ,mv,nX]<;>first|omega|(rcases C with rfl|rfl<;>omega)|(rcases C with rfl|rfl|C<;>first|omega|(have:=J.2 r C;omega))
theorem na{a b:Int}:aL a b=true↔a=b:=by simp[aL]
theorem Kg{l aU:List Int}{r n:Int}(hs:∀ k∈aU,k≠0)(h:lT l aU r n=true):js l r/\0<=n/\n<aU.length:=by
 unfold lT at h;rw[ay,kH] at h;obtain⟨⟨h1,h2⟩,C⟩:=h
 have J:cB aU n≠0:=by
  obtain⟨k,rfl⟩:=ic h1;have hk:k<aU.length:=by omega
  rw[ss (bB hk)];exact hs _ (df hk)
 refine⟨kI ?_,h1,oG⟩;rw[show cB l r=cB aU n by simpa using C];exact J
theorem OE{f:bd}{b ahead:Int}{x:bS}{phis:Bool}(hl:f.ag.length<=1200)(hs:∀ k∈f.aU,k≠0)(jV:f.aU.length<=60)(h:jk f b x phis ahead=true):
 qf x/\(x.op=19->(x.args.length:Int)=ahead/\phis=true/\0<b/\js f.ag x.to/\∀ r∈x.args,cB f.ag r=cB f.ag x.to/\js f.ag r):=by
 unfold jk at h;split at h
 .rename_i O;simp only[ay,na] at h;have hr:=kI (l:=f.ag) (r:=x.a) oG;unfold js at hr;refine⟨⟨fun r h'=>?_,fun h'=>by omega,?_,fun h'=>by omega⟩,fun h'=>by omega⟩
  .simp[cL,aI,n1,O] at h';omega
  .simp[dB,aI,mv,nX,O]
 .rename_i O;split at h
  .rename_i M;simp only[ay,na] at h;obtain⟨h1,h2,h3⟩:=Kg hs h.2.2.2;unfold js at h1;refine⟨⟨fun r h'=>?_,fun h'=>by omega,?_,fun h'=>by omega⟩,fun h'=>by omega⟩
   .simp[cL,aI,n1,qQ,M] at h'
   .simp[dB,aI,mv,M];omega
  .rename_i M;split at h
   .rename_i J;simp only[ay,na] at h;obtain⟨h1,h2,h3⟩:=Kg hs h.2.2.2;unfold js at h1;refine⟨⟨fun r h'=>?_,fun h'=>by omega,?_,fun h'=>by omega⟩,fun h'=>by omega⟩
    .simp[cL,aI,n1,J] at h';omega
    .simp[dB,aI,mv,nX,J]
   .rename_i J;split at h
    .rename_i C;simp only[ay,na,decide_eq_true_eq] at h;obtain⟨g1,g2,U,g4,g5,g6,g7,X⟩:=h;have hr:=nW U;have hk:cB f.ag x.to≠0:=fun e=>by simp[eA,e] at U
     refine⟨⟨fun r h'=>?_,fun h'=>by omega,?_,fun h'=>by omega⟩,fun _=>⟨g7,g1,g2,hr,fun r gL=>?_⟩⟩
     .simp[cL,aI,n1,qQ,C] at h'
     .unfold js at hr;simp[dB,aI,mv,C];omega
     .have:aL (cB f.ag r) (cB f.ag x.to)=true:=by
       simp only[Bool.not_eq_true',List.any_eq_false] at X;simpa using X r gL
      rw[na] at this;exact⟨this,kI (by rw[this];exact hk)⟩
    .rename_i C;rw[ay] at h;cases hs:fV oa x.op with
     |none=>rw[hs] at h;simp at h
     |some s=>
      rw[hs] at h;exact⟨IF hl (.inl (IE hs)) (Ji h.2),fun h'=>absurd h' C⟩
structure G5(f:bd)(x:End):Prop where
 fin:C0 x
 wh:x.aJ.length<=7
 to:∀ t∈dh x,0<=t/\t<f.blocks.length
theorem IW{f:bd}{x:End}(h:mw f x=true):x.aJ.length<=7/\(∀ w∈x.aJ,0<=w.to/\w.to<f.blocks.length)/\(0<=x.others->x.others<f.blocks.length):=by
 unfold mw at h;rw[ay,ay] at h;obtain⟨h1,h2,C⟩:=h;have h2:(x.aJ.length:Int)<=7:=by simpa using h2
 refine⟨oG,fun w J=>?_,fun h0=>?_⟩
 .obtain⟨i,hi⟩:=dY J;have hm:(w,i)∈x.aJ.zipIdx:=List.mem_zipIdx_iff_getElem?.2 hi;have:=b7.1 h1 _ hm;simp only[oq,ay,ct,kH] at this;omega
 .rw[Bool.or_eq_true] at C;rcases C with C|C
  .have:x.others= -1:=by simpa using C
   omega
  .rw[ct,kH] at C;omega
theorem RE{x:End}(h:yA x=true):x.kind=0/\x.a=0/\x.b=0/\x.to=0/\x.gP=0/\x.others= -1/\x.args.length=0/\x.aJ.length=0:=by
 simp only[yA,ay,decide_eq_true_eq] at h;omega
theorem JH{f:bd}{x:End}(hl:f.ag.length<=1200)(hr:pY f=true)(h:jG f x=true):G5 f x:=by
 have X:∀ {r:Int},js f.ag r->0<=r/\r<1200:=fun h=>by unfold js at h;omega
 unfold jG at h;rw[ay] at h;obtain⟨h,hb⟩:=h;have hb:=RE hb;have O:∀ {t:Int},ct f t=true->0<=t/\t<f.blocks.length:=fun h=>by rw[ct,kH] at h;omega
 obtain⟨kind,a,b,to,gP,name,ins,args,aJ,others⟩:=x;simp only[gf] at h hb;by_cases h1:kind=1
 .subst h1;simp only[if_true] at h hb;have J:=O h;have C:aJ=[]:=List.length_eq_zero_iff.1 hb.2.2.2.2.2.2.2;subst C;refine⟨⟨fun r h'=>?_,?_,oS,oS,oS⟩,oS,fun t ht=>?_⟩
  .simp[cN,aI] at h'
  .simp[eu,aI]
  .simp[dh,ig,aI] at ht;subst ht;exact J
 by_cases h2:kind=2
 .subst h2;simp only[Int.reduceEq,if_false,if_true,ay,na] at h hb;have C:aJ=[]:=List.length_eq_zero_iff.1 hb.2.2.2.2.2.2.2;subst C;have BQ:=X (kI (l:=f.ag) (r:=a) oG);have J:=O h.2.1;have Es:=O h.2.2;refine⟨⟨fun r h'=>?_,?_,oS,oS,oS⟩,oS,fun t ht=>?_⟩
  .simp[cN,aI] at h';subst h';exact BQ
  .simp[eu,aI]
  .simp[dh,ig,aI] at ht;rcases ht with rfl|rfl
   .exact J
   .exact Es
 by_cases h3:kind=3
 .subst h3;simp only[Int.reduceEq,if_false,if_true] at h hb;have C:aJ=[]:=List.length_eq_zero_iff.1 hb.2.2.2.2.2.2.2;subst C;refine⟨⟨fun r h'=>?_,?_,oS,oS,oS⟩,oS,fun t ht=>?_⟩
  .simp[cN,aI] at h';obtain⟨h1,rfl⟩:=h';split at h
   .rename_i hc;rw[na] at h;exact X (kI (by rw[h];exact hc.1))
   .rw[na] at h;exact absurd h h1
  .simp[eu,aI]
  .simp[dh,aI] at ht
 by_cases h4:kind=4
 .subst h4;simp only[Int.reduceEq,if_false,if_true] at h hb;have C:aJ=[]:=List.length_eq_zero_iff.1 hb.2.2.2.2.2.2.2;subst C;refine⟨⟨fun r h'=>?_,?_,oS,oS,oS⟩,oS,fun t ht=>?_⟩
  .simp[cN,aI] at h'
  .simp[eu,aI]
  .simp[dh,aI] at ht
 by_cases h5:kind=5
 .subst h5;simp only[Int.reduceEq,if_false,if_true,ay] at h hb;obtain⟨g1,g2,U,M⟩:=h;obtain⟨tC,Et,Eu⟩:=IW M;have J:=O U
  have hi:qf ins:=by
   cases hs:fV jH ins.op with
   |none=>rw[hs] at g1;simp at g1
   |some s=>rw[hs] at g2;exact IF hl (.inr (IE hs)) (Ji g2)
  refine⟨⟨fun r h'=>?_,?_,?_,fun _=>hi.ar,oS⟩,tC,fun t ht=>?_⟩
  .simp[cN,aI] at h';exact hi.rd r h'
  .simp only[eu,if_true];exact hi.wr
  .dsimp only at tC ⊢;omega
  .simp[dh,ig,aI] at ht;rcases ht with rfl|⟨w,C,rfl⟩|⟨h0,rfl⟩
   .exact J
   .exact Et w C
   .exact⟨h0,Eu h0⟩
 by_cases h6:kind=6
 .subst h6;simp only[Int.reduceEq,if_false,if_true,ay,Bool.or_eq_true,na,decide_eq_true_eq] at h hb;obtain⟨g1,g2,U,M,g5,g6⟩:=h;obtain⟨tC,Et,Eu⟩:=IW g6;have J:=O g5;have hv:=xE U;refine⟨⟨fun r h'=>?_,?_,?_,oS,fun _=>?_⟩,tC,fun t ht=>?_⟩
  .simp[cN,aI] at h';exact X (hv r h')
  .simp only[eu,aI];rcases M with M|M
   .simp[M]
   .have:=X (nW M);simp;omega
  .dsimp only at tC ⊢;omega
  .dsimp only;omega
  .simp[dh,ig,aI] at ht;rcases ht with rfl|⟨w,C,rfl⟩|⟨h0,rfl⟩
   .exact J
   .exact Et w C
   .exact⟨h0,Eu h0⟩
 by_cases h7:kind=7
 .subst h7;simp only[Int.reduceEq,if_false,if_true,ay,na,decide_eq_true_eq] at h hb;obtain⟨g1,g2,U,M,g5⟩:=h;have C:aJ=[]:=List.length_eq_zero_iff.1 hb.2.2.2.2.2.2.2;subst C;have J:=O g5;have hv:=xE U;have BQ:=X (kI (l:=f.ag) (r:=a) oG);refine⟨⟨fun r h'=>?_,?_,oS,oS,fun _=>?_⟩,oS,fun t ht=>?_⟩
  .simp[cN,aI] at h';exact X (hv r h')
  .simp only[eu,aI];simp;omega
  .dsimp only;omega
  .simp[dh,ig,aI] at ht;subst ht;exact J
 by_cases h8:kind=8
 .subst h8;simp only[Int.reduceEq,if_false,if_true,ay,na] at h hb;obtain⟨g1,g2,U,M,g5⟩:=h;obtain⟨tC,Et,Eu⟩:=IW g5;have J:=O U;have Es:=O M;have BQ:=X (kI (l:=f.ag) (r:=a) oG);have hrb:=X (nW g2);refine⟨⟨fun r h'=>?_,?_,?_,oS,oS⟩,tC,fun t ht=>?_⟩
  .simp[cN,aI] at h';subst h';exact BQ
  .simp[eu,aI];omega
  .dsimp only at tC ⊢;omega
  .simp[dh,ig,aI] at ht;rcases ht with rfl|rfl|⟨w,C,rfl⟩|⟨h0,rfl⟩
   .exact J
   .exact Es
   .exact Et w C
   .exact⟨h0,Eu h0⟩
 by_cases h9:kind=9
 .subst h9;simp only[Int.reduceEq,if_false,if_true,ay,na] at h hb;obtain⟨g1,g2,U⟩:=h;have C:aJ=[]:=List.length_eq_zero_iff.1 hb.2.2.2.2.2.2.2;subst C;have J:=O U
  have BQ:=X (kI (l:=f.ag) (r:=a) (by
   rw[g2];intro e
   simp[pY,e,g1] at hr))
  refine⟨⟨fun r h'=>?_,?_,oS,oS,oS⟩,oS,fun t ht=>?_⟩
  .simp[cN,aI] at h';subst h';exact BQ
  .simp[eu,aI]
  .simp[dh,ig,aI] at ht;subst ht;exact J
 .simp[h1,h2,h3,h4,h5,h6,h7,h8,h9] at h
theorem aak(a b:Int):dW (zy a b):=by
 unfold zy lb dW;simp only;rw[wrap_u64 (n:=(BitVec.ofInt IntKind.u64.bits a||| BitVec.ofInt IntKind.u64.bits b).toNat) (BitVec.isLt (w:=64) _)];have h:(BitVec.ofInt IntKind.u64.bits a||| BitVec.ofInt IntKind.u64.bits b).toNat<18446744073709551616:=BitVec.isLt (w:=64) _;exact⟨Int.natCast_nonneg _,Int.ofNat_lt.2 h⟩
theorem O0{w:List Int}{n:Int}(h:∀ u∈w,dW u):∀ u∈fW w n,dW u:=fun u hu=>by
 unfold fW at hu;split at hu
 .unfold uu at hu;rcases List.mem_or_eq_of_mem_set hu with h1|h1
  .exact h u h1
  .rw[h1];exact aak _ _
 .exact h u hu
theorem EU:∀ k,∀ u∈iM k,dW u
 |0,u,hu=>by
  rw[List.eq_of_mem_replicate hu];simp[dW]
 |k+1,u,hu=>O0 (EU k) u hu
theorem qf.rl{x:bS}(h:qf x):(cL x).length<=100000:=by
 unfold cL;split
 .simp
 .split
  .simp
  .split
   .rename_i J;have:=h.ar (.inl J);omega
   .split
    .rename_i C;have:=h.ar (.inr C);simp;omega
    .simp
theorem C0.rf{x:End}(h:C0 x)(hi:x.kind=5->qf x.ins):(cN x).length<=100000:=by
 unfold cN;split
 .simp
 .split
  .split<;>simp
  .split
   .rename_i J;exact(hi J).rl
   .split
    .rename_i C;have:=h.a2 (by simpa[aI] using C);omega
    .simp
structure Gv(f:bd):Prop where
 pos:0<f.blocks.length
 BJ:f.blocks.length<=1200
 ag:f.ag.length<=1200
 args:0<=f.args/\f.args<=6
 bJ:∀ b∈f.blocks,sP f.blocks.length b
 ends:∀ b∈f.blocks,G5 f b.fin
 right:∀ (b:Nat) x,f.blocks[b]? =some x->∀ (j:Nat) y,x.ins[j]? =some y->jk f b y ((x.ins.take (j+1)).all cx) (cw f.blocks f.blocks.length b).length=true
 aU:(∀ k∈f.aU,k≠0)/\f.aU.length<=60
 ahp:∀ b∈f.blocks,b.fin.kind=5->qf b.fin.ins
theorem QC{l:List Int}{m:Int}(h:eV l m=true):∀ k∈l,k≠0:=fun k hk e=>by
 subst e;simp only[eV,Bool.not_eq_true',List.any_eq_false] at h;have:=h 0 hk;simp[mu] at this
theorem abD{f:bd}{x:End}(hl:f.ag.length<=1200)(h:jG f x=true)(M:x.kind=5):qf x.ins:=by
 unfold jG at h;rw[ay] at h;have h:=h.1;unfold gf at h;simp only[M,Int.reduceEq,if_false,if_true,ay] at h;obtain⟨C,J,_⟩:=h;cases hs:fV jH x.ins.op with
 |none=>rw[hs] at C;simp at C
 |some s=>rw[hs] at J;exact IF hl (.inr (IE hs)) (Ji J)
theorem SQ{f:bd}(h:nZ f=true):Gv f:=by
 unfold nZ at h;simp only[ay] at h;obtain⟨U,X,_,hE,hR⟩:=h;unfold ni at U;simp only[ay,kH,Bool.not_eq_true',decide_eq_false_iff_not] at U;obtain⟨_,ha,hr,wW,jV,fI⟩:=U;unfold p8 at X;simp only[ay,Bool.not_eq_true',decide_eq_false_iff_not] at X;obtain⟨_,_,wR,_,_⟩:=X;have J:f.ag.length<=1200:=by omega
 have O:∀ x∈f.blocks,jG f x.fin=true/\x.ins.length<=200:=fun x hx=>by
  obtain⟨k,hk⟩:=dY hx;have aj:k<f.blocks.length:=(bZ.1 hk).1;have:=b7.1 hE k (by simpa using aj);rw[kq,getD_some hk] at this;simp only[ay,Bool.not_eq_true',decide_eq_false_iff_not] at this;exact⟨this.1,oG⟩
 have C:∀ x∈f.blocks,G5 f x.fin:=fun x hx=>JH J hr (O x hx).1
 have VQ:∀ (b:Nat) x,f.blocks[b]? =some x->∀ (j:Nat) y,x.ins[j]? =some y->jk f b y ((x.ins.take (j+1)).all cx) (cw f.blocks f.blocks.length b).length=true:=fun b x hx j y hy=>by
  have aj:b<f.blocks.length:=(bZ.1 hx).1;have:=b7.1 hR b (by simpa using aj);rw[qL,getD_some hx] at this;have:=b7.1 this j (by simpa using(bZ.1 hy).1);rw[tP,getD_some hy] at this;exact this
 have M:∀ b∈f.blocks,b.fin.kind=5->qf b.fin.ins:=fun b hb M=>abD J (O b hb).1 M
 have Ba:∀ b∈f.blocks,∀ x∈b.ins,qf x:=fun b hb x hx=>by
  obtain⟨k,hk⟩:=dY hb;obtain⟨j,hj⟩:=dY hx;exact(OE J (QC wR) oG (VQ k b hk j x hj)).1
 refine⟨oG,oG,J,⟨ha.1,by have:=ha.2;split at this<;>omega⟩,fun b hb=>⟨by have:=(O b hb).2;omega,Ba b hb,(C b hb).fin,fun x hx=>(Ba b hb x hx).rl,(C b hb).fin.rf (M b hb),fun t ht=>(C b hb).to t (IG.1 ht)⟩,C,VQ,⟨QC wR,oG⟩,M⟩
theorem Gv.Ia{f:bd}(h:Gv f){b:Nat}{x:cE}(hx:f.blocks[b]? =some x){y:bS}(hy:y∈x.ins)(C:y.op=19):y.args.length=(cw f.blocks f.blocks.length b).length/\∀ r∈y.args,0<=r/\r<1280:=by
 obtain⟨j,hj⟩:=dY hy;obtain⟨h1,_,_,_,h2⟩:=(OE h.ag h.aU.1 h.aU.2 (h.right b x hx j y hj)).2 C;refine⟨oG,fun r hr=>?_⟩;have:=(h2 r hr).2;unfold js at this;have:=h.ag;omega
end Go.Argus
namespace Go.Abs
section
variable{P:Program}{env:Env}{m:Mem}{nx:Nat}{x y:Operand}{t e:TypeId}{k:IntKind}
theorem aaj{α:Type}{f:α->D}{l:List α}{b:Int}(hx:(opd env x).core=.sl (l.map f) l.length)(he:av P t=e)(hs:P.cellsOf e=1)(hb:(opd env y).core=.s (.int .i64 b))(hc:bm P t=true)(C:0<=b/\b<=l.length):
 Ef P (.slice t x none (some y) none) env m nx ⟨True,.sl ((l.take b.toNat).map f) (l.take b.toNat).length,[],[],0⟩:=by
 have h:=Ah (P:=P) (env:=env) (m:=m) (nx:=nx) (t:=t) (lo:=none) (hi:=some y) (a:=0) (b:=b) (es':=(l.take b.toNat).map f) hx he hs (by simp[eP]) (by simp[eP,hb,D.int?]) (by simp[List.map_take])
 have h2:(bm P t=true/\(0:Int)<=0/\(0:Int)<=b/\b<=(l.length:Int))=True:=by
  apply propext;constructor
  .exact fun _=>trivial
  .exact fun _=>⟨hc,oG,C.1,C.2⟩
 have J:(b - 0).toNat=(l.take b.toNat).length:=by rw[List.length_take];omega
 rw[h2,J] at h;exact h
theorem Ae{i j sz:Nat}{C:List D}{r:Row}(J:j≠i)(hm:m j=some r)(h:Row.sub (dG i C sz) r=r):(if j=i then none else(m j).map (Row.sub (dG i C sz)))=some r:=by
 rw[if_neg J,hm];exact congrArg some h
theorem tM{i:Nat}{cs:List D}{l:List (Nat×D)}{ml:List (Nat×Row)}(hm:m i=some (.cells cs e))(hl:n8 l fun t=>sub (dG i cs (P.cellsOf e)) (env t))(C:CI ml fun j=>if j=i then none else(m j).map (Row.sub (dG i cs (P.cellsOf e)))):aR P ⟨env,m,nx⟩ ⟨aH l,aby ml,nx⟩:=
 (aR.freeze env m nx i cs e hm).trans (bc hl C)
end
end Go.Abs
namespace Go.Argus
theorem VM:∀ b1 b2 b3 b4 b5 b6:Bool,(if(if(if(if(if(!b1)=true then true else !b2)=true then true else !b3)=true then true else b4)=true then true else b5)=true then true else !b6)= !(b1&&(b2&&(b3&&(!b4&&(!b5&&b6))))):=by decide
theorem VN:∀ b1 b2 b3 b4 b5:Bool,(if(if(if(if(!b1)=true then true else !b2)=true then true else !b3)=true then true else b4)=true then true else b5)= !(b1&&(b2&&(b3&&(!b4&& !b5)))):=by decide
theorem wY:∀ b1 b2 b3 b4:Bool,(if(if b1=true then true else b2)=true then true else if b3=true then !b4 else false)=(b1||(b2||(b3&& !b4))):=by decide
def mT(l:List Int):List (Value×D):=l.map fun a=>(.int .i64 a,B true)
theorem Kh(a:Int):∀ l:List Int,(gp (.int .i64 a) (mT l)).map (·.2)=if(l.any (·==a))=true then some (B true) else none
 |[]=>rfl
 |b::l=>by
  have ih:=Kh a l;unfold mT at ih ⊢;simp only[List.map_cons,gp,tq,ru,List.any_cons,beq_self_eq_true,Bool.true_and] at ih ⊢;by_cases h:b=a
  .subst h;simp
  .have hb:(b==a)=false:=by simpa using h
   simp only[hb,Bool.false_eq_true,if_false,Option.map_map,Bool.false_or];exact ih
theorem acw{P:Program}{t:TypeId}(hz:qZ P (sW P t)=B false)(a:Int)(l:List Int):jN P t false (gp (.int .i64 a) (mT l))=B (l.any (·==a)):=by
 have h:=Kh a l;cases h1:gp (.int .i64 a) (mT l) with
 |none=>
  rw[h1] at h;cases h2:l.any (·==a) with
  |true=>rw[h2] at h;simp at h
  |false=>simp[jN,hz]
 |some x=>
  rw[h1] at h;cases h2:l.any (·==a) with
  |false=>rw[h2] at h;simp at h
  |true=>rw[h2] at h;simp at h;simp[jN,h]
theorem acx{a:Int}{l:List Int}(h:l.any (·==a)=false):lY (.int .i64 a) (B true) (mT l)=mT (l++[a]):=by
 have h1:=Kh a l;rw[h] at h1;unfold lY;cases h2:gp (.int .i64 a) (mT l) with
 |none=>simp[mT]
 |some x=>rw[h2] at h1;simp at h1
theorem RF{P:Program}{kt:TypeId}(hk:P.underlying kt=some (.int .i64))(l:List Int):(mT l).all (fun e=>dD P kt e.1)=true:=by
 refine b7.2 fun x hx=>?_;obtain⟨y,_,rfl⟩:=List.mem_map.1 hx;simp[dD,hk]
theorem SP{P:Program}{kt:TypeId}(hk:P.underlying kt=some (.int .i64))(a:Int):dD P kt (.int .i64 a)=true:=by simp[dD,hk]
theorem abC{i sz:Nat}{C:List D}(l:List Int):Row.sub (dG i C sz) (.map (mT l))=.map (mT l):=by
 show Row.map ((mT l).map _)=_;unfold mT;rw[List.map_map];rfl
theorem WJ{bs:List cE}{k:Nat}{x:cE}(hx:bs[k]? =some x):lh bs (k+1)=if(x.fin.kind==7)=true then lh bs k++[x.fin.a] else lh bs k:=by
 unfold lh;rw[List.take_add_one,hx];by_cases h:(x.fin.kind==7)=true
 .simp[h]
 .simp[h]
end Go.Argus
namespace Go.Proofs.Tryz.K
theorem H9:prog.underlying 3=some (.int .i64):=kr
theorem aeB:qZ prog (sW prog 193)=B false:=kr
theorem NM{f:bd}:ax prog 61 [.agg (a6 f)] (B (nZ f)):=by
 have br:∀ a∈[D.agg (a6 f)],Tr a:=.cons (.agg (oY f)) .nil;refine bP ahn br (.s _) ?_;rw[aho];refine aE ?_;refine af ?_;refine ab (bj (sj (i:=0) (l:=[(1,.pt (a6 f))]) rfl eH) (aE ?_));have MN:=MN (f:=f);refine SS ?_;refine cl MN ?_;refine SS ?_;refine dJ (iI (cs':=bu _ _ _) rfl rfl rfl rfl) ak (eU V.h V.h (by first|(simp;done)|exact⟨rfl,bg rfl⟩|(simp;omega)) (by rfl)) ?_;refine ab (bj (sj (i:=1) (l:=[(1,.pt (a6 f)),(3,.pt (bu P0 Q0 f))]) rfl eH) (aE ?_));refine SN9 ?_;refine cT ?_;refine af ?_;refine ab (bj (hP (l:=[(1,.pt (a6 f)),(3,.pt (bu P0 Q0 f)),(4,B (pY f))]) ⟨rfl,rfl,congrArg B (wY (f.result==1) (f.result==2) (f.result==0) f.iter),trivial⟩) (aV (al ?_)));have L9:nZ f=(ni f&&(p8 f&&(nj f&&((range f.blocks.length).all (kq f)&&(range f.blocks.length).all (qL f))))):=rfl;rw[L9];have M:ni f=(lu f.name&&(c8 f.args 0 (if(f.ag.length:Int)<6 then(f.ag.length:Int) else 6)&&(pY f&&(!decide ((1200:Int)<f.ag.length)&&(!decide ((60:Int)<f.aU.length)&&c8 f.blocks.length 1 1200))))):=rfl;generalize mI:pY f=VO at M ⊢;refine af ?_;refine cl rC ?_;refine fS ?_;refine bQ rfl rfl (Tc rfl rfl) (fun hc=>⟨ak,rfl⟩) ?_;refine gc mi ?_;refine SN9 ?_;refine SN9 ?_;refine a7 ?_;refine gc mi ?_;refine af ?_;refine ab (dI rfl (fun h=>?_) fun h=>dL (aV (al ?_)))
 .have h:=(VM _ _ _ _ _ _).symm.trans h;rw[<- M] at h;have h:ni f=false:=by simpa using h
  refine aV (al ?_);refine SS ?_;refine ab (fN (ap (d:=B false) rfl ?_));rw[h];rfl
 have h:=(VM _ _ _ _ _ _).symm.trans h;rw[<- M] at h;have hh:ni f=true:=by simpa using h
 rw[hh,Bool.true_and];rw[M] at hh;simp only[ay,kH,Bool.not_eq_true',decide_eq_false_iff_not] at hh;obtain⟨_,ha,hr,wW,O,fI⟩:=hh;subst hr;clear h M
 have rO:0<=f.args/\f.args<=f.ag.length/\f.args<=6:=by
  split at ha<;>omega
 have X:p8 f=(eV f.ag 3&&(eV (f.ag.take f.args.toNat) 2&&(eV f.aU 2&&(!decide ((6:Int)<f.signals.length)&& !f.signals.any fun s=> !isName s)))):=rfl;have Ho:=Ho (l:=f.signals) (g:=140) (fs:=[]) (cs:=[]) (p:=fun s=> !isName s) (.fn oS oS) (fun x _=>ahi);have ha2:0<=f.args/\f.args<=f.ag.length:=⟨rO.1,rO.2.1⟩
 refine af ?_;refine cl ML ?_;refine cY ?_;refine bQ rfl rfl (aaj rfl VP c5 rfl UP ha2) (fun hc=>⟨(by repeat' (first|exact trivial|exact hc|exact rfl|refine And.intro ?_ ?_)),trivial⟩) ?_;refine gc ML ?_;refine bH ?_;refine gc ML ?_;refine SN9 ?_;refine af ?_;refine gc Ho ?_;refine SS ?_;refine ab (dI rfl (fun h=>?_) fun h=>dL (aV (aE ?_)))
 .have h:=(VN _ _ _ _ _).symm.trans h;rw[<- X] at h;have h:p8 f=false:=by simpa using h
  refine aV (al ?_);refine SS ?_;refine ab (fN (ap (d:=B false) rfl ?_));rw[h];rfl
 have h:=(VN _ _ _ _ _).symm.trans h;rw[<- X] at h;have hh:p8 f=true:=by simpa using h
 rw[hh,Bool.true_and];rw[X] at hh;simp only[ay,Bool.not_eq_true',decide_eq_false_iff_not] at hh;obtain⟨_,_,wR,hsg,_⟩:=hh;clear h X Ho;have hS:nj f=(range (f.signals.length - 1)).all (sv f.signals):=rfl;rw[hS];have tf:f.signals.length<=6:=by omega
 refine SS ?_;refine ab (dA (fun s=>aR prog s ⟨aH [(1,.pt (a6 f)),(3,.pt (bu P0 Q0 f))],fun _=>none,2⟩/\(range (f.signals.length - 1)).all (sv f.signals)=true) (eX (α:=Nat) (fun k=>⟨aH [(1,.pt (a6 f)),(3,.pt (bu P0 Q0 f)),(5,I (k+1:Nat))],fun _=>none,2⟩) (fun k=>k<=f.signals.length - 1/\(range k).all (sv f.signals)=true) (fun k=>f.signals.length - k) 0 (hP eH) ⟨Nat.zero_le _,rfl⟩ ?_) ?_)
 .rintro k ⟨hk,C⟩;refine bH ?_;refine ab ⟨_,rfl,fun h=>?_,fun h=>?_⟩
  .have aj:k+1<f.signals.length:=by have:((k+1:Nat):Int)<f.signals.length:=by simpa using h
                                    omega
   have h1:f.signals[k]? =some f.signals[k]:=bB oG;have h2:f.signals[k+1]? =some f.signals[k+1]:=bB oG;have O:sv f.signals k=Op.bytesLess f.signals[k].toList f.signals[k+1].toList:=by rw[sv,getD_some h1,getD_some h2]
   generalize f.signals[k]=s1 at h1 O;generalize f.signals[k+1]=s2 at h2 O;have wC:((k+1:Nat):Int) - 1=(k:Int)/\ -9223372036854775808<=(k:Int)/\(k:Int)<=9223372036854775807:=by omega
   refine eF YL ?_;refine SN9 ?_;refine af ?_;refine ao (R2 rfl rfl) ak trivial ?_;refine bX bY (yC rfl (fun h=>?_) fun h=>eC ?_)
   .have hf:sv f.signals k=false:=by rw[O];simpa using h
    refine ws ?_;refine SS ?_;refine ab (bh (dp (aY (ap (d:=B false) rfl ?_))));rw[nU oG hf];rfl
   .have ht:sv f.signals k=true:=by rw[O];simpa using h
    refine aB ?_;exact ab (bD (k+1) (hP eH) ⟨oG,k9 C ht⟩ oG)
  .have bL:¬ k+1<f.signals.length:=by intro hh;simp at h;omega
   have:k=f.signals.length - 1:=by omega
   subst this;exact⟨hP eH,C⟩
 rintro s ⟨hg,C⟩;rw[C,Bool.true_and];clear C hS;refine⟨_,hg,aE ?_⟩;refine af ?_;refine ab (bj (bc (l:=[(1,.pt (a6 f)),(3,.pt (bu P0 Q0 f)),(6,.mp 2)]) (ml:=[(2,.map (mT []))]) eH eH) (aV (aE ?_)));refine a7 ?_;generalize hn:f.blocks.length=n at fI ⊢;refine ab (dA (fun s=>∃ N,aR prog s ⟨aH [(1,.pt (a6 f)),(3,.pt (bu P0 Q0 f))],fun _=>none,N⟩/\(range n).all (kq f)=true) (iK (α:=Nat×Nat) (fun k=>⟨aH [(1,.pt (a6 f)),(3,.pt (bu P0 Q0 f)),(6,.mp 2),(123,gl f.blocks),(124,I n),(125,I k.1)],aby [(2,.map (mT (lh f.blocks k.1)))],k.2⟩) (fun k=>k.1<=n/\(range k.1).all (kq f)=true/\3<=k.2) (fun k=>n - k.1) (0,3) (bc eH eH) ⟨Nat.zero_le _,rfl,bO _⟩ ?_) ?_)
 .rintro⟨k,N⟩ ⟨hk,C,hN⟩;dsimp only at hk C hN ⊢;refine SS ?_;refine ab ⟨_,rfl,fun h=>?_,fun h=>?_⟩
  .have aj:k<n:=by simpa using h
   have hx:f.blocks[k]? =some f.blocks[k]:=bB oG;generalize f.blocks[k]=x at hx;have J:kq f k=(jG f x.fin&&(!decide ((200:Int)<x.ins.length)&& !(x.fin.kind==7&&(lh f.blocks k).any (·==x.fin.a)))):=by rw[kq,getD_some hx]
   have eD:=WJ hx;have Hq:=Hq (f:=f) (x:=x.fin);generalize lh f.blocks k=l at J eD;refine aE ?_;refine a7 ?_;refine ab (bj (tM (i:=N) (l:=[(1,.pt (a6 f)),(3,.pt (bu P0 Q0 f)),(6,.mp 2),(8,.pt (gR x)),(123,gl f.blocks),(124,I n),(125,I k)]) (ml:=[(2,.map (mT l))]) (au _ _ _) ⟨rfl,rfl,rfl,nt,rfl,rfl,rfl,trivial⟩ ⟨Ae oG (aM oG (aM oG rfl)) (abC l),trivial⟩) (aV (al ?_)));generalize jG f x.fin=e at Hq J;refine aB ?_;refine cl Hq ?_;refine fS ?_;refine ab (dI rfl (fun h=>?_) fun h=>dL (al ?_))
   .have hf:kq f k=false:=by
     rw[J];cases e with
     |false=>rfl
     |true=>have:decide ((200:Int)<x.ins.length)=true:=by simpa using h
            rw[this];rfl
    refine aV (al ?_);refine SS ?_;refine ab (fN (dp (aY (ap (d:=B false) rfl ?_))));rw[nU aj hf];rfl
   have J:kq f k= !(x.fin.kind==7&&l.any (·==x.fin.a)):=by
    rw[J];cases e with
    |false=>simp at h
    |true=>have:decide ((200:Int)<x.ins.length)=false:=by simpa using h
           rw[this];rfl
   refine a7 ?_;refine ab (yC rfl (fun h7=>?_) fun h7=>eC ?_)
   .rw[h7] at J eD;refine aV (al ?_);refine a7 ?_;refine ao (Zr rfl rfl rfl LC (acw aeB _ _)) aF ⟨LD,SP H9 _,RF H9 _⟩ ?_;refine ab (dI rfl (fun h=>?_) fun h=>dL (kp ?_))
    .have hf:kq f k=false:=by rw[J,h];rfl
     refine aV (al ?_);refine SS ?_;refine ab (fN (dp (aY (ap (d:=B false) rfl ?_))));rw[nU aj hf];rfl
    .have ht:kq f k=true:=by rw[J,h];rfl
     refine a7 ?_;refine dJ (ab9 rfl rfl rfl rfl LC) aF ⟨LD,SP H9 _,RF H9 _⟩ ?_;refine ab ?_;refine af ?_;refine ab (bD (k+1,_) (bc eH ⟨?_,trivial⟩) ⟨oM,k9 C ht,oM⟩ oM);dsimp only;rw[eD,if_pos rfl, <- acx h];exact au _ _ _
   .rw[h7] at J eD;refine af ?_;refine ab (bD (k+1,_) (bc eH ⟨?_,trivial⟩) ⟨oM,k9 C J,oM⟩ oM);dsimp only;rw[eD,if_neg oS];rfl
  .have bL:¬ k<n:=by simpa using h
   have:k=n:=by omega
   subst this;exact⟨N,hP eH,C⟩
 rintro s ⟨N,hg,C⟩;rw[C,Bool.true_and]
 have hE:∀ x∈f.blocks,G5 f x.fin:=fun x hx=>by
  obtain⟨k,hk⟩:=dY hx;have aj:k<n:=by rw[<- hn];exact(bZ.1 hk).1
  have:=b7.1 C k (by simpa using aj);rw[kq,getD_some hk] at this;simp only[ay] at this;exact JH oG mI this.1
 have BP:=BP (f:=f) lU lV rfl rfl hn oG (fun b h=>by have:=(hE b h).wh;omega) (fun b h t ht=>hn▸(hE b h).to t (IG.1 ht));refine⟨_,hg,al ?_⟩;refine SS ?_;refine cl BP ?_;refine SS ?_;refine ab (aV (aE ?_));refine a7 ?_;refine ab (dA (fun s=>(range n).all (qL f)=true) (iK (α:=Nat×Nat) (fun k=>⟨aH [(1,.pt (a6 f)),(3,.pt (bu P0 Q0 f)),(9,di (lq f.blocks)),(157,gl f.blocks),(158,I n),(159,I k.1)],fun _=>none,k.2⟩) (fun k=>k.1<=n/\(range k.1).all (qL f)=true) (fun k=>n - k.1) (0,N) (hP ⟨rfl,rfl,rfl,rfl,congrArg (fun k:Nat=>I k) hn,rfl,trivial⟩) ⟨Nat.zero_le _,rfl⟩ ?_) ?_)
 .rintro⟨k,N⟩ ⟨hk,C⟩;dsimp only at hk C ⊢;refine SS ?_;refine ab ⟨_,rfl,fun h=>?_,fun h=>?_⟩
  .have aj:k<n:=by simpa using h
   have hx:f.blocks[k]? =some f.blocks[k]:=bB oG;have dz:f.blocks[k]∈f.blocks:=df _;generalize f.blocks[k]=x at hx dz;have hA:=OZ hn aj;have oO:qL f k=(range x.ins.length).all (tP f k x.ins):=by rw[qL,getD_some hx]
   have U:∀ j,tP f k x.ins j=jk f k (x.ins.getD j ez) ((x.ins.take (j+1)).all cx) (cw f.blocks n k).length:=fun j=>by rw[tP,hn]
   generalize cw f.blocks n k=A at hA U;refine aE ?_;refine cY ?_;refine ab (bj (sj (i:=N) (l:=[(1,.pt (a6 f)),(3,.pt (bu P0 Q0 f)),(9,di (lq f.blocks)),(10,I k),(11,.pt (gR x)),(157,gl f.blocks),(158,I n),(159,I k)]) (au _ _ _) ⟨rfl,rfl,rfl,rfl,nt,rfl,rfl,rfl,trivial⟩) (al ?_));refine SS ?_;refine ab (aE ?_);refine a7 ?_
   have jr:x.ins.length<=200:=by
    have:=b7.1 ‹(range n).all (kq f)=true› k (by simpa using aj);rw[kq,getD_some hx] at this;simp only[ay,Bool.not_eq_true',decide_eq_false_iff_not] at this;omega
   refine ab (iK (α:=Nat×Nat) (fun j=>⟨aH [(1,.pt (a6 f)),(3,.pt (bu P0 Q0 f)),(9,di (lq f.blocks)),(10,I k),(12,B ((x.ins.take j.1).all cx)),(157,gl f.blocks),(158,I n),(159,I k),(165,iL x.ins),(166,I x.ins.length),(167,I j.1)],fun _=>none,j.2⟩) (fun j=>j.1<=x.ins.length/\(range j.1).all (tP f k x.ins)=true) (fun j=>x.ins.length - j.1) (0,N+1) (hP eH) ⟨Nat.zero_le _,rfl⟩ ?_);rintro⟨j,N⟩ ⟨hj,LF⟩;dsimp only at hj LF ⊢;refine SS ?_;refine ab ⟨_,rfl,fun h=>?_,fun h=>?_⟩
   .have dZ:j<x.ins.length:=by simpa using h
    have hy:x.ins[j]? =some x.ins[j]:=bB dZ;generalize x.ins[j]=y at hy;have Ej:(x.ins.take (j+1)).all cx=((x.ins.take j).all cx&&cx y):=by rw[List.take_add_one,hy,List.all_append];simp
    have U:=U j;rw[getD_some hy] at U;generalize (x.ins.take j).all cx=ph at Ej;refine aE ?_;refine a7 ?_;refine ab (bj (sj (i:=N) (l:=[(1,.pt (a6 f)),(3,.pt (bu P0 Q0 f)),(9,di (lq f.blocks)),(10,I k),(12,B ph),(14,.pt (bF y)),(157,gl f.blocks),(158,I n),(159,I k),(165,iL x.ins),(166,I x.ins.length),(167,I j)]) (au _ _ _) ⟨rfl,rfl,rfl,rfl,rfl,nt,rfl,rfl,rfl,rfl,rfl,rfl,trivial⟩) (aE ?_));refine fS ?_;refine ab (bj (hP (l:=[(1,.pt (a6 f)),(3,.pt (bu P0 Q0 f)),(9,di (lq f.blocks)),(10,I k),(12,B ((x.ins.take (j+1)).all cx)),(14,.pt (bF y)),(157,gl f.blocks),(158,I n),(159,I k),(165,iL x.ins),(166,I x.ins.length),(167,I j)]) ⟨rfl,rfl,rfl,rfl,?_,rfl,rfl,rfl,rfl,rfl,rfl,rfl,trivial⟩) (eF YM ?_))
    .rw[Ej];cases ph<;>rfl
    have Hr:=Hr (f:=f) (b:=(k:Int)) (ahead:=(A.length:Int)) (x:=y) (phis:=(x.ins.take (j+1)).all cx);rw[<- U] at Hr;refine SN9 ?_;refine cl Hr ?_;refine SS ?_;refine bX bY (yC rfl (fun h=>?_) fun h=>eC ?_)
    .have hf:tP f k x.ins j=false:=by simpa using h
     refine ws ?_;refine SS ?_;refine ab (bh (dp (dp (aY (ap (d:=B false) rfl ?_)))));rw[nU aj (by rw[oO];exact nU dZ hf)]
    .have ht:tP f k x.ins j=true:=by simpa using h
     refine af ?_;exact ab (bD (j+1,_) (hP eH) ⟨oM,k9 LF ht⟩ oM)
   .have bL:¬ j<x.ins.length:=by simpa using h
    have DY:j=x.ins.length:=by omega
    subst DY;show aw _ _ _ _ _ _ _ _ _;refine af ?_;exact ab (bD (k+1,_) (hP eH) ⟨oM,k9 oN (oO.trans LF)⟩ oM)
  .have bL:¬ k<n:=by simpa using h
   have:k=n:=by omega
   subst this;show(range k).all (qL f)=true
   assumption
 .rintro⟨env,m,nx⟩ C;refine⟨_,.refl _,al ?_⟩;refine SS ?_;refine ab (ap (d:=B true) rfl ?_);rw[C]
theorem BH{f:bd}:ax prog 16 [.agg (a6 f)] (I (vU f)):=by
 have M:∀ a∈[D.agg (a6 f)],Tr a:=.cons (.agg (oY f)) .nil;refine bP ahq M (.s _) ?_;rw[ahr];have NM:=NM (f:=f);refine aE ?_;refine af ?_;refine ab (bj (sj (i:=0) (l:=[(1,.pt (a6 f))]) rfl eH) (mW (al ?_)));refine SS ?_;refine cl NM ?_;refine af ?_;refine ab (yC rfl (fun h=>al ?_) fun h=>al ?_)
 .have hf:nZ f=false:=by simpa using h
  refine SS ?_;refine ab (bh (bR (aY (ap (d:=I 80) rfl ?_))));rw[vU,if_neg (by simp[hf])]
 .have hf:nZ f=true:=by simpa using h
  have C:=SQ hf;obtain⟨args,ha⟩:=ic C.args.1;have U:=C.args.2;have H8:=H8 (p:=.s (.map none)) (q:=.s (.map none)) (f:=f) (.s _) (.s _) rfl rfl rfl C.pos (by have:=C.BJ;omega) ha oG (EU args) C.bJ (fun b x hx y hy O=>C.Ia hx hy O);have J:vU f=if vH f.blocks args=true then 0 else 81:=by rw[vU,if_pos hf,ha,dX]
  generalize vH f.blocks args=r at H8 J;refine af ?_;refine cl H8 ?_;refine af ?_;refine ab (yC rfl (fun h=>al ?_) fun h=>mB (al ?_))
  .have hr:r=false:=by simpa using h
   refine SS ?_;refine ab (bh (bR (aY (ap (d:=I 81) rfl ?_))));rw[J,hr];rfl
  .have hr:r=true:=by simpa using h
   refine SS ?_;refine ab (bh (ap (d:=I 0) rfl ?_));rw[J,hr];rfl
end Go.Proofs.Tryz.K
namespace Go.Argus
def T'(a b:Int):Int:=lb .andNot .u64 a b
def G8(w:List Int)(m:Nat):List Int:=w.set (m / 64) (T' (w.getD (m / 64) 0) (IntKind.u64.wrap (1*2 ^ (min (m % 64) 64))))
def Dh(w:List Int)(n:Int):List Int:=if 0<=n then G8 w n.toNat else w
def wk(w v:List Int):Nat->List Int
 |0=>w
 |k+1=>(wk w v k).set k (zy ((wk w v k).getD k 0) (v.getD k 0))
def afM(w v:List Int):List Int:=wk w v 19
@[simp] theorem aky (w : List Int) (m : Nat) : (G8 w m).length = w.length := by simp [G8]
@[simp] theorem akz (w : List Int) (n : Int) : (Dh w n).length = w.length := by unfold Dh; split <;> simp
@[simp] theorem PZ (w v : List Int) : ∀ k, (wk w v k).length = w.length
 |0=>rfl
 |k+1=>by simp[wk,PZ w v k]
@[simp] theorem akA (w v : List Int) : (afM w v).length = w.length := PZ w v 19
def jC(x:End):List Int:=if x.kind≠3/\x.kind≠4 then [x.to] else []
def oQ(x:End):List Int:=if x.kind=2\/x.kind=8 then jC x++[x.gP] else jC x
def fU(x:End)(k:Nat):List Int:=oQ x++(x.aJ.take k).map (·.to)
def eO(x:End):List Int:=if 0<=x.others then fU x x.aJ.length++[x.others] else fU x x.aJ.length
theorem aao{x:End}{k:Nat}{w:kC}(h:x.aJ[k]? =some w):fU x (k+1)=fU x k++[w.to]:=by
 unfold fU;rw[List.take_add_one,h,List.map_append,List.append_assoc];rfl
theorem Ki(x:End):(oQ x).length<=2:=by unfold oQ jC;repeat' split<;>simp
theorem Fg(x:End):(eO x).length<=x.aJ.length+3:=by
 have:=Ki x;unfold eO fU;split<;>simp<;>omega
end Go.Argus
end
namespace Go.Argus
open Go Go.Abs
theorem Wb(v:BitVec 64)(i:Nat):(IntKind.u64.wrap (v.toNat:Int)).toNat.testBit i=v.getLsbD i:=by
 rw[wrap_u64 v.isLt,dX,BitVec.testBit_toNat]
theorem Ip{a:Int}(ha:dW a)(i:Nat):(BitVec.ofInt 64 a).getLsbD i=a.toNat.testBit i:=by
 obtain⟨n,rfl⟩:=ic ha.1;have h:=ha.2;rw[<- BitVec.testBit_toNat,BitVec.toNat_ofInt];congr 1;omega
theorem afL{a b:Int}(ha:dW a)(hb:dW b)(i:Nat):(zy a b).toNat.testBit i=(a.toNat.testBit i||b.toNat.testBit i):=by
 have:zy a b=IntKind.u64.wrap (((BitVec.ofInt 64 a||| BitVec.ofInt 64 b).toNat:Nat):Int):=rfl;rw[this,Wb,BitVec.getLsbD_or,Ip ha,Ip hb]
theorem S0{a b:Int}(ha:dW a)(hb:dW b)(i:Nat):(pw a b).toNat.testBit i=(a.toNat.testBit i&&b.toNat.testBit i):=by
 have:pw a b=IntKind.u64.wrap (((BitVec.ofInt 64 a&&& BitVec.ofInt 64 b).toNat:Nat):Int):=rfl;rw[this,Wb,BitVec.getLsbD_and,Ip ha,Ip hb]
theorem Jn(v:BitVec 64):dW (IntKind.u64.wrap (v.toNat:Int)):=by
 rw[wrap_u64 v.isLt];have:=v.isLt;unfold dW;omega
theorem XV(a b:Int):dW (T' a b):=Jn (BitVec.ofInt 64 a&&& ~~~ BitVec.ofInt 64 b)
theorem PY(a b:Int):dW (zy a b):=Jn (BitVec.ofInt 64 a||| BitVec.ofInt 64 b)
theorem abZ{k:Nat}(hk:k<64):IntKind.u64.wrap (1*2 ^ (min k 64))=((2 ^ k:Nat):Int):=by
 have h1:min k 64=k:=by omega
 have h2:(2:Nat) ^ k<2 ^ 64:=Nat.pow_lt_pow_right oG hk;rw[h1,Int.one_mul, <- wrap_u64 h2]
 norm_cast
def eb(w:List Int)(r:Nat):Bool:=(w.getD (r / 64) 0).toNat.testBit (r % 64)
def fQ(w:List Int):Prop:=∀ u∈w,dW u
theorem fQ.get{w:List Int}(h:fQ w)(i:Nat):dW (w.getD i 0):=by
 rw[eg];cases hx:w[i]? with
 |none=>exact⟨oS,oS⟩
 |some u=>exact h u (cX hx)
theorem aaU{k:Nat}(hk:k<64):dW ((2 ^ k:Nat):Int):=by
 have h2:(2:Nat) ^ k<2 ^ 64:=Nat.pow_lt_pow_right oG hk;generalize (2:Nat) ^ k=z at h2;unfold dW;omega
theorem xK{w:List Int}(h:fQ w)(m:Nat):kD w m=eb w m:=by
 have hu:=h.get (m / 64);unfold kD eb;generalize w.getD (m / 64) 0=u at hu;have hk:min (m % 64) 64=m % 64:=by omega
 rw[hk];obtain⟨n,rfl⟩:=ic hu.1
 have e:((n:Int).fdiv (2 ^ (m % 64)))=((n / 2 ^ (m % 64):Nat):Int):=by
  rw[Int.fdiv_eq_ediv_of_nonneg _ (Int.le_of_lt (Int.pow_pos oG)),Int.natCast_ediv,Int.natCast_pow];rfl
 rw[e];have hd:n / 2 ^ (m % 64)<=n:=Nat.div_le_self _ _
 have hq:dW ((n / 2 ^ (m % 64):Nat):Int):=by
  have:=hu.2;revert hd;generalize n / 2 ^ (m % 64)=z;intro hd;unfold dW;omega
 have h1:dW 1:=by unfold dW;omega
 have hb:∀ i,(pw ((n / 2 ^ (m % 64):Nat):Int) 1).toNat.testBit i=(n.testBit (m % 64)&&decide (i=0)):=fun i=>by
  rw[S0 hq h1,dX];by_cases hi:i=0
  .subst hi;simp[Nat.testBit_eq_decide_div_mod_eq]
  .have:(1:Int).toNat.testBit i=false:=by
    show Nat.testBit 1 i=false;cases i with
    |zero=>omega
    |succ j=>simp[Nat.testBit_succ]
   rw[this];simp[hi]
 have hp:dW (pw ((n / 2 ^ (m % 64):Nat):Int) 1):=Jn (BitVec.ofInt 64 _&&& BitVec.ofInt 64 1);generalize pw ((n / 2 ^ (m % 64):Nat):Int) 1=z at hb hp;obtain⟨q,rfl⟩:=ic hp.1;simp only[dX] at hb ⊢;cases hn:n.testBit (m % 64) with
 |false=>
  have:q=0:=Nat.eq_of_testBit_eq fun i=>by rw[hb i,hn];simp
  subst this;rfl
 |true=>
  have:q=1:=Nat.eq_of_testBit_eq fun i=>by
   rw[hb i,hn];cases i with
   |zero=>simp
   |succ j=>simp[Nat.testBit_succ]
  subst this;rfl
theorem RP{w:List Int}{i:Nat}{u:Int}(hi:i<w.length)(r:Nat):eb (w.set i u) r=if r / 64=i then u.toNat.testBit (r % 64) else eb w r:=by
 unfold eb;simp only[eg,List.getElem?_set];split
 .rename_i h;subst h;simp[hi]
 .rename_i h;rw[if_neg fun e=>h e.symm]
theorem JL{w:List Int}(h:fQ w){m:Nat}(hm:m / 64<w.length)(r:Nat):eb (uu w m) r=(eb w r||decide (r=m)):=by
 have hk:m % 64<64:=by omega
 unfold uu;rw[abZ hk,RP hm];split
 .rename_i e;rw[afL (h.get _) (aaU hk),dX,Nat.testBit_two_pow,eb,e];congr 1;apply decide_eq_decide.2;omega
 .rename_i e;have:¬ r=m:=fun h=>e (by rw[h]);simp[this]
theorem fQ.set{w:List Int}(h:fQ w){i:Nat}{u:Int}(hu:dW u):fQ (w.set i u):=fun x hx=>by
 rcases List.mem_or_eq_of_mem_set hx with h1|h1
 .exact h x h1
 .subst h1;exact hu
theorem fQ.with{w:List Int}(h:fQ w)(m:Nat):fQ (uu w m):=h.set (PY _ _)
theorem fQ.less{w:List Int}(h:fQ w)(m:Nat):fQ (G8 w m):=h.set (XV _ _)
theorem fQ.Dh{w:List Int}(h:fQ w)(n:Int):fQ (Dh w n):=by
 unfold Argus.Dh;split
 .exact h.less _
 .exact h
theorem fQ.wk{w v:List Int}(h:fQ w):∀ k,fQ (wk w v k)
 |0=>h
 |k+1=>(fQ.wk h k).set (PY _ _)
theorem PX{w v:List Int}(h:fQ w)(hv:fQ v)(hl:w.length=v.length)(he:∀ r,eb w r=eb v r):w=v:=by
 apply List.ext_getElem hl;intro i h1 h2;have C:w.getD i 0=w[i]:=by simp[eg,bB h1]
 have e2:v.getD i 0=v[i]:=by simp[eg,bB h2]
 have a:=h w[i] oS;have b:=hv v[i] oS
 have:w[i].toNat=v[i].toNat:=Nat.eq_of_testBit_eq fun k=>by
  by_cases hk:k<64
  .have:=he (i*64+k);unfold eb at this;rw[show(i*64+k) / 64=i by omega,show(i*64+k) % 64=k by omega,C,e2] at this;exact this
  .have h2:2 ^ 64<=2 ^ k:=Nat.pow_le_pow_right oG oG;unfold dW at a b;rw[Nat.testBit_lt_two_pow oG,Nat.testBit_lt_two_pow oG]
 unfold dW at a b;omega
theorem aaR(n r:Nat):eb (replicate n 0) r=false:=by
 unfold eb;rw[eg,List.getElem?_replicate];split<;>simp
end Go.Argus
section
open Go Go.Abs Go.Proofs Go.Argus
namespace Go.Argus
def b9(f:bd)(h:D):List D:=[S f.name,B f.iter,I f.args,U8 f.result,mY f.ag,mY f.aU,qO f.signals,gl f.blocks,h]
@[simp] theorem akC (f : bd) (h : D) : (b9 f h).length = 9 := rfl
theorem ux{h:D}(ht:Tr h)(f:bd):∀ d∈b9 f h,Tr d:=.cons (.s _) (.cons (.s _) (.cons (.s _) (.cons (.s _) (.cons (si _) (.cons (si _) (.cons (xP _) (.cons (Jk _) (.cons ht .nil))))))))
def bw(f:bd)(r k:Int):Bool:=if k=119 then cB f.ag r==1 else if k=114 then cB f.ag r==2 else if k=105 then cB f.ag r==3 else eA f.ag r
theorem FK{s:ByteArray}{k:Nat}(h:k<s.size):((s.data.toList.getD (k:Int).toNat 0).toNat:Int)∈cW s/\(cW s)[k]? =some ((s.data.toList.getD (k:Int).toNat 0).toNat:Int):=by
 have h1:k<s.data.toList.length:=by simpa using h
 have h2:(cW s)[k]? =some ((s.data.toList.getD (k:Int).toNat 0).toNat:Int):=by
  simp[cW,bB h1,eg]
 exact⟨cX h2,h2⟩
def kx(f:bd)(a b:Int):Bool:=eA f.ag a&&(eA f.ag b&&cB f.ag a==cB f.ag b)
def yB(y:bS)(d:D):List D:=[U8 y.op,I y.to,I y.a,I y.b,I y.n,d]
theorem TY:Tr .z:=fun F β w v h=>by
 rw[h.yM];exact .z
def tc(d:D)(l:List Int):Prop:=d=aX l\/d=.z/\l=[]
theorem abF{d:D}{l:List Int}(h:tc d l):Tr d:=by
 rcases h with rfl|⟨rfl,_⟩
 .exact ew _
 .exact TY
theorem aam{y:bS}{d:D}(h:tc d y.args):∀ a∈yB y d,Tr a:=.cons (.s _) (.cons (.s _) (.cons (.s _) (.cons (.s _) (.cons (.s _) (.cons (abF h) .nil)))))
theorem aan{y:bS}{d:D}(h:tc d y.args):(yB y d).all D.one=true:=by
 rcases h with rfl|⟨rfl,_⟩<;>rfl
def T0(y:End)(C J:D):List D:=[U8 y.kind,I y.a,I y.b,I y.to,I y.gP,S y.name,U8 y.ins.op,I y.ins.to,I y.ins.a,I y.ins.b,I y.ins.n,C,J,pX y.aJ,I y.others]
end Go.Argus
namespace Go.Proofs.Tryz.K
theorem gQ{n a b:Int}:ax prog 82 [I n,I a,I b] (B (c8 n a b)):=by
 refine bP ahv (.cons (.s _) (.cons (.s _) (.cons (.s _) .nil))) (Tr.s _) ?_;rw[ahw];refine ws ?_;refine SS ?_;refine er ?_;refine SN9 ?_;refine ab (ap (d:=.s (.bool _)) rfl ?_);unfold c8;by_cases h:a<=n<;>simp[h]
theorem yT{s:ByteArray}(hs:s.size<=maxLen):ax prog 223 [S s] (B (lu s)):=by
 unfold maxLen at hs;refine bP aeZ (.cons (.s _) .nil) (Tr.s _) ?_;rw[ae0];refine ws ?_;refine SS ?_;refine ab (aV (aE ?_));refine SS ?_
 refine ab (dA (fun st=>aR prog st ⟨aH [(0,S s)],fun _=>none,0⟩/\∀ (j:Nat) y,(cW s)[j]? =some y->sk y=false) (eX (α:=Nat) (fun k=>⟨aH [(0,S s),(3,I k)],fun _=>none,0⟩)
  (fun k=>k<=s.size/\∀ j y,j<k->(cW s)[j]? =some y->sk y=false) (fun k=>s.size - k) 0 (aq eH) ⟨oG,fun j y hj=>by omega⟩ ?_) ?_)
 .rintro k ⟨hk,hinv⟩;refine a7 ?_;refine ab ⟨_,rfl,fun h=>?_,fun h=>?_⟩
  .have aj:k<s.size:=by simpa using h
   obtain⟨hm,hx⟩:=FK aj;generalize hz:s.data.toList.getD (k:Int).toNat 0=z at hm hx;refine ws ?_;refine cT ?_;refine af ?_;refine ab (yC rfl (fun hp=>?_) fun hp=>?_)
   .refine ws ?_;refine SS ?_;refine ab (bh (dp (aY (ap (d:=B false) rfl ?_))));have h1:(cW s).any sk=true:=List.any_eq_true.2 ⟨_,hm,by rw[hz] at hp;revert hp;simp[sk]⟩;unfold lu;rw[h1];simp
   .refine eC ?_;refine aB ?_;refine ab (bD (k+1) (aq eH) ⟨oG,fun j y hj hy=>?_⟩ oG);by_cases e:j=k
    .subst e;rw[hx] at hy;cases hy;rw[hz] at hp;revert hp;simp[sk]
    .exact hinv j y oG hy
  .have J:¬ k<s.size:=by simpa using h
   exact⟨aq eH,fun j y hy=>hinv j y (by have:=(bZ.1 hy).1;simp[cW] at this;omega) hy⟩
 .rintro st ⟨hg,C⟩;refine⟨_,hg,al ?_⟩;have gQ:=gQ (n:=s.size) (a:=1) (b:=120);refine af ?_;refine cl gQ ?_;refine SS ?_;refine ab (ap (d:=.s (.bool _)) rfl ?_)
  have h1:(cW s).any sk=false:=List.any_eq_false.2 fun x hx=>by
   obtain⟨j,hj⟩:=dY hx;rw[C j x hj];simp
  unfold lu;rw[h1];simp
theorem nG{s:ByteArray}(hs:s.size<=maxLen):ax prog 224 [S s] (B (isName s)):=by
 unfold maxLen at hs;refine bP ae1 (.cons (.s _) .nil) (Tr.s _) ?_;rw[ae2];refine ws ?_;refine SS ?_;refine ab (aV (aE ?_));refine SS ?_
 refine ab (dA (fun st=>aR prog st ⟨aH [(0,S s)],fun _=>none,0⟩/\∀ (j:Nat) y,(cW s)[j]? =some y->sr y=false) (eX (α:=Nat) (fun k=>⟨aH [(0,S s),(3,I k)],fun _=>none,0⟩)
  (fun k=>k<=s.size/\∀ j y,j<k->(cW s)[j]? =some y->sr y=false) (fun k=>s.size - k) 0 (aq eH) ⟨oG,fun j y hj=>by omega⟩ ?_) ?_)
 .rintro k ⟨hk,hinv⟩;refine a7 ?_;refine ab ⟨_,rfl,fun h=>?_,fun h=>?_⟩
  .have aj:k<s.size:=by simpa using h
   obtain⟨hm,hx⟩:=FK aj;generalize hz:s.data.toList.getD (k:Int).toNat 0=z at hm hx;refine ws ?_;refine SN9 ?_;refine SN9 ?_;refine a7 ?_;refine ab (yC rfl (fun hp=>?_) fun hp=>?_)
   .refine ws ?_;refine SS ?_;refine ab (bh (dp (aY (ap (d:=B false) rfl ?_))));have h1:(cW s).any sr=true:=List.any_eq_true.2 ⟨_,hm,by rw[hz] at hp;revert hp;simp[sr]⟩;unfold isName;rw[h1];simp
   .refine eC ?_;refine aB ?_;refine ab (bD (k+1) (aq eH) ⟨oG,fun j y hj hy=>?_⟩ oG);by_cases e:j=k
    .subst e;rw[hx] at hy;cases hy;rw[hz] at hp;revert hp;simp[sr]
    .exact hinv j y oG hy
  .have J:¬ k<s.size:=by simpa using h
   exact⟨aq eH,fun j y hy=>hinv j y (by have:=(bZ.1 hy).1;simp[cW] at this;omega) hy⟩
 .rintro st ⟨hg,C⟩;refine⟨_,hg,al ?_⟩;have gQ:=gQ (n:=s.size) (a:=1) (b:=12);refine af ?_;refine cl gQ ?_;refine SS ?_;refine ab (ap (d:=.s (.bool _)) rfl ?_)
  have h1:(cW s).any sr=false:=List.any_eq_false.2 fun x hx=>by
   obtain⟨j,hj⟩:=dY hx;rw[C j x hj];simp
  unfold isName;rw[h1];simp
theorem ur{f:bd}{hd:D}(h:hd.one=true):(b9 f hd).all D.one=true:=by
 simp only[b9,List.all_cons,List.all_nil,h,Bool.and_true];rfl
section
variable{f:bd}{hd:D}(ht:Tr hd)(cK:hd.one=true)
include ht cK
theorem gY{b:Int}(hn:f.blocks.length<=1200):ax prog 150 [.agg (b9 f hd),I b] (B (ct f b)):=by
 refine bP ae3 (.cons (.agg (ux ht f)) (.cons (.s _) .nil)) (Tr.s _) ?_;rw[ae4];refine aE ?_;refine af ?_;refine ab (bj (cr [(0,b9 f hd,206)] eH (l:=[(1,I b),(2,.pt (b9 f hd))]) eH) (al ?_));have gQ:=gQ (n:=b) (a:=0) (b:=(f.blocks.length:Int) - 1);refine cY ?_;refine cl gQ ?_;refine SS ?_;exact ab (ap rfl rfl)
theorem bV{r k:Int}:ax prog 226 [.agg (b9 f hd),I r,U8 k] (B (bw f r k)):=by
 refine bP ae5 (.cons (.agg (ux ht f)) (.cons (.s _) (.cons (.s _) .nil))) (Tr.s _) ?_;rw[ae6];refine aE ?_;refine af ?_;refine ab (bj (cr [(0,b9 f hd,206)] eH (l:=[(1,I r),(2,U8 k),(3,.pt (b9 f hd))]) eH) (aV (al ?_)));refine cT ?_;refine bQ rfl rfl (Lb rfl rfl) (fun hc=>⟨ak,rfl⟩) ?_;refine SS ?_;refine ab (dI rfl (fun h=>?_) fun h=>dL (al ?_))
 .refine aV (al ?_);refine SS ?_;refine ab (fN (ap (d:=.s (.bool _)) rfl ?_))
  have h0:cB f.ag r=0:=Jh fun hh=>by
   by_cases h1:r<0<;>simp[h1] at h<;>omega
  simp[bw,eA,h0]
 .have hr:0<=r/\r<f.ag.length:=by
   by_cases h1:r<0<;>simp[h1] at h;omega
  obtain⟨n,rfl⟩:=ic hr.1;have hx:f.ag[n]? =some f.ag[n]:=bB oG;have hk:=ss hx;have hi:bw f n k=if k=119 then f.ag[n]==1 else if k=114 then f.ag[n]==2 else if k=105 then f.ag[n]==3 else f.ag[n]==1||f.ag[n]==2:=by simp only[bw,eA,hk]
  rw[hi];generalize f.ag[n]=v at hx;clear h hi hk;refine fS ?_;refine ab (aV (al ?_));refine SS ?_;refine ab (mW (al ?_));refine af ?_;refine ab (yC rfl (fun h0=>?_) fun h0=>?_)
  .have h0:k=119:=by simpa using h0
   refine ws ?_;refine aB ?_;refine ab (bh (bR (aY (ap (d:=.s (.bool _)) rfl ?_))));simp[h0]
  have h0:¬ k=119:=by simpa using h0
  refine ws ?_;refine af ?_;refine ab (yC rfl (fun h1=>?_) fun h1=>?_)
  .have h1:k=114:=by simpa using h1
   refine ws ?_;refine aB ?_;refine ab (bh (bR (aY (ap (d:=.s (.bool _)) rfl ?_))));simp[h1]
  have h1:¬ k=114:=by simpa using h1
  refine ws ?_;refine af ?_;refine ab (yC rfl (fun h2=>?_) fun h2=>?_)
  .have h2:k=105:=by simpa using h2
   refine ws ?_;refine aB ?_;refine ab (bh (bR (aY (ap (d:=.s (.bool _)) rfl ?_))));simp[h2]
  have h2:¬ k=105:=by simpa using h2
  refine mB (al ?_);refine fS ?_;refine ab (ap (d:=.s (.bool _)) rfl ?_);rw[if_neg h0,if_neg h1,if_neg h2];by_cases C:v=1<;>simp[C]
end
section
variable{f:bd}{hd:D}(ht:Tr hd)(cK:hd.one=true)
include ht cK
theorem yU{a b:Int}:ax prog 227 [.agg (b9 f hd),I a,I b] (B (kx f a b)):=by
 have hi:∀ r,bw f r 118=eA f.ag r:=fun r=>rfl;have C:=bV (f:=f) ht cK (r:=a) (k:=118);have J:=bV (f:=f) ht cK (r:=b) (k:=118);rw[hi] at C J;refine bP ae7 (.cons (.agg (ux ht f)) (.cons (.s _) (.cons (.s _) .nil))) (Tr.s _) ?_;rw[ae8];refine aE ?_;refine af ?_;refine ab (bj (cr [(0,b9 f hd,206)] eH (l:=[(1,I a),(2,I b),(3,.pt (b9 f hd))]) eH) (eF YO ?_))
 have U:∀ r,eA f.ag r=true->∃ (n:Nat) (x:Int),r=n/\f.ag[n]? =some x/\cB f.ag r=x:=fun r h=>by
  obtain⟨h1,h2⟩:=nW h;obtain⟨n,rfl⟩:=ic h1;have hx:f.ag[n]? =some f.ag[n]:=bB oG;exact⟨n,_,rfl,hx,ss hx⟩
 unfold kx;cases M:eA f.ag a with
 |false=>
  rw[M] at C;have bV:=C;refine af ?_;refine cl bV ?_;refine SS ?_;refine z fun _ _=>?_;have bV:=J
  (iterate 2 refine z fun _ _=>?_);refine af ?_;(iterate 13 refine z fun _ _=>?_);refine af ?_
  exact bX bY (ap rfl rfl)
 |true=>
  rw[M] at C;cases O:eA f.ag b with
  |false=>
   rw[O] at J;have bV:=C;refine af ?_;refine cl bV ?_;refine af ?_;have bV:=J;refine SS ?_;refine gc bV ?_;refine af ?_;(iterate 13 refine z fun _ _=>?_);refine af ?_;exact bX bY (ap rfl rfl)
  |true=>
   rw[O] at J;obtain⟨n,x,rfl,hx,X⟩:=U a M;obtain⟨m,y,rfl,hy,e2⟩:=U b O;rw[X,e2];have bV:=C;refine af ?_;refine cl bV ?_;refine af ?_;have bV:=J;refine SS ?_;refine gc bV ?_;refine SN9 ?_;refine cT ?_;exact bX bY (ap rfl rfl)
theorem ta{l:List Int}:ax prog 228 [.agg (b9 f hd),aX l] (B (gz f.ag l)):=by
 have C:∀ a∈[D.agg (b9 f hd),aX l],Tr a:=.cons (.agg (ux ht f)) (.cons (ew _) .nil);refine qH TX.he C fun M=>?_;have hlen:=(M (aX l) oS).sl.1;unfold maxLen at hlen;refine bP TX C (Tr.s _) ?_;rw[ae9];refine aE ?_;refine af ?_;refine ab (bj (cr [(0,b9 f hd,206)] eH (l:=[(1,aX l),(2,.pt (b9 f hd))]) eH) (aV (aE ?_)));refine SS ?_
 refine ab (dA (fun s=>aR prog s ⟨aH [],fun _=>none,1⟩/\∀ (j:Nat) y,l[j]? =some y->eA f.ag y=true) (eX (α:=Nat) (fun k=>⟨aH [(1,aX l),(2,.pt (b9 f hd)),(5,I k)],fun _=>none,1⟩)
  (fun k=>k<=l.length/\∀ j y,j<k->l[j]? =some y->eA f.ag y=true) (fun k=>l.length - k) 0 (aq eH) ⟨oG,fun j y hj=>by omega⟩ ?_) ?_)
 .rintro k ⟨hk,hinv⟩;refine a7 ?_;refine ab ⟨_,rfl,fun h=>?_,fun h=>?_⟩
  .have aj:k<l.length:=by simpa using h
   have hx:l[k]? =some l[k]:=by simp[aj]
   generalize l[k]=x at hx;have bV:ax prog 226 [.agg (b9 f hd),I x,U8 118] (B (eA f.ag x)):=bV (f:=f) ht cK (r:=x) (k:=118);refine eF YP ?_;refine bH ?_;refine cl bV ?_;refine SS ?_;refine bX bY (al ?_);refine af ?_;refine ab (yC rfl (fun hp=>?_) fun hp=>?_)
   .refine ws ?_;refine SS ?_;refine ab (bh (dp (aY (ap (d:=B false) rfl ?_))));have:gz f.ag l=false:=List.all_eq_false.2 ⟨x,cX hx,by simpa using hp⟩;rw[this]
   .refine eC ?_;refine aB ?_;refine ab (bD (k+1) (aq eH) ⟨oG,fun j y hj hy=>?_⟩ oG);by_cases e:j=k
    .subst e;rw[hx] at hy;cases hy;simpa using hp
    .exact hinv j y oG hy
  .have O:¬ k<l.length:=by simpa using h
   exact⟨.forget _ _ _ _ fun _=>.inr rfl,fun j y hy=>hinv j y (by have:=(bZ.1 hy).1;omega) hy⟩
 .rintro s ⟨hg,J⟩;refine⟨_,hg,al ?_⟩;refine SS ?_;refine ab (ap (d:=B true) rfl ?_)
  have:gz f.ag l=true:=b7.2 fun x hx=>by
   obtain⟨j,hj⟩:=dY hx;exact J j x hj
  rw[this]
theorem Hu{n r:Int}(hl:f.aU.length<=60)(hs:∀ k∈f.aU,k=1\/k=2):ax prog 229 [.agg (b9 f hd),I n,I r] (B (lT f.ag f.aU r n)):=by
 have gQ:=gQ (n:=n) (a:=0) (b:=(f.aU.length:Int) - 1);have U:ax prog 226 [.agg (b9 f hd),I r,U8 118] (B (eA f.ag r)):=bV (f:=f) ht cK (r:=r) (k:=118);refine bP ae' (.cons (.agg (ux ht f)) (.cons (.s _) (.cons (.s _) .nil))) (Tr.s _) ?_;rw[afa];refine aE ?_;refine af ?_;refine ab (bj (cr [(0,b9 f hd,206)] eH (l:=[(1,I n),(2,I r),(3,.pt (b9 f hd))]) eH) (eF YQ ?_));unfold lT;have bV:=U;cases C:c8 n 0 (f.aU.length - 1) with
 |false=>
  rw[C] at gQ;refine cY ?_;refine cl gQ ?_;refine SS ?_;(iterate 3 refine z fun _ _=>?_);refine af ?_;(iterate 13 refine z fun _ _=>?_);refine af ?_;exact bX bY (ap rfl rfl)
 |true=>
  rw[C] at gQ;have h0:=kH.1 C;obtain⟨m,rfl⟩:=ic h0.1;have hx:f.aU[m]? =some f.aU[m]:=bB oG;have O:=ss hx;have M:=hs _ (cX hx);rw[O];generalize f.aU[m]=x at hx M;cases hv:eA f.ag r with
  |false=>
   rw[hv] at bV;refine cY ?_;refine cl gQ ?_;refine aB ?_;refine gc bV ?_;refine af ?_;(iterate 13 refine z fun _ _=>?_);refine af ?_;refine bX bY (ap (d:=.s (.bool _)) rfl ?_)
   have:(cB f.ag r==x)=false:=by
    unfold eA at hv;rcases M with rfl|rfl<;>simp at hv ⊢<;>simp[hv]
   rw[this];rfl
  |true=>
   rw[hv] at bV;obtain⟨h1,h2⟩:=nW hv;obtain⟨i,rfl⟩:=ic h1;have hy:f.ag[i]? =some f.ag[i]:=bB oG;have J:=ss hy;rw[J];generalize f.ag[i]=y at hy;refine cY ?_;refine cl gQ ?_;refine aB ?_;refine gc bV ?_;refine SN9 ?_;refine cT ?_;refine bX bY (ap (d:=.s (.bool _)) rfl ?_);show B (x==y)=B (y==x);rw[Bool.beq_comm]
end
end Go.Proofs.Tryz.K
namespace Go.Argus
open Go.Proofs.Tryz.K (nextR)
def jQ:List Int->Int->List Int
 |[],n=>[n]
 |x::l,n=>if x<n then x::jQ l n else if x=n then x::l else n::x::l
theorem SU{n:Int}:∀ {l:List Int} {k:Nat},k<=l.length->(∀ j y,j<k->l[j]? =some y->y<n)->(∀ y,l[k]? =some y->¬ y<n)->
 jQ l n=if l[k]? =some n then l else l.take k++n::l.drop k
 |[],k,hk,_,_=>by
  have:k=0:=by simpa using hk
  subst this;simp[jQ]
 |x::l,0,_,_,h=>by
  have h0:¬ x<n:=h x rfl;by_cases e:x=n
  .subst e;simp[jQ]
  .simp[jQ,h0,e]
 |x::l,k+1,hk,h1,h2=>by
  have h0:x<n:=h1 0 x oG rfl;have ih:=SU (n:=n) (l:=l) (k:=k) (by simpa using hk) (fun j y hj hy=>h1 (j+1) y oG (by simpa using hy)) (fun y hy=>h2 y (by simpa using hy));simp only[jQ,if_pos h0,ih,List.getElem?_cons_succ];split<;>simp
theorem JN{n x:Int}:∀ {l:List Int},x∈jQ l n↔x∈l\/x=n
 |[]=>by simp[jQ]
 |y::l=>by
  unfold jQ;split
  .rw[List.mem_cons,JN (l:=l),List.mem_cons];exact or_assoc.symm
  .split
   .rename_i e;subst e;simp only[List.mem_cons];constructor
    .exact .inl
    .rintro(h|h)
     .exact h
     .exact .inl h
   .simp only[List.mem_cons];constructor
    .rintro(h|h)
     .exact .inr h
     .exact .inl h
    .rintro(h|h)
     .exact .inr h
     .exact .inl h
theorem QM{n:Int}:∀ {l:List Int},l.Pairwise (·<·)->(jQ l n).Pairwise (·<·)
 |[],_=>by simp[jQ]
 |y::l,h=>by
  rw[List.pairwise_cons] at h;unfold jQ;split
  .rename_i hy;refine List.pairwise_cons.2 ⟨fun z hz=>?_,QM h.2⟩;rcases JN.1 hz with hz|rfl
   .exact h.1 z hz
   .exact hy
  .split
   .exact List.pairwise_cons.2 h
   .refine List.pairwise_cons.2 ⟨fun z hz=>?_,List.pairwise_cons.2 h⟩;rcases List.mem_cons.1 hz with rfl|hz
    .omega
    .have:=h.1 z hz;omega
theorem QN{n:Int}:∀ {l:List Int},(jQ l n).length<=l.length+1
 |[]=>by simp[jQ]
 |y::l=>by
  have:=QN (n:=n) (l:=l);unfold jQ;split
  .simp;omega
  .split<;>simp
def ra(l:List Int):List Int:=l.foldl jQ []
theorem Ca:∀ {l z:List Int},z.Pairwise (·<·)->(l.foldl jQ z).Pairwise (·<·)/\(∀ x,x∈l.foldl jQ z↔x∈z\/x∈l)/\(l.foldl jQ z).length<=z.length+l.length
 |[],z,h=>⟨h,fun x=>by simp,oS⟩
 |y::l,z,h=>by
  obtain⟨h1,h2,C⟩:=Ca (l:=l) (QM (n:=y) h);have:=QN (n:=y) (l:=z);refine⟨h1,fun x=>?_,by simp only[List.length_cons,List.foldl_cons];omega⟩;rw[List.foldl_cons,h2,JN,List.mem_cons,or_assoc]
theorem RQ:∀ {l z:List Int},l.Pairwise (·<·)->z.Pairwise (·<·)->(∀ x,x∈l↔x∈z)->l=z
 |[],[],_,_,_=>rfl
 |[],y::z,_,_,h=>by have:=(h y).2 oS;simp at this
 |y::l,[],_,_,h=>by have:=(h y).1 oS;simp at this
 |x::l,y::z,hl,hz,h=>by
  rw[List.pairwise_cons] at hl hz
  have e:x=y:=by
   have h1:=(h x).1 oS;have h2:=(h y).2 oS;rcases List.mem_cons.1 h1 with h1|h1
   .exact h1
   .rcases List.mem_cons.1 h2 with h2|h2
    .exact h2.symm
    .have:=hl.1 y h2;have:=hz.1 x h1;omega
  subst e;rw[RQ hl.2 hz.2 fun w=>⟨fun C=>?_,fun C=>?_⟩]
  .rcases List.mem_cons.1 ((h w).1 (by simp[C])) with e|e
   .have:=hl.1 w C;omega
   .exact e
  .rcases List.mem_cons.1 ((h w).2 (by simp[C])) with e|e
   .have:=hz.1 w C;omega
   .exact e
def o9(x:End):List Int:=ra (eO x)
theorem PH{x:End}{t:Int}:t∈o9 x↔t∈eO x:=by
 unfold o9 ra;rw[(Ca (l:=eO x) (z:=[]) .nil).2.1];simp
theorem YT(x:End):(o9 x).length<=x.aJ.length+3:=by
 have:=(Ca (l:=eO x) (z:=[]) .nil).2.2;have:=Fg x;unfold o9 ra;simp at*;omega
def Cs(bs:List cE)(L:Nat->List Int)(b:Nat):Nat->List Int:=match bs[b]? with
 |none=>L
 |some x=>(o9 x.fin).foldl (fw b) L
def lx(bs:List cE)(k:Nat):Nat->List Int:=(range k).foldl (Cs bs) fun _=>[]
def jP(x:bS)(c:Int):bS:=if c=116 then { x with to:=0 } else if c=97 then { x with a:=0 } else if c=98 then { x with b:=0 } else if c=110 then { x with n:=0 } else if c=108 then { x with args:=[] } else x
def kO(x:bS):Bool:=aL x.to 0&&(aL x.a 0&&(aL x.b 0&&(aL x.n 0&&jI x)))
def b8(x:bS)(fs:List Int):Bool:=kO (fs.foldl jP x)
def kW(f:bd)(x:bS):Bool:=
 if aI [30,31,32,33,34] x.op then b8 x [116,97,98]&&(bw f x.to 119&&(bw f x.a 119&&bw f x.b 119))
 else if x.op=35 then b8 x [97,98]&&(bw f x.a 114&&bw f x.b 118)
 else if x.op=36 then b8 x [116,97]&&(bw f x.to 118&&bw f x.a 114)
 else if x.op=37 then b8 x [116,97,98]&&(bw f x.to 118&&(bw f x.a 114&&bw f x.b 119))
 else if x.op=38 then b8 x [97,98,108]&&(bw f x.a 114&&(bw f x.b 119&&(aL x.args.length 1&&gz f.ag x.args)))
 else false
def dM(f:bd)(b C:Int)(x:bS):Bool:=
 if x.op=1 then b8 x [116,110]&&(bw f x.to 119&&c8 x.n (-1000000000) 1000000000)
 else if x.op=2 then b8 x [116,97]&&kx f x.to x.a
 else if aI [3,4,6,7] x.op then b8 x [116,97,98]&&(bw f x.to 119&&(bw f x.a 119&&bw f x.b 119))
 else if x.op=5 then b8 x [116,97,98]&&(bw f x.to 119&&kx f x.a x.b)
 else if x.op=8 then b8 x [116,97]&&(bw f x.to 119&&bw f x.a 119)
 else if x.op=9 then b8 x [116,110]&&(bw f x.to 114&&c8 x.n 0 1)
 else if x.op=10 then b8 x [116,110,108]&&(bw f x.to 114&&(c8 x.n 0 5&&(c8 x.args.length 1 6&&gz f.ag x.args)))
 else if x.op=11 then b8 x [116,97,110]&&(bw f x.to 118&&(bw f x.a 114&&c8 x.n 0 5))
 else if x.op=12 then b8 x [97,98,110]&&(bw f x.a 114&&(bw f x.b 118&&c8 x.n 0 5))
 else if aI [13,14] x.op then b8 x [116,97]&&(bw f x.to 119&&bw f x.a 114)
 else if x.op=15 then b8 x [97]&&bw f x.a 119
 else if x.op=16 then b8 x [97]&&bw f x.a 105
 else if x.op=17 then b8 x [116,110]&&lT f.ag f.aU x.to x.n
 else if x.op=18 then b8 x [97,110]&&lT f.ag f.aU x.a x.n
 else if x.op=19 then !aL b 0&&(b8 x [116,108]&&(bw f x.to 118&&(aL x.args.length C&&x.args.all (kx f x.to))))
 else false
def gI(x:End)(c:Int):End:=
 if c=97 then { x with a:=0 } else if c=98 then { x with b:=0 } else if c=116 then { x with to:=0 } else if c=101 then { x with gP:=0 }
 else if c=110 then { x with name:=.empty } else if c=105 then { x with ins:=ez } else if c=108 then { x with args:=[] } else x
def o8(x:End):Bool:=aL x.a 0&&(aL x.b 0&&(aL x.to 0&&(aL x.gP 0&&(x.name.toList==[]&&(aL x.args.length 0&&(aL x.ins.op 0&&kO x.ins))))))
def dK(x:End)(fs:List Int):Bool:=(fs.any (·==104)||(aL x.aJ.length 0&&aL x.others (-1)))&&o8 (fs.foldl gI x)
def gJ(f:bd)(x:End):Bool:=
 if x.kind=1 then dK x [116]&&ct f x.to
 else if x.kind=2 then dK x [97,116,101]&&(bw f x.a 119&&(ct f x.to&&ct f x.gP))
 else if x.kind=3 then(if f.iter=true\/f.result=0 then dK x [97]&&aL x.a (-1) else dK x [97]&&(bw f x.a 118&&aL (cB f.ag x.a) f.result))
 else if x.kind=4 then dK x [110]&&isName x.name
 else if x.kind=5 then dK x [116,105,104]&&(kW f x.ins&&(ct f x.to&&mw f x))
 else if x.kind=6 then dK x [97,116,110,108,104]&&(lu x.name&&(decide ((x.args.length:Int)<=6)&&(gz f.ag x.args&&((aL x.a (-1)||bw f x.a 118)&&(ct f x.to&&mw f x)))))
 else if x.kind=7 then dK x [97,116,110,108]&&(lu x.name&&(decide ((x.args.length:Int)<=6)&&(gz f.ag x.args&&(bw f x.a 105&&ct f x.to))))
 else if x.kind=8 then dK x [97,98,116,101,104]&&(bw f x.a 105&&(bw f x.b 118&&(ct f x.to&&(ct f x.gP&&mw f x))))
 else if x.kind=9 then dK x [97,116]&&(f.iter&&(bw f x.a 118&&(aL (cB f.ag x.a) f.result&&ct f x.to)))
 else false
theorem sQ(f:bd)(r:Int):bw f r 119=aL (cB f.ag r) 1:=rfl
theorem yD(f:bd)(r:Int):bw f r 114=aL (cB f.ag r) 2:=rfl
theorem Dg(f:bd)(r:Int):bw f r 105=aL (cB f.ag r) 3:=rfl
theorem rj(f:bd)(r:Int):bw f r 118=eA f.ag r:=rfl
theorem XU{f:bd}{r n:Int}(hs:∀ k∈f.aU,k=1\/k=2)(h:lT f.ag f.aU r n=true):eA f.ag r=true:=by
 unfold lT at h;rw[ay,kH] at h;obtain⟨⟨h1,h2⟩,C⟩:=h;obtain⟨k,rfl⟩:=ic h1;have hk:k<f.aU.length:=by omega
 rw[ss (bB hk)] at C;have C:cB f.ag r=f.aU[k]:=by simpa using C
 have:=hs _ (df hk);unfold eA;rw[C];rcases this with e|e<;>simp[e]
theorem abT(f:bd)(x:bS):kW f x=((fV jH x.op).isSome&&oZ f.ag x ((fV jH x.op).getD xQ)):=by
 obtain⟨op,to,a,b,n,args⟩:=x;unfold kW;dsimp only;by_cases h0:op=30\/op=31\/op=32\/op=33\/op=34
 .rcases h0 with rfl|rfl|rfl|rfl|rfl<;>
   (simp[aI,fV,jH,List.find?,oZ,lQ,pZ,pU,b8,jP,kO,sQ,aL,jI,c8];grind)
 by_cases C:op=35
 .subst C;simp[aI,fV,jH,List.find?,oZ,lQ,pZ,pU,b8,jP,kO,sQ,yD,rj,aL,jI,c8];grind
 by_cases J:op=36
 .subst J;simp[aI,fV,jH,List.find?,oZ,lQ,pZ,pU,b8,jP,kO,sQ,yD,rj,aL,jI,c8];grind
 by_cases M:op=37
 .subst M;simp[aI,fV,jH,List.find?,oZ,lQ,pZ,pU,b8,jP,kO,sQ,yD,rj,aL,jI,c8];grind
 by_cases O:op=38
 .subst O;simp[aI,fV,jH,List.find?,oZ,lQ,pZ,pU,b8,jP,kO,sQ,yD,rj,aL,jI,c8];grind
 have hn:fV jH op=none:=by
  simp only[fV,jH,Option.map_eq_none_iff,List.find?_eq_none];simp;omega
 rw[hn,if_neg (by simp[aI];omega),if_neg C,if_neg J,if_neg M,if_neg O];rfl
theorem abU(f:bd)(to:Int)(l:List Int)(h:eA f.ag to=true):l.all (kx f to)= !l.any fun r=> !aL (cB f.ag r) (cB f.ag to):=by
 have hk:cB f.ag to=1\/cB f.ag to=2:=by simpa[eA] using h
 rw[List.not_any_eq_all_not];congr 1;funext r;simp only[kx,h,Bool.true_and,aL,Bool.not_not,eA];grind
theorem RT{f:bd}{b U:Nat}{x:bS}(hs:∀ k∈f.aU,k=1\/k=2):dM f b U x=jk f b x true U:=by
 have X:= @XU f;obtain⟨op,to,a,b',n,args⟩:=x;unfold dM jk;dsimp only;by_cases O:op=16
 .subst O;simp[aI,b8,jP,kO,Dg,aL,jI];grind
 by_cases M:op=17
 .subst M;simp[aI,b8,jP,kO,aL,jI];grind
 by_cases C:op=18
 .subst C;simp[aI,b8,jP,kO,aL,jI];grind
 by_cases J:op=19
 .subst J;cases hv:eA f.ag to with
  |false=>simp[aI,rj,hv]
  |true=>
   rw[abU f to args hv]
   have hb:decide (0<(b:Int))= !decide ((b:Int)=0):=by
    by_cases h:b=0<;>simp[h];omega
   simp[aI,rj,hv,hb,b8,jP,kO,aL,jI];grind
 rw[if_neg O,if_neg M,if_neg C,if_neg J,if_neg O,if_neg M,if_neg C,if_neg J];by_cases hm:op∈[1,2,3,4,5,6,7,8,9,10,11,12,13,14,15]
 .simp only[List.mem_cons,List.not_mem_nil,or_false] at hm
  rcases hm with rfl|rfl|rfl|rfl|rfl|rfl|rfl|rfl|rfl|rfl|rfl|rfl|rfl|rfl|rfl<;>
   (simp[aI,fV,oa,List.find?,oZ,lQ,pZ,pU,b8,jP,kO,sQ,yD,rj,aL,jI,c8,kx,eA];grind)
 .have hn:fV oa op=none:=by
   simp only[fV,oa,Option.map_eq_none_iff,List.find?_eq_none];simp at hm ⊢;omega
  simp only[List.mem_cons,List.not_mem_nil,or_false,not_or] at hm;rw[hn];simp[aI];grind
theorem Km{f:bd}{x:End}(hr:pY f=true):gJ f x=jG f x:=by
 have ht:=abT f x.ins
 have me:(f.result=1\/f.result=2)\/f.result=0/\f.iter=false:=by
  simp[pY] at hr;grind
 obtain⟨kind,a,b,to,gP,name,ins,args,aJ,others⟩:=x;dsimp only at ht;have hz:∀ y:bS,CL y=(aL y.op 0&&kO y):=fun y=>by simp[CL,kO,aL,jI]
 have h0:kO ez=true:=rfl;have he:ByteArray.toList .empty=[]:=by simp
 unfold gJ jG gf yA;simp only[hz];by_cases h1:kind=1
 .subst h1;simp[dK,gI,o8,aL];grind
 by_cases h2:kind=2
 .subst h2;simp[dK,gI,o8,aL,sQ];grind
 by_cases C:kind=3
 .subst C;simp[dK,gI,o8,aL,rj,eA];grind
 by_cases J:kind=4
 .subst J;simp[dK,gI,o8,aL];grind
 by_cases M:kind=5
 .subst M;simp[dK,gI,o8,aL,ht,h0,ez];grind
 by_cases O:kind=6
 .subst O;simp[dK,gI,o8,aL,rj,he];grind
 by_cases U:kind=7
 .subst U;simp[dK,gI,o8,aL,Dg,he];grind
 by_cases X:kind=8
 .subst X;simp[dK,gI,o8,aL,Dg,rj];grind
 by_cases h9:kind=9
 .subst h9;simp[dK,gI,o8,aL,rj,eA];grind
 simp[h1,h2,C,J,M,O,U,X,h9]
end Go.Argus
namespace Go.Proofs.Tryz.K
theorem TZ{x:bS}{d0:D}{s:ByteArray}(U:tc d0 x.args)(hs:s.size<=8):ax prog 225 [.agg (yB x d0),S s] (B (b8 x (cW s))):=by
 refine bP aff (.cons (.agg (aam U)) (.cons (.s _) .nil)) (Tr.s _) ?_;rw[afg];refine aE ?_;refine cM (sG (cs:=yB x d0) rfl) aF (aan U) ?_;refine SS ?_;refine ab (bj (bc (l:=[(1,S s),(2,.rp 0 0)]) (ml:=[(0,.cells (yB x d0) 45)]) eH eH) (aV (aE ?_)));refine SS ?_
 refine ab (dA (fun st=>∃ y d,aR prog st ⟨aH [(2,.rp 0 0)],aby [(0,.cells (yB y d) 45)],1⟩/\(cW s).foldl jP x=y/\tc d y.args) (eX (α:=Nat×bS×D) (fun q=>⟨aH [(1,S s),(2,.rp 0 0),(5,I q.1)],aby [(0,.cells (yB q.2.1 q.2.2) 45)],1⟩)
  (fun q=>q.1<=s.size/\((cW s).take q.1).foldl jP x=q.2.1/\tc q.2.2 q.2.1.args) (fun q=>s.size - q.1) (0,x,d0) (bc eH eH) ⟨Nat.zero_le _,rfl,U⟩ ?_) ?_)
 .rintro⟨k,y,d⟩ ⟨hk,hy,hd⟩;dsimp only at hk hy hd ⊢;refine a7 ?_;refine ab ⟨_,rfl,fun h=>?_,fun h=>?_⟩
  .have aj:k<s.size:=by simpa using h
   obtain⟨hm,hx⟩:=FK aj;generalize hz:s.data.toList.getD (k:Int).toNat 0=z at hm hx;have O:((cW s).take (k+1)).foldl jP x=jP y z.toNat:=by rw[pT hx,hy]
   refine ws ?_;refine aB ?_;refine ab (qN (al ?_));refine af ?_;refine ab (yC rfl (fun h1=>jj ?_) fun h1=>al ?_)
   .refine af ?_;refine ab ?_;show aw _ _ _ _ _ _ _ _ _;refine aB ?_;refine ab (bD (k+1,{ y with to:=0 },d) (bc eH eH) ⟨oM,?_,hd⟩ oM);rw[hz] at h1;rw[O,jP,if_pos (by simpa using h1)]
   rw[hz] at h1;have h1:¬ (z.toNat:Int)=116:=by simpa using h1
   refine af ?_;refine ab (yC rfl (fun h2=>jj ?_) fun h2=>al ?_)
   .refine af ?_;refine ab ?_;show aw _ _ _ _ _ _ _ _ _;refine aB ?_;refine ab (bD (k+1,{ y with a:=0 },d) (bc eH eH) ⟨oM,?_,hd⟩ oM);rw[hz] at h2;rw[O,jP,if_neg h1,if_pos (by simpa using h2)]
   rw[hz] at h2;have h2:¬ (z.toNat:Int)=97:=by simpa using h2
   refine af ?_;refine ab (yC rfl (fun C=>jj ?_) fun C=>al ?_)
   .refine af ?_;refine ab ?_;show aw _ _ _ _ _ _ _ _ _;refine aB ?_;refine ab (bD (k+1,{ y with b:=0 },d) (bc eH eH) ⟨oM,?_,hd⟩ oM);rw[hz] at C;rw[O,jP,if_neg h1,if_neg h2,if_pos (by simpa using C)]
   rw[hz] at C;have C:¬ (z.toNat:Int)=98:=by simpa using C
   refine af ?_;refine ab (yC rfl (fun J=>jj ?_) fun J=>al ?_)
   .refine af ?_;refine ab ?_;show aw _ _ _ _ _ _ _ _ _;refine aB ?_;refine ab (bD (k+1,{ y with n:=0 },d) (bc eH eH) ⟨oM,?_,hd⟩ oM);rw[hz] at J;rw[O,jP,if_neg h1,if_neg h2,if_neg C,if_pos (by simpa using J)]
   rw[hz] at J;have J:¬ (z.toNat:Int)=110:=by simpa using J
   refine af ?_;refine ab (yC rfl (fun M=>jj ?_) fun M=>?_)
   .refine af ?_;refine ab ?_;show aw _ _ _ _ _ _ _ _ _;refine aB ?_;refine ab (bD (k+1,{ y with args:=[] },.z) (bc eH eH) ⟨oM,?_,.inr ⟨rfl,rfl⟩⟩ oM);rw[hz] at M;rw[O,jP,if_neg h1,if_neg h2,if_neg C,if_neg J,if_pos (by simpa using M)]
   rw[hz] at M;have M:¬ (z.toNat:Int)=108:=by simpa using M
   refine eC ?_;show aw _ _ _ _ _ _ _ _ _;refine aB ?_;refine ab (bD (k+1,y,d) (bc eH eH) ⟨oM,?_,hd⟩ oM);rw[O,jP,if_neg h1,if_neg h2,if_neg C,if_neg J,if_neg M]
  .have X:¬ k<s.size:=by simpa using h
   rw[dO (by simp[cW];omega)] at hy;exact⟨y,d,bc eH eH,hy,hd⟩
 .rintro st ⟨y,d,hg,hy,hd⟩;refine⟨_,hg,al ?_⟩;have hl:b8 x (cW s)=kO y:=by rw[b8,hy]
  rw[hl];have wZ:((y.args.length:Int)=0)↔y.args=[]:=⟨fun h=>List.length_eq_zero_iff.1 oG,fun h=>by rw[h];rfl⟩
  rcases hd with rfl|⟨rfl,hd⟩
  .refine SN9 ?_;refine SN9 ?_;refine fS ?_;refine ab (ap (d:=.s (.bool _)) rfl ?_);simp[kO,aL,jI];grind
  .refine SN9 ?_;refine SN9 ?_;refine aB ?_;refine bQ rfl rfl (R4 rfl) (fun hc=>⟨ak,V.h⟩) ?_;refine aB ?_;refine ab (ap (d:=.s (.bool _)) rfl ?_);simp[kO,aL,jI,hd];grind
theorem cv{x:bS}{s:ByteArray}(hs:s.size<=8):ax prog 225 [.agg (bF x),S s] (B (b8 x (cW s))):=TZ (d0:=aX x.args) (.inl rfl) hs
theorem eR{x:Argus.End}{s:ByteArray}(hs:s.size<=8):ax prog 230 [.agg (bA x),S s] (B (dK x (cW s))):=by
 refine bP afh (.cons (.agg (lP x)) (.cons (.s _) .nil)) (Tr.s _) ?_;rw[afi];refine aE ?_;refine af ?_;refine ab (bj (bc (l:=[(1,S s),(2,.rp 0 0)]) (ml:=[(0,.cells (bA x) 48)]) eH eH) (al ?_));refine SS ?_;refine ab (aV (aE ?_));refine SS ?_
 refine ab (dA (fun st=>∃ y C O,aR prog st ⟨aH [(2,.rp 0 0),(5,B ((cW s).any (·==104)))],aby [(0,.cells (T0 y C O) 48)],1⟩/\(cW s).foldl gI x=y/\tc C y.ins.args/\tc O y.args) (eX (α:=Nat×Argus.End×D×D) (fun q=>⟨aH [(1,S s),(2,.rp 0 0),(5,B (((cW s).take q.1).any (·==104))),(6,I q.1)],aby [(0,.cells (T0 q.2.1 q.2.2.1 q.2.2.2) 48)],1⟩)
  (fun q=>q.1<=s.size/\((cW s).take q.1).foldl gI x=q.2.1/\tc q.2.2.1 q.2.1.ins.args/\tc q.2.2.2 q.2.1.args) (fun q=>s.size - q.1) (0,x,aX x.ins.args,aX x.args) (bc eH eH) ⟨Nat.zero_le _,rfl,.inl rfl,.inl rfl⟩ ?_) ?_)
 .rintro⟨k,y,C,O⟩ ⟨hk,hy,cK,J⟩;dsimp only at hk hy cK J ⊢;refine a7 ?_;refine ab ⟨_,rfl,fun h=>?_,fun h=>?_⟩
  .have aj:k<s.size:=by simpa using h
   obtain⟨hm,hx⟩:=FK aj;generalize hz:s.data.toList.getD (k:Int).toNat 0=z at hm hx;have cI:((cW s).take (k+1)).foldl gI x=gI y z.toNat:=by rw[pT hx,hy]
   have td:((cW s).take (k+1)).any (·==104)=(((cW s).take k).any (·==104)||(z.toNat:Int)==104):=by rw[List.take_add_one,hx,List.any_append];simp
   generalize ((cW s).take k).any (·==104)=hb at td;refine ws ?_;refine aB ?_;refine ab (qN (al ?_));refine af ?_;refine ab (yC rfl (fun h0=>jj ?_) fun h0=>al ?_)
   .refine af ?_;refine ab ?_;show aw _ _ _ _ _ _ _ _ _;refine aB ?_;rw[hz] at h0;have h0:(z.toNat:Int)=97:=by simpa using h0
    refine ab (bD (k+1,{ y with a:=0 },C,O) (bc ⟨rfl,rfl,?_,rfl,trivial⟩ eH) ⟨oM,?_,cK,J⟩ oM)
    .show B hb=B (((cW s).take (k+1)).any (·==104));rw[td,h0];simp
    .rw[cI,gI,if_pos h0]
   rw[hz] at h0;have h0:¬ (z.toNat:Int)=97:=by simpa using h0
   refine af ?_;refine ab (yC rfl (fun h1=>jj ?_) fun h1=>al ?_)
   .refine af ?_;refine ab ?_;show aw _ _ _ _ _ _ _ _ _;refine aB ?_;rw[hz] at h1;have h1:(z.toNat:Int)=98:=by simpa using h1
    refine ab (bD (k+1,{ y with b:=0 },C,O) (bc ⟨rfl,rfl,?_,rfl,trivial⟩ eH) ⟨oM,?_,cK,J⟩ oM)
    .show B hb=B (((cW s).take (k+1)).any (·==104));rw[td,h1];simp
    .rw[cI,gI,if_neg h0,if_pos h1]
   rw[hz] at h1;have h1:¬ (z.toNat:Int)=98:=by simpa using h1
   refine af ?_;refine ab (yC rfl (fun h2=>jj ?_) fun h2=>al ?_)
   .refine af ?_;refine ab ?_;show aw _ _ _ _ _ _ _ _ _;refine aB ?_;rw[hz] at h2;have h2:(z.toNat:Int)=116:=by simpa using h2
    refine ab (bD (k+1,{ y with to:=0 },C,O) (bc ⟨rfl,rfl,?_,rfl,trivial⟩ eH) ⟨oM,?_,cK,J⟩ oM)
    .show B hb=B (((cW s).take (k+1)).any (·==104));rw[td,h2];simp
    .rw[cI,gI,if_neg h0,if_neg h1,if_pos h2]
   rw[hz] at h2;have h2:¬ (z.toNat:Int)=116:=by simpa using h2
   refine af ?_;refine ab (yC rfl (fun M=>jj ?_) fun M=>al ?_)
   .refine af ?_;refine ab ?_;show aw _ _ _ _ _ _ _ _ _;refine aB ?_;rw[hz] at M;have M:(z.toNat:Int)=101:=by simpa using M
    refine ab (bD (k+1,{ y with gP:=0 },C,O) (bc ⟨rfl,rfl,?_,rfl,trivial⟩ eH) ⟨oM,?_,cK,J⟩ oM)
    .show B hb=B (((cW s).take (k+1)).any (·==104));rw[td,M];simp
    .rw[cI,gI,if_neg h0,if_neg h1,if_neg h2,if_pos M]
   rw[hz] at M;have M:¬ (z.toNat:Int)=101:=by simpa using M
   refine af ?_;refine ab (yC rfl (fun U=>jj ?_) fun U=>al ?_)
   .refine af ?_;refine ab ?_;show aw _ _ _ _ _ _ _ _ _;refine aB ?_;rw[hz] at U;have U:(z.toNat:Int)=110:=by simpa using U
    refine ab (bD (k+1,{ y with name:=.empty },C,O) (bc ⟨rfl,rfl,?_,rfl,trivial⟩ eH) ⟨oM,?_,cK,J⟩ oM)
    .show B hb=B (((cW s).take (k+1)).any (·==104));rw[td,U];simp
    .rw[cI,gI,if_neg h0,if_neg h1,if_neg h2,if_neg M,if_pos U]
   rw[hz] at U;have U:¬ (z.toNat:Int)=110:=by simpa using U
   refine af ?_;refine ab (yC rfl (fun X=>jj ?_) fun X=>al ?_)
   .refine aB ?_;refine ab ?_;show aw _ _ _ _ _ _ _ _ _;refine aB ?_;rw[hz] at X;have X:(z.toNat:Int)=105:=by simpa using X
    refine ab (bD (k+1,{ y with ins:=ez },.z,O) (bc ⟨rfl,rfl,?_,rfl,trivial⟩ eH) ⟨oM,?_,.inr ⟨rfl,rfl⟩,J⟩ oM)
    .show B hb=B (((cW s).take (k+1)).any (·==104));rw[td,X];simp
    .rw[cI,gI,if_neg h0,if_neg h1,if_neg h2,if_neg M,if_neg U,if_pos X]
   rw[hz] at X;have X:¬ (z.toNat:Int)=105:=by simpa using X
   refine af ?_;refine ab (yC rfl (fun h6=>jj ?_) fun h6=>al ?_)
   .refine af ?_;refine ab ?_;show aw _ _ _ _ _ _ _ _ _;refine aB ?_;rw[hz] at h6;have h6:(z.toNat:Int)=108:=by simpa using h6
    refine ab (bD (k+1,{ y with args:=[] },C,.z) (bc ⟨rfl,rfl,?_,rfl,trivial⟩ eH) ⟨oM,?_,cK,.inr ⟨rfl,rfl⟩⟩ oM)
    .show B hb=B (((cW s).take (k+1)).any (·==104));rw[td,h6];simp
    .rw[cI,gI,if_neg h0,if_neg h1,if_neg h2,if_neg M,if_neg U,if_neg X,if_pos h6]
   rw[hz] at h6;have h6:¬ (z.toNat:Int)=108:=by simpa using h6
   refine af ?_;refine ab (yC rfl (fun h8=>jj ?_) fun h8=>?_)
   .refine SS ?_;refine ab ?_;show aw _ _ _ _ _ _ _ _ _;refine aB ?_;rw[hz] at h8;refine ab (bD (k+1,y,C,O) (bc ⟨rfl,rfl,?_,rfl,trivial⟩ eH) ⟨oM,?_,cK,J⟩ oM)
    .show B true=B (((cW s).take (k+1)).any (·==104));rw[td,h8];simp
    .rw[cI,gI,if_neg h0,if_neg h1,if_neg h2,if_neg M,if_neg U,if_neg X,if_neg h6]
   rw[hz] at h8;refine eC ?_;show aw _ _ _ _ _ _ _ _ _;refine aB ?_;refine ab (bD (k+1,y,C,O) (bc ⟨rfl,rfl,?_,rfl,trivial⟩ eH) ⟨oM,?_,cK,J⟩ oM)
   .show B hb=B (((cW s).take (k+1)).any (·==104));rw[td,h8];simp
   .rw[cI,gI,if_neg h0,if_neg h1,if_neg h2,if_neg M,if_neg U,if_neg X,if_neg h6]
  .have bL:¬ k<s.size:=by simpa using h
   rw[dO (by simp[cW];omega)] at hy ⊢;exact⟨y,C,O,bc eH eH,hy,cK,J⟩
 .rintro st ⟨y,C,O,hg,hy,cK,J⟩;refine⟨_,hg,aV (al ?_)⟩
  have hl:dK x (cW s)=(((cW s).any (·==104)||(aL y.aJ.length 0&&aL y.others (-1)))&&o8 y):=by
   have hw:∀ (l:List Int) (x:Argus.End),(l.foldl gI x).aJ=x.aJ/\(l.foldl gI x).others=x.others:=fun l=>by
    induction l with
    |nil=>exact fun _=>⟨rfl,rfl⟩
    |cons a l ih=>
     intro x
     have:(gI x a).aJ=x.aJ/\(gI x a).others=x.others:=by
      unfold gI
      repeat' split
      all_goals exact⟨rfl,rfl⟩
     rw[List.foldl_cons,(ih _).1,(ih _).2,this.1,this.2];exact⟨rfl,rfl⟩
   obtain⟨h1,h2⟩:=hw (cW s) x;rw[hy] at h1 h2;rw[dK,hy,h1,h2]
  rw[hl];clear hl hy;generalize (cW s).any (·==104)=hb;have cv:ax prog 225 [.agg [U8 y.ins.op,I y.ins.to,I y.ins.a,I y.ins.b,I y.ins.n,C],S ⟨#[]⟩] (B (kO y.ins)):=TZ (x:=y.ins) cK oC;refine SN9 ?_;refine a7 ?_;refine ab (dI rfl (fun h=>?_) fun h=>dL (al ?_))
  .refine aV (al ?_);refine SS ?_;refine ab (fN (ap (d:=.s (.bool _)) rfl ?_));revert h;simp[aL];grind
  rcases J with rfl|⟨rfl,J⟩
  .refine SN9 ?_;refine SN9 ?_;refine SN9 ?_;refine SN9 ?_;refine af ?_;refine gc cv ?_;refine af ?_;refine ab (ap (d:=.s (.bool _)) rfl ?_);revert h;simp[o8,aL];grind
  .refine SN9 ?_;refine SN9 ?_;refine cT ?_;refine bQ rfl rfl (R4 rfl) (fun hc=>⟨ak,V.h⟩) ?_;refine SN9 ?_;refine af ?_;refine gc cv ?_;refine af ?_;refine ab (ap (d:=.s (.bool _)) rfl ?_);revert h;simp[o8,aL,J];grind
end Go.Proofs.Tryz.K
end
namespace Go.Abs
section
variable{P:Program}{m:Mem}{bx:List Nat}
end
end Go.Abs
section
open Go Go.Abs Go.Proofs Go.Argus
namespace Go.Proofs.Tryz.K
set_option maxRecDepth 100000
def aO(x:Argus.End)(l:List Int)(s:St):Prop:=∃ r m nx,r<nx/\m r=some (.cells (l.map I) 3)/\aR prog s ⟨aH [(1,.pt (bA x)),(3,.rs r 0 l.length)],m,nx⟩
theorem qt{x:Argus.End}(hlen:x.aJ.length<=100000):ax prog 149 [.agg (bA x)] (aX (eO x)):=by
 have br:∀ a∈[D.agg (bA x)],Tr a:=.cons (.agg (lP x)) .nil;refine bP afj br (ew _) ?_;rw[afk];refine aE ?_;refine af ?_;refine ab (bj (cr [(0,bA x,48)] eH (l:=[(1,.pt (bA x))]) eH) (aE ?_));refine SS ?_;refine ab ⟨_,.CB _ _ _ 3 3 rfl,?_⟩;refine fO (aO x (jC x)) (al ?_) fun s hs=>?_
 .have yes:x.kind≠3/\x.kind≠4->jC x=[x.to]:=fun h=>by rw[jC,if_pos h]
  have no:¬ (x.kind≠3/\x.kind≠4)->jC x=[]:=fun h=>by rw[jC,if_neg h]
  have aD:up (fun _=>(none:Option Row)) 1 (some (.cells [] 3)) 1=some (.cells [] 3):=au _ _ _;by_cases O:x.kind=3
  .have uG:(x.kind !=3)=false:=by simp[O]
   refine a7 ?_;(iterate 3 refine z fun _ _=>?_);refine SS ?_;refine ab (yC rfl (fun h=>oH) fun h=>bq ?_);rw[no (by simp[O])];exact⟨_,_,_,Nat.lt_succ_self _,au _ _ _,aq eH⟩
  .by_cases C:x.kind=4
   .have uG:(x.kind !=3)=true:=by simp[C]
    have X:(x.kind !=4)=false:=by simp[C]
    refine cT ?_;refine ab (yC rfl (fun h=>(by simp[C] at h)) fun h=>bq ?_);rw[no (by simp[C])];exact⟨_,_,_,Nat.lt_succ_self _,au _ _ _,aq eH⟩
   .have uG:(x.kind !=3)=true:=by simp[O]
    have X:(x.kind !=4)=true:=by simp[C]
    refine cT ?_;refine ab (yC rfl (fun h=>?_) fun h=>(by simp[C] at h));refine jj ?_;refine a7 ?_;refine iw (io rfl rfl rfl V.h V.h (iJ rfl rfl) rfl) ak ⟨V.h,rfl,(by first|omega|exact bg rfl|(simp;done)|(simp;omega)),oC,(by first|rfl|(simp;done)|(simp;omega)),(by unfold maxLen;first|omega|(simp;omega)),(by rw[b3];first|omega|(simp;omega)),(by first|(simp;done)|(simp;omega))⟩ ?_;refine SS ?_;refine ab ?_;rw[yes ⟨O,C⟩];exact⟨_,_,_,Nat.lt_succ_self _,au _ _ _,aq eH⟩
 obtain⟨r,m,nx,hr,aD,hg⟩:=hs;refine⟨_,hg,fO (aO x (oQ x)) (al ?_) fun s hs=>?_⟩
 .have M:oQ x=if x.kind=2\/x.kind=8 then jC x++[x.gP] else jC x:=rfl
  have J:(jC x).length<=1:=by unfold jC;split<;>simp
  generalize jC x=l at aD M J;have U:(l.map I).length=l.length:=by simp
  by_cases h2:x.kind=2\/x.kind=8
  .rw[if_pos h2] at M;refine cT ?_;refine ab (yC rfl (fun h=>jj ?_) fun h=>(by rcases h2 with h2|h2<;>simp[h2] at h));refine cY ?_;refine ab ?_;rw[M];refine⟨_,_,_,Nat.lt_succ_self _,(au _ _ _).trans (by rw[List.map_append];rfl),aq ⟨rfl,?_,trivial⟩⟩;show D.rs _ 0 _=D.rs _ 0 _;rw[List.length_append];rfl
  .rw[if_neg h2] at M;refine cT ?_;refine ab (yC rfl (fun h=>(by exfalso;apply h2;revert h;by_cases e2:x.kind=2<;>by_cases e8:x.kind=8<;>simp[e2,e8])) fun h=>bq ?_);rw[M];exact⟨r,m,nx,hr,aD,aq eH⟩
 clear hg hr aD;obtain⟨r,m,nx,hr,aD,hg⟩:=hs;refine⟨_,hg,fO (aO x (fU x x.aJ.length)) (aE ?_) fun s hs=>?_⟩
 .refine SS ?_
  refine ab (eX (α:=Nat×Nat×Mem×Nat) (fun s=>⟨aH [(1,.pt (bA x)),(3,.rs s.2.1 0 (fU x s.1).length),(4,I s.1)],s.2.2.1,s.2.2.2⟩)
   (fun s=>s.1<=x.aJ.length/\s.2.1<s.2.2.2/\s.2.2.1 s.2.1=some (.cells ((fU x s.1).map I) 3)) (fun s=>x.aJ.length - s.1) (0,r,m,nx) (aq ⟨rfl,?_,rfl,trivial⟩) ⟨Nat.zero_le _,hr,?_⟩ ?_)
  .show D.rs r 0 _=D.rs r 0 _;simp[fU]
  .show m r=_;rw[aD];simp[fU]
  clear hg hr aD;rintro⟨j,r,m,nx⟩ ⟨hj,hr,aD⟩;dsimp only at hj hr aD ⊢;refine bH ?_;refine ab ⟨_,rfl,fun h=>?_,fun h=>?_⟩
  .have dZ:j<x.aJ.length:=by simpa using h
   have hy:x.aJ[j]? =some x.aJ[j]:=bB dZ;generalize x.aJ[j]=w at hy;have bt:=aao hy;have El:(fU x (j+1)).length=(fU x j).length+1:=by rw[bt];simp
   have U:((fU x j).map I).length=(fU x j).length:=by simp
   have J:(fU x j).length<=2+j:=by have:=Ki x;unfold fU;simp;omega
   generalize fU x j=l at aD bt U El J;refine kp ?_;refine cT ?_;refine af ?_;refine ab ?_;refine aB ?_;refine ab (bD (j+1,nx+1,_,_) (aq ⟨rfl,?_,rfl,trivial⟩) ⟨oM,oM,?_⟩ oM)
   .show D.rs _ 0 _=D.rs _ 0 _;rw[El]
   .dsimp only;rw[bt,List.map_append];exact au _ _ _
  .have bL:¬ j<x.aJ.length:=by simpa using h
   have:j=x.aJ.length:=by omega
   subst this;exact⟨r,m,nx,hr,aD,aq eH⟩
 clear hg hr aD;obtain⟨r,m,nx,hr,aD,hg⟩:=hs;refine⟨_,hg,fO (aO x (eO x)) (al ?_) fun s hs=>?_⟩
 .have hd:eO x=if 0<=x.others then fU x x.aJ.length++[x.others] else fU x x.aJ.length:=rfl
  have J:(fU x x.aJ.length).length<=2+x.aJ.length:=by have:=Ki x;unfold fU;simp;omega
  generalize fU x x.aJ.length=l at aD hd J;have U:(l.map I).length=l.length:=by simp
  refine aB ?_;refine ab (yC rfl (fun h=>jj ?_) fun h=>bq ?_)
  .rw[if_pos (by simpa using h)] at hd;refine cY ?_;refine ab ?_;rw[hd];refine⟨_,_,_,Nat.lt_succ_self _,(au _ _ _).trans (by rw[List.map_append];rfl),aq ⟨rfl,?_,trivial⟩⟩;show D.rs _ 0 _=D.rs _ 0 _;rw[List.length_append];rfl
  .rw[if_neg (by simpa using h)] at hd;rw[hd];exact⟨r,m,nx,hr,aD,aq eH⟩
 clear hg hr aD;obtain⟨r,m,nx,hr,aD,hg⟩:=hs;refine⟨_,hg,aE ?_⟩;refine af ?_;refine ab (bj (cr [(r,(eO x).map I,3)] ⟨aD,trivial⟩ (l:=[(2,aX (eO x))]) ⟨kN (sz:=1) c3 (by rw[List.drop_zero,dO oS]),trivial⟩) (ap rfl rfl))
theorem MT{l:List Int}{n:Int}(hl:l.length<=100000):ax prog 172 [aX l,I n] (aX (jQ l n)):=by
 refine bP afm (.cons (ew _) (.cons (.s _) .nil)) (ew _) ?_;rw[afn];refine ws ?_;refine SS ?_;refine ab (aE ?_);refine SS ?_
 refine ab (dA (fun st=>∃ k:Nat,aR prog st ⟨aH [(0,aX l),(1,I n),(5,I k)],fun _=>none,0⟩/\k<=l.length/\(∀ (j:Nat) y,j<k->l[j]? =some y->y<n)/\∀ y,l[k]? =some y->¬ y<n) (JX (α:=Nat) (fun k=>⟨aH [(0,aX l),(1,I n),(5,I k)],fun _=>none,0⟩)
  (fun k=>k<=l.length/\∀ (j:Nat) y,j<k->l[j]? =some y->y<n) (fun k=>l.length - k) 0 (aq eH) ⟨Nat.zero_le _,fun j y hj=>by omega⟩ ?_) ?_)
 .rintro k ⟨hk,hinv⟩;by_cases aj:k<l.length
  .have hx:l[k]? =some l[k]:=bB aj;generalize l[k]=y at hx;have uF:decide ((k:Int)<(l.length:Int))=true:=decide_eq_true oG;refine SN9 ?_;refine aB ?_;refine ab ⟨_,rfl,fun h=>?_,fun h=>?_⟩
   .have hy:y<n:=by simpa using h
    refine kp ?_;refine aB ?_;refine ab (bD (k+1) (aq eH) ⟨oG,fun j M hj hz=>?_⟩ oG);by_cases e:j=k
    .subst e;rw[hx] at hz;cases hz;exact hy
    .exact hinv j M oG hz
   .have hy:¬ y<n:=by simpa using h
    exact⟨k,aq eH,hk,hinv,fun M hz=>by rw[hx] at hz;cases hz;exact hy⟩
  .have uF:decide ((k:Int)<(l.length:Int))=false:=decide_eq_false oG;refine bH ?_;(iterate 6 refine z fun _ _=>?_);refine SS ?_;refine ab ⟨_,rfl,fun h=>oH,fun h=>?_⟩;exact⟨k,aq eH,hk,hinv,fun M hz=>by have:=(bZ.1 hz).1;omega⟩
 .rintro st ⟨k,hg,hk,hinv,bt⟩;have X:=SU hk hinv bt;refine⟨_,hg,aV (al ?_)⟩;by_cases U:l[k]? =some n
  .rw[if_pos U] at X;have uF:decide ((k:Int)<(l.length:Int))=true:=decide_eq_true (by have:=(bZ.1 U).1;omega);refine SN9 ?_;refine aB ?_;refine ab (dI rfl (fun h=>?_) fun h=>(by simp at h));refine aV (al ?_);refine af ?_;refine ab (fN (ap rfl ?_));rw[X];rfl
  rw[if_neg U] at X
  have dH:((l.map I).drop ((0:Int).toNat*1)).take (((k:Int) - 0).toNat*1)=(l.take k).map I:=by
   rw[show(0:Int).toNat*1=0 by simp,show((k:Int) - 0).toNat*1=k by omega,List.drop_zero,List.map_take]
  have iE:((l.map I).drop ((k:Int).toNat*1)).take (((l.length:Int) - k).toNat*1)=(l.drop k).map I:=by
   rw[show(k:Int).toNat*1=k by omega, <- List.map_drop,dO (by simp;try omega)]
  have NR:((l.take k).map I).take (((k:Int) - 0).toNat*1)=(l.take k).map I:=dO (by simp;try omega);have NS:((l.drop k).map I).take (((l.length:Int) - k).toNat*1)=(l.drop k).map I:=dO (by simp;try omega);have zz:((l.take k).map I).length=k:=by simp;omega
  have zo:((l.drop k).map I).length=l.length - k:=by simp
  have O:((l.take k).map I++[I n])++(l.drop k).map I=(l.take k++n::l.drop k).map I:=by simp
  have hlen:(l.take k++n::l.drop k).length=l.length+1:=by simp;omega
  rw[X];generalize l.take k++n::l.drop k=M at O hlen;generalize (l.take k).map I=A at dH NR zz O;generalize (l.drop k).map I=C at iE NS zo O;by_cases aj:k<l.length
  .have hx:l[k]? =some l[k]:=bB aj;have a8:l[k]≠n:=fun e=>U (by rw[hx,e]);generalize l[k]=y at hx a8;have uF:decide ((k:Int)<(l.length:Int))=true:=decide_eq_true oG;have iO:(y==n)=false:=by simpa using a8
   refine SN9 ?_;refine aB ?_;refine ab (dI rfl (fun h=>oH) fun h=>dL (al ?_));refine aB ?_;refine ao (Ah (es':=A) rfl cV c3 rfl rfl dH) aF ⟨de,oG,oG,oG⟩ ?_;have J:=NR
   (first|refine iw (io rfl rfl rfl cV c3 (jd J) rfl) aF ⟨de,rfl,(by first|omega|exact bg rfl|(simp;done)|(simp;omega)),oC,(by first|rfl|(simp;done)|(simp;omega)),(by unfold maxLen;first|omega|(simp;omega)),(by rw[b3];first|omega|(simp;omega)),(by first|(simp;done)|(simp;omega))⟩ ?_|refine iw (io rfl rfl rfl cV c3 (iJ rfl rfl) rfl) aF ⟨de,rfl,(by first|omega|exact bg rfl|(simp;done)|(simp;omega)),oC,(by first|rfl|(simp;done)|(simp;omega)),(by unfold maxLen;first|omega|(simp;omega)),(by rw[b3];first|omega|(simp;omega)),(by first|(simp;done)|(simp;omega))⟩ ?_|refine cM (jF rfl rfl cV c3 (jd J)) aF ⟨de,(by first|omega|exact bg rfl|(simp;done)|(simp;omega)),oC,(by unfold maxLen;first|omega|(simp;omega)),(by rw[b3];first|omega|(simp;omega))⟩ ?_|refine cM (jF rfl rfl cV c3 (iJ rfl rfl)) aF ⟨de,(by first|omega|exact bg rfl|(simp;done)|(simp;omega)),oC,(by unfold maxLen;first|omega|(simp;omega)),(by rw[b3];first|omega|(simp;omega))⟩ ?_)
   refine ao (lm (v:=.s (.int _ _)) rfl) aF trivial ?_
   (first|refine cM (mn (cs:=[_]) cV c3 z3 rfl rfl) aF ⟨rfl,oC,de,oC⟩ ?_|refine cM (mn cV c3 z3 rfl rfl) aF ⟨rfl,oC,de,oC⟩ ?_)
   (first|refine iw (io rfl rfl rfl cV c3 (jd J) rfl) aF ⟨de,rfl,(by first|omega|exact bg rfl|(simp;done)|(simp;omega)),oC,(by first|rfl|(simp;done)|(simp;omega)),(by unfold maxLen;first|omega|(simp;omega)),(by rw[b3];first|omega|(simp;omega)),(by first|(simp;done)|(simp;omega))⟩ ?_|refine iw (io rfl rfl rfl cV c3 (iJ rfl rfl) rfl) aF ⟨de,rfl,(by first|omega|exact bg rfl|(simp;done)|(simp;omega)),oC,(by first|rfl|(simp;done)|(simp;omega)),(by unfold maxLen;first|omega|(simp;omega)),(by rw[b3];first|omega|(simp;omega)),(by first|(simp;done)|(simp;omega))⟩ ?_|refine cM (jF rfl rfl cV c3 (jd J)) aF ⟨de,(by first|omega|exact bg rfl|(simp;done)|(simp;omega)),oC,(by unfold maxLen;first|omega|(simp;omega)),(by rw[b3];first|omega|(simp;omega))⟩ ?_|refine cM (jF rfl rfl cV c3 (iJ rfl rfl)) aF ⟨de,(by first|omega|exact bg rfl|(simp;done)|(simp;omega)),oC,(by unfold maxLen;first|omega|(simp;omega)),(by rw[b3];first|omega|(simp;omega))⟩ ?_)
   (first|refine ao (eM (v:=.sl _ _) rfl) aF trivial ?_|refine ao (eM (v:=.rs _ _ _) rfl) aF trivial ?_|refine ao (eM (v:=.z) rfl) aF trivial ?_)
   refine ab (aE ?_);refine aB ?_;refine ao (Ah (es':=C) rfl cV c3 rfl rfl iE) aF ⟨de,oG,oG,oG⟩ ?_;have J:=NS
   (first|refine iw (io rfl rfl rfl cV c3 (jd J) rfl) aF ⟨de,rfl,(by first|omega|exact bg rfl|(simp;done)|(simp;omega)),oC,(by first|rfl|(simp;done)|(simp;omega)),(by unfold maxLen;first|omega|(simp;omega)),(by rw[b3];first|omega|(simp;omega)),(by first|(simp;done)|(simp;omega))⟩ ?_|refine iw (io rfl rfl rfl cV c3 (iJ rfl rfl) rfl) aF ⟨de,rfl,(by first|omega|exact bg rfl|(simp;done)|(simp;omega)),oC,(by first|rfl|(simp;done)|(simp;omega)),(by unfold maxLen;first|omega|(simp;omega)),(by rw[b3];first|omega|(simp;omega)),(by first|(simp;done)|(simp;omega))⟩ ?_|refine cM (jF rfl rfl cV c3 (jd J)) aF ⟨de,(by first|omega|exact bg rfl|(simp;done)|(simp;omega)),oC,(by unfold maxLen;first|omega|(simp;omega)),(by rw[b3];first|omega|(simp;omega))⟩ ?_|refine cM (jF rfl rfl cV c3 (iJ rfl rfl)) aF ⟨de,(by first|omega|exact bg rfl|(simp;done)|(simp;omega)),oC,(by unfold maxLen;first|omega|(simp;omega)),(by rw[b3];first|omega|(simp;omega))⟩ ?_)
   (first|refine ao (eM (v:=.sl _ _) rfl) aF trivial ?_|refine ao (eM (v:=.rs _ _ _) rfl) aF trivial ?_|refine ao (eM (v:=.z) rfl) aF trivial ?_)
   refine ab (bj (cr [(4,M.map I,3)] ⟨by rw[<- O];rfl,trivial⟩ (l:=[(4,aX M)]) ⟨?_,trivial⟩) (bh (ap rfl rfl)));show rN _ [(4,_,3)] (.rs 4 0 (0+((k:Int) - 0).toNat+1+((l.length:Int) - k).toNat))=_;rw[show 0+((k:Int) - 0).toNat+1+((l.length:Int) - k).toNat=M.length by omega];exact kN (sz:=1) c3 (by rw[List.drop_zero,dO oS])
  .have uF:decide ((k:Int)<(l.length:Int))=false:=decide_eq_false oG;refine bH ?_;(iterate 6 refine z fun _ _=>?_);refine SS ?_;refine ab (dI rfl (fun h=>oH) fun h=>dL (al ?_));refine aB ?_;refine ao (Ah (es':=A) rfl cV c3 rfl rfl dH) aF ⟨de,oG,oG,oG⟩ ?_;have J:=NR
   (first|refine iw (io rfl rfl rfl cV c3 (jd J) rfl) aF ⟨de,rfl,(by first|omega|exact bg rfl|(simp;done)|(simp;omega)),oC,(by first|rfl|(simp;done)|(simp;omega)),(by unfold maxLen;first|omega|(simp;omega)),(by rw[b3];first|omega|(simp;omega)),(by first|(simp;done)|(simp;omega))⟩ ?_|refine iw (io rfl rfl rfl cV c3 (iJ rfl rfl) rfl) aF ⟨de,rfl,(by first|omega|exact bg rfl|(simp;done)|(simp;omega)),oC,(by first|rfl|(simp;done)|(simp;omega)),(by unfold maxLen;first|omega|(simp;omega)),(by rw[b3];first|omega|(simp;omega)),(by first|(simp;done)|(simp;omega))⟩ ?_|refine cM (jF rfl rfl cV c3 (jd J)) aF ⟨de,(by first|omega|exact bg rfl|(simp;done)|(simp;omega)),oC,(by unfold maxLen;first|omega|(simp;omega)),(by rw[b3];first|omega|(simp;omega))⟩ ?_|refine cM (jF rfl rfl cV c3 (iJ rfl rfl)) aF ⟨de,(by first|omega|exact bg rfl|(simp;done)|(simp;omega)),oC,(by unfold maxLen;first|omega|(simp;omega)),(by rw[b3];first|omega|(simp;omega))⟩ ?_)
   refine ao (lm (v:=.s (.int _ _)) rfl) aF trivial ?_
   (first|refine cM (mn (cs:=[_]) cV c3 z3 rfl rfl) aF ⟨rfl,oC,de,oC⟩ ?_|refine cM (mn cV c3 z3 rfl rfl) aF ⟨rfl,oC,de,oC⟩ ?_)
   (first|refine iw (io rfl rfl rfl cV c3 (jd J) rfl) aF ⟨de,rfl,(by first|omega|exact bg rfl|(simp;done)|(simp;omega)),oC,(by first|rfl|(simp;done)|(simp;omega)),(by unfold maxLen;first|omega|(simp;omega)),(by rw[b3];first|omega|(simp;omega)),(by first|(simp;done)|(simp;omega))⟩ ?_|refine iw (io rfl rfl rfl cV c3 (iJ rfl rfl) rfl) aF ⟨de,rfl,(by first|omega|exact bg rfl|(simp;done)|(simp;omega)),oC,(by first|rfl|(simp;done)|(simp;omega)),(by unfold maxLen;first|omega|(simp;omega)),(by rw[b3];first|omega|(simp;omega)),(by first|(simp;done)|(simp;omega))⟩ ?_|refine cM (jF rfl rfl cV c3 (jd J)) aF ⟨de,(by first|omega|exact bg rfl|(simp;done)|(simp;omega)),oC,(by unfold maxLen;first|omega|(simp;omega)),(by rw[b3];first|omega|(simp;omega))⟩ ?_|refine cM (jF rfl rfl cV c3 (iJ rfl rfl)) aF ⟨de,(by first|omega|exact bg rfl|(simp;done)|(simp;omega)),oC,(by unfold maxLen;first|omega|(simp;omega)),(by rw[b3];first|omega|(simp;omega))⟩ ?_)
   (first|refine ao (eM (v:=.sl _ _) rfl) aF trivial ?_|refine ao (eM (v:=.rs _ _ _) rfl) aF trivial ?_|refine ao (eM (v:=.z) rfl) aF trivial ?_)
   refine ab (aE ?_);refine aB ?_;refine ao (Ah (es':=C) rfl cV c3 rfl rfl iE) aF ⟨de,oG,oG,oG⟩ ?_;have J:=NS
   (first|refine iw (io rfl rfl rfl cV c3 (jd J) rfl) aF ⟨de,rfl,(by first|omega|exact bg rfl|(simp;done)|(simp;omega)),oC,(by first|rfl|(simp;done)|(simp;omega)),(by unfold maxLen;first|omega|(simp;omega)),(by rw[b3];first|omega|(simp;omega)),(by first|(simp;done)|(simp;omega))⟩ ?_|refine iw (io rfl rfl rfl cV c3 (iJ rfl rfl) rfl) aF ⟨de,rfl,(by first|omega|exact bg rfl|(simp;done)|(simp;omega)),oC,(by first|rfl|(simp;done)|(simp;omega)),(by unfold maxLen;first|omega|(simp;omega)),(by rw[b3];first|omega|(simp;omega)),(by first|(simp;done)|(simp;omega))⟩ ?_|refine cM (jF rfl rfl cV c3 (jd J)) aF ⟨de,(by first|omega|exact bg rfl|(simp;done)|(simp;omega)),oC,(by unfold maxLen;first|omega|(simp;omega)),(by rw[b3];first|omega|(simp;omega))⟩ ?_|refine cM (jF rfl rfl cV c3 (iJ rfl rfl)) aF ⟨de,(by first|omega|exact bg rfl|(simp;done)|(simp;omega)),oC,(by unfold maxLen;first|omega|(simp;omega)),(by rw[b3];first|omega|(simp;omega))⟩ ?_)
   (first|refine ao (eM (v:=.sl _ _) rfl) aF trivial ?_|refine ao (eM (v:=.rs _ _ _) rfl) aF trivial ?_|refine ao (eM (v:=.z) rfl) aF trivial ?_)
   refine ab (bj (cr [(4,M.map I,3)] ⟨by rw[<- O];rfl,trivial⟩ (l:=[(4,aX M)]) ⟨?_,trivial⟩) (bh (ap rfl rfl)));show rN _ [(4,_,3)] (.rs 4 0 (0+((k:Int) - 0).toNat+1+((l.length:Int) - k).toNat))=_;rw[show 0+((k:Int) - 0).toNat+1+((l.length:Int) - k).toNat=M.length by omega];exact kN (sz:=1) c3 (by rw[List.drop_zero,dO oS])
end Go.Proofs.Tryz.K
end
namespace Go.Argus
open Go Go.Abs
open Go.Proofs.Tryz.K (nextR)
def te(w v:List Int):Prop:=∀ r,eb w r=true->eb v r=true
theorem te.refl(w:List Int):te w w:=fun _ h=>h
theorem te.trans{u w v:List Int}(h:te u w)(k:te w v):te u v:=fun r x=>k r (h r x)
structure eE(w:List Int):Prop where
 len:w.length=20
 all:fQ w
theorem eE.fW{w:List Int}(h:eE w)(n:Int):eE (fW w n):=⟨by simp[h.len],O0 h.all⟩
theorem Zf{w v:List Int}(C:eE w)(hv:eE v)(h:te w v)(n:Int):te (fW w n) (fW v n):=by
 unfold Argus.fW;split
 .by_cases hn:n.toNat / 64<20
  .intro r;rw[JL C.all (by rw[C.len];exact hn),JL hv.all (by rw[hv.len];exact hn),Bool.or_eq_true,Bool.or_eq_true];exact Or.imp (h r) id
  .unfold uu;rw[List.set_eq_of_length_le (by rw[C.len];omega),List.set_eq_of_length_le (by rw[hv.len];omega)];exact h
 .exact h
theorem fQ.fk{w v:List Int}(h:fQ w)(hv:fQ v):∀ k,fQ (fk w v k)
 |0=>h
 |k+1=>(fQ.fk h hv k).set (PA ((fQ.fk h hv k).get _)).1
theorem PT{w v:List Int}(h:fQ w)(hv:fQ v):∀ k,k<=w.length->∀ r,eb (fk w v k) r=(eb w r&&(eb v r|| !decide (r / 64<k)))
 |0,_,r=>by simp[Argus.fk]
 |k+1,hk,r=>by
  have ih:=PT h hv k oG;rw[Argus.fk,RP oP];split
  .rename_i e;have h1:=ih r;have h2:¬ r / 64<k:=by omega
   simp only[h2,decide_false,Bool.not_false,Bool.or_true,Bool.and_true] at h1;unfold eb at h1;rw[e] at h1;rw[S0 ((fQ.fk h hv k).get _) (hv.get _),h1];unfold eb;rw[e];simp
  .rename_i e;rw[ih r];have:decide (r / 64<k)=decide (r / 64<k+1):=decide_eq_decide.2 oG;rw[this]
theorem JM{w v:List Int}(C:eE w)(hv:eE v)(r:Nat):eb (ia w v) r=(eb w r&&eb v r):=by
 unfold ia;rw[PT C.all hv.all 20 (by rw[C.len];exact bO _)];by_cases hr:r / 64<20
 .simp[hr]
 .have:eb w r=false:=by
   unfold eb;rw[eg,List.getElem?_eq_none (by rw[C.len];omega)];simp
  simp[this]
theorem eE.MY{w v:List Int}(C:eE w)(hv:eE v):eE (ia w v):=⟨by simp[C.len],C.all.fk hv.all 20⟩
structure U2(s t:List Int×Bool):Prop where
 l:eE s.1
 r:eE t.1
 sub:te s.1 t.1
 ok:s.2=true->t.2=true
theorem PU{w v:List Int}(C:eE w)(hv:eE v)(h:te w v):∀ (rs:List Int) {a b:Bool},(a=true->b=true)->ik w a rs=true->ik v b rs=true
 |[],_,_,rX,hx=>rX hx
 |r::rs,a,b,rX,hx=>by
  have hx:ik w (a&&kD w r.toNat) rs=true:=hx;refine PU C hv h rs (a:=a&&kD w r.toNat) (b:=b&&kD v r.toNat) ?_ hx;rw[ay,ay,xK C.all,xK hv.all];exact fun hh=>⟨rX hh.1,h _ hh.2⟩
theorem Cc{s t:List Int×Bool}(h:U2 s t)(x:bS):U2 (lC s x) (lC t x):=by
 refine⟨h.l.fW _,h.r.fW _,Zf h.l h.r h.sub _,?_⟩;unfold lC;simp only[ay,Bool.or_eq_true];rintro⟨a,b⟩;refine⟨PU h.l h.r h.sub _ h.ok a,b.imp id ?_⟩;rw[xK h.l.all,xK h.r.all];exact h.sub _
theorem Fh{α:Type}{f:CS->α->CS}(hk:∀ s a,s.ch=true->(f s a).ch=true)(hn:∀ s a,(f s a).ch=false->f s a=s):∀ (l:List α) (s:CS),(l.foldl f s).ch=false->l.foldl f s=s/\∀ a∈l,f s a=s
 |[],s,_=>⟨rfl,fun a ha=>by simp at ha⟩
 |a::l,s,h=>by
  obtain⟨h1,h2⟩:=Fh hk hn l (f s a) h;have C:f s a=s:=hn s a (by rw[<- h1];exact h);rw[C] at h1 h2;refine⟨by rw[List.foldl_cons,C];exact h1,fun b hb=>?_⟩;rcases List.mem_cons.1 hb with rfl|hb
  .exact C
  .exact h2 b hb
theorem QK{α:Type}{f:CS->α->CS}(hk:∀ s a,s.ch=true->(f s a).ch=true):∀ (l:List α) (s:CS),s.ch=true->(l.foldl f s).ch=true
 |[],_,h=>h
 |a::l,s,h=>QK hk l (f s a) (hk s a h)
theorem KY{x:End}{w:List Int}(s:CS)(t:Int)(h:s.ch=true):(cQ x w s t).ch=true:=by
 unfold cQ;split
 .rfl
 .exact h
theorem S2{x:End}{w:List Int}(s:CS)(t:Int)(h:(cQ x w s t).ch=false):cQ x w s t=s:=by
 unfold cQ at h ⊢;split
 .rename_i hc;rw[if_pos hc] at h;cases h
 .rfl
theorem aaL{bs:List cE}(s:CS)(k:Nat)(h:s.ch=true):(dF bs s k).ch=true:=by
 unfold dF;split
 .exact h
 .split
  .exact QK KY _ s h
  .exact h
theorem aaM{bs:List cE}(s:CS)(k:Nat)(h:(dF bs s k).ch=false):dF bs s k=s:=by
 unfold dF at h ⊢;split
 .rfl
 .rename_i x hx;rw[hx] at h;simp only at h;split
  .rename_i hr;rw[if_pos hr] at h;exact(Fh KY S2 _ s h).1
  .rfl
structure U3(bs:List cE)(s:CS):Prop where
 fix:∀ b x,bs[b]? =some x->s.re.getD b false=true->∀ t∈nextR x.fin,s.re.getD t.toNat false=true/\ia (s.aP.getD t.toNat []) (gD x.fin t (jf x (s.aP.getD b [])).1)=s.aP.getD t.toNat []
theorem aaN{bs:List cE}{s:CS}(h:(ke bs s).ch=false):ke bs s=⟨s.aP,s.re,false⟩/\U3 bs (ke bs s):=by
 obtain⟨h1,h2⟩:=Fh (aaL (bs:=bs)) (aaM (bs:=bs)) (range bs.length) ⟨s.aP,s.re,false⟩ h;have e:ke bs s=⟨s.aP,s.re,false⟩:=h1;refine⟨e,⟨fun b x hx hr t ht=>?_⟩⟩;rw[e] at hr ⊢;have C:=h2 b (List.mem_range.2 (bZ.1 hx).1);have J:(dF bs ⟨s.aP,s.re,false⟩ b).ch=false:=by rw[C]
 unfold dF at C J;rw[hx] at C J;simp only at C J hr;rw[if_pos hr] at C J;have O:=(Fh KY S2 _ _ J).2 t ht;have M:(cQ x.fin (jf x (s.aP.getD b [])).1 ⟨s.aP,s.re,false⟩ t).ch=false:=by rw[O]
 unfold cQ at M;split at M
 .cases M
 .rename_i hc;have hc:=not_or.1 hc;refine⟨by simpa using hc.1,Classical.byContradiction fun hh=>hc.2 hh⟩
theorem QL{bs:List cE}{n:Nat}{J:CS->Prop}(hb:∀ b∈bs,sP n b)(C:∀ s,fX n s->J s->J (ke bs s)):∀ (k:Nat) (s:CS),fX n s->J s->pM s<k->fX n (mr bs k s)/\U3 bs (mr bs k s)/\J (mr bs k s)
 |0,s,_,_,h=>absurd h (Nat.not_lt_zero _)
 |k+1,s,hs,hj,h=>by
  obtain⟨M,O⟩:=BZ hb hs;unfold mr;split
  .rename_i hc;refine QL hb C k _ M (C s hs hj) ?_;unfold nS at O;rw[if_pos hc] at O;omega
  .rename_i hc;exact⟨M,(aaN (by simpa using hc)).2,C s hs hj⟩
theorem aaO{bs:List cE}{n:Nat}{J:CS->Prop}(hb:∀ b∈bs,sP n b)(h0:∀ s,J s->J ⟨s.aP,s.re,false⟩)(C:∀ s k,fX n s->J s->J (dF bs s k)){s:CS}(hs:fX n s)(h:J s):J (ke bs s):=by
 unfold ke
 have:∀ (l:List Nat) (s:CS),fX n s->J s->J (l.foldl (dF bs) s):=fun l=>by
  induction l with
  |nil=>exact fun s _ h=>h
  |cons a l ih=>exact fun s hs h=>ih _ (JF hb hs).1 (C s a hs h)
 exact this _ _ ⟨hs.lw,hs.lr,hs.jX,hs.rg⟩ (h0 s h)
theorem abS{bs:List cE}{n:Nat}{J:CS->Prop}(hb:∀ b∈bs,sP n b){s:CS}{k:Nat}(hs:fX n s)(h:J s)
 (C:∀ x,bs[k]? =some x->s.re.getD k false=true->∀ u,fX n u->J u->∀ t∈nextR x.fin,J (cQ x.fin (jf x (s.aP.getD k [])).1 u t)):J (dF bs s k):=by
 unfold dF;split
 .exact h
 .rename_i x hx;split
  .rename_i hr;have C:=C x hx hr;have M:=(hb x (cX hx)).to;generalize (jf x (s.aP.getD k [])).1=w at C
   have:∀ (l:List Int),(∀ t∈l,t∈nextR x.fin)->∀ u,fX n u->J u->J (l.foldl (cQ x.fin w) u):=fun l=>by
    induction l with
    |nil=>exact fun _ u _ h=>h
    |cons a l ih=>exact fun hl u hu h=>ih (fun t ht=>hl t (by simp[ht])) _ (ET hu (M a (hl a oS))).1 (C u hu h a (hl a oS))
   exact this _ (fun _ h=>h) s hs h
  .exact h
theorem Fi{α:Type}{l:List α}{k i:Nat}{x d:α}(hk:k<l.length):(l.set k x).getD i d=if i=k then x else l.getD i d:=by
 rw[eg,List.getElem?_set,eg];by_cases h:k=i
 .subst h;rw[if_pos rfl,if_pos rfl,if_pos hk];rfl
 .rw[if_neg h,if_neg fun e=>h e.symm]
theorem fX.UW{n:Nat}{s:CS}(h:fX n s){b:Nat}(hb:b<n):eE (s.aP.getD b []):=by
 have hl:b<s.aP.length:=by rw[h.lw];exact hb
 have hx:s.aP[b]? =some s.aP[b]:=bB hl;rw[getD_some hx];have hm:s.aP[b]∈s.aP:=df _;exact⟨h.jX _ hm,h.rg _ hm⟩
structure Cert where
 any:Bool
 is:List Bool
def gk(R i:Nat):Nat:=if i<R then i else 1200+(i - R)
def cz(R n:Nat)(w:List Int):List Bool:=(range n).map fun i=>eb w (gk R i)
def lX(R n:Nat)(w:List Int):Prop:=∀ r,eb w r=true->∃ i,i<n/\r=gk R i
def jt(c:Cert)(r:Int):Cert:=if r= -1 then c else⟨c.any,c.is.set r.toNat true⟩
def uy(R:Nat)(c:Cert)(x:bS):Cert:=if x.op=18 then jt (jt c (dB x)) ((R:Int)+x.n) else jt c (dB x)
def eY(R:Nat)(l:List bS)(c:Cert):Cert:=l.foldl (uy R) c
def mF(x:End)(to:Int)(c:Cert):Cert:=if x.to≠to\/(eO x).tail.any (·==to)=true\/x.kind=3\/x.kind=4 then c else jt c (eu x)
def pb(a b:Cert):Cert:=if a.any=true then b else if b.any=true then a else⟨false,List.zipWith (fun x y=>x&&y) a.is b.is⟩
def qF(c:Cert)(rs:List Int):Bool:=rs.all fun r=>c.is.getD r.toNat false
theorem Cl(R n:Nat)(w:List Int):(cz R n w).length=n:=by simp[cz]
theorem sF{R n i:Nat}{w:List Int}(h:i<n):(cz R n w)[i]? =some (eb w (gk R i)):=by simp[cz,h]
theorem At{R n i:Nat}{w:List Int}(h:¬ i<n):(cz R n w)[i]? =none:=by simp[cz];omega
theorem abV{R i j:Nat}(hR:R<=1200)(h:gk R i=gk R j):i=j:=by
 unfold gk at h;split at h<;>split at h<;>omega
theorem abW{w:List Int}(h:w.length=20){r:Nat}(hr:¬ r<1280):eb w r=false:=by
 unfold eb;rw[eg,List.getElem?_eq_none (by rw[h];omega)];simp
section
variable{R n:Nat}(hR:R<=1200)(hn:n<=R+60)
include hR hn
theorem acJ{i:Nat}(h:i<n):gk R i<1280:=by unfold gk;split<;>omega
theorem PV{w:List Int}(C:eE w){i:Nat}(h:i<n)(r:Nat):eb (fW w (gk R i:Nat)) r=(eb w r||decide (r=gk R i)):=by
 have:=acJ hR hn h;unfold fW;rw[if_pos oG,dX,JL C.all (by rw[C.len];omega)]
theorem Fv{w:List Int}(C:eE w){i:Nat}(h:i<n):(cz R n w).set i true=cz R n (fW w (gk R i:Nat)):=by
 apply List.ext_getElem?;intro j;rw[List.getElem?_set];by_cases hj:j<n
 .rw[sF hj,sF hj,PV hR hn C h];by_cases e:i=j
  .subst e;simp[Cl,h]
  .rw[if_neg e];have:¬ gk R j=gk R i:=fun h=>e (abV hR h).symm;simp[this]
 .rw[At hj,At hj];split
  .rw[Cl,if_neg oG]
  .rfl
theorem Fj{w:List Int}(C:eE w)(ho:lX R n w){i:Nat}(h:i<n):lX R n (fW w (gk R i:Nat)):=fun r hr=>by
 rw[PV hR hn C h,Bool.or_eq_true] at hr;rcases hr with hr|hr
 .exact ho r hr
 .exact⟨i,h,by simpa using hr⟩
omit hR hn in
theorem aaP{w v:List Int}(C:eE w)(hv:eE v):List.zipWith (fun x y=>x&&y) (cz R n w) (cz R n v)=cz R n (ia w v):=by
 apply List.ext_getElem?;intro j;rw[List.getElem?_zipWith];by_cases hj:j<n
 .rw[sF hj,sF hj,sF hj,JM C hv]
 .rw[At hj,At hj,At hj]
omit hR hn in
theorem PW{w v:List Int}(C:eE w)(hv:eE v)(ho:lX R n v):lX R n (ia w v):=fun r hr=>by
 rw[JM C hv,ay] at hr;exact ho r hr.2
omit hR hn in
theorem abX{w v:List Int}(M:eE w)(hv:eE v)(J:lX R n w)(O:lX R n v)(h:cz R n w=cz R n v):w=v:=by
 refine PX M.all hv.all (by rw[M.len,hv.len]) fun r=>?_
 have hb:∀ i,i<n->eb w (gk R i)=eb v (gk R i):=fun i hi=>by
  have:=congrArg (fun l:List Bool=>l[i]?) h;simpa only[sF hi,aK] using this
 cases C:eb w r with
 |true=>
  obtain⟨i,hi,rfl⟩:=J r C;rw[<- hb i hi,C]
 |false=>
  cases e2:eb v r with
  |false=>rfl
  |true=>
   obtain⟨i,hi,rfl⟩:=O r e2;rw[hb i hi,e2] at C;cases C
end
def sR:List Int:=replicate 20 kU
theorem JO:eE sR:=⟨by simp[sR],fun u hu=>by rw[List.eq_of_mem_replicate hu];simp[dW,kU]⟩
theorem aaQ{r:Nat}(h:r<1280):eb sR r=true:=by
 have h1:sR.getD (r / 64) 0=kU:=by
  unfold sR;rw[eg,List.getElem?_replicate,if_pos oG];rfl
 unfold eb;rw[h1];have h2:r % 64<64:=Nat.mod_lt _ oC;have C:kU.toNat=2 ^ 64 - 1:=rfl;rw[C,Nat.testBit_two_pow_sub_one];simpa using h2
theorem Zg{w:List Int}(C:eE w):ia sR w=w:=by
 refine PX (JO.MY C).all C.all (by rw[(JO.MY C).len,C.len]) fun r=>?_;rw[JM JO C];by_cases h:r<1280
 .rw[aaQ h,Bool.true_and]
 .rw[abW C.len h,Bool.and_false]
structure yX(R n:Nat)(x:bS):Prop where
 w:dB x= -1\/∃ i:Nat,i<R/\dB x=i
 s:x.op=18->∃ i:Nat,R+i<n/\x.n=i
theorem QO{R n:Nat}(hR:R<=1200)(hn:n<=R+60)(X:R<=n){w:List Int}{x:bS}(h:yX R n x)(C:eE w)(ho:lX R n w):
 uy R ⟨false,cz R n w⟩ x=⟨false,cz R n (vV w x)⟩/\eE (vV w x)/\lX R n (vV w x):=by
 have O:∀ {v:List Int},fW v (-1)=v:=fun {v}=>by unfold fW;rw[if_neg oG]
 have M:∀ {i:Nat},i<R->((i:Nat):Int)=(gk R i:Nat):=fun {i} hi=>by unfold gk;rw[if_pos hi]
 unfold uy vV;by_cases J:x.op=18
 .obtain⟨i,hi,e⟩:=h.s J;have U:dB x= -1:=by simp[dB,aI,mv,nX,J]
  have hp:kG x.n=(gk R (R+i):Nat):=by rw[e];unfold kG gk;rw[if_neg oG];omega
  rw[if_pos J,if_pos J,U,hp];refine⟨?_,C.fW _,Fj hR hn C ho hi⟩;unfold jt;rw[if_pos rfl,if_neg oG,e, <- Fv hR hn C hi];congr 2
 .rw[if_neg J,if_neg J];rcases h.w with e|⟨i,hi,e⟩
  .rw[e,O];exact⟨if_pos rfl,C,ho⟩
  .rw[e,M hi];refine⟨?_,C.fW _,Fj hR hn C ho oG⟩;unfold jt;rw[if_neg oG, <- Fv hR hn C oG, <- M hi,dX]
theorem Cm{R n:Nat}(hR:R<=1200)(hn:n<=R+60)(C:R<=n):∀ {l:List bS} (_:∀ x∈l,yX R n x) {w:List Int} {ok:Bool} (_:eE w) (_:lX R n w),
 eY R l ⟨false,cz R n w⟩=⟨false,cz R n (l.foldl lC (w,ok)).1⟩/\eE (l.foldl lC (w,ok)).1/\lX R n (l.foldl lC (w,ok)).1
 |[],_,w,ok,hw,ho=>⟨rfl,hw,ho⟩
 |x::l,h,w,ok,hw,ho=>by
  obtain⟨h1,h2,J⟩:=QO hR hn C (h x oS) hw ho;unfold eY;rw[List.foldl_cons,List.foldl_cons,h1];exact Cm hR hn C (fun y hy=>h y (by simp[hy])) h2 J
theorem count_tail{l:List Int}{a b:Int}(h:a=b):((a::l).count b=1)↔l.any (·==b)=false:=by
 subst h;rw[List.count_cons_self,List.any_eq_false];constructor
 .intro h x hx;have h0:l.count a=0:=by omega
  rw[List.count_eq_zero] at h0;intro e;have:x=a:=by simpa using e
  subst this;exact h0 hx
 .intro h;have:l.count a=0:=List.count_eq_zero.2 fun hm=>h a hm oS;omega
theorem QP{R n:Nat}(hR:R<=1200)(hn:n<=R+60)(pS:R<=n){x:End}(he:eO x=dh x)(X:eu x= -1\/∃ i:Nat,i<R/\eu x=i){to:Int}{w:List Int}(C:eE w)(ho:lX R n w):
 mF x to ⟨false,cz R n w⟩=⟨false,cz R n (gD x to w)⟩/\eE (gD x to w)/\lX R n (gD x to w):=by
 have U:∀ {v:List Int},fW v (-1)=v:=fun {v}=>by unfold fW;rw[if_neg oG]
 have O:AB x to=true↔¬ (x.to≠to\/(eO x).tail.any (·==to)=true\/x.kind=3\/x.kind=4):=by
  unfold AB;rw[ay,na,na,he];unfold dh;by_cases J:x.kind=3\/x.kind=4
  .rw[if_pos (by simpa[aI] using J)];simp[J]
  .rw[if_neg (by simpa[aI] using J),List.tail_cons];generalize ((if aI [2,8] x.kind=true then [x.gP] else [])++(x.aJ.map (·.to)++if ig x=true then [x.others] else []))=l;constructor
   .rintro⟨h1,h2⟩ h;rcases h with h|h|h|h
    .exact h h1
    .have:=(count_tail (l:=l) h1).1 oG;rw[this] at h;cases h
    .exact J (.inl h)
    .exact J (.inr h)
   .intro h;have h1:x.to=to:=Classical.byContradiction fun e=>h (.inl e);refine⟨h1,?_⟩;have:=(count_tail (l:=l) h1).2 (Bool.eq_false_iff.2 fun e=>h (.inr (.inl e)));omega
 unfold mF gD;by_cases ha:AB x to=true
 .rw[if_pos ha,if_neg (O.1 ha)];rcases X with e|⟨i,hi,e⟩
  .rw[e,U];exact⟨if_pos rfl,C,ho⟩
  .have M:((i:Nat):Int)=(gk R i:Nat):=by unfold gk;rw[if_pos hi]
   rw[e,M];refine⟨?_,C.fW _,Fj hR hn C ho oG⟩;unfold jt;rw[if_neg oG, <- Fv hR hn C oG, <- M,dX]
 .rw[if_neg ha,if_pos (Classical.byContradiction fun h=>ha (O.2 h))];exact⟨rfl,C,ho⟩
structure pf(R n N:Nat)(s:CS):Prop where
 ok:fX N s
 yes:∀ k,k<N->s.re.getD k false=true->lX R n (s.aP.getD k [])
 no:∀ k,k<N->s.re.getD k false=false->s.aP.getD k []=sR
def cA(R n:Nat)(s:CS)(k:Nat):Cert:=if s.re.getD k false=true then⟨false,cz R n (s.aP.getD k [])⟩ else⟨true,replicate n false⟩
def Be(x:End)(R n:Nat)(w:List Int)(s:CS)(t:Nat):Cert:=pb (cA R n s t) (mF x t ⟨false,cz R n w⟩)
theorem RM{R n N:Nat}(hR:R<=1200)(hn:n<=R+60)(pS:R<=n){s:CS}(hs:pf R n N s){x:End}(he:eO x=dh x)(pQ:eu x= -1\/∃ i:Nat,i<R/\eu x=i){t:Nat}(ht:t<N)
 {w:List Int} (hw:eE w) (ho:lX R n w):
 pf R n N (cQ x w s t)/\((Be x R n w s t=cA R n s t/\cQ x w s t=s)\/((Be x R n w s t).any≠(cA R n s t).any\/(Be x R n w s t).is≠(cA R n s t).is)/\(cQ x w s t).ch=true/\
  ∀ k,cA R n (cQ x w s t) k=if k=t then Be x R n w s t else cA R n s k):=by
 obtain⟨o1,C,M⟩:=QP hR hn pS he pQ (to:=(t:Int)) hw ho;have hlw:s.aP.length=N:=hs.ok.lw;have hlr:s.re.length=N:=hs.ok.lr;have mh:=hs.ok.UW ht;have V':=(ET (x:=x) (w:=w) (t:=(t:Int)) hs.ok ⟨oG,oG⟩).1;unfold Be;rw[o1];generalize hv:gD x t w=v at C M
 have key:∀ u:List Int,(s.re.getD t false=true->u≠s.aP.getD t [])->ia (s.aP.getD t []) v=u->lX R n u->pb (cA R n s t) ⟨false,cz R n v⟩=⟨false,cz R n u⟩->(⟨false,cz R n u⟩:Cert).any≠(cA R n s t).any\/cz R n u≠(cA R n s t).is->
  pf R n N (cQ x w s t)/\((pb (cA R n s t) ⟨false,cz R n v⟩=cA R n s t/\cQ x w s t=s)\/((pb (cA R n s t) ⟨false,cz R n v⟩).any≠(cA R n s t).any\/(pb (cA R n s t) ⟨false,cz R n v⟩).is≠(cA R n s t).is)/\(cQ x w s t).ch=true/\
  ∀ k,cA R n (cQ x w s t) k=if k=t then pb (cA R n s t) ⟨false,cz R n v⟩ else cA R n s k):=fun u hu hm U hb a8=>by
  have X:cQ x w s t=⟨s.aP.set t u,s.re.set t true,true⟩:=by
   unfold cQ;rw[dX,hv,hm,if_pos];cases e:s.re.getD t false with
   |false=>exact .inl rfl
   |true=>exact .inr (hu e)
  rw[X] at V' ⊢;have O:∀ k,(s.aP.set t u).getD k []=if k=t then u else s.aP.getD k []:=fun k=>Fi oG
  have wQ:∀ k,(s.re.set t true).getD k false=if k=t then true else s.re.getD k false:=fun k=>Fi oG
  refine⟨⟨V',fun k hk h=>?_,fun k hk h=>?_⟩,.inr ⟨?_,rfl,fun k=>?_⟩⟩
  .rw[O];rw[wQ] at h;by_cases e:k=t
   .rw[if_pos e];exact U
   .rw[if_neg e] at h ⊢;exact hs.yes k hk h
  .rw[O];rw[wQ] at h;by_cases e:k=t
   .rw[if_pos e] at h;cases h
   .rw[if_neg e] at h ⊢;exact hs.no k hk h
  .rw[hb];exact a8
  .rw[hb];unfold cA;rw[O,wQ];by_cases e:k=t
   .rw[if_pos e,if_pos e,if_pos e,if_pos rfl]
   .rw[if_neg e,if_neg e,if_neg e]
 cases J:s.re.getD t false with
 |false=>
  have hc:cA R n s t=⟨true,replicate n false⟩:=by unfold cA;rw[J];rfl
  refine key v (fun h=>by rw[J] at h;cases h) (by rw[hs.no t ht J,Zg C]) M ?_ (.inl ?_)
  .rw[hc];rfl
  .rw[hc];simp
 |true=>
  have hc:cA R n s t=⟨false,cz R n (s.aP.getD t [])⟩:=by unfold cA;rw[J];rfl
  have hb:pb (cA R n s t) ⟨false,cz R n v⟩=⟨false,cz R n (ia (s.aP.getD t []) v)⟩:=by
   rw[hc];unfold pb;rw[if_neg oS,if_neg oS,aaP mh C]
  by_cases hm:ia (s.aP.getD t []) v=s.aP.getD t []
  .have X:cQ x w s t=s:=by
    unfold cQ;rw[dX,hv,hm,J,if_neg oS]
   rw[X,hb,hm,hc];exact⟨hs,.inl ⟨rfl,rfl⟩⟩
  .refine key _ (fun _=>hm) rfl (PW mh C M) hb (.inr fun e=>hm ?_);rw[hc] at e;exact abX (mh.MY C) mh (PW mh C M) (hs.yes t ht J) e
theorem RL{R n N:Nat}{s:CS}(h:pf R n N s)(c:Bool):pf R n N ⟨s.aP,s.re,c⟩:=⟨⟨h.ok.lw,h.ok.lr,h.ok.jX,h.ok.rg⟩,h.yes,h.no⟩
theorem PJ{R n N args:Nat}(hR:R<=1200)(hn:n<=R+60)(pS:R<=n)(U:0<N)(ha:args<=R):pf R n N (kf N args)/\cA R n (kf N args) 0=⟨false,replicate args true++replicate (n - args) false⟩/\
 ∀ k,0<k->k<N->cA R n (kf N args) k=⟨true,replicate n false⟩:=by
 have hA:∀ k,k<=R->eE (iM k)/\lX R n (iM k)/\cz R n (iM k)=replicate k true++replicate (n - k) false:=fun k=>by
  induction k with
  |zero=>
   intro _;have hz:∀ r,eb (iM 0) r=false:=aaR 20;refine⟨⟨oS,EU 0⟩,(fun r hr=>by rw[hz r] at hr;cases hr),?_⟩;apply List.ext_getElem?;intro j;by_cases hj:j<n
   .rw[sF hj,hz];simp[hj]
   .rw[At hj];simp;omega
  |succ k ih=>
   intro hk;obtain⟨h1,h2,M⟩:=ih oG;have kV:((k:Nat):Int)=(gk R k:Nat):=by unfold gk;rw[if_pos oG]
   have he:iM (k+1)=fW (iM k) (gk R k:Nat):=by rw[<- kV];rfl
   rw[he];refine⟨h1.fW _,Fj hR hn h1 h2 oG,?_⟩;rw[<- Fv hR hn h1 oG,M,Ke oG]
 obtain⟨h1,h2,M⟩:=hA args ha;have J:∀ k,(kf N args).aP.getD k []=if k=0 then iM args else(replicate N sR).getD k []:=fun k=>Fi (by simpa using U)
 have C:∀ k,(kf N args).re.getD k false=if k=0 then true else(replicate N false).getD k false:=fun k=>Fi (by simpa using U)
 have O:∀ k,k<N->(replicate N sR).getD k []=sR:=fun k hk=>by rw[eg,List.getElem?_replicate,if_pos hk];rfl
 have X:∀ k,(replicate N false).getD k false=false:=fun k=>by
  rw[eg,List.getElem?_replicate];split<;>rfl
 refine⟨⟨ID (EU args),fun k hk h=>?_,fun k hk h=>?_⟩,?_,fun k h0 hk=>?_⟩
 .rw[C] at h;rw[J];by_cases e:k=0
  .rw[if_pos e];exact h2
  .rw[if_neg e,X] at h;cases h
 .rw[C] at h;rw[J];by_cases e:k=0
  .rw[if_pos e] at h;cases h
  .rw[if_neg e];exact O k hk
 .unfold cA;rw[C,J,if_pos rfl,if_pos rfl,if_pos rfl,M]
 .unfold cA;rw[C,if_neg (show ¬ k=0 by omega),X];rfl
end Go.Argus
section
open Go Go.Abs Go.Proofs Go.Argus
namespace Go.Abs
theorem RH{P:Program}{st:St}{a n:Nat}{ty:TypeId}{cs vs:List D}(ha:st.env a=.pt cs)(hg:bG P ty=true)(hc:P.cellsOf ty=n)(hv:cs.take n=vs)(ht:aG P ty=true)(hl:n<=cs.length):
 ∃ p,qk P st (.cell a ty)=some (p,.agg vs)/\p:=⟨aG P ty=true/\n<=cs.length,by simp only[qk,ha,jo,hg,if_true,hc,hv],ht,hl⟩
end Go.Abs
namespace Go.Argus
def cC(c:Cert):List D:=[B c.any,ld c.is]
@[simp] theorem akv (c : Cert) : (cC c).length = 2 := rfl
theorem sJ(c:Cert):∀ a∈cC c,Tr a:=.cons (.s _) (.cons (.sl (.map fun _=>.s _)) .nil)
theorem Ff(c:Cert)(r:Int):(jt c r).is.length=c.is.length:=by unfold jt;split<;>simp
theorem aap(R:Nat)(c:Cert)(x:bS):(uy R c x).is.length=c.is.length:=by unfold uy;split<;>simp[Ff]
theorem B'(R:Nat):∀ (l:List bS) (c:Cert),(eY R l c).is.length=c.is.length
 |[],_=>rfl
 |x::l,c=>by
  unfold eY;rw[List.foldl_cons];exact(B' R l _).trans (aap R c x)
theorem PG(x:End)(to:Int)(c:Cert):(mF x to c).is.length=c.is.length:=by unfold mF;split<;>simp[Ff]
def DI(n:Nat)(r:Int):Prop:=r= -1\/∃ i:Nat,i<n/\r=i
end Go.Argus
namespace Go.Proofs.Tryz.K
theorem rZ{c:Cert}{rs:List Int}(M:∀ r∈rs,∃ i:Nat,i<c.is.length/\r=i):ax prog 66 [.agg (cC c),aX rs] (B (qF c rs)):=by
 have C:∀ a∈[D.agg (cC c),aX rs],Tr a:=.cons (.agg (sJ c)) (.cons (ew _) .nil);refine qH UQ.he C fun O=>?_;have hlen:=(O (aX rs) oS).sl.1;unfold maxLen at hlen;refine bP UQ C (Tr.s _) ?_;rw[ahy];refine aE ?_;refine af ?_;refine ab (bj (cr [(0,cC c,99)] eH (l:=[(1,aX rs),(2,.pt (cC c))]) eH) (aV (aE ?_)));refine SS ?_
 refine ab (dA (fun s=>aR prog s ⟨aH [],fun _=>none,1⟩/\∀ (j:Nat) y,rs[j]? =some y->c.is.getD y.toNat false=true) (eX (α:=Nat) (fun k=>⟨aH [(1,aX rs),(2,.pt (cC c)),(5,I k)],fun _=>none,1⟩)
  (fun k=>k<=rs.length/\∀ j y,j<k->rs[j]? =some y->c.is.getD y.toNat false=true) (fun k=>rs.length - k) 0 (aq eH) ⟨oG,fun j y hj=>by omega⟩ ?_) ?_)
 .rintro k ⟨hk,hinv⟩;refine a7 ?_;refine ab ⟨_,rfl,fun h=>?_,fun h=>?_⟩
  .have aj:k<rs.length:=by simpa using h
   have hx:rs[k]? =some rs[k]:=bB aj;obtain⟨i,hi,e⟩:=M _ (df aj);have hy:c.is[i]? =some c.is[i]:=bB hi;rw[e] at hx;clear e
   have hg:∀ y,rs[k]? =some y->c.is.getD y.toNat false=c.is[i]:=fun y h=>by
    rw[hx] at h;cases h;rw[dX,getD_some hy]
   generalize c.is[i]=b at hy hg;refine eF aaq ?_;refine SN9 ?_;refine bX bY (yC rfl (fun hp=>?_) fun hp=>?_)
   .refine ws ?_;refine SS ?_;refine ab (bh (dp (aY (ap (d:=B false) rfl ?_))));have:qF c rs=false:=List.all_eq_false.2 ⟨_,cX hx,by rw[hg _ hx];simpa using hp⟩;rw[this]
   .refine eC ?_;refine aB ?_;refine ab (bD (k+1) (aq eH) ⟨oG,fun j y hj hy=>?_⟩ oG);by_cases e:j=k
    .subst e;rw[hg y hy];simpa using hp
    .exact hinv j y oG hy
  .have U:¬ k<rs.length:=by simpa using h
   exact⟨.forget _ _ _ _ fun _=>.inr rfl,fun j y hy=>hinv j y (by have:=(bZ.1 hy).1;omega) hy⟩
 .rintro s ⟨hg,J⟩;refine⟨_,hg,al ?_⟩;refine SS ?_;refine ab (ap (d:=B true) rfl ?_)
  have:qF c rs=true:=b7.2 fun x hx=>by
   obtain⟨j,hj⟩:=dY hx;exact J j x hj
  rw[this]
theorem jZ{c:Cert}{r:Int}(hl:c.is.length<=100000)(hr:DI c.is.length r):ax prog 67 [.agg (cC c),I r] (.agg (cC (jt c r))):=by
 refine bP ahz (.cons (.agg (sJ c)) (.cons (.s _) .nil)) (.agg (sJ _)) ?_;rw[ahA];refine ws ?_;refine af ?_;refine ab (aV (al ?_));rcases hr with rfl|⟨i,hi,rfl⟩
 .refine af ?_;refine ab (yx ?_);refine aV (al ?_);refine af ?_;refine ab (fN (mA (mV rfl rfl r5 lM rfl t99 (bg rfl)) ?_));rfl
 .have iO:((i:Int)== -1)=false:=by simp
  refine af ?_;refine ab (yw (dL (eF aar ?_)));have J:(c.is.map B).length=c.is.length:=by simp
  have C:(c.is.map B).take (c.is.length*1)=c.is.map B:=dO oS
  (first|refine ao (tS rfl LH) aF (iT c4) ?_|refine ao (nV rfl rfl LH) aF (iT c4) ?_)
  (first|refine ao (ua rfl a4) aF (uc t4 c4) ?_|refine ao (eJ rfl rfl kd a4) aF (eK t4 c4 kd) ?_|refine ao (eJ rfl rfl gj a4) aF (eK t4 c4 gj) ?_|refine ao (eJ rfl rfl rfl a4) aF (eK t4 c4 rfl) ?_)
  (first|refine cM (mn (cs:=[]) zA c4 z4 rfl rfl) aF ⟨rfl,oC,yV,oC⟩ ?_|refine cM (mn zA c4 z4 rfl rfl) aF ⟨rfl,oC,yV,oC⟩ ?_)
  (first|refine ao (tS rfl LI) aF (iT zB) ?_|refine ao (nV rfl rfl LI) aF (iT zB) ?_)
  (first|refine ao (ua rfl Ey) aF (uc t63 zB) ?_|refine ao (eJ rfl rfl kd Ey) aF (eK t63 zB kd) ?_|refine ao (eJ rfl rfl gj Ey) aF (eK t63 zB gj) ?_|refine ao (eJ rfl rfl rfl Ey) aF (eK t63 zB rfl) ?_)
  (first|refine iw (io rfl rfl rfl zA c4 (jd C) rfl) aF ⟨yV,rfl,(by first|omega|exact bg rfl|(simp;done)|(simp;omega)),oC,(by first|rfl|(simp;done)|(simp;omega)),(by unfold maxLen;first|omega|(simp;omega)),(by rw[b4];first|omega|(simp;omega)),(by first|(simp;done)|(simp;omega))⟩ ?_|refine iw (io rfl rfl rfl zA c4 (iJ rfl rfl) rfl) aF ⟨yV,rfl,(by first|omega|exact bg rfl|(simp;done)|(simp;omega)),oC,(by first|rfl|(simp;done)|(simp;omega)),(by unfold maxLen;first|omega|(simp;omega)),(by rw[b4];first|omega|(simp;omega)),(by first|(simp;done)|(simp;omega))⟩ ?_|refine cM (jF rfl rfl zA c4 (jd C)) aF ⟨yV,(by first|omega|exact bg rfl|(simp;done)|(simp;omega)),oC,(by unfold maxLen;first|omega|(simp;omega)),(by rw[b4];first|omega|(simp;omega))⟩ ?_|refine cM (jF rfl rfl zA c4 (iJ rfl rfl)) aF ⟨yV,(by first|omega|exact bg rfl|(simp;done)|(simp;omega)),oC,(by unfold maxLen;first|omega|(simp;omega)),(by rw[b4];first|omega|(simp;omega))⟩ ?_)
  refine ao (Ce VT UR NT rfl rfl) aF ⟨t99,US⟩ ?_;refine cM (Q1 NT) aF t99 ?_;refine dJ (iI rfl rfl rfl rfl) aF (eU t99 lM (by first|(simp;done)|exact⟨rfl,bg rfl⟩|(simp;omega)) (by rfl)) ?_;refine bX bY (al ?_);refine bH ?_;refine ab (aE ?_);refine af ?_
  have e:sub (dG 3 ((c.is.set i true).map B) (prog.cellsOf 4)) (.rs 3 0 (0+c.is.length))=.sl ((c.is.set i true).map B) c.is.length:=by
   rw[c4,Nat.zero_add,Dc,List.drop_zero,dO oS]
  refine ab (bj (cr [(3,(c.is.set i true).map B,4),(1,[B c.any,.sl ((c.is.set i true).map B) c.is.length],99)] ⟨?_,?_,trivial⟩ (l:=[(4,.pt [B c.any,.sl ((c.is.set i true).map B) c.is.length])]) eH) (bh (mA (RH rfl r5 lM rfl t99 (bO _)) ?_)))
  .rw[List.map_set];rfl
  .exact congrArg (fun d=>some (Row.cells [B c.any,d] 99)) e
  unfold jt;rw[if_neg oG,dX];show _=D.agg [B c.any,.sl _ (c.is.set i true).length];rw[List.length_set];rfl
end Go.Proofs.Tryz.K
end
