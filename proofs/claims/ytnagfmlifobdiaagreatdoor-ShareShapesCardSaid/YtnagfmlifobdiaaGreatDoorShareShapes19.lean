/- Part 19. -/
import Derived.Test.YtnagfmlifobdiaaGreatDoorShareShapes6
import Derived.Test.YtnagfmlifobdiaaGreatDoorShareShapes18
set_option linter.all false
set_option maxHeartbeats 2000000
set_option maxRecDepth 10000
open List(range)
open List(replicate)
section
open Go Go.Abs Go.Proofs Go.Argus
namespace Go.Proofs.Tryz.K
theorem wL{n:Int}(hn: -1000000<=n/\n<=1000000):az prog 182 [I n] (I (lL n)):=by
 refine bu alM (by simp[Tr.s]) (Tr.s _) ?_;rw[alN];refine ws ?_;refine SS ?_;refine er ?_;refine av ?_;exact ab (aw rfl rfl)
theorem Cu{x:bK}:az prog 235 [.agg (bA x)] (I (dV x)):=by
 have U:∀ a∈[D.agg (bA x)],Tr a:=.cons (.agg (rQ x)) .nil;refine bu alO U (Tr.s _) ?_;rw[alP];refine ay ?_;refine af ?_;refine ab (aX (bZ [(0,bA x,54)] eH (l:=[(1,.pt (bA x))]) eH) (aI (aj ?_)));refine af ?_;refine ab (ou ?_);refine eT (fun s=>aM prog s ⟨aF [(1,.pt (bA x)),(4,U8 x.op),(5,B (aP nN x.op))],fun _=>none,1⟩) (aj ?_) fun s hg=>⟨_,hg,?_⟩
 .refine af ?_;refine ab (ap rfl (fun h=>bw ?_) fun X=>aj ?_)
  .have h:x.op=1:=by simpa using h
   refine ao ⟨rfl,rfl,?_,trivial⟩;show D.s (.bool (x.op==1))=_;rw[h];rfl
  refine af ?_;refine ab (ap rfl (fun h=>bw ?_) fun e2=>aj ?_)
  .have h:x.op=2:=by simpa using h
   refine ao ⟨rfl,rfl,?_,trivial⟩;show D.s (.bool (x.op==2))=_;rw[h];rfl
  refine af ?_;refine ab (ap rfl (fun h=>bw ?_) fun e3=>aj ?_)
  .have h:x.op=3:=by simpa using h
   refine ao ⟨rfl,rfl,?_,trivial⟩;show D.s (.bool (x.op==3))=_;rw[h];rfl
  refine af ?_;refine ab (ap rfl (fun h=>bw ?_) fun e4=>aj ?_)
  .have h:x.op=4:=by simpa using h
   refine ao ⟨rfl,rfl,?_,trivial⟩;show D.s (.bool (x.op==4))=_;rw[h];rfl
  refine af ?_;refine ab (ap rfl (fun h=>bw ?_) fun e5=>aj ?_)
  .have h:x.op=5:=by simpa using h
   refine ao ⟨rfl,rfl,?_,trivial⟩;show D.s (.bool (x.op==5))=_;rw[h];rfl
  refine af ?_;refine ab (ap rfl (fun h=>bw ?_) fun e6=>aj ?_)
  .have h:x.op=6:=by simpa using h
   refine ao ⟨rfl,rfl,?_,trivial⟩;show D.s (.bool (x.op==6))=_;rw[h];rfl
  refine af ?_;refine ab (ap rfl (fun h=>bw ?_) fun e7=>aj ?_)
  .have h:x.op=7:=by simpa using h
   refine ao ⟨rfl,rfl,?_,trivial⟩;show D.s (.bool (x.op==7))=_;rw[h];rfl
  refine af ?_;refine ab (ap rfl (fun h=>bw ?_) fun e8=>aj ?_)
  .have h:x.op=8:=by simpa using h
   refine ao ⟨rfl,rfl,?_,trivial⟩;show D.s (.bool (x.op==8))=_;rw[h];rfl
  refine af ?_;refine ab (ap rfl (fun h=>bw ?_) fun e9=>aj ?_)
  .have h:x.op=9:=by simpa using h
   refine ao ⟨rfl,rfl,?_,trivial⟩;show D.s (.bool (x.op==9))=_;rw[h];rfl
  refine af ?_;refine ab (ap rfl (fun h=>bw ?_) fun M=>aj ?_)
  .have h:x.op=10:=by simpa using h
   refine ao ⟨rfl,rfl,?_,trivial⟩;show D.s (.bool (x.op==10))=_;rw[h];rfl
  refine af ?_;refine ab (ap rfl (fun h=>bw ?_) fun C=>aj ?_)
  .have h:x.op=11:=by simpa using h
   refine ao ⟨rfl,rfl,?_,trivial⟩;show D.s (.bool (x.op==11))=_;rw[h];rfl
  refine af ?_;refine ab (ap rfl (fun h=>bw ?_) fun xv=>aj ?_)
  .have h:x.op=13:=by simpa using h
   refine ao ⟨rfl,rfl,?_,trivial⟩;show D.s (.bool (x.op==13))=_;rw[h];rfl
  refine af ?_;refine ab (ap rfl (fun h=>bw ?_) fun J=>aj ?_)
  .have h:x.op=14:=by simpa using h
   refine ao ⟨rfl,rfl,?_,trivial⟩;show D.s (.bool (x.op==14))=_;rw[h];rfl
  refine af ?_;refine ab (ap rfl (fun h=>bw ?_) fun Gv=>lP ?_)
  .have h:x.op=17:=by simpa using h
   refine ao ⟨rfl,rfl,?_,trivial⟩;show D.s (.bool (x.op==17))=_;rw[h];rfl
  refine af ?_;refine ab ?_;refine ao ⟨rfl,rfl,?_,trivial⟩;show D.s (.bool (x.op==19))=_;simp[aP,nN,X,e2,e3,e4,e5,e6,e7,e8,e9,M,C,xv,J,Gv]
 refine ap rfl (fun h1=>?_) fun h1=>?_
 .refine ws ?_;refine av ?_;refine ab (bp (bU (a6 (aw (d:=I x.to) rfl ?_))));simp[dV,h1]
 refine eT (fun s=>aM prog s ⟨aF [(1,.pt (bA x)),(4,U8 x.op),(23,B (aP pw x.op))],fun _=>none,1⟩) (aj ?_) fun s hg=>⟨_,hg,?_⟩
 .refine af ?_;refine ab (ap rfl (fun h=>bw ?_) fun xx=>aj ?_)
  .have h:x.op=30:=by simpa using h
   refine ao ⟨rfl,rfl,?_,trivial⟩;show D.s (.bool (x.op==30))=_;rw[h];rfl
  refine af ?_;refine ab (ap rfl (fun h=>bw ?_) fun xy=>aj ?_)
  .have h:x.op=31:=by simpa using h
   refine ao ⟨rfl,rfl,?_,trivial⟩;show D.s (.bool (x.op==31))=_;rw[h];rfl
  refine af ?_;refine ab (ap rfl (fun h=>bw ?_) fun xz=>aj ?_)
  .have h:x.op=32:=by simpa using h
   refine ao ⟨rfl,rfl,?_,trivial⟩;show D.s (.bool (x.op==32))=_;rw[h];rfl
  refine af ?_;refine ab (ap rfl (fun h=>bw ?_) fun xA=>aj ?_)
  .have h:x.op=33:=by simpa using h
   refine ao ⟨rfl,rfl,?_,trivial⟩;show D.s (.bool (x.op==33))=_;rw[h];rfl
  refine af ?_;refine ab (ap rfl (fun h=>bw ?_) fun sy=>aj ?_)
  .have h:x.op=34:=by simpa using h
   refine ao ⟨rfl,rfl,?_,trivial⟩;show D.s (.bool (x.op==34))=_;rw[h];rfl
  refine af ?_;refine ab (ap rfl (fun h=>bw ?_) fun O=>lP ?_)
  .have h:x.op=36:=by simpa using h
   refine ao ⟨rfl,rfl,?_,trivial⟩;show D.s (.bool (x.op==36))=_;rw[h];rfl
  refine af ?_;refine ab ?_;refine ao ⟨rfl,rfl,?_,trivial⟩;show D.s (.bool (x.op==37))=_;simp[aP,pw,xx,xy,xz,xA,sy,O]
 refine ap rfl (fun h2=>?_) fun h2=>?_
 .refine ws ?_;refine av ?_;refine ab (bp (bU (a6 (aw (d:=I x.to) rfl ?_))));simp[dV,h2]
 refine nS (aj ?_);refine SS ?_;refine ab (aw (d:=I (-1)) rfl ?_);simp[dV,h1,h2]
theorem Ph{x:Argus.End}:az prog 186 [.agg (a8 x)] (I (fc x)):=by
 have J:∀ a∈[D.agg (a8 x)],Tr a:=.cons (.agg (mr x)) .nil;have Cu:=Cu (x:=x.ins);refine bu alQ J (Tr.s _) ?_;rw[alR];refine ay ?_;refine af ?_;refine ab (aX (bZ [(0,a8 x,57)] eH (l:=[(1,.pt (a8 x))]) eH) (aI (aj ?_)));refine af ?_;refine ab (ou (aj ?_));refine af ?_;refine ab (ap rfl (fun h1=>?_) fun h1=>?_)
 .have h1:x.kind=5:=by simpa using h1
  refine ws ?_;refine af ?_;refine cl Cu ?_;refine SS ?_;refine ab (bp (bU (a6 (aw (d:=I (dV x.ins)) rfl ?_))));simp[fc,h1]
 have h1:¬ x.kind=5:=by simpa using h1
 refine eT (fun s=>aM prog s ⟨aF [(1,.pt (a8 x)),(4,U8 x.kind),(10,B (aP [6,7] x.kind))],fun _=>none,1⟩) (aj ?_) fun s hg=>⟨_,hg,?_⟩
 .refine af ?_;refine ab (ap rfl (fun h=>bw ?_) fun e6=>lP ?_)
  .have h:x.kind=6:=by simpa using h
   refine ao ⟨rfl,rfl,?_,trivial⟩;show D.s (.bool (x.kind==6))=_;rw[h];rfl
  refine af ?_;refine ab ?_;refine ao ⟨rfl,rfl,?_,trivial⟩;show D.s (.bool (x.kind==7))=_;simp[aP,e6]
 refine ap rfl (fun h2=>?_) fun h2=>?_
 .refine ws ?_;refine av ?_;refine ab (bp (bU (a6 (aw (d:=I x.a) rfl ?_))));simp[fc,h1,h2]
 refine ws ?_;refine af ?_;refine ab (ap rfl (fun C=>?_) fun C=>?_)
 .have C:x.kind=8:=by simpa using C
  refine ws ?_;refine av ?_;refine ab (bp (bU (a6 (aw (d:=I x.b) rfl ?_))));simp[fc,h2,C];simp[aP]
 have C:¬ x.kind=8:=by simpa using C
 refine nS (aj ?_);refine SS ?_;refine ab (aw (d:=I (-1)) rfl ?_);simp[fc,h1,h2,C]
theorem tS{l:List Int}(hl:l.length<=100000):az prog 93 [aT l] (aT l):=by
 have J:∀ a∈[aT l],Tr a:=.cons (dU _) .nil;refine bu aol J (dU _) ?_;rw[aom];have M:(l.map I).take (l.length*1)=l.map I:=cO oS
 have last:AW prog kT true (.seq (.region 3 (Z zM 3) false) .ret) (mK prog [.tmp 2] fun d x=>d=aT l) ⟨aF [(0,aT l)],fun _=>none,0⟩:=by
  refine ay ?_;refine af ?_;refine eE (eC rfl rfl rfl V.h V.h (fN M) rfl) ak ⟨V.h,rfl,(by first|omega|exact bt rfl|(simp;done)|(simp;omega)),oC,(by first|rfl|(simp;done)|(simp;omega)),(by unfold maxLen;first|omega|(simp;omega)),(by rw[b3];first|omega|(simp;omega)),(by first|(simp;done)|(simp;omega))⟩ ?_;refine SS ?_;refine ab (aX (bZ [(1,l.map I,3)] eH (l:=[(2,aT l)]) ⟨?_,trivial⟩) (aw rfl rfl));show tE _ [(1,l.map I,3)] (.rs 1 0 (0+l.length))=.sl (l.map I) l.length;rw[Nat.zero_add];exact lT c3 (cO oS)
 refine ws ?_;refine SS ?_;refine ab ?_;refine eT (fun s=>aM prog s ⟨aF [(0,aT l)],fun _=>none,0⟩) (aj ?_) fun s hg=>⟨_,hg,last⟩
 cases l with
 |nil=>
  refine SS ?_;refine aq (II rfl) ak V.h ?_;refine ab (UI rfl (ay ?_) (bw (ao eH)));refine SS ?_;exact ab (aX (ud (n0:=2) rfl) (bp (a6 (aw rfl rfl))))
 |cons a l=>
  have C:(a::l).length≠0:=by simp
  refine SS ?_;refine aq (IJ rfl C) ak V.h ?_;exact ab (ap rfl (fun h=>oH) fun h=>bw (ao eH))
theorem CC{x:bK}(hx:x.op=10\/x.op=38->x.args.length<=1000):az prog 181 [.agg (bA x)] (aT (c6 x)):=by
 have bx:∀ a∈[D.agg (bA x)],Tr a:=.cons (.agg (rQ x)) .nil;refine bu alS bx (dU _) ?_;rw[alT];refine ay ?_;refine af ?_;refine ab (aX (bZ [(0,bA x,54)] eH (l:=[(1,.pt (bA x))]) eH) (aI (aj ?_)));refine af ?_;refine ab (ou ?_);refine eT (fun s=>aM prog s ⟨aF [(1,.pt (bA x)),(4,U8 x.op),(5,B (aP pA x.op))],fun _=>none,1⟩) (aj ?_) fun s hg=>⟨_,hg,?_⟩
 .refine af ?_;refine ab (ap rfl (fun h=>bw ?_) fun e2=>aj ?_)
  .have h:x.op=2:=by simpa using h
   refine ao ⟨rfl,rfl,?_,trivial⟩;show D.s (.bool (x.op==2))=_;rw[h];rfl
  refine af ?_;refine ab (ap rfl (fun h=>bw ?_) fun e8=>aj ?_)
  .have h:x.op=8:=by simpa using h
   refine ao ⟨rfl,rfl,?_,trivial⟩;show D.s (.bool (x.op==8))=_;rw[h];rfl
  refine af ?_;refine ab (ap rfl (fun h=>bw ?_) fun M=>aj ?_)
  .have h:x.op=11:=by simpa using h
   refine ao ⟨rfl,rfl,?_,trivial⟩;show D.s (.bool (x.op==11))=_;rw[h];rfl
  refine af ?_;refine ab (ap rfl (fun h=>bw ?_) fun xv=>aj ?_)
  .have h:x.op=13:=by simpa using h
   refine ao ⟨rfl,rfl,?_,trivial⟩;show D.s (.bool (x.op==13))=_;rw[h];rfl
  refine af ?_;refine ab (ap rfl (fun h=>bw ?_) fun O=>aj ?_)
  .have h:x.op=14:=by simpa using h
   refine ao ⟨rfl,rfl,?_,trivial⟩;show D.s (.bool (x.op==14))=_;rw[h];rfl
  refine af ?_;refine ab (ap rfl (fun h=>bw ?_) fun Gw=>aj ?_)
  .have h:x.op=15:=by simpa using h
   refine ao ⟨rfl,rfl,?_,trivial⟩;show D.s (.bool (x.op==15))=_;rw[h];rfl
  refine af ?_;refine ab (ap rfl (fun h=>bw ?_) fun Gx=>aj ?_)
  .have h:x.op=16:=by simpa using h
   refine ao ⟨rfl,rfl,?_,trivial⟩;show D.s (.bool (x.op==16))=_;rw[h];rfl
  refine af ?_;refine ab (ap rfl (fun h=>bw ?_) fun U=>lP ?_)
  .have h:x.op=18:=by simpa using h
   refine ao ⟨rfl,rfl,?_,trivial⟩;show D.s (.bool (x.op==18))=_;rw[h];rfl
  refine af ?_;refine ab ?_;refine ao ⟨rfl,rfl,?_,trivial⟩;show D.s (.bool (x.op==36))=_;simp[aP,pA,e2,e8,M,xv,O,Gw,Gx,U]
 refine ap rfl (fun h1=>?_) fun h1=>?_
 .refine ay ?_;refine aR ?_;refine ab (aX (bZ [(1,([x.a]).map I,3)] eH (l:=[(2,aT ([x.a]))]) ⟨lT c3 rfl,trivial⟩) (bp (bU (a6 (aw (d:=aT ([x.a])) rfl ?_)))));exact congrArg aT (by unfold c6;rw[if_pos h1])
 refine eT (fun s=>aM prog s ⟨aF [(1,.pt (bA x)),(4,U8 x.op),(18,B (aP sP x.op))],fun _=>none,1⟩) (aj ?_) fun s hg=>⟨_,hg,?_⟩
 .refine af ?_;refine ab (ap rfl (fun h=>bw ?_) fun e3=>aj ?_)
  .have h:x.op=3:=by simpa using h
   refine ao ⟨rfl,rfl,?_,trivial⟩;show D.s (.bool (x.op==3))=_;rw[h];rfl
  refine af ?_;refine ab (ap rfl (fun h=>bw ?_) fun e4=>aj ?_)
  .have h:x.op=4:=by simpa using h
   refine ao ⟨rfl,rfl,?_,trivial⟩;show D.s (.bool (x.op==4))=_;rw[h];rfl
  refine af ?_;refine ab (ap rfl (fun h=>bw ?_) fun e5=>aj ?_)
  .have h:x.op=5:=by simpa using h
   refine ao ⟨rfl,rfl,?_,trivial⟩;show D.s (.bool (x.op==5))=_;rw[h];rfl
  refine af ?_;refine ab (ap rfl (fun h=>bw ?_) fun e6=>aj ?_)
  .have h:x.op=6:=by simpa using h
   refine ao ⟨rfl,rfl,?_,trivial⟩;show D.s (.bool (x.op==6))=_;rw[h];rfl
  refine af ?_;refine ab (ap rfl (fun h=>bw ?_) fun e7=>aj ?_)
  .have h:x.op=7:=by simpa using h
   refine ao ⟨rfl,rfl,?_,trivial⟩;show D.s (.bool (x.op==7))=_;rw[h];rfl
  refine af ?_;refine ab (ap rfl (fun h=>bw ?_) fun X=>aj ?_)
  .have h:x.op=12:=by simpa using h
   refine ao ⟨rfl,rfl,?_,trivial⟩;show D.s (.bool (x.op==12))=_;rw[h];rfl
  refine af ?_;refine ab (ap rfl (fun h=>bw ?_) fun xx=>aj ?_)
  .have h:x.op=30:=by simpa using h
   refine ao ⟨rfl,rfl,?_,trivial⟩;show D.s (.bool (x.op==30))=_;rw[h];rfl
  refine af ?_;refine ab (ap rfl (fun h=>bw ?_) fun xy=>aj ?_)
  .have h:x.op=31:=by simpa using h
   refine ao ⟨rfl,rfl,?_,trivial⟩;show D.s (.bool (x.op==31))=_;rw[h];rfl
  refine af ?_;refine ab (ap rfl (fun h=>bw ?_) fun xz=>aj ?_)
  .have h:x.op=32:=by simpa using h
   refine ao ⟨rfl,rfl,?_,trivial⟩;show D.s (.bool (x.op==32))=_;rw[h];rfl
  refine af ?_;refine ab (ap rfl (fun h=>bw ?_) fun xA=>aj ?_)
  .have h:x.op=33:=by simpa using h
   refine ao ⟨rfl,rfl,?_,trivial⟩;show D.s (.bool (x.op==33))=_;rw[h];rfl
  refine af ?_;refine ab (ap rfl (fun h=>bw ?_) fun sy=>aj ?_)
  .have h:x.op=34:=by simpa using h
   refine ao ⟨rfl,rfl,?_,trivial⟩;show D.s (.bool (x.op==34))=_;rw[h];rfl
  refine af ?_;refine ab (ap rfl (fun h=>bw ?_) fun QT=>lP ?_)
  .have h:x.op=35:=by simpa using h
   refine ao ⟨rfl,rfl,?_,trivial⟩;show D.s (.bool (x.op==35))=_;rw[h];rfl
  refine af ?_;refine ab ?_;refine ao ⟨rfl,rfl,?_,trivial⟩;show D.s (.bool (x.op==37))=_;simp[aP,sP,e3,e4,e5,e6,e7,X,xx,xy,xz,xA,sy,QT]
 refine ap rfl (fun h2=>?_) fun h2=>?_
 .refine ay ?_;refine cG ?_;refine ab (aX (bZ [(1,([x.a,x.b]).map I,3)] eH (l:=[(2,aT ([x.a,x.b]))]) ⟨lT c3 rfl,trivial⟩) (bp (bU (a6 (aw (d:=aT ([x.a,x.b])) rfl ?_)))));exact congrArg aT (by unfold c6;rw[if_neg (by simp[h1]),if_pos h2])
 refine ws ?_;refine af ?_;refine ab (ap rfl (fun C=>?_) fun C=>?_)
 .have C:x.op=10:=by simpa using C
  have tS:=tS (l:=x.args) (by have:=hx (.inl C);omega);refine ws ?_;refine af ?_;refine cl tS ?_;refine SS ?_;refine ab (bp (bU (a6 (aw (d:=aT x.args) rfl ?_))));exact congrArg aT (by unfold c6;rw[if_neg (by simp[h1]),if_neg (by simp[h2]),if_pos C])
 have C:¬ x.op=10:=by simpa using C
 refine ws ?_;refine af ?_;refine ab (ap rfl (fun J=>?_) fun J=>?_)
 .have J:x.op=38:=by simpa using J
  have hl:=hx (.inr J);have cU:(x.args.map I).take (x.args.length*1)=x.args.map I:=cO oS;refine ay ?_;refine fB ?_;refine eE (eC rfl rfl rfl V.h V.h (fN cU) rfl) ak ⟨V.h,rfl,(by first|omega|exact bt rfl|(simp;done)|(simp;omega)),oC,(by first|rfl|(simp;done)|(simp;omega)),(by unfold maxLen;first|omega|(simp;omega)),(by rw[b3];first|omega|(simp;omega)),(by first|(simp;done)|(simp;omega))⟩ ?_;refine SS ?_;refine ab (aX (bZ [(2,(x.a::x.b::x.args).map I,3)] eH (l:=[(2,aT (x.a::x.b::x.args))]) ⟨?_,trivial⟩) (bp (bU (a6 (aw (d:=aT (x.a::x.b::x.args)) rfl ?_)))))
  .show tE _ [(2,_,3)] (.rs 2 0 (2+x.args.length))=_;refine(lT c3 (es:=(x.a::x.b::x.args).map I) (cO oP)).trans ?_;rw[Nat.add_comm];rfl
  .exact congrArg aT (by unfold c6;rw[if_neg (by simp[h1]),if_neg (by simp[h2]),if_neg C,if_pos J])
 have J:¬ x.op=38:=by simpa using J
 refine nS (ay ?_);refine SS ?_;refine ab (aX (ud (n0:=2) rfl) (aw (d:=aT []) rfl ?_));exact congrArg aT (by unfold c6;rw[if_neg (by simp[h1]),if_neg (by simp[h2]),if_neg C,if_neg J])
theorem Pj{x:Argus.End}(hx:x.kind=5->x.ins.op=10\/x.ins.op=38->x.ins.args.length<=1000)(hy:x.kind=6\/x.kind=7->x.args.length<=1000):az prog 184 [.agg (a8 x)] (aT (c8 x)):=by
 have M:∀ a∈[D.agg (a8 x)],Tr a:=.cons (.agg (mr x)) .nil;refine bu alU M (dU _) ?_;rw[alV];refine ay ?_;refine af ?_;refine ab (aX (bZ [(0,a8 x,57)] eH (l:=[(1,.pt (a8 x))]) eH) (aI (aj ?_)));refine af ?_;refine ab (ou ?_);refine eT (fun s=>aM prog s ⟨aF [(1,.pt (a8 x)),(4,U8 x.kind),(5,B (aP [2,8,9] x.kind))],fun _=>none,1⟩) (aj ?_) fun s hg=>⟨_,hg,?_⟩
 .refine af ?_;refine ab (ap rfl (fun h=>bw ?_) fun e2=>aj ?_)
  .have h:x.kind=2:=by simpa using h
   refine ao ⟨rfl,rfl,?_,trivial⟩;show D.s (.bool (x.kind==2))=_;rw[h];rfl
  refine af ?_;refine ab (ap rfl (fun h=>bw ?_) fun e8=>lP ?_)
  .have h:x.kind=8:=by simpa using h
   refine ao ⟨rfl,rfl,?_,trivial⟩;show D.s (.bool (x.kind==8))=_;rw[h];rfl
  refine af ?_;refine ab ?_;refine ao ⟨rfl,rfl,?_,trivial⟩;show D.s (.bool (x.kind==9))=_;simp[aP,e2,e8]
 refine ap rfl (fun h1=>?_) fun h1=>?_
 .refine ay ?_;refine aR ?_;refine ab (aX (bZ [(1,([x.a]).map I,3)] eH (l:=[(2,aT ([x.a]))]) ⟨lT c3 rfl,trivial⟩) (bp (bU (a6 (aw (d:=aT ([x.a])) rfl ?_)))));exact congrArg aT (by unfold c8;rw[if_pos h1])
 refine ws ?_;refine af ?_;refine ab (ap rfl (fun h2=>?_) fun h2=>?_)
 .have h2:x.kind=3:=by simpa using h2
  refine ws ?_;refine av ?_;refine ab (ap rfl (fun C=>?_) fun C=>?_)
  .have C:¬ x.a= -1:=by simpa[bne,ib] using C
   refine ay ?_;refine aR ?_;refine ab (aX (bZ [(1,([x.a]).map I,3)] eH (l:=[(2,aT ([x.a]))]) ⟨lT c3 rfl,trivial⟩) (bp (bU (a6 (aw (d:=aT ([x.a])) rfl ?_)))));exact congrArg aT (by unfold c8;rw[if_neg (by simp[h1]),if_pos h2,if_pos C])
  .have C:x.a= -1:=by simpa[bne,ib] using C
   refine nS (ay ?_);refine SS ?_;refine ab (aX (ud (n0:=2) rfl) (aw (d:=aT []) rfl ?_));exact congrArg aT (by unfold c8;rw[if_neg (by simp[h1]),if_pos h2,if_neg (by simp[C])])
 have h2:¬ x.kind=3:=by simpa using h2
 refine ws ?_;refine af ?_;refine ab (ap rfl (fun C=>?_) fun C=>?_)
 .have C:x.kind=5:=by simpa using C
  have CC:=CC (x:=x.ins) (hx C);refine ws ?_;refine af ?_;refine cl CC ?_;refine SS ?_;refine ab (bp (bU (a6 (aw (d:=aT (c6 x.ins)) rfl ?_))));exact congrArg aT (by unfold c8;rw[if_neg (by simp[h1]),if_neg h2,if_pos C])
 have C:¬ x.kind=5:=by simpa using C
 refine eT (fun s=>aM prog s ⟨aF [(1,.pt (a8 x)),(4,U8 x.kind),(25,B (aP [6,7] x.kind))],fun _=>none,1⟩) (aj ?_) fun s hg=>⟨_,hg,?_⟩
 .refine af ?_;refine ab (ap rfl (fun h=>bw ?_) fun e6=>lP ?_)
  .have h:x.kind=6:=by simpa using h
   refine ao ⟨rfl,rfl,?_,trivial⟩;show D.s (.bool (x.kind==6))=_;rw[h];rfl
  refine af ?_;refine ab ?_;refine ao ⟨rfl,rfl,?_,trivial⟩;show D.s (.bool (x.kind==7))=_;simp[aP,e6]
 refine ap rfl (fun J=>?_) fun J=>?_
 .have O:x.kind=6\/x.kind=7:=by simpa[aP] using J
  have tS:=tS (l:=x.args) (by have:=hy O;omega);refine ws ?_;refine af ?_;refine cl tS ?_;refine SS ?_;refine ab (bp (bU (a6 (aw (d:=aT x.args) rfl ?_))));exact congrArg aT (by unfold c8;rw[if_neg (by simp[h1]),if_neg h2,if_neg C,if_pos J])
 refine nS (ay ?_);refine SS ?_;refine ab (aX (ud (n0:=2) rfl) (aw (d:=aT []) rfl ?_));exact congrArg aT (by unfold c8;rw[if_neg (by simp[h1]),if_neg h2,if_neg C,if_neg (by simp[J])])
noncomputable abbrev X8:=Jr prog ids
noncomputable def Qd:Ctx:={ lH:=X8 }
theorem pI:yk prog Qd:=⟨mixed,(UG VV:I5 prog X8),fun _ _ _ h=>oH,fun _ _ _ _ _ _ _ h=>oH⟩
theorem D4{off:Nat}{vs cs:List D}(hv:vs.length=20)(hl:off+20<=cs.length)(ho:vs.all D.one=true):aO prog 201=true/\vs.length=prog.cellsOf 201/\off+prog.cellsOf 201<=cs.length/\vs.all D.one=true:=by
 rw[tf];exact⟨t201,hv,hl,ho⟩
theorem mL{w:List Int}{m:Nat}(J:w.length=20)(hm:m<1280):az prog 135 [iw w,I m] (B (lF w m)):=by
 have C:∀ a∈[iw w,I m],Tr a:=.cons (sa _) (.cons (.s _) .nil);have hi:w[m / 64]? =some w[m / 64]:=bc oG;have hg:w.getD (m / 64) 0=w[m / 64]:=by simp[eh,hi]
 have O0:=W3 (m:=m) oG;have O1:=W4 m;have kd:=nL (f:=dk) hi;refine bu aiH C (Tr.s _) ?_;rw[aiI];refine ws ?_;refine af ?_;refine er ?_;refine cG ?_;refine aq (ah' rfl rfl) ak oG ?_;refine aq (Wo rfl rfl) ak rfl ?_;refine af ?_;refine ab (aw (d:=.s (.bool _)) rfl ?_);unfold lF;rw[hg];rfl
theorem sb{w:List Int}{n:Int}(M:w.length=20)(hn: -1000000<=n/\n<1280):az prog 179 [iw w,I n] (iw (gD w n)):=by
 have J:∀ a∈[iw w,I n],Tr a:=.cons (sa _) (.cons (.s _) .nil);refine bu aiJ J (sa _) ?_;rw[aiK];refine ws ?_;refine af ?_;refine ab (aI (aj ?_));by_cases h0:0<=n
 .obtain⟨m,rfl⟩:=iG h0;have hm:m<1280:=by omega
  have hi:w[m / 64]? =some w[m / 64]:=bc oG;have hg:w.getD (m / 64) 0=w[m / 64]:=by simp[eh,hi]
  have O0:=W3 (m:=m) oG;have O1:=W4 m;have kd:=nL (f:=dk) hi;have C:decide (0<=(m:Int))=true:=by simp
  refine SS ?_;refine aq (VW rfl rfl C) ak rfl ?_;refine ab (pP (ej acL ?_));refine cG ?_;refine aq (ah9 rfl rfl) ak oG ?_;refine aq (amb rfl rfl) ak rfl ?_;refine af ?_;refine bN bO (aj ?_);refine af ?_;refine ab (lO (mi rfl rfl a201 tf (oR (by first|rfl|simp;omega)) t201 oP) ?_);simp only[gD,h0,if_true,eI,ym,hg,iw,List.map_set];rfl
 .have C:decide (0<=n)=false:=by simpa using h0
  refine SS ?_;refine aq (VW rfl rfl C) ak rfl ?_;refine ab (mE (cX (aj ?_)));refine af ?_;refine ab (lO (mi rfl rfl a201 tf (oR oP) t201 oP) ?_);simp only[gD,h0,if_false]
theorem Jt{w v:List Int}(M:w.length=20)(hv:v.length=20):az prog 180 [iw w,iw v] (iw (jf w v)):=by
 have U:∀ a∈[iw w,iw v],Tr a:=.cons (sa _) (.cons (sa _) .nil);refine bu aiL U (sa _) ?_;rw[aiM];refine ws ?_;refine av ?_;refine ab (aI (ay ?_));refine SS ?_
 refine ab (cD (fun s=>aM prog s ⟨aF [(2,.rp 0 0),(3,.rp 1 0),(4,.rp 2 0)],bJ [(0,.cells ((jf w v).map dk) 201),(1,.cells (v.map dk) 201),(2,.cells (replicate 20 (dk 0)) 201)],3⟩) (gM (α:=Nat)
  (fun k=>⟨aF [(2,.rp 0 0),(3,.rp 1 0),(4,.rp 2 0),(6,I k)],bJ [(0,.cells ((fR w v k).map dk) 201),(1,.cells (v.map dk) 201),(2,.cells (replicate 20 (dk 0)) 201)],3⟩)
  (fun k=>k<=20) (fun k=>20 - k) 0 (aY eH eH) oG ?_) ?_)
 .intro k hk;refine SS ?_;refine ab ⟨_,rfl,fun h=>?_,fun h=>?_⟩
  .have al:k<20:=by have h:(k:Int)<20:=by simpa using h
                    omega
   have X:(fR w v k).length=20:=by simp[M]
   have hi:(fR w v k)[k]? =some (fR w v k)[k]:=bc oG;have hj:v[k]? =some v[k]:=bc oG;have hg:(fR w v k).getD k 0=(fR w v k)[k]:=by simp[eh,hi]
   have C:v.getD k 0=v[k]:=by simp[eh,hj]
   have kd:=nL (f:=dk) hi;have J:=nL (f:=dk) hj;refine ws ?_;refine af ?_;refine ab (Bz acN ?_);refine bm ?_;refine aq (eR rfl rfl J V.h) ak (eS V.h V.h J) ?_;refine aq (Wo rfl rfl) ak rfl ?_;refine af ?_;refine bN bO ?_;refine af ?_;refine ab (bg (k+1) (aY eH ⟨?_,rfl,rfl,trivial⟩) oG oG);rw[an];simp only[fR,hg,C,List.map_set];rfl
  .have bG:¬ k<20:=by intro hh;simp at h;omega
   have:k=20:=by omega
   subst this;exact .forget _ _ _ _ fun t=>rO (l:=[(2,.rp 0 0),(3,.rp 1 0),(4,.rp 2 0)]) ⟨rfl,rfl,rfl,trivial⟩ t
 .intro s hg;have O:(jf w v).length=20:=by simp[M]
  generalize jf w v=u at hg O ⊢;refine⟨_,hg,aj ?_⟩;refine af ?_;refine ab (lO (mi rfl rfl a201 tf (oR oP) t201 oP) ?_);rfl
def X9:Int:=18446744073709551615
theorem O6:az prog 178 [] (iw (replicate 20 X9)):=by
 exact oz pI 100 (show wv prog Qd (lu prog Qd 100) 178 []=some (.inl (iw (replicate 20 X9))) by kernel_rfl) rfl
theorem Fg{w:List Int}{x:bK}(C:w.length=20)(hn:x.op=18->0<=x.n/\x.n<80)(ht:x.op≠18-> -1000000<=dV x/\dV x<1280):az prog 183 [iw w,.agg (bA x)] (iw (gD w (if x.op=18 then lL x.n else dV x))):=by
 have J:∀ a∈[iw w,.agg (bA x)],Tr a:=.cons (sa _) (.cons (.agg (rQ x)) .nil);refine bu aiN J (sa _) ?_;rw[aiO];refine ws ?_;refine av ?_;refine ab (aI (aj ?_));refine av ?_;refine ab (dZ rfl (fun h=>?_) fun h=>cX (ej acO ?_))
 .have h:x.op=18:=by simpa using h
  have hx:=hn h;have wL:=wL (n:=x.n) oG;have sb:=sb (w:=w) (n:=lL x.n) C (by unfold lL;omega);refine aI (ej acP ?_);refine av ?_;refine cl wL ?_;refine cl sb ?_;refine SS ?_;refine bN bO (eb (lO (mi rfl rfl a201 tf (oR oP) t201 oP) ?_));simp[h]
 .have h:x.op≠18:=by simpa using h
  have Cu:=Cu (x:=x);have sb:=sb (w:=w) (n:=dV x) C (ht h);refine SS ?_;refine aq (fD (vs:=bA _) rfl rfl V.h V.h rfl) ak (fE V.h V.h (by first|(simp;done)|omega|exact bt rfl)) ?_;refine cl Cu ?_;refine cl sb ?_;refine SS ?_;refine bN bO (lO (mi rfl rfl a201 tf (oR oP) t201 oP) ?_);simp[h]
end Go.Proofs.Tryz.K
namespace Go.Argus
def jk(x:End):Bool:=decide (0<=x.others)&&aP [5,6,8] x.kind
def dB(x:End):List Int:=if aP [3,4] x.kind then [] else x.to::((if aP [2,8] x.kind then [x.fL] else [])++(x.aC.map (·.to)++(if jk x then [x.others] else [])))
def rv(x:End):Nat:=if aP [2,8] x.kind then 2 else 1
theorem aeN{x:End}(h:aP [3,4] x.kind=false):(dB x)[0]? =some x.to/\(aP [2,8] x.kind=true->(dB x)[1]? =some x.fL)/\(∀ (j:Nat) w,x.aC[j]? =some w->(dB x)[rv x+j]? =some w.to)/\
 (jk x=true->(dB x)[rv x+x.aC.length]? =some x.others)/\(dB x).length=rv x+x.aC.length+(if jk x then 1 else 0):=by
 unfold dB rv;generalize jk x=c;rw[if_neg (by simp[h])];cases h2:aP [2,8] x.kind with
 |true=>
  refine⟨rfl,fun _=>rfl,fun j w hj=>?_,fun hc=>?_,?_⟩
  .have:j<x.aC.length:=(bX.1 hj).1;simp only[if_true,List.singleton_append];rw[show 2+j=j+1+1 by omega,List.getElem?_cons_succ,List.getElem?_cons_succ,List.getElem?_append_left (by simpa using this)];simp[hj]
  .simp only[if_true,List.singleton_append];rw[show 2+x.aC.length=x.aC.length+1+1 by omega,List.getElem?_cons_succ,List.getElem?_cons_succ,List.getElem?_append_right oS];rw[if_pos hc];simp
  .cases c<;>simp<;>omega
 |false=>
  refine⟨rfl,fun h=>oH,fun j w hj=>?_,fun hc=>?_,?_⟩
  .have:j<x.aC.length:=(bX.1 hj).1;simp only[Bool.false_eq_true,if_false,List.nil_append];rw[show 1+j=j+1 by omega,List.getElem?_cons_succ,List.getElem?_append_left (by simpa using this)];simp[hj]
  .simp only[Bool.false_eq_true,if_false,List.nil_append];rw[show 1+x.aC.length=x.aC.length+1 by omega,List.getElem?_cons_succ,List.getElem?_append_right oS];rw[if_pos hc];simp
  .cases c<;>simp<;>omega
def BV(x:End)(b:Int):Bool:=aQ x.to b&&aQ ((dB x).count b:Nat) 1
theorem MA(x:End):(dB x).length<=x.aC.length+3:=by
 unfold dB;split
 .simp
 .simp only[List.length_cons,List.length_append,List.length_map];split<;>split<;>simp<;>omega
end Go.Argus
namespace Go.Abs
theorem kF{P:Program}{Y:gn}{rf:Bool}{Q:Exit->St->Prop}{st:St}[eK Y]{ops:Array Oper}{i:Nat}(h:ax P Y ops false [] (gq (Q .normal)) ops.toList st []):AW P Y rf (.region i ops false) Q st:=iV (rf:=rf) (id:=i) (ax.lg h fun _ h=>h)
section
variable{P:Program}{env:Env}{m:Mem}{nx:Nat}{x y:Operand}{t p:TypeId}{k:IntKind}{n n':Int}
theorem VU(hx:(opd env x).core=.s (.int .i64 n))(hy:(opd env y).core=.s (.int .i64 n')){r:Int}(hd:n - n'=r/\ -9223372036854775808<=r/\r<=9223372036854775807):Ef P (.binOp .sub t x y p) env m nx ⟨IntKind.i64=IntKind.i64,.s (.int .i64 r),[],[],0⟩:=by
 obtain⟨rfl,h⟩:=hd;exact NH hx hy h
theorem rP{j i l:Nat}{e:TypeId}{r:Row}(hx:(opd env x).core=.rs j 0 l)(hy:(opd env y).core=.s (.int k (i:Int)))(hm:m j=some r)(he:aE P t=e)(hs:P.cellsOf e=1):
 Ef P (.indexAddr t x y) env m nx ⟨bh P t=true/\i<l,.rp j i,[],[j],0⟩:=by
 have h:=MS (P:=P) (env:=env) (m:=m) (nx:=nx) (t:=t) hx hy hm he hs;have h1:0+((i:Int)).toNat*1=i:=by simp
 have h2:(bh P t=true/\(0:Int)<=(i:Int)/\(i:Int)<l)=(bh P t=true/\i<l):=by
  apply propext;constructor
  .rintro⟨a,_,b⟩;exact⟨a,oG⟩
  .rintro⟨a,b⟩;exact⟨a,oG,oG⟩
 rw[h1,h2] at h;exact h
theorem wB{α:Type}(f:Nat->α)(i:Nat)(a b:α):up (up f i a) i b=up f i b:=by
 funext j;simp only[up];split<;>rfl
variable{Y:gn}{rf:Bool}{Q:Exit->St->Prop}{st:St}{id jQ i1 i3:Nat}{rc ri:Array Oper}{body:Code}{α:Type}{cf:List (Nat×Nat)}{u:Nat}
theorem ahC[eK Y](hi:bV rc=some cf)(S:α->St)(J:α->Prop)(μ:α->Nat)(C:α)(hg:aM P st (S C))(X:J C)
 (h:∀ x,J x->ax P Y rc true cf (gq fun s=>∃ g,opd s.env (.tmp u)=.s (.bool g)/\(g=true->AW P Y rf body (oQ jQ id (fun s=>ax P Y ri false [] (gq (Ca P S J μ x)) ri.toList s []) Q) s)/\(g=false->Q .normal s)) rc.toList (S x) []):
 ∃ st',aM P st st'/\AW P Y rf (.block id (.loop (.seq (.seq (.region i1 rc true) (.cond (.tmp u) .skip (.exit id))) (.seq (.block jQ body) (.region i3 ri false))))) Q st':=by
 refine HA (Q:=iZ id Q) S J μ C hg X (fun x hx=>?_) (a:=.skip) fun _ h=>h;refine aI (BU (rf:=rf) (id:=i1) hi (ax.lg (h x hx) fun s hs=>?_));obtain⟨g,h1,h2,U⟩:=hs;refine⟨s,.refl s,dZ h1 (fun M=>?_) fun O=>?_⟩
 .exact cX (Ml (h2 M))
 .refine uc ?_;simp only[ir,iZ,if_true];exact U O
theorem vI{l:List (Nat×D)}{m':Mem}(h:nh l env)(hm:m=m'):aM P ⟨env,m,nx⟩ ⟨aF l,m',nx⟩:=hm▸ao h
end
end Go.Abs
namespace Go.Proofs.Tryz.K
theorem wM{x:Argus.End}:az prog 175 [.agg (a8 x)] (.fn (.func 234) [] [.pt (a8 x)]):=by
 have C:∀ a∈[D.agg (a8 x)],Tr a:=.cons (.agg (mr x)) .nil;refine bu aji C (.fn oS (.cons (.pt (mr x)) .nil)) ?_;rw[ajj];refine ay ?_;refine SS ?_;refine aq (eQ (v:=.s .nilFunc) rfl) ak trivial ?_;refine ab (aX (bZ [(0,a8 x,57)] eH (l:=[(1,.pt (a8 x))]) eH) (aj ?_));refine SS ?_;refine aq (eQ (v:=.fn _ _ _) rfl) ak trivial ?_;exact ab (aw rfl rfl)
def Qk(l:Nat)(x:Argus.End)(C:Nat->Mem->Nat->Prop)(n:Nat)(s:St):Prop:=∃ m nx,aM prog s ⟨aF [(0,.fn (.yield l) [] []),(1,.pt (a8 x))],m,nx⟩/\C n m nx
theorem Ye{x:Argus.End}(hlen:x.aC.length<=100000):Ai prog 234 [] [.pt (a8 x)] ((dB x).map fun n=>[I n]):=by
 refine ahj mixed ajk kr fun l O Stop m nx hI Wu h0=>?_;rw[ajl];by_cases M:aP [3,4] x.kind=true
 .have jK:((dB x).map fun n=>[I n]).length=0:=by simp[dB,M]
  rw[jK];by_cases J:x.kind=3
  .have ki:(x.kind==3)=true:=by simpa using J
   refine aI (aj ?_);refine aR ?_;(iterate 3 refine z fun _ _=>?_);refine af ?_;(iterate 5 refine z fun _ _=>?_);refine SS ?_;refine ab (dZ rfl (fun h=>Vv (bp (a6 (zG (.inl h0))))) fun h=>oH)
  .have h4:x.kind=4:=by simpa[aP,J] using M
   have ki:(x.kind==3)=false:=by simpa using J
   have I9:(x.kind==4)=true:=by simpa using h4
   refine aI (aj ?_);refine bj ?_;(iterate 5 refine z fun _ _=>?_);refine SS ?_;refine ab (dZ rfl (fun h=>Vv (bp (a6 (zG (.inl h0))))) fun h=>oH)
 have M:aP [3,4] x.kind=false:=by simpa using M
 obtain⟨x0,x1,xw,xo,xl⟩:=aeN M;have C:∀ {k:Nat} {n:Int},(dB x)[k]? =some n->((dB x).map fun n=>[I n])[k]? =some [I n]:=fun h=>by simp[h]
 have uG:((dB x).map fun n=>[I n]).length=rv x+x.aC.length+(if jk x then 1 else 0):=by simpa using xl
 have ze:x.kind≠3/\x.kind≠4:=by simpa[aP] using M
 refine eT (Qk l x O 1) ?_ fun s hs=>?_
 .have ki:(x.kind==3)=false:=by simpa using ze.1
  have I9:(x.kind==4)=false:=by simpa using ze.2
  refine ws ?_;refine bj ?_;refine av ?_;refine N2 rfl rfl rfl rfl aG ⟨rfl,0,C x0,h0,fun d m' aD hp=>?_⟩;rcases hp with⟨rfl,hp⟩|⟨rfl,hp⟩
  .refine af ?_;exact ab (ap rfl (fun h=>oH) fun h=>bw ⟨m',aD,ao eH,hp⟩)
  .refine af ?_;exact ab (ap rfl (fun h=>bp (a6 (zG (.inr hp)))) fun h=>oH)
 obtain⟨m1,X,hg,h1⟩:=hs;refine⟨_,hg,?_⟩;clear hg h0;refine eT (Qk l x O (rv x)) ?_ fun s hs=>?_
 .have yes:aP [2,8] x.kind=true->(dB x)[1]? =some x.fL/\rv x=2:=fun h=>⟨x1 h,by simp[rv,h]⟩
  by_cases h2:x.kind=2
  .obtain⟨y1,y2⟩:=yes (by rw[h2];rfl);have ki:(x.kind==2)=true:=by simpa using h2
   refine ws ?_;refine aR ?_;(iterate 3 refine z fun _ _=>?_);refine bm ?_;refine N2 rfl rfl rfl rfl aG ⟨rfl,1,C y1,h1,fun d m' aD hp=>?_⟩;rcases hp with⟨rfl,hp⟩|⟨rfl,hp⟩
   .refine af ?_;exact ab (ap rfl (fun h=>oH) fun h=>bw ⟨m',aD,ao eH,y2▸hp⟩)
   .refine af ?_;exact ab (ap rfl (fun h=>bp (a6 (zG (.inr hp)))) fun h=>oH)
  .have ki:(x.kind==2)=false:=by simpa using h2
   by_cases U:x.kind=8
   .obtain⟨y1,y2⟩:=yes (by rw[U];rfl);have I9:(x.kind==8)=true:=by simpa using U
    refine ws ?_;refine bj ?_;refine av ?_;refine N2 rfl rfl rfl rfl aG ⟨rfl,1,C y1,h1,fun d m' aD hp=>?_⟩;rcases hp with⟨rfl,hp⟩|⟨rfl,hp⟩
    .refine af ?_;exact ab (ap rfl (fun h=>oH) fun h=>bw ⟨m',aD,ao eH,y2▸hp⟩)
    .refine af ?_;exact ab (ap rfl (fun h=>bp (a6 (zG (.inr hp)))) fun h=>oH)
   .have I9:(x.kind==8)=false:=by simpa using U
    have hb:rv x=1:=by simp[rv,aP,h2,U]
    refine ws ?_;refine bj ?_;(iterate 5 refine z fun _ _=>?_);refine SS ?_;exact ab (ap rfl (fun h=>oH) fun h=>bw ⟨m1,X,ao eH,hb▸h1⟩)
 obtain⟨m2,iU,hg,h2⟩:=hs;refine⟨_,hg,?_⟩;clear hg;refine eT (Qk l x O (rv x+x.aC.length)) (ay ?_) fun s hs=>?_
 .refine aR ?_
  refine ab (gM (α:=Nat×Mem×Nat) (fun k=>⟨aF [(0,.fn (.yield l) [] []),(1,.pt (a8 x)),(36,mo x.aC),(37,I x.aC.length),(38,I k.1)],k.2.1,k.2.2⟩)
   (fun k=>k.1<=x.aC.length/\O (rv x+k.1) k.2.1 k.2.2) (fun k=>x.aC.length - k.1) (0,m2,iU) (ao eH) ⟨oG,h2⟩ ?_)
  rintro⟨k,m3,Zg⟩ ⟨hk,JP⟩;refine SS ?_;refine ab ⟨_,rfl,fun h=>?_,fun h=>?_⟩
  .have al:k<x.aC.length:=by simpa using h
   have hx:x.aC[k]? =some x.aC[k]:=by simp[al]
   generalize x.aC[k]=w at hx;refine ws ?_;refine aR ?_;refine er ?_;refine af ?_;refine aq (eR rfl (an _ _ _) rfl V.h) ak (eS V.h V.h rfl) ?_;refine X3 rfl rfl aG ⟨rfl,rv x+k,C (xw k w hx),hI _ _ _ _ _ JP oG (fun i hi=>au oG (au oG rfl)),fun d m' aD hp=>?_⟩;rcases hp with⟨rfl,hp⟩|⟨rfl,hp⟩
   .refine SS ?_;refine ab (ap rfl (fun h=>oH) fun h=>dE ?_);refine af ?_;exact ab (bg (k+1,m',aD) (ao eH) ⟨by simp only;omega,hp⟩ (by simp only;omega))
   .refine SS ?_;exact ab (ap rfl (fun h=>bp (cZ (a6 (zG (.inr hp))))) fun h=>oH)
  .have bG:¬ k<x.aC.length:=by simpa using h
   have:k=x.aC.length:=by simp only at hk;omega
   subst this;exact⟨m3,Zg,.forget _ _ _ _ fun t=>rO (l:=[(0,.fn (.yield l) [] []),(1,.pt (a8 x))]) ⟨rfl,rfl,trivial⟩ t,JP⟩
 obtain⟨m3,Zg,hg,J⟩:=hs;refine⟨_,hg,aj ?_⟩;refine bj ?_;refine bj ?_;refine ab (ap rfl (fun h=>?_) fun h=>?_)
 .have hc:jk x=true:=by
   revert h;unfold jk aP;simp[ib,or_assoc]
  refine kF ?_;refine av ?_;refine X3 rfl rfl aG ⟨rfl,_,C (xo hc),J,fun d m' aD hp=>?_⟩;refine ab (zH ?_);rcases hp with⟨rfl,hp⟩|⟨rfl,hp⟩
  .left;rw[uG,if_pos hc];exact hp
  .exact .inr hp
 .have hc:jk x=false:=by
   revert h;unfold jk aP;simp[ib,and_assoc]
  refine dE (zH (.inl ?_));rw[uG,hc];exact J
theorem Pa{x:Argus.End}{b:Int}(hlen:x.aC.length<=1000):az prog 185 [.agg (a8 x),I b] (B (BV x b)):=by
 have J:∀ a∈[D.agg (a8 x),I b],Tr a:=.cons (.agg (mr x)) (.cons (.s _) .nil);have wM:=wM (x:=x);have hl:=MA x;refine bu ajn J (Tr.s _) ?_;rw[ajo];refine ay ?_;refine SS ?_;refine cR (MR (d:=.s (.int _ _)) rfl rfl) ak rfl ?_;refine SS ?_;refine ab (aX (bZ [(0,a8 x,57),(1,[I b],3)] eH (l:=[(2,.pt (a8 x)),(3,.pt [I b])]) eH) (aj ?_));refine SS ?_;refine dA (jR (d:=.s (.int _ _)) (cs':=[_]) rfl rfl rfl rfl rfl) ak (ef V.h V.h (by first|(simp;done)|exact⟨rfl,bt rfl⟩|(simp;omega)) rfl) ?_;refine ab ?_;refine eT (fun s=>∃ n',aM prog s ⟨aF [(2,.pt (a8 x)),(3,.pt [I b]),(5,.rp 2 0)],bJ [(2,.cells [I ((dB x).count b:Nat)] 3)],n'⟩) (aj ?_) fun s hs=>?_
 .refine SS ?_;refine cl wM ?_;refine ab (sN ?_);refine⟨rfl,trivial,234,[],[.pt (a8 x)],(dB x).map (fun n=>[I n]),fun k m nx=>m 2=some (.cells [I (((dB x).take k).count b:Nat)] 3)/\3<=nx,rfl,Ye oG,?_,⟨rfl,oS⟩,?_,?_⟩
  .intro y hy;obtain⟨n,_,rfl⟩:=List.mem_map.1 hy;exact⟨rfl,.cons (.s _) .nil⟩
  .rintro k m nx y hy ⟨aA,M⟩;simp only[List.getElem?_map,dI] at hy;obtain⟨n,hn,rfl⟩:=hy;have hk:k<(dB x).length:=(bX.1 hn).1
   have hc:((dB x).take (k+1)).count b=((dB x).take k).count b+(if n=b then 1 else 0):=by
    rw[List.take_add_one,hn,List.count_append];by_cases e:n=b
    .subst e;simp
    .simp[e]
   have C:((dB x).take k).count b<=k:=Nat.le_trans List.count_le_length oP;generalize ((dB x).take k).count b=c at aA hc C;refine kF ?_;refine SS ?_;refine ab (show AW _ _ _ _ _ _ from sN (aj ?_));refine av ?_;refine ab (ap rfl (fun h=>?_) fun h=>?_)
   .have h:n=b:=by simpa using h
    refine kF ?_;refine af ?_;refine dA (jR (d:=.s (.int _ _)) (cs':=[_]) rfl rfl aA rfl rfl) ak (ef V.h V.h (by first|(simp;done)|exact⟨rfl,bt rfl⟩|(simp;omega)) rfl) ?_;refine ab ?_;refine⟨?_,oM⟩;dsimp only;refine(an _ _ _).trans ?_;rw[hc,if_pos h];simp
   .have h:¬ n=b:=by simpa using h
    exact dE ⟨by rw[hc,if_neg h];exact aA,M⟩
  .rintro m nx ⟨h1,h2⟩;refine⟨nx,aY eH ⟨?_,trivial⟩⟩;rw[h1,List.length_map,List.take_length]
 obtain⟨n',hg⟩:=hs;refine⟨_,hg,aj ?_⟩;refine bj ?_;refine ab (aw (d:=.s (.bool _)) rfl ?_);simp[BV,aQ,ib]
theorem Pb{f:FuncId}{cs:List D}{xs:List Int}(hs:Ai prog f [] cs (xs.map fun n=>[I n]))(ht:Tr (.fn (.func f) [] cs))(hlen:xs.length<=100000):nj prog 251 [.z,.fn (.func f) [] cs] (xs.map I) xs.length 3:=by
 have U:∀ a∈[D.z,.fn (.func f) [] cs],Tr a:=.cons .z (.cons ht .nil);refine Kf ajp U (.map fun _=>.s _) ?_;rw[ajq];refine ws ?_;refine cR (MR (d:=.z) rfl rfl) ak rfl ?_;refine SS ?_;refine ab ?_;refine eT (fun s=>(xs=[]/\∃ n',aM prog s ⟨aF [(2,.rp 0 0)],bJ [(0,.cells [.z] 43)],n'⟩)\/∃ r n',0<r/\aM prog s ⟨aF [(2,.rp 0 0)],bJ [(0,.cells [.rs r 0 xs.length] 43),(r,.cells (xs.map I) 3)],n'⟩) (aj ?_) fun s hs=>?_
 .refine SS ?_;refine ab (sN ?_);refine⟨rfl,trivial,f,[],cs,xs.map (fun n=>[I n]),fun k m nx=>1<=nx/\((k=0/\m 0=some (.cells [.z] 43))\/(0<k/\∃ r,0<r/\r<nx/\m 0=some (.cells [.rs r 0 k] 43)/\m r=some (.cells ((xs.take k).map I) 3))),rfl,hs,?_,⟨oS,.inl ⟨rfl,rfl⟩⟩,?_,?_⟩
  .intro y hy;obtain⟨n,_,rfl⟩:=List.mem_map.1 hy;exact⟨rfl,.cons (.s _) .nil⟩
  .rintro k m nx y hy ⟨X,C⟩;simp only[List.getElem?_map,dI] at hy;obtain⟨n,hn,rfl⟩:=hy;have hk:k<xs.length:=(bX.1 hn).1
   have O:(xs.take (k+1)).map I=(xs.take k).map I++[I n]:=by
    rw[List.take_add_one,hn];simp
   refine kF ?_;refine SS ?_;refine ab (show AW _ _ _ _ _ _ from sN (kF ?_));rcases C with⟨rfl,aA⟩|⟨y7,r,M,J,aA,mF⟩
   .refine aR ?_;refine dA (jR (d:=.rs _ _ _) (cs':=[_]) rfl rfl (au oG (au oG aA)) rfl rfl) ak (ef V.h V.h (by first|(simp;done)|exact⟨rfl,bt rfl⟩|(simp;omega)) rfl) ?_;refine ab ?_;refine⟨oM,.inr ⟨oG,nx+1,oG,oM,?_,?_⟩⟩
    .dsimp only;exact(an _ _ _).trans rfl
    .dsimp only;exact(au oG (an _ _ _)).trans (by rw[O];rfl)
   .have sx:((xs.take k).map I).length=k:=by simp;omega
    refine aR ?_;refine dA (jR (d:=.rs _ _ _) (cs':=[_]) rfl rfl (au oG (au oG (au oG aA))) rfl rfl) ak (ef V.h V.h (by first|(simp;done)|exact⟨rfl,bt rfl⟩|(simp;omega)) rfl) ?_;refine ab ?_;refine⟨oM,.inr ⟨oG,nx+1,oG,oM,?_,?_⟩⟩
    .dsimp only;exact(an _ _ _).trans rfl
    .dsimp only;exact(au oG (an _ _ _)).trans (by rw[O];rfl)
  .rintro m nx ⟨X,C⟩;rw[List.length_map] at C;rcases C with⟨h0,aA⟩|⟨y7,r,M,J,aA,mF⟩
   .exact .inl ⟨List.length_eq_zero_iff.1 h0,nx,aY eH ⟨aA,trivial⟩⟩
   .refine .inr ⟨r,nx,M,aY eH ⟨aA,?_,trivial⟩⟩;rw[mF,List.take_length]
 rcases hs with⟨rfl,n',hg⟩|⟨r,n',hr,hg⟩
 .refine⟨_,hg,ay ?_⟩;refine af ?_;refine ab ⟨_,.sU _ _ _ 4 3 rfl,aw rfl ⟨n',?_,an _ _ _⟩⟩;rfl
 .refine⟨_,hg,aj ?_⟩;refine af ?_;refine ab (aw rfl ⟨r,rfl,?_⟩);simp[bJ];omega
theorem Pc{f:FuncId}{cs:List D}{xs:List Int}(hs:Ai prog f [] cs (xs.map fun n=>[I n]))(ht:Tr (.fn (.func f) [] cs))(hlen:xs.length<=100000):nj prog 244 [.fn (.func f) [] cs] (xs.map I) xs.length 3:=by
 have C:∀ a∈[.fn (.func f) [] cs],Tr a:=.cons ht .nil;refine Kf ajr C (.map fun _=>.s _) ?_;rw[ajs];have Pb:=Pb hs ht hlen;refine ws ?_;refine SS ?_;refine er ?_;refine SS ?_;refine N1 Pb rfl aG ?_;refine SS ?_;exact ab (aw rfl ⟨0,rfl,rfl⟩)
end Go.Proofs.Tryz.K
namespace Go.Argus
def swapAt(l:List Int)(j:Nat):List Int:=(l.set (j+1) (l.getD j 0)).set j (l.getD (j+1) 0)
def pZ(l:List Int):Nat->List Int
 |0=>l
 |j+1=>if l.getD (j+1) 0<l.getD j 0 then pZ (swapAt l j) j else l
def nW(l:List Int):Nat->List Int
 |0=>l
 |k+1=>pZ (nW l k) (k+1)
def oV(l:List Int):List Int:=nW l (l.length - 1)
@[simp] theorem aqE (l : List Int) (j : Nat) : (swapAt l j).length = l.length := by simp [swapAt]
@[simp] theorem aeV : ∀ (j : Nat) (l : List Int), (pZ l j).length = l.length
 |0,l=>rfl
 |j+1,l=>by simp only[pZ];split<;>simp[aeV j]
@[simp] theorem SF (l : List Int) : ∀ k, (nW l k).length = l.length
 |0=>rfl
 |k+1=>by simp[nW,SF l k]
@[simp] theorem SG (l : List Int) : (oV l).length = l.length := SF l _
def gl(d:List Int):Nat->List Int
 |0=>[]
 |t+1=>gl d t++(if t≠0/\d.getD t 0=d.getD (t - 1) 0 then [] else [d.getD t 0])
def oA(d:List Int):List Int:=gl d d.length
theorem UR{d:List Int}{x:Int}:∀ {t:Nat},t<=d.length->(x∈gl d t↔x∈d.take t)
 |0,_=>by simp[gl]
 |t+1,ht=>by
  have ih:=UR (d:=d) (x:=x) (t:=t) oG;have hg:d.getD t 0=d[t]:=by simp[eh,bc (show t<d.length by omega)]
  rw[gl,List.mem_append,ih,List.take_succ_eq_append_getElem oG,List.mem_append];split
  .rename_i h;have h1:d[t - 1]? =some d[t - 1]:=bc oG
   have C:d[t]∈d.take t:=by
    rw[<- hg,h.2];have:d.getD (t - 1) 0=d[t - 1]:=by simp[eh,h1]
    rw[this];exact cx (i:=t - 1) (by rw[List.getElem?_take,if_pos oG,h1])
   constructor
   .rintro(h|h)
    .exact .inl h
    .simp at h
   .rintro(h|h)
    .exact .inl h
    .simp at h;subst h;exact .inl C
  .rw[hg]
theorem US{d:List Int}:∀ t,(gl d t).length<=t
 |0=>by simp[gl]
 |t+1=>by
  have:=US (d:=d) t;rw[gl,List.length_append];split<;>simp<;>omega
theorem VY{d:List Int}{t:Nat}(ht:t<d.length)(h0:t≠0)(h:d.getD t 0=d.getD (t - 1) 0):gl d (t+1)=gl d t:=by
 rw[gl,if_pos ⟨h0,h⟩,List.append_nil]
theorem VZ{d:List Int}{t:Nat}(h:d.getD t 0≠d.getD (t - 1) 0):gl d (t+1)=gl d t++[d.getD t 0]:=by
 rw[gl,if_neg fun hh=>h hh.2]
end Go.Argus
namespace Go.Proofs.Tryz.K
theorem anM{a:Int}:az prog 277 [I a] (B false):=by
 refine bu aju (by simp[Tr.s]) (Tr.s _) ?_;rw[ajv];refine ws ?_;refine SS ?_;refine er ?_;refine aR ?_;refine ab (aw (d:=.s (.bool _)) rfl ?_);simp[bne]
theorem anN{a b:Int}:az prog 266 [I a,I b] (B (decide (a<b))):=by
 refine bu ajw (by simp[Tr.s]) (Tr.s _) ?_;rw[ajx];refine ws ?_;refine SS ?_;refine er ?_;refine SS ?_;refine cl anM ?_;refine SS ?_;(iterate 3 refine z fun _ _=>?_);refine fB ?_;exact ab (aw (d:=.s (.bool _)) rfl rfl)
theorem anO{m:Mem}{nx i n:Nat}{l:List Int}(hi:i<nx)(hm:m i=some (.cells (l.map I) 3))(hl:l.length=n)(hn:n<=12):
 gW prog 260 [.rs i 0 n,I 0,I n] m nx (fun r m' aD=>r=.bd []/\aD=nx/\m'=up m i (some (.cells ((oV l).map I) 3))):=by
 refine xj ajy ?_;rw[ajz]
 have O:up m i (some (.cells (l.map I) 3))=m:=by
  funext j;simp only[up];split
  .rename_i e;rw[e,hm]
  .rfl
 refine ay ?_;refine av ?_;refine ab (dD (α:=Nat) (fun k=>⟨aF [(0,.rs i 0 n),(1,I 0),(2,I n),(6,I (k+1:Nat))],up m i (some (.cells ((nW l k).map I) 3)),nx⟩) (fun k=>k<=n - 1) (fun k=>n - k) 0 (vI eH O.symm) oG ?_);intro k hk;refine av ?_;refine ab ⟨_,rfl,fun h=>?_,fun h=>?_⟩
 .have al:k+1<n:=by have:((k+1:Nat):Int)<n:=by simpa using h
                    omega
  refine ay ?_;refine af ?_;refine ab (ahC ac2 (α:=List Int×Nat) (fun s=>⟨aF [(0,.rs i 0 n),(1,I 0),(2,I n),(6,I (k+1:Nat)),(7,I s.2)],up m i (some (.cells (s.1.map I) 3)),nx⟩) (fun s=>s.1.length=n/\s.2<=k+1/\pZ s.1 s.2=nW l (k+1)) (fun s=>s.2) (nW l k,k+1) (ao eH) ⟨by simp[hl],oS,rfl⟩ ?_);rintro⟨d,j⟩ ⟨hd,hj,hs⟩;simp only at hd hj hs;cases j with
  |zero=>
   have u6:decide ((0:Int)<((0:Nat):Int))=false:=rfl;refine af ?_;refine aq (Ng rfl rfl u6) ak rfl ?_;refine SS ?_;(iterate 10 refine z fun _ _=>?_);refine SS ?_;refine bN bO ⟨_,rfl,fun h=>oH,fun h=>?_⟩;have hs:d=nW l (k+1):=hs;subst hs;show ax _ _ _ _ _ _ _ _ _;refine av ?_;exact ab (bg (k+1) (ao eH) oG oG)
  |succ j=>
   have ha:d[j+1]? =some d[j+1]:=bc oG;have hb:d[j]? =some d[j]:=bc oG;have J:d.getD (j+1) 0=d[j+1]:=by simp[eh,ha]
   have M:d.getD j 0=d[j]:=by simp[eh,hb]
   have kd:=nL (f:=I) ha;have C:=nL (f:=I) hb;generalize U:d[j+1]=a at ha J kd;generalize X:d[j]=b at hb M C;clear U X;have u6:decide ((0:Int)<((j+1:Nat):Int))=true:=by simp
   have yI:((j+1:Nat):Int) - 1=(j:Int)/\ -9223372036854775808<=(j:Int)/\(j:Int)<=9223372036854775807:=by omega
   refine af ?_;refine aq (Ng rfl rfl u6) ak rfl ?_;refine av ?_;refine cq rfl rfl (rP rfl rfl (an _ _ _) V.h V.h) (fun hc=>⟨ak,⟨V.h,oG⟩⟩) ?_;refine cq rfl rfl (eR rfl (an _ _ _) kd V.h) (fun hc=>⟨ak,(eS V.h V.h kd)⟩) ?_;refine av ?_;refine cq rfl rfl (rP rfl rfl (an _ _ _) V.h V.h) (fun hc=>⟨ak,⟨V.h,oG⟩⟩) ?_;refine cq rfl rfl (eR rfl (an _ _ _) C V.h) (fun hc=>⟨ak,(eS V.h V.h C)⟩) ?_;refine gc anN ?_;refine SS ?_;refine bN bO ⟨_,rfl,fun h=>?_,fun h=>?_⟩
   .have h:a<b:=by simpa using h
    refine Bz ac3 ?_;refine bj ?_;refine aq (eR rfl (an _ _ _) C V.h) ak (eS V.h V.h C) ?_;refine cP ?_;refine bN bO ?_;refine av ?_;refine ab (bg (swapAt d j,j) (vI eH ?_) ⟨by simp[hd],by simp only;omega,?_⟩ (by simp only;omega))
    .rw[wB,wB];simp only[swapAt,J,M,List.map_set]
    .rw[<- hs];simp only[pZ,J,M,if_pos h]
   .have h:¬ a<b:=by simpa using h
    have hs:d=nW l (k+1):=by rw[<- hs];simp only[pZ,J,M,if_neg h]
    subst hs;show ax _ _ _ _ _ _ _ _ _;refine av ?_;exact ab (bg (k+1) (ao eH) oG oG)
 .have bG:¬ k+1<n:=by have h:¬ ((k+1:Nat):Int)<n:=by simpa using h
                      omega
  refine zH ⟨rfl,rfl,?_⟩;have:k=n - 1:=by omega
  subst this;simp only[oV,hl]
theorem anP{m:Mem}{nx i n:Nat}{l:List Int}{oi:Int}(hi:i<nx)(hm:m i=some (.cells (l.map I) 3))(hl:l.length=n)(hn:n<=12):
 gW prog 252 [.rs i 0 n,I 0,I n,I oi] m nx (fun r m' aD=>r=.bd []/\aD=nx/\m'=up m i (some (.cells ((oV l).map I) 3))):=by
 refine xj ajA ?_;rw[ajB];refine ws ?_;refine SS ?_;refine ab (ay ?_);refine SS ?_;refine ab ⟨_,ao (l:=[(0,.rs i 0 n),(1,I 0),(2,I n)]) eH,sN (Ug (fun s=>s=⟨aF [(0,.rs i 0 n),(1,I 0),(2,I n)],m,nx⟩) (fun _=>0) rfl fun s hs=>?_)⟩;subst hs;refine sN (aj ?_);refine aR ?_;refine ab (aI (aj ?_));refine af ?_;refine ab (dZ rfl (fun h=>?_) fun h=>?_)
 .refine aI (aj ?_);refine av ?_;refine lD (anO hi hm hl hn) rfl aG fun r m' aD hp=>?_;obtain⟨rfl,rfl,rfl⟩:=hp;exact ab (eb (bU (a6 (bU (zG ⟨rfl,rfl,rfl⟩)))))
 .have:¬ ((n:Int) - 0<=12):=by simpa using h
  omega
theorem Pf{n:Nat}(hn:n<=12):∃ r,az prog 253 [.s (.int .u64 (IntKind.u64.wrap (n:Int)))] (I r):=by
 match n,hn with
 |0,_=>exact⟨0,oz pI 100 kr rfl⟩
 |1,_=>exact⟨1,oz pI 100 kr rfl⟩
 |2,_=>exact⟨2,oz pI 100 kr rfl⟩
 |3,_=>exact⟨2,oz pI 100 kr rfl⟩
 |4,_=>exact⟨3,oz pI 100 kr rfl⟩
 |5,_=>exact⟨3,oz pI 100 kr rfl⟩
 |6,_=>exact⟨3,oz pI 100 kr rfl⟩
 |7,_=>exact⟨3,oz pI 100 kr rfl⟩
 |8,_=>exact⟨4,oz pI 100 kr rfl⟩
 |9,_=>exact⟨4,oz pI 100 kr rfl⟩
 |10,_=>exact⟨4,oz pI 100 kr rfl⟩
 |11,_=>exact⟨4,oz pI 100 kr rfl⟩
 |12,_=>exact⟨4,oz pI 100 kr rfl⟩
theorem anQ{m:Mem}{nx i n:Nat}{l:List Int}(hi:i<nx)(hm:m i=some (.cells (l.map I) 3))(hl:l.length=n)(hn:n<=12):
 gW prog 245 [.rs i 0 n] m nx (fun r m' aD=>r=.bd []/\aD=nx/\m'=up m i (some (.cells ((oV l).map I) 3))):=by
 refine xj ajC ?_;rw[ajD];obtain⟨oi,Pf⟩:=Pf hn;have aA:=hm;refine ws ?_;refine av ?_;refine ab (kF ?_);refine aR ?_;refine cl Pf ?_;refine lD (anP hi hm hl hn) rfl aG fun r m' aD hp=>?_;obtain⟨rfl,rfl,rfl⟩:=hp;exact ab (zH ⟨rfl,rfl,rfl⟩)
end Go.Proofs.Tryz.K
namespace Go.Abs
section
variable{P:Program}{env:Env}{m:Mem}{nx:Nat}{x y:Operand}{t p:TypeId}{k:IntKind}{n n':Int}
theorem agj{j i l off:Nat}{e:TypeId}{r:Row}(hx:(opd env x).core=.rs j off l)(hy:(opd env y).core=.s (.int k (i:Int)))(hm:m j=some r)(he:aE P t=e)(hs:P.cellsOf e=1):
 Ef P (.indexAddr t x y) env m nx ⟨bh P t=true/\i<l,.rp j (off+i),[],[j],0⟩:=by
 have h:=MS (P:=P) (env:=env) (m:=m) (nx:=nx) (t:=t) hx hy hm he hs;have h1:off+((i:Int)).toNat*1=off+i:=by simp
 have h2:(bh P t=true/\(0:Int)<=(i:Int)/\(i:Int)<l)=(bh P t=true/\i<l):=by
  apply propext;constructor
  .rintro⟨a,_,b⟩;exact⟨a,oG⟩
  .rintro⟨a,b⟩;exact⟨a,oG,oG⟩
 rw[h1,h2] at h;exact h
theorem SH{i l a:Nat}{cs:List D}{e:TypeId}(hx:(opd env x).core=.rs i 0 l)(hm:m i=some (.cells cs e))(he:aE P t=e)(hs:P.cellsOf e=1)(ha:(opd env y).core=.s (.int .i64 (a:Int))):
 Ef P (.slice t x (some y) none none) env m nx ⟨bh P t=true/\a<=l,.rs i a (l - a),[],[i],0⟩:=by
 have h:=Tj (P:=P) (env:=env) (m:=m) (nx:=nx) (t:=t) (lo:=some y) (hi:=none) (a:=(a:Int)) (b:=(l:Int)) hx hm he hs (by simp[fx,ha,D.int?]) (by simp[fx]);have h1:0+((a:Int)).toNat*1=a:=by simp
 have C:((l:Int) - (a:Int)).toNat=l - a:=by omega
 have h2:((bh P t=true/\1=1)/\(0:Int)<=(a:Int)/\(a:Int)<=(l:Int)/\(l:Int)<=(l:Int))=(bh P t=true/\a<=l):=by
  apply propext;constructor
  .rintro⟨⟨a,_⟩,_,b,_⟩;exact⟨a,oG⟩
  .rintro⟨a,b⟩;exact⟨⟨a,rfl⟩,oG,oG,oG⟩
 rw[h1,h2,C] at h;exact h
theorem ac4{i l b:Nat}{cs:List D}{e:TypeId}(hx:(opd env x).core=.rs i 0 l)(hm:m i=some (.cells cs e))(he:aE P t=e)(hs:P.cellsOf e=1)(hb:(opd env y).core=.s (.int .i64 (b:Int))):
 Ef P (.slice t x none (some y) none) env m nx ⟨bh P t=true/\b<=l,.rs i 0 b,[],[i],0⟩:=by
 have h:=Tj (P:=P) (env:=env) (m:=m) (nx:=nx) (t:=t) (lo:=none) (hi:=some y) (a:=0) (b:=(b:Int)) hx hm he hs (by simp[fx]) (by simp[fx,hb,D.int?]);have h1:0+((0:Int)).toNat*1=0:=by simp
 have C:((b:Int) - 0).toNat=b:=by omega
 have h2:((bh P t=true/\1=1)/\(0:Int)<=0/\(0:Int)<=(b:Int)/\(b:Int)<=(l:Int))=(bh P t=true/\b<=l):=by
  apply propext;constructor
  .rintro⟨⟨a,_⟩,_,_,b⟩;exact⟨a,oG⟩
  .rintro⟨a,b⟩;exact⟨⟨a,rfl⟩,oG,oG,oG⟩
 rw[h1,h2,C] at h;exact h
theorem agu{i off l:Nat}{cs z:List D}{e:TypeId}(hx:(opd env x).core=.rs i off l)(hm:m i=some (.cells cs e))(he:aE P t=e)(hz:bq P e=z):
 Ef P (.call { callee:=.builtin .clear,args:= #[x],argTypes:= #[t] }) env m nx ⟨bh P t=true/\off+l*P.cellsOf e<=cs.length/\e=e,.bd [],[(i,some (.cells (fP cs off (dM l z)) e))],[i],0⟩:=by
 refine yg («aS»:=[.rs i off l]) rfl (by simp[hx]) ?_;simp only[fh,hm,hz,Array.getD_eq_getD_getElem?,List.getElem?_toArray,List.getElem?_cons_zero,Option.getD_some,he]
theorem abt{cs:List D}{n k:Nat}{x:D}(hn:cs.length=n)(hk:k<=n):fP cs k (dM (n - k) [x])=cs.take k++replicate (n - k) x:=by
 have hr:dM (n - k) [x]=replicate (n - k) x:=by
  unfold dM;generalize n - k=j
  induction j with
  |zero=>rfl
  |succ j ih=>simp[List.replicate_succ,ih]
 rw[hr];unfold fP;split
 .rename_i y e;have h1:n - k=1:=by have:=congrArg List.length e;simpa using this
  rw[h1] at e ⊢;simp at e;subst e;rw[List.set_eq_take_append_cons_drop,if_pos oG,List.drop_eq_nil_of_le oG];rfl
 .rw[List.length_replicate,List.drop_eq_nil_of_le oG,List.append_nil]
end
end Go.Abs
namespace Go.Proofs.Tryz.K
def EK(d:List Int)(n:Nat):List D:=(oA d).map I++replicate (n - (oA d).length) (I 0)
def UT(d:List Int)(n:Nat)(m:Mem)(nx i:Nat)(r:D)(m':Mem)(aD:Nat):Prop:=aD=nx/\r=.rs i 0 (oA d).length/\m'=up m i (some (.cells (EK d n) 3))
def ahD(d:List Int)(m:Mem)(nx i:Nat)(r:D)(m':Mem)(aD:Nat):Prop:=aD=nx/\r=.rs i 0 (oA d).length/\∃ c,m'=up m i (some (.cells c 3))/\c.take (oA d).length=(oA d).map I
theorem ajE{m:Mem}{nx i n:Nat}{d:List Int}(hi:i<nx)(hm:m i=some (.cells (d.map I) 3))(hl:d.length=n)(hn:n<=100000):gW prog 232 [.rs i 0 n] m nx (UT d n m nx i):=by
 refine xj ajF ?_;rw[ajG];have aA:=hm
 have O:up m i (some (.cells (d.map I) 3))=m:=by
  funext j;simp only[up];split
  .rename_i e;rw[e,hm]
  .rfl
 have whole:gl d n=d->UT d n m nx i (.rs i 0 n) m nx:=fun h=>by
  have h:oA d=d:=by unfold oA;rw[hl];exact h
  refine⟨rfl,by rw[h,hl],?_⟩;rw[EK,h,hl,Nat.sub_self,List.replicate_zero,List.append_nil,O]
 refine ws ?_;refine SS ?_;refine ab (aI (aj ?_));refine av ?_;refine ab (dZ rfl (fun h=>?_) fun h=>cX (aI (ay ?_)))
 .have h:n<2:=by have h:(n:Int)<2:=by simpa using h
                 omega
  refine aI (aj ?_);refine af ?_;refine ab (eb (aw rfl (whole ?_)))
  match d,n,hl,h with
  |[],_,rfl,_=>rfl
  |[a],_,rfl,_=>rfl
 have h2:2<=n:=by have h:¬ (n:Int)<2:=by simpa using h
                  omega
 refine SS ?_;refine ab (cD (fun s=>aM prog s ⟨aF [(0,.rs i 0 n)],m,nx⟩/\gl d n=d) (dD (α:=Nat) (fun k=>⟨aF [(0,.rs i 0 n),(3,I k)],m,nx⟩) (fun k=>1<=k/\k<=n/\gl d k=d.take k) (fun k=>n - k) 1 (ao eH) ⟨oG,oG,?_⟩ ?_) ?_)
 .match d,hl with
  |a::t,_=>rfl
  |[],hl=>simp at hl;omega
 .rintro k ⟨FJ,hk,J⟩;refine aR ?_;refine ab ⟨_,rfl,fun h=>?_,fun h=>?_⟩
  .have al:k<n:=by have h:(k:Int)<n:=by simpa using h
                   omega
   obtain⟨j,rfl⟩:∃ j,k=j+1:=⟨k - 1,oG⟩
   have ha:d[j+1]? =some d[j+1]:=bc oG;have hb:d[j]? =some d[j]:=bc oG;have ga:d.getD (j+1) 0=d[j+1]:=by simp[eh,ha]
   have gb:d.getD j 0=d[j]:=by simp[eh,hb]
   have kd:=nL (f:=I) ha;have C:=nL (f:=I) hb;have yI:((j+1:Nat):Int) - 1=(j:Int)/\ -9223372036854775808<=(j:Int)/\(j:Int)<=9223372036854775807:=by omega
   refine ej ac5 ?_;refine cP ?_;refine aq (eR rfl aA C V.h) ak (eS V.h V.h C) ?_;refine SS ?_;refine bN bO (ap rfl (fun h=>?_) fun h=>?_)
   .have oh:d[j+1]=d[j]:=by simpa using h
    refine ws ?_;refine af ?_;refine aq (SH rfl aA V.h V.h rfl) ak ⟨V.h,oG⟩ ?_;refine SS ?_;refine ab (aI (ay ?_));refine SS ?_;have anR:gl d (j+1+1)=gl d (j+1):=VY oG oG (by rw[ga,show j+1 - 1=j by omega,gb];exact oh);have y7:(gl d (j+1)).length=j+1:=by rw[J];simp;omega
    clear kd C yI
    refine ab (cD (fun s=>∃ (c:List Int) (k:Nat),aM prog s ⟨aF [(0,.rs i 0 n),(3,I (k:Nat))],up m i (some (.cells (c.map I) 3)),nx⟩/\c.length=n/\k<=n/\c.take k=gl d n) (dD (α:=List Int×Nat×Nat) (fun s=>⟨aF [(0,.rs i 0 n),(3,I s.2.1),(4,.rs i (j+1) (n - (j+1))),(5,I (s.2.2+1:Nat))],up m i (some (.cells (s.1.map I) 3)),nx⟩)
     (fun s=>s.1.length=n/\j+1+(s.2.2+1)<=n/\s.2.1<=j+1+s.2.2/\s.1.take s.2.1=gl d (j+1+(s.2.2+1))/\∀ p,j+1+s.2.2<=p->s.1[p]? =d[p]?) (fun s=>n - s.2.2) (d,j+1,0) (vI eH O.symm) ⟨hl,by simp only;omega,by simp only;omega,?_,fun _ _=>rfl⟩ ?_) ?_)
    .show d.take (j+1)=gl d (j+1+1);rw[anR,J]
    .rintro⟨c,k,q⟩ ⟨M,X,w3,w4,U⟩;simp only at M X w3 w4 U;dsimp only;refine af ?_;refine aq (Iu rfl (an _ _ _)) ak V.h ?_;refine SS ?_;refine ab ⟨_,rfl,fun h=>?_,fun h=>?_⟩
     .have al:q+1<n - (j+1):=by have h:((q+1:Nat):Int)<((n - (j+1):Nat):Int):=by simpa using h
                                omega
      have xa:c[j+1+(q+1)]? =some c[j+1+(q+1)]:=bc oG;have xb:c[j+1+q]? =some c[j+1+q]:=bc oG;have ya:d.getD (j+1+(q+1)) 0=c[j+1+(q+1)]:=by rw[eh, <- U _ oG,xa];rfl
      have yb:d.getD (j+1+q) 0=c[j+1+q]:=by rw[eh, <- U _ oG,xb];rfl
      have kd:=nL (f:=I) xa;have C:=nL (f:=I) xb;generalize hA:c[j+1+(q+1)]=a at xa ya kd;generalize hB:c[j+1+q]=b at xb yb C;clear hA hB;have yI:((q+1:Nat):Int) - 1=(q:Int)/\ -9223372036854775808<=(q:Int)/\(q:Int)<=9223372036854775807:=by omega
      refine ej abu ?_;refine cP ?_;refine aq (eR rfl (an _ _ _) C V.h) ak (eS V.h V.h C) ?_;refine SS ?_;refine bN bO (ap rfl (fun h=>?_) fun h=>?_)
      .have bf:a≠b:=by simpa using h
       have hn:=VZ (d:=d) (t:=j+1+(q+1)) (by rw[ya,show j+1+(q+1) - 1=j+1+q by omega,yb];exact bf);refine ws ?_;refine cP ?_;refine ab (jn ?_);refine av ?_;refine ab ?_;refine av ?_;refine ab (bg (c.set k a,k+1,q+1) (vI eH ?_) ⟨by simp[M],by simp only;omega,by simp only;omega,?_,fun p hp=>?_⟩ (by simp only;omega))
       .rw[wB,List.map_set]
       .show(c.set k a).take (k+1)=gl d (j+1+(q+1)+1);rw[hn,ya, <- w4,List.take_succ_eq_append_getElem oP];simp;exact List.take_set_of_le (bM k)
       .simp only at hp;show(c.set k a)[p]? =_;rw[List.getElem?_set_ne oG];exact U p oG
      .have anS:a=b:=by simpa using h
       have hn:=VY (d:=d) (t:=j+1+(q+1)) oG oG (by rw[ya,show j+1+(q+1) - 1=j+1+q by omega,yb];exact anS);refine dE ?_;refine av ?_;refine ab (bg (c,k,q+1) (ao eH) ⟨M,by simp only;omega,by simp only;omega,?_,fun p hp=>U p (by simp only at hp;omega)⟩ (by simp only;omega));show c.take k=gl d (j+1+(q+1)+1);rw[hn,w4]
     .have bG:¬ q+1<n - (j+1):=by have h:¬ ((q+1:Nat):Int)<((n - (j+1):Nat):Int):=by simpa using h
                                  omega
      refine⟨c,k,.forget _ _ _ _ fun t=>rO (l:=[(0,.rs i 0 n),(3,I k)]) ⟨rfl,rfl,trivial⟩ t,M,oG,?_⟩;rw[w4];exact congrArg (gl d) oG
    .rintro s ⟨c,k,hg,M,ck,X⟩;refine⟨_,hg,aj ?_⟩;refine af ?_;refine aq (SH rfl (an _ _ _) V.h V.h rfl) ak ⟨V.h,oG⟩ ?_;refine dA (agu rfl (an _ _ _) V.h V.h) ak ⟨V.h,(by rw[c3];first|(simp;done)|(simp;omega)|omega),rfl⟩ ?_;refine er ?_;refine af ?_;refine aq (ac4 rfl (an _ _ _) V.h V.h rfl) ak ⟨V.h,oG⟩ ?_;refine SS ?_;have dw:(oA d).length=k:=by unfold oA;rw[hl, <- X];simp;omega
     refine ab (bp (cZ (a6 (aw (d:=.rs i 0 k) rfl ⟨rfl,by rw[dw],(wB _ _ _ _).trans ?_⟩))));rw[abt (by rw[List.length_map,M]) ck, <- List.map_take,X,EK,dw];unfold oA;rw[hl]
   .have bf:d[j+1]≠d[j]:=by simpa using h
    refine dE ?_;refine av ?_;refine ab (bg (j+1+1) (ao eH) ⟨oG,oG,?_⟩ oG);rw[VZ (by rw[ga,show j+1 - 1=j by omega,gb];exact bf),J,ga];exact(List.take_succ_eq_append_getElem oG).symm
  .have bG:¬ k<n:=by have h:¬ (k:Int)<n:=by simpa using h
                     omega
   have:k=n:=by omega
   refine⟨.forget _ _ _ _ fun t=>rO (l:=[(0,.rs i 0 n)]) ⟨rfl,trivial⟩ t,?_⟩;rw[<- this,J,cO oG]
 .rintro s ⟨hg,J⟩;refine⟨_,hg,aj ?_⟩;refine af ?_;exact ab (aw rfl (whole J))
theorem anT{m:Mem}{nx i n:Nat}{d:List Int}(hi:i<nx)(hm:m i=some (.cells (d.map I) 3))(hl:d.length=n)(hn:n<=100000):gW prog 232 [.rs i 0 n] m nx (ahD d m nx i):=by
 refine(ajE hi hm hl hn).mono ?_;rintro r m' aD ⟨h1,h2,C⟩;refine⟨h1,h2,EK d n,C,?_⟩;rw[EK,List.take_append_of_le_length oS,cO oS]
end Go.Proofs.Tryz.K
namespace Go.Argus
def gO(x:End)(b:Int)(w:List Int):List Int:=if BV x b then gD w (fc x) else w
@[simp] theorem SI (x : End) (b : Int) (w : List Int) : (gO x b w).length = w.length := by unfold gO; split <;> simp
def BC(l:List Int):List Int:=oA (oV l)
structure rX(x:bK):Prop where
 rd:∀ r∈c6 x,0<=r/\r<1200
 sl:x.op=17\/x.op=18->0<=x.n/\x.n<80
 wr: -1000000<=dV x/\dV x<1200
 ar:x.op=10\/x.op=38->x.args.length<=1000
structure EL(x:End):Prop where
 rd:∀ r∈c8 x,0<=r/\r<1200
 wr: -1000000<=fc x/\fc x<1200
 wh:x.aC.length<=9
 a1:x.kind=5->x.ins.op=10\/x.ins.op=38->x.ins.args.length<=1000
 a2:x.kind=6\/x.kind=7->x.args.length<=1000
def jq(w:List Int)(ok:Bool)(rs:List Int):Bool:=rs.foldl (fun ok r=>ok&&lF w r.toNat) ok
def xX(w:List Int)(x:bK):List Int:=gD w (if x.op=18 then lL x.n else dV x)
def mI(s:List Int×Bool)(x:bK):List Int×Bool:=(xX s.1 x,jq s.1 s.2 (c6 x)&&(x.op !=17||lF s.1 (lL x.n).toNat))
def l6(l:List bK)(w:List Int):List Int×Bool:=l.foldl mI (w,true)
def jE(b:bB)(w:List Int):List Int×Bool:=((l6 b.ins w).1,jq (l6 b.ins w).1 (l6 b.ins w).2 (c8 b.fin))
theorem rI{α β:Type}{f:β->α->β}{z:β}{l:List α}{k:Nat}{x:α}(h:l[k]? =some x):(l.take (k+1)).foldl f z=f ((l.take k).foldl f z) x:=by
 rw[List.take_add_one,h,List.foldl_append];rfl
theorem L7(l:List bK)(w:List Int):(l6 l w).1.length=w.length:=by
 unfold l6;generalize true=b
 induction l generalizing w b with
 |nil=>rfl
 |cons x l ih=>rw[List.foldl_cons];exact(ih _ _).trans (by simp[xX])
theorem KQ(b:bB)(w:List Int):(jE b w).1.length=w.length:=L7 _ _
def dt(l:List (List Int)):List D:=l.flatMap fun w=>w.map dk
theorem MB{sz:Nat}:∀ {l:List (List Int)} {i:Nat} {w:List Int},(∀ w∈l,w.length=sz)->l[i]? =some w->(dt l).drop (i*sz)=w.map dk++(dt (l.drop (i+1)))
 |[],i,w,_,h=>by simp at h
 |a::l,0,w,_,h=>by simp at h;subst h;simp[dt]
 |a::l,i+1,w,hs,h=>by
  have ha:(a.map dk).length=sz:=by simpa using hs a oS
  have h1:(i+1)*sz=(a.map dk).length+i*sz:=by rw[ha,Nat.add_mul];omega
  have ih:=MB (l:=l) (i:=i) (w:=w) (fun w C=>hs w (by simp[C])) (by simpa using h);unfold dt at ih ⊢;rw[List.flatMap_cons,h1, <- List.drop_drop,List.drop_left,ih,List.drop_succ_cons]
theorem Jc{sz:Nat}{l:List (List Int)}{i:Nat}{w:List Int}(h:∀ w∈l,w.length=sz)(hi:l[i]? =some w):((dt l).drop (i*sz)).take sz=w.map dk:=by
 rw[MB h hi,List.take_append_of_le_length (by simp[h w (cx hi)]),cO (by simp[h w (cx hi)])]
theorem LC{sz:Nat}:∀ {l:List (List Int)},(∀ w∈l,w.length=sz)->(dt l).length=l.length*sz
 |[],_=>by simp[dt]
 |a::l,h=>by
  have:=LC (l:=l) fun w C=>h w (by simp[C]);unfold dt at this ⊢;rw[List.flatMap_cons,List.length_append,this,List.length_map,h a oS,List.length_cons,Nat.add_mul];omega
theorem z8{sz:Nat}{l:List (List Int)}{i:Nat}{w:List Int}(h:∀ w∈l,w.length=sz)(hi:l[i]? =some w):i*sz+sz<=(dt l).length:=by
 rw[LC h];have:=(bX.1 hi).1;rw[<- Nat.succ_mul];exact Nat.mul_le_mul_right _ this
theorem WY{sz:Nat}(hz:2<=sz):∀ {l:List (List Int)} {i:Nat} {w v:List Int},(∀ w∈l,w.length=sz)->l[i]? =some v->w.length=sz->fP (dt l) (i*sz) (w.map dk)=dt (l.set i w):=by
 intro l i w v h hi C
 have key:fP (dt l) (i*sz) (w.map dk)=(dt l).take (i*sz)++w.map dk++(dt l).drop (i*sz+(w.map dk).length):=by
  unfold fP;split
  .rename_i x hx;have:(w.map dk).length=1:=by rw[hx];rfl
   simp at this;omega
  .rfl
 rw[key,List.length_map,C];clear key
 induction l generalizing i with
 |nil=>simp at hi
 |cons a l ih=>
  have ha:(a.map dk).length=sz:=by simpa using h a oS
  cases i with
  |zero=>
   simp only[Nat.zero_mul,List.take_zero,List.nil_append,Nat.zero_add,List.set_cons_zero];unfold dt;rw[List.flatMap_cons,List.flatMap_cons, <- ha,List.drop_left]
  |succ i=>
   have ih:=ih (i:=i) (fun w C=>h w (by simp[C])) (by simpa using hi);simp only[List.set_cons_succ];unfold dt at ih ⊢;rw[List.flatMap_cons,List.flatMap_cons, <- ih,show(i+1)*sz=(a.map dk).length+i*sz by rw[ha,Nat.add_mul];omega,List.take_length_add_append,Nat.add_assoc,List.drop_length_add_append];simp
theorem aeW(n:Nat)(w:List Int):dM n (w.map dk)=dt (replicate n w):=by
 unfold dM dt
 induction n with
 |zero=>rfl
 |succ n ih=>rw[List.replicate_succ,List.replicate_succ,List.flatten_cons,List.flatMap_cons,ih]
theorem Eg(n:Nat)(b:Bool):dM n [B b]=(replicate n b).map B:=by
 unfold dM
 induction n with
 |zero=>rfl
 |succ n ih=>rw[List.replicate_succ,List.replicate_succ,List.flatten_cons,List.map_cons,ih];rfl
theorem ahE(l:List (List Int)):∀ a∈dt l,Tr a:=.flat fun w=>.map fun _=>.s _
theorem MC{sz:Nat}{l:List (List Int)}{i:Nat}{w:List Int}(h:∀ w∈l,w.length=sz)(C:w.length=sz):∀ u∈l.set i w,u.length=sz:=fun u hu=>by
 rcases List.mem_or_eq_of_mem_set hu with h1|h1
 .exact h u h1
 .rw[h1];exact C
theorem TI:∀ {w v:List Int},w.length=v.length->qN (w.map dk) (v.map dk)=some (w.map (Value.int .u64),v.map (Value.int .u64))
 |[],[],_=>rfl
 |a::w,b::v,h=>by
  have:=TI (w:=w) (v:=v) (by simpa using h);simp[qN,zT,this]
theorem TJ:∀ {w v:List Int},w.length=v.length->kf (w.map (Value.int .u64)) (v.map (Value.int .u64))=(w==v)
 |[],[],_=>rfl
 |a::w,b::v,h=>by
  have:=TJ (w:=w) (v:=v) (by simpa using h);simp[kf,uT,this]
theorem ac7(w:List Int):(w.map (Value.int .u64)).map lb=replicate w.length 0:=by
 induction w with
 |nil=>rfl
 |cons a w ih=>simpa[lb,List.replicate_succ] using ih
end Go.Argus
namespace Go.Proofs.Tryz.K
theorem Pg{f:FuncId}{cs:List D}{xs:List Int}(hs:Ai prog f [] cs (xs.map fun n=>[I n]))(ht:Tr (.fn (.func f) [] cs))(hlen:xs.length<=12):nj prog 233 [.fn (.func f) [] cs] ((oV xs).map I) xs.length 3:=by
 have C:∀ a∈[.fn (.func f) [] cs],Tr a:=.cons ht .nil;refine Kf ajH C (.map fun _=>.s _) ?_;rw[ajI];have Pc:=Pc hs ht oG;refine ws ?_;refine SS ?_;refine er ?_;refine SS ?_;refine N1 Pc rfl aG ?_;refine SS ?_;refine er ?_;refine SS ?_;refine lD (anQ (i:=0) (l:=xs) oG rfl rfl hlen) rfl aG fun r m' aD hp=>?_;obtain⟨rfl,rfl,rfl⟩:=hp;refine er ?_;refine af ?_;exact ab (aw rfl ⟨0,rfl,rfl⟩)
theorem wP{f:FuncId}{cs:List D}{xs:List Int}(hs:Ai prog f [] cs (xs.map fun n=>[I n]))(ht:Tr (.fn (.func f) [] cs))(hlen:xs.length<=12):az prog 174 [.fn (.func f) [] cs] (aT (BC xs)):=by
 have C:∀ a∈[.fn (.func f) [] cs],Tr a:=.cons ht .nil;refine bu ajJ C (dU _) ?_;rw[ajK];have Pg:=Pg hs ht hlen;refine ws ?_;refine SS ?_;refine ab (ay ?_);refine SS ?_;refine N1 Pg rfl aG ?_;refine lD (anT (i:=0) (d:=oV xs) (n:=xs.length) oG rfl oS oG) rfl aG fun r m' aD hp=>?_;obtain⟨rfl,rfl,c,rfl,hc⟩:=hp;refine SS ?_;refine ab (aX (bZ [(0,c,3)] ⟨an _ _ _,trivial⟩ (l:=[(2,aT (BC xs))]) ⟨?_,trivial⟩) (aw rfl rfl));exact lT c3 (by rw[List.drop_zero,Nat.mul_one];exact hc)
def nextR(x:Argus.End):List Int:=BC (dB x)
theorem V0{x:Argus.End}(hlen:x.aC.length<=9):az prog 174 [.fn (.func 234) [] [.pt (a8 x)]] (aT (nextR x)):=
 wP (Ye oG) (.fn oS (.cons (.pt (mr x)) .nil)) (by have:=MA x;omega)
theorem yN{x:Argus.End}{b:Int}{w:List Int}(J:w.length=20)(hlen:x.aC.length<=1000)(hn: -1000000<=fc x/\fc x<1280):az prog 134 [.agg (a8 x),I b,iw w] (iw (gO x b w)):=by
 have C:∀ a∈[D.agg (a8 x),I b,iw w],Tr a:=.cons (.agg (mr x)) (.cons (.s _) (.cons (sa _) .nil));refine bu ajL C (sa _) ?_;rw[ajM];have Pa:=Pa (x:=x) (b:=b) hlen;refine ws ?_;refine av ?_;refine ab (aI (aj ?_));refine af ?_;refine cl Pa ?_;refine ab (dZ rfl (fun h=>?_) fun h=>cX (aj ?_))
 .have Ph:=Ph (x:=x);have sb:=sb (w:=w) (n:=fc x) J hn;refine aI (ej ac6 ?_);refine af ?_;refine cl Ph ?_;refine cl sb ?_;refine SS ?_;refine bN bO (eb (lO (mi rfl rfl a201 tf (oR oP) t201 oP) ?_));simp[gO,h]
 .refine af ?_;refine ab (lO (mi rfl rfl a201 tf (oR oP) t201 oP) ?_);simp[gO,h]
theorem o4{b:bB}{w:List Int}(hw:w.length=20)(hl:b.ins.length<=100000)(hi:∀ x∈b.ins,rX x)(hf:EL b.fin)(zc:∀ x∈b.ins,(c6 x).length<=100000)(gi:(c8 b.fin).length<=100000):az prog 133 [.agg (cg b),iw w] (.bd [iw (jE b w).1,B (jE b w).2]):=by
 have bx:∀ a∈[D.agg (cg b),iw w],Tr a:=.cons (.agg (SJ b)) (.cons (sa _) .nil);refine bu ajN bx (.bd (.cons (sa _) (.cons (.s _) .nil))) ?_;rw[ajO];refine ws ?_;refine cR (uy (cs:=cg _) rfl) ak (by first|rfl|exact vJ gS cb|exact pW _|exact wx dc) ?_;refine av ?_;refine ab (ay ?_);refine SS ?_;refine ab (aX (aY (l:=[(2,.rp 0 0),(3,.rp 1 0),(4,.rp 2 0),(6,B true)]) (ml:=[(0,.cells (cg b) 59),(1,.cells (w.map dk) 201),(2,.cells (replicate 20 (dk 0)) 201)]) eH eH) (aI (ay ?_)));refine aR ?_
 refine ab (cD (fun s=>∃ n',3<=n'/\aM prog s ⟨aF [(2,.rp 0 0),(3,.rp 1 0),(4,.rp 2 0),(6,B (l6 b.ins w).2)],bJ [(0,.cells (cg b) 59),(1,.cells ((l6 b.ins w).1.map dk) 201),(2,.cells (replicate 20 (dk 0)) 201)],n'⟩) (gM (α:=Nat×Nat)
  (fun k=>⟨aF [(2,.rp 0 0),(3,.rp 1 0),(4,.rp 2 0),(6,B (l6 (b.ins.take k.1) w).2),(14,iX b.ins),(15,I b.ins.length),(16,I k.1)],bJ [(0,.cells (cg b) 59),(1,.cells ((l6 (b.ins.take k.1) w).1.map dk) 201),(2,.cells (replicate 20 (dk 0)) 201)],k.2⟩)
  (fun k=>k.1<=b.ins.length/\3<=k.2) (fun k=>b.ins.length - k.1) (0,3) (aY eH eH) ⟨oS,oS⟩ ?_) ?_)
 .rintro⟨k,N⟩ ⟨hk,hN⟩;dsimp only at hk hN ⊢;refine SS ?_;refine ab ⟨_,rfl,fun h=>?_,fun h=>?_⟩
  .have al:k<b.ins.length:=by simpa using h
   have hx:b.ins[k]? =some b.ins[k]:=by simp[al]
   have n4:b.ins[k]∈b.ins:=di al;generalize b.ins[k]=x at hx n4;obtain⟨ird,Zo,iwr,X⟩:=hi x n4;have C:l6 (b.ins.take (k+1)) w=mI (l6 (b.ins.take k) w) x:=rI hx;have hlen:(l6 (b.ins.take k) w).1.length=20:=by rw[L7,hw]
   generalize l6 (b.ins.take k) w=u at C hlen;obtain⟨v,ok⟩:=u;dsimp only at hlen ⊢;refine ws ?_;refine aR ?_;refine ab (aI (ay ?_));have CC:=CC (x:=x) X;refine SS ?_;refine cl CC ?_;refine af ?_;have aqV:=zc x n4
   refine ab (cD (fun s=>aM prog s ⟨aF [(2,.rp 0 0),(3,.rp 1 0),(4,.rp 2 0),(6,B (jq v ok (c6 x))),(8,.rp N 0),(14,iX b.ins),(15,I b.ins.length),(16,I k)],up (bJ [(0,.cells (cg b) 59),(1,.cells (v.map dk) 201),(2,.cells (replicate 20 (dk 0)) 201)]) N (some (.cells (bA x) 54)),N+1⟩) (gM (α:=Nat)
    (fun j=>⟨aF [(2,.rp 0 0),(3,.rp 1 0),(4,.rp 2 0),(6,B (jq v ok ((c6 x).take j))),(8,.rp N 0),(14,iX b.ins),(15,I b.ins.length),(16,I k),(21,aT (c6 x)),(22,I (c6 x).length),(23,I j)],up (bJ [(0,.cells (cg b) 59),(1,.cells (v.map dk) 201),(2,.cells (replicate 20 (dk 0)) 201)]) N (some (.cells (bA x) 54)),N+1⟩)
    (fun j=>j<=(c6 x).length) (fun j=>(c6 x).length - j) 0 (vI eH (wB _ _ _ _)) oG ?_) ?_)
   .intro j hj;refine SS ?_;refine ab ⟨_,rfl,fun h=>?_,fun h=>?_⟩
    .have J:j<(c6 x).length:=by simpa using h
     have hr:(c6 x)[j]? =some (c6 x)[j]:=by simp[J]
     have O:(c6 x)[j]∈c6 x:=di J;generalize (c6 x)[j]=r at hr O;have pb:=ird r O;obtain⟨M,rfl⟩:=iG pb.1;have mL:=mL (w:=v) (m:=M) hlen oG;refine ws ?_;refine av ?_;refine ab (jn ?_);refine aR ?_;refine gc mL ?_;refine af ?_;refine ab ?_;refine af ?_;refine ab (bg (j+1) (ao ⟨rfl,rfl,rfl,?_,rfl,rfl,rfl,rfl,rfl,rfl,rfl,trivial⟩) oG oG)
     have e:jq v ok ((c6 x).take (j+1))=(jq v ok ((c6 x).take j)&&lF v M):=by
      unfold jq;rw[rI hr,eI]
     rw[e];generalize jq v ok ((c6 x).take j)=g;cases g<;>rfl
    .have bG:¬ j<(c6 x).length:=by simpa using h
     refine ao ⟨rfl,rfl,rfl,?_,rfl,rfl,rfl,rfl,trivial⟩;show B _=B _;rw[cO oG]
   .intro s hg;have C:l6 (b.ins.take (k+1)) w=(xX v x,jq v ok (c6 x)&&(x.op !=17||lF v (lL x.n).toNat)):=C;generalize jq v ok (c6 x)=Qy at hg C;have Fg:=Fg (w:=v) (x:=x) hlen (fun h=>Zo (.inr h)) (fun _=>by omega);have fin:∀ (d:Bool) env,d=(Qy&&(x.op !=17||lF v (lL x.n).toNat))->nh [(2,.rp 0 0),(3,.rp 1 0),(4,.rp 2 0),(6,B d),(8,.rp N 0),(14,iX b.ins),(15,I b.ins.length),(16,I k)] env->True:=fun _ _ _ _=>trivial;refine⟨_,hg,?_⟩;cases Qy with
    |false=>
     have wL:false=true->az prog 182 [I x.n] (I (lL x.n)):=fun h=>by cases h
     have mL:false=true->az prog 135 [iw v,I (lL x.n)] (B true):=fun h=>by cases h
     refine ej Le ?_;refine bj ?_;refine Nc rfl rfl rfl (fun hc=>⟨ak,wL hc⟩) ?_;refine Nc rfl rfl rfl (fun hc=>⟨ak,mL hc⟩) ?_;refine av ?_;refine bN bO (jn ?_);refine af ?_;refine cl Fg ?_;refine SS ?_;refine ab ?_;refine af ?_;refine ab (bg (k+1,N+1) (aY ⟨rfl,rfl,rfl,?_,rfl,rfl,rfl,trivial⟩ ⟨au oG (au oG rfl),?_,au oG (au oG rfl),trivial⟩) ⟨oM,oM⟩ oM)
     .dsimp only;rw[C];rfl
     .dsimp only;rw[C];exact an _ _ _
    |true=>
     by_cases jl:x.op=17
     .have pX:(x.op !=17)=false:=by simp[jl]
      have aq5:=Zo (.inl jl);have wL:=wL (n:=x.n) oG;obtain⟨sn,U⟩:=iG (show 0<=lL x.n by unfold lL;omega);have mL:=mL (w:=v) (m:=sn) hlen (by unfold lL at U;omega);rw[<- U] at mL;refine ej Le ?_;refine aR ?_;refine cq rfl rfl (Nh rfl rfl pX) (fun hc=>⟨ak,rfl⟩) ?_;refine aR ?_;refine gc wL ?_;refine gc mL ?_;refine av ?_;refine bN bO (jn ?_);refine af ?_;refine cl Fg ?_;refine SS ?_;refine ab ?_;refine af ?_;refine ab (bg (k+1,N+1) (aY ⟨rfl,rfl,rfl,?_,rfl,rfl,rfl,trivial⟩ ⟨au oG (au oG rfl),?_,au oG (au oG rfl),trivial⟩) ⟨oM,oM⟩ oM)
      .dsimp only;rw[C,pX,U];rfl
      .dsimp only;rw[C];exact an _ _ _
     .have pX:(x.op !=17)=true:=by simp[jl]
      have wL:false=true->az prog 182 [I x.n] (I (lL x.n)):=fun h=>by cases h
      have mL:false=true->az prog 135 [iw v,I (lL x.n)] (B true):=fun h=>by cases h
      refine ej Le ?_;refine aR ?_;refine cq rfl rfl (Nh rfl rfl pX) (fun hc=>⟨ak,rfl⟩) ?_;refine SS ?_;(iterate 5 refine z fun _ _=>?_);refine av ?_;refine bN bO (jn ?_);refine af ?_;refine cl Fg ?_;refine SS ?_;refine ab ?_;refine af ?_;refine ab (bg (k+1,N+1) (aY ⟨rfl,rfl,rfl,?_,rfl,rfl,rfl,trivial⟩ ⟨au oG (au oG rfl),?_,au oG (au oG rfl),trivial⟩) ⟨oM,oM⟩ oM)
      .dsimp only;rw[C,pX];rfl
      .dsimp only;rw[C];exact an _ _ _
  .have bG:¬ k<b.ins.length:=by simpa using h
   have w8:b.ins.take k=b.ins:=cO oG;refine⟨N,hN,?_⟩;rw[w8];exact ao eH
 .rintro s ⟨n',eO,hg⟩;have hlen:(l6 b.ins w).1.length=20:=by rw[L7,hw]
  have Gi:jE b w=((l6 b.ins w).1,jq (l6 b.ins w).1 (l6 b.ins w).2 (c8 b.fin)):=rfl;rw[Gi];generalize l6 b.ins w=u at hg hlen ⊢;obtain⟨v,ok⟩:=u;dsimp only at hlen hg ⊢;have Pj:=Pj (x:=b.fin) hf.a1 hf.a2;refine⟨_,hg,aI (ay ?_)⟩;refine af ?_;refine cl Pj ?_;refine af ?_
  refine ab (cD (fun s=>aM prog s ⟨aF [(3,.rp 1 0),(4,.rp 2 0),(6,B (jq v ok (c8 b.fin)))],bJ [(1,.cells (v.map dk) 201),(2,.cells (replicate 20 (dk 0)) 201)],n'⟩) (gM (α:=Nat)
   (fun j=>⟨aF [(3,.rp 1 0),(4,.rp 2 0),(6,B (jq v ok ((c8 b.fin).take j))),(53,aT (c8 b.fin)),(54,I (c8 b.fin).length),(55,I j)],bJ [(1,.cells (v.map dk) 201),(2,.cells (replicate 20 (dk 0)) 201)],n'⟩)
   (fun j=>j<=(c8 b.fin).length) (fun j=>(c8 b.fin).length - j) 0 (aY eH eH) oG ?_) ?_)
  .intro j hj;refine SS ?_;refine ab ⟨_,rfl,fun h=>?_,fun h=>?_⟩
   .have J:j<(c8 b.fin).length:=by simpa using h
    have hr:(c8 b.fin)[j]? =some (c8 b.fin)[j]:=by simp[J]
    have O:(c8 b.fin)[j]∈c8 b.fin:=di J;generalize (c8 b.fin)[j]=r at hr O;have pb:=hf.rd r O;obtain⟨M,rfl⟩:=iG pb.1;have mL:=mL (w:=v) (m:=M) hlen oG;refine ws ?_;refine av ?_;refine ab (jn ?_);refine af ?_;refine cq rfl rfl (fD rfl rfl V.h V.h (oR (by first|rfl|exact bt rfl|(simp;done)|(simp;omega)|omega))) (fun hc=>⟨ak,(fE V.h V.h (by first|rfl|exact bt rfl|(simp;done)|(simp;omega)|omega))⟩) ?_;refine SS ?_;refine gc mL ?_;refine af ?_;refine ab ?_;refine af ?_;refine ab (bg (j+1) (ao ⟨rfl,rfl,?_,rfl,rfl,rfl,trivial⟩) oG oG)
    have e:jq v ok ((c8 b.fin).take (j+1))=(jq v ok ((c8 b.fin).take j)&&lF v M):=by
     unfold jq;rw[rI hr,eI]
    rw[e];generalize jq v ok ((c8 b.fin).take j)=g;cases g<;>rfl
   .have bG:¬ j<(c8 b.fin).length:=by simpa using h
    refine ao ⟨rfl,rfl,?_,trivial⟩;show B _=B _;rw[cO oG]
  .intro s hg;refine⟨_,hg,aj ?_⟩;refine aR ?_;exact ab (aa2 (mi rfl rfl a201 tf (oR oP) t201 oP) rfl rfl)
end Go.Proofs.Tryz.K
end
namespace Go.Argus
open Go.Abs
theorem abU{l:List Int}{j:Nat}(hj:j+1<l.length){x:Int}:x∈swapAt l j↔x∈l:=by
 have ha:l.getD j 0=l[j]:=by simp[eh,bc (show j<l.length by omega)]
 have hb:l.getD (j+1) 0=l[j+1]:=by simp[eh,bc hj]
 unfold swapAt;rw[ha,hb];exact(List.set_set_perm (show j+1<l.length from hj) (show j<l.length by omega)).mem_iff
theorem TT{x:Int}:∀ (j:Nat) {l:List Int},j<l.length->(x∈pZ l j↔x∈l)
 |0,l,_=>Iff.rfl
 |j+1,l,hj=>by
  simp only[pZ];split
  .exact(TT j oP).trans (abU hj)
  .exact Iff.rfl
theorem S4{l:List Int}{x:Int}:∀ k,k<l.length->(x∈nW l k↔x∈l)
 |0,_=>Iff.rfl
 |k+1,h=>by
  simp only[nW];exact(TT (k+1) (by simpa using h)).trans (S4 k oG)
theorem adH{l:List Int}{x:Int}:x∈oV l↔x∈l:=by
 unfold oV;cases l with
 |nil=>simp[nW]
 |cons a l=>exact S4 _ oS
theorem K3{l:List Int}{x:Int}:x∈BC l↔x∈l:=by
 unfold BC oA;rw[UR (bM _),List.take_length];exact adH
theorem wrap_u64{n:Nat}(h:n<2 ^ 64):IntKind.u64.wrap (n:Int)=n:=by
 unfold IntKind.wrap;simp[IntKind.signed,IntKind.bits];omega
theorem agv{a b:Int}(ha:0<=a/\a<18446744073709551616):0<=qU a b/\qU a b<=a:=by
 unfold qU mn;simp only;rw[wrap_u64 (n:=(BitVec.ofInt IntKind.u64.bits a&&& BitVec.ofInt IntKind.u64.bits b).toNat) (BitVec.isLt (w:=64) _)];obtain⟨n,rfl⟩:=iG ha.1
 have h1:(BitVec.ofInt IntKind.u64.bits (n:Int)).toNat=n:=by
  rw[BitVec.toNat_ofInt];show((n:Int) % ((2 ^ 64:Nat):Int)).toNat=n;omega
 have h2:(BitVec.ofInt IntKind.u64.bits (n:Int)&&& BitVec.ofInt IntKind.u64.bits b).toNat<=n:=by
  rw[BitVec.toNat_and,h1];exact Nat.and_le_left
 omega
end Go.Argus
section
open Go Go.Abs Go.Proofs Go.Argus
namespace Go.Abs
section
variable{P:Program}{env:Env}{m:Mem}{nx:Nat}{x y:Operand}{t p:TypeId}{k:IntKind}{n n':Int}
theorem Ed{j i l sz:Nat}{e:TypeId}{r:Row}(hx:(opd env x).core=.rs j 0 l)(hy:(opd env y).core=.s (.int k (i:Int)))(hm:m j=some r)(he:aE P t=e)(hs:P.cellsOf e=sz):
 Ef P (.indexAddr t x y) env m nx ⟨bh P t=true/\i<l,.rp j (i*sz),[],[j],0⟩:=by
 have h:=MS (P:=P) (env:=env) (m:=m) (nx:=nx) (t:=t) hx hy hm he hs;have h1:0+((i:Int)).toNat*sz=i*sz:=by simp
 have h2:(bh P t=true/\(0:Int)<=(i:Int)/\(i:Int)<l)=(bh P t=true/\i<l):=by
  apply propext;constructor
  .rintro⟨a,_,b⟩;exact⟨a,oG⟩
  .rintro⟨a,b⟩;exact⟨a,oG,oG⟩
 rw[h1,h2] at h;exact h
theorem aeX{ps:Array (Nat×Operand)}{e:TypeId}{l:Nat}{z:List D}(hu:P.underlying t=some (.array l e))(hp:ps.toList=[])(hz:bq P t=z):Ef P (.build t ps) env m nx ⟨aO P t=true/\aO P e=true,.agg z,[],[],0⟩:=by
 refine⟨?_,rfl,rfl⟩;simp only[aW,hu,hp,hz,List.map_nil,kJ,Option.map_some]
theorem ajP{xs ys:List D}{us vs:List Value}{C:List Nat}(hx:(opd env x).core=.agg xs)(hy:(opd env y).core=.agg ys)(hf:B5 P t=some C)(hz:qN xs ys=some (us,vs)){c:Bool}(hc:(!kf us vs)=c):
 Ef P (.binOp .neq t x y p) env m nx ⟨us.map lb=C/\P.eqGuardType P.depth t=false,.s (.bool c),[],[],0⟩:=by
 refine⟨?_,rfl,rfl⟩
 have hn:lX P m .neq t (.agg xs) y=none:=by
  unfold lX;split<;>first|rfl|(rename_i h;cases h)
 simp only[aW,bn,hx,hy,hn,qO,zF,hf,hz,hc,Option.map_some]
end
def An(cs:List D):Prop:=∀ d∈cs,∃ v,d=.s v
theorem An.map{α:Type}{f:α->Value}{l:List α}:An (l.map fun x=>.s (f x)):=fun d hd=>by
 obtain⟨x,_,rfl⟩:=List.mem_map.1 hd;exact⟨_,rfl⟩
theorem ajQ{i sz:Nat}{C cs:List D}(h:An cs):cs.map (sub (dh i C sz))=cs:=by
 induction cs with
 |nil=>rfl
 |cons d cs ih=>
  obtain⟨v,rfl⟩:=h d oS;rw[List.map_cons,ih fun d hd=>h d (by simp[hd])];rfl
theorem MD{m:Mem}{i j sz:Nat}{J cs:List D}{e:TypeId}(C:j≠i)(hm:m j=some (.cells cs e))(h:An cs):(if j=i then none else(m j).map (Row.sub (dh i J sz)))=some (.cells cs e):=by
 rw[if_neg C,hm];show some (Row.cells (cs.map _) e)=_;rw[ajQ h]
theorem ahF{i sz n:Nat}{C es:List D}:sub (dh i C sz) (.sl es n)=.sl es n:=rfl
theorem LD{i j sz off n:Nat}{C:List D}(h:j≠i):sub (dh i C sz) (.rs j off n)=.rs j off n:=by
 show(if j=i then _ else D.rs j off n)=_;rw[if_neg h]
theorem mW{i sz n:Nat}{C:List D}(h:C.length=n*sz):sub (dh i C sz) (.rs i 0 n)=.sl C n:=by
 show(if i=i then D.sl ((C.drop 0).take (n*sz)) n else _)=_;rw[if_pos rfl,List.drop_zero,cO oG]
end Go.Abs
namespace Go.Proofs.Tryz.K
theorem ajR:B5 prog 201=some (replicate 20 0):=kr
theorem ajS:prog.eqGuardType prog.depth 201=false:=kr
theorem ajT:bq prog 201=(replicate 20 (0:Int)).map dk:=z201
theorem anU:prog.underlying 201=some (.array 20 199):=kr
section
variable{env:Env}{m:Mem}{nx:Nat}{x y:Operand}{p:TypeId}
theorem ajU{w v:List Int}(hx:(opd env x).core=iw w)(hy:(opd env y).core=iw v)(h:w.length=v.length):Ef prog (.binOp .neq 201 x y p) env m nx ⟨(w.map (Value.int .u64)).map lb=replicate 20 0/\prog.eqGuardType prog.depth 201=false,B (w !=v),[],[],0⟩:=
 ajP hx hy ajR (TI h) (by rw[TJ h];rfl)
theorem ajV{w:List Int}(h:w.length=20):(w.map (Value.int .u64)).map lb=replicate 20 0/\prog.eqGuardType prog.depth 201=false:=⟨by rw[ac7,h],ajS⟩
end
end Go.Proofs.Tryz.K
namespace Go.Argus
open Go.Proofs.Tryz.K (nextR)
structure CS where
 wsq:List (List Int)
 re:List Bool
 ch:Bool
def cY(x:End)(w:List Int)(s:CS)(n:Int):CS:=
 if s.re.getD n.toNat false=false\/jf (s.wsq.getD n.toNat []) (gO x n w)≠s.wsq.getD n.toNat [] then⟨s.wsq.set n.toNat (jf (s.wsq.getD n.toNat []) (gO x n w)),s.re.set n.toNat true,true⟩ else s
def dP(bs:List bB)(s:CS)(k:Nat):CS:=match bs[k]? with
 |none=>s
 |some x=>if s.re.getD k false=true then(nextR x.fin).foldl (cY x.fin (jE x (s.wsq.getD k [])).1) s else s
def jS(bs:List bB)(s:CS):CS:=(range bs.length).foldl (dP bs) ⟨s.wsq,s.re,false⟩
def lM(bs:List bB):Nat->CS->CS
 |0,s=>s
 |k+1,s=>if(jS bs s).ch=true then lM bs k (jS bs s) else jS bs s
def l7:Int:=18446744073709551615
def jJ:Nat->List Int
 |0=>replicate 20 0
 |k+1=>gD (jJ k) k
@[simp] theorem SK : ∀ k, (jJ k).length = 20
 |0=>rfl
 |k+1=>by simp[jJ,SK k]
def lz(n args:Nat):CS:=⟨(replicate n (replicate 20 l7)).set 0 (jJ args),(replicate n false).set 0 true,true⟩
def eF(u:Int):Prop:=0<=u/\u<18446744073709551616
structure gF(n:Nat)(s:CS):Prop where
 lw:s.wsq.length=n
 lr:s.re.length=n
 lx:∀ w∈s.wsq,w.length=20
 rg:∀ w∈s.wsq,∀ u∈w,eF u
def n8(w:List Int):Nat:=(w.map Int.toNat).sum
def rA(s:CS):Nat:=(s.wsq.map n8).sum+s.re.count false
def pj(s:CS):Nat:=rA s+if s.ch=true then 1 else 0
theorem UU{l:List Nat}{k x y:Nat}(h:l[k]? =some x):(l.set k y).sum+x=l.sum+y:=by
 induction l generalizing k with
 |nil=>simp at h
 |cons a l ih=>cases k with
  |zero=>simp at h;subst h;simp;omega
  |succ k=>have:=ih (k:=k) (by simpa using h);simp;omega
theorem aeY{l:List Int}{k:Nat}{x y:Int}(h:l[k]? =some x):n8 (l.set k y)+x.toNat=n8 l+y.toNat:=by
 unfold n8;rw[List.map_set];exact UU (by simp[h])
theorem SL{a b:Int}(h:eF a):eF (qU a b)/\qU a b<=a:=by
 have:=agv (b:=b) h;exact⟨⟨this.1,by unfold eF at h;omega⟩,this.2⟩
theorem aeZ{α:Type}{l:List α}{k:Nat}{x:α}(h:l[k]? =some x):l.set k x=l:=by
 apply List.ext_getElem?;intro i;rw[List.getElem?_set];split
 .rename_i e;subst e;rw[if_pos (bX.1 h).1,h]
 .rfl
theorem TK{w v:List Int}(J:∀ u∈w,eF u):∀ k,k<=w.length->(∀ u∈fR w v k,eF u)/\n8 (fR w v k)<=n8 w/\(fR w v k≠w->n8 (fR w v k)<n8 w)
 |0,_=>⟨J,bM _,fun h=>absurd rfl h⟩
 |k+1,hk=>by
  obtain⟨h1,h2,M⟩:=TK (v:=v) J k oG;have hl:k<(fR w v k).length:=by simp;omega
  have hx:(fR w v k)[k]? =some (fR w v k)[k]:=bc hl;have hg:(fR w v k).getD k 0=(fR w v k)[k]:=by simp[eh,hx]
  have hm:=h1 _ (di hl);simp only[fR,hg];generalize (fR w v k)[k]=a at hx hm;obtain⟨r1,r2⟩:=SL (b:=v.getD k 0) hm;generalize qU a (v.getD k 0)=y at r1 r2;have hs:=aeY (y:=y) hx;unfold eF at r1 hm;refine⟨fun u hu=>?_,oG,fun C=>?_⟩
  .rcases List.mem_or_eq_of_mem_set hu with h|h
   .exact h1 u h
   .subst h;exact r1
  .by_cases e:y=a
   .subst e;have:(fR w v k).set k y=fR w v k:=aeZ hx;rw[this] at C ⊢;exact M C
   .omega
theorem ae0{l:List (List Int)}{k:Nat}{w v:List Int}(h:l[k]? =some w):((l.set k v).map n8).sum+n8 w=(l.map n8).sum+n8 v:=by
 rw[List.map_set];exact UU (by simp[h])
theorem count_set{l:List Bool}{k:Nat}{b:Bool}(h:l[k]? =some b):(l.set k true).count false+(if b=true then 0 else 1)=l.count false:=by
 induction l generalizing k with
 |nil=>simp at h
 |cons a l ih=>cases k with
  |zero=>simp at h;subst h;cases a<;>simp
  |succ k=>have:=ih (k:=k) (by simpa using h);simp only[List.set_cons_succ,List.count_cons];omega
theorem GQ{x:End}{w:List Int}{s:CS}{n:Nat}{t:Int}(hs:gF n s)(ht:0<=t/\t<n):gF n (cY x w s t)/\pj (cY x w s t)<=pj s:=by
 obtain⟨lw,lr,lx,rg⟩:=hs;obtain⟨k,rfl⟩:=iG ht.1;have hk:k<n:=by omega
 have hx:s.wsq[k]? =some s.wsq[k]:=bc oG;have hb:s.re[k]? =some s.re[k]:=bc oG;have U:s.wsq.getD k []=s.wsq[k]:=by simp[eh,hx]
 have O:s.re.getD k false=s.re[k]:=by simp[eh,hb]
 have hm:s.wsq[k]∈s.wsq:=di _;unfold cY;simp only[eI,U,O];generalize s.wsq[k]=v at hx hm;generalize s.re[k]=b at hb;have X:=lx v hm;obtain⟨C,M,J⟩:=TK (v:=gO x k w) (rg v hm) 20 oG;have hl:=SM v (gO x k w)
 change (∀ u∈jf v (gO x k w),eF u) at C
 change n8 (jf v (gO x k w))<=n8 v at M
 change jf v (gO x k w)≠v->n8 (jf v (gO x k w))<n8 v at J
 generalize jf v (gO x k w)=u at C M J hl;split
 .rename_i hc;refine⟨⟨by simp[lw],by simp[lr],MC lx oG,fun y hy=>?_⟩,?_⟩
  .rcases List.mem_or_eq_of_mem_set hy with h|h
   .exact rg y h
   .subst h;exact C
  .have h1:=ae0 (v:=u) hx;have h2:=count_set hb;unfold pj rA;simp only[if_true];rcases hc with hc|hc
   .subst hc;simp only[Bool.false_eq_true,if_false] at h2;omega
   .have:=J hc;omega
 .exact⟨⟨lw,lr,lx,rg⟩,bM _⟩
theorem G8{α β:Type}{f:β->α->β}{J:β->Prop}{φ:β->Nat}{l:List α}(h:∀ x∈l,∀ s,J s->J (f s x)/\φ (f s x)<=φ s){s:β}(hs:J s):J (l.foldl f s)/\φ (l.foldl f s)<=φ s:=by
 induction l generalizing s with
 |nil=>exact⟨hs,bM _⟩
 |cons x l ih=>
  obtain⟨h1,h2⟩:=h x oS s hs;obtain⟨C,M⟩:=ih (fun y hy=>h y (by simp[hy])) h1;exact⟨C,Nat.le_trans M h2⟩
theorem G9(x:End):(nextR x).length<=x.aC.length+3:=by
 have h1:=US (d:=oV (dB x)) (oV (dB x)).length;have h2:=MA x;rw[SG] at h1;exact Nat.le_trans (by simpa[nextR,BC,oA] using h1) h2
structure uL(n:Nat)(b:bB):Prop where
 len:b.ins.length<=100000
 ins:∀ x∈b.ins,rX x
 fin:EL b.fin
 rl:∀ x∈b.ins,(c6 x).length<=100000
 rf:(c8 b.fin).length<=100000
 to:∀ t∈nextR b.fin,0<=t/\t<n
theorem L8{bs:List bB}{s:CS}{n k:Nat}(hb:∀ b∈bs,uL n b)(hs:gF n s):gF n (dP bs s k)/\pj (dP bs s k)<=pj s:=by
 unfold dP;split
 .exact⟨hs,bM _⟩
 .rename_i x hx;split
  .exact G8 (J:=gF n) (φ:=pj) (fun t ht s hs=>GQ hs ((hb x (cx hx)).to t ht)) hs
  .exact⟨hs,bM _⟩
theorem DG{bs:List bB}{s:CS}{n:Nat}(hb:∀ b∈bs,uL n b)(hs:gF n s):gF n (jS bs s)/\pj (jS bs s)<=rA s:=by
 have:=G8 (J:=gF n) (φ:=pj) (f:=dP bs) (l:=range bs.length) (fun k _ s hs=>L8 hb hs) (s:=⟨s.wsq,s.re,false⟩) ⟨hs.lw,hs.lr,hs.lx,hs.rg⟩;exact this
def iq(bs:List bB)(args:Nat):CS:=lM bs (rA (lz bs.length args)+1) (lz bs.length args)
theorem getD_some{α:Type}{l:List α}{k:Nat}{x d:α}(h:l[k]? =some x):l.getD k d=x:=by simp[eh,h]
theorem ME{α:Type}{n k:Nat}{x y:α}(hk:k<n):(replicate k x++replicate (n - k) y).set k x=replicate (k+1) x++replicate (n - (k+1)) y:=by
 rw[show n - k=n - (k+1)+1 by omega,List.replicate_succ,List.replicate_succ',List.append_assoc,List.singleton_append];rw[List.set_append];simp
theorem ae1{α:Type}{a b:Nat}{x y z:α}(h:z∈replicate a x++replicate b y):z=x\/z=y:=by
 rcases List.mem_append.1 h with h|h
 .exact .inl (List.eq_of_mem_replicate h)
 .exact .inr (List.eq_of_mem_replicate h)
theorem aaT{x:End}{w v:List Int}{s:CS}{k:Nat}{b:Bool}(hx:s.wsq[k]? =some v)(hb:s.re[k]? =some b)(h:b=false\/jf v (gO x k w)≠v):cY x w s k=⟨s.wsq.set k (jf v (gO x k w)),s.re.set k true,true⟩:=by
 unfold cY;rw[eI,getD_some hx,getD_some hb,if_pos h]
theorem abv{x:End}{w v:List Int}{s:CS}{k:Nat}{b:Bool}(hx:s.wsq[k]? =some v)(hb:s.re[k]? =some b)(h:¬ (b=false\/jf v (gO x k w)≠v)):cY x w s k=s:=by
 unfold cY;rw[eI,getD_some hx,getD_some hb,if_neg h]
theorem K0{n args:Nat}(ha:∀ u∈jJ args,eF u):gF n (lz n args):=by
 refine⟨by simp[lz],by simp[lz],MC (fun w C=>by rw[List.eq_of_mem_replicate C];simp) oS,fun w C u hu=>?_⟩;rcases List.mem_or_eq_of_mem_set C with h|h
 .rw[List.eq_of_mem_replicate h] at hu;rw[List.eq_of_mem_replicate hu];simp[eF,l7]
 .rw[h] at hu;exact ha u hu
end Go.Argus
namespace Go.Proofs.Tryz.K
theorem CD{p q:D}{f:aK}{n args:Nat}(hp:Tr p)(hq:Tr q)(gS:p.one=true)(cb:q.one=true)(hn:f.blocks.length=n)(p9:0<n)(rk:n<=100000)(ha:f.args=args)(tF:args<=1000)(Dw:∀ u∈jJ args,eF u)(hb:∀ b∈f.blocks,uL n b):
 az prog 132 [.agg (bC p q f)] (.bd [.sl (dt (iq f.blocks args).wsq) n,.sl ((iq f.blocks args).re.map B) n]):=by
 have bx:∀ a∈[D.agg (bC p q f)],Tr a:=.cons (nQ hp hq f) .nil;refine bu ajW bx (.bd (.cons (.sl (ahE _)) (.cons (.sl (.map fun _=>.s _)) .nil))) ?_;rw[ajX];refine ay ?_;refine av ?_;refine ab (aX (bZ [(0,bC p q f,113)] eH (l:=[(1,.pt (bC p q f))]) eH) (ua ac8 ?_));refine aR ?_;refine cR (D0 rfl rfl V.h V.h) ak ⟨oG,rfl,oG,by rw[Yn];omega,V.h⟩ ?_;refine fB ?_;have eO:((f.blocks.length:Nat):Int).toNat=n:=hn;refine bN bO (aX (aY (l:=[(1,.pt (bC p q f)),(4,.rs 1 0 n),(5,.rs 2 0 n)]) (ml:=[(1,.cells (dt (replicate n (replicate 20 0))) 201),(2,.cells ((replicate n false).map B) 4)]) ⟨rfl,?_,?_,trivial⟩ ⟨?_,?_,trivial⟩) (aI (ay ?_)))
 .exact congrArg (fun k=>D.rs 1 0 k) eO
 .exact congrArg (fun k=>D.rs 2 0 k) eO
 .exact congrArg (fun c=>some (Row.cells c 201)) ((congrArg (fun k=>dM k ((replicate 20 (0:Int)).map dk)) eO).trans (aeW n (replicate 20 0)))
 .exact congrArg (fun c=>some (Row.cells c 4)) ((congrArg (fun k=>dM k [B false]) eO).trans (Eg n false))
 refine av ?_
 refine ab (cD (fun s=>aM prog s ⟨aF [(1,.pt (bC p q f)),(4,.rs 1 0 n),(5,.rs 2 0 n)],bJ [(1,.cells (dt (replicate n (replicate 20 l7))) 201),(2,.cells ((replicate n false).map B) 4)],3⟩) (gM (α:=Nat)
  (fun k=>⟨aF [(1,.pt (bC p q f)),(4,.rs 1 0 n),(5,.rs 2 0 n),(27,I n),(28,I k)],bJ [(1,.cells (dt (replicate k (replicate 20 l7)++replicate (n - k) (replicate 20 0))) 201),(2,.cells ((replicate n false).map B) 4)],3⟩)
  (fun k=>k<=n) (fun k=>n - k) 0 (aY eH eH) oG ?_) ?_)
 .intro k hk;refine SS ?_;refine ab ⟨_,rfl,fun h=>?_,fun h=>?_⟩
  .have al:k<n:=by simpa using h
   have yK:=ME (x:=replicate 20 l7) (y:=replicate 20 (0:Int)) al
   have hi:(replicate k (replicate 20 l7)++replicate (n - k) (replicate 20 (0:Int)))[k]? =some (replicate 20 0):=by
    rw[List.getElem?_append_right oS,List.length_replicate,Nat.sub_self,show n - k=n - (k+1)+1 by omega,List.replicate_succ];rfl
   have AR:∀ w∈replicate k (replicate 20 l7)++replicate (n - k) (replicate 20 (0:Int)),w.length=20:=fun w U=>by
    rcases ae1 U with h|h<;>(rw[h];simp)
   have O6:az prog 178 [] (iw (replicate 20 l7)):=O6;refine ws ?_;refine af ?_;refine ab (jn ?_);refine af ?_;refine cl O6 ?_;refine af ?_;refine ab ?_;refine af ?_;refine ab (bg (k+1) (aY eH ⟨?_,rfl,trivial⟩) oG oG);rw[<- yK];rfl
  .have bG:¬ k<n:=by simpa using h
   have:k=n:=by omega
   subst this;refine aY eH ⟨?_,rfl,trivial⟩;show some (Row.cells (dt (_++replicate (k - k) _)) _)=_;rw[Nat.sub_self,List.replicate_zero,List.append_nil]
 rintro s hg;refine⟨_,hg,ay ?_⟩;have hi:(replicate n (replicate 20 l7))[0]? =some (replicate 20 l7):=by simp[p9]
 have AR:∀ w∈replicate n (replicate 20 l7),w.length=20:=fun w U=>by rw[List.eq_of_mem_replicate U];simp
 refine af ?_;refine aq (aeX anU rfl ajT) ak ⟨V.h,V.h⟩ ?_;refine aR ?_;refine ab (aX (aY (l:=[(1,.pt (bC p q f)),(4,.rs 1 0 n),(5,.rs 2 0 n)]) (ml:=[(1,.cells (dt ((replicate n (replicate 20 l7)).set 0 (jJ 0))) 201),(2,.cells (((replicate n false).set 0 true).map B) 4)]) eH ⟨rfl,?_,trivial⟩) (aI (ay ?_)))
 .rw[List.map_set];rfl
 clear hi;refine aR ?_
 refine ab (cD (fun s=>aM prog s ⟨aF [(1,.pt (bC p q f)),(4,.rs 1 0 n),(5,.rs 2 0 n)],bJ [(1,.cells (dt ((replicate n (replicate 20 l7)).set 0 (jJ args))) 201),(2,.cells (((replicate n false).set 0 true).map B) 4)],3⟩) (gM (α:=Nat)
  (fun k=>⟨aF [(1,.pt (bC p q f)),(4,.rs 1 0 n),(5,.rs 2 0 n),(43,I args),(44,I k)],bJ [(1,.cells (dt ((replicate n (replicate 20 l7)).set 0 (jJ k))) 201),(2,.cells (((replicate n false).set 0 true).map B) 4)],3⟩)
  (fun k=>k<=args) (fun k=>args - k) 0 (aY ⟨rfl,rfl,rfl,congrArg I ha,rfl,trivial⟩ eH) oG ?_) ?_)
 .intro k hk;refine SS ?_;refine ab ⟨_,rfl,fun h=>?_,fun h=>?_⟩
  .have al:k<args:=by simpa using h
   have hi:((replicate n (replicate 20 l7)).set 0 (jJ k))[0]? =some (jJ k):=by simp[p9]
   have AR:=MC (i:=0) AR (SK k);have sb:=sb (w:=jJ k) (n:=(k:Int)) oS oG;refine ws ?_;refine af ?_;refine ab (jn ?_);refine av ?_;refine aq (fD rfl rfl V.h V.h (Jc oN oN)) ak (fE V.h V.h (z8 oN oN)) ?_;refine SS ?_;refine cl sb ?_;refine af ?_;refine ab ?_;refine af ?_;refine ab (bg (k+1) (aY eH ⟨?_,rfl,trivial⟩) oG oG);show some (Row.cells (dt ((List.set _ 0 (jJ k)).set 0 (jJ (k+1)))) _)=_;rw[List.set_set]
  .have bG:¬ k<args:=by simpa using h
   have:k=args:=by omega
   subst this;exact ao eH
 clear AR;rintro s hg;refine⟨_,hg,aI (ay ?_)⟩;refine SS ?_;have hi0:=K0 (n:=n) Dw;have hR:iq f.blocks args=lM f.blocks (rA (lz n args)+1) (lz n args):=by rw[iq,hn]
 generalize iq f.blocks args=R at hR ⊢
 refine ab (cD (fun s=>∃ n',aM prog s ⟨aF [(4,.rs 1 0 n),(5,.rs 2 0 n)],bJ [(1,.cells (dt R.wsq) 201),(2,.cells (R.re.map B) 4)],n'⟩/\gF n R) (Mm (α:=CS×Nat)
  (fun s=>⟨aF [(1,.pt (bC p q f)),(4,.rs 1 0 n),(5,.rs 2 0 n),(8,B s.1.ch)],bJ [(1,.cells (dt s.1.wsq) 201),(2,.cells (s.1.re.map B) 4)],s.2⟩)
  (fun s=>gF n s.1/\3<=s.2/\(s.1.ch=true->∃ k,rA s.1<k/\lM f.blocks k s.1=R)/\(s.1.ch=false->s.1=R)) (fun s=>2*rA s.1+if s.1.ch=true then 1 else 0) (lz n args,3)
  (aY eH eH) ⟨hi0,bM _,fun _=>⟨_,Nat.lt_succ_self _,hR.symm⟩,fun h=>by cases h⟩ ?_) ?_)
 .rintro⟨C,N0⟩ ⟨Ao,xu,nG,Fl⟩;dsimp only at Ao xu nG Fl ⊢;refine SS ?_;refine ab ⟨_,rfl,fun h0=>?_,fun h=>?_⟩
  .obtain⟨gQ,ajY,EM⟩:=nG h0;obtain⟨gQ,rfl⟩:∃ j,gQ=j+1:=⟨gQ - 1,oG⟩
   have EN:=DG hb Ao;refine ws ?_;refine SS ?_;refine ab (ay ?_);refine bm ?_
   refine ab (gM (α:=Nat×Nat)
    (fun k=>⟨aF [(1,.pt (bC p q f)),(4,.rs 1 0 n),(5,.rs 2 0 n),(8,B ((range k.1).foldl (dP f.blocks) ⟨C.wsq,C.re,false⟩).ch),(58,dQ f.blocks),(59,I n),(60,I k.1)],bJ [(1,.cells (dt ((range k.1).foldl (dP f.blocks) ⟨C.wsq,C.re,false⟩).wsq) 201),(2,.cells (((range k.1).foldl (dP f.blocks) ⟨C.wsq,C.re,false⟩).re.map B) 4)],k.2⟩)
    (fun k=>k.1<=n/\3<=k.2) (fun k=>n - k.1) (0,N0) (aY ⟨rfl,rfl,rfl,rfl,rfl,congrArg (fun k:Nat=>I k) hn,rfl,trivial⟩ eH) ⟨Nat.zero_le _,xu⟩ ?_)
   rintro⟨k,N⟩ ⟨hk,hN⟩;dsimp only at hk hN ⊢;have cE:=(G8 (J:=gF n) (φ:=pj) (f:=dP f.blocks) (l:=range k) (fun k _ s hs=>L8 hb hs) (s:=⟨C.wsq,C.re,false⟩) ⟨Ao.lw,Ao.lr,Ao.lx,Ao.rg⟩).1;have dn:(range (k+1)).foldl (dP f.blocks) ⟨C.wsq,C.re,false⟩=dP f.blocks ((range k).foldl (dP f.blocks) ⟨C.wsq,C.re,false⟩) k:=by rw[List.range_succ,List.foldl_append];rfl
   have nq:k=n->(range k).foldl (dP f.blocks) ⟨C.wsq,C.re,false⟩=jS f.blocks C:=fun e=>by rw[e,jS,hn]
   generalize (range k).foldl (dP f.blocks) ⟨C.wsq,C.re,false⟩=u at cE dn nq;refine SS ?_;refine ab ⟨_,rfl,fun h=>?_,fun h=>?_⟩
   .have al:k<n:=by simpa using h
    have hx:f.blocks[k]? =some f.blocks[k]:=bc oG;have dp:f.blocks[k]∈f.blocks:=di _;generalize f.blocks[k]=x at hx dp;have X:=hb x dp;have M:dP f.blocks u k=if u.re.getD k false=true then(nextR x.fin).foldl (cY x.fin (jE x (u.wsq.getD k [])).1) u else u:=by rw[dP,hx]
    have lw:=cE.lw;have lr:=cE.lr;have lx:=cE.lx;have U:u.wsq[k]? =some u.wsq[k]:=bc oG;have oq:u.re[k]? =some u.re[k]:=bc oG;rw[getD_some U,getD_some oq] at M;have nH:=lx _ (di (h:=by omega):u.wsq[k]∈u.wsq);generalize u.wsq[k]=w at U M nH;generalize u.re[k]=b at oq M;have kd:=nL (f:=B) oq;refine ws ?_;refine cG ?_;refine ab (aI (aj ?_));refine af ?_;refine aq (rP rfl rfl (au oG (au oG rfl)) V.h V.h) ak ⟨V.h,oG⟩ ?_;refine aq (eR rfl (au oG (au oG rfl)) kd V.h) ak (eS V.h V.h kd) ?_;refine SS ?_;refine ab (dZ rfl (fun h=>uc (BO ?_)) fun h=>cX (ua abw ?_))
    .have Qz:b=false:=by simpa using h
     subst Qz;have M:dP f.blocks u k=u:=M;refine af ?_;refine ab (bg (k+1,N+1) (aY ⟨rfl,rfl,rfl,?_,rfl,rfl,rfl,trivial⟩ ⟨?_,?_,trivial⟩) ⟨oM,oM⟩ oM)
     .dsimp only;rw[dn,M];rfl
     .dsimp only;rw[dn,M];exact au oG (au oG rfl)
     .dsimp only;rw[dn,M];exact au oG (au oG rfl)
    have QA:b=true:=by simpa using h
    subst QA;have M:dP f.blocks u k=(nextR x.fin).foldl (cY x.fin (jE x w).1) u:=M;have o4:=o4 nH X.len X.ins X.fin X.rl X.rf;have wQ:=KQ x w;rw[nH] at wQ;generalize Gi:jE x w=th at o4 wQ M;obtain⟨w',Qy⟩:=th;dsimp only at wQ o4 M;clear kd;refine aq (fD (vs:=cg _) rfl (an _ _ _) V.h V.h rfl) ak (fE V.h V.h (by first|(simp;done)|omega|exact bt rfl)) ?_;refine af ?_;refine aq (Ed rfl rfl (au oG (au oG (an _ _ _))) V.h V.h) ak ⟨V.h,oG⟩ ?_;refine aq (fD rfl (au oG (au oG (an _ _ _))) V.h V.h (Jc oN oN)) ak (fE V.h V.h (z8 oN oN)) ?_;refine cl o4 ?_;refine cG ?_;refine bN bO (aX (vI (l:=[(1,.pt (bC p q f)),(4,.rs 1 0 n),(5,.rs 2 0 n),(8,B u.ch),(10,.rp N 0),(11,.rp (N+1) 0),(58,dQ f.blocks),(59,I n),(60,I k)]) (m':=up (up (bJ [(1,.cells (dt u.wsq) 201),(2,.cells (u.re.map B) 4)]) N (some (.cells (cg x) 59))) (N+1) (some (.cells (w'.map dk) 201))) eH (by rw[wB,wB])) (ay ?_));have wM:=wM (x:=x.fin);have wP:=V0 (x:=x.fin) X.fin.wh
    change az _ _ _ (aT (nextR x.fin)) at wP
    have gm:=X.to;have me:=G9 x.fin;have Zp:=X.fin.wh;generalize nextR x.fin=l at wP M gm me;refine aq (mX rfl (au oG (an _ _ _)) V.h) ak (je V.h) ?_;refine aq (fD (vs:=a8 _) rfl (au oG (an _ _ _)) V.h V.h rfl) ak (fE V.h V.h (by first|(simp;done)|omega|exact bt rfl)) ?_;refine cl wM ?_;refine cl wP ?_;refine af ?_;have tg:dP f.blocks u k=l.foldl (cY x.fin w') u:=M
    refine ab (gM (α:=Nat×Nat)
     (fun j=>⟨aF [(1,.pt (bC p q f)),(4,.rs 1 0 n),(5,.rs 2 0 n),(8,B ((l.take j.1).foldl (cY x.fin w') u).ch),(10,.rp N 0),(11,.rp (N+1) 0),(58,dQ f.blocks),(59,I n),(60,I k),(82,aT l),(83,I l.length),(84,I j.1)],up (up (bJ [(1,.cells (dt ((l.take j.1).foldl (cY x.fin w') u).wsq) 201),(2,.cells (((l.take j.1).foldl (cY x.fin w') u).re.map B) 4)]) N (some (.cells (cg x) 59))) (N+1) (some (.cells (w'.map dk) 201)),j.2⟩)
     (fun j=>j.1<=l.length/\N+2<=j.2) (fun j=>l.length - j.1) (0,N+2) (vI eH rfl) ⟨Nat.zero_le _,bM _⟩ ?_)
    rintro⟨j,N'⟩ ⟨hj,Kr⟩;dsimp only at hj Kr ⊢;have Ks:=(G8 (J:=gF n) (φ:=pj) (f:=cY x.fin w') (l:=l.take j) (fun t ht s hs=>GQ hs (gm t (List.mem_of_mem_take ht))) cE).1;have O:∀ t,l[j]? =some t->(l.take (j+1)).foldl (cY x.fin w') u=cY x.fin w' ((l.take j).foldl (cY x.fin w') u) t:=fun t ht=>rI ht;have s6:j=l.length->(l.take j).foldl (cY x.fin w') u=dP f.blocks u k:=fun e=>by rw[tg,cO oG]
    generalize (l.take j).foldl (cY x.fin w') u=v at Ks O s6;clear lw lr lx U oq;have lw:=Ks.lw;have lr:=Ks.lr;have lx:=Ks.lx;refine SS ?_;refine ab ⟨_,rfl,fun h=>?_,fun h=>?_⟩
    .have dK:j<l.length:=by simpa using h
     have ht:l[j]? =some l[j]:=bc dK;have tU:=gm _ (di dK);generalize l[j]=t at ht tU;obtain⟨i,rfl⟩:=iG tU.1;have cC:i<n:=by omega
     have U:v.wsq[i]? =some v.wsq[i]:=bc oG;have oq:v.re[i]? =some v.re[i]:=bc oG;have QB:=lx _ (di (h:=by omega):v.wsq[i]∈v.wsq);generalize v.wsq[i]=y at U QB;generalize v.re[i]=b at oq;have kd:=nL (f:=B) oq;have yN:=yN (x:=x.fin) (b:=(i:Int)) (w:=w') wQ (by have:=X.fin.wh;omega) (by have:=X.fin.wr;omega);have Gj:=SI x.fin i w';rw[wQ] at Gj;have Jt:=Jt QB Gj;have CO:=SM y (gO x.fin i w');rw[QB] at CO;have yes:=aaT (x:=x.fin) (w:=w') U oq;have no:=abv (x:=x.fin) (w:=w') U oq;generalize jf y (gO x.fin i w')=z at Jt CO yes no;refine ws ?_;refine av ?_;refine ab (ua abx ?_);refine af ?_;refine aq (Ed rfl rfl (au oG (au oG (an _ _ _))) V.h V.h) ak ⟨V.h,oG⟩ ?_;refine aq (fD rfl (au oG (au oG (an _ _ _))) V.h V.h (Jc oN oN)) ak (fE V.h V.h (z8 oN oN)) ?_;refine aq (mX rfl (au oG (an _ _ _)) V.h) ak (je V.h) ?_;refine aq (fD (vs:=a8 _) rfl (au oG (an _ _ _)) V.h V.h rfl) ak (fE V.h V.h (by first|(simp;done)|omega|exact bt rfl)) ?_;refine SS ?_;refine aq (fD rfl (an _ _ _) V.h V.h (oR (by first|rfl|exact bt rfl|(simp;done)|(simp;omega)|omega))) ak (fE V.h V.h (by first|rfl|exact bt rfl|(simp;done)|(simp;omega)|omega)) ?_;refine cl yN ?_;refine cl Jt ?_;refine af ?_;refine bN bO (aX (vI (l:=[(1,.pt (bC p q f)),(4,.rs 1 0 n),(5,.rs 2 0 n),(8,B v.ch),(10,.rp N 0),(11,.rp (N+1) 0),(14,I i),(15,.rp N' 0),(58,dQ f.blocks),(59,I n),(60,I k),(82,aT l),(83,I l.length),(84,I j)]) (m':=up (up (up (bJ [(1,.cells (dt v.wsq) 201),(2,.cells (v.re.map B) 4)]) N (some (.cells (cg x) 59))) (N+1) (some (.cells (w'.map dk) 201))) N' (some (.cells (z.map dk) 201))) eH (wB _ _ _ _)) (ej aby ?_));refine af ?_;refine aq (rP rfl rfl (au oG (au oG (au oG rfl))) V.h V.h) ak ⟨V.h,oG⟩ ?_;refine aq (eR rfl (au oG (au oG (au oG rfl))) kd V.h) ak (eS V.h V.h kd) ?_;refine af ?_;refine cq rfl rfl (fD rfl (an _ _ _) V.h V.h (oR (by first|rfl|exact bt rfl|(simp;done)|(simp;omega)|omega))) (fun hc=>⟨ak,(fE V.h V.h (by first|rfl|exact bt rfl|(simp;done)|(simp;omega)|omega))⟩) ?_;refine af ?_;refine cq rfl rfl (Ed rfl rfl (au oG (au oG (au oG (an _ _ _)))) V.h V.h) (fun hc=>⟨ak,⟨V.h,oG⟩⟩) ?_;refine cq rfl rfl (fD rfl (au oG (au oG (au oG (an _ _ _)))) V.h V.h (Jc oN oN)) (fun hc=>⟨ak,(fE V.h V.h (z8 oN oN))⟩) ?_;refine cq rfl rfl (ajU rfl rfl (by first|assumption|(simp;omega)|omega)) (fun hc=>⟨ak,(ajV (by first|assumption|(simp;omega)|omega))⟩) ?_;refine SS ?_;refine bN bO (ap rfl (fun h=>?_) fun h=>?_)
     .have yes:=yes (by
       cases b with
       |false=>exact .inl rfl
       |true=>exact .inr (by simpa using h))
      have O:=(O _ ht).trans yes;clear yes no;refine jn ?_;refine aR ?_;refine aq (fD rfl (an _ _ _) V.h V.h (oR (by first|rfl|exact bt rfl|(simp;done)|(simp;omega)|omega))) ak (fE V.h V.h (by first|rfl|exact bt rfl|(simp;done)|(simp;omega)|omega)) ?_;refine aq (Ed rfl rfl (au oG (au oG (au oG (an _ _ _)))) V.h V.h) ak ⟨V.h,oG⟩ ?_;refine dA (jm rfl rfl (au oG (au oG (au oG (an _ _ _)))) (WY oC oN oN (by first|assumption|(simp;omega)|(simp;done)))) ak (D4 (by first|(simp;omega)|(simp;done)) (z8 oN oN) (pW _)) ?_;refine aq (rP rfl rfl (au oG (au oG (au oG (au oG rfl)))) V.h V.h) ak ⟨V.h,oG⟩ ?_;refine dA (jR (d:=.s (.bool _)) (cs':=_) rfl rfl (au oG (au oG (au oG (au oG rfl)))) rfl rfl) ak (ef V.h V.h (by first|(simp;done)|exact⟨rfl,bt rfl⟩|(simp;omega)) rfl) ?_;refine SS ?_;refine ab ?_;refine af ?_
      refine ab (bg (j+1,N'+1) (aY (ml:=[(N+1,.cells (w'.map dk) 201),(N,.cells (cg x) 59),(1,.cells (dt ((l.take (j+1)).foldl (cY x.fin w') u).wsq) 201),(2,.cells (((l.take (j+1)).foldl (cY x.fin w') u).re.map B) 4)]) ⟨rfl,rfl,rfl,?_,rfl,rfl,rfl,rfl,rfl,rfl,rfl,rfl,trivial⟩
       ⟨au oG (au oG (au oG (an _ _ _))),au oG (au oG (au oG (au oG (an _ _ _)))),au oG ?_,?_,trivial⟩) ⟨oM,oM⟩ oM)
      .dsimp only;rw[O];rfl
      .rw[O];exact an _ _ _
      .rw[O];dsimp only;rw[List.map_set];exact an _ _ _
     .have no:=no (by
       cases b with
       |false=>simp at h
       |true=>simpa using h)
      have O:=(O _ ht).trans no;refine dE ?_;refine af ?_
      refine ab (bg (j+1,N'+1) (aY (ml:=[(N+1,.cells (w'.map dk) 201),(N,.cells (cg x) 59),(1,.cells (dt ((l.take (j+1)).foldl (cY x.fin w') u).wsq) 201),(2,.cells (((l.take (j+1)).foldl (cY x.fin w') u).re.map B) 4)]) ⟨rfl,rfl,rfl,?_,rfl,rfl,rfl,rfl,rfl,rfl,rfl,rfl,trivial⟩
       ⟨au oG (an _ _ _),au oG (au oG (an _ _ _)),?_,?_,trivial⟩) ⟨oM,oM⟩ oM)
      .dsimp only;rw[O];rfl
      .rw[O];exact au oG (au oG (au oG rfl))
      .rw[O];exact au oG (au oG (au oG rfl))
    .have bG:¬ j<l.length:=by simpa using h
     have vl:=s6 oG;subst vl;show ax _ _ _ _ _ _ _ _ _;refine af ?_;refine ab (bg (k+1,N') (aY ⟨rfl,rfl,rfl,?_,rfl,rfl,rfl,trivial⟩ ⟨?_,?_,trivial⟩) ⟨oM,oM⟩ oM)
     .dsimp only;rw[dn];rfl
     .dsimp only;rw[dn];exact au oG (au oG rfl)
     .dsimp only;rw[dn];exact au oG (au oG rfl)
   .have bG:¬ k<n:=by simpa using h
    have hl:=nq oG;subst hl;refine bg (jS f.blocks C,N) (aY eH eH) ⟨cE,hN,fun hc=>?_,fun hc=>?_⟩ ?_
    .refine⟨gQ,?_,?_⟩
     .have:=EN.2;unfold pj at this;show rA (jS f.blocks C)<gQ;rw[if_pos hc] at this;omega
     .dsimp only at hc ⊢;rw[<- EM,lM,if_pos hc]
    .dsimp only at hc ⊢;rw[<- EM,lM,if_neg (by simp[hc])]
    .have:=EN.2;unfold pj at this;dsimp only;rw[if_pos h0];split at this<;>rename_i hc
     .rw[if_pos hc];omega
     .rw[if_neg hc];omega
  .have QC:=Fl h;subst QC;exact⟨N0,aY eH eH,Ao⟩
 .rintro s ⟨n',hg,Pk⟩;refine⟨_,hg,ay ?_⟩;refine aR ?_;refine ab (aX (bZ [(1,dt R.wsq,201),(2,R.re.map B,4)] ⟨rfl,MD oG rfl .map,trivial⟩ (l:=[(2,.sl (dt R.wsq) n),(3,.sl (R.re.map B) n)]) ⟨?_,?_,trivial⟩) (oO rfl rfl rfl))
  .show sub (dh 2 (R.re.map B) (prog.cellsOf 4)) (sub (dh 1 (dt R.wsq) (prog.cellsOf 201)) (D.rs 1 0 n))=_;rw[mW (by rw[tf,LC Pk.lx,Pk.lw]),ahF]
  .show sub (dh 2 (R.re.map B) (prog.cellsOf 4)) (sub (dh 1 (dt R.wsq) (prog.cellsOf 201)) (D.rs 2 0 n))=_;rw[LD oG,mW (by rw[c4,List.length_map,Pk.lr,Nat.mul_one])]
end Go.Proofs.Tryz.K
namespace Go.Abs
def jc(r:Nat)(l:List D):D:=match l with
 |[]=>.z
 |_=>.rs r 0 l.length
theorem EO{r:Nat}{l:List D}(h:l≠[]):jc r l=.rs r 0 l.length:=by cases l with
 |nil=>exact absurd rfl h
 |cons=>rfl
def qV(ρ:Nat->Nat)(L:Nat->List D)(n:Nat):List D:=(range n).map fun i=>jc (ρ i) (L i)
@[simp] theorem aqN (ρ : Nat -> Nat) (L : Nat -> List D) (n : Nat) : (qV ρ L n).length = n := by simp [qV]
theorem TL{ρ:Nat->Nat}{L:Nat->List D}{n i:Nat}(hi:i<n):∃ cs,(qV ρ L n).drop i=jc (ρ i) (L i)::cs:=
 ⟨_,nL (f:=fun i=>jc (ρ i) (L i)) (by simp[hi])⟩
theorem ac9{α:Type}{F:Nat->α}{n i:Nat}{x:α}:((range n).map F).set i x=(range n).map (up F i x):=by
 apply List.ext_getElem?;intro k;rw[List.getElem?_set];simp only[List.length_map,List.length_range,List.getElem?_map];split
 .rename_i e;subst e;split
  .rename_i h;simp[h,an]
  .rename_i h;simp[h]
 .rename_i e;by_cases hk:k<n
  .simp[hk,aZ F x (Ne.symm e)]
  .simp[hk]
theorem agw{ρ:Nat->Nat}{L:Nat->List D}{n i r:Nat}{l:List D}(hl:l≠[]):(qV ρ L n).set i (.rs r 0 l.length)=qV (up ρ i r) (up L i l) n:=by
 unfold qV;rw[ac9];refine congrArg (fun F=>(range n).map F) (funext fun k=>?_);simp only[up];split
 .rw[EO hl]
 .rfl
structure pk(m:Mem)(nx j n:Nat)(e et:TypeId)(ρ:Nat->Nat)(L:Nat->List D):Prop where
 row:m j=some (.cells (qV ρ L n) e)
 AU:j<nx
 Fm:∀ i,i<n->L i≠[]->m (ρ i)=some (.cells (L i) et)
 lt:∀ i,i<n->L i≠[]->ρ i<nx
 ne:∀ i,i<n->L i≠[]->ρ i≠j
 inj:∀ i k,i<n->k<n->L i≠[]->L k≠[]->ρ i=ρ k->i=k
theorem pk.ext{m m':Mem}{nx aD j n:Nat}{e et:TypeId}{ρ:Nat->Nat}{L:Nat->List D}(h:pk m nx j n e et ρ L)(hm:∀ q,q<nx->m' q=m q)(hn:nx<=aD):pk m' aD j n e et ρ L:=
 ⟨(hm j h.AU).trans h.row,Nat.lt_of_lt_of_le h.AU hn,fun i hi hl=>(hm _ (h.lt i hi hl)).trans (h.Fm i hi hl),fun i hi hl=>Nat.lt_of_lt_of_le (h.lt i hi hl) hn,h.ne,h.inj⟩
theorem pk.Kt{m m':Mem}{nx aD j n i r:Nat}{e et:TypeId}{ρ:Nat->Nat}{L:Nat->List D}{l:List D}(h:pk m nx j n e et ρ L)(hi:i<n)(hl:l≠[])(hr:nx<=r)(iD:r<aD)
 (hj:m' j=some (.cells ((qV ρ L n).set i (.rs r 0 l.length)) e)) (aA:m' r=some (.cells l et)) (hk:∀ q,q<nx->q≠j->(L i≠[]->q≠ρ i)->m' q=m q):pk m' aD j n e et (up ρ i r) (up L i l):=by
 have dK:=h.AU
 have old:∀ k,k<n->k≠i->L k≠[]->m' (ρ k)=some (.cells (L k) et):=fun k M J C=>
  (hk _ (h.lt k M C) (h.ne k M C) fun OE e=>J (h.inj k i M hi C OE e)).trans (h.Fm k M C)
 refine⟨by rw[hj,agw hl],oG,fun k M C=>?_,fun k M C=>?_,fun k M C=>?_,fun a b ha hb Ku Kv U=>?_⟩
 .by_cases J:k=i
  .subst J;rw[an,an];exact aA
  .rw[aZ _ _ J] at C ⊢;rw[aZ _ _ J];exact old k M J C
 .by_cases J:k=i
  .subst J;rw[an];exact iD
  .rw[aZ _ _ J] at C ⊢;have:=h.lt k M C;omega
 .by_cases J:k=i
  .subst J;rw[an];omega
  .rw[aZ _ _ J] at C ⊢;exact h.ne k M C
 .by_cases X:a=i
  .by_cases O:b=i
   .omega
   .subst X;rw[an,aZ _ _ O] at U;rw[aZ _ _ O] at Kv;have:=h.lt b hb Kv;omega
  .by_cases O:b=i
   .subst O;rw[an,aZ _ _ X] at U;rw[aZ _ _ X] at Ku;have:=h.lt a ha Ku;omega
   .rw[aZ _ _ X] at Ku U;rw[aZ _ _ O] at Kv U;exact h.inj a b ha hb Ku Kv U
theorem TM{m:Mem}{nx j n:Nat}{e et:TypeId}{ρ:Nat->Nat}(hj:j<nx)(hm:m j=some (.cells (replicate n .z) e)):pk m nx j n e et ρ (fun _=>[]):=by
 refine⟨?_,hj,fun _ _ h=>absurd rfl h,fun _ _ h=>absurd rfl h,fun _ _ h=>absurd rfl h,fun _ _ _ _ h=>absurd rfl h⟩;rw[hm];congr 2;unfold qV jc;rw[List.map_const',List.length_range]
theorem UW(n:Nat):dM n [.z]=replicate n D.z:=by
 unfold dM
 induction n with
 |zero=>rfl
 |succ n ih=>rw[List.replicate_succ,List.replicate_succ,List.flatten_cons,ih];rfl
def jH(X:Nat->Prop)(d:D):Prop:=∀ i cs sz,X i->sub (dh i cs sz) d=d
def pJ(X:Nat->Prop)(r:Row):Prop:=∀ i cs sz,X i->Row.sub (dh i cs sz) r=r
theorem jH.s{X:Nat->Prop}(v:Value):jH X (.s v):=fun _ _ _ _=>rfl
theorem jH.sl{X:Nat->Prop}(es:List D)(n:Nat):jH X (.sl es n):=fun _ _ _ _=>rfl
theorem jH.z{X:Nat->Prop}:jH X .z:=fun _ _ _ _=>rfl
theorem jH.u{X:Nat->Prop}:jH X .u:=fun _ _ _ _=>rfl
theorem jH.rs{X:Nat->Prop}{j off n:Nat}(h:¬ X j):jH X (.rs j off n):=fun i cs sz hi=>LD fun e=>h (e▸hi)
theorem pJ.cells{X:Nat->Prop}{cs:List D}{e:TypeId}(h:∀ d∈cs,jH X d):pJ X (.cells cs e):=fun i C sz hi=>by
 show Row.cells (cs.map _) e=_;congr 1
 induction cs with
 |nil=>rfl
 |cons d cs ih=>rw[List.map_cons,h d oS i C sz hi,ih fun d hd=>h d (by simp[hd])]
theorem pJ.anV{X:Nat->Prop}{cs:List D}{e:TypeId}(h:An cs):pJ X (.cells cs e):=pJ.cells fun d hd=>by obtain⟨v,rfl⟩:=h d hd;exact .s v
theorem zA(d:D):Wk d d:=fun _ _ _ _ h=>h
theorem Fi:Wk .z (.sl [] 0):=fun F β w v hv=>by
 obtain⟨x,rfl⟩:=hv.B2;exact .jy x 0
theorem abz{X:Nat->Prop}{l:List (Nat×D)}(h:∀ x∈l,jH X x.2)(t:Nat):jH X (aF l t):=by
 induction l with
 |nil=>exact .u
 |cons x l ih=>
  obtain⟨k,d⟩:=x;simp only[aF];split
  .exact h (k,d) oS
  .exact ih fun y hy=>h y (by simp[hy])
theorem abA{X:Nat->Prop}{l:List (Nat×Row)}(h:∀ x∈l,pJ X x.2){q:Nat}{r:Row}(hq:bJ l q=some r):pJ X r:=by
 induction l with
 |nil=>simp[bJ] at hq
 |cons x l ih=>
  obtain⟨k,d⟩:=x;simp only[bJ] at hq;split at hq
  .cases hq;exact h (k,r) oS
  .exact ih (fun y hy=>h y (by simp[hy])) hq
theorem ac'{l:List (Nat×Row)}{q:Nat}(h:∀ x∈l,x.1≠q):bJ l q=none:=by
 induction l with
 |nil=>rfl
 |cons x l ih=>
  obtain⟨k,d⟩:=x;simp only[bJ];rw[if_neg fun e=>h (k,d) oS e.symm];exact ih fun y hy=>h y (by simp[hy])
section
variable{P:Program}
open Classical in
noncomputable def lG(ml:List (Nat×Row))(j n k:Nat)(e et:TypeId)(ρ:Nat->Nat)(L:Nat->List D):Mem:=fun q=>
 if q=j then some (.cells ((range n).map fun i=>if i<k then .sl (L i) (L i).length else jc (ρ i) (L i)) e)
 else if h:∃ i,k<=i/\i<n/\L i≠[]/\ρ i=q then some (.cells (L (Classical.choose h)) et)
 else bJ ml q
theorem ae2{m:Mem}{nx j n k:Nat}{e et:TypeId}{ρ:Nat->Nat}{L:Nat->List D}{l:List (Nat×D)}{ml:List (Nat×Row)}{X:Nat->Prop}(h:pk m nx j n e et ρ L)(hs:∀ i,An (L i))(het:P.cellsOf et=1)
 (U:∀ i,i<n->L i≠[]->X (ρ i)) (zi:¬ X j) (hl:∀ x∈l,jH X x.2) (za:∀ x∈ml,pJ X x.2/\¬ X x.1) (hk:k<n):
 aM P ⟨aF l,lG ml j n k e et ρ L,nx⟩ ⟨aF l,lG ml j n (k+1) e et ρ L,nx⟩:=by
 by_cases J:L k=[]
 .refine .uP _ _ _ _ _ (fun t=>zA _) fun q=>?_;by_cases hq:q=j
  .subst hq;right;refine⟨_,_,e,by simp only[lG,if_true];rfl,by simp only[lG,if_true];rfl,oS,fun i d d' hd ji=>?_⟩;simp only[List.getElem?_map,dI] at hd ji;obtain⟨a,ha,rfl⟩:=hd;obtain⟨b,hb,rfl⟩:=ji;rw[ha] at hb;cases hb;by_cases h1:a<k
   .rw[if_pos h1,if_pos oG];exact zA _
   .rw[if_neg h1];by_cases h2:a=k
    .subst h2;rw[if_pos oG,J];exact Fi
    .rw[if_neg oG];exact zA _
  .left;simp only[lG,if_neg hq]
   have:(∃ i,k+1<=i/\i<n/\L i≠[]/\ρ i=q)↔(∃ i,k<=i/\i<n/\L i≠[]/\ρ i=q):=by
    constructor
    .rintro⟨i,h1,h2⟩;exact⟨i,oG,h2⟩
    .rintro⟨i,h1,h2,M,O⟩
     exact⟨i,by
      rcases Nat.lt_or_ge k i with g|g
      .exact g
      .have:i=k:=by omega
       subst this;exact absurd J M,h2,M,O⟩
   by_cases hc:∃ i,k<=i/\i<n/\L i≠[]/\ρ i=q
   .rw[dif_pos (this.2 hc),dif_pos hc];have C:=Classical.choose_spec hc;have e2:=Classical.choose_spec (this.2 hc);have:Classical.choose (this.2 hc)=Classical.choose hc:=h.inj _ _ e2.2.1 C.2.1 e2.2.2.1 C.2.2.1 (e2.2.2.2.trans C.2.2.2.symm);rw[this]
   .rw[dif_neg (fun h=>hc (this.1 h)),dif_neg hc]
 .have Zq:ρ k≠j:=h.ne k hk J
  have aA:lG ml j n k e et ρ L (ρ k)=some (.cells (L k) et):=by
   have hc:∃ i,k<=i/\i<n/\L i≠[]/\ρ i=ρ k:=⟨k,bM _,hk,J,rfl⟩
   simp only[lG,if_neg Zq,dif_pos hc];have C:=Classical.choose_spec hc;have:Classical.choose hc=k:=h.inj _ _ C.2.1 hk C.2.2.1 J C.2.2.2;rw[this]
  have hg:=aM.freeze (P:=P) (aF l) (lG ml j n k e et ρ L) nx (ρ k) (L k) et aA;have C:(fun t=>sub (dh (ρ k) (L k) (P.cellsOf et)) (aF l t))=aF l:=funext fun t=>abz hl t _ _ _ (U k hk J)
  have e2:(fun q=>if q=ρ k then none else(lG ml j n k e et ρ L q).map (Row.sub (dh (ρ k) (L k) (P.cellsOf et))))=lG ml j n (k+1) e et ρ L:=by
   funext q;by_cases AV:q=ρ k
   .subst AV;rw[if_pos rfl]
    have hc:¬ ∃ i,k+1<=i/\i<n/\L i≠[]/\ρ i=ρ k:=by
     rintro⟨i,g1,g2,g3,g4⟩;have:=h.inj _ _ g2 hk g3 J g4;omega
    simp only[lG,if_neg Zq,dif_neg hc];exact(ac' fun x hx e=>(za x hx).2 (e▸U k hk J)).symm
   .rw[if_neg AV];by_cases zj:q=j
    .subst zj;simp only[lG,if_true,Option.map_some];congr 1;show Row.cells (List.map _ (List.map _ _)) e=_;rw[List.map_map];congr 1;refine List.map_congr_left fun i hi=>?_;have cC:i<n:=by simpa using hi
     simp only[Function.comp_apply];by_cases h1:i<k
     .rw[if_pos h1,if_pos oG];rfl
     .rw[if_neg h1];by_cases h2:i=k
      .subst h2;rw[if_pos oG,EO J,het];exact mW oG
      .rw[if_neg oG];by_cases M:L i=[]
       .rw[M];rfl
       .rw[EO M];exact LD fun e=>h2 (h.inj _ _ cC hk M J e)
    .simp only[lG,if_neg zj]
     have this:(∃ i,k+1<=i/\i<n/\L i≠[]/\ρ i=q)↔(∃ i,k<=i/\i<n/\L i≠[]/\ρ i=q):=by
      constructor
      .rintro⟨i,h1,h2⟩;exact⟨i,oG,h2⟩
      .rintro⟨i,h1,h2,M,O⟩
       exact⟨i,by
        rcases Nat.lt_or_ge k i with g|g
        .exact g
        .have:i=k:=by omega
         subst this;exact absurd O.symm AV,h2,M,O⟩
     by_cases hc:∃ i,k<=i/\i<n/\L i≠[]/\ρ i=q
     .rw[dif_pos (this.2 hc),dif_pos hc];have C:=Classical.choose_spec hc;have e2:=Classical.choose_spec (this.2 hc);have:Classical.choose (this.2 hc)=Classical.choose hc:=h.inj _ _ e2.2.1 C.2.1 e2.2.2.1 C.2.2.1 (e2.2.2.2.trans C.2.2.2.symm);rw[this];exact congrArg some (pJ.anV (X:=X) (hs _) _ _ _ (U k hk J))
     .rw[dif_neg (fun h=>hc (this.1 h)),dif_neg hc];cases hm:bJ ml q with
      |none=>rfl
      |some r=>exact congrArg some (abA (fun x hx=>(za x hx).1) hm _ _ _ (U k hk J))
  rw[C,e2] at hg;exact hg
theorem SN{env:Env}{m:Mem}{nx j n:Nat}{e et:TypeId}{ρ:Nat->Nat}{L:Nat->List D}{l:List (Nat×D)}{ml:List (Nat×Row)}(X:Nat->Prop)(h:pk m nx j n e et ρ L)(hs:∀ i,An (L i))(J:P.cellsOf et=1)
 (M:∀ i,i<n->L i≠[]->X (ρ i)) (U:¬ X j) (he:nh l env) (hl:∀ x∈l,jH X x.2) (hm:Ez ml m) (O:∀ x∈ml,pJ X x.2/\¬ X x.1):
 aM P ⟨env,m,nx⟩ ⟨aF l,bJ ((j,.cells ((range n).map fun i=>.sl (L i) (L i).length) e)::ml),nx⟩:=by
 have key:∀ k,k<=n->aM P ⟨aF l,lG ml j n 0 e et ρ L,nx⟩ ⟨aF l,lG ml j n k e et ρ L,nx⟩:=fun k=>by
  induction k with
  |zero=>exact fun _=>.refl _
  |succ k ih=>exact fun hk=>(ih oG).trans (ae2 h hs J M U hl O oG)
 have h0:aM P ⟨env,m,nx⟩ ⟨aF l,lG ml j n 0 e et ρ L,nx⟩:=by
  refine(aM.forget env _ m nx (rO he)).trans (.drop _ _ _ _ fun q=>?_);by_cases hq:q=j
  .subst hq;left;simp only[lG,if_true,Nat.not_lt_zero,if_false];exact h.row.symm
  .simp only[lG,if_neg hq];by_cases hc:∃ i,0<=i/\i<n/\L i≠[]/\ρ i=q
   .rw[dif_pos hc];have C:=Classical.choose_spec hc;left;have:=h.Fm _ C.2.1 C.2.2.1;rw[C.2.2.2] at this;exact this.symm
   .rw[dif_neg hc];exact Mv hm q
 refine h0.trans ((key n (bM _)).trans (.drop _ _ _ _ fun q=>.inl ?_));by_cases hq:q=j
 .subst hq;simp only[bJ,lG,if_true];congr 2;exact List.map_congr_left fun i hi=>by rw[if_pos (by simpa using hi)]
 .simp only[bJ,if_neg hq,lG];rw[dif_neg];rintro⟨i,g1,g2,_⟩;omega
end
section
variable{P:Program}{env:Env}{m:Mem}{nx:Nat}{x y:Operand}{t e:TypeId}{k:IntKind}
theorem TO{w:List Int}{rest:List D}{sz:Nat}(h:w.length=sz):(w.map dk++rest).take sz=w.map dk:=by
 rw[List.take_append_of_le_length (by simp[h]),cO (by simp[h])]
theorem V2{sz n i:Nat}{l:List (List Int)}{w:List Int}(hx:(opd env x).core=.sl (dt l) n)(hy:(opd env y).core=.s (.int k i))(he:aE P t=e)(hs:P.cellsOf e=sz)(hl:∀ w∈l,w.length=sz)(hz:l[i]? =some w):
 Ef P (.indexAddr t x y) env m nx ⟨bh P t=true/\0<=(i:Int)/\(i:Int)<n/\((i:Int).toNat+1)*sz<=(dt l).length,.pt (w.map dk++dt (l.drop (i+1))),[],[],0⟩:=
 NI hx hy he hs (by rw[eI];exact MB hl hz)
theorem V3{sz n i:Nat}{l:List (List Int)}{w:List Int}(ht:bh P t=true)(hl:∀ w∈l,w.length=sz)(hz:l[i]? =some w)(hn:i<n):bh P t=true/\0<=(i:Int)/\(i:Int)<n/\((i:Int).toNat+1)*sz<=(dt l).length:=by
 have:=z8 hl hz;refine⟨ht,oG,oG,?_⟩;rw[eI,Nat.add_mul,Nat.one_mul];exact this
theorem kY{i:Nat}{cs:List D}{l:List (Nat×D)}(hm:m i=some (.cells cs e))(hl:nh l fun t=>sub (dh i cs (P.cellsOf e)) (env t)):aM P ⟨env,m,nx⟩ ⟨aF l,fun _=>none,nx⟩:=
 bZ [(i,cs,e)] ⟨hm,trivial⟩ hl
theorem iJ{l:List (Nat×D)}(hl:nh l env):aM P ⟨env,m,nx⟩ ⟨aF l,fun _=>none,nx⟩:=TP hl fun _=>.inr rfl
end
end Go.Abs
namespace Go.Argus
open Go.Proofs.Tryz.K (nextR)
def fY(b:Nat)(L:Nat->List Int)(t:Int):Nat->List Int:=up L t.toNat (L t.toNat++[(b:Int)])
def pK(bs:List bB)(L:Nat->List Int)(b:Nat):Nat->List Int:=match bs[b]? with
 |none=>L
 |some x=>(nextR x.fin).foldl (fY b) L
def cw(bs:List bB)(k:Nat):Nat->List Int:=(range k).foldl (pK bs) fun _=>[]
def mA(bs:List bB):List (List Int):=(range bs.length).map (cw bs bs.length)
def dC(L:List (List Int)):D:=.sl (L.map aT) L.length
theorem Hn(L:List (List Int)):Tr (dC L):=.sl (.map fun _=>dU _)
theorem TN{F:Nat->List Int}{n:Nat}:(D.sl ((range n).map fun i=>.sl ((F i).map I) ((F i).map I).length) n)=dC ((range n).map F):=by
 unfold dC;rw[List.map_map,List.length_map,List.length_range];congr 1;exact List.map_congr_left fun i _=>by simp[aT]
theorem Lf{b:Nat}{L:Nat->List Int}{t:Int}{c:Nat}(h:∀ i,(L i).length<=c):∀ i,(fY b L t i).length<=c+1:=fun i=>by
 unfold fY;simp only[up];split
 .have:=h t.toNat;simp;omega
 .have:=h i;omega
theorem V1{L:Nat->List Int}{k:Nat}{l:List Int}:(fun i=>(up L k l i).map I)=up (fun i=>(L i).map I) k (l.map I):=by
 funext i;simp only[up];split<;>rfl
theorem po{P:Nat->Bool}{n k:Nat}(hk:k<n)(h:P k=false):(range n).all P=false:=by
 refine Bool.eq_false_iff.2 fun ht=>?_;have:=bT.1 ht k (by simpa using hk);rw[h] at this;cases this
theorem mh{P:Nat->Bool}{k:Nat}(h:(range k).all P=true)(hk:P k=true):(range (k+1)).all P=true:=by
 rw[List.range_succ,List.all_append,h];simp[hk]
abbrev mq(l:List Bool):D:=.sl (l.map B) l.length
def jg:bB:=⟨[],⟨0,0,0,0,0,.empty,dW,[],[],0⟩⟩
def sO(bs:List bB)(s:CS)(b:Nat)(y:bK)(i:Nat):Bool:=
 let p:=((cw bs bs.length b).getD i 0).toNat
 !(s.re.getD p false)||lF (gO (bs.getD p jg).fin b (jE (bs.getD p jg) (s.wsq.getD p [])).1) (y.args.getD i 0).toNat
def rY(bs:List bB)(s:CS)(b:Nat)(y:bK):Bool:=(range (cw bs bs.length b).length).all (sO bs s b y)
def cA(y:bK):Bool:=y.op==19
def rJ(bs:List bB)(s:CS)(b:Nat):Bool:=
 !(s.re.getD b false)||((jE (bs.getD b jg) (s.wsq.getD b [])).2&&((bs.getD b jg).ins.takeWhile cA).all (rY bs s b))
def sL(bs:List bB)(args:Nat):Bool:=(range bs.length).all (rJ bs (iq bs args))
theorem takeWhile_eq{α:Type}{p:α->Bool}{l:List α}{j:Nat}(h:∀ y∈l.take j,p y=true)(h':∀ y,l[j]? =some y->p y=false):l.takeWhile p=l.take j:=by
 induction l generalizing j with
 |nil=>simp
 |cons a l ih=>cases j with
  |zero=>have:=h' a rfl;simp[this]
  |succ j=>
   have ha:=h a oS;rw[List.takeWhile_cons,if_pos ha,List.take_succ_cons,ih (j:=j) (fun y hy=>h y (by simp[hy])) (fun y hy=>h' y (by simpa using hy))]
theorem R4{b:Nat}{p:Int}:∀ {l:List Int} {L:Nat->List Int} {i:Nat},p∈(l.foldl (fY b) L) i↔p∈L i\/(p=b/\∃ t∈l,t.toNat=i)
 |[],L,i=>by simp
 |t::l,L,i=>by
  rw[List.foldl_cons,R4 (l:=l)];unfold fY;simp only[up];by_cases h:i=t.toNat
  .subst h;simp only[if_true,List.mem_append,List.mem_singleton];constructor
   .rintro((h|h)|⟨h,u,h1,h2⟩)
    .exact .inl h
    .exact .inr ⟨h,t,oS,rfl⟩
    .exact .inr ⟨h,u,by simp[h1],h2⟩
   .rintro(h|⟨h,u,h1,h2⟩)
    .exact .inl (.inl h)
    .exact .inl (.inr h)
  .rw[if_neg h];constructor
   .rintro(h'|⟨h',u,h1,h2⟩)
    .exact .inl h'
    .exact .inr ⟨h',u,by simp[h1],h2⟩
   .rintro(h'|⟨h',u,h1,h2⟩)
    .exact .inl h'
    .rcases List.mem_cons.1 h1 with e|e
     .subst e;exact absurd h2.symm h
     .exact .inr ⟨h',u,e,h2⟩
theorem GR{bs:List bB}{p:Int}{i:Nat}:∀ {k:Nat},p∈cw bs k i↔∃ b:Nat,p=b/\b<k/\∃ x,bs[b]? =some x/\∃ t∈nextR x.fin,t.toNat=i
 |0=>by simp[cw]
 |k+1=>by
  have ih:=GR (bs:=bs) (p:=p) (i:=i) (k:=k);have e:cw bs (k+1)=pK bs (cw bs k) k:=by rw[cw,List.range_succ,List.foldl_append];rfl
  rw[e,pK];cases hx:bs[k]? with
  |none=>
   simp only;rw[ih];constructor
   .rintro⟨b,h1,h2,C⟩;exact⟨b,h1,oG,C⟩
   .rintro⟨b,h1,h2,x,C,J⟩;refine⟨b,h1,?_,x,C,J⟩;rcases Nat.lt_or_ge b k with g|g
    .exact g
    .have:b=k:=by omega
     subst this;rw[hx] at C;cases C
  |some x=>
   simp only;rw[R4,ih];constructor
   .rintro(⟨b,h1,h2,C⟩|⟨h1,h2⟩)
    .exact⟨b,h1,oG,C⟩
    .exact⟨k,h1,oG,x,hx,h2⟩
   .rintro⟨b,h1,h2,M,C,J⟩;rcases Nat.lt_or_ge b k with g|g
    .exact .inl ⟨b,h1,g,M,C,J⟩
    .have:b=k:=by omega
     subst this;rw[hx] at C;cases C;exact .inr ⟨h1,J⟩
theorem RB{bs:List bB}{n:Nat}(hb:∀ b∈bs,uL n b):∀ (k:Nat) {s:CS},gF n s->gF n (lM bs k s)
 |0,_,h=>h
 |k+1,s,h=>by
  rw[lM];split
  .exact RB hb k (DG hb h).1
  .exact(DG hb h).1
theorem ae3{bs:List bB}{args:Nat}(hb:∀ b∈bs,uL bs.length b)(C:∀ u∈jJ args,eF u):gF bs.length (iq bs args):=RB hb _ (K0 C)
theorem SP{b:Nat}:∀ {l:List Int} {L:Nat->List Int} {c:Nat},(∀ i,(L i).length<=c)->∀ i,((l.foldl (fY b) L) i).length<=c+l.length
 |[],_,_,h,i=>h i
 |t::l,L,c,h,i=>by
  have:=SP (b:=b) (l:=l) (Lf (t:=t) (b:=b) h) i;rw[List.foldl_cons,List.length_cons];omega
theorem Lg{bs:List bB}(C:∀ b∈bs,b.fin.aC.length<=9):∀ (k i:Nat),(cw bs k i).length<=12*k
 |0,_=>by simp[cw]
 |k+1,i=>by
  have ih:=Lg C k;have e:cw bs (k+1)=pK bs (cw bs k) k:=by rw[cw,List.range_succ,List.foldl_append];rfl
  rw[e,pK];cases hx:bs[k]? with
  |none=>have:=ih i;simp only;omega
  |some x=>
   have h1:=SP (l:=nextR x.fin) (b:=k) ih i;have h2:=G9 x.fin;have J:=C x (cx hx);simp only;omega
theorem R5{bs:List bB}{n k:Nat}(hn:bs.length=n)(hk:k<n):(mA bs)[k]? =some (cw bs n k):=by
 subst hn;simp[mA,hk]
def oB(f:aK):Bool:=decide (f.result=1)||(decide (f.result=2)||(decide (f.result=0)&& !f.iter))
def mu(f:aK):Bool:=
 jr f.name&&(dx f.args 0 (if(f.ag.length:Int)<6 then(f.ag.length:Int) else 6)&&(oB f&&(!decide ((1200:Int)<f.ag.length)&&(!decide ((60:Int)<f.aN.length)&&dx f.blocks.length 1 1200))))
def pz(f:aK):Bool:=
 fj f.ag 3&&(fj (f.ag.take f.args.toNat) 2&&(fj f.aN 2&&(!decide ((6:Int)<f.signals.length)&& !f.signals.any fun s=> !isName s)))
def uh(l:List ByteArray)(i:Nat):Bool:=Op.bytesLess (l.getD i .empty).toList (l.getD (i+1) .empty).toList
def oJ(f:aK):Bool:=(range (f.signals.length - 1)).all (uh f.signals)
def jT(bs:List bB)(k:Nat):List Int:=((bs.take k).filter fun x=>x.fin.kind==7).map fun x=>x.fin.a
def jU(f:aK)(k:Nat):Bool:=
 let x:=f.blocks.getD k jg
 gB f x.fin&&(!decide ((200:Int)<x.ins.length)&& !(x.fin.kind==7&&(jT f.blocks k).any (·==x.fin.a)))
def rK(f:aK)(b:Nat)(l:List bK)(j:Nat):Bool:=jb f b (l.getD j dW) ((l.take (j+1)).all cA) (cw f.blocks f.blocks.length b).length
def rL(f:aK)(b:Nat):Bool:=(range (f.blocks.getD b jg).ins.length).all (rK f b (f.blocks.getD b jg).ins)
def kB(f:aK):Bool:=
 mu f&&(pz f&&(oJ f&&((range f.blocks.length).all (jU f)&&(range f.blocks.length).all (rL f))))
def fe(f:aK):Int:=if kB f=true then(if sL f.blocks f.args.toNat=true then 0 else 81) else 80
def js(l:List Int)(r:Int):Prop:=0<=r/\r<l.length
theorem iY{l:List Int}{r:Int}(h:cB l r≠0):js l r:=Classical.byContradiction fun hn=>h (LF hn)
theorem mZ{l:List Int}{r:Int}(h:eU l r=true):js l r:=by
 refine iY fun e=>?_;simp[eU,e] at h
theorem sH{l rs:List Int}(h:ie l rs=true):∀ r∈rs,js l r:=fun r hr=>mZ (bT.1 h r hr)
theorem Ho{l:List Int}{r want of:Int}(h:lQ l r want of=true)(C:want≠0):js l r:=by
 unfold lQ at h;rw[if_neg C] at h;split at h
 .refine iY fun e=>?_;simp[e] at h
 .split at h
  .refine iY fun e=>?_;simp[e] at h
  .split at h
   .exact mZ h
   .refine iY fun e=>?_;simp[e] at h
structure Yp(l:List Int)(x:bK)(s:Shape):Prop where
 to:s.to≠0->js l x.to
 a:s.a≠0->js l x.a
 b:s.b≠0->js l x.b
 args:s.args=5\/s.args=6->x.args.length<=6/\∀ r∈x.args,js l r
theorem LG{l:List Int}{x:bK}{s:Shape}(h:oK l x s=true):Yp l x s:=by
 unfold oK at h;simp only[aB] at h;obtain⟨h1,h2,J,C,_⟩:=h;refine⟨Ho h1,Ho h2,Ho J,fun hs=>?_⟩;unfold ql at C;rcases hs with hs|hs
 .rw[if_pos hs,aB] at C;have:=iW.1 C.1;exact⟨oG,sH C.2⟩
 .rw[if_neg oG,if_pos hs,aB] at C;have:(x.args.length:Int)=1:=by simpa using C.1
  exact⟨oG,sH C.2⟩
theorem zq{l:List (Int×Shape)}{op:Int}{s:Shape}(h:fk l op=some s):(op,s)∈l:=by
 unfold fk at h;rw[dI] at h;obtain⟨⟨o,s'⟩,h1,rfl⟩:=h;have h2:=List.find?_some h1;have C:=List.mem_of_find?_eq_some h1;have:o=op:=by simpa using h2
 subst this;exact C
theorem K2{l:List Int}{x:bK}{s:Shape}(hl:l.length<=1200)(hm:(x.op,s)∈lB\/(x.op,s)∈iP)(h:Yp l x s):rX x:=by
 obtain⟨h1,h2,M,J⟩:=h;unfold js at h1 h2 M J;have hr:∀ {r:Int},0<=r/\r<l.length->0<=r/\r<1200:=fun h=>by omega
 have O:∀ {r:Int},0<=r/\r<l.length-> -1000000<=r/\r<1200:=fun h=>by omega
 obtain⟨op,to,a,b,n,args⟩:=x;dsimp only at h1 h2 M J hm;simp only[lB,iP,List.mem_cons,cN,List.not_mem_nil,or_false] at hm;rcases hm with hm|hm
 .rcases hm with hm|hm|hm|hm|hm|hm|hm|hm|hm|hm|hm|hm|hm|hm|hm<;>obtain⟨rfl,rfl⟩:=hm<;>refine⟨fun r C=>?_,fun h=>?_,?_,fun h=>?_⟩<;>
   simp_all[c6,dV,aP,pA,sP,nN,pw]<;>first|omega|(rcases C with rfl|rfl<;>omega)|(have:=J.2 r C;omega)
 .rcases hm with hm|hm|hm|hm|hm|hm|hm|hm|hm<;>obtain⟨rfl,rfl⟩:=hm<;>refine⟨fun r C=>?_,fun h=>?_,?_,fun h=>?_⟩<;>
   simp_all[c6,dV,aP,pA,sP,nN,pw]<;>first|omega|(rcases C with rfl|rfl<;>omega)|(rcases C with rfl|rfl|C<;>first|omega|(have:=J.2 r C;omega))
end Go.Argus
namespace Go.Proofs.Tryz.K
theorem CE{p q:D}{f:aK}{n:Nat}(hp:Tr p)(hq:Tr q)(gS:p.one=true)(cb:q.one=true)(hn:f.blocks.length=n)(rk:n<=100000)(hw:∀ b∈f.blocks,b.fin.aC.length<=9)(ht:∀ b∈f.blocks,∀ t∈nextR b.fin,0<=t/\t<n):
 az prog 130 [.agg (bC p q f)] (dC (mA f.blocks)):=by
 have bx:∀ a∈[D.agg (bC p q f)],Tr a:=.cons (nQ hp hq f) .nil;refine bu ajZ bx (Hn _) ?_;rw[aj0];refine ay ?_;refine af ?_;refine ab (aX (bZ [(0,bC p q f,113)] eH (l:=[(1,.pt (bC p q f))]) eH) (ay ?_));refine aR ?_;refine cR (D0 rfl rfl V.h V.h) ak ⟨oG,rfl,oG,by rw[QD];omega,V.h⟩ ?_;refine SS ?_;have eO:((f.blocks.length:Nat):Int).toNat=n:=hn;refine ab (aX (aY (l:=[(1,.pt (bC p q f)),(3,.rs 1 0 n)]) (ml:=[(1,.cells (replicate n .z) 43)]) ⟨rfl,congrArg (fun k=>D.rs 1 0 k) eO,trivial⟩ ⟨?_,trivial⟩) (aI (ay ?_)))
 .exact congrArg (fun c=>some (Row.cells c 43)) ((congrArg (fun k=>dM k [D.z]) eO).trans (UW n))
 refine bm ?_
 refine ab (cD (fun s=>∃ m nx ρ,aM prog s ⟨aF [(3,.rs 1 0 n)],m,nx⟩/\pk m nx 1 n 43 3 ρ (fun i=>(cw f.blocks n i).map I)) (gM (α:=Nat×Mem×Nat)
  (fun k=>⟨aF [(1,.pt (bC p q f)),(3,.rs 1 0 n),(15,dQ f.blocks),(16,I n),(17,I k.1)],k.2.1,k.2.2⟩)
  (fun k=>k.1<=n/\(∃ ρ,pk k.2.1 k.2.2 1 n 43 3 ρ (fun i=>(cw f.blocks k.1 i).map I))/\∀ i,(cw f.blocks k.1 i).length<=12*k.1) (fun k=>n - k.1) (0,bJ [(1,.cells (replicate n .z) 43)],2)
  (ao ⟨rfl,rfl,rfl,congrArg (fun k:Nat=>I k) hn,rfl,trivial⟩) ⟨Nat.zero_le _,⟨fun _=>0,TM (show 1<2 by decide) rfl⟩,fun _=>bM _⟩ ?_) ?_)
 .rintro⟨k,m,nx⟩ ⟨hk,⟨ρ,C⟩,hlen⟩;dsimp only at hk C hlen ⊢;have aA:=C.row;have dK:=C.AU;refine SS ?_;refine ab ⟨_,rfl,fun h=>?_,fun h=>?_⟩
  .have al:k<n:=by simpa using h
   have hx:f.blocks[k]? =some f.blocks[k]:=bc oG;have U:f.blocks[k]∈f.blocks:=di _;generalize f.blocks[k]=x at hx U
   have dn:cw f.blocks (k+1)=(nextR x.fin).foldl (fY k) (cw f.blocks k):=by
    rw[cw,List.range_succ,List.foldl_append];show pK f.blocks _ k=_;rw[pK,hx];rfl
   generalize cw f.blocks k=L0 at C hlen aA dn;refine ws ?_;refine cG ?_;have wM:=wM (x:=x.fin);have wP:=V0 (x:=x.fin) (hw x U)
   change az _ _ _ (aT (nextR x.fin)) at wP
   have gm:=ht x U;have me:=G9 x.fin;have Zp:=hw x U;generalize nextR x.fin=l at wP gm me dn;refine ab (ay ?_);refine SS ?_;refine aq (fD (vs:=a8 _) rfl (an _ _ _) V.h V.h rfl) ak (fE V.h V.h (by first|(simp;done)|omega|exact bt rfl)) ?_;refine cl wM ?_;refine cl wP ?_;refine af ?_
   refine ab (gM (α:=Nat×Mem×Nat)
    (fun j=>⟨aF [(1,.pt (bC p q f)),(3,.rs 1 0 n),(4,I k),(15,dQ f.blocks),(16,I n),(17,I k),(25,aT l),(26,I l.length),(27,I j.1)],j.2.1,j.2.2⟩)
    (fun j=>j.1<=l.length/\(∃ ρ,pk j.2.1 j.2.2 1 n 43 3 ρ (fun i=>((l.take j.1).foldl (fY k) L0 i).map I))/\∀ i,((l.take j.1).foldl (fY k) L0 i).length<=12*k+j.1) (fun j=>l.length - j.1) (0,up m nx (some (.cells (cg x) 59)),nx+1)
    (vI eH (wB _ _ _ _)) ⟨Nat.zero_le _,⟨ρ,C.ext (fun q hq=>au oG rfl) oM⟩,hlen⟩ ?_)
   clear C aA hlen;rintro⟨j,m,nx⟩ ⟨hj,⟨ρ,C⟩,hlen⟩;dsimp only at hj C hlen ⊢;have aA:=C.row;have dK:=C.AU;have O:∀ t,l[j]? =some t->(l.take (j+1)).foldl (fY k) L0=fY k ((l.take j).foldl (fY k) L0) t:=fun t ht=>rI ht;have s6:j=l.length->(l.take j).foldl (fY k) L0=cw f.blocks (k+1):=fun e=>by rw[dn,cO oG]
   generalize (l.take j).foldl (fY k) L0=L at C hlen aA O s6;refine SS ?_;refine ab ⟨_,rfl,fun h=>?_,fun h=>?_⟩
   .have Fo:j<l.length:=by simpa using h
    have Gl:l[j]? =some l[j]:=bc Fo;have tU:=gm _ (di Fo);generalize l[j]=t at Gl tU;obtain⟨i,rfl⟩:=iG tU.1;have J:i<n:=by omega
    have hL:=hlen i;have O:(l.take (j+1)).foldl (fY k) L0=up L i (L i++[(k:Int)]):=O _ Gl
    have uG:∀ i,((l.take (j+1)).foldl (fY k) L0 i).length<=12*k+(j+1):=fun a=>by
     rw[O];exact Lf (t:=(i:Int)) hlen a
    have Gm:(fun a=>((l.take (j+1)).foldl (fY k) L0 a).map I)=up (fun a=>(L a).map I) i ((L i++[(k:Int)]).map I):=by rw[O];exact V1
    obtain⟨cs,kd⟩:=TL (ρ:=ρ) (L:=fun i=>(L i).map I) J;refine ws ?_;refine av ?_;refine ab (jn ?_);by_cases hz:L i=[]
    .have X:jc (ρ i) ((L i).map I)=.z:=by rw[hz];rfl
     rw[X] at kd;refine bj ?_;refine aq (rP rfl rfl (au oG (au oG aA)) V.h V.h) ak ⟨V.h,oG⟩ ?_;refine dA (jR (d:=.rs _ _ _) (cs':=_) rfl rfl (au oG (au oG aA)) rfl rfl) ak (ef V.h V.h (by first|(simp;done)|exact⟨rfl,bt rfl⟩|(simp;omega)) rfl) ?_;refine ab ?_;refine af ?_;refine ab (bg (j+1,up (up (up m nx (some (.cells [I k] 3))) (nx+1) (some (.cells [I k] 3))) 1 (some (.cells ((qV ρ (fun i=>(L i).map I) n).set i (.rs (nx+1) 0 1)) 43)),nx+2) (ao eH) ⟨oM,⟨up ρ i (nx+1),?_⟩,uG⟩ oM);dsimp only;rw[Gm];refine C.Kt J oS oG oG ?_ ?_ (fun q hq zj _=>?_)
     .rw[hz];exact an _ _ _
     .rw[hz];exact au oG (an _ _ _)
     .exact au oG (au oG (au oG rfl))
    .have M:(L i).map I≠[]:=by simpa using hz
     have X:jc (ρ i) ((L i).map I)=.rs (ρ i) 0 (L i).length:=by rw[EO M,List.length_map]
     rw[X] at kd;have mF:=C.Fm i J M;have hρn:=C.lt i J M;have hρ1:=C.ne i J M;refine bj ?_;refine aq (rP rfl rfl (au oG (au oG (au oG aA))) V.h V.h) ak ⟨V.h,oG⟩ ?_;refine dA (jR (d:=.rs _ _ _) (cs':=_) rfl rfl (au oG (au oG (au oG aA))) rfl rfl) ak (ef V.h V.h (by first|(simp;done)|exact⟨rfl,bt rfl⟩|(simp;omega)) rfl) ?_;refine ab ?_;refine af ?_;refine ab (bg (j+1,up (up (up (up m nx (some (.cells [I k] 3))) (ρ i) none) (nx+1) (some (.cells ((L i).map I++[I k]) 3))) 1 (some (.cells ((qV ρ (fun i=>(L i).map I) n).set i (.rs (nx+1) 0 ((L i).length+1))) 43)),nx+2) (ao eH) ⟨oM,⟨up ρ i (nx+1),?_⟩,uG⟩ oM);dsimp only;rw[Gm];refine C.Kt J oS oG oG ?_ ?_ (fun q hq zj rj=>?_)
     .rw[List.length_map,List.length_append];exact an _ _ _
     .rw[List.map_append];exact au oG (an _ _ _)
     .have:=rj M;exact au oG (au oG (au oG (au oG rfl)))
   .have bG:¬ j<l.length:=by simpa using h
    have vl:=s6 oG;subst vl;show ax _ _ _ _ _ _ _ _ _;refine af ?_;refine ab (bg (k+1,m,nx) (ao eH) ⟨oM,⟨ρ,C⟩,fun i=>by have:=hlen i;dsimp only at this ⊢;omega⟩ oM)
  .have bG:¬ k<n:=by simpa using h
   have:k=n:=by omega
   subst this;exact⟨m,nx,ρ,ao eH,C⟩
 .rintro s ⟨m,nx,ρ,hg,C⟩;have zi:¬ ∃ i,i<n/\(cw f.blocks n i).map I≠[]/\ρ i=1:=fun⟨i,h1,h2,h3⟩=>C.ne i h1 h2 h3;refine⟨_,hg.trans (SN (l:=[(3,.rs 1 0 n)]) (ml:=[]) (fun r=>∃ i,i<n/\(cw f.blocks n i).map I≠[]/\ρ i=r) C (fun _=>.map) c3 (fun i h1 h2=>⟨i,h1,h2,rfl⟩) zi ⟨rfl,trivial⟩ (fun x hx=>?_) trivial (fun x hx=>by cases hx)),ay ?_⟩
  .simp at hx;subst hx;exact .rs zi
  refine af ?_;refine ab (aX (bZ [(1,_,43)] eH (l:=[(2,dC (mA f.blocks))]) ⟨?_,trivial⟩) (aw rfl rfl));show sub (dh 1 _ (prog.cellsOf 43)) (D.rs 1 0 n)=_;rw[mW (by rw[ly];simp),TN,mA,hn]
theorem Kw{p q:D}{f:aK}{n args:Nat}(hp:Tr p)(hq:Tr q)(gS:p.one=true)(cb:q.one=true)(hn:f.blocks.length=n)(p9:0<n)(rk:n<=100000)(ha:f.args=args)(tF:args<=1000)(Dw:∀ u∈jJ args,eF u)(hb:∀ b∈f.blocks,uL n b)
 (Ap:∀ b x,f.blocks[b]? =some x->∀ y∈x.ins,y.op=19->y.args.length=(cw f.blocks n b).length/\∀ r∈y.args,0<=r/\r<1280):
 az prog 98 [.agg (bC p q f)] (B (sL f.blocks args)):=by
 have bx:∀ a∈[D.agg (bC p q f)],Tr a:=.cons (nQ hp hq f) .nil;have CD:=CD hp hq gS cb hn p9 rk ha tF Dw hb;have CE:=CE hp hq gS cb hn rk (fun b h=>(hb b h).fin.wh) (fun b h=>(hb b h).to);have Yo:gF n (iq f.blocks args):=by subst hn;exact ae3 hb Dw
 refine bu an2 bx (.s _) ?_;rw[an3];refine ay ?_;refine af ?_;refine ab (aX (bZ [(0,bC p q f,113)] eH (l:=[(1,.pt (bC p q f))]) eH) ?_);have n1:sL f.blocks args=(range n).all (rJ f.blocks (iq f.blocks args)):=by rw[sL,hn]
 rw[n1];clear n1;generalize iq f.blocks args=R at CD Yo ⊢;obtain⟨lw,lr,lx,rg⟩:=Yo;have CD:az prog 132 [.agg (bC p q f)] (.bd [.sl (dt R.wsq) n,mq R.re]):=by unfold mq;rw[lr];exact CD
 show AW _ _ _ _ (MQ _) _;refine ws ?_;refine SS ?_;refine cl CD ?_;refine bm ?_;refine ab (ay ?_);refine SS ?_;refine cl CE ?_;refine SS ?_;refine ab (aX (iJ (l:=[(1,.pt (bC p q f)),(3,.sl (dt R.wsq) n),(4,mq R.re),(5,dC (mA f.blocks))]) eH) (aaO (aI (ay ?_))));refine bm ?_
 refine ab (cD (fun s=>(range n).all (rJ f.blocks R)=true) (gM (α:=Nat×Nat)
  (fun k=>⟨aF [(1,.pt (bC p q f)),(3,.sl (dt R.wsq) n),(4,mq R.re),(5,dC (mA f.blocks)),(25,dQ f.blocks),(26,I n),(27,I k.1)],fun _=>none,k.2⟩)
  (fun k=>k.1<=n/\(range k.1).all (rJ f.blocks R)=true) (fun k=>n - k.1) (0,1) (iJ ⟨rfl,rfl,rfl,rfl,rfl,congrArg (fun k:Nat=>I k) hn,rfl,trivial⟩) ⟨Nat.zero_le _,rfl⟩ ?_) ?_)
 .rintro⟨k,N⟩ ⟨hk,X⟩;dsimp only at hk X ⊢;refine SS ?_;refine ab ⟨_,rfl,fun h=>?_,fun h=>?_⟩
  .have al:k<n:=by simpa using h
   have hx:f.blocks[k]? =some f.blocks[k]:=bc oG;have dp:f.blocks[k]∈f.blocks:=di _;generalize f.blocks[k]=x at hx dp;have ku:=hb x dp;have tV:=Ap k x hx;have hw:R.wsq[k]? =some R.wsq[k]:=bc oG;have oq:R.re[k]? =some R.re[k]:=bc oG;have nH:=lx _ (di (h:=by omega):R.wsq[k]∈R.wsq)
   have M:rJ f.blocks R k=(!R.re[k]||((jE x R.wsq[k]).2&&(x.ins.takeWhile cA).all (rY f.blocks R k))):=by
    rw[rJ,getD_some hw,getD_some oq,getD_some hx]
   generalize R.wsq[k]=w at hw nH M;generalize R.re[k]=b at oq M;refine ay ?_;refine cG ?_;refine ab (aX (kY (i:=N) (l:=[(1,.pt (bC p q f)),(3,.sl (dt R.wsq) n),(4,mq R.re),(5,dC (mA f.blocks)),(6,I k),(7,.pt (cg x)),(25,dQ f.blocks),(26,I n),(27,I k)]) (an _ _ _) ⟨rfl,rfl,rfl,rfl,rfl,mG,rfl,rfl,rfl,trivial⟩) (aI (aj ?_)));refine bm ?_;refine ab (dZ rfl (fun h=>uc (BO ?_)) fun h=>cX (aI (ua ae4 ?_)))
   .have Qz:b=false:=by simpa using h
    subst Qz;refine af ?_;refine ab (bg (k+1,N+1) (iJ eH) ⟨oM,mh X (by rw[M];rfl)⟩ oM)
   have QA:b=true:=by simpa using h
   subst QA;have o4:=o4 nH ku.len ku.ins ku.fin ku.rl ku.rf;have wQ:=KQ x w;rw[nH] at wQ;generalize jE x w=th at o4 M wQ;obtain⟨w1,ok⟩:=th;dsimp only at o4 M wQ;refine av ?_;refine aq (V2 rfl rfl V.h V.h oN oN) ak (V3 V.h oN oN oG) ?_;refine aq (nO rfl V.h V.h (TO oN)) ak (nP V.h V.h oP) ?_;refine cl o4 ?_;refine cG ?_;refine bN bO (aX (iJ (l:=[(1,.pt (bC p q f)),(3,.sl (dt R.wsq) n),(4,mq R.re),(5,dC (mA f.blocks)),(6,I k),(7,.pt (cg x)),(9,B ok),(25,dQ f.blocks),(26,I n),(27,I k)]) eH) (aI (aj ?_)));refine af ?_;refine ab (dZ rfl (fun h=>?_) fun h=>cX (ay ?_))
   .have cE:ok=false:=by simpa using h
    subst cE;refine aI (aj ?_);refine SS ?_;refine ab (eb (cZ (a6 (Mn (aw (d:=B false) rfl ?_)))));rw[po al (by rw[M];rfl)]
   have cE:ok=true:=by simpa using h
   subst cE;have M:rJ f.blocks R k=(x.ins.takeWhile cA).all (rY f.blocks R k):=M;refine aR ?_;have me:=ku.len
   refine ab (gM (α:=Nat×Nat)
    (fun j=>⟨aF [(1,.pt (bC p q f)),(3,.sl (dt R.wsq) n),(4,mq R.re),(5,dC (mA f.blocks)),(6,I k),(25,dQ f.blocks),(26,I n),(27,I k),(49,iX x.ins),(50,I x.ins.length),(51,I j.1)],fun _=>none,j.2⟩)
    (fun j=>j.1<=x.ins.length/\(∀ y∈x.ins.take j.1,cA y=true)/\(x.ins.take j.1).all (rY f.blocks R k)=true) (fun j=>x.ins.length - j.1) (0,_) (iJ eH) ⟨Nat.zero_le _,oS,oS⟩ ?_)
   rintro⟨j,N⟩ ⟨hj,CF,Fq⟩;dsimp only at hj CF Fq ⊢;refine SS ?_;refine ab ⟨_,rfl,fun h=>?_,fun h=>?_⟩
   .have dK:j<x.ins.length:=by simpa using h
    have hy:x.ins[j]? =some x.ins[j]:=bc dK;have Zr:x.ins[j]∈x.ins:=di dK;generalize x.ins[j]=y at hy Zr;refine ay ?_;refine aR ?_;refine ab (aX (kY (i:=N) (l:=[(1,.pt (bC p q f)),(3,.sl (dt R.wsq) n),(4,mq R.re),(5,dC (mA f.blocks)),(6,I k),(11,.pt (bA y)),(25,dQ f.blocks),(26,I n),(27,I k),(49,iX x.ins),(50,I x.ins.length),(51,I j)]) (an _ _ _) ⟨rfl,rfl,rfl,rfl,rfl,mG,rfl,rfl,rfl,rfl,rfl,rfl,trivial⟩) (aI (aj ?_)));refine av ?_;refine ab (dZ rfl (fun h=>uc (aif oC oC (BO ?_))) fun h=>cX (ay ?_))
    .have bf:y.op≠19:=by simpa using h
     refine af ?_;refine ab (bg (k+1,_) (iJ eH) ⟨oM,mh X ?_⟩ oM);rw[M,takeWhile_eq CF (fun y' h'=>by rw[hy] at h';cases h';simpa[cA] using bf)];exact Fq
    have fM:y.op=19:=by simpa using h
    obtain⟨xq,QF⟩:=tV y Zr fM;have hA:=R5 hn al
    have Gn:∀ p∈cw f.blocks n k,∃ C:Nat,p=C/\C<n:=fun p hp=>by
     obtain⟨b,h1,h2,_⟩:=GR.1 hp;exact⟨b,h1,h2⟩
    have QG:rY f.blocks R k y=(range (cw f.blocks n k).length).all (sO f.blocks R k y):=by rw[rY,hn]
    have J:∀ i,sO f.blocks R k y i=(!(R.re.getD ((cw f.blocks n k).getD i 0).toNat false)||lF (gO (f.blocks.getD ((cw f.blocks n k).getD i 0).toNat jg).fin k (jE (f.blocks.getD ((cw f.blocks n k).getD i 0).toNat jg) (R.wsq.getD ((cw f.blocks n k).getD i 0).toNat [])).1) (y.args.getD i 0).toNat):=fun i=>by rw[sO,hn]
    have QH:=Lg (fun b h=>(hb b h).fin.wh) n k;generalize cw f.blocks n k=A at xq hA Gn QG J QH
    have ahG:∀ i,i<A.length->sO f.blocks R k y i=false->(range n).all (rJ f.blocks R)=false:=fun i hi he=>by
     refine po al ?_;rw[M];refine Bool.eq_false_iff.2 fun ht=>?_
     have an4:y∈x.ins.takeWhile cA:=by
      have:x.ins.take (j+1)=x.ins.take j++[y]:=by rw[List.take_add_one,hy];rfl
      have h2:x.ins=x.ins.take (j+1)++x.ins.drop (j+1):=(List.take_append_drop _ _).symm;rw[h2,this,List.takeWhile_append_of_pos]
      .simp
      .intro z hz;rcases List.mem_append.1 hz with h|h
       .exact CF z h
       .rw[List.mem_singleton.1 h];simp[cA,fM]
     have:=bT.1 ht y an4;rw[QG,po hi he] at this;cases this
    refine cG ?_
    refine ab (gM (α:=Nat×Nat)
     (fun i=>⟨aF [(1,.pt (bC p q f)),(3,.sl (dt R.wsq) n),(4,mq R.re),(5,dC (mA f.blocks)),(6,I k),(11,.pt (bA y)),(25,dQ f.blocks),(26,I n),(27,I k),(49,iX x.ins),(50,I x.ins.length),(51,I j),(61,aT A),(62,I A.length),(63,I i.1)],fun _=>none,i.2⟩)
     (fun i=>i.1<=A.length/\(range i.1).all (sO f.blocks R k y)=true) (fun i=>A.length - i.1) (0,_) (iJ eH) ⟨Nat.zero_le _,rfl⟩ ?_)
    rintro⟨i,N⟩ ⟨hi,N8⟩;dsimp only at hi N8 ⊢;refine SS ?_;refine ab ⟨_,rfl,fun h=>?_,fun h=>?_⟩
    .have lI:i<A.length:=by simpa using h
     have Zs:A[i]? =some A[i]:=bc lI;obtain⟨C,Gp,xd⟩:=Gn _ (di lI);rw[Gp] at Zs;clear Gp;have vA:f.blocks[C]? =some f.blocks[C]:=bc oG;have qW:f.blocks[C]∈f.blocks:=di _;have Zt:R.wsq[C]? =some R.wsq[C]:=bc oG;have Zu:R.re[C]? =some R.re[C]:=bc oG;have Pn:=lx _ (di (h:=by omega):R.wsq[C]∈R.wsq);have QI:y.args[i]? =some y.args[i]:=bc oG;have zh:=QF _ (di (h:=by omega):y.args[i]∈y.args);have J:=J i;rw[getD_some Zs,eI,getD_some vA,getD_some Zt,getD_some Zu,getD_some QI] at J;generalize f.blocks[C]=xp at vA qW J;generalize R.wsq[C]=wp at Zt Pn J;generalize R.re[C]=rb at Zu J;generalize y.args[i]=r at QI zh J;obtain⟨rn,rfl⟩:=iG zh.1;rw[eI] at J;have U:=hb xp qW;have o4:=Go.Proofs.Tryz.K.o4 Pn U.len U.ins U.fin U.rl U.rf;have Fs:=KQ xp wp;rw[Pn] at Fs;generalize jE xp wp=tp at o4 J Fs;obtain⟨w2,ok2⟩:=tp;dsimp only at o4 J Fs;have yN:=yN (x:=xp.fin) (b:=(k:Int)) (w:=w2) Fs (by have:=U.fin.wh;omega) (by have:=U.fin.wr;omega);have jB:=SI xp.fin k w2;rw[Fs] at jB;generalize gO xp.fin k w2=w3 at yN jB J;have mL:=mL (w:=w3) (m:=rn) jB oG;refine ws ?_;refine bm ?_;refine ab (ua ada ?_);refine cP ?_;refine aq (V2 rfl rfl V.h V.h oN oN) ak (V3 V.h oN oN oG) ?_;refine aq (nO rfl V.h V.h (TO oN)) ak (nP V.h V.h oP) ?_;refine cl o4 ?_;refine cG ?_;refine bN bO (aX (kY (i:=N) (l:=[(1,.pt (bC p q f)),(3,.sl (dt R.wsq) n),(4,mq R.re),(5,dC (mA f.blocks)),(6,I k),(11,.pt (bA y)),(12,I i),(13,I C),(14,.pt (w2.map dk)),(25,dQ f.blocks),(26,I n),(27,I k),(49,iX x.ins),(50,I x.ins.length),(51,I j),(61,aT A),(62,I A.length),(63,I i)]) (an _ _ _) ⟨rfl,rfl,rfl,rfl,rfl,rfl,rfl,rfl,mG,rfl,rfl,rfl,rfl,rfl,rfl,rfl,rfl,rfl,trivial⟩) (ej adb ?_))
     have pN:∀ v:Bool,v=sO f.blocks R k y i->(v=false->(range n).all (rJ f.blocks R)=false)/\(v=true->(range (i+1)).all (sO f.blocks R k y)=true):=fun v hv=>by
      subst hv;exact⟨ahG i lI,fun h=>mh N8 h⟩
     cases rb with
     |false=>
      obtain⟨_,O⟩:=pN true J.symm;have O:=O rfl;refine bj ?_;refine cq rfl rfl (vZ rfl rfl V.h V.h (Bh) oN) (fun hc=>⟨ak,(v8 V.h (Bh) oN)⟩) ?_;refine av ?_;refine cq rfl rfl (nO rfl V.h V.h (V4 (by first|rfl|exact bt rfl|(simp;done)|(simp;omega)|omega))) (fun hc=>⟨ak,(nP V.h V.h (by first|rfl|exact bt rfl|(simp;done)|(simp;omega)|omega))⟩) ?_;refine gc yN ?_;refine bm ?_;refine gc mL ?_;refine af ?_;refine bN bO (ap rfl (fun h=>oH) fun h=>dE ?_);refine af ?_;refine ab (bg (i+1,_) (iJ eH) ⟨oM,O⟩ oM)
     |true=>
      obtain⟨AK,O⟩:=pN (lF w3 rn) J.symm;generalize lF w3 rn=hv at mL AK O;refine bj ?_;refine cq rfl rfl (vZ rfl rfl V.h V.h (Bh) oN) (fun hc=>⟨ak,(v8 V.h (Bh) oN)⟩) ?_;refine av ?_;refine cq rfl rfl (nO rfl V.h V.h (V4 (by first|rfl|exact bt rfl|(simp;done)|(simp;omega)|omega))) (fun hc=>⟨ak,(nP V.h V.h (by first|rfl|exact bt rfl|(simp;done)|(simp;omega)|omega))⟩) ?_;refine gc yN ?_;refine bm ?_;refine gc mL ?_;refine af ?_;refine bN bO (ap rfl (fun h=>?_) fun h=>dE ?_)
      .have hf:hv=false:=by simpa using h
       refine ws ?_;refine SS ?_;refine ab (bp (cZ (cZ (cZ (a6 (Mn (aw (d:=B false) rfl ?_)))))));rw[AK hf]
      .have ht:hv=true:=by simpa using h
       have O:=O ht;refine af ?_;refine ab (bg (i+1,_) (iJ eH) ⟨oM,O⟩ oM)
    .have bG:¬ i<A.length:=by simpa using h
     have hiA:i=A.length:=by omega
     subst hiA;show ax _ _ _ _ _ _ _ _ _;refine af ?_;refine ab (bg (j+1,_) (iJ eH) ⟨oM,fun z hz=>?_,?_⟩ oM)
     .dsimp only at hz;rw[List.take_add_one,hy] at hz;rcases List.mem_append.1 hz with h|h
      .exact CF z h
      .rw[List.mem_singleton.1 h];simp[cA,fM]
     .dsimp only;rw[List.take_add_one,hy,List.all_append,Fq];simpa[QG] using N8
   .have bG:¬ j<x.ins.length:=by simpa using h
    have FR:j=x.ins.length:=by omega
    subst FR;show ax _ _ _ _ _ _ _ _ _;refine af ?_;refine ab (bg (k+1,_) (iJ eH) ⟨oM,mh X ?_⟩ oM);rw[List.take_length] at CF Fq;rw[M,takeWhile_eq (j:=x.ins.length) (by rw[List.take_length];exact CF) (fun y h=>by simp at h),List.take_length];exact Fq
  .have bG:¬ k<n:=by simpa using h
   have:k=n:=by omega
   subst this;exact X
 .rintro⟨env,m,nx⟩ X;refine⟨_,.refl _,aj ?_⟩;refine SS ?_;refine ab (Mn (aw (d:=B true) rfl ?_));rw[X]
end Go.Proofs.Tryz.K
end
