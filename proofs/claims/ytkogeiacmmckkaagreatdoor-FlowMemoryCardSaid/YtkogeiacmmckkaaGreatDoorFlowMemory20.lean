/- Part 20. -/
import Derived.Test.YtkogeiacmmckkaaGreatDoorFlowMemory7
import Derived.Test.YtkogeiacmmckkaaGreatDoorFlowMemory19
set_option linter.all false
set_option maxHeartbeats 4000000
set_option maxRecDepth 10000
open List(range)
open List(replicate)
section
open Go Go.Abs Go.Proofs Go.Argus
namespace Go.Proofs.Tryz.K
abbrev P0:D:=.im (kM dC)
abbrev Q0:D:=.im (kM ek)
theorem Mj:aG prog 180 [] (.aT [P0,Q0]):=by
 refine bK agU Tr.nil (.aT (.cons (Ay _) (.cons (Ay _) .nil))) ?_;rw[agV];refine ws ?_;refine au (ns (v:=.s (.map none)) rfl) ak trivial ?_;refine au (ns (v:=.s (.map none)) rfl) ak trivial ?_;refine er ?_;refine bI ?_;refine bI ?_;refine bI ?_;refine dV ?_;refine er ?_;refine bI ?_;refine bI ?_;refine aJ ?_;refine aa (aI ?_);refine bj ?_;refine aa (ca (abF [(0,kM dC),(1,kM ek)] eH (l:=[(0,P0),(1,Q0)]) eH) ?_);exact zY rfl rfl rfl
abbrev qB(f:aU):D:=.agg (bd P0 Q0 f)
theorem MA{f:aU}:aG prog 136 [.agg (aF f)] (qB f):=by
 have C:∀ a∈[D.agg (aF f)],Tr a:=.cons (.agg (nz f)) .nil;refine bK agW C (lK (Ay _) (Ay _) f) ?_;rw[agX];refine ws ?_;refine ab ?_;refine er ?_;refine cl Mj ?_;refine bV ?_;refine er ?_;refine au (dI (vs:=aF _) rfl rfl V.h V.h rfl) ak (dJ V.h V.h (by first|(simp;done)|omega|exact bf rfl)) ?_;refine ab ?_;refine au (I0 (cs:=bd _ _ _) V.h V.h V.h rfl rfl) ak ⟨V.h,V.h⟩ ?_;refine bD (eI (cs':=bd _ _ _) rfl rfl rfl rfl) ak (bN V.h V.h (by first|(simp;done)|exact⟨rfl,bf rfl⟩|(simp;omega)) (by rfl)) ?_;refine aa (lh (iM rfl rfl a93 WV rfl t93 oS) ?_);rfl
theorem lv:Tr P0:=Ay _
theorem lx:Tr Q0:=Ay _
section
variable{p q:D}{f:aU}(hp:Tr p)(hq:Tr q)(dx:p.one=true)(bG:q.one=true)
include hp hq dx bG
theorem ajf{r kd:Int}:aG prog 216 [I r,.pt (bd p q f),.pt [U8 kd]] (B !(cS (cQ f.al r) kd)):=by
 have C:∀ a∈[I r,.pt (bd p q f),.pt [U8 kd]],Tr a:=.cons (.s _) (.cons (.pt (BQ hp hq f)) (.cons (.pt (.cons (.s _) .nil)) .nil));have eY:=eY (f:=f) (r:=r) hp hq dx bG;refine bK agY C (Tr.s _) ?_;rw[agZ];refine ws ?_;refine SS ?_;refine aa (gZ ZZ ?_);refine ab ?_;refine cl eY ?_;refine aJ ?_;refine cG cP ?_;refine aN (d:=.s (.bool _)) rfl ?_;rfl
end
theorem G'{f:aU}{b ahead:Int}{x:bn}{phis:Bool}:aG prog 143 [qB f,I b,.agg (bc x),B phis,I ahead] (B (jD f b x phis ahead)):=by
 have O:∀ a∈[qB f,I b,.agg (bc x),B phis,I ahead],Tr a:=.cons (lK lv lx f) (.cons (.s _) (.cons (.agg (ky x)) (.cons (.s _) (.cons (.s _) .nil))));have eY:= @eY P0 Q0 f lv lx rfl rfl;have Hb:= @Hb P0 Q0 f lv lx rfl rfl;have gQ:= @gQ P0 Q0 f lv lx rfl rfl;have AP:= @AP P0 Q0 f lv lx rfl rfl;refine bK ag0 O (Tr.s _) ?_;rw[ag1];refine aI ?_;refine aJ ?_;refine aa (ca (dX [(0,bd P0 Q0 f,93),(1,bc x,45)] eH (l:=[(1,I b),(3,B phis),(4,I ahead),(5,.pt (bd P0 Q0 f)),(7,.pt (bc x))]) eH) (aX (ap ?_)));refine ab ?_;refine aa (wW (ap ?_));refine ab ?_;refine aa (aE rfl (fun h0=>?_) fun h0=>?_)
 .have h0:x.op=16:=by simpa using h0
  refine ws ?_;refine jx ?_;refine gc eY ?_;refine bI ?_;refine dc ?_;refine ab ?_;refine aa (cM (gi (cw (aN (d:=.s (.bool _)) rfl ?_))));simp[jD,h0,cS,qw,ib,Bool.and_assoc]
 have h0:¬ x.op=16:=by simpa using h0
 refine ws ?_;refine ab ?_;refine aa (aE rfl (fun h1=>?_) fun h1=>?_)
 .have h1:x.op=17:=by simpa using h1
  refine ws ?_;refine bI ?_;refine bI ?_;refine ab ?_;refine gc Hb ?_;refine ab ?_;refine aa (cM (gi (cw (aN (d:=.s (.bool _)) rfl ?_))));simp[jD,h1,cS,qw,ib,Bool.and_assoc]
 have h1:¬ x.op=17:=by simpa using h1
 refine ws ?_;refine ab ?_;refine aa (aE rfl (fun h2=>?_) fun h2=>?_)
 .have h2:x.op=18:=by simpa using h2
  refine ws ?_;refine bI ?_;refine bI ?_;refine ab ?_;refine gc Hb ?_;refine ab ?_;refine aa (cM (gi (cw (aN (d:=.s (.bool _)) rfl ?_))));simp[jD,h2,cS,qw,ib,Bool.and_assoc]
 have h2:¬ x.op=18:=by simpa using h2
 refine ws ?_;refine ab ?_;refine aa (aE rfl (fun C=>?_) fun C=>?_)
 .have C:x.op=19:=by simpa using C
  refine aI ?_;refine aJ ?_;refine cl eY ?_;refine SS ?_;refine bD (di (d:=.s (.int _ _)) (cs':=[_]) rfl rfl rfl rfl rfl) ak (bN V.h V.h (by first|(simp;done)|exact⟨rfl,bf rfl⟩|(simp;omega)) rfl) ?_;refine aa (ca (dX [(2,[U8 (cQ f.al x.to)],5)] eH (l:=[(1,I b),(3,B phis),(4,I ahead),(5,.pt (bd P0 Q0 f)),(7,.pt (bc x)),(11,.pt [U8 (cQ f.al x.to)])]) eH) (ap ?_));have Bd:=Bd (l:=x.args) (g:=216) (fs:=[]) (cs:=[.pt (bd P0 Q0 f),.pt [U8 (cQ f.al x.to)]]) (p:=fun r=> !(cS (cQ f.al r) (cQ f.al x.to))) (.fn oS (.cons (.pt (BQ lv lx f)) (.cons (.pt (.cons (.s _) .nil)) .nil))) (fun r _=>ajf lv lx rfl rfl);refine aJ ?_;refine cl Bd ?_;refine SS ?_;refine er ?_;by_cases hb:phis=true/\0<b
  .obtain⟨rfl,hb⟩:=hb;have CQ:decide (0<b)=true:=by simpa using hb
   have gQ:=gQ (l:=[x.to]);have J:∀ {m:Mem},m 3=some (.cells [I x.to] 3)->jM prog [3] m [qB f,.rs 3 0 1] [qB f,az [x.to]]:=fun hm=>⟨cz (lK lv lx f),Cl hm oS (by rw[c3];rfl) (.cons (.s _) .nil),trivial⟩
   refine aJ ?_;refine Vt ?_;refine dV ?_;refine FT gQ rfl rfl rfl rfl (J rfl) ak ?_;refine bI ?_;refine bI ?_;refine dc ?_;refine ab ?_;refine aa (cM (gi (cw (aN (d:=.s (.bool _)) rfl ?_))));simp[jD,C,hb,cS,qw,ib,Bool.and_assoc,qm]
  .have hf:jD f b x phis ahead=false:=by
    cases phis with
    |false=>simp[jD,C]
    |true=>simp[jD,C,show ¬ 0<b by simpa using hb]
   have hf:D.s (.bool false)=B (jD f b x phis ahead):=by rw[hf]
   cases phis with
   |false=>
    refine ab ?_;(iterate 2 refine z fun _ _=>?_);refine ab ?_;(iterate 5 refine z fun _ _=>?_);refine ab ?_;(iterate 3 refine z fun _ _=>?_);refine ab ?_;(iterate 3 refine z fun _ _=>?_);refine ab ?_;(iterate 3 refine z fun _ _=>?_);refine ab ?_;(iterate 5 refine z fun _ _=>?_);refine ab ?_;(iterate 2 refine z fun _ _=>?_);refine ab ?_;exact aa (cM (gi (cw (aN (d:=.s (.bool _)) rfl hf))))
   |true=>
    have CQ:decide (0<b)=false:=by simpa using hb
    refine aJ ?_;refine Vt ?_;refine ab ?_;(iterate 5 refine z fun _ _=>?_);refine ab ?_;(iterate 3 refine z fun _ _=>?_);refine ab ?_;(iterate 3 refine z fun _ _=>?_);refine ab ?_;(iterate 3 refine z fun _ _=>?_);refine ab ?_;(iterate 5 refine z fun _ _=>?_);refine ab ?_;(iterate 2 refine z fun _ _=>?_);refine ab ?_;exact aa (cM (gi (cw (aN (d:=.s (.bool _)) rfl hf))))
 have C:¬ x.op=19:=by simpa using C
 refine vg (ap ?_);have kg:fV prog 91 true (eu (.int .u8 x.op) (kM dC))=.aT [.agg (dA ((cH dC x.op).getD jh)),.s (.bool (cH dC x.op).isSome)]:=FU rfl _ _ (by rw[yo];unfold lO;rw[yp,yq];rfl);have wF:=zK (P:=prog) (kt:=5) u5 dC;refine bI ?_;refine ab ?_;refine er ?_;refine bj ?_;refine bS rfl rfl (dI (vs:=dA _) rfl rfl V.h V.h rfl) (fun hc=>⟨ak,(dJ V.h V.h (by first|(simp;done)|omega|exact bf rfl))⟩) ?_;refine gc AP ?_;refine ab ?_;refine aa (aN (d:=.s (.bool _)) rfl ?_);simp[jD,h0,h1,h2,C]
def T9(f:aU)(x:Argus.End)(s:St):Prop:=∃ cells n,aC prog s ⟨ay [(2,.pt (bd P0 Q0 f)),(3,.pt (bE x)),(5,.rp 2 0),(6,B (fy f x).1)],up (fun _=>none) 2 (some (.cells cells 48)),n⟩/\cells.length=15/\∀ m,jM prog [2] m cells (bE (fy f x).2)
theorem vR{l:List Int}{r:Int}:qm l [r]=mH l r:=by simp[qm]
theorem me{f:aU}{x r:Argus.End}{env:Env}{m:Mem}{nx:Nat}{cells:List D}{ok:Bool}(hr:fy f x=(ok,r))(he:lj [(2,.pt (bd P0 Q0 f)),(3,.pt (bE x)),(5,.rp 2 0),(6,B ok)] env)(hm:m 2=some (.cells cells 48))(hl:cells.length=15)
 (hs:∀ m,jM prog [2] m cells (bE r)):T9 f x ⟨env,m,nx⟩:=by
 refine⟨cells,nx,?_,hl,?_⟩
 .rw[hr];exact Qu he (aaZ hm)
 .rw[hr];exact hs
theorem G9{f:aU}{x:Argus.End}:aG prog 142 [qB f,.agg (bE x)] (B (mG f x)):=by
 have bg:∀ a∈[qB f,.agg (bE x)],Tr a:=.cons (lK lv lx f) (.cons (.agg (ql x)) .nil);have jr:= @jr P0 Q0 f lv lx rfl rfl;have eY:= @eY P0 Q0 f lv lx rfl rfl;have gQ:= @gQ P0 Q0 f lv lx rfl rfl;have AP:= @AP P0 Q0 f lv lx rfl rfl;have sj:= @sj P0 Q0 f lv lx rfl rfl;refine bK ag2 bg (Tr.s _) ?_;rw[ag3];refine aI ?_;refine aJ ?_;refine aa (ca (dX [(0,bd P0 Q0 f,93),(1,bE x,48)] eH (l:=[(2,.pt (bd P0 Q0 f)),(3,.pt (bE x))]) eH) (ap ?_));refine ab ?_;refine bD (eI (cs':=bE _) rfl rfl rfl rfl) ak (bN V.h V.h (by first|(simp;done)|exact⟨rfl,bf rfl⟩|(simp;omega)) (by rfl)) ?_;refine SS ?_;refine er ?_;refine ab ?_;refine aa ?_;refine cL (T9 f x) (ap ?_) fun s hs=>?_
 .refine ab ?_;refine aa (ot (ap ?_));refine ab ?_;refine aa (aE rfl (fun h=>?_) fun h=>?_)
  .have h:x.kind=1:=by simpa using h
   refine iQ ?_;refine aJ ?_;refine cl jr ?_;refine aJ ?_;refine aa ?_;exact me (r:={ x with kind:=0,to:=0 }) (by simp[fy,h,cS,ib,Bool.and_assoc,eK]) ⟨rfl,rfl,rfl,rfl,trivial⟩ rfl rfl (fun m=>by repeat' (first|exact trivial|exact cz (Tr.s _)|exact cz (cC _)|exact cz (iN _)|exact mf|refine And.intro ?_ ?_))
  have h1:¬ x.kind=1:=by simpa using h
  clear h;refine ws ?_;refine ab ?_;refine aa (aE rfl (fun h=>?_) fun h=>?_)
  .have h:x.kind=2:=by simpa using h
   refine iQ ?_;refine aJ ?_;refine cl eY ?_;refine bV ?_;refine gc jr ?_;refine bV ?_;refine gc jr ?_;refine dc ?_;refine aa ?_;exact me (r:={ x with kind:=0,a:=0,to:=0,gX:=0 }) (by simp[fy,h,cS,ib,Bool.and_assoc,eK]) ⟨rfl,rfl,rfl,rfl,trivial⟩ rfl rfl (fun m=>by repeat' (first|exact trivial|exact cz (Tr.s _)|exact cz (cC _)|exact cz (iN _)|exact mf|refine And.intro ?_ ?_))
  have h2:¬ x.kind=2:=by simpa using h
  clear h;refine ws ?_;refine ab ?_;refine aa (aE rfl (fun h=>?_) fun h=>?_)
  .have h:x.kind=3:=by simpa using h
   refine ws ?_;refine dV ?_;refine er ?_;refine dc ?_;refine ab ?_;refine aa (aE rfl (fun hr=>?_) fun hr=>?_)
   .have hr:f.result≠0/\f.iter=false:=by simpa[bne,ib] using hr
    refine uJ YF ?_;refine aJ ?_;refine cl eY ?_;refine bV ?_;refine cG cP ?_;exact me (r:={ x with kind:=0,a:=0 }) (by simp[fy,h,cS,ib,Bool.and_assoc,hr.1,hr.2]) ⟨rfl,rfl,rfl,rfl,trivial⟩ rfl rfl (fun m=>by repeat' (first|exact trivial|exact cz (Tr.s _)|exact cz (cC _)|exact cz (iN _)|exact mf|refine And.intro ?_ ?_))
   .have hr:¬ (f.result≠0/\f.iter=false):=by simpa[bne,ib] using hr
    refine sU ?_;exact me (r:={ x with kind:=0,a:=0 }) (by simp only[fy,h];simp only[if_neg hr];simp[cS,ib]) ⟨rfl,rfl,rfl,rfl,trivial⟩ rfl rfl (fun m=>by repeat' (first|exact trivial|exact cz (Tr.s _)|exact cz (cC _)|exact cz (iN _)|exact mf|refine And.intro ?_ ?_))
  have h3:¬ x.kind=3:=by simpa using h
  clear h;refine ws ?_;refine ab ?_;refine aa (aE rfl (fun h=>?_) fun h=>?_)
  .have h:x.kind=4:=by simpa using h
   refine iQ ?_;refine ab ?_;refine cl CT ?_;refine aJ ?_;refine aa ?_;exact me (r:={ x with kind:=0,name:=.empty }) (by simp[fy,h,cS,ib,Bool.and_assoc]) ⟨rfl,rfl,rfl,rfl,trivial⟩ rfl rfl (fun m=>by repeat' (first|exact trivial|exact cz (Tr.s _)|exact cz (cC _)|exact cz (iN _)|exact mf|refine And.intro ?_ ?_))
  have h4:¬ x.kind=4:=by simpa using h
  clear h;refine ws ?_;refine ab ?_;refine aa (aE rfl (fun h=>?_) fun h=>?_)
  .have h:x.kind=5:=by simpa using h
   refine ws ?_;have kg:fV prog 91 true (eu (.int .u8 x.ins.op) (kM ek))=.aT [.agg (dA ((cH ek x.ins.op).getD jh)),.s (.bool (cH ek x.ins.op).isSome)]:=FU rfl _ _ (by rw[yo];unfold lO;rw[yp,yq];rfl);have wF:=zK (P:=prog) (kt:=5) u5 ek;refine bI ?_;refine aJ ?_;refine er ?_;refine bV ?_;refine bS rfl rfl (dI (vs:=dA _) rfl rfl V.h V.h rfl) (fun hc=>⟨ak,(dJ V.h V.h (by first|(simp;done)|omega|exact bf rfl))⟩) ?_;refine gc AP ?_;refine bV ?_;refine gc jr ?_;refine bj ?_;refine gc sj ?_;refine ab ?_;refine aa (iQ ?_);refine bI ?_;refine aa ?_;exact me (r:={ x with kind:=0,ins:=rL,to:=0,aD:=[],others:= -1 }) (by simp[fy,h,cS,ib,Bool.and_assoc,eK]) ⟨rfl,rfl,rfl,rfl,trivial⟩ rfl rfl (fun m=>by repeat' (first|exact trivial|exact cz (Tr.s _)|exact cz (cC _)|exact cz (iN _)|exact mf|refine And.intro ?_ ?_))
  have h5:¬ x.kind=5:=by simpa using h
  clear h;refine ws ?_;refine ab ?_;refine aa (aE rfl (fun h=>?_) fun h=>?_)
  .have h:x.kind=6:=by simpa using h
   refine ws ?_;have qL:=qL (s:=x.name);have ag4:=gQ (l:=[x.a]);have gQ:=gQ (l:=x.args);have X:∀ {m:Mem},m 3=some (.cells [I x.a] 3)->jM prog [3] m [qB f,.rs 3 0 1] [qB f,az [x.a]]:=fun hm=>⟨cz (lK lv lx f),Cl hm oS (by rw[c3];rfl) (.cons (.s _) .nil),trivial⟩
   cases C:tu x.name with
   |false=>
    rw[C] at qL;refine ab ?_;refine cl qL ?_;refine dc ?_;refine ab ?_;refine gc gQ ?_;refine bI ?_;(iterate 3 refine z fun _ _=>?_);refine bV ?_;refine gc jr ?_;refine bj ?_;refine gc sj ?_;refine ab ?_;refine aa (iQ ?_);refine bI ?_;refine aJ ?_;refine aa ?_;exact me (r:={ x with kind:=0,name:=.empty,args:=[],a:=0,to:=0,aD:=[],others:= -1 }) (by simp[fy,h,cS,ib,Bool.and_assoc,eK,C]) ⟨rfl,rfl,rfl,rfl,trivial⟩ rfl rfl (fun m=>by repeat' (first|exact trivial|exact cz (Tr.s _)|exact cz (cC _)|exact cz (iN _)|exact mf|refine And.intro ?_ ?_))
   |true=>
    rw[C] at qL;by_cases J:(x.args.length:Int)<=6
    rotate_left
    .have UQ:decide ((x.args.length:Int)<=6)=false:=by simpa using J
     refine ab ?_;refine cl qL ?_;refine dc ?_;refine ab ?_;refine gc gQ ?_;refine bI ?_;(iterate 3 refine z fun _ _=>?_);refine bV ?_;refine gc jr ?_;refine bj ?_;refine gc sj ?_;refine ab ?_;refine aa (iQ ?_);refine bI ?_;refine aJ ?_;refine aa ?_;exact me (r:={ x with kind:=0,name:=.empty,args:=[],a:=0,to:=0,aD:=[],others:= -1 }) (by simp[fy,h,cS,ib,Bool.and_assoc,eK,C,J]) ⟨rfl,rfl,rfl,rfl,trivial⟩ rfl rfl (fun m=>by repeat' (first|exact trivial|exact cz (Tr.s _)|exact cz (cC _)|exact cz (iN _)|exact mf|refine And.intro ?_ ?_))
    have UQ:decide ((x.args.length:Int)<=6)=true:=by simpa using J
    cases O:qm f.al x.args with
    |false=>
     rw[O] at gQ;refine ab ?_;refine cl qL ?_;refine dc ?_;refine ab ?_;refine gc gQ ?_;refine bI ?_;(iterate 3 refine z fun _ _=>?_);refine bV ?_;refine gc jr ?_;refine bj ?_;refine gc sj ?_;refine ab ?_;refine aa (iQ ?_);refine bI ?_;refine aJ ?_;refine aa ?_;exact me (r:={ x with kind:=0,name:=.empty,args:=[],a:=0,to:=0,aD:=[],others:= -1 }) (by simp[fy,h,cS,ib,Bool.and_assoc,eK,C,J,O]) ⟨rfl,rfl,rfl,rfl,trivial⟩ rfl rfl (fun m=>by repeat' (first|exact trivial|exact cz (Tr.s _)|exact cz (cC _)|exact cz (iN _)|exact mf|refine And.intro ?_ ?_))
    |true=>
     rw[O] at gQ;by_cases U:x.a= -1
     .have se:(x.a== -1)=true:=by simpa using U
      refine ab ?_;refine cl qL ?_;refine dc ?_;refine ab ?_;refine gc gQ ?_;refine bj ?_;refine WW ?_;refine bj ?_;(iterate 2 refine z fun _ _=>?_);refine Vm ?_;refine bV ?_;refine gc jr ?_;refine bj ?_;refine gc sj ?_;refine ab ?_;refine aa (iQ ?_);refine bI ?_;refine aJ ?_;refine aa ?_;exact me (r:={ x with kind:=0,name:=.empty,args:=[],a:=0,to:=0,aD:=[],others:= -1 }) (by simp[fy,h,cS,ib,Bool.and_assoc,eK,C,J,O,U]) ⟨rfl,rfl,rfl,rfl,trivial⟩ rfl rfl (fun m=>by repeat' (first|exact trivial|exact cz (Tr.s _)|exact cz (cC _)|exact cz (iN _)|exact mf|refine And.intro ?_ ?_))
     .have se:(x.a== -1)=false:=by simpa using U
      refine ab ?_;refine cl qL ?_;refine dc ?_;refine ab ?_;refine gc gQ ?_;refine bj ?_;refine WW ?_;refine bV ?_;refine FT ag4 rfl rfl rfl rfl (X rfl) ak ?_;refine Vl ?_;refine bV ?_;refine gc jr ?_;refine bj ?_;refine gc sj ?_;refine ab ?_;refine aa (iQ ?_);refine bI ?_;refine aJ ?_;refine aa ?_;exact me (r:={ x with kind:=0,name:=.empty,args:=[],a:=0,to:=0,aD:=[],others:= -1 }) (by simp[fy,h,cS,ib,Bool.and_assoc,eK,C,J,O,U,vR]) ⟨rfl,rfl,rfl,rfl,trivial⟩ rfl rfl (fun m=>by repeat' (first|exact trivial|exact cz (Tr.s _)|exact cz (cC _)|exact cz (iN _)|exact mf|refine And.intro ?_ ?_))
  have h6:¬ x.kind=6:=by simpa using h
  clear h;refine ws ?_;refine ab ?_;refine aa (aE rfl (fun h=>?_) fun h=>?_)
  .have h:x.kind=7:=by simpa using h
   refine ws ?_;refine ab ?_;refine cl qL ?_;refine dc ?_;refine ab ?_;refine gc gQ ?_;refine bV ?_;refine gc eY ?_;refine dV ?_;refine gc jr ?_;refine ab ?_;refine aa (iQ ?_);refine dc ?_;refine aa ?_;exact me (r:={ x with kind:=0,name:=.empty,args:=[],a:=0,to:=0 }) (by simp[fy,h,cS,ib,Bool.and_assoc,eK]) ⟨rfl,rfl,rfl,rfl,trivial⟩ rfl rfl (fun m=>by repeat' (first|exact trivial|exact cz (Tr.s _)|exact cz (cC _)|exact cz (iN _)|exact mf|refine And.intro ?_ ?_))
  have h7:¬ x.kind=7:=by simpa using h
  clear h;refine ws ?_;refine ab ?_;refine aa (aE rfl (fun h=>?_) fun h=>?_)
  .have h:x.kind=8:=by simpa using h
   refine ws ?_;have gQ:=gQ (l:=[x.b]);have Li:∀ {m:Mem},m 3=some (.cells [I x.b] 3)->jM prog [3] m [qB f,.rs 3 0 1] [qB f,az [x.b]]:=fun hm=>⟨cz (lK lv lx f),Cl hm oS (by rw[c3];rfl) (.cons (.s _) .nil),trivial⟩
   by_cases C:cQ f.al x.a=3
   .have se:(cQ f.al x.a==3)=true:=by simpa using C
    refine aJ ?_;refine cl eY ?_;refine dV ?_;refine FT gQ rfl rfl rfl rfl (Li rfl) ak ?_;refine bV ?_;refine gc jr ?_;refine bV ?_;refine gc jr ?_;refine bj ?_;refine gc sj ?_;refine ab ?_;refine aa (iQ ?_);refine bI ?_;refine aJ ?_;refine aa ?_;exact me (r:={ x with kind:=0,a:=0,b:=0,to:=0,gX:=0,aD:=[],others:= -1 }) (by simp[fy,h,cS,ib,Bool.and_assoc,eK,C,vR]) ⟨rfl,rfl,rfl,rfl,trivial⟩ rfl rfl (fun m=>by repeat' (first|exact trivial|exact cz (Tr.s _)|exact cz (cC _)|exact cz (iN _)|exact mf|refine And.intro ?_ ?_))
   .have se:(cQ f.al x.a==3)=false:=by simpa using C
    refine aJ ?_;refine cl eY ?_;refine bV ?_;(iterate 2 refine z fun _ _=>?_);refine bV ?_;refine gc jr ?_;refine bV ?_;refine gc jr ?_;refine bj ?_;refine gc sj ?_;refine ab ?_;refine aa (iQ ?_);refine bI ?_;refine aJ ?_;refine aa ?_;exact me (r:={ x with kind:=0,a:=0,b:=0,to:=0,gX:=0,aD:=[],others:= -1 }) (by simp[fy,h,cS,ib,Bool.and_assoc,eK,C]) ⟨rfl,rfl,rfl,rfl,trivial⟩ rfl rfl (fun m=>by repeat' (first|exact trivial|exact cz (Tr.s _)|exact cz (cC _)|exact cz (iN _)|exact mf|refine And.intro ?_ ?_))
  have h8:¬ x.kind=8:=by simpa using h
  clear h;refine ws ?_;refine ab ?_;refine aa (aE rfl (fun h=>?_) fun h=>?_)
  .have h:x.kind=9:=by simpa using h
   refine uJ YG ?_;refine jx ?_;refine gc eY ?_;refine bI ?_;refine gc jr ?_;refine dV ?_;refine cG cP ?_;exact me (r:={ x with kind:=0,a:=0,to:=0 }) (by simp[fy,h,cS,ib,Bool.and_assoc,eK]) ⟨rfl,rfl,rfl,rfl,trivial⟩ rfl rfl (fun m=>by repeat' (first|exact trivial|exact cz (Tr.s _)|exact cz (cC _)|exact cz (iN _)|exact mf|refine And.intro ?_ ?_))
  .have h9:¬ x.kind=9:=by simpa using h
   refine sU ?_;exact me (r:={ x with kind:=0 }) (by simp[fy,h1,h2,h3,h4,h5,h6,h7,h8,h9]) ⟨rfl,rfl,rfl,rfl,trivial⟩ rfl rfl (fun m=>by repeat' (first|exact trivial|exact cz (Tr.s _)|exact cz (cC _)|exact cz (iN _)|exact mf|refine And.intro ?_ ?_))
 .obtain⟨cells,n,hg,hl,hs⟩:=hs;refine⟨_,hg,ap ?_⟩;have wE:(cells.drop 0).take 15=cells:=by rw[List.drop_zero,dR oG]
  have MC:=MC (x:=(fy f x).2);have ag5:∀ {m:Mem},m 2=m 2->jM prog [2] m [.agg ((cells.drop 0).take 15)] [.agg (bE (fy f x).2)]:=fun {m} _=>⟨adT (by rw[wE];exact hs m),trivial⟩
  have he:mG f x=((fy f x).1&&vA (fy f x).2):=rfl;generalize (fy f x).1=ok at he;cases ok with
  |true=>
   refine ab ?_;refine ajg ?_;refine FT MC rfl rfl rfl rfl (ag5 rfl) ak ?_;refine ab ?_;refine aa (aN (d:=.s (.bool _)) rfl ?_);rw[he];simp
  |false=>
   refine ab ?_;(iterate 2 refine z fun _ _=>?_);refine ab ?_;refine aa (aN (d:=.s (.bool _)) rfl ?_);rw[he];simp
noncomputable abbrev US:=GU prog ids
noncomputable def No:Ctx:={ fH:=US }
theorem nF:oE prog No:=⟨mixed,(Rk Sk:Gl prog US),fun _ _ _ h=>oH,fun _ _ _ _ _ _ _ h=>oH⟩
theorem tM{n:Int}(hn: -1000000<=n/\n<=1000000):aG prog 220 [I n] (I (mr n)):=by
 refine bK aeX (by simp[Tr.s]) (Tr.s _) ?_;rw[aeY];refine ws ?_;refine SS ?_;refine er ?_;refine aJ ?_;exact aa (aN rfl rfl)
theorem BN{off:Nat}{vs cs:List D}(hv:vs.length=20)(hl:off+20<=cs.length)(ho:vs.all D.one=true):aB prog 201=true/\vs.length=prog.cellsOf 201/\off+prog.cellsOf 201<=cs.length/\vs.all D.one=true:=by
 rw[qJ];exact⟨t201,hv,hl,ho⟩
theorem kK{w:List Int}{m:Nat}(U:w.length=20)(hm:m<1280):aG prog 147 [fY w,I m] (B (nP w m)):=by
 have O:∀ a∈[fY w,I m],Tr a:=.cons (pQ _) (.cons (.s _) .nil);have hi:w[m / 64]? =some w[m / 64]:=bx oG;have hg:w.getD (m / 64) 0=w[m / 64]:=by simp[dN,hi]
 have C:=TB (m:=m) oG;have J:=TC m;have kd:=lI (f:=cA) hi;refine bK aeZ O (Tr.s _) ?_;rw[ae0];refine ws ?_;refine ab ?_;refine er ?_;refine SS ?_;refine au (Sl rfl rfl C) ak ⟨rfl,oG⟩ ?_;refine aJ ?_;refine au (Sm rfl rfl J) ak ⟨rfl,oG⟩ ?_;refine au (aef rfl rfl) ak oG ?_;refine au (SU rfl rfl) ak rfl ?_;refine ab ?_;refine aa (aN (d:=.s (.bool _)) rfl ?_);unfold nP;rw[hg];rfl
theorem pR{w:List Int}{n:Int}(X:w.length=20)(hn: -1000000<=n/\n<1280):aG prog 218 [fY w,I n] (fY (oI w n)):=by
 have U:∀ a∈[fY w,I n],Tr a:=.cons (pQ _) (.cons (.s _) .nil);refine bK ae1 U (pQ _) ?_;rw[ae2];refine ws ?_;refine ab ?_;refine aa (aX (ap ?_));by_cases h0:0<=n
 .obtain⟨m,rfl⟩:=gd h0;have hm:m<1280:=by omega
  have hi:w[m / 64]? =some w[m / 64]:=bx oG;have hg:w.getD (m / 64) 0=w[m / 64]:=by simp[dN,hi]
  have J:=TB (m:=m) oG;have O:=TC m;have kd:=lI (f:=cA) hi;have C:decide (0<=(m:Int))=true:=by simp
  refine SS ?_;refine au (So rfl rfl C) ak rfl ?_;refine aa (K9 (gZ Zt ?_));refine SS ?_;refine au (Sl rfl rfl J) ak ⟨rfl,oG⟩ ?_;refine aJ ?_;refine au (Sm rfl rfl O) ak ⟨rfl,oG⟩ ?_;refine au (aee rfl rfl) ak oG ?_;refine au (ahl rfl rfl) ak rfl ?_;refine ab ?_;refine cG cP (ap ?_);refine ab ?_;refine aa (lh (iM rfl rfl a201 qJ (mK (by first|rfl|simp;omega)) t201 oP) ?_);simp only[oI,h0,if_true,iv,Cm,hg,fY,List.map_set];rfl
 .have C:decide (0<=n)=false:=by simpa using h0
  refine SS ?_;refine au (So rfl rfl C) ak rfl ?_;refine aa (K8 (eF (ap ?_)));refine ab ?_;refine aa (lh (iM rfl rfl a201 qJ (mK oP) t201 oP) ?_);simp only[oI,h0,if_false]
theorem GW{w v:List Int}(O:w.length=20)(hv:v.length=20):aG prog 219 [fY w,fY v] (fY (lQ w v)):=by
 have X:∀ a∈[fY w,fY v],Tr a:=.cons (pQ _) (.cons (pQ _) .nil);refine bK ae3 X (pQ _) ?_;rw[ae4];refine ws ?_;refine aJ ?_;refine aa (aX (aI ?_));refine SS ?_
 refine aa (c6 (fun s=>aC prog s ⟨ay [(2,.rp 0 0),(3,.rp 1 0),(4,.rp 2 0)],cq [(0,.cells ((lQ w v).map cA) 201),(1,.cells (v.map cA) 201),(2,.cells (replicate 20 (cA 0)) 201)],3⟩) (cZ (α:=Nat)
  (fun k=>⟨ay [(2,.rp 0 0),(3,.rp 1 0),(4,.rp 2 0),(6,I k)],cq [(0,.cells ((gI w v k).map cA) 201),(1,.cells (v.map cA) 201),(2,.cells (replicate 20 (cA 0)) 201)],3⟩)
  (fun k=>k<=20) (fun k=>20 - k) 0 (bY eH eH) oG ?_) ?_)
 .intro k hk;refine SS ?_;refine aa ⟨_,rfl,fun h=>?_,fun h=>?_⟩
  .have ag:k<20:=by have h:(k:Int)<20:=by simpa using h
                    omega
   have C0:(gI w v k).length=20:=by simp[O]
   have hi:(gI w v k)[k]? =some (gI w v k)[k]:=bx oG;have hj:v[k]? =some v[k]:=bx oG;have hg:(gI w v k).getD k 0=(gI w v k)[k]:=by simp[dN,hi]
   have C:v.getD k 0=v[k]:=by simp[dN,hj]
   have kd:=lI (f:=cA) hi;have U:=lI (f:=cA) hj;refine ws ?_;refine ab ?_;refine aa (EM Zu ?_);refine bV ?_;refine au (fQ rfl rfl U V.h) ak (fR V.h V.h U) ?_;refine au (SU rfl rfl) ak rfl ?_;refine ab ?_;refine cG cP ?_;refine ab ?_;refine aa (bQ (k+1) (bY eH ⟨?_,rfl,rfl,trivial⟩) oG oG);rw[ai];simp only[gI,hg,C,List.map_set];rfl
  .have bC:¬ k<20:=by intro hh;simp at h;omega
   have:k=20:=by omega
   subst this;exact .forget _ _ _ _ fun t=>pz (l:=[(2,.rp 0 0),(3,.rp 1 0),(4,.rp 2 0)]) ⟨rfl,rfl,rfl,trivial⟩ t
 .intro s hg;have J:(lQ w v).length=20:=by simp[O]
  generalize lQ w v=u at hg J ⊢;refine⟨_,hg,ap ?_⟩;refine ab ?_;refine aa (lh (iM rfl rfl a201 qJ (mK oP) t201 oP) ?_);rfl
def UT:Int:=18446744073709551615
theorem Mh:aG prog 217 [] (fY (replicate 20 UT)):=by
 exact mu nF 100 (show tA prog No (jv prog No 100) 217 []=some (.inl (fY (replicate 20 UT))) by kernel_rfl) rfl
theorem CM{w:List Int}{x:bn}(C:w.length=20)(hn:x.op=18->0<=x.n/\x.n<80)(ht:x.op≠18-> -1000000<=gj x/\gj x<1280):aG prog 221 [fY w,.agg (bc x)] (fY (oI w (if x.op=18 then mr x.n else gj x))):=by
 have J:∀ a∈[fY w,.agg (bc x)],Tr a:=.cons (pQ _) (.cons (.agg (ky x)) .nil);refine bK ae5 J (pQ _) ?_;rw[ae6];refine ws ?_;refine aJ ?_;refine aa (aX (ap ?_));refine aJ ?_;refine aa (dP rfl (fun h=>?_) fun h=>eF (gZ Zv ?_))
 .have h:x.op=18:=by simpa using h
  have hx:=hn h;have tM:=tM (n:=x.n) oG;have pR:=pR (w:=w) (n:=mr x.n) C (by unfold mr;omega);refine aX (gZ Zw ?_);refine aJ ?_;refine cl tM ?_;refine cl pR ?_;refine SS ?_;refine cG cP (hZ (lh (iM rfl rfl a201 qJ (mK oP) t201 oP) ?_));simp[h]
 .have h:x.op≠18:=by simpa using h
  have Be:=Be (x:=x);have pR:=pR (w:=w) (n:=gj x) C (ht h);refine ab ?_;refine cl Be ?_;refine cl pR ?_;refine SS ?_;refine cG cP (lh (iM rfl rfl a201 qJ (mK oP) t201 oP) ?_);simp[h]
end Go.Proofs.Tryz.K
namespace Go.Argus
def mn(x:End):Bool:=decide (0<=x.others)&&aR [5,6,8] x.kind
def dW(x:End):List Int:=if aR [3,4] x.kind then [] else x.to::((if aR [2,8] x.kind then [x.gX] else [])++(x.aD.map (·.to)++(if mn x then [x.others] else [])))
def px(x:End):Nat:=if aR [2,8] x.kind then 2 else 1
theorem abd{x:End}(h:aR [3,4] x.kind=false):(dW x)[0]? =some x.to/\(aR [2,8] x.kind=true->(dW x)[1]? =some x.gX)/\(∀ (j:Nat) w,x.aD[j]? =some w->(dW x)[px x+j]? =some w.to)/\
 (mn x=true->(dW x)[px x+x.aD.length]? =some x.others)/\(dW x).length=px x+x.aD.length+(if mn x then 1 else 0):=by
 unfold dW px;generalize mn x=c;rw[if_neg (by simp[h])];cases h2:aR [2,8] x.kind with
 |true=>
  refine⟨rfl,fun _=>rfl,fun j w hj=>?_,fun hc=>?_,?_⟩
  .have:j<x.aD.length:=(bU.1 hj).1;simp only[if_true,List.singleton_append];rw[show 2+j=j+1+1 by omega,List.getElem?_cons_succ,List.getElem?_cons_succ,List.getElem?_append_left (by simpa using this)];simp[hj]
  .simp only[if_true,List.singleton_append];rw[show 2+x.aD.length=x.aD.length+1+1 by omega,List.getElem?_cons_succ,List.getElem?_cons_succ,List.getElem?_append_right oS];rw[if_pos hc];simp
  .cases c<;>simp<;>omega
 |false=>
  refine⟨rfl,fun h=>oH,fun j w hj=>?_,fun hc=>?_,?_⟩
  .have:j<x.aD.length:=(bU.1 hj).1;simp only[Bool.false_eq_true,if_false,List.nil_append];rw[show 1+j=j+1 by omega,List.getElem?_cons_succ,List.getElem?_append_left (by simpa using this)];simp[hj]
  .simp only[Bool.false_eq_true,if_false,List.nil_append];rw[show 1+x.aD.length=x.aD.length+1 by omega,List.getElem?_cons_succ,List.getElem?_append_right oS];rw[if_pos hc];simp
  .cases c<;>simp<;>omega
def Kt(x:End)(b:Int):Bool:=cS x.to b&&cS ((dW x).count b:Nat) 1
theorem JM(x:End):(dW x).length<=x.aD.length+3:=by
 unfold dW;split
 .simp
 .simp only[List.length_cons,List.length_append,List.length_map];split<;>split<;>simp<;>omega
end Go.Argus
namespace Go.Abs
theorem z7{P:Program}{Y:fm}{rf:Bool}{Q:Exit->St->Prop}{st:St}[dt Y]{ops:Array Oper}{i:Nat}(h:aj P Y ops false [] (eX (Q .normal)) ops.toList st []):AW P Y rf (.region i ops false) Q st:=lJ (rf:=rf) (id:=i) (aj.iY h fun _ h=>h)
section
variable{P:Program}{env:Env}{m:Mem}{nx:Nat}{x y:Operand}{t p:TypeId}{k:IntKind}{n n':Int}
theorem Sj(hx:(opd env x).core=.s (.int .i64 n))(hy:(opd env y).core=.s (.int .i64 n')){r:Int}(hd:n - n'=r/\ -9223372036854775808<=r/\r<=9223372036854775807):Ef P (.binOp .sub t x y p) env m nx ⟨IntKind.i64=IntKind.i64,.s (.int .i64 r),[],[],0⟩:=by
 obtain⟨rfl,h⟩:=hd;exact KO hx hy h
theorem nB{j i l:Nat}{e:TypeId}{r:Row}(hx:(opd env x).core=.rs j 0 l)(hy:(opd env y).core=.s (.int k (i:Int)))(hm:m j=some r)(he:aq P t=e)(hs:P.cellsOf e=1):
 Ef P (.indexAddr t x y) env m nx ⟨aW P t=true/\i<l,.rp j i,[],[j],0⟩:=by
 have h:=J1 (P:=P) (env:=env) (m:=m) (nx:=nx) (t:=t) hx hy hm he hs;have h1:0+((i:Int)).toNat*1=i:=by simp
 have h2:(aW P t=true/\(0:Int)<=(i:Int)/\(i:Int)<l)=(aW P t=true/\i<l):=by
  apply propext;constructor
  .rintro⟨a,_,b⟩;exact⟨a,oG⟩
  .rintro⟨a,b⟩;exact⟨a,oG,oG⟩
 rw[h1,h2] at h;exact h
theorem tG{α:Type}(f:Nat->α)(i:Nat)(a b:α):up (up f i a) i b=up f i b:=by
 funext j;simp only[up];split<;>rfl
variable{Y:fm}{rf:Bool}{Q:Exit->St->Prop}{st:St}{id ix i1 i3:Nat}{rc ri:Array Oper}{body:Code}{α:Type}{cf:List (Nat×Nat)}{u:Nat}
theorem adK[dt Y](hi:cb rc=some cf)(S:α->St)(J:α->Prop)(μ:α->Nat)(C:α)(hg:aC P st (S C))(U:J C)
 (h:∀ x,J x->aj P Y rc true cf (eX fun s=>∃ g,opd s.env (.tmp u)=.s (.bool g)/\(g=true->AW P Y rf body (mI ix id (fun s=>aj P Y ri false [] (eX (Am P S J μ x)) ri.toList s []) Q) s)/\(g=false->Q .normal s)) rc.toList (S x) []):
 ∃ st',aC P st st'/\AW P Y rf (.block id (.loop (.seq (.seq (.region i1 rc true) (.cond (.tmp u) .skip (.exit id))) (.seq (.block ix body) (.region i3 ri false))))) Q st':=by
 refine EF (Q:=gA id Q) S J μ C hg U (fun x hx=>?_) (a:=.skip) fun _ h=>h;refine aX (z6 (rf:=rf) (id:=i1) hi (aj.iY (h x hx) fun s hs=>?_));obtain⟨g,h1,h2,O⟩:=hs;refine⟨s,.refl s,dP h1 (fun X=>?_) fun yN=>?_⟩
 .exact eF (Jt (h2 X))
 .refine wS ?_;simp only[fW,gA,if_true];exact O yN
theorem sR{l:List (Nat×D)}{m':Mem}(h:lj l env)(hm:m=m'):aC P ⟨env,m,nx⟩ ⟨ay l,m',nx⟩:=hm▸ao h
end
end Go.Abs
namespace Go.Proofs.Tryz.K
theorem uo{x:Argus.End}:aG prog 90 [.agg (bE x)] (.fn (.func 171) [] [.pt (bE x)]):=by
 have C:∀ a∈[D.agg (bE x)],Tr a:=.cons (.agg (ql x)) .nil;refine bK aio C (.fn oS (.cons (.pt (ql x)) .nil)) ?_;rw[aip];refine aI ?_;refine SS ?_;refine au (ns (v:=.s .nilFunc) rfl) ak trivial ?_;refine aa (ca (dX [(0,bE x,48)] eH (l:=[(1,.pt (bE x))]) eH) (ap ?_));refine SS ?_;refine au (ns (v:=.fn _ _ _) rfl) ak trivial ?_;exact aa (aN rfl rfl)
def Nx(l:Nat)(x:Argus.End)(C:Nat->Mem->Nat->Prop)(n:Nat)(s:St):Prop:=∃ m nx,aC prog s ⟨ay [(0,.fn (.yield l) [] []),(1,.pt (bE x))],m,nx⟩/\C n m nx
theorem U3{x:Argus.End}(hlen:x.aD.length<=100000):yj prog 171 [] [.pt (bE x)] ((dW x).map fun n=>[I n]):=by
 refine adl mixed afp kr fun l X Stop m nx hI SY h0=>?_;rw[afq];by_cases O:aR [3,4] x.kind=true
 .have jJ:((dW x).map fun n=>[I n]).length=0:=by simp[dW,O]
  rw[jJ];by_cases J:x.kind=3
  .have se:(x.kind==3)=true:=by simpa using J
   refine aX (ap ?_);refine bj ?_;(iterate 3 refine z fun _ _=>?_);refine ab ?_;(iterate 5 refine z fun _ _=>?_);refine SS ?_;refine aa (dP rfl (fun h=>RP (cM (cw (xy (.inl h0))))) fun h=>oH)
  .have h4:x.kind=4:=by simpa[aR,J] using O
   have se:(x.kind==3)=false:=by simpa using J
   have Gv:(x.kind==4)=true:=by simpa using h4
   refine aX (ap ?_);refine bI ?_;(iterate 5 refine z fun _ _=>?_);refine SS ?_;refine aa (dP rfl (fun h=>RP (cM (cw (xy (.inl h0))))) fun h=>oH)
 have O:aR [3,4] x.kind=false:=by simpa using O
 obtain⟨x0,x1,xw,xo,xl⟩:=abd O;have C:∀ {k:Nat} {n:Int},(dW x)[k]? =some n->((dW x).map fun n=>[I n])[k]? =some [I n]:=fun h=>by simp[h]
 have xS:((dW x).map fun n=>[I n]).length=px x+x.aD.length+(if mn x then 1 else 0):=by simpa using xl
 have Wi:x.kind≠3/\x.kind≠4:=by simpa[aR] using O
 refine cL (Nx l x X 1) ?_ fun s hs=>?_
 .have se:(x.kind==3)=false:=by simpa using Wi.1
  have Gv:(x.kind==4)=false:=by simpa using Wi.2
  refine ws ?_;refine bI ?_;refine aJ ?_;refine K7 rfl rfl rfl rfl aO ⟨rfl,0,C x0,h0,fun d m' an hp=>?_⟩;rcases hp with⟨rfl,hp⟩|⟨rfl,hp⟩
  .refine ab ?_;exact aa (aE rfl (fun h=>oH) fun h=>bJ ⟨m',an,ao eH,hp⟩)
  .refine ab ?_;exact aa (aE rfl (fun h=>cM (cw (xy (.inr hp)))) fun h=>oH)
 obtain⟨m1,nx1,hg,h1⟩:=hs;refine⟨_,hg,?_⟩;clear hg h0;refine cL (Nx l x X (px x)) ?_ fun s hs=>?_
 .have U:aR [2,8] x.kind=true->(dW x)[1]? =some x.gX/\px x=2:=fun h=>⟨x1 h,by simp[px,h]⟩
  by_cases h2:x.kind=2
  .obtain⟨y1,y2⟩:=U (by rw[h2];rfl);have se:(x.kind==2)=true:=by simpa using h2
   refine ws ?_;refine bj ?_;(iterate 3 refine z fun _ _=>?_);refine bV ?_;refine K7 rfl rfl rfl rfl aO ⟨rfl,1,C y1,h1,fun d m' an hp=>?_⟩;rcases hp with⟨rfl,hp⟩|⟨rfl,hp⟩
   .refine ab ?_;exact aa (aE rfl (fun h=>oH) fun h=>bJ ⟨m',an,ao eH,y2▸hp⟩)
   .refine ab ?_;exact aa (aE rfl (fun h=>cM (cw (xy (.inr hp)))) fun h=>oH)
  .have se:(x.kind==2)=false:=by simpa using h2
   by_cases h8:x.kind=8
   .obtain⟨y1,y2⟩:=U (by rw[h8];rfl);have Gv:(x.kind==8)=true:=by simpa using h8
    refine ws ?_;refine bI ?_;refine aJ ?_;refine K7 rfl rfl rfl rfl aO ⟨rfl,1,C y1,h1,fun d m' an hp=>?_⟩;rcases hp with⟨rfl,hp⟩|⟨rfl,hp⟩
    .refine ab ?_;exact aa (aE rfl (fun h=>oH) fun h=>bJ ⟨m',an,ao eH,y2▸hp⟩)
    .refine ab ?_;exact aa (aE rfl (fun h=>cM (cw (xy (.inr hp)))) fun h=>oH)
   .have Gv:(x.kind==8)=false:=by simpa using h8
    have hb:px x=1:=by simp[px,aR,h2,h8]
    refine ws ?_;refine bI ?_;(iterate 5 refine z fun _ _=>?_);refine SS ?_;exact aa (aE rfl (fun h=>oH) fun h=>bJ ⟨m1,nx1,ao eH,hb▸h1⟩)
 obtain⟨m2,gT,hg,h2⟩:=hs;refine⟨_,hg,?_⟩;clear hg;refine cL (Nx l x X (px x+x.aD.length)) (aI ?_) fun s hs=>?_
 .refine bj ?_
  refine aa (cZ (α:=Nat×Mem×Nat) (fun k=>⟨ay [(0,.fn (.yield l) [] []),(1,.pt (bE x)),(36,jB x.aD),(37,I x.aD.length),(38,I k.1)],k.2.1,k.2.2⟩)
   (fun k=>k.1<=x.aD.length/\X (px x+k.1) k.2.1 k.2.2) (fun k=>x.aD.length - k.1) (0,m2,gT) (ao eH) ⟨oG,h2⟩ ?_)
  rintro⟨k,m3,Nh⟩ ⟨hk,Hj⟩;refine SS ?_;refine aa ⟨_,rfl,fun h=>?_,fun h=>?_⟩
  .have ag:k<x.aD.length:=by simpa using h
   have hx:x.aD[k]? =some x.aD[k]:=by simp[ag]
   generalize x.aD[k]=w at hx;refine ws ?_;refine bj ?_;refine er ?_;refine SS ?_;refine au (nt rfl (ai _ _ _) V.h) ak (lP V.h) ?_;refine au (fQ rfl (ai _ _ _) rfl V.h) ak (fR V.h V.h rfl) ?_;refine UP rfl rfl aO ⟨rfl,px x+k,C (xw k w hx),hI _ _ _ _ _ Hj oG (fun i hi=>ah oG (ah oG rfl)),fun d m' an hp=>?_⟩;rcases hp with⟨rfl,hp⟩|⟨rfl,hp⟩
   .refine SS ?_;refine aa (aE rfl (fun h=>oH) fun h=>ig ?_);refine ab ?_;exact aa (bQ (k+1,m',an) (ao eH) ⟨by simp only;omega,hp⟩ (by simp only;omega))
   .refine SS ?_;exact aa (aE rfl (fun h=>cM (fC (cw (xy (.inr hp))))) fun h=>oH)
  .have bC:¬ k<x.aD.length:=by simpa using h
   have:k=x.aD.length:=by simp only at hk;omega
   subst this;exact⟨m3,Nh,.forget _ _ _ _ fun t=>pz (l:=[(0,.fn (.yield l) [] []),(1,.pt (bE x))]) ⟨rfl,rfl,trivial⟩ t,Hj⟩
 obtain⟨m3,Nh,hg,J⟩:=hs;refine⟨_,hg,ap ?_⟩;refine bI ?_;refine bI ?_;refine aa (aE rfl (fun h=>?_) fun h=>?_)
 .have hc:mn x=true:=by
   revert h;unfold mn aR;simp[ib,or_assoc]
  refine z7 ?_;refine aJ ?_;refine UP rfl rfl aO ⟨rfl,_,C (xo hc),J,fun d m' an hp=>?_⟩;refine aa (xz ?_);rcases hp with⟨rfl,hp⟩|⟨rfl,hp⟩
  .left;rw[xS,if_pos hc];exact hp
  .exact .inr hp
 .have hc:mn x=false:=by
   revert h;unfold mn aR;simp[ib,and_assoc]
  refine ig (xz (.inl ?_));rw[xS,hc];exact J
theorem Mn{x:Argus.End}{b:Int}(hlen:x.aD.length<=1000):aG prog 222 [.agg (bE x),I b] (B (Kt x b)):=by
 have J:∀ a∈[D.agg (bE x),I b],Tr a:=.cons (.agg (ql x)) (.cons (.s _) .nil);have uo:=uo (x:=x);have hl:=JM x;refine bK afw J (Tr.s _) ?_;rw[afx];refine aI ?_;refine SS ?_;refine iE (FA (d:=.s (.int _ _)) rfl rfl) ak rfl ?_;refine SS ?_;refine aa (ca (dX [(0,bE x,48),(1,[I b],3)] eH (l:=[(2,.pt (bE x)),(3,.pt [I b])]) eH) (ap ?_));refine SS ?_;refine bD (di (d:=.s (.int _ _)) (cs':=[_]) rfl rfl rfl rfl rfl) ak (bN V.h V.h (by first|(simp;done)|exact⟨rfl,bf rfl⟩|(simp;omega)) rfl) ?_;refine aa ?_;refine cL (fun s=>∃ n',aC prog s ⟨ay [(2,.pt (bE x)),(3,.pt [I b]),(5,.rp 2 0)],cq [(2,.cells [I ((dW x).count b:Nat)] 3)],n'⟩) (ap ?_) fun s hs=>?_
 .refine SS ?_;refine cl uo ?_;refine aa (ot ?_);refine⟨rfl,trivial,171,[],[.pt (bE x)],(dW x).map (fun n=>[I n]),fun k m nx=>m 2=some (.cells [I (((dW x).take k).count b:Nat)] 3)/\3<=nx,rfl,U3 oG,?_,⟨rfl,oS⟩,?_,?_⟩
  .intro y hy;obtain⟨n,_,rfl⟩:=List.mem_map.1 hy;exact⟨rfl,.cons (.s _) .nil⟩
  .rintro k m nx y hy ⟨af,O⟩;simp only[List.getElem?_map,cN] at hy;obtain⟨n,hn,rfl⟩:=hy;have hk:k<(dW x).length:=(bU.1 hn).1
   have hc:((dW x).take (k+1)).count b=((dW x).take k).count b+(if n=b then 1 else 0):=by
    rw[List.take_add_one,hn,List.count_append];by_cases e:n=b
    .subst e;simp
    .simp[e]
   have C:((dW x).take k).count b<=k:=Nat.le_trans List.count_le_length oP;generalize ((dW x).take k).count b=c at af hc C;refine z7 ?_;refine SS ?_;refine aa (show AW _ _ _ _ _ _ from ot (ap ?_));refine aJ ?_;refine aa (aE rfl (fun h=>?_) fun h=>?_)
   .have h:n=b:=by simpa using h
    refine z7 ?_;refine ab ?_;refine bD (di (d:=.s (.int _ _)) (cs':=[_]) rfl rfl af rfl rfl) ak (bN V.h V.h (by first|(simp;done)|exact⟨rfl,bf rfl⟩|(simp;omega)) rfl) ?_;refine aa ?_;refine⟨?_,oM⟩;dsimp only;refine(ai _ _ _).trans ?_;rw[hc,if_pos h];simp
   .have h:¬ n=b:=by simpa using h
    exact ig ⟨by rw[hc,if_neg h];exact af,O⟩
  .rintro m nx ⟨h1,h2⟩;refine⟨nx,bY eH ⟨?_,trivial⟩⟩;rw[h1,List.length_map,List.take_length]
 obtain⟨n',hg⟩:=hs;refine⟨_,hg,ap ?_⟩;refine bI ?_;refine aa (aN (d:=.s (.bool _)) rfl ?_);simp[Kt,cS,ib]
theorem Mo{f:FuncId}{cs:List D}{xs:List Int}(hs:yj prog f [] cs (xs.map fun n=>[I n]))(ht:Tr (.fn (.func f) [] cs))(hlen:xs.length<=100000):gC prog 297 [.z,.fn (.func f) [] cs] (xs.map I) xs.length 3:=by
 have bg:∀ a∈[D.z,.fn (.func f) [] cs],Tr a:=.cons .z (.cons ht .nil);refine sF afy bg (.map fun _=>.s _) ?_;rw[afz];refine ws ?_;refine iE (FA (d:=.z) rfl rfl) ak rfl ?_;refine SS ?_;refine aa ?_;refine cL (fun s=>(xs=[]/\∃ n',aC prog s ⟨ay [(2,.rp 0 0)],cq [(0,.cells [.z] 35)],n'⟩)\/∃ r n',0<r/\aC prog s ⟨ay [(2,.rp 0 0)],cq [(0,.cells [.rs r 0 xs.length] 35),(r,.cells (xs.map I) 3)],n'⟩) (ap ?_) fun s hs=>?_
 .refine SS ?_;refine aa (ot ?_);refine⟨rfl,trivial,f,[],cs,xs.map (fun n=>[I n]),fun k m nx=>1<=nx/\((k=0/\m 0=some (.cells [.z] 35))\/(0<k/\∃ r,0<r/\r<nx/\m 0=some (.cells [.rs r 0 k] 35)/\m r=some (.cells ((xs.take k).map I) 3))),rfl,hs,?_,⟨oS,.inl ⟨rfl,rfl⟩⟩,?_,?_⟩
  .intro y hy;obtain⟨n,_,rfl⟩:=List.mem_map.1 hy;exact⟨rfl,.cons (.s _) .nil⟩
  .rintro k m nx y hy ⟨dG,C⟩;simp only[List.getElem?_map,cN] at hy;obtain⟨n,hn,rfl⟩:=hy;have hk:k<xs.length:=(bU.1 hn).1
   have O:(xs.take (k+1)).map I=(xs.take k).map I++[I n]:=by
    rw[List.take_add_one,hn];simp
   refine z7 ?_;refine SS ?_;refine aa (show AW _ _ _ _ _ _ from ot (z7 ?_));rcases C with⟨rfl,af⟩|⟨X,r,U,J,af,bM⟩
   .refine aJ ?_;refine U' ?_;refine bD (di (d:=.rs _ _ _) (cs':=[_]) rfl rfl (ah oG (ah oG af)) rfl rfl) ak (bN V.h V.h (by first|(simp;done)|exact⟨rfl,bf rfl⟩|(simp;omega)) rfl) ?_;refine aa ?_;refine⟨oM,.inr ⟨oG,nx+1,oG,oM,?_,?_⟩⟩
    .dsimp only;exact(ai _ _ _).trans rfl
    .dsimp only;exact(ah oG (ai _ _ _)).trans (by rw[O];rfl)
   .have kX:((xs.take k).map I).length=k:=by simp;omega
    refine aJ ?_;refine Va ?_;refine bD (di (d:=.rs _ _ _) (cs':=[_]) rfl rfl (ah oG (ah oG (ah oG af))) rfl rfl) ak (bN V.h V.h (by first|(simp;done)|exact⟨rfl,bf rfl⟩|(simp;omega)) rfl) ?_;refine aa ?_;refine⟨oM,.inr ⟨oG,nx+1,oG,oM,?_,?_⟩⟩
    .dsimp only;exact(ai _ _ _).trans rfl
    .dsimp only;exact(ah oG (ai _ _ _)).trans (by rw[O];rfl)
  .rintro m nx ⟨dG,C⟩;rw[List.length_map] at C;rcases C with⟨h0,af⟩|⟨X,r,U,J,af,bM⟩
   .exact .inl ⟨List.length_eq_zero_iff.1 h0,nx,bY eH ⟨af,trivial⟩⟩
   .refine .inr ⟨r,nx,U,bY eH ⟨af,?_,trivial⟩⟩;rw[bM,List.take_length]
 rcases hs with⟨rfl,n',hg⟩|⟨r,n',hr,hg⟩
 .refine⟨_,hg,aI ?_⟩;refine ab ?_;refine aa ⟨_,.mE _ _ _ 4 3 rfl,aN rfl ⟨n',?_,ai _ _ _⟩⟩;rfl
 .refine⟨_,hg,ap ?_⟩;refine ab ?_;refine aa (aN rfl ⟨r,rfl,?_⟩);simp[cq];omega
theorem Mp{f:FuncId}{cs:List D}{xs:List Int}(hs:yj prog f [] cs (xs.map fun n=>[I n]))(ht:Tr (.fn (.func f) [] cs))(hlen:xs.length<=100000):gC prog 247 [.fn (.func f) [] cs] (xs.map I) xs.length 3:=by
 have C:∀ a∈[.fn (.func f) [] cs],Tr a:=.cons ht .nil;refine sF afA C (.map fun _=>.s _) ?_;rw[afB];have Mo:=Mo hs ht hlen;refine ws ?_;refine SS ?_;refine er ?_;refine SS ?_;refine rP Mo rfl aO ?_;refine SS ?_;exact aa (aN rfl ⟨0,rfl,rfl⟩)
end Go.Proofs.Tryz.K
namespace Go.Argus
def swapAt(l:List Int)(j:Nat):List Int:=(l.set (j+1) (l.getD j 0)).set j (l.getD (j+1) 0)
def nR(l:List Int):Nat->List Int
 |0=>l
 |j+1=>if l.getD (j+1) 0<l.getD j 0 then nR (swapAt l j) j else l
def lS(l:List Int):Nat->List Int
 |0=>l
 |k+1=>nR (lS l k) (k+1)
def mN(l:List Int):List Int:=lS l (l.length - 1)
@[simp] theorem alS (l : List Int) (j : Nat) : (swapAt l j).length = l.length := by simp [swapAt]
@[simp] theorem abn : ∀ (j : Nat) (l : List Int), (nR l j).length = l.length
 |0,l=>rfl
 |j+1,l=>by simp only[nR];split<;>simp[abn j]
@[simp] theorem Px (l : List Int) : ∀ k, (lS l k).length = l.length
 |0=>rfl
 |k+1=>by simp[lS,Px l k]
@[simp] theorem Py (l : List Int) : (mN l).length = l.length := Px l _
def fe(d:List Int):Nat->List Int
 |0=>[]
 |t+1=>fe d t++(if t≠0/\d.getD t 0=d.getD (t - 1) 0 then [] else [d.getD t 0])
def my(d:List Int):List Int:=fe d d.length
theorem Rv{d:List Int}{x:Int}:∀ {t:Nat},t<=d.length->(x∈fe d t↔x∈d.take t)
 |0,_=>by simp[fe]
 |t+1,ht=>by
  have ih:=Rv (d:=d) (x:=x) (t:=t) oG;have hg:d.getD t 0=d[t]:=by simp[dN,bx (show t<d.length by omega)]
  rw[fe,List.mem_append,ih,List.take_succ_eq_append_getElem oG,List.mem_append];split
  .rename_i h;have h1:d[t - 1]? =some d[t - 1]:=bx oG
   have C:d[t]∈d.take t:=by
    rw[<- hg,h.2];have:d.getD (t - 1) 0=d[t - 1]:=by simp[dN,h1]
    rw[this];exact cX (i:=t - 1) (by rw[List.getElem?_take,if_pos oG,h1])
   constructor
   .rintro(h|h)
    .exact .inl h
    .simp at h
   .rintro(h|h)
    .exact .inl h
    .simp at h;subst h;exact .inl C
  .rw[hg]
theorem Rw{d:List Int}:∀ t,(fe d t).length<=t
 |0=>by simp[fe]
 |t+1=>by
  have:=Rw (d:=d) t;rw[fe,List.length_append];split<;>simp<;>omega
theorem Sy{d:List Int}{t:Nat}(ht:t<d.length)(h0:t≠0)(h:d.getD t 0=d.getD (t - 1) 0):fe d (t+1)=fe d t:=by
 rw[fe,if_pos ⟨h0,h⟩,List.append_nil]
theorem Sz{d:List Int}{t:Nat}(h:d.getD t 0≠d.getD (t - 1) 0):fe d (t+1)=fe d t++[d.getD t 0]:=by
 rw[fe,if_neg fun hh=>h hh.2]
end Go.Argus
namespace Go.Proofs.Tryz.K
theorem aiI{a:Int}:aG prog 351 [I a] (B false):=by
 refine bK afV (by simp[Tr.s]) (Tr.s _) ?_;rw[afW];refine ws ?_;refine SS ?_;refine er ?_;refine bj ?_;refine aa (aN (d:=.s (.bool _)) rfl ?_);simp[bne]
theorem aiJ{a b:Int}:aG prog 330 [I a,I b] (B (decide (a<b))):=by
 refine bK afX (by simp[Tr.s]) (Tr.s _) ?_;rw[afY];refine ws ?_;refine SS ?_;refine er ?_;refine SS ?_;refine cl aiI ?_;refine SS ?_;(iterate 3 refine z fun _ _=>?_);refine jx ?_;exact aa (aN (d:=.s (.bool _)) rfl rfl)
theorem aiK{m:Mem}{nx i n:Nat}{l:List Int}(hi:i<nx)(hm:m i=some (.cells (l.map I) 3))(hl:l.length=n)(hn:n<=12):
 dB prog 324 [.rs i 0 n,I 0,I n] m nx (fun r m' an=>r=.aT []/\an=nx/\m'=up m i (some (.cells ((mN l).map I) 3))):=by
 refine lF afZ ?_;rw[af0]
 have U:up m i (some (.cells (l.map I) 3))=m:=by
  funext j;simp only[up];split
  .rename_i e;rw[e,hm]
  .rfl
 refine aI ?_;refine aJ ?_;refine aa (rN (α:=Nat) (fun k=>⟨ay [(0,.rs i 0 n),(1,I 0),(2,I n),(6,I (k+1:Nat))],up m i (some (.cells ((lS l k).map I) 3)),nx⟩) (fun k=>k<=n - 1) (fun k=>n - k) 0 (sR eH U.symm) oG ?_);intro k hk;refine aJ ?_;refine aa ⟨_,rfl,fun h=>?_,fun h=>?_⟩
 .have ag:k+1<n:=by have:((k+1:Nat):Int)<n:=by simpa using h
                    omega
  refine aI ?_;refine ab ?_;refine aa (adK ZJ (α:=List Int×Nat) (fun s=>⟨ay [(0,.rs i 0 n),(1,I 0),(2,I n),(6,I (k+1:Nat)),(7,I s.2)],up m i (some (.cells (s.1.map I) 3)),nx⟩) (fun s=>s.1.length=n/\s.2<=k+1/\nR s.1 s.2=lS l (k+1)) (fun s=>s.2) (lS l k,k+1) (ao eH) ⟨by simp[hl],oS,rfl⟩ ?_);rintro⟨d,j⟩ ⟨hd,hj,hs⟩;simp only at hd hj hs;cases j with
  |zero=>
   have CQ:decide ((0:Int)<((0:Nat):Int))=false:=rfl;refine ab ?_;refine Vk ?_;refine SS ?_;(iterate 10 refine z fun _ _=>?_);refine SS ?_;refine cG cP ⟨_,rfl,fun h=>oH,fun h=>?_⟩;have hs:d=lS l (k+1):=hs;subst hs;show aj _ _ _ _ _ _ _ _ _;refine aJ ?_;exact aa (bQ (k+1) (ao eH) oG oG)
  |succ j=>
   have ha:d[j+1]? =some d[j+1]:=bx oG;have hb:d[j]? =some d[j]:=bx oG;have J:d.getD (j+1) 0=d[j+1]:=by simp[dN,ha]
   have O:d.getD j 0=d[j]:=by simp[dN,hb]
   have kd:=lI (f:=I) ha;have C:=lI (f:=I) hb;generalize X:d[j+1]=a at ha J kd;generalize hB:d[j]=b at hb O C;clear X hB;have CQ:decide ((0:Int)<((j+1:Nat):Int))=true:=by simp
   have AL:((j+1:Nat):Int) - 1=(j:Int)/\ -9223372036854775808<=(j:Int)/\(j:Int)<=9223372036854775807:=by omega
   refine ab ?_;refine Vk ?_;refine aJ ?_;refine bS rfl rfl (nB rfl rfl (ai _ _ _) V.h V.h) (fun hc=>⟨ak,⟨V.h,oG⟩⟩) ?_;refine bS rfl rfl (fQ rfl (ai _ _ _) kd V.h) (fun hc=>⟨ak,(fR V.h V.h kd)⟩) ?_;refine ab ?_;refine aiL ?_;refine bS rfl rfl (nB rfl rfl (ai _ _ _) V.h V.h) (fun hc=>⟨ak,⟨V.h,oG⟩⟩) ?_;refine bS rfl rfl (fQ rfl (ai _ _ _) C V.h) (fun hc=>⟨ak,(fR V.h V.h C)⟩) ?_;refine gc aiJ ?_;refine SS ?_;refine cG cP ⟨_,rfl,fun h=>?_,fun h=>?_⟩
   .have h:a<b:=by simpa using h
    refine EM ZK ?_;refine bI ?_;refine au (fQ rfl (ai _ _ _) C V.h) ak (fR V.h V.h C) ?_;refine dc ?_;refine cG cP ?_;refine aJ ?_;refine aa (bQ (swapAt d j,j) (sR eH ?_) ⟨by simp[hd],by simp only;omega,?_⟩ (by simp only;omega))
    .rw[tG,tG];simp only[swapAt,J,O,List.map_set]
    .rw[<- hs];simp only[nR,J,O,if_pos h]
   .have h:¬ a<b:=by simpa using h
    have hs:d=lS l (k+1):=by rw[<- hs];simp only[nR,J,O,if_neg h]
    subst hs;show aj _ _ _ _ _ _ _ _ _;refine aJ ?_;exact aa (bQ (k+1) (ao eH) oG oG)
 .have bC:¬ k+1<n:=by have h:¬ ((k+1:Nat):Int)<n:=by simpa using h
                      omega
  refine xz ⟨rfl,rfl,?_⟩;have:k=n - 1:=by omega
  subst this;simp only[mN,hl]
theorem aiM{m:Mem}{nx i n:Nat}{l:List Int}{qZ:Int}(hi:i<nx)(hm:m i=some (.cells (l.map I) 3))(hl:l.length=n)(hn:n<=12):
 dB prog 298 [.rs i 0 n,I 0,I n,I qZ] m nx (fun r m' an=>r=.aT []/\an=nx/\m'=up m i (some (.cells ((mN l).map I) 3))):=by
 refine lF af1 ?_;rw[af2];refine ws ?_;refine SS ?_;refine aa (aI ?_);refine SS ?_;refine aa ⟨_,ao (l:=[(0,.rs i 0 n),(1,I 0),(2,I n)]) eH,ot (QR (fun s=>s=⟨ay [(0,.rs i 0 n),(1,I 0),(2,I n)],m,nx⟩) (fun _=>0) rfl fun s hs=>?_)⟩;subst hs;refine ot (ap ?_);refine bj ?_;refine aa (aX (ap ?_));refine SS ?_;refine au (Gc rfl rfl) ak rfl ?_;refine aa (dP rfl (fun h=>?_) fun h=>?_)
 .refine aX (ap ?_);refine aJ ?_;refine fU (aiK hi hm hl hn) rfl aO fun r m' an hp=>?_;obtain⟨rfl,rfl,rfl⟩:=hp;exact aa (hZ (gi (cw (gi (xy ⟨rfl,rfl,rfl⟩)))))
 .have:¬ ((n:Int) - 0<=12):=by simpa using h
  omega
theorem Mv{n:Nat}(hn:n<=12):∃ r,aG prog 189 [.s (.int .u64 (IntKind.u64.wrap (n:Int)))] (I r):=by
 match n,hn with
 |0,_=>exact⟨0,mu nF 100 kr rfl⟩
 |1,_=>exact⟨1,mu nF 100 kr rfl⟩
 |2,_=>exact⟨2,mu nF 100 kr rfl⟩
 |3,_=>exact⟨2,mu nF 100 kr rfl⟩
 |4,_=>exact⟨3,mu nF 100 kr rfl⟩
 |5,_=>exact⟨3,mu nF 100 kr rfl⟩
 |6,_=>exact⟨3,mu nF 100 kr rfl⟩
 |7,_=>exact⟨3,mu nF 100 kr rfl⟩
 |8,_=>exact⟨4,mu nF 100 kr rfl⟩
 |9,_=>exact⟨4,mu nF 100 kr rfl⟩
 |10,_=>exact⟨4,mu nF 100 kr rfl⟩
 |11,_=>exact⟨4,mu nF 100 kr rfl⟩
 |12,_=>exact⟨4,mu nF 100 kr rfl⟩
theorem aiN{m:Mem}{nx i n:Nat}{l:List Int}(hi:i<nx)(hm:m i=some (.cells (l.map I) 3))(hl:l.length=n)(hn:n<=12):
 dB prog 248 [.rs i 0 n] m nx (fun r m' an=>r=.aT []/\an=nx/\m'=up m i (some (.cells ((mN l).map I) 3))):=by
 refine lF af3 ?_;rw[af4];obtain⟨qZ,Mv⟩:=Mv hn;have af:=hm;refine ws ?_;refine aJ ?_;refine aa (z7 ?_);refine bj ?_;refine cl Mv ?_;refine fU (aiM hi hm hl hn) rfl aO fun r m' an hp=>?_;obtain⟨rfl,rfl,rfl⟩:=hp;exact aa (xz ⟨rfl,rfl,rfl⟩)
end Go.Proofs.Tryz.K
namespace Go.Abs
section
variable{P:Program}{env:Env}{m:Mem}{nx:Nat}{x y:Operand}{t p:TypeId}{k:IntKind}{n n':Int}
theorem acB{j i l off:Nat}{e:TypeId}{r:Row}(hx:(opd env x).core=.rs j off l)(hy:(opd env y).core=.s (.int k (i:Int)))(hm:m j=some r)(he:aq P t=e)(hs:P.cellsOf e=1):
 Ef P (.indexAddr t x y) env m nx ⟨aW P t=true/\i<l,.rp j (off+i),[],[j],0⟩:=by
 have h:=J1 (P:=P) (env:=env) (m:=m) (nx:=nx) (t:=t) hx hy hm he hs;have h1:off+((i:Int)).toNat*1=off+i:=by simp
 have h2:(aW P t=true/\(0:Int)<=(i:Int)/\(i:Int)<l)=(aW P t=true/\i<l):=by
  apply propext;constructor
  .rintro⟨a,_,b⟩;exact⟨a,oG⟩
  .rintro⟨a,b⟩;exact⟨a,oG,oG⟩
 rw[h1,h2] at h;exact h
theorem Pz{i l a:Nat}{cs:List D}{e:TypeId}(hx:(opd env x).core=.rs i 0 l)(hm:m i=some (.cells cs e))(he:aq P t=e)(hs:P.cellsOf e=1)(ha:(opd env y).core=.s (.int .i64 (a:Int))):
 Ef P (.slice t x (some y) none none) env m nx ⟨aW P t=true/\a<=l,.rs i a (l - a),[],[i],0⟩:=by
 have h:=PY (P:=P) (env:=env) (m:=m) (nx:=nx) (t:=t) (lo:=some y) (hi:=none) (a:=(a:Int)) (b:=(l:Int)) hx hm he hs (by simp[eg,ha,D.int?]) (by simp[eg]);have h1:0+((a:Int)).toNat*1=a:=by simp
 have C:((l:Int) - (a:Int)).toNat=l - a:=by omega
 have h2:((aW P t=true/\1=1)/\(0:Int)<=(a:Int)/\(a:Int)<=(l:Int)/\(l:Int)<=(l:Int))=(aW P t=true/\a<=l):=by
  apply propext;constructor
  .rintro⟨⟨a,_⟩,_,b,_⟩;exact⟨a,oG⟩
  .rintro⟨a,b⟩;exact⟨⟨a,rfl⟩,oG,oG,oG⟩
 rw[h1,h2,C] at h;exact h
theorem ZL{i l b:Nat}{cs:List D}{e:TypeId}(hx:(opd env x).core=.rs i 0 l)(hm:m i=some (.cells cs e))(he:aq P t=e)(hs:P.cellsOf e=1)(hb:(opd env y).core=.s (.int .i64 (b:Int))):
 Ef P (.slice t x none (some y) none) env m nx ⟨aW P t=true/\b<=l,.rs i 0 b,[],[i],0⟩:=by
 have h:=PY (P:=P) (env:=env) (m:=m) (nx:=nx) (t:=t) (lo:=none) (hi:=some y) (a:=0) (b:=(b:Int)) hx hm he hs (by simp[eg]) (by simp[eg,hb,D.int?]);have h1:0+((0:Int)).toNat*1=0:=by simp
 have C:((b:Int) - 0).toNat=b:=by omega
 have h2:((aW P t=true/\1=1)/\(0:Int)<=0/\(0:Int)<=(b:Int)/\(b:Int)<=(l:Int))=(aW P t=true/\b<=l):=by
  apply propext;constructor
  .rintro⟨⟨a,_⟩,_,_,b⟩;exact⟨a,oG⟩
  .rintro⟨a,b⟩;exact⟨⟨a,rfl⟩,oG,oG,oG⟩
 rw[h1,h2,C] at h;exact h
theorem acP{i off l:Nat}{cs z:List D}{e:TypeId}(hx:(opd env x).core=.rs i off l)(hm:m i=some (.cells cs e))(he:aq P t=e)(hz:aV P e=z):
 Ef P (.call { callee:=.builtin .clear,args:= #[x],argTypes:= #[t] }) env m nx ⟨aW P t=true/\off+l*P.cellsOf e<=cs.length/\e=e,.aT [],[(i,some (.cells (dL cs off (dq l z)) e))],[i],0⟩:=by
 refine xM («aS»:=[.rs i off l]) rfl (by simp[hx]) ?_;simp only[dS,hm,hz,Array.getD_eq_getD_getElem?,List.getElem?_toArray,List.getElem?_cons_zero,Option.getD_some,he]
theorem Yw{cs:List D}{n k:Nat}{x:D}(hn:cs.length=n)(hk:k<=n):dL cs k (dq (n - k) [x])=cs.take k++replicate (n - k) x:=by
 have hr:dq (n - k) [x]=replicate (n - k) x:=by
  unfold dq;generalize n - k=j
  induction j with
  |zero=>rfl
  |succ j ih=>simp[List.replicate_succ,ih]
 rw[hr];unfold dL;split
 .rename_i y e;have h1:n - k=1:=by have:=congrArg List.length e;simpa using this
  rw[h1] at e ⊢;simp at e;subst e;rw[List.set_eq_take_append_cons_drop,if_pos oG,List.drop_eq_nil_of_le oG];rfl
 .rw[List.length_replicate,List.drop_eq_nil_of_le oG,List.append_nil]
end
end Go.Abs
namespace Go.Proofs.Tryz.K
def Cp(d:List Int)(n:Nat):List D:=(my d).map I++replicate (n - (my d).length) (I 0)
def Rx(d:List Int)(n:Nat)(m:Mem)(nx i:Nat)(r:D)(m':Mem)(an:Nat):Prop:=an=nx/\r=.rs i 0 (my d).length/\m'=up m i (some (.cells (Cp d n) 3))
def adL(d:List Int)(m:Mem)(nx i:Nat)(r:D)(m':Mem)(an:Nat):Prop:=an=nx/\r=.rs i 0 (my d).length/\∃ c,m'=up m i (some (.cells c 3))/\c.take (my d).length=(my d).map I
theorem af5{m:Mem}{nx i n:Nat}{d:List Int}(hi:i<nx)(hm:m i=some (.cells (d.map I) 3))(hl:d.length=n)(hn:n<=100000):dB prog 169 [.rs i 0 n] m nx (Rx d n m nx i):=by
 refine lF af6 ?_;rw[af7];have af:=hm
 have O:up m i (some (.cells (d.map I) 3))=m:=by
  funext j;simp only[up];split
  .rename_i e;rw[e,hm]
  .rfl
 have whole:fe d n=d->Rx d n m nx i (.rs i 0 n) m nx:=fun h=>by
  have h:my d=d:=by unfold my;rw[hl];exact h
  refine⟨rfl,by rw[h,hl],?_⟩;rw[Cp,h,hl,Nat.sub_self,List.replicate_zero,List.append_nil,O]
 refine ws ?_;refine SS ?_;refine aa (aX (ap ?_));refine aJ ?_;refine aa (dP rfl (fun h=>?_) fun h=>eF (aX (aI ?_)))
 .have h:n<2:=by have h:(n:Int)<2:=by simpa using h
                 omega
  refine aX (ap ?_);refine ab ?_;refine aa (hZ (aN rfl (whole ?_)))
  match d,n,hl,h with
  |[],_,rfl,_=>rfl
  |[a],_,rfl,_=>rfl
 have h2:2<=n:=by have h:¬ (n:Int)<2:=by simpa using h
                  omega
 refine SS ?_;refine aa (c6 (fun s=>aC prog s ⟨ay [(0,.rs i 0 n)],m,nx⟩/\fe d n=d) (rN (α:=Nat) (fun k=>⟨ay [(0,.rs i 0 n),(3,I k)],m,nx⟩) (fun k=>1<=k/\k<=n/\fe d k=d.take k) (fun k=>n - k) 1 (ao eH) ⟨oG,oG,?_⟩ ?_) ?_)
 .match d,hl with
  |a::t,_=>rfl
  |[],hl=>simp at hl;omega
 .rintro k ⟨pd,hk,J⟩;refine bj ?_;refine aa ⟨_,rfl,fun h=>?_,fun h=>?_⟩
  .have ag:k<n:=by have h:(k:Int)<n:=by simpa using h
                   omega
   obtain⟨j,rfl⟩:∃ j,k=j+1:=⟨k - 1,oG⟩
   have ha:d[j+1]? =some d[j+1]:=bx oG;have hb:d[j]? =some d[j]:=bx oG;have ga:d.getD (j+1) 0=d[j+1]:=by simp[dN,ha]
   have gb:d.getD j 0=d[j]:=by simp[dN,hb]
   have kd:=lI (f:=I) ha;have C:=lI (f:=I) hb;have AL:((j+1:Nat):Int) - 1=(j:Int)/\ -9223372036854775808<=(j:Int)/\(j:Int)<=9223372036854775807:=by omega
   refine gZ ZM ?_;refine dc ?_;refine au (fQ rfl af C V.h) ak (fR V.h V.h C) ?_;refine SS ?_;refine cG cP (aE rfl (fun h=>?_) fun h=>?_)
   .have fj:d[j+1]=d[j]:=by simpa using h
    refine ws ?_;refine ab ?_;refine au (Pz rfl af V.h V.h rfl) ak ⟨V.h,oG⟩ ?_;refine SS ?_;refine aa (aX (aI ?_));refine SS ?_;have aiO:fe d (j+1+1)=fe d (j+1):=Sy oG oG (by rw[ga,show j+1 - 1=j by omega,gb];exact fj);have A2:(fe d (j+1)).length=j+1:=by rw[J];simp;omega
    clear kd C AL
    refine aa (c6 (fun s=>∃ (c:List Int) (k:Nat),aC prog s ⟨ay [(0,.rs i 0 n),(3,I (k:Nat))],up m i (some (.cells (c.map I) 3)),nx⟩/\c.length=n/\k<=n/\c.take k=fe d n) (rN (α:=List Int×Nat×Nat) (fun s=>⟨ay [(0,.rs i 0 n),(3,I s.2.1),(4,.rs i (j+1) (n - (j+1))),(5,I (s.2.2+1:Nat))],up m i (some (.cells (s.1.map I) 3)),nx⟩)
     (fun s=>s.1.length=n/\j+1+(s.2.2+1)<=n/\s.2.1<=j+1+s.2.2/\s.1.take s.2.1=fe d (j+1+(s.2.2+1))/\∀ p,j+1+s.2.2<=p->s.1[p]? =d[p]?) (fun s=>n - s.2.2) (d,j+1,0) (sR eH O.symm) ⟨hl,by simp only;omega,by simp only;omega,?_,fun _ _=>rfl⟩ ?_) ?_)
    .show d.take (j+1)=fe d (j+1+1);rw[aiO,J]
    .rintro⟨c,k,q⟩ ⟨w1,w2,w3,X,U⟩;simp only at w1 w2 w3 X U;dsimp only;refine ab ?_;refine au (zX rfl (ai _ _ _)) ak V.h ?_;refine SS ?_;refine aa ⟨_,rfl,fun h=>?_,fun h=>?_⟩
     .have ag:q+1<n - (j+1):=by have h:((q+1:Nat):Int)<((n - (j+1):Nat):Int):=by simpa using h
                                omega
      have xa:c[j+1+(q+1)]? =some c[j+1+(q+1)]:=bx oG;have xb:c[j+1+q]? =some c[j+1+q]:=bx oG;have ya:d.getD (j+1+(q+1)) 0=c[j+1+(q+1)]:=by rw[dN, <- U _ oG,xa];rfl
      have yb:d.getD (j+1+q) 0=c[j+1+q]:=by rw[dN, <- U _ oG,xb];rfl
      have kd:=lI (f:=I) xa;have C:=lI (f:=I) xb;generalize hA:c[j+1+(q+1)]=a at xa ya kd;generalize hB:c[j+1+q]=b at xb yb C;clear hA hB;have AL:((q+1:Nat):Int) - 1=(q:Int)/\ -9223372036854775808<=(q:Int)/\(q:Int)<=9223372036854775807:=by omega
      refine gZ Yx ?_;refine dc ?_;refine au (fQ rfl (ai _ _ _) C V.h) ak (fR V.h V.h C) ?_;refine SS ?_;refine cG cP (aE rfl (fun h=>?_) fun h=>?_)
      .have a8:a≠b:=by simpa using h
       have hn:=Sz (d:=d) (t:=j+1+(q+1)) (by rw[ya,show j+1+(q+1) - 1=j+1+q by omega,yb];exact a8);refine ws ?_;refine dc ?_;refine aa (fv ?_);refine aJ ?_;refine aa ?_;refine aJ ?_;refine aa (bQ (c.set k a,k+1,q+1) (sR eH ?_) ⟨by simp[w1],by simp only;omega,by simp only;omega,?_,fun p hp=>?_⟩ (by simp only;omega))
       .rw[tG,List.map_set]
       .show(c.set k a).take (k+1)=fe d (j+1+(q+1)+1);rw[hn,ya, <- X,List.take_succ_eq_append_getElem oP];simp;exact List.take_set_of_le (a6 k)
       .simp only at hp;show(c.set k a)[p]? =_;rw[List.getElem?_set_ne oG];exact U p oG
      .have aiP:a=b:=by simpa using h
       have hn:=Sy (d:=d) (t:=j+1+(q+1)) oG oG (by rw[ya,show j+1+(q+1) - 1=j+1+q by omega,yb];exact aiP);refine ig ?_;refine aJ ?_;refine aa (bQ (c,k,q+1) (ao eH) ⟨w1,by simp only;omega,by simp only;omega,?_,fun p hp=>U p (by simp only at hp;omega)⟩ (by simp only;omega));show c.take k=fe d (j+1+(q+1)+1);rw[hn,X]
     .have bC:¬ q+1<n - (j+1):=by have h:¬ ((q+1:Nat):Int)<((n - (j+1):Nat):Int):=by simpa using h
                                  omega
      refine⟨c,k,.forget _ _ _ _ fun t=>pz (l:=[(0,.rs i 0 n),(3,I k)]) ⟨rfl,rfl,trivial⟩ t,w1,oG,?_⟩;rw[X];exact congrArg (fe d) oG
    .rintro s ⟨c,k,hg,w1,ck,w2⟩;refine⟨_,hg,ap ?_⟩;refine ab ?_;refine au (Pz rfl (ai _ _ _) V.h V.h rfl) ak ⟨V.h,oG⟩ ?_;refine bD (acP rfl (ai _ _ _) V.h V.h) ak ⟨V.h,(by rw[c3];first|(simp;done)|(simp;omega)|omega),rfl⟩ ?_;refine er ?_;refine ab ?_;refine au (ZL rfl (ai _ _ _) V.h V.h rfl) ak ⟨V.h,oG⟩ ?_;refine SS ?_;have cg:(my d).length=k:=by unfold my;rw[hl, <- w2];simp;omega
     refine aa (cM (fC (cw (aN (d:=.rs i 0 k) rfl ⟨rfl,by rw[cg],(tG _ _ _ _).trans ?_⟩))));rw[Yw (by rw[List.length_map,w1]) ck, <- List.map_take,w2,Cp,cg];unfold my;rw[hl]
   .have a8:d[j+1]≠d[j]:=by simpa using h
    refine ig ?_;refine aJ ?_;refine aa (bQ (j+1+1) (ao eH) ⟨oG,oG,?_⟩ oG);rw[Sz (by rw[ga,show j+1 - 1=j by omega,gb];exact a8),J,ga];exact(List.take_succ_eq_append_getElem oG).symm
  .have bC:¬ k<n:=by have h:¬ (k:Int)<n:=by simpa using h
                     omega
   have:k=n:=by omega
   refine⟨.forget _ _ _ _ fun t=>pz (l:=[(0,.rs i 0 n)]) ⟨rfl,trivial⟩ t,?_⟩;rw[<- this,J,dR oG]
 .rintro s ⟨hg,J⟩;refine⟨_,hg,ap ?_⟩;refine ab ?_;exact aa (aN rfl (whole J))
theorem aiQ{m:Mem}{nx i n:Nat}{d:List Int}(hi:i<nx)(hm:m i=some (.cells (d.map I) 3))(hl:d.length=n)(hn:n<=100000):dB prog 169 [.rs i 0 n] m nx (adL d m nx i):=by
 refine(af5 hi hm hl hn).mono ?_;rintro r m' an ⟨h1,h2,C⟩;refine⟨h1,h2,Cp d n,C,?_⟩;rw[Cp,List.take_append_of_le_length oS,dR oS]
end Go.Proofs.Tryz.K
namespace Go.Argus
def iV(x:End)(b:Int)(w:List Int):List Int:=if Kt x b then oI w (jA x) else w
@[simp] theorem PA (x : End) (b : Int) (w : List Int) : (iV x b w).length = w.length := by unfold iV; split <;> simp
def zM(l:List Int):List Int:=my (mN l)
structure pK(x:bn):Prop where
 rd:∀ r∈cT x,0<=r/\r<1200
 sl:x.op=17\/x.op=18->0<=x.n/\x.n<80
 wr: -1000000<=gj x/\gj x<1200
 ar:x.op=10\/x.op=38->x.args.length<=1000
structure Cq(x:End):Prop where
 rd:∀ r∈dK x,0<=r/\r<1200
 wr: -1000000<=jA x/\jA x<1200
 wh:x.aD.length<=9
 a1:x.kind=5->x.ins.op=10\/x.ins.op=38->x.ins.args.length<=1000
 a2:x.kind=6\/x.kind=7->x.args.length<=1000
def lf(w:List Int)(ok:Bool)(rs:List Int):Bool:=rs.foldl (fun ok r=>ok&&nP w r.toNat) ok
def Ku(w:List Int)(x:bn):List Int:=oI w (if x.op=18 then mr x.n else gj x)
def Cr(s:List Int×Bool)(x:bn):List Int×Bool:=(Ku s.1 x,lf s.1 s.2 (cT x)&&(x.op !=17||nP s.1 (mr x.n).toNat))
def ke(l:List bn)(w:List Int):List Int×Bool:=l.foldl Cr (w,true)
def nA(b:bp)(w:List Int):List Int×Bool:=((ke b.ins w).1,lf (ke b.ins w).1 (ke b.ins w).2 (dK b.fin))
theorem BA{α β:Type}{f:β->α->β}{z:β}{l:List α}{k:Nat}{x:α}(h:l[k]? =some x):(l.take (k+1)).foldl f z=f ((l.take k).foldl f z) x:=by
 rw[List.take_add_one,h,List.foldl_append];rfl
theorem Jj(l:List bn)(w:List Int):(ke l w).1.length=w.length:=by
 unfold ke;generalize true=b
 induction l generalizing w b with
 |nil=>rfl
 |cons x l ih=>rw[List.foldl_cons];exact(ih _ _).trans (by simp[Ku])
theorem H8(b:bp)(w:List Int):(nA b w).1.length=w.length:=Jj _ _
def cD(l:List (List Int)):List D:=l.flatMap fun w=>w.map cA
theorem JN{sz:Nat}:∀ {l:List (List Int)} {i:Nat} {w:List Int},(∀ w∈l,w.length=sz)->l[i]? =some w->(cD l).drop (i*sz)=w.map cA++(cD (l.drop (i+1)))
 |[],i,w,_,h=>by simp at h
 |a::l,0,w,_,h=>by simp at h;subst h;simp[cD]
 |a::l,i+1,w,hs,h=>by
  have ha:(a.map cA).length=sz:=by simpa using hs a oS
  have h1:(i+1)*sz=(a.map cA).length+i*sz:=by rw[ha,Nat.add_mul];omega
  have ih:=JN (l:=l) (i:=i) (w:=w) (fun w C=>hs w (by simp[C])) (by simpa using h);unfold cD at ih ⊢;rw[List.flatMap_cons,h1, <- List.drop_drop,List.drop_left,ih,List.drop_succ_cons]
theorem Gy{sz:Nat}{l:List (List Int)}{i:Nat}{w:List Int}(h:∀ w∈l,w.length=sz)(hi:l[i]? =some w):((cD l).drop (i*sz)).take sz=w.map cA:=by
 rw[JN h hi,List.take_append_of_le_length (by simp[h w (cX hi)]),dR (by simp[h w (cX hi)])]
theorem IT{sz:Nat}:∀ {l:List (List Int)},(∀ w∈l,w.length=sz)->(cD l).length=l.length*sz
 |[],_=>by simp[cD]
 |a::l,h=>by
  have:=IT (l:=l) fun w C=>h w (by simp[C]);unfold cD at this ⊢;rw[List.flatMap_cons,List.length_append,this,List.length_map,h a oS,List.length_cons,Nat.add_mul];omega
theorem xT{sz:Nat}{l:List (List Int)}{i:Nat}{w:List Int}(h:∀ w∈l,w.length=sz)(hi:l[i]? =some w):i*sz+sz<=(cD l).length:=by
 rw[IT h];have:=(bU.1 hi).1;rw[<- Nat.succ_mul];exact Nat.mul_le_mul_right _ this
theorem Tw{sz:Nat}(hz:2<=sz):∀ {l:List (List Int)} {i:Nat} {w v:List Int},(∀ w∈l,w.length=sz)->l[i]? =some v->w.length=sz->dL (cD l) (i*sz) (w.map cA)=cD (l.set i w):=by
 intro l i w v h hi C
 have key:dL (cD l) (i*sz) (w.map cA)=(cD l).take (i*sz)++w.map cA++(cD l).drop (i*sz+(w.map cA).length):=by
  unfold dL;split
  .rename_i x hx;have:(w.map cA).length=1:=by rw[hx];rfl
   simp at this;omega
  .rfl
 rw[key,List.length_map,C];clear key
 induction l generalizing i with
 |nil=>simp at hi
 |cons a l ih=>
  have ha:(a.map cA).length=sz:=by simpa using h a oS
  cases i with
  |zero=>
   simp only[Nat.zero_mul,List.take_zero,List.nil_append,Nat.zero_add,List.set_cons_zero];unfold cD;rw[List.flatMap_cons,List.flatMap_cons, <- ha,List.drop_left]
  |succ i=>
   have ih:=ih (i:=i) (fun w C=>h w (by simp[C])) (by simpa using hi);simp only[List.set_cons_succ];unfold cD at ih ⊢;rw[List.flatMap_cons,List.flatMap_cons, <- ih,show(i+1)*sz=(a.map cA).length+i*sz by rw[ha,Nat.add_mul];omega,List.take_length_add_append,Nat.add_assoc,List.drop_length_add_append];simp
theorem abo(n:Nat)(w:List Int):dq n (w.map cA)=cD (replicate n w):=by
 unfold dq cD
 induction n with
 |zero=>rfl
 |succ n ih=>rw[List.replicate_succ,List.replicate_succ,List.flatten_cons,List.flatMap_cons,ih]
theorem Rt(n:Nat)(b:Bool):dq n [B b]=(replicate n b).map B:=by
 unfold dq
 induction n with
 |zero=>rfl
 |succ n ih=>rw[List.replicate_succ,List.replicate_succ,List.flatten_cons,List.map_cons,ih];rfl
theorem adM(l:List (List Int)):∀ a∈cD l,Tr a:=.flat fun w=>.map fun _=>.s _
theorem JO{sz:Nat}{l:List (List Int)}{i:Nat}{w:List Int}(h:∀ w∈l,w.length=sz)(C:w.length=sz):∀ u∈l.set i w,u.length=sz:=fun u hu=>by
 rcases List.mem_or_eq_of_mem_set hu with h1|h1
 .exact h u h1
 .rw[h1];exact C
theorem Qp:∀ {w v:List Int},w.length=v.length->nN (w.map cA) (v.map cA)=some (w.map (Value.int .u64),v.map (Value.int .u64))
 |[],[],_=>rfl
 |a::w,b::v,h=>by
  have:=Qp (w:=w) (v:=v) (by simpa using h);simp[nN,xJ,this]
theorem Qq:∀ {w v:List Int},w.length=v.length->gM (w.map (Value.int .u64)) (v.map (Value.int .u64))=(w==v)
 |[],[],_=>rfl
 |a::w,b::v,h=>by
  have:=Qq (w:=w) (v:=v) (by simpa using h);simp[gM,pN,this]
theorem ZO(w:List Int):(w.map (Value.int .u64)).map jl=replicate w.length 0:=by
 induction w with
 |nil=>rfl
 |cons a w ih=>simpa[jl,List.replicate_succ] using ih
end Go.Argus
namespace Go.Proofs.Tryz.K
theorem Mw{f:FuncId}{cs:List D}{xs:List Int}(hs:yj prog f [] cs (xs.map fun n=>[I n]))(ht:Tr (.fn (.func f) [] cs))(hlen:xs.length<=12):gC prog 170 [.fn (.func f) [] cs] ((mN xs).map I) xs.length 3:=by
 have C:∀ a∈[.fn (.func f) [] cs],Tr a:=.cons ht .nil;refine sF af8 C (.map fun _=>.s _) ?_;rw[af9];have Mp:=Mp hs ht oG;refine ws ?_;refine SS ?_;refine er ?_;refine SS ?_;refine rP Mp rfl aO ?_;refine SS ?_;refine er ?_;refine SS ?_;refine fU (aiN (i:=0) (l:=xs) oG rfl rfl hlen) rfl aO fun r m' an hp=>?_;obtain⟨rfl,rfl,rfl⟩:=hp;refine er ?_;refine ab ?_;exact aa (aN rfl ⟨0,rfl,rfl⟩)
theorem ur{f:FuncId}{cs:List D}{xs:List Int}(hs:yj prog f [] cs (xs.map fun n=>[I n]))(ht:Tr (.fn (.func f) [] cs))(hlen:xs.length<=12):aG prog 89 [.fn (.func f) [] cs] (az (zM xs)):=by
 have C:∀ a∈[.fn (.func f) [] cs],Tr a:=.cons ht .nil;refine bK aiR C (cC _) ?_;rw[aiS];have Mw:=Mw hs ht hlen;refine ws ?_;refine SS ?_;refine aa (aI ?_);refine SS ?_;refine rP Mw rfl aO ?_;refine fU (aiQ (i:=0) (d:=mN xs) (n:=xs.length) oG rfl oS oG) rfl aO fun r m' an hp=>?_;obtain⟨rfl,rfl,c,rfl,hc⟩:=hp;refine SS ?_;refine aa (ca (dX [(0,c,3)] ⟨ai _ _ _,trivial⟩ (l:=[(2,az (zM xs))]) ⟨?_,trivial⟩) (aN rfl rfl));exact tB c3 (by rw[List.drop_zero,Nat.mul_one];exact hc)
def nextR(x:Argus.End):List Int:=zM (dW x)
theorem T2{x:Argus.End}(hlen:x.aD.length<=9):aG prog 89 [.fn (.func 171) [] [.pt (bE x)]] (az (nextR x)):=
 ur (U3 oG) (.fn oS (.cons (.pt (ql x)) .nil)) (by have:=JM x;omega)
theorem vW{x:Argus.End}{b:Int}{w:List Int}(J:w.length=20)(hlen:x.aD.length<=1000)(hn: -1000000<=jA x/\jA x<1280):aG prog 146 [.agg (bE x),I b,fY w] (fY (iV x b w)):=by
 have C:∀ a∈[D.agg (bE x),I b,fY w],Tr a:=.cons (.agg (ql x)) (.cons (.s _) (.cons (pQ _) .nil));refine bK af' C (pQ _) ?_;rw[aga];have Mn:=Mn (x:=x) (b:=b) hlen;refine ws ?_;refine aJ ?_;refine aa (aX (ap ?_));refine ab ?_;refine cl Mn ?_;refine aa (dP rfl (fun h=>?_) fun h=>eF (ap ?_))
 .have NG:=NG (x:=x);have pR:=pR (w:=w) (n:=jA x) J hn;refine aX (gZ ZN ?_);refine ab ?_;refine cl NG ?_;refine cl pR ?_;refine SS ?_;refine cG cP (hZ (lh (iM rfl rfl a201 qJ (mK oP) t201 oP) ?_));simp[iV,h]
 .refine ab ?_;refine aa (lh (iM rfl rfl a201 qJ (mK oP) t201 oP) ?_);simp[iV,h]
theorem mX{b:bp}{w:List Int}(hw:w.length=20)(hl:b.ins.length<=100000)(hi:∀ x∈b.ins,pK x)(hf:Cq b.fin)(wy:∀ x∈b.ins,(cT x).length<=100000)(dT:(dK b.fin).length<=100000):aG prog 145 [.agg (bi b),fY w] (.aT [fY (nA b w).1,B (nA b w).2]):=by
 have bg:∀ a∈[D.agg (bi b),fY w],Tr a:=.cons (.agg (BF b)) (.cons (pQ _) .nil);refine bK agb bg (.aT (.cons (pQ _) (.cons (.s _) .nil))) ?_;rw[agc];refine ws ?_;refine bj ?_;refine aa (aI ?_);refine SS ?_;refine aa (ca (bY (l:=[(2,.rp 0 0),(3,.rp 1 0),(4,.rp 2 0),(6,B true)]) (ml:=[(0,.cells (bi b) 69),(1,.cells (w.map cA) 201),(2,.cells (replicate 20 (cA 0)) 201)]) eH eH) (aX (aI ?_)));refine bj ?_
 refine aa (c6 (fun s=>∃ n',3<=n'/\aC prog s ⟨ay [(2,.rp 0 0),(3,.rp 1 0),(4,.rp 2 0),(6,B (ke b.ins w).2)],cq [(0,.cells (bi b) 69),(1,.cells ((ke b.ins w).1.map cA) 201),(2,.cells (replicate 20 (cA 0)) 201)],n'⟩) (cZ (α:=Nat×Nat)
  (fun k=>⟨ay [(2,.rp 0 0),(3,.rp 1 0),(4,.rp 2 0),(6,B (ke (b.ins.take k.1) w).2),(14,fg b.ins),(15,I b.ins.length),(16,I k.1)],cq [(0,.cells (bi b) 69),(1,.cells ((ke (b.ins.take k.1) w).1.map cA) 201),(2,.cells (replicate 20 (cA 0)) 201)],k.2⟩)
  (fun k=>k.1<=b.ins.length/\3<=k.2) (fun k=>b.ins.length - k.1) (0,3) (bY eH eH) ⟨oS,oS⟩ ?_) ?_)
 .rintro⟨k,N⟩ ⟨hk,hN⟩;dsimp only at hk hN ⊢;refine SS ?_;refine aa ⟨_,rfl,fun h=>?_,fun h=>?_⟩
  .have ag:k<b.ins.length:=by simpa using h
   have hx:b.ins[k]? =some b.ins[k]:=by simp[ag]
   have lX:b.ins[k]∈b.ins:=eE ag;generalize b.ins[k]=x at hx lX;obtain⟨ird,WA,iwr,iar⟩:=hi x lX;have C:ke (b.ins.take (k+1)) w=Cr (ke (b.ins.take k) w) x:=BA hx;have hlen:(ke (b.ins.take k) w).1.length=20:=by rw[Jj,hw]
   generalize ke (b.ins.take k) w=u at C hlen;obtain⟨v,ok⟩:=u;dsimp only at hlen ⊢;refine ws ?_;refine bj ?_;refine aa (aX (aI ?_));have Bl:=Bl (x:=x) iar;refine SS ?_;refine cl Bl ?_;refine ab ?_;have ame:=wy x lX
   refine aa (c6 (fun s=>aC prog s ⟨ay [(2,.rp 0 0),(3,.rp 1 0),(4,.rp 2 0),(6,B (lf v ok (cT x))),(8,.rp N 0),(14,fg b.ins),(15,I b.ins.length),(16,I k)],up (cq [(0,.cells (bi b) 69),(1,.cells (v.map cA) 201),(2,.cells (replicate 20 (cA 0)) 201)]) N (some (.cells (bc x) 45)),N+1⟩) (cZ (α:=Nat)
    (fun j=>⟨ay [(2,.rp 0 0),(3,.rp 1 0),(4,.rp 2 0),(6,B (lf v ok ((cT x).take j))),(8,.rp N 0),(14,fg b.ins),(15,I b.ins.length),(16,I k),(21,az (cT x)),(22,I (cT x).length),(23,I j)],up (cq [(0,.cells (bi b) 69),(1,.cells (v.map cA) 201),(2,.cells (replicate 20 (cA 0)) 201)]) N (some (.cells (bc x) 45)),N+1⟩)
    (fun j=>j<=(cT x).length) (fun j=>(cT x).length - j) 0 (sR eH (tG _ _ _ _)) oG ?_) ?_)
   .intro j hj;refine SS ?_;refine aa ⟨_,rfl,fun h=>?_,fun h=>?_⟩
    .have J:j<(cT x).length:=by simpa using h
     have hr:(cT x)[j]? =some (cT x)[j]:=by simp[J]
     have U:(cT x)[j]∈cT x:=eE J;generalize (cT x)[j]=r at hr U;have mi:=ird r U;obtain⟨O,rfl⟩:=gd mi.1;have kK:=kK (w:=v) (m:=O) hlen oG;refine ws ?_;refine aJ ?_;refine aa (fv ?_);refine bj ?_;refine gc kK ?_;refine ab ?_;refine aa ?_;refine ab ?_;refine aa (bQ (j+1) (ao ⟨rfl,rfl,rfl,?_,rfl,rfl,rfl,rfl,rfl,rfl,rfl,trivial⟩) oG oG)
     have e:lf v ok ((cT x).take (j+1))=(lf v ok ((cT x).take j)&&nP v O):=by
      unfold lf;rw[BA hr,iv]
     rw[e];generalize lf v ok ((cT x).take j)=g;cases g<;>rfl
    .have bC:¬ j<(cT x).length:=by simpa using h
     refine ao ⟨rfl,rfl,rfl,?_,rfl,rfl,rfl,rfl,trivial⟩;show B _=B _;rw[dR oG]
   .intro s hg;have C:ke (b.ins.take (k+1)) w=(Ku v x,lf v ok (cT x)&&(x.op !=17||nP v (mr x.n).toNat)):=C;generalize lf v ok (cT x)=NH at hg C;have CM:=CM (w:=v) (x:=x) hlen (fun h=>WA (.inr h)) (fun _=>by omega);have fin:∀ (d:Bool) env,d=(NH&&(x.op !=17||nP v (mr x.n).toNat))->lj [(2,.rp 0 0),(3,.rp 1 0),(4,.rp 2 0),(6,B d),(8,.rp N 0),(14,fg b.ins),(15,I b.ins.length),(16,I k)] env->True:=fun _ _ _ _=>trivial;refine⟨_,hg,?_⟩;cases NH with
    |false=>
     have tM:false=true->aG prog 220 [I x.n] (I (mr x.n)):=fun h=>by cases h
     have kK:false=true->aG prog 147 [fY v,I (mr x.n)] (B true):=fun h=>by cases h
     refine gZ Iu ?_;refine bI ?_;refine xF rfl rfl rfl (fun hc=>⟨ak,tM hc⟩) ?_;refine xF rfl rfl rfl (fun hc=>⟨ak,kK hc⟩) ?_;refine aJ ?_;refine cG cP (fv ?_);refine ab ?_;refine cl CM ?_;refine SS ?_;refine aa ?_;refine ab ?_;refine aa (bQ (k+1,N+1) (bY ⟨rfl,rfl,rfl,?_,rfl,rfl,rfl,trivial⟩ ⟨ah oG (ah oG rfl),?_,ah oG (ah oG rfl),trivial⟩) ⟨oM,oM⟩ oM)
     .dsimp only;rw[C];rfl
     .dsimp only;rw[C];exact ai _ _ _
    |true=>
     by_cases X:x.op=17
     .have yv:(x.op !=17)=false:=by simp[X]
      have amw:=WA (.inl X);have tM:=tM (n:=x.n) oG;obtain⟨sn,kN⟩:=gd (show 0<=mr x.n by unfold mr;omega);have kK:=kK (w:=v) (m:=sn) hlen (by unfold mr at kN;omega);rw[<- kN] at kK;refine gZ Iu ?_;refine bj ?_;refine bS rfl rfl (Kv rfl rfl yv) (fun hc=>⟨ak,rfl⟩) ?_;refine bj ?_;refine gc tM ?_;refine gc kK ?_;refine Vl ?_;refine ab ?_;refine cG cP (fv ?_);refine ab ?_;refine cl CM ?_;refine SS ?_;refine aa ?_;refine ab ?_;refine aa (bQ (k+1,N+1) (bY ⟨rfl,rfl,rfl,?_,rfl,rfl,rfl,trivial⟩ ⟨ah oG (ah oG rfl),?_,ah oG (ah oG rfl),trivial⟩) ⟨oM,oM⟩ oM)
      .dsimp only;rw[C,yv,kN];rfl
      .dsimp only;rw[C];exact ai _ _ _
     .have yv:(x.op !=17)=true:=by simp[X]
      have tM:false=true->aG prog 220 [I x.n] (I (mr x.n)):=fun h=>by cases h
      have kK:false=true->aG prog 147 [fY v,I (mr x.n)] (B true):=fun h=>by cases h
      refine gZ Iu ?_;refine bj ?_;refine bS rfl rfl (Kv rfl rfl yv) (fun hc=>⟨ak,rfl⟩) ?_;refine SS ?_;(iterate 5 refine z fun _ _=>?_);refine Vm ?_;refine ab ?_;refine cG cP (fv ?_);refine ab ?_;refine cl CM ?_;refine SS ?_;refine aa ?_;refine ab ?_;refine aa (bQ (k+1,N+1) (bY ⟨rfl,rfl,rfl,?_,rfl,rfl,rfl,trivial⟩ ⟨ah oG (ah oG rfl),?_,ah oG (ah oG rfl),trivial⟩) ⟨oM,oM⟩ oM)
      .dsimp only;rw[C,yv];rfl
      .dsimp only;rw[C];exact ai _ _ _
  .have bC:¬ k<b.ins.length:=by simpa using h
   have pi:b.ins.take k=b.ins:=dR oG;refine⟨N,hN,?_⟩;rw[pi];exact ao eH
 .rintro s ⟨n',fA,hg⟩;have hlen:(ke b.ins w).1.length=20:=by rw[Jj,hw]
  have WB:nA b w=((ke b.ins w).1,lf (ke b.ins w).1 (ke b.ins w).2 (dK b.fin)):=rfl;rw[WB];generalize ke b.ins w=u at hg hlen ⊢;obtain⟨v,ok⟩:=u;dsimp only at hlen hg ⊢;have NI:=NI (x:=b.fin) hf.a1 hf.a2;refine⟨_,hg,aX (aI ?_)⟩;refine ab ?_;refine cl NI ?_;refine ab ?_
  refine aa (c6 (fun s=>aC prog s ⟨ay [(3,.rp 1 0),(4,.rp 2 0),(6,B (lf v ok (dK b.fin)))],cq [(1,.cells (v.map cA) 201),(2,.cells (replicate 20 (cA 0)) 201)],n'⟩) (cZ (α:=Nat)
   (fun j=>⟨ay [(3,.rp 1 0),(4,.rp 2 0),(6,B (lf v ok ((dK b.fin).take j))),(53,az (dK b.fin)),(54,I (dK b.fin).length),(55,I j)],cq [(1,.cells (v.map cA) 201),(2,.cells (replicate 20 (cA 0)) 201)],n'⟩)
   (fun j=>j<=(dK b.fin).length) (fun j=>(dK b.fin).length - j) 0 (bY eH eH) oG ?_) ?_)
  .intro j hj;refine SS ?_;refine aa ⟨_,rfl,fun h=>?_,fun h=>?_⟩
   .have J:j<(dK b.fin).length:=by simpa using h
    have hr:(dK b.fin)[j]? =some (dK b.fin)[j]:=by simp[J]
    have U:(dK b.fin)[j]∈dK b.fin:=eE J;generalize (dK b.fin)[j]=r at hr U;have mi:=hf.rd r U;obtain⟨O,rfl⟩:=gd mi.1;have kK:=kK (w:=v) (m:=O) hlen oG;refine ws ?_;refine aJ ?_;refine aa (fv ?_);refine ab ?_;refine bS rfl rfl (dI rfl rfl V.h V.h (mK (by first|rfl|exact bf rfl|(simp;done)|(simp;omega)|omega))) (fun hc=>⟨ak,(dJ V.h V.h (by first|rfl|exact bf rfl|(simp;done)|(simp;omega)|omega))⟩) ?_;refine SS ?_;refine gc kK ?_;refine ab ?_;refine aa ?_;refine ab ?_;refine aa (bQ (j+1) (ao ⟨rfl,rfl,?_,rfl,rfl,rfl,trivial⟩) oG oG)
    have e:lf v ok ((dK b.fin).take (j+1))=(lf v ok ((dK b.fin).take j)&&nP v O):=by
     unfold lf;rw[BA hr,iv]
    rw[e];generalize lf v ok ((dK b.fin).take j)=g;cases g<;>rfl
   .have bC:¬ j<(dK b.fin).length:=by simpa using h
    refine ao ⟨rfl,rfl,?_,trivial⟩;show B _=B _;rw[dR oG]
  .intro s hg;refine⟨_,hg,ap ?_⟩;refine bj ?_;exact aa (Bx (iM rfl rfl a201 qJ (mK oP) t201 oP) rfl rfl)
end Go.Proofs.Tryz.K
end
namespace Go.Argus
open Go.Abs
theorem YI{l:List Int}{j:Nat}(hj:j+1<l.length){x:Int}:x∈swapAt l j↔x∈l:=by
 have ha:l.getD j 0=l[j]:=by simp[dN,bx (show j<l.length by omega)]
 have hb:l.getD (j+1) 0=l[j+1]:=by simp[dN,bx hj]
 unfold swapAt;rw[ha,hb];exact(List.set_set_perm (show j+1<l.length from hj) (show j<l.length by omega)).mem_iff
theorem Qy{x:Int}:∀ (j:Nat) {l:List Int},j<l.length->(x∈nR l j↔x∈l)
 |0,l,_=>Iff.rfl
 |j+1,l,hj=>by
  simp only[nR];split
  .exact(Qy j oP).trans (YI hj)
  .exact Iff.rfl
theorem PN{l:List Int}{x:Int}:∀ k,k<l.length->(x∈lS l k↔x∈l)
 |0,_=>Iff.rfl
 |k+1,h=>by
  simp only[lS];exact(Qy (k+1) (by simpa using h)).trans (PN k oG)
theorem aaa{l:List Int}{x:Int}:x∈mN l↔x∈l:=by
 unfold mN;cases l with
 |nil=>simp[lS]
 |cons a l=>exact PN _ oS
theorem Ox{l:List Int}{x:Int}:x∈zM l↔x∈l:=by
 unfold zM my;rw[Rv (a6 _),List.take_length];exact aaa
theorem wrap_u64{n:Nat}(h:n<2 ^ 64):IntKind.u64.wrap (n:Int)=n:=by
 unfold IntKind.wrap;simp[IntKind.signed,IntKind.bits];omega
theorem acR{a b:Int}(ha:0<=a/\a<18446744073709551616):0<=oY a b/\oY a b<=a:=by
 unfold oY la;simp only;rw[wrap_u64 (n:=(BitVec.ofInt IntKind.u64.bits a&&& BitVec.ofInt IntKind.u64.bits b).toNat) (BitVec.isLt (w:=64) _)];obtain⟨n,rfl⟩:=gd ha.1
 have h1:(BitVec.ofInt IntKind.u64.bits (n:Int)).toNat=n:=by
  rw[BitVec.toNat_ofInt];show((n:Int) % ((2 ^ 64:Nat):Int)).toNat=n;omega
 have h2:(BitVec.ofInt IntKind.u64.bits (n:Int)&&& BitVec.ofInt IntKind.u64.bits b).toNat<=n:=by
  rw[BitVec.toNat_and,h1];exact Nat.and_le_left
 omega
end Go.Argus
section
open Go Go.Abs Go.Proofs Go.Argus
namespace Go.Abs
section
variable{P:Program}{env:Env}{m:Mem}{nx:Nat}{x y:Operand}{t p:TypeId}{k:IntKind}{n n':Int}
theorem xe{j i l sz:Nat}{e:TypeId}{r:Row}(hx:(opd env x).core=.rs j 0 l)(hy:(opd env y).core=.s (.int k (i:Int)))(hm:m j=some r)(he:aq P t=e)(hs:P.cellsOf e=sz):
 Ef P (.indexAddr t x y) env m nx ⟨aW P t=true/\i<l,.rp j (i*sz),[],[j],0⟩:=by
 have h:=J1 (P:=P) (env:=env) (m:=m) (nx:=nx) (t:=t) hx hy hm he hs;have h1:0+((i:Int)).toNat*sz=i*sz:=by simp
 have h2:(aW P t=true/\(0:Int)<=(i:Int)/\(i:Int)<l)=(aW P t=true/\i<l):=by
  apply propext;constructor
  .rintro⟨a,_,b⟩;exact⟨a,oG⟩
  .rintro⟨a,b⟩;exact⟨a,oG,oG⟩
 rw[h1,h2] at h;exact h
theorem abp{ps:Array (Nat×Operand)}{e:TypeId}{l:Nat}{z:List D}(hu:P.underlying t=some (.array l e))(hp:ps.toList=[])(hz:aV P t=z):Ef P (.build t ps) env m nx ⟨aB P t=true/\aB P e=true,.agg z,[],[],0⟩:=by
 refine⟨?_,rfl,rfl⟩;simp only[aM,hu,hp,hz,List.map_nil,iU,Option.map_some]
theorem TW{xs ys:List D}{us vs:List Value}{C:List Nat}(hx:(opd env x).core=.agg xs)(hy:(opd env y).core=.agg ys)(hf:xI P t=some C)(hz:nN xs ys=some (us,vs)){c:Bool}(hc:(!gM us vs)=c):
 Ef P (.binOp .neq t x y p) env m nx ⟨us.map jl=C/\P.eqGuardType P.depth t=false,.s (.bool c),[],[],0⟩:=by
 refine⟨?_,rfl,rfl⟩
 have hn:jZ P m .neq t (.agg xs) y=none:=by
  unfold jZ;split<;>first|rfl|(rename_i h;cases h)
 simp only[aM,aZ,hx,hy,hn,oO,xu,hf,hz,hc,Option.map_some]
end
def yx(cs:List D):Prop:=∀ d∈cs,∃ v,d=.s v
theorem yx.map{α:Type}{f:α->Value}{l:List α}:yx (l.map fun x=>.s (f x)):=fun d hd=>by
 obtain⟨x,_,rfl⟩:=List.mem_map.1 hd;exact⟨_,rfl⟩
theorem agd{i sz:Nat}{C cs:List D}(h:yx cs):cs.map (sub (c7 i C sz))=cs:=by
 induction cs with
 |nil=>rfl
 |cons d cs ih=>
  obtain⟨v,rfl⟩:=h d oS;rw[List.map_cons,ih fun d hd=>h d (by simp[hd])];rfl
theorem acQ{m:Mem}{i j sz:Nat}{J cs:List D}{e:TypeId}(C:j≠i)(hm:m j=some (.cells cs e))(h:yx cs):(if j=i then none else(m j).map (Row.sub (c7 i J sz)))=some (.cells cs e):=by
 rw[if_neg C,hm];show some (Row.cells (cs.map _) e)=_;rw[agd h]
theorem adN{i sz n:Nat}{C es:List D}:sub (c7 i C sz) (.sl es n)=.sl es n:=rfl
theorem IU{i j sz off n:Nat}{C:List D}(h:j≠i):sub (c7 i C sz) (.rs j off n)=.rs j off n:=by
 show(if j=i then _ else D.rs j off n)=_;rw[if_neg h]
theorem zq{i sz n:Nat}{C:List D}(h:C.length=n*sz):sub (c7 i C sz) (.rs i 0 n)=.sl C n:=by
 show(if i=i then D.sl ((C.drop 0).take (n*sz)) n else _)=_;rw[if_pos rfl,List.drop_zero,dR oG]
end Go.Abs
namespace Go.Proofs.Tryz.K
theorem age:xI prog 201=some (replicate 20 0):=kr
theorem agf:prog.eqGuardType prog.depth 201=false:=kr
theorem agh:aV prog 201=(replicate 20 (0:Int)).map cA:=z201
theorem aiT:prog.underlying 201=some (.array 20 199):=kr
section
variable{env:Env}{m:Mem}{nx:Nat}{x y:Operand}{p:TypeId}
theorem agi{w v:List Int}(hx:(opd env x).core=fY w)(hy:(opd env y).core=fY v)(h:w.length=v.length):Ef prog (.binOp .neq 201 x y p) env m nx ⟨(w.map (Value.int .u64)).map jl=replicate 20 0/\prog.eqGuardType prog.depth 201=false,B (w !=v),[],[],0⟩:=
 TW hx hy age (Qp h) (by rw[Qq h];rfl)
theorem agj{w:List Int}(h:w.length=20):(w.map (Value.int .u64)).map jl=replicate 20 0/\prog.eqGuardType prog.depth 201=false:=⟨by rw[ZO,h],agf⟩
end
end Go.Proofs.Tryz.K
namespace Go.Argus
open Go.Proofs.Tryz.K (nextR)
structure CS where
 wsq:List (List Int)
 re:List Bool
 ch:Bool
def ic(x:End)(w:List Int)(s:CS)(n:Int):CS:=
 if s.re.getD n.toNat false=false\/lQ (s.wsq.getD n.toNat []) (iV x n w)≠s.wsq.getD n.toNat [] then⟨s.wsq.set n.toNat (lQ (s.wsq.getD n.toNat []) (iV x n w)),s.re.set n.toNat true,true⟩ else s
def jF(bs:List bp)(s:CS)(k:Nat):CS:=match bs[k]? with
 |none=>s
 |some x=>if s.re.getD k false=true then(nextR x.fin).foldl (ic x.fin (nA x (s.wsq.getD k [])).1) s else s
def sW(bs:List bp)(s:CS):CS:=(range bs.length).foldl (jF bs) ⟨s.wsq,s.re,false⟩
def uK(bs:List bp):Nat->CS->CS
 |0,s=>s
 |k+1,s=>if(sW bs s).ch=true then uK bs k (sW bs s) else sW bs s
def mY:Int:=18446744073709551615
def lq:Nat->List Int
 |0=>replicate 20 0
 |k+1=>oI (lq k) k
@[simp] theorem PB : ∀ k, (lq k).length = 20
 |0=>rfl
 |k+1=>by simp[lq,PB k]
def uL(n args:Nat):CS:=⟨(replicate n (replicate 20 mY)).set 0 (lq args),(replicate n false).set 0 true,true⟩
def gm(u:Int):Prop:=0<=u/\u<18446744073709551616
structure kf(n:Nat)(s:CS):Prop where
 lw:s.wsq.length=n
 lr:s.re.length=n
 kZ:∀ w∈s.wsq,w.length=20
 rg:∀ w∈s.wsq,∀ u∈w,gm u
def mb(w:List Int):Nat:=(w.map Int.toNat).sum
def wL(s:CS):Nat:=(s.wsq.map mb).sum+s.re.count false
def p6(s:CS):Nat:=wL s+if s.ch=true then 1 else 0
theorem Ry{l:List Nat}{k x y:Nat}(h:l[k]? =some x):(l.set k y).sum+x=l.sum+y:=by
 induction l generalizing k with
 |nil=>simp at h
 |cons a l ih=>cases k with
  |zero=>simp at h;subst h;simp;omega
  |succ k=>have:=ih (k:=k) (by simpa using h);simp;omega
theorem abq{l:List Int}{k:Nat}{x y:Int}(h:l[k]? =some x):mb (l.set k y)+x.toNat=mb l+y.toNat:=by
 unfold mb;rw[List.map_set];exact Ry (by simp[h])
theorem ZP{a b:Int}(h:gm a):gm (oY a b)/\oY a b<=a:=by
 have:=acR (b:=b) h;exact⟨⟨this.1,by unfold gm at h;omega⟩,this.2⟩
theorem abr{α:Type}{l:List α}{k:Nat}{x:α}(h:l[k]? =some x):l.set k x=l:=by
 apply List.ext_getElem?;intro i;rw[List.getElem?_set];split
 .rename_i e;subst e;rw[if_pos (bU.1 h).1,h]
 .rfl
theorem Qr{w v:List Int}(O:∀ u∈w,gm u):∀ k,k<=w.length->(∀ u∈gI w v k,gm u)/\mb (gI w v k)<=mb w/\(gI w v k≠w->mb (gI w v k)<mb w)
 |0,_=>⟨O,a6 _,fun h=>absurd rfl h⟩
 |k+1,hk=>by
  obtain⟨h1,h2,U⟩:=Qr (v:=v) O k oG;have hl:k<(gI w v k).length:=by simp;omega
  have hx:(gI w v k)[k]? =some (gI w v k)[k]:=bx hl;have hg:(gI w v k).getD k 0=(gI w v k)[k]:=by simp[dN,hx]
  have hm:=h1 _ (eE hl);simp only[gI,hg];generalize (gI w v k)[k]=a at hx hm;obtain⟨C,r2⟩:=ZP (b:=v.getD k 0) hm;generalize oY a (v.getD k 0)=y at C r2;have hs:=abq (y:=y) hx;unfold gm at C hm;refine⟨fun u hu=>?_,oG,fun J=>?_⟩
  .rcases List.mem_or_eq_of_mem_set hu with h|h
   .exact h1 u h
   .subst h;exact C
  .by_cases e:y=a
   .subst e;have:(gI w v k).set k y=gI w v k:=abr hx;rw[this] at J ⊢;exact U J
   .omega
theorem abt{l:List (List Int)}{k:Nat}{w v:List Int}(h:l[k]? =some w):((l.set k v).map mb).sum+mb w=(l.map mb).sum+mb v:=by
 rw[List.map_set];exact Ry (by simp[h])
theorem count_set{l:List Bool}{k:Nat}{b:Bool}(h:l[k]? =some b):(l.set k true).count false+(if b=true then 0 else 1)=l.count false:=by
 induction l generalizing k with
 |nil=>simp at h
 |cons a l ih=>cases k with
  |zero=>simp at h;subst h;cases a<;>simp
  |succ k=>have:=ih (k:=k) (by simpa using h);simp only[List.set_cons_succ,List.count_cons];omega
theorem OR{x:End}{w:List Int}{s:CS}{n:Nat}{t:Int}(hs:kf n s)(ht:0<=t/\t<n):kf n (ic x w s t)/\p6 (ic x w s t)<=p6 s:=by
 obtain⟨lw,lr,kZ,rg⟩:=hs;obtain⟨k,rfl⟩:=gd ht.1;have hk:k<n:=by omega
 have hx:s.wsq[k]? =some s.wsq[k]:=bx oG;have hb:s.re[k]? =some s.re[k]:=bx oG;have X:s.wsq.getD k []=s.wsq[k]:=by simp[dN,hx]
 have U:s.re.getD k false=s.re[k]:=by simp[dN,hb]
 have hm:s.wsq[k]∈s.wsq:=eE _;unfold ic;simp only[iv,X,U];generalize s.wsq[k]=v at hx hm;generalize s.re[k]=b at hb;have v20:=kZ v hm;obtain⟨C,O,J⟩:=Qr (v:=iV x k w) (rg v hm) 20 oG;have hl:=PC v (iV x k w)
 change (∀ u∈lQ v (iV x k w),gm u) at C
 change mb (lQ v (iV x k w))<=mb v at O
 change lQ v (iV x k w)≠v->mb (lQ v (iV x k w))<mb v at J
 generalize lQ v (iV x k w)=u at C O J hl;split
 .rename_i hc;refine⟨⟨by simp[lw],by simp[lr],JO kZ oG,fun y hy=>?_⟩,?_⟩
  .rcases List.mem_or_eq_of_mem_set hy with h|h
   .exact rg y h
   .subst h;exact C
  .have h1:=abt (v:=u) hx;have h2:=count_set hb;unfold p6 wL;simp only[if_true];rcases hc with hc|hc
   .subst hc;simp only[Bool.false_eq_true,if_false] at h2;omega
   .have:=J hc;omega
 .exact⟨⟨lw,lr,kZ,rg⟩,a6 _⟩
theorem Ek{α β:Type}{f:β->α->β}{J:β->Prop}{φ:β->Nat}{l:List α}(h:∀ x∈l,∀ s,J s->J (f s x)/\φ (f s x)<=φ s){s:β}(hs:J s):J (l.foldl f s)/\φ (l.foldl f s)<=φ s:=by
 induction l generalizing s with
 |nil=>exact⟨hs,a6 _⟩
 |cons x l ih=>
  obtain⟨h1,h2⟩:=h x oS s hs;obtain⟨C,O⟩:=ih (fun y hy=>h y (by simp[hy])) h1;exact⟨C,Nat.le_trans O h2⟩
theorem IV(x:End):(nextR x).length<=x.aD.length+3:=by
 have h1:=Rw (d:=mN (dW x)) (mN (dW x)).length;have h2:=JM x;rw[Py] at h1;exact Nat.le_trans (by simpa[nextR,zM,my] using h1) h2
structure xX(n:Nat)(b:bp):Prop where
 len:b.ins.length<=100000
 ins:∀ x∈b.ins,pK x
 fin:Cq b.fin
 rl:∀ x∈b.ins,(cT x).length<=100000
 rf:(dK b.fin).length<=100000
 to:∀ t∈nextR b.fin,0<=t/\t<n
theorem Qs{bs:List bp}{s:CS}{n k:Nat}(hb:∀ b∈bs,xX n b)(hs:kf n s):kf n (jF bs s k)/\p6 (jF bs s k)<=p6 s:=by
 unfold jF;split
 .exact⟨hs,a6 _⟩
 .rename_i x hx;split
  .exact Ek (J:=kf n) (φ:=p6) (fun t ht s hs=>OR hs ((hb x (cX hx)).to t ht)) hs
  .exact⟨hs,a6 _⟩
theorem Ig{bs:List bp}{s:CS}{n:Nat}(hb:∀ b∈bs,xX n b)(hs:kf n s):kf n (sW bs s)/\p6 (sW bs s)<=wL s:=by
 have:=Ek (J:=kf n) (φ:=p6) (f:=jF bs) (l:=range bs.length) (fun k _ s hs=>Qs hb hs) (s:=⟨s.wsq,s.re,false⟩) ⟨hs.lw,hs.lr,hs.kZ,hs.rg⟩;exact this
def rV(bs:List bp)(args:Nat):CS:=uK bs (wL (uL bs.length args)+1) (uL bs.length args)
theorem getD_some{α:Type}{l:List α}{k:Nat}{x d:α}(h:l[k]? =some x):l.getD k d=x:=by simp[dN,h]
theorem acS{α:Type}{n k:Nat}{x y:α}(hk:k<n):(replicate k x++replicate (n - k) y).set k x=replicate (k+1) x++replicate (n - (k+1)) y:=by
 rw[show n - k=n - (k+1)+1 by omega,List.replicate_succ,List.replicate_succ',List.append_assoc,List.singleton_append];rw[List.set_append];simp
theorem abu{α:Type}{a b:Nat}{x y z:α}(h:z∈replicate a x++replicate b y):z=x\/z=y:=by
 rcases List.mem_append.1 h with h|h
 .exact .inl (List.eq_of_mem_replicate h)
 .exact .inr (List.eq_of_mem_replicate h)
theorem XZ{x:End}{w v:List Int}{s:CS}{k:Nat}{b:Bool}(hx:s.wsq[k]? =some v)(hb:s.re[k]? =some b)(h:b=false\/lQ v (iV x k w)≠v):ic x w s k=⟨s.wsq.set k (lQ v (iV x k w)),s.re.set k true,true⟩:=by
 unfold ic;rw[iv,getD_some hx,getD_some hb,if_pos h]
theorem Yy{x:End}{w v:List Int}{s:CS}{k:Nat}{b:Bool}(hx:s.wsq[k]? =some v)(hb:s.re[k]? =some b)(h:¬ (b=false\/lQ v (iV x k w)≠v)):ic x w s k=s:=by
 unfold ic;rw[iv,getD_some hx,getD_some hb,if_neg h]
theorem Ou{n args:Nat}(ha:∀ u∈lq args,gm u):kf n (uL n args):=by
 refine⟨by simp[uL],by simp[uL],JO (fun w C=>by rw[List.eq_of_mem_replicate C];simp) oS,fun w C u hu=>?_⟩;rcases List.mem_or_eq_of_mem_set C with h|h
 .rw[List.eq_of_mem_replicate h] at hu;rw[List.eq_of_mem_replicate hu];simp[gm,mY]
 .rw[h] at hu;exact ha u hu
end Go.Argus
namespace Go.Proofs.Tryz.K
theorem AN{p q:D}{f:aU}{n args:Nat}(hp:Tr p)(hq:Tr q)(dx:p.one=true)(bG:q.one=true)(hn:f.blocks.length=n)(nU:0<n)(wz:n<=100000)(ha:f.args=args)(yP:args<=1000)(Bm:∀ u∈lq args,gm u)(hb:∀ b∈f.blocks,xX n b):
 aG prog 144 [.agg (bd p q f)] (.aT [.sl (cD (rV f.blocks args).wsq) n,.sl ((rV f.blocks args).re.map B) n]):=by
 have bg:∀ a∈[D.agg (bd p q f)],Tr a:=.cons (lK hp hq f) .nil;refine bK agk bg (.aT (.cons (.sl (adM _)) (.cons (.sl (.map fun _=>.s _)) .nil))) ?_;rw[agl];refine aI ?_;refine aJ ?_;refine aa (ca (dX [(0,bd p q f,93)] eH (l:=[(1,.pt (bd p q f))]) eH) (Br ZQ ?_));refine bj ?_;refine iE (I1 rfl rfl V.h V.h) ak ⟨oG,rfl,oG,by rw[Vn];omega,V.h⟩ ?_;refine bj ?_;refine Wd ?_;refine ab ?_;have fA:((f.blocks.length:Nat):Int).toNat=n:=hn;refine cG cP (ca (bY (l:=[(1,.pt (bd p q f)),(4,.rs 1 0 n),(5,.rs 2 0 n)]) (ml:=[(1,.cells (cD (replicate n (replicate 20 0))) 201),(2,.cells ((replicate n false).map B) 4)]) ⟨rfl,?_,?_,trivial⟩ ⟨?_,?_,trivial⟩) (aX (aI ?_)))
 .exact congrArg (fun k=>D.rs 1 0 k) fA
 .exact congrArg (fun k=>D.rs 2 0 k) fA
 .exact congrArg (fun c=>some (Row.cells c 201)) ((congrArg (fun k=>dq k ((replicate 20 (0:Int)).map cA)) fA).trans (abo n (replicate 20 0)))
 .exact congrArg (fun c=>some (Row.cells c 4)) ((congrArg (fun k=>dq k [B false]) fA).trans (Rt n false))
 refine SS ?_;refine aiU ?_;refine SS ?_
 refine aa (c6 (fun s=>aC prog s ⟨ay [(1,.pt (bd p q f)),(4,.rs 1 0 n),(5,.rs 2 0 n)],cq [(1,.cells (cD (replicate n (replicate 20 mY))) 201),(2,.cells ((replicate n false).map B) 4)],3⟩) (cZ (α:=Nat)
  (fun k=>⟨ay [(1,.pt (bd p q f)),(4,.rs 1 0 n),(5,.rs 2 0 n),(27,I n),(28,I k)],cq [(1,.cells (cD (replicate k (replicate 20 mY)++replicate (n - k) (replicate 20 0))) 201),(2,.cells ((replicate n false).map B) 4)],3⟩)
  (fun k=>k<=n) (fun k=>n - k) 0 (bY eH eH) oG ?_) ?_)
 .intro k hk;refine SS ?_;refine aa ⟨_,rfl,fun h=>?_,fun h=>?_⟩
  .have ag:k<n:=by simpa using h
   have CJ:=acS (x:=replicate 20 mY) (y:=replicate 20 (0:Int)) ag
   have hi:(replicate k (replicate 20 mY)++replicate (n - k) (replicate 20 (0:Int)))[k]? =some (replicate 20 0):=by
    rw[List.getElem?_append_right oS,List.length_replicate,Nat.sub_self,show n - k=n - (k+1)+1 by omega,List.replicate_succ];rfl
   have Bn:∀ w∈replicate k (replicate 20 mY)++replicate (n - k) (replicate 20 (0:Int)),w.length=20:=fun w O=>by
    rcases abu O with h|h<;>(rw[h];simp)
   have Mh:aG prog 217 [] (fY (replicate 20 mY)):=Mh;refine ws ?_;refine ab ?_;refine aa (fv ?_);refine ab ?_;refine cl Mh ?_;refine ab ?_;refine aa ?_;refine ab ?_;refine aa (bQ (k+1) (bY eH ⟨?_,rfl,trivial⟩) oG oG);rw[<- CJ];rfl
  .have bC:¬ k<n:=by simpa using h
   have:k=n:=by omega
   subst this;refine bY eH ⟨?_,rfl,trivial⟩;show some (Row.cells (cD (_++replicate (k - k) _)) _)=_;rw[Nat.sub_self,List.replicate_zero,List.append_nil]
 rintro s hg;refine⟨_,hg,aI ?_⟩;have hi:(replicate n (replicate 20 mY))[0]? =some (replicate 20 mY):=by simp[nU]
 have Bn:∀ w∈replicate n (replicate 20 mY),w.length=20:=fun w O=>by rw[List.eq_of_mem_replicate O];simp
 refine ab ?_;refine au (abp aiT rfl agh) ak ⟨V.h,V.h⟩ ?_;refine ab ?_;refine We ?_;refine Wf ?_;refine aa (ca (bY (l:=[(1,.pt (bd p q f)),(4,.rs 1 0 n),(5,.rs 2 0 n)]) (ml:=[(1,.cells (cD ((replicate n (replicate 20 mY)).set 0 (lq 0))) 201),(2,.cells (((replicate n false).set 0 true).map B) 4)]) eH ⟨rfl,?_,trivial⟩) (aX (aI ?_)))
 .rw[List.map_set];rfl
 clear hi;refine bj ?_
 refine aa (c6 (fun s=>aC prog s ⟨ay [(1,.pt (bd p q f)),(4,.rs 1 0 n),(5,.rs 2 0 n)],cq [(1,.cells (cD ((replicate n (replicate 20 mY)).set 0 (lq args))) 201),(2,.cells (((replicate n false).set 0 true).map B) 4)],3⟩) (cZ (α:=Nat)
  (fun k=>⟨ay [(1,.pt (bd p q f)),(4,.rs 1 0 n),(5,.rs 2 0 n),(43,I args),(44,I k)],cq [(1,.cells (cD ((replicate n (replicate 20 mY)).set 0 (lq k))) 201),(2,.cells (((replicate n false).set 0 true).map B) 4)],3⟩)
  (fun k=>k<=args) (fun k=>args - k) 0 (bY ⟨rfl,rfl,rfl,congrArg I ha,rfl,trivial⟩ eH) oG ?_) ?_)
 .intro k hk;refine SS ?_;refine aa ⟨_,rfl,fun h=>?_,fun h=>?_⟩
  .have ag:k<args:=by simpa using h
   have hi:((replicate n (replicate 20 mY)).set 0 (lq k))[0]? =some (lq k):=by simp[nU]
   have Bn:=JO (i:=0) Bn (PB k);have pR:=pR (w:=lq k) (n:=(k:Int)) oS oG;refine ws ?_;refine ab ?_;refine aa (fv ?_);refine aJ ?_;refine au (dI rfl rfl V.h V.h (Gy oN oN)) ak (dJ V.h V.h (xT oN oN)) ?_;refine SS ?_;refine cl pR ?_;refine ab ?_;refine aa ?_;refine ab ?_;refine aa (bQ (k+1) (bY eH ⟨?_,rfl,trivial⟩) oG oG);show some (Row.cells (cD ((List.set _ 0 (lq k)).set 0 (lq (k+1)))) _)=_;rw[List.set_set]
  .have bC:¬ k<args:=by simpa using h
   have:k=args:=by omega
   subst this;exact ao eH
 clear Bn;rintro s hg;refine⟨_,hg,aX (aI ?_)⟩;refine SS ?_;have hi0:=Ou (n:=n) Bm;have hR:rV f.blocks args=uK f.blocks (wL (uL n args)+1) (uL n args):=by rw[rV,hn]
 generalize rV f.blocks args=R at hR ⊢
 refine aa (c6 (fun s=>∃ n',aC prog s ⟨ay [(4,.rs 1 0 n),(5,.rs 2 0 n)],cq [(1,.cells (cD R.wsq) 201),(2,.cells (R.re.map B) 4)],n'⟩/\kf n R) (acb (α:=CS×Nat)
  (fun s=>⟨ay [(1,.pt (bd p q f)),(4,.rs 1 0 n),(5,.rs 2 0 n),(8,B s.1.ch)],cq [(1,.cells (cD s.1.wsq) 201),(2,.cells (s.1.re.map B) 4)],s.2⟩)
  (fun s=>kf n s.1/\3<=s.2/\(s.1.ch=true->∃ k,wL s.1<k/\uK f.blocks k s.1=R)/\(s.1.ch=false->s.1=R)) (fun s=>2*wL s.1+if s.1.ch=true then 1 else 0) (uL n args,3)
  (bY eH eH) ⟨hi0,a6 _,fun _=>⟨_,Nat.lt_succ_self _,hR.symm⟩,fun h=>by cases h⟩ ?_) ?_)
 .rintro⟨s0,N0⟩ ⟨yz,WC,jR,Vo⟩;dsimp only at yz WC jR Vo ⊢;refine SS ?_;refine aa ⟨_,rfl,fun h0=>?_,fun h=>?_⟩
  .obtain⟨eA,amf,T3⟩:=jR h0;obtain⟨eA,rfl⟩:∃ j,eA=j+1:=⟨eA - 1,oG⟩
   have T4:=Ig hb yz;refine ws ?_;refine SS ?_;refine aa (aI ?_);refine bV ?_
   refine aa (cZ (α:=Nat×Nat)
    (fun k=>⟨ay [(1,.pt (bd p q f)),(4,.rs 1 0 n),(5,.rs 2 0 n),(8,B ((range k.1).foldl (jF f.blocks) ⟨s0.wsq,s0.re,false⟩).ch),(58,cF f.blocks),(59,I n),(60,I k.1)],cq [(1,.cells (cD ((range k.1).foldl (jF f.blocks) ⟨s0.wsq,s0.re,false⟩).wsq) 201),(2,.cells (((range k.1).foldl (jF f.blocks) ⟨s0.wsq,s0.re,false⟩).re.map B) 4)],k.2⟩)
    (fun k=>k.1<=n/\3<=k.2) (fun k=>n - k.1) (0,N0) (bY ⟨rfl,rfl,rfl,rfl,rfl,congrArg (fun k:Nat=>I k) hn,rfl,trivial⟩ eH) ⟨Nat.zero_le _,WC⟩ ?_)
   rintro⟨k,N⟩ ⟨hk,hN⟩;dsimp only at hk hN ⊢;have cn:=(Ek (J:=kf n) (φ:=p6) (f:=jF f.blocks) (l:=range k) (fun k _ s hs=>Qs hb hs) (s:=⟨s0.wsq,s0.re,false⟩) ⟨yz.lw,yz.lr,yz.kZ,yz.rg⟩).1;have eS:(range (k+1)).foldl (jF f.blocks) ⟨s0.wsq,s0.re,false⟩=jF f.blocks ((range k).foldl (jF f.blocks) ⟨s0.wsq,s0.re,false⟩) k:=by rw[List.range_succ,List.foldl_append];rfl
   have Gs:k=n->(range k).foldl (jF f.blocks) ⟨s0.wsq,s0.re,false⟩=sW f.blocks s0:=fun e=>by rw[e,sW,hn]
   generalize (range k).foldl (jF f.blocks) ⟨s0.wsq,s0.re,false⟩=u at cn eS Gs;refine SS ?_;refine aa ⟨_,rfl,fun h=>?_,fun h=>?_⟩
   .have ag:k<n:=by simpa using h
    have hx:f.blocks[k]? =some f.blocks[k]:=bx oG;have np:f.blocks[k]∈f.blocks:=eE _;generalize f.blocks[k]=x at hx np;have iK:=hb x np;have C:jF f.blocks u k=if u.re.getD k false=true then(nextR x.fin).foldl (ic x.fin (nA x (u.wsq.getD k [])).1) u else u:=by rw[jF,hx]
    have lw:=cn.lw;have lr:=cn.lr;have kZ:=cn.kZ;have O:u.wsq[k]? =some u.wsq[k]:=bx oG;have mo:u.re[k]? =some u.re[k]:=bx oG;rw[getD_some O,getD_some mo] at C;have wM:=kZ _ (eE (h:=by omega):u.wsq[k]∈u.wsq);generalize u.wsq[k]=w at O C wM;generalize u.re[k]=b at mo C;have kd:=lI (f:=B) mo;refine ws ?_;refine dV ?_;refine aa (aX (ap ?_));refine ab ?_;refine au (nB rfl rfl (ah oG (ah oG rfl)) V.h V.h) ak ⟨V.h,oG⟩ ?_;refine au (fQ rfl (ah oG (ah oG rfl)) kd V.h) ak (fR V.h V.h kd) ?_;refine SS ?_;refine aa (dP rfl (fun h=>wS (J3 ?_)) fun h=>eF (Br Yz ?_))
    .have Bb:b=false:=by simpa using h
     subst Bb;have C:jF f.blocks u k=u:=C;refine ab ?_;refine aa (bQ (k+1,N+1) (bY ⟨rfl,rfl,rfl,?_,rfl,rfl,rfl,trivial⟩ ⟨?_,?_,trivial⟩) ⟨oM,oM⟩ oM)
     .dsimp only;rw[eS,C];rfl
     .dsimp only;rw[eS,C];exact ah oG (ah oG rfl)
     .dsimp only;rw[eS,C];exact ah oG (ah oG rfl)
    have NJ:b=true:=by simpa using h
    subst NJ;have C:jF f.blocks u k=(nextR x.fin).foldl (ic x.fin (nA x w).1) u:=C;have mX:=mX wM iK.len iK.ins iK.fin iK.rl iK.rf;have tQ:=H8 x w;rw[wM] at tQ;generalize WB:nA x w=th at mX tQ C;obtain⟨w',NH⟩:=th;dsimp only at tQ mX C;clear kd;refine aJ ?_;refine au (xe rfl rfl (ah oG (ah oG (ai _ _ _))) V.h V.h) ak ⟨V.h,oG⟩ ?_;refine au (dI rfl (ah oG (ah oG (ai _ _ _))) V.h V.h (Gy oN oN)) ak (dJ V.h V.h (xT oN oN)) ?_;refine cl mX ?_;refine dV ?_;refine cG cP (ca (sR (l:=[(1,.pt (bd p q f)),(4,.rs 1 0 n),(5,.rs 2 0 n),(8,B u.ch),(10,.rp N 0),(11,.rp (N+1) 0),(58,cF f.blocks),(59,I n),(60,I k)]) (m':=up (up (cq [(1,.cells (cD u.wsq) 201),(2,.cells (u.re.map B) 4)]) N (some (.cells (bi x) 69))) (N+1) (some (.cells (w'.map cA) 201))) eH (by rw[tG,tG])) (aI ?_));have uo:=uo (x:=x.fin);have ur:=T2 (x:=x.fin) iK.fin.wh
    change aG _ _ _ (az (nextR x.fin)) at ur
    have gW:=iK.to;have je:=IV x.fin;have hwh:=iK.fin.wh;generalize nextR x.fin=l at ur C gW je;refine au (nt rfl (ah oG (ai _ _ _)) V.h) ak (lP V.h) ?_;refine au (dI (vs:=bE _) rfl (ah oG (ai _ _ _)) V.h V.h rfl) ak (dJ V.h V.h (by first|(simp;done)|omega|exact bf rfl)) ?_;refine cl uo ?_;refine cl ur ?_;refine ab ?_;have CP:jF f.blocks u k=l.foldl (ic x.fin w') u:=C
    refine aa (cZ (α:=Nat×Nat)
     (fun j=>⟨ay [(1,.pt (bd p q f)),(4,.rs 1 0 n),(5,.rs 2 0 n),(8,B ((l.take j.1).foldl (ic x.fin w') u).ch),(10,.rp N 0),(11,.rp (N+1) 0),(58,cF f.blocks),(59,I n),(60,I k),(82,az l),(83,I l.length),(84,I j.1)],up (up (cq [(1,.cells (cD ((l.take j.1).foldl (ic x.fin w') u).wsq) 201),(2,.cells (((l.take j.1).foldl (ic x.fin w') u).re.map B) 4)]) N (some (.cells (bi x) 69))) (N+1) (some (.cells (w'.map cA) 201)),j.2⟩)
     (fun j=>j.1<=l.length/\N+2<=j.2) (fun j=>l.length - j.1) (0,N+2) (sR eH rfl) ⟨Nat.zero_le _,a6 _⟩ ?_)
    rintro⟨j,N'⟩ ⟨hj,hN'⟩;dsimp only at hj hN' ⊢;have HT:=(Ek (J:=kf n) (φ:=p6) (f:=ic x.fin w') (l:=l.take j) (fun t ht s hs=>OR hs (gW t (List.mem_of_mem_take ht))) cn).1;have U:∀ t,l[j]? =some t->(l.take (j+1)).foldl (ic x.fin w') u=ic x.fin w' ((l.take j).foldl (ic x.fin w') u) t:=fun t ht=>BA ht;have Cs:j=l.length->(l.take j).foldl (ic x.fin w') u=jF f.blocks u k:=fun e=>by rw[CP,dR oG]
    generalize (l.take j).foldl (ic x.fin w') u=v at HT U Cs;clear lw lr kZ O mo;have lw:=HT.lw;have lr:=HT.lr;have kZ:=HT.kZ;refine SS ?_;refine aa ⟨_,rfl,fun h=>?_,fun h=>?_⟩
    .have c8:j<l.length:=by simpa using h
     have ht:l[j]? =some l[j]:=bx c8;have DK:=gW _ (eE c8);generalize l[j]=t at ht DK;obtain⟨i,rfl⟩:=gd DK.1;have cE:i<n:=by omega
     have O:v.wsq[i]? =some v.wsq[i]:=bx oG;have mo:v.re[i]? =some v.re[i]:=bx oG;have NK:=kZ _ (eE (h:=by omega):v.wsq[i]∈v.wsq);generalize v.wsq[i]=y at O NK;generalize v.re[i]=b at mo;have kd:=lI (f:=B) mo;have vW:=vW (x:=x.fin) (b:=(i:Int)) (w:=w') tQ (by have:=iK.fin.wh;omega) (by have:=iK.fin.wr;omega);have WD:=PA x.fin i w';rw[tQ] at WD;have GW:=GW NK WD;have C0:=PC y (iV x.fin i w');rw[NK] at C0;have X:=XZ (x:=x.fin) (w:=w') O mo;have no:=Yy (x:=x.fin) (w:=w') O mo;generalize lQ y (iV x.fin i w')=z at GW C0 X no;refine ws ?_;refine aJ ?_;refine aa (Br YA ?_);refine ab ?_;refine au (xe rfl rfl (ah oG (ah oG (ai _ _ _))) V.h V.h) ak ⟨V.h,oG⟩ ?_;refine au (dI rfl (ah oG (ah oG (ai _ _ _))) V.h V.h (Gy oN oN)) ak (dJ V.h V.h (xT oN oN)) ?_;refine au (nt rfl (ah oG (ai _ _ _)) V.h) ak (lP V.h) ?_;refine au (dI (vs:=bE _) rfl (ah oG (ai _ _ _)) V.h V.h rfl) ak (dJ V.h V.h (by first|(simp;done)|omega|exact bf rfl)) ?_;refine SS ?_;refine au (dI rfl (ai _ _ _) V.h V.h (mK (by first|rfl|exact bf rfl|(simp;done)|(simp;omega)|omega))) ak (dJ V.h V.h (by first|rfl|exact bf rfl|(simp;done)|(simp;omega)|omega)) ?_;refine cl vW ?_;refine cl GW ?_;refine ab ?_;refine cG cP (ca (sR (l:=[(1,.pt (bd p q f)),(4,.rs 1 0 n),(5,.rs 2 0 n),(8,B v.ch),(10,.rp N 0),(11,.rp (N+1) 0),(14,I i),(15,.rp N' 0),(58,cF f.blocks),(59,I n),(60,I k),(82,az l),(83,I l.length),(84,I j)]) (m':=up (up (up (cq [(1,.cells (cD v.wsq) 201),(2,.cells (v.re.map B) 4)]) N (some (.cells (bi x) 69))) (N+1) (some (.cells (w'.map cA) 201))) N' (some (.cells (z.map cA) 201))) eH (tG _ _ _ _)) (gZ YB ?_));refine ab ?_;refine au (nB rfl rfl (ah oG (ah oG (ah oG rfl))) V.h V.h) ak ⟨V.h,oG⟩ ?_;refine au (fQ rfl (ah oG (ah oG (ah oG rfl))) kd V.h) ak (fR V.h V.h kd) ?_;refine ab ?_;refine bS rfl rfl (dI rfl (ai _ _ _) V.h V.h (mK (by first|rfl|exact bf rfl|(simp;done)|(simp;omega)|omega))) (fun hc=>⟨ak,(dJ V.h V.h (by first|rfl|exact bf rfl|(simp;done)|(simp;omega)|omega))⟩) ?_;refine ab ?_;refine bS rfl rfl (xe rfl rfl (ah oG (ah oG (ah oG (ai _ _ _)))) V.h V.h) (fun hc=>⟨ak,⟨V.h,oG⟩⟩) ?_;refine bS rfl rfl (dI rfl (ah oG (ah oG (ah oG (ai _ _ _)))) V.h V.h (Gy oN oN)) (fun hc=>⟨ak,(dJ V.h V.h (xT oN oN))⟩) ?_;refine bS rfl rfl (agi rfl rfl (by first|assumption|(simp;omega)|omega)) (fun hc=>⟨ak,(agj (by first|assumption|(simp;omega)|omega))⟩) ?_;refine SS ?_;refine cG cP (aE rfl (fun h=>?_) fun h=>?_)
     .have X:=X (by
       cases b with
       |false=>exact .inl rfl
       |true=>exact .inr (by simpa using h))
      have U:=(U _ ht).trans X;clear X no;refine fv ?_;refine bj ?_;refine au (dI rfl (ai _ _ _) V.h V.h (mK (by first|rfl|exact bf rfl|(simp;done)|(simp;omega)|omega))) ak (dJ V.h V.h (by first|rfl|exact bf rfl|(simp;done)|(simp;omega)|omega)) ?_;refine au (xe rfl rfl (ah oG (ah oG (ah oG (ai _ _ _)))) V.h V.h) ak ⟨V.h,oG⟩ ?_;refine bD (eI rfl rfl (ah oG (ah oG (ah oG (ai _ _ _)))) (Tw oC oN oN (by first|assumption|(simp;omega)|(simp;done)))) ak (BN (by first|(simp;omega)|(simp;done)) (xT oN oN) (nO _)) ?_;refine au (nB rfl rfl (ah oG (ah oG (ah oG (ah oG rfl)))) V.h V.h) ak ⟨V.h,oG⟩ ?_;refine bD (di (d:=.s (.bool _)) (cs':=_) rfl rfl (ah oG (ah oG (ah oG (ah oG rfl)))) rfl rfl) ak (bN V.h V.h (by first|(simp;done)|exact⟨rfl,bf rfl⟩|(simp;omega)) rfl) ?_;refine SS ?_;refine aa ?_;refine ab ?_
      refine aa (bQ (j+1,N'+1) (bY (ml:=[(N+1,.cells (w'.map cA) 201),(N,.cells (bi x) 69),(1,.cells (cD ((l.take (j+1)).foldl (ic x.fin w') u).wsq) 201),(2,.cells (((l.take (j+1)).foldl (ic x.fin w') u).re.map B) 4)]) ⟨rfl,rfl,rfl,?_,rfl,rfl,rfl,rfl,rfl,rfl,rfl,rfl,trivial⟩
       ⟨ah oG (ah oG (ah oG (ai _ _ _))),ah oG (ah oG (ah oG (ah oG (ai _ _ _)))),ah oG ?_,?_,trivial⟩) ⟨oM,oM⟩ oM)
      .dsimp only;rw[U];rfl
      .rw[U];exact ai _ _ _
      .rw[U];dsimp only;rw[List.map_set];exact ai _ _ _
     .have no:=no (by
       cases b with
       |false=>simp at h
       |true=>simpa using h)
      have U:=(U _ ht).trans no;refine ig ?_;refine ab ?_
      refine aa (bQ (j+1,N'+1) (bY (ml:=[(N+1,.cells (w'.map cA) 201),(N,.cells (bi x) 69),(1,.cells (cD ((l.take (j+1)).foldl (ic x.fin w') u).wsq) 201),(2,.cells (((l.take (j+1)).foldl (ic x.fin w') u).re.map B) 4)]) ⟨rfl,rfl,rfl,?_,rfl,rfl,rfl,rfl,rfl,rfl,rfl,rfl,trivial⟩
       ⟨ah oG (ai _ _ _),ah oG (ah oG (ai _ _ _)),?_,?_,trivial⟩) ⟨oM,oM⟩ oM)
      .dsimp only;rw[U];rfl
      .rw[U];exact ah oG (ah oG (ah oG rfl))
      .rw[U];exact ah oG (ah oG (ah oG rfl))
    .have bC:¬ j<l.length:=by simpa using h
     have vl:=Cs oG;subst vl;show aj _ _ _ _ _ _ _ _ _;refine ab ?_;refine aa (bQ (k+1,N') (bY ⟨rfl,rfl,rfl,?_,rfl,rfl,rfl,trivial⟩ ⟨?_,?_,trivial⟩) ⟨oM,oM⟩ oM)
     .dsimp only;rw[eS];rfl
     .dsimp only;rw[eS];exact ah oG (ah oG rfl)
     .dsimp only;rw[eS];exact ah oG (ah oG rfl)
   .have bC:¬ k<n:=by simpa using h
    have hl:=Gs oG;subst hl;refine bQ (sW f.blocks s0,N) (bY eH eH) ⟨cn,hN,fun hc=>?_,fun hc=>?_⟩ ?_
    .refine⟨eA,?_,?_⟩
     .have:=T4.2;unfold p6 at this;show wL (sW f.blocks s0)<eA;rw[if_pos hc] at this;omega
     .dsimp only at hc ⊢;rw[<- T3,uK,if_pos hc]
    .dsimp only at hc ⊢;rw[<- T3,uK,if_neg (by simp[hc])]
    .have:=T4.2;unfold p6 at this;dsimp only;rw[if_pos h0];split at this<;>rename_i hc
     .rw[if_pos hc];omega
     .rw[if_neg hc];omega
  .have hR':=Vo h;subst hR';exact⟨N0,bY eH eH,yz⟩
 .rintro s ⟨n',hg,Mx⟩;refine⟨_,hg,aI ?_⟩;refine bj ?_;refine aa (ca (dX [(1,cD R.wsq,201),(2,R.re.map B,4)] ⟨rfl,acQ oG rfl .map,trivial⟩ (l:=[(2,.sl (cD R.wsq) n),(3,.sl (R.re.map B) n)]) ⟨?_,?_,trivial⟩) (zY rfl rfl rfl))
  .show sub (c7 2 (R.re.map B) (prog.cellsOf 4)) (sub (c7 1 (cD R.wsq) (prog.cellsOf 201)) (D.rs 1 0 n))=_;rw[zq (by rw[qJ,IT Mx.kZ,Mx.lw]),adN]
  .show sub (c7 2 (R.re.map B) (prog.cellsOf 4)) (sub (c7 1 (cD R.wsq) (prog.cellsOf 201)) (D.rs 2 0 n))=_;rw[IU oG,zq (by rw[c4,List.length_map,Mx.lr,Nat.mul_one])]
end Go.Proofs.Tryz.K
namespace Go.Abs
def jc(r:Nat)(l:List D):D:=match l with
 |[]=>.z
 |_=>.rs r 0 l.length
theorem Gz{r:Nat}{l:List D}(h:l≠[]):jc r l=.rs r 0 l.length:=by cases l with
 |nil=>exact absurd rfl h
 |cons=>rfl
def qK(ρ:Nat->Nat)(L:Nat->List D)(n:Nat):List D:=(range n).map fun i=>jc (ρ i) (L i)
@[simp] theorem al4 (ρ : Nat -> Nat) (L : Nat -> List D) (n : Nat) : (qK ρ L n).length = n := by simp [qK]
theorem abv{ρ:Nat->Nat}{L:Nat->List D}{n i:Nat}(hi:i<n):∃ cs,(qK ρ L n).drop i=jc (ρ i) (L i)::cs:=
 ⟨_,lI (f:=fun i=>jc (ρ i) (L i)) (by simp[hi])⟩
theorem ZR{α:Type}{F:Nat->α}{n i:Nat}{x:α}:((range n).map F).set i x=(range n).map (up F i x):=by
 apply List.ext_getElem?;intro k;rw[List.getElem?_set];simp only[List.length_map,List.length_range,List.getElem?_map];split
 .rename_i e;subst e;split
  .rename_i h;simp[h,ai]
  .rename_i h;simp[h]
 .rename_i e;by_cases hk:k<n
  .simp[hk,aA F x (Ne.symm e)]
  .simp[hk]
theorem acT{ρ:Nat->Nat}{L:Nat->List D}{n i r:Nat}{l:List D}(hl:l≠[]):(qK ρ L n).set i (.rs r 0 l.length)=qK (up ρ i r) (up L i l) n:=by
 unfold qK;rw[ZR];refine congrArg (fun F=>(range n).map F) (funext fun k=>?_);simp only[up];split
 .rw[Gz hl]
 .rfl
structure p7(m:Mem)(nx j n:Nat)(e et:TypeId)(ρ:Nat->Nat)(L:Nat->List D):Prop where
 row:m j=some (.cells (qK ρ L n) e)
 DL:j<nx
 G8:∀ i,i<n->L i≠[]->m (ρ i)=some (.cells (L i) et)
 lt:∀ i,i<n->L i≠[]->ρ i<nx
 ne:∀ i,i<n->L i≠[]->ρ i≠j
 inj:∀ i k,i<n->k<n->L i≠[]->L k≠[]->ρ i=ρ k->i=k
theorem p7.ext{m m':Mem}{nx an j n:Nat}{e et:TypeId}{ρ:Nat->Nat}{L:Nat->List D}(h:p7 m nx j n e et ρ L)(hm:∀ q,q<nx->m' q=m q)(hn:nx<=an):p7 m' an j n e et ρ L:=
 ⟨(hm j h.DL).trans h.row,Nat.lt_of_lt_of_le h.DL hn,fun i hi hl=>(hm _ (h.lt i hi hl)).trans (h.G8 i hi hl),fun i hi hl=>Nat.lt_of_lt_of_le (h.lt i hi hl) hn,h.ne,h.inj⟩
theorem p7.WE{m m':Mem}{nx an j n i r:Nat}{e et:TypeId}{ρ:Nat->Nat}{L:Nat->List D}{l:List D}(h:p7 m nx j n e et ρ L)(hi:i<n)(hl:l≠[])(hr:nx<=r)(eh:r<an)
 (hj:m' j=some (.cells ((qK ρ L n).set i (.rs r 0 l.length)) e)) (af:m' r=some (.cells l et)) (hk:∀ q,q<nx->q≠j->(L i≠[]->q≠ρ i)->m' q=m q):p7 m' an j n e et (up ρ i r) (up L i l):=by
 have c8:=h.DL
 have old:∀ k,k<n->k≠i->L k≠[]->m' (ρ k)=some (.cells (L k) et):=fun k O J C=>
  (hk _ (h.lt k O C) (h.ne k O C) fun yk e=>J (h.inj k i O hi C yk e)).trans (h.G8 k O C)
 refine⟨by rw[hj,acT hl],oG,fun k O C=>?_,fun k O C=>?_,fun k O C=>?_,fun a b ha hb HU yV X=>?_⟩
 .by_cases J:k=i
  .subst J;rw[ai,ai];exact af
  .rw[aA _ _ J] at C ⊢;rw[aA _ _ J];exact old k O J C
 .by_cases J:k=i
  .subst J;rw[ai];exact eh
  .rw[aA _ _ J] at C ⊢;have:=h.lt k O C;omega
 .by_cases J:k=i
  .subst J;rw[ai];omega
  .rw[aA _ _ J] at C ⊢;exact h.ne k O C
 .by_cases HV:a=i
  .by_cases U:b=i
   .omega
   .subst HV;rw[ai,aA _ _ U] at X;rw[aA _ _ U] at yV;have:=h.lt b hb yV;omega
  .by_cases U:b=i
   .subst U;rw[ai,aA _ _ HV] at X;rw[aA _ _ HV] at HU;have:=h.lt a ha HU;omega
   .rw[aA _ _ HV] at HU X;rw[aA _ _ U] at yV X;exact h.inj a b ha hb HU yV X
theorem abw{m:Mem}{nx j n:Nat}{e et:TypeId}{ρ:Nat->Nat}(hj:j<nx)(hm:m j=some (.cells (replicate n .z) e)):p7 m nx j n e et ρ (fun _=>[]):=by
 refine⟨?_,hj,fun _ _ h=>absurd rfl h,fun _ _ h=>absurd rfl h,fun _ _ h=>absurd rfl h,fun _ _ _ _ h=>absurd rfl h⟩;rw[hm];congr 2;unfold qK jc;rw[List.map_const',List.length_range]
theorem acU(n:Nat):dq n [.z]=replicate n D.z:=by
 unfold dq
 induction n with
 |zero=>rfl
 |succ n ih=>rw[List.replicate_succ,List.replicate_succ,List.flatten_cons,ih];rfl
def mO(X:Nat->Prop)(d:D):Prop:=∀ i cs sz,X i->sub (c7 i cs sz) d=d
def pE(X:Nat->Prop)(r:Row):Prop:=∀ i cs sz,X i->Row.sub (c7 i cs sz) r=r
theorem mO.s{X:Nat->Prop}(v:Value):mO X (.s v):=fun _ _ _ _=>rfl
theorem mO.sl{X:Nat->Prop}(es:List D)(n:Nat):mO X (.sl es n):=fun _ _ _ _=>rfl
theorem mO.z{X:Nat->Prop}:mO X .z:=fun _ _ _ _=>rfl
theorem mO.u{X:Nat->Prop}:mO X .u:=fun _ _ _ _=>rfl
theorem mO.rs{X:Nat->Prop}{j off n:Nat}(h:¬ X j):mO X (.rs j off n):=fun i cs sz hi=>IU fun e=>h (e▸hi)
theorem pE.cells{X:Nat->Prop}{cs:List D}{e:TypeId}(h:∀ d∈cs,mO X d):pE X (.cells cs e):=fun i C sz hi=>by
 show Row.cells (cs.map _) e=_;congr 1
 induction cs with
 |nil=>rfl
 |cons d cs ih=>rw[List.map_cons,h d oS i C sz hi,ih fun d hd=>h d (by simp[hd])]
theorem pE.aiV{X:Nat->Prop}{cs:List D}{e:TypeId}(h:yx cs):pE X (.cells cs e):=pE.cells fun d hd=>by obtain⟨v,rfl⟩:=h d hd;exact .s v
theorem uV(d:D):Wk d d:=fun _ _ _ _ h=>h
theorem CR:Wk .z (.sl [] 0):=fun F β w v hv=>by
 obtain⟨x,rfl⟩:=hv.Ac;exact .gR x 0
theorem YC{X:Nat->Prop}{l:List (Nat×D)}(h:∀ x∈l,mO X x.2)(t:Nat):mO X (ay l t):=by
 induction l with
 |nil=>exact .u
 |cons x l ih=>
  obtain⟨k,d⟩:=x;simp only[ay];split
  .exact h (k,d) oS
  .exact ih fun y hy=>h y (by simp[hy])
theorem YD{X:Nat->Prop}{l:List (Nat×Row)}(h:∀ x∈l,pE X x.2){q:Nat}{r:Row}(hq:cq l q=some r):pE X r:=by
 induction l with
 |nil=>simp[cq] at hq
 |cons x l ih=>
  obtain⟨k,d⟩:=x;simp only[cq] at hq;split at hq
  .cases hq;exact h (k,r) oS
  .exact ih (fun y hy=>h y (by simp[hy])) hq
theorem ZS{l:List (Nat×Row)}{q:Nat}(h:∀ x∈l,x.1≠q):cq l q=none:=by
 induction l with
 |nil=>rfl
 |cons x l ih=>
  obtain⟨k,d⟩:=x;simp only[cq];rw[if_neg fun e=>h (k,d) oS e.symm];exact ih fun y hy=>h y (by simp[hy])
section
variable{P:Program}
open Classical in
noncomputable def jL(ml:List (Nat×Row))(j n k:Nat)(e et:TypeId)(ρ:Nat->Nat)(L:Nat->List D):Mem:=fun q=>
 if q=j then some (.cells ((range n).map fun i=>if i<k then .sl (L i) (L i).length else jc (ρ i) (L i)) e)
 else if h:∃ i,k<=i/\i<n/\L i≠[]/\ρ i=q then some (.cells (L (Classical.choose h)) et)
 else cq ml q
theorem abx{m:Mem}{nx j n k:Nat}{e et:TypeId}{ρ:Nat->Nat}{L:Nat->List D}{l:List (Nat×D)}{ml:List (Nat×Row)}{X:Nat->Prop}(h:p7 m nx j n e et ρ L)(hs:∀ i,yx (L i))(het:P.cellsOf et=1)
 (hX:∀ i,i<n->L i≠[]->X (ρ i)) (DN:¬ X j) (hl:∀ x∈l,mO X x.2) (ud:∀ x∈ml,pE X x.2/\¬ X x.1) (hk:k<n):
 aC P ⟨ay l,jL ml j n k e et ρ L,nx⟩ ⟨ay l,jL ml j n (k+1) e et ρ L,nx⟩:=by
 by_cases J:L k=[]
 .refine .pL _ _ _ _ _ (fun t=>uV _) fun q=>?_;by_cases hq:q=j
  .subst hq;right;refine⟨_,_,e,by simp only[jL,if_true];rfl,by simp only[jL,if_true];rfl,oS,fun i d d' hd iZ=>?_⟩;simp only[List.getElem?_map,cN] at hd iZ;obtain⟨a,ha,rfl⟩:=hd;obtain⟨b,hb,rfl⟩:=iZ;rw[ha] at hb;cases hb;by_cases h1:a<k
   .rw[if_pos h1,if_pos oG];exact uV _
   .rw[if_neg h1];by_cases h2:a=k
    .subst h2;rw[if_pos oG,J];exact CR
    .rw[if_neg oG];exact uV _
  .left;simp only[jL,if_neg hq]
   have:(∃ i,k+1<=i/\i<n/\L i≠[]/\ρ i=q)↔(∃ i,k<=i/\i<n/\L i≠[]/\ρ i=q):=by
    constructor
    .rintro⟨i,h1,h2⟩;exact⟨i,oG,h2⟩
    .rintro⟨i,h1,h2,O,U⟩
     exact⟨i,by
      rcases Nat.lt_or_ge k i with g|g
      .exact g
      .have:i=k:=by omega
       subst this;exact absurd J O,h2,O,U⟩
   by_cases hc:∃ i,k<=i/\i<n/\L i≠[]/\ρ i=q
   .rw[dif_pos (this.2 hc),dif_pos hc];have C:=Classical.choose_spec hc;have e2:=Classical.choose_spec (this.2 hc);have:Classical.choose (this.2 hc)=Classical.choose hc:=h.inj _ _ e2.2.1 C.2.1 e2.2.2.1 C.2.2.1 (e2.2.2.2.trans C.2.2.2.symm);rw[this]
   .rw[dif_neg (fun h=>hc (this.1 h)),dif_neg hc]
 .have WG:ρ k≠j:=h.ne k hk J
  have af:jL ml j n k e et ρ L (ρ k)=some (.cells (L k) et):=by
   have hc:∃ i,k<=i/\i<n/\L i≠[]/\ρ i=ρ k:=⟨k,a6 _,hk,J,rfl⟩
   simp only[jL,if_neg WG,dif_pos hc];have C:=Classical.choose_spec hc;have:Classical.choose hc=k:=h.inj _ _ C.2.1 hk C.2.2.1 J C.2.2.2;rw[this]
  have hg:=aC.freeze (P:=P) (ay l) (jL ml j n k e et ρ L) nx (ρ k) (L k) et af;have C:(fun t=>sub (c7 (ρ k) (L k) (P.cellsOf et)) (ay l t))=ay l:=funext fun t=>YC hl t _ _ _ (hX k hk J)
  have e2:(fun q=>if q=ρ k then none else(jL ml j n k e et ρ L q).map (Row.sub (c7 (ρ k) (L k) (P.cellsOf et))))=jL ml j n (k+1) e et ρ L:=by
   funext q;by_cases DO:q=ρ k
   .subst DO;rw[if_pos rfl]
    have hc:¬ ∃ i,k+1<=i/\i<n/\L i≠[]/\ρ i=ρ k:=by
     rintro⟨i,g1,g2,g3,g4⟩;have:=h.inj _ _ g2 hk g3 J g4;omega
    simp only[jL,if_neg WG,dif_neg hc];exact(ZS fun x hx e=>(ud x hx).2 (e▸hX k hk J)).symm
   .rw[if_neg DO];by_cases Bo:q=j
    .subst Bo;simp only[jL,if_true,Option.map_some];congr 1;show Row.cells (List.map _ (List.map _ _)) e=_;rw[List.map_map];congr 1;refine List.map_congr_left fun i hi=>?_;have cE:i<n:=by simpa using hi
     simp only[Function.comp_apply];by_cases h1:i<k
     .rw[if_pos h1,if_pos oG];rfl
     .rw[if_neg h1];by_cases h2:i=k
      .subst h2;rw[if_pos oG,Gz J,het];exact zq oG
      .rw[if_neg oG];by_cases O:L i=[]
       .rw[O];rfl
       .rw[Gz O];exact IU fun e=>h2 (h.inj _ _ cE hk O J e)
    .simp only[jL,if_neg Bo]
     have this:(∃ i,k+1<=i/\i<n/\L i≠[]/\ρ i=q)↔(∃ i,k<=i/\i<n/\L i≠[]/\ρ i=q):=by
      constructor
      .rintro⟨i,h1,h2⟩;exact⟨i,oG,h2⟩
      .rintro⟨i,h1,h2,O,U⟩
       exact⟨i,by
        rcases Nat.lt_or_ge k i with g|g
        .exact g
        .have:i=k:=by omega
         subst this;exact absurd U.symm DO,h2,O,U⟩
     by_cases hc:∃ i,k<=i/\i<n/\L i≠[]/\ρ i=q
     .rw[dif_pos (this.2 hc),dif_pos hc];have C:=Classical.choose_spec hc;have e2:=Classical.choose_spec (this.2 hc);have:Classical.choose (this.2 hc)=Classical.choose hc:=h.inj _ _ e2.2.1 C.2.1 e2.2.2.1 C.2.2.1 (e2.2.2.2.trans C.2.2.2.symm);rw[this];exact congrArg some (pE.aiV (X:=X) (hs _) _ _ _ (hX k hk J))
     .rw[dif_neg (fun h=>hc (this.1 h)),dif_neg hc];cases hm:cq ml q with
      |none=>rfl
      |some r=>exact congrArg some (YD (fun x hx=>(ud x hx).1) hm _ _ _ (hX k hk J))
  rw[C,e2] at hg;exact hg
theorem ZT{env:Env}{m:Mem}{nx j n:Nat}{e et:TypeId}{ρ:Nat->Nat}{L:Nat->List D}{l:List (Nat×D)}{ml:List (Nat×Row)}(X:Nat->Prop)(h:p7 m nx j n e et ρ L)(hs:∀ i,yx (L i))(J:P.cellsOf et=1)
 (hX:∀ i,i<n->L i≠[]->X (ρ i)) (O:¬ X j) (he:lj l env) (hl:∀ x∈l,mO X x.2) (hm:Cb ml m) (U:∀ x∈ml,pE X x.2/\¬ X x.1):
 aC P ⟨env,m,nx⟩ ⟨ay l,cq ((j,.cells ((range n).map fun i=>.sl (L i) (L i).length) e)::ml),nx⟩:=by
 have key:∀ k,k<=n->aC P ⟨ay l,jL ml j n 0 e et ρ L,nx⟩ ⟨ay l,jL ml j n k e et ρ L,nx⟩:=fun k=>by
  induction k with
  |zero=>exact fun _=>.refl _
  |succ k ih=>exact fun hk=>(ih oG).trans (abx h hs J hX O hl U oG)
 have h0:aC P ⟨env,m,nx⟩ ⟨ay l,jL ml j n 0 e et ρ L,nx⟩:=by
  refine(aC.forget env _ m nx (pz he)).trans (.drop _ _ _ _ fun q=>?_);by_cases hq:q=j
  .subst hq;left;simp only[jL,if_true,Nat.not_lt_zero,if_false];exact h.row.symm
  .simp only[jL,if_neg hq];by_cases hc:∃ i,0<=i/\i<n/\L i≠[]/\ρ i=q
   .rw[dif_pos hc];have C:=Classical.choose_spec hc;left;have:=h.G8 _ C.2.1 C.2.2.1;rw[C.2.2.2] at this;exact this.symm
   .rw[dif_neg hc];exact JD hm q
 refine h0.trans ((key n (a6 _)).trans (.drop _ _ _ _ fun q=>.inl ?_));by_cases hq:q=j
 .subst hq;simp only[cq,jL,if_true];congr 2;exact List.map_congr_left fun i hi=>by rw[if_pos (by simpa using hi)]
 .simp only[cq,if_neg hq,jL];rw[dif_neg];rintro⟨i,g1,g2,_⟩;omega
end
section
variable{P:Program}{env:Env}{m:Mem}{nx:Nat}{x y:Operand}{t e:TypeId}{k:IntKind}
theorem Qt{w:List Int}{rest:List D}{sz:Nat}(h:w.length=sz):(w.map cA++rest).take sz=w.map cA:=by
 rw[List.take_append_of_le_length (by simp[h]),dR (by simp[h])]
theorem SA{sz n i:Nat}{l:List (List Int)}{w:List Int}(hx:(opd env x).core=.sl (cD l) n)(hy:(opd env y).core=.s (.int k i))(he:aq P t=e)(hs:P.cellsOf e=sz)(hl:∀ w∈l,w.length=sz)(hz:l[i]? =some w):
 Ef P (.indexAddr t x y) env m nx ⟨aW P t=true/\0<=(i:Int)/\(i:Int)<n/\((i:Int).toNat+1)*sz<=(cD l).length,.pt (w.map cA++cD (l.drop (i+1))),[],[],0⟩:=
 KP hx hy he hs (by rw[iv];exact JN hl hz)
theorem SB{sz n i:Nat}{l:List (List Int)}{w:List Int}(ht:aW P t=true)(hl:∀ w∈l,w.length=sz)(hz:l[i]? =some w)(hn:i<n):aW P t=true/\0<=(i:Int)/\(i:Int)<n/\((i:Int).toNat+1)*sz<=(cD l).length:=by
 have:=xT hl hz;refine⟨ht,oG,oG,?_⟩;rw[iv,Nat.add_mul,Nat.one_mul];exact this
theorem mv{i:Nat}{cs:List D}{l:List (Nat×D)}(hm:m i=some (.cells cs e))(hl:lj l fun t=>sub (c7 i cs (P.cellsOf e)) (env t)):aC P ⟨env,m,nx⟩ ⟨ay l,fun _=>none,nx⟩:=
 dX [(i,cs,e)] ⟨hm,trivial⟩ hl
theorem iP{l:List (Nat×D)}(hl:lj l env):aC P ⟨env,m,nx⟩ ⟨ay l,fun _=>none,nx⟩:=Qu hl fun _=>.inr rfl
end
end Go.Abs
namespace Go.Argus
open Go.Proofs.Tryz.K (nextR)
def jj(b:Nat)(L:Nat->List Int)(t:Int):Nat->List Int:=up L t.toNat (L t.toNat++[(b:Int)])
def tq(bs:List bp)(L:Nat->List Int)(b:Nat):Nat->List Int:=match bs[b]? with
 |none=>L
 |some x=>(nextR x.fin).foldl (jj b) L
def dd(bs:List bp)(k:Nat):Nat->List Int:=(range k).foldl (tq bs) fun _=>[]
def kC(bs:List bp):List (List Int):=(range bs.length).map (dd bs bs.length)
def kx(L:List (List Int)):D:=.sl (L.map az) L.length
theorem aby(L:List (List Int)):Tr (kx L):=.sl (.map fun _=>cC _)
theorem abz{F:Nat->List Int}{n:Nat}:(D.sl ((range n).map fun i=>.sl ((F i).map I) ((F i).map I).length) n)=kx ((range n).map F):=by
 unfold kx;rw[List.map_map,List.length_map,List.length_range];congr 1;exact List.map_congr_left fun i _=>by simp[az]
theorem OS{b:Nat}{L:Nat->List Int}{t:Int}{c:Nat}(h:∀ i,(L i).length<=c):∀ i,(jj b L t i).length<=c+1:=fun i=>by
 unfold jj;simp only[up];split
 .have:=h t.toNat;simp;omega
 .have:=h i;omega
theorem adO{L:Nat->List Int}{k:Nat}{l:List Int}:(fun i=>(up L k l i).map I)=up (fun i=>(L i).map I) k (l.map I):=by
 funext i;simp only[up];split<;>rfl
theorem uw{P:Nat->Bool}{n k:Nat}(hk:k<n)(h:P k=false):(range n).all P=false:=by
 refine Bool.eq_false_iff.2 fun ht=>?_;have:=cv.1 ht k (by simpa using hk);rw[h] at this;cases this
theorem sM{P:Nat->Bool}{k:Nat}(h:(range k).all P=true)(hk:P k=true):(range (k+1)).all P=true:=by
 rw[List.range_succ,List.all_append,h];simp[hk]
abbrev ry(l:List Bool):D:=.sl (l.map B) l.length
def mL:bp:=⟨[],⟨0,0,0,0,0,.empty,rL,[],[],0⟩⟩
def uW(bs:List bp)(s:CS)(b:Nat)(y:bn)(i:Nat):Bool:=
 let p:=((dd bs bs.length b).getD i 0).toNat
 !(s.re.getD p false)||nP (iV (bs.getD p mL).fin b (nA (bs.getD p mL) (s.wsq.getD p [])).1) (y.args.getD i 0).toNat
def Ax(bs:List bp)(s:CS)(b:Nat)(y:bn):Bool:=(range (dd bs bs.length b).length).all (uW bs s b y)
def jn(y:bn):Bool:=y.op==19
def sX(bs:List bp)(s:CS)(b:Nat):Bool:=
 !(s.re.getD b false)||((nA (bs.getD b mL) (s.wsq.getD b [])).2&&((bs.getD b mL).ins.takeWhile jn).all (Ax bs s b))
def zB(bs:List bp)(args:Nat):Bool:=(range bs.length).all (sX bs (rV bs args))
theorem takeWhile_eq{α:Type}{p:α->Bool}{l:List α}{j:Nat}(h:∀ y∈l.take j,p y=true)(h':∀ y,l[j]? =some y->p y=false):l.takeWhile p=l.take j:=by
 induction l generalizing j with
 |nil=>simp
 |cons a l ih=>cases j with
  |zero=>have:=h' a rfl;simp[this]
  |succ j=>
   have ha:=h a oS;rw[List.takeWhile_cons,if_pos ha,List.take_succ_cons,ih (j:=j) (fun y hy=>h y (by simp[hy])) (fun y hy=>h' y (by simpa using hy))]
theorem OT{b:Nat}{p:Int}:∀ {l:List Int} {L:Nat->List Int} {i:Nat},p∈(l.foldl (jj b) L) i↔p∈L i\/(p=b/\∃ t∈l,t.toNat=i)
 |[],L,i=>by simp
 |t::l,L,i=>by
  rw[List.foldl_cons,OT (l:=l)];unfold jj;simp only[up];by_cases h:i=t.toNat
  .subst h;simp only[if_true,List.mem_append,List.mem_singleton];constructor
   .rintro((h|h)|⟨h,u,h1,h2⟩)
    .exact .inl h
    .exact .inr ⟨h,t,oS,rfl⟩
    .exact .inr ⟨h,u,by simp[h1],h2⟩
   .rintro(h|⟨h,u,h1,h2⟩)
    .exact .inl (.inl h)
    .exact .inl (.inr h)
  .rw[if_neg h];constructor
   .rintro(h'|⟨h',u,h1,h2⟩)
    .exact .inl h'
    .exact .inr ⟨h',u,by simp[h1],h2⟩
   .rintro(h'|⟨h',u,h1,h2⟩)
    .exact .inl h'
    .rcases List.mem_cons.1 h1 with e|e
     .subst e;exact absurd h2.symm h
     .exact .inr ⟨h',u,e,h2⟩
theorem Iv{bs:List bp}{p:Int}{i:Nat}:∀ {k:Nat},p∈dd bs k i↔∃ b:Nat,p=b/\b<k/\∃ x,bs[b]? =some x/\∃ t∈nextR x.fin,t.toNat=i
 |0=>by simp[dd]
 |k+1=>by
  have ih:=Iv (bs:=bs) (p:=p) (i:=i) (k:=k);have e:dd bs (k+1)=tq bs (dd bs k) k:=by rw[dd,List.range_succ,List.foldl_append];rfl
  rw[e,tq];cases hx:bs[k]? with
  |none=>
   simp only;rw[ih];constructor
   .rintro⟨b,h1,h2,C⟩;exact⟨b,h1,oG,C⟩
   .rintro⟨b,h1,h2,x,C,J⟩;refine⟨b,h1,?_,x,C,J⟩;rcases Nat.lt_or_ge b k with g|g
    .exact g
    .have:b=k:=by omega
     subst this;rw[hx] at C;cases C
  |some x=>
   simp only;rw[OT,ih];constructor
   .rintro(⟨b,h1,h2,C⟩|⟨h1,h2⟩)
    .exact⟨b,h1,oG,C⟩
    .exact⟨k,h1,oG,x,hx,h2⟩
   .rintro⟨b,h1,h2,O,C,J⟩;rcases Nat.lt_or_ge b k with g|g
    .exact .inl ⟨b,h1,g,O,C,J⟩
    .have:b=k:=by omega
     subst this;rw[hx] at C;cases C;exact .inr ⟨h1,J⟩
theorem Ov{bs:List bp}{n:Nat}(hb:∀ b∈bs,xX n b):∀ (k:Nat) {s:CS},kf n s->kf n (uK bs k s)
 |0,_,h=>h
 |k+1,s,h=>by
  rw[uK];split
  .exact Ov hb k (Ig hb h).1
  .exact(Ig hb h).1
theorem abA{bs:List bp}{args:Nat}(hb:∀ b∈bs,xX bs.length b)(C:∀ u∈lq args,gm u):kf bs.length (rV bs args):=Ov hb _ (Ou C)
theorem PD{b:Nat}:∀ {l:List Int} {L:Nat->List Int} {c:Nat},(∀ i,(L i).length<=c)->∀ i,((l.foldl (jj b) L) i).length<=c+l.length
 |[],_,_,h,i=>h i
 |t::l,L,c,h,i=>by
  have:=PD (b:=b) (l:=l) (OS (t:=t) (b:=b) h) i;rw[List.foldl_cons,List.length_cons];omega
theorem OU{bs:List bp}(C:∀ b∈bs,b.fin.aD.length<=10):∀ (k i:Nat),(dd bs k i).length<=13*k
 |0,_=>by simp[dd]
 |k+1,i=>by
  have ih:=OU C k;have e:dd bs (k+1)=tq bs (dd bs k) k:=by rw[dd,List.range_succ,List.foldl_append];rfl
  rw[e,tq];cases hx:bs[k]? with
  |none=>have:=ih i;simp only;omega
  |some x=>
   have h1:=PD (l:=nextR x.fin) (b:=k) ih i;have h2:=IV x.fin;have J:=C x (cX hx);simp only;omega
theorem OV{bs:List bp}{n k:Nat}(hn:bs.length=n)(hk:k<n):(kC bs)[k]? =some (dd bs n k):=by
 subst hn;simp[kC,hk]
end Go.Argus
namespace Go.Proofs.Tryz.K
theorem Bp{p q:D}{f:aU}{n:Nat}(hp:Tr p)(hq:Tr q)(dx:p.one=true)(bG:q.one=true)(hn:f.blocks.length=n)(wz:n<=100000)(hw:∀ b∈f.blocks,b.fin.aD.length<=9)(ht:∀ b∈f.blocks,∀ t∈nextR b.fin,0<=t/\t<n):
 aG prog 93 [.agg (bd p q f)] (kx (kC f.blocks)):=by
 have bg:∀ a∈[D.agg (bd p q f)],Tr a:=.cons (lK hp hq f) .nil;refine bK aiW bg (aby _) ?_;rw[aiX];refine aI ?_;refine ab ?_;refine aa (ca (dX [(0,bd p q f,93)] eH (l:=[(1,.pt (bd p q f))]) eH) (aI ?_));refine bj ?_;refine iE (I1 rfl rfl V.h V.h) ak ⟨oG,rfl,oG,by rw[WH];omega,V.h⟩ ?_;refine SS ?_;have fA:((f.blocks.length:Nat):Int).toNat=n:=hn;refine aa (ca (bY (l:=[(1,.pt (bd p q f)),(3,.rs 1 0 n)]) (ml:=[(1,.cells (replicate n .z) 35)]) ⟨rfl,congrArg (fun k=>D.rs 1 0 k) fA,trivial⟩ ⟨?_,trivial⟩) (aX (aI ?_)))
 .exact congrArg (fun c=>some (Row.cells c 35)) ((congrArg (fun k=>dq k [D.z]) fA).trans (acU n))
 refine bV ?_
 refine aa (c6 (fun s=>∃ m nx ρ,aC prog s ⟨ay [(3,.rs 1 0 n)],m,nx⟩/\p7 m nx 1 n 35 3 ρ (fun i=>(dd f.blocks n i).map I)) (cZ (α:=Nat×Mem×Nat)
  (fun k=>⟨ay [(1,.pt (bd p q f)),(3,.rs 1 0 n),(15,cF f.blocks),(16,I n),(17,I k.1)],k.2.1,k.2.2⟩)
  (fun k=>k.1<=n/\(∃ ρ,p7 k.2.1 k.2.2 1 n 35 3 ρ (fun i=>(dd f.blocks k.1 i).map I))/\∀ i,(dd f.blocks k.1 i).length<=12*k.1) (fun k=>n - k.1) (0,cq [(1,.cells (replicate n .z) 35)],2)
  (ao ⟨rfl,rfl,rfl,congrArg (fun k:Nat=>I k) hn,rfl,trivial⟩) ⟨Nat.zero_le _,⟨fun _=>0,abw (show 1<2 by decide) rfl⟩,fun _=>a6 _⟩ ?_) ?_)
 .rintro⟨k,m,nx⟩ ⟨hk,⟨ρ,C⟩,hlen⟩;dsimp only at hk C hlen ⊢;have af:=C.row;have c8:=C.DL;refine SS ?_;refine aa ⟨_,rfl,fun h=>?_,fun h=>?_⟩
  .have ag:k<n:=by simpa using h
   have hx:f.blocks[k]? =some f.blocks[k]:=bx oG;have X:f.blocks[k]∈f.blocks:=eE _;generalize f.blocks[k]=x at hx X
   have eS:dd f.blocks (k+1)=(nextR x.fin).foldl (jj k) (dd f.blocks k):=by
    rw[dd,List.range_succ,List.foldl_append];show tq f.blocks _ k=_;rw[tq,hx];rfl
   generalize dd f.blocks k=L0 at C hlen af eS;refine ws ?_;refine dV ?_;have uo:=uo (x:=x.fin);have ur:=T2 (x:=x.fin) (hw x X)
   change aG _ _ _ (az (nextR x.fin)) at ur
   have gW:=ht x X;have je:=IV x.fin;have hwh:=hw x X;generalize nextR x.fin=l at ur gW je eS;refine aa (aI ?_);refine au (nt rfl (ai _ _ _) V.h) ak (lP V.h) ?_;refine au (dI (vs:=bE _) rfl (ai _ _ _) V.h V.h rfl) ak (dJ V.h V.h (by first|(simp;done)|omega|exact bf rfl)) ?_;refine cl uo ?_;refine cl ur ?_;refine ab ?_
   refine aa (cZ (α:=Nat×Mem×Nat)
    (fun j=>⟨ay [(1,.pt (bd p q f)),(3,.rs 1 0 n),(4,I k),(15,cF f.blocks),(16,I n),(17,I k),(25,az l),(26,I l.length),(27,I j.1)],j.2.1,j.2.2⟩)
    (fun j=>j.1<=l.length/\(∃ ρ,p7 j.2.1 j.2.2 1 n 35 3 ρ (fun i=>((l.take j.1).foldl (jj k) L0 i).map I))/\∀ i,((l.take j.1).foldl (jj k) L0 i).length<=12*k+j.1) (fun j=>l.length - j.1) (0,up m nx (some (.cells (bi x) 69)),nx+1)
    (sR eH (tG _ _ _ _)) ⟨Nat.zero_le _,⟨ρ,C.ext (fun q hq=>ah oG rfl) oM⟩,hlen⟩ ?_)
   clear C af hlen;rintro⟨j,m,nx⟩ ⟨hj,⟨ρ,C⟩,hlen⟩;dsimp only at hj C hlen ⊢;have af:=C.row;have c8:=C.DL;have U:∀ t,l[j]? =some t->(l.take (j+1)).foldl (jj k) L0=jj k ((l.take j).foldl (jj k) L0) t:=fun t ht=>BA ht;have Cs:j=l.length->(l.take j).foldl (jj k) L0=dd f.blocks (k+1):=fun e=>by rw[eS,dR oG]
   generalize (l.take j).foldl (jj k) L0=L at C hlen af U Cs;refine SS ?_;refine aa ⟨_,rfl,fun h=>?_,fun h=>?_⟩
   .have Vp:j<l.length:=by simpa using h
    have WI:l[j]? =some l[j]:=bx Vp;have DK:=gW _ (eE Vp);generalize l[j]=t at WI DK;obtain⟨i,rfl⟩:=gd DK.1;have J:i<n:=by omega
    have hL:=hlen i;have U:(l.take (j+1)).foldl (jj k) L0=up L i (L i++[(k:Int)]):=U _ WI
    have xS:∀ i,((l.take (j+1)).foldl (jj k) L0 i).length<=12*k+(j+1):=fun a=>by
     rw[U];exact OS (t:=(i:Int)) hlen a
    have WJ:(fun a=>((l.take (j+1)).foldl (jj k) L0 a).map I)=up (fun a=>(L a).map I) i ((L i++[(k:Int)]).map I):=by rw[U];exact adO
    obtain⟨cs,kd⟩:=abv (ρ:=ρ) (L:=fun i=>(L i).map I) J;refine ws ?_;refine aJ ?_;refine aa (fv ?_);by_cases hz:L i=[]
    .have NL:jc (ρ i) ((L i).map I)=.z:=by rw[hz];rfl
     rw[NL] at kd;refine dc ?_;refine U' ?_;refine au (nB rfl rfl (ah oG (ah oG af)) V.h V.h) ak ⟨V.h,oG⟩ ?_;refine bD (di (d:=.rs _ _ _) (cs':=_) rfl rfl (ah oG (ah oG af)) rfl rfl) ak (bN V.h V.h (by first|(simp;done)|exact⟨rfl,bf rfl⟩|(simp;omega)) rfl) ?_;refine aa ?_;refine ab ?_;refine aa (bQ (j+1,up (up (up m nx (some (.cells [I k] 3))) (nx+1) (some (.cells [I k] 3))) 1 (some (.cells ((qK ρ (fun i=>(L i).map I) n).set i (.rs (nx+1) 0 1)) 35)),nx+2) (ao eH) ⟨oM,⟨up ρ i (nx+1),?_⟩,xS⟩ oM);dsimp only;rw[WJ];refine C.WE J oS oG oG ?_ ?_ (fun q hq Bo _=>?_)
     .rw[hz];exact ai _ _ _
     .rw[hz];exact ah oG (ai _ _ _)
     .exact ah oG (ah oG (ah oG rfl))
    .have O:(L i).map I≠[]:=by simpa using hz
     have NL:jc (ρ i) ((L i).map I)=.rs (ρ i) 0 (L i).length:=by rw[Gz O,List.length_map]
     rw[NL] at kd;have bM:=C.G8 i J O;have hρn:=C.lt i J O;have hρ1:=C.ne i J O;refine dc ?_;refine Va ?_;refine au (nB rfl rfl (ah oG (ah oG (ah oG af))) V.h V.h) ak ⟨V.h,oG⟩ ?_;refine bD (di (d:=.rs _ _ _) (cs':=_) rfl rfl (ah oG (ah oG (ah oG af))) rfl rfl) ak (bN V.h V.h (by first|(simp;done)|exact⟨rfl,bf rfl⟩|(simp;omega)) rfl) ?_;refine aa ?_;refine ab ?_;refine aa (bQ (j+1,up (up (up (up m nx (some (.cells [I k] 3))) (ρ i) none) (nx+1) (some (.cells ((L i).map I++[I k]) 3))) 1 (some (.cells ((qK ρ (fun i=>(L i).map I) n).set i (.rs (nx+1) 0 ((L i).length+1))) 35)),nx+2) (ao eH) ⟨oM,⟨up ρ i (nx+1),?_⟩,xS⟩ oM);dsimp only;rw[WJ];refine C.WE J oS oG oG ?_ ?_ (fun q hq Bo Dm=>?_)
     .rw[List.length_map,List.length_append];exact ai _ _ _
     .rw[List.map_append];exact ah oG (ai _ _ _)
     .have:=Dm O;exact ah oG (ah oG (ah oG (ah oG rfl)))
   .have bC:¬ j<l.length:=by simpa using h
    have vl:=Cs oG;subst vl;show aj _ _ _ _ _ _ _ _ _;refine ab ?_;refine aa (bQ (k+1,m,nx) (ao eH) ⟨oM,⟨ρ,C⟩,fun i=>by have:=hlen i;dsimp only at this ⊢;omega⟩ oM)
  .have bC:¬ k<n:=by simpa using h
   have:k=n:=by omega
   subst this;exact⟨m,nx,ρ,ao eH,C⟩
 .rintro s ⟨m,nx,ρ,hg,C⟩;have DN:¬ ∃ i,i<n/\(dd f.blocks n i).map I≠[]/\ρ i=1:=fun⟨i,h1,h2,h3⟩=>C.ne i h1 h2 h3;refine⟨_,hg.trans (ZT (l:=[(3,.rs 1 0 n)]) (ml:=[]) (fun r=>∃ i,i<n/\(dd f.blocks n i).map I≠[]/\ρ i=r) C (fun _=>.map) c3 (fun i h1 h2=>⟨i,h1,h2,rfl⟩) DN ⟨rfl,trivial⟩ (fun x hx=>?_) trivial (fun x hx=>by cases hx)),aI ?_⟩
  .simp at hx;subst hx;exact .rs DN
  refine ab ?_;refine aa (ca (dX [(1,_,35)] eH (l:=[(2,kx (kC f.blocks))]) ⟨?_,trivial⟩) (aN rfl rfl));show sub (c7 1 _ (prog.cellsOf 35)) (D.rs 1 0 n)=_;rw[zq (by rw[qX];simp),abz,kC,hn]
theorem HW{p q:D}{f:aU}{n args:Nat}(hp:Tr p)(hq:Tr q)(dx:p.one=true)(bG:q.one=true)(hn:f.blocks.length=n)(nU:0<n)(wz:n<=100000)(ha:f.args=args)(yP:args<=1000)(Bm:∀ u∈lq args,gm u)(hb:∀ b∈f.blocks,xX n b)
 (ai4:∀ b x,f.blocks[b]? =some x->∀ y∈x.ins,y.op=19->y.args.length=(dd f.blocks n b).length/\∀ r∈y.args,0<=r/\r<1280):
 aG prog 62 [.agg (bd p q f)] (B (zB f.blocks args)):=by
 have bg:∀ a∈[D.agg (bd p q f)],Tr a:=.cons (lK hp hq f) .nil;have AN:=AN hp hq dx bG hn nU wz ha yP Bm hb;have Bp:=Bp hp hq dx bG hn wz (fun b h=>(hb b h).fin.wh) (fun b h=>(hb b h).to);have Vq:kf n (rV f.blocks args):=by subst hn;exact abA hb Bm
 refine bK ai5 bg (.s _) ?_;rw[ai6];refine aI ?_;refine ab ?_;refine aa (ca (dX [(0,bd p q f,93)] eH (l:=[(1,.pt (bd p q f))]) eH) ?_);have rZ:zB f.blocks args=(range n).all (sX f.blocks (rV f.blocks args)):=by rw[zB,hn]
 rw[rZ];clear rZ;generalize rV f.blocks args=R at AN Vq ⊢;obtain⟨lw,lr,kZ,rg⟩:=Vq;have AN:aG prog 144 [.agg (bd p q f)] (.aT [.sl (cD R.wsq) n,ry R.re]):=by unfold ry;rw[lr];exact AN
 show AW _ _ _ _ (JZ _) _;refine ws ?_;refine SS ?_;refine cl AN ?_;refine SS ?_;refine au (rq (v:=.sl _ _) rfl rfl) ak (by first|decide|simp) ?_;refine au (rq (v:=.sl _ _) rfl rfl) ak (by first|decide|simp) ?_;refine ab ?_;refine aa (aI ?_);refine SS ?_;refine cl Bp ?_;refine SS ?_;refine aa (ca (iP (l:=[(1,.pt (bd p q f)),(3,.sl (cD R.wsq) n),(4,ry R.re),(5,kx (kC f.blocks))]) eH) (XW (aX (aI ?_))));refine bV ?_
 refine aa (c6 (fun s=>(range n).all (sX f.blocks R)=true) (cZ (α:=Nat×Nat)
  (fun k=>⟨ay [(1,.pt (bd p q f)),(3,.sl (cD R.wsq) n),(4,ry R.re),(5,kx (kC f.blocks)),(25,cF f.blocks),(26,I n),(27,I k.1)],fun _=>none,k.2⟩)
  (fun k=>k.1<=n/\(range k.1).all (sX f.blocks R)=true) (fun k=>n - k.1) (0,1) (iP ⟨rfl,rfl,rfl,rfl,rfl,congrArg (fun k:Nat=>I k) hn,rfl,trivial⟩) ⟨Nat.zero_le _,rfl⟩ ?_) ?_)
 .rintro⟨k,N⟩ ⟨hk,X⟩;dsimp only at hk X ⊢;refine SS ?_;refine aa ⟨_,rfl,fun h=>?_,fun h=>?_⟩
  .have ag:k<n:=by simpa using h
   have hx:f.blocks[k]? =some f.blocks[k]:=bx oG;have np:f.blocks[k]∈f.blocks:=eE _;generalize f.blocks[k]=x at hx np;have iK:=hb x np;have hph:=ai4 k x hx;have hw:R.wsq[k]? =some R.wsq[k]:=bx oG;have mo:R.re[k]? =some R.re[k]:=bx oG;have wM:=kZ _ (eE (h:=by omega):R.wsq[k]∈R.wsq)
   have O:sX f.blocks R k=(!R.re[k]||((nA x R.wsq[k]).2&&(x.ins.takeWhile jn).all (Ax f.blocks R k))):=by
    rw[sX,getD_some hw,getD_some mo,getD_some hx]
   generalize R.wsq[k]=w at hw wM O;generalize R.re[k]=b at mo O;refine aI ?_;refine dV ?_;refine aa (ca (mv (i:=N) (l:=[(1,.pt (bd p q f)),(3,.sl (cD R.wsq) n),(4,ry R.re),(5,kx (kC f.blocks)),(6,I k),(7,.pt (bi x)),(25,cF f.blocks),(26,I n),(27,I k)]) (ai _ _ _) ⟨rfl,rfl,rfl,rfl,rfl,pI,rfl,rfl,rfl,trivial⟩) (aX (ap ?_)));refine bV ?_;refine aa (dP rfl (fun h=>wS (J3 ?_)) fun h=>eF (aX (Br abB ?_)))
   .have Bb:b=false:=by simpa using h
    subst Bb;refine ab ?_;refine aa (bQ (k+1,N+1) (iP eH) ⟨oM,sM X (by rw[O];rfl)⟩ oM)
   have NJ:b=true:=by simpa using h
   subst NJ;have mX:=mX wM iK.len iK.ins iK.fin iK.rl iK.rf;have tQ:=H8 x w;rw[wM] at tQ;generalize nA x w=th at mX O tQ;obtain⟨w1,ok⟩:=th;dsimp only at mX O tQ;refine aJ ?_;refine au (SA rfl rfl V.h V.h oN oN) ak (SB V.h oN oN oG) ?_;refine au (lb rfl V.h V.h (Qt oN)) ak (lc V.h V.h oP) ?_;refine cl mX ?_;refine dV ?_;refine cG cP (ca (iP (l:=[(1,.pt (bd p q f)),(3,.sl (cD R.wsq) n),(4,ry R.re),(5,kx (kC f.blocks)),(6,I k),(7,.pt (bi x)),(9,B ok),(25,cF f.blocks),(26,I n),(27,I k)]) eH) (aX (ap ?_)));refine ab ?_;refine aa (dP rfl (fun h=>?_) fun h=>eF (aI ?_))
   .have cn:ok=false:=by simpa using h
    subst cn;refine aX (ap ?_);refine SS ?_;refine aa (hZ (fC (cw (Ju (aN (d:=B false) rfl ?_)))));rw[uw ag (by rw[O];rfl)]
   have cn:ok=true:=by simpa using h
   subst cn;have O:sX f.blocks R k=(x.ins.takeWhile jn).all (Ax f.blocks R k):=O;refine bj ?_;have je:=iK.len
   refine aa (cZ (α:=Nat×Nat)
    (fun j=>⟨ay [(1,.pt (bd p q f)),(3,.sl (cD R.wsq) n),(4,ry R.re),(5,kx (kC f.blocks)),(6,I k),(25,cF f.blocks),(26,I n),(27,I k),(49,fg x.ins),(50,I x.ins.length),(51,I j.1)],fun _=>none,j.2⟩)
    (fun j=>j.1<=x.ins.length/\(∀ y∈x.ins.take j.1,jn y=true)/\(x.ins.take j.1).all (Ax f.blocks R k)=true) (fun j=>x.ins.length - j.1) (0,_) (iP eH) ⟨Nat.zero_le _,oS,oS⟩ ?_)
   rintro⟨j,N⟩ ⟨hj,AO,CU⟩;dsimp only at hj AO CU ⊢;refine SS ?_;refine aa ⟨_,rfl,fun h=>?_,fun h=>?_⟩
   .have c8:j<x.ins.length:=by simpa using h
    have hy:x.ins[j]? =some x.ins[j]:=bx c8;have DD:x.ins[j]∈x.ins:=eE c8;generalize x.ins[j]=y at hy DD;refine aI ?_;refine bj ?_;refine aa (ca (mv (i:=N) (l:=[(1,.pt (bd p q f)),(3,.sl (cD R.wsq) n),(4,ry R.re),(5,kx (kC f.blocks)),(6,I k),(11,.pt (bc y)),(25,cF f.blocks),(26,I n),(27,I k),(49,fg x.ins),(50,I x.ins.length),(51,I j)]) (ai _ _ _) ⟨rfl,rfl,rfl,rfl,rfl,pI,rfl,rfl,rfl,rfl,rfl,rfl,trivial⟩) (aX (ap ?_)));refine aJ ?_;refine aa (dP rfl (fun h=>wS (aeo oC oC (J3 ?_))) fun h=>eF (aI ?_))
    .have a8:y.op≠19:=by simpa using h
     refine ab ?_;refine aa (bQ (k+1,_) (iP eH) ⟨oM,sM X ?_⟩ oM);rw[O,takeWhile_eq AO (fun y' h'=>by rw[hy] at h';cases h';simpa[jn] using a8)];exact CU
    have fB:y.op=19:=by simpa using h
    obtain⟨HK,gp⟩:=hph y DD fB;have hA:=OV hn ag
    have WK:∀ p∈dd f.blocks n k,∃ C:Nat,p=C/\C<n:=fun p hp=>by
     obtain⟨b,h1,h2,_⟩:=Iv.1 hp;exact⟨b,h1,h2⟩
    have NM:Ax f.blocks R k y=(range (dd f.blocks n k).length).all (uW f.blocks R k y):=by rw[Ax,hn]
    have J:∀ i,uW f.blocks R k y i=(!(R.re.getD ((dd f.blocks n k).getD i 0).toNat false)||nP (iV (f.blocks.getD ((dd f.blocks n k).getD i 0).toNat mL).fin k (nA (f.blocks.getD ((dd f.blocks n k).getD i 0).toNat mL) (R.wsq.getD ((dd f.blocks n k).getD i 0).toNat [])).1) (y.args.getD i 0).toNat):=fun i=>by rw[uW,hn]
    have hAl:=OU (fun b h=>Nat.le_trans (hb b h).fin.wh oC) n k;generalize dd f.blocks n k=A at HK hA WK NM J hAl
    have adP:∀ i,i<A.length->uW f.blocks R k y i=false->(range n).all (sX f.blocks R)=false:=fun i hi he=>by
     refine uw ag ?_;rw[O];refine Bool.eq_false_iff.2 fun ht=>?_
     have ai7:y∈x.ins.takeWhile jn:=by
      have:x.ins.take (j+1)=x.ins.take j++[y]:=by rw[List.take_add_one,hy];rfl
      have h2:x.ins=x.ins.take (j+1)++x.ins.drop (j+1):=(List.take_append_drop _ _).symm;rw[h2,this,List.takeWhile_append_of_pos]
      .simp
      .intro z hz;rcases List.mem_append.1 hz with h|h
       .exact AO z h
       .rw[List.mem_singleton.1 h];simp[jn,fB]
     have:=cv.1 ht y ai7;rw[NM,uw hi he] at this;cases this
    refine dV ?_
    refine aa (cZ (α:=Nat×Nat)
     (fun i=>⟨ay [(1,.pt (bd p q f)),(3,.sl (cD R.wsq) n),(4,ry R.re),(5,kx (kC f.blocks)),(6,I k),(11,.pt (bc y)),(25,cF f.blocks),(26,I n),(27,I k),(49,fg x.ins),(50,I x.ins.length),(51,I j),(61,az A),(62,I A.length),(63,I i.1)],fun _=>none,i.2⟩)
     (fun i=>i.1<=A.length/\(range i.1).all (uW f.blocks R k y)=true) (fun i=>A.length - i.1) (0,_) (iP eH) ⟨Nat.zero_le _,rfl⟩ ?_)
    rintro⟨i,N⟩ ⟨hi,Le⟩;dsimp only at hi Le ⊢;refine SS ?_;refine aa ⟨_,rfl,fun h=>?_,fun h=>?_⟩
    .have jN:i<A.length:=by simpa using h
     have WL:A[i]? =some A[i]:=bx jN;obtain⟨C,WM,ng⟩:=WK _ (eE jN);rw[WM] at WL;clear WM;have WN:f.blocks[C]? =some f.blocks[C]:=bx oG;have Vr:f.blocks[C]∈f.blocks:=eE _;have WO:R.wsq[C]? =some R.wsq[C]:=bx oG;have WQ:R.re[C]? =some R.re[C]:=bx oG;have Mz:=kZ _ (eE (h:=by omega):R.wsq[C]∈R.wsq);have WR:y.args[i]? =some y.args[i]:=bx oG;have wK:=gp _ (eE (h:=by omega):y.args[i]∈y.args);have J:=J i;rw[getD_some WL,iv,getD_some WN,getD_some WO,getD_some WQ,getD_some WR] at J;generalize f.blocks[C]=xp at WN Vr J;generalize R.wsq[C]=wp at WO Mz J;generalize R.re[C]=rb at WQ J;generalize y.args[i]=r at WR wK J;obtain⟨rn,rfl⟩:=gd wK.1;rw[iv] at J;have yA:=hb xp Vr;have mX:=Go.Proofs.Tryz.K.mX Mz yA.len yA.ins yA.fin yA.rl yA.rf;have CV:=H8 xp wp;rw[Mz] at CV;generalize nA xp wp=tp at mX J CV;obtain⟨w2,ok2⟩:=tp;dsimp only at mX J CV;have vW:=vW (x:=xp.fin) (b:=(k:Int)) (w:=w2) CV (by have:=yA.fin.wh;omega) (by have:=yA.fin.wr;omega);have fJ:=PA xp.fin k w2;rw[CV] at fJ;generalize iV xp.fin k w2=w3 at vW fJ J;have kK:=kK (w:=w3) (m:=rn) fJ oG;refine ws ?_;refine bV ?_;refine aa (Br ZU ?_);refine dc ?_;refine au (SA rfl rfl V.h V.h oN oN) ak (SB V.h oN oN oG) ?_;refine au (lb rfl V.h V.h (Qt oN)) ak (lc V.h V.h oP) ?_;refine cl mX ?_;refine dV ?_;refine cG cP (ca (mv (i:=N) (l:=[(1,.pt (bd p q f)),(3,.sl (cD R.wsq) n),(4,ry R.re),(5,kx (kC f.blocks)),(6,I k),(11,.pt (bc y)),(12,I i),(13,I C),(14,.pt (w2.map cA)),(25,cF f.blocks),(26,I n),(27,I k),(49,fg x.ins),(50,I x.ins.length),(51,I j),(61,az A),(62,I A.length),(63,I i)]) (ai _ _ _) ⟨rfl,rfl,rfl,rfl,rfl,rfl,rfl,rfl,pI,rfl,rfl,rfl,rfl,rfl,rfl,rfl,rfl,rfl,trivial⟩) (gZ ZV ?_))
     have jm:∀ v:Bool,v=uW f.blocks R k y i->(v=false->(range n).all (sX f.blocks R)=false)/\(v=true->(range (i+1)).all (uW f.blocks R k y)=true):=fun v hv=>by
      subst hv;exact⟨adP i jN,fun h=>sM Le h⟩
     cases rb with
     |false=>
      obtain⟨_,U⟩:=jm true J.symm;have U:=U rfl;refine bI ?_;refine bS rfl rfl (xv rfl rfl V.h V.h (zp) oN) (fun hc=>⟨ak,(xx V.h (zp) oN)⟩) ?_;refine aJ ?_;refine bS rfl rfl (lb rfl V.h V.h (SC (by first|rfl|exact bf rfl|(simp;done)|(simp;omega)|omega))) (fun hc=>⟨ak,(lc V.h V.h (by first|rfl|exact bf rfl|(simp;done)|(simp;omega)|omega))⟩) ?_;refine gc vW ?_;refine bV ?_;refine gc kK ?_;refine ab ?_;refine cG cP (aE rfl (fun h=>oH) fun h=>ig ?_);refine ab ?_;refine aa (bQ (i+1,_) (iP eH) ⟨oM,U⟩ oM)
     |true=>
      obtain⟨ua,U⟩:=jm (nP w3 rn) J.symm;generalize nP w3 rn=hv at kK ua U;refine bI ?_;refine bS rfl rfl (xv rfl rfl V.h V.h (zp) oN) (fun hc=>⟨ak,(xx V.h (zp) oN)⟩) ?_;refine aJ ?_;refine bS rfl rfl (lb rfl V.h V.h (SC (by first|rfl|exact bf rfl|(simp;done)|(simp;omega)|omega))) (fun hc=>⟨ak,(lc V.h V.h (by first|rfl|exact bf rfl|(simp;done)|(simp;omega)|omega))⟩) ?_;refine gc vW ?_;refine bV ?_;refine gc kK ?_;refine ab ?_;refine cG cP (aE rfl (fun h=>?_) fun h=>ig ?_)
      .have hf:hv=false:=by simpa using h
       refine ws ?_;refine SS ?_;refine aa (cM (fC (fC (fC (cw (Ju (aN (d:=B false) rfl ?_)))))));rw[ua hf]
      .have ht:hv=true:=by simpa using h
       have U:=U ht;refine ab ?_;refine aa (bQ (i+1,_) (iP eH) ⟨oM,U⟩ oM)
    .have bC:¬ i<A.length:=by simpa using h
     have hiA:i=A.length:=by omega
     subst hiA;show aj _ _ _ _ _ _ _ _ _;refine ab ?_;refine aa (bQ (j+1,_) (iP eH) ⟨oM,fun z hz=>?_,?_⟩ oM)
     .dsimp only at hz;rw[List.take_add_one,hy] at hz;rcases List.mem_append.1 hz with h|h
      .exact AO z h
      .rw[List.mem_singleton.1 h];simp[jn,fB]
     .dsimp only;rw[List.take_add_one,hy,List.all_append,CU];simpa[NM] using Le
   .have bC:¬ j<x.ins.length:=by simpa using h
    have Di:j=x.ins.length:=by omega
    subst Di;show aj _ _ _ _ _ _ _ _ _;refine ab ?_;refine aa (bQ (k+1,_) (iP eH) ⟨oM,sM X ?_⟩ oM);rw[List.take_length] at AO CU;rw[O,takeWhile_eq (j:=x.ins.length) (by rw[List.take_length];exact AO) (fun y h=>by simp at h),List.take_length];exact CU
  .have bC:¬ k<n:=by simpa using h
   have:k=n:=by omega
   subst this;exact X
 .rintro⟨env,m,nx⟩ X;refine⟨_,.refl _,ap ?_⟩;refine SS ?_;refine aa (Ju (aN (d:=B true) rfl ?_));rw[X]
end Go.Proofs.Tryz.K
end
