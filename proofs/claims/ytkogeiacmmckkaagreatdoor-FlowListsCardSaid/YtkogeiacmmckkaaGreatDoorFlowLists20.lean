/- Part 20. -/
import Derived.Test.YtkogeiacmmckkaaGreatDoorFlowLists7
import Derived.Test.YtkogeiacmmckkaaGreatDoorFlowLists19
set_option linter.all false
set_option maxHeartbeats 4000000
set_option maxRecDepth 10000
open List(range)
open List(replicate)
section
open Go Go.Abs Go.Proofs Go.Argus
namespace Go.Proofs.Tryz.K
theorem lU:Tr P0:=AY _
theorem lV:Tr Q0:=AY _
section
variable{p q:D}{f:bd}(hp:Tr p)(hq:Tr q)(gi:p.one=true)(eS:q.one=true)
include hp hq gi eS
theorem ahx{r kd:Int}:ax prog 216 [I r,.pt (bu p q f),.pt [U8 kd]] (B !(aL (cB f.ag r) kd)):=by
 have C:∀ a∈[I r,.pt (bu p q f),.pt [U8 kd]],Tr a:=.cons (.s _) (.cons (.pt (Ck hp hq f)) (.cons (.pt (.cons (.s _) .nil)) .nil));have fD:=fD (f:=f) (r:=r) hp hq gi eS;refine bP afb C (Tr.s _) ?_;rw[afc];refine ws ?_;refine SS ?_;refine ab (eF YR ?_);refine af ?_;refine cl fD ?_;refine aB ?_;refine bX bY ?_;refine ap (d:=.s (.bool _)) rfl ?_;rfl
end
theorem Hr{f:bd}{b ahead:Int}{x:bS}{phis:Bool}:ax prog 143 [q9 f,I b,.agg (bF x),B phis,I ahead] (B (jk f b x phis ahead)):=by
 have O:∀ a∈[q9 f,I b,.agg (bF x),B phis,I ahead],Tr a:=.cons (my lU lV f) (.cons (.s _) (.cons (.agg (qP x)) (.cons (.s _) (.cons (.s _) .nil))));have fD:= @fD P0 Q0 f lU lV rfl rfl;have Ht:= @Ht P0 Q0 f lU lV rfl rfl;have ix:= @ix P0 Q0 f lU lV rfl rfl;have Bb:= @Bb P0 Q0 f lU lV rfl rfl;refine bP afd O (Tr.s _) ?_;rw[afe];refine aE ?_;refine aB ?_;refine ab (bj (cr [(0,bu P0 Q0 f,93),(1,bF x,45)] eH (l:=[(1,I b),(3,B phis),(4,I ahead),(5,.pt (bu P0 Q0 f)),(7,.pt (bF x))]) eH) (aV (al ?_)));refine af ?_;refine ab (mW (al ?_));refine af ?_;refine ab (yC rfl (fun h0=>?_) fun h0=>?_)
 .have h0:x.op=16:=by simpa using h0
  refine ws ?_;refine fS ?_;refine gc fD ?_;refine SN9 ?_;refine cT ?_;refine af ?_;refine ab (bh (bR (aY (ap (d:=.s (.bool _)) rfl ?_))));simp[jk,h0,aL,jI,ib,Bool.and_assoc]
 have h0:¬ x.op=16:=by simpa using h0
 refine ws ?_;refine af ?_;refine ab (yC rfl (fun h1=>?_) fun h1=>?_)
 .have h1:x.op=17:=by simpa using h1
  refine ws ?_;refine SN9 ?_;refine SN9 ?_;refine af ?_;refine gc Ht ?_;refine af ?_;refine ab (bh (bR (aY (ap (d:=.s (.bool _)) rfl ?_))));simp[jk,h1,aL,jI,ib,Bool.and_assoc]
 have h1:¬ x.op=17:=by simpa using h1
 refine ws ?_;refine af ?_;refine ab (yC rfl (fun h2=>?_) fun h2=>?_)
 .have h2:x.op=18:=by simpa using h2
  refine ws ?_;refine SN9 ?_;refine SN9 ?_;refine af ?_;refine gc Ht ?_;refine af ?_;refine ab (bh (bR (aY (ap (d:=.s (.bool _)) rfl ?_))));simp[jk,h2,aL,jI,ib,Bool.and_assoc]
 have h2:¬ x.op=18:=by simpa using h2
 refine ws ?_;refine af ?_;refine ab (yC rfl (fun C=>?_) fun C=>?_)
 .have C:x.op=19:=by simpa using C
  refine aE ?_;refine aB ?_;refine cl fD ?_;refine SS ?_;refine dJ (mo (d:=.s (.int _ _)) (cs':=[_]) rfl rfl rfl rfl rfl) ak (eU V.h V.h (by first|(simp;done)|exact⟨rfl,bg rfl⟩|(simp;omega)) rfl) ?_;refine ab (bj (cr [(2,[U8 (cB f.ag x.to)],5)] eH (l:=[(1,I b),(3,B phis),(4,I ahead),(5,.pt (bu P0 Q0 f)),(7,.pt (bF x)),(11,.pt [U8 (cB f.ag x.to)])]) eH) (al ?_));have BE:=BE (l:=x.args) (g:=216) (fs:=[]) (cs:=[.pt (bu P0 Q0 f),.pt [U8 (cB f.ag x.to)]]) (p:=fun r=> !(aL (cB f.ag r) (cB f.ag x.to))) (.fn oS (.cons (.pt (Ck lU lV f)) (.cons (.pt (.cons (.s _) .nil)) .nil))) (fun r _=>ahx lU lV rfl rfl);refine aB ?_;refine cl BE ?_;refine SS ?_;refine er ?_;by_cases hb:phis=true/\0<b
  .obtain⟨rfl,hb⟩:=hb;have s7:decide (0<b)=true:=by simpa using hb
   have ix:=ix (l:=[x.to]);have J:∀ {m:Mem},m 3=some (.cells [I x.to] 3)->nH prog [3] m [q9 f,.rs 3 0 1] [q9 f,aX [x.to]]:=fun hm=>⟨c9 (my lU lV f),Lw hm oS (by rw[c3];rfl) (.cons (.s _) .nil),trivial⟩
   refine cT ?_;refine af ?_;refine vS ix rfl rfl rfl rfl (J rfl) ak ?_;refine SN9 ?_;refine SN9 ?_;refine cT ?_;refine af ?_;refine ab (bh (bR (aY (ap (d:=.s (.bool _)) rfl ?_))));simp[jk,C,hb,aL,jI,ib,Bool.and_assoc,gz]
  .have hf:jk f b x phis ahead=false:=by
    cases phis with
    |false=>simp[jk,C]
    |true=>simp[jk,C,show ¬ 0<b by simpa using hb]
   have hf:D.s (.bool false)=B (jk f b x phis ahead):=by rw[hf]
   cases phis with
   |false=>
    refine af ?_;(iterate 2 refine z fun _ _=>?_);refine af ?_;(iterate 5 refine z fun _ _=>?_);refine af ?_;(iterate 3 refine z fun _ _=>?_);refine af ?_;(iterate 3 refine z fun _ _=>?_);refine af ?_;(iterate 3 refine z fun _ _=>?_);refine af ?_;(iterate 5 refine z fun _ _=>?_);refine af ?_;(iterate 2 refine z fun _ _=>?_);refine af ?_;exact ab (bh (bR (aY (ap (d:=.s (.bool _)) rfl hf))))
   |true=>
    have s7:decide (0<b)=false:=by simpa using hb
    refine cY ?_;(iterate 5 refine z fun _ _=>?_);refine af ?_;(iterate 3 refine z fun _ _=>?_);refine af ?_;(iterate 3 refine z fun _ _=>?_);refine af ?_;(iterate 3 refine z fun _ _=>?_);refine af ?_;(iterate 5 refine z fun _ _=>?_);refine af ?_;(iterate 2 refine z fun _ _=>?_);refine af ?_;exact ab (bh (bR (aY (ap (d:=.s (.bool _)) rfl hf))))
 have C:¬ x.op=19:=by simpa using C
 refine mB (al ?_);have U:jN prog 91 true (gp (.int .u8 x.op) (qq oa))=.bp [.agg (jD ((fV oa x.op).getD xQ)),.s (.bool (fV oa x.op).isSome)]:=SR rfl _ _ (by rw[MQ];unfold qZ;rw[MR,MS];rfl);have M:=RG (P:=prog) (kt:=5) u5 oa;refine a7 ?_;refine ao (Pa rfl rfl V.h U) ak ⟨V.h,by kernel_rfl,M⟩ ?_;refine SS ?_;refine ao (vB (v:=.agg (jD _)) rfl rfl) ak (by first|decide|simp) ?_;refine af ?_;refine dJ (iI (cs':=jD _) rfl rfl rfl rfl) ak (eU V.h V.h (by first|(simp;done)|exact⟨rfl,bg rfl⟩|(simp;omega)) (by rfl)) ?_;refine SS ?_;refine er ?_;refine a7 ?_;refine bQ rfl rfl (dP (vs:=jD _) rfl rfl V.h V.h rfl) (fun hc=>⟨ak,(dQ V.h V.h (by first|(simp;done)|omega|exact bg rfl))⟩) ?_;refine gc Bb ?_;refine af ?_;refine ab (ap (d:=.s (.bool _)) rfl ?_);simp[jk,h0,h1,h2,C]
def T6(f:bd)(x:Argus.End)(s:St):Prop:=∃ cells n,aR prog s ⟨aH [(2,.pt (bu P0 Q0 f)),(3,.pt (bA x)),(5,.rp 2 0),(6,B (gf f x).1)],up (fun _=>none) 2 (some (.cells cells 48)),n⟩/\cells.length=15/\∀ m,nH prog [2] m cells (bA (gf f x).2)
theorem vR{l:List Int}{r:Int}:gz l [r]=eA l r:=by simp[gz]
theorem mN{f:bd}{x r:Argus.End}{env:Env}{m:Mem}{nx:Nat}{cells:List D}{ok:Bool}(hr:gf f x=(ok,r))(he:n8 [(2,.pt (bu P0 Q0 f)),(3,.pt (bA x)),(5,.rp 2 0),(6,B ok)] env)(hm:m 2=some (.cells cells 48))(hl:cells.length=15)
 (hs:∀ m,nH prog [2] m cells (bA r)):T6 f x ⟨env,m,nx⟩:=by
 refine⟨cells,nx,?_,hl,?_⟩
 .rw[hr];exact QB he (Z2 hm)
 .rw[hr];exact hs
theorem Hq{f:bd}{x:Argus.End}:ax prog 142 [q9 f,.agg (bA x)] (B (jG f x)):=by
 have br:∀ a∈[q9 f,.agg (bA x)],Tr a:=.cons (my lU lV f) (.cons (.agg (lP x)) .nil);have jO:= @jO P0 Q0 f lU lV rfl rfl;have fD:= @fD P0 Q0 f lU lV rfl rfl;have ix:= @ix P0 Q0 f lU lV rfl rfl;have Bb:= @Bb P0 Q0 f lU lV rfl rfl;have s9:= @s9 P0 Q0 f lU lV rfl rfl;refine bP afB br (Tr.s _) ?_;rw[afC];refine aE ?_;refine aB ?_;refine ab (bj (cr [(0,bu P0 Q0 f,93),(1,bA x,48)] eH (l:=[(2,.pt (bu P0 Q0 f)),(3,.pt (bA x))]) eH) (al ?_));refine af ?_;refine dJ (iI (cs':=bA _) rfl rfl rfl rfl) ak (eU V.h V.h (by first|(simp;done)|exact⟨rfl,bg rfl⟩|(simp;omega)) (by rfl)) ?_;refine SS ?_;refine er ?_;refine af ?_;refine ab ?_;refine fO (T6 f x) (al ?_) fun s hs=>?_
 .refine af ?_;refine ab (qN (al ?_));refine af ?_;refine ab (yC rfl (fun h=>?_) fun h=>?_)
  .have h:x.kind=1:=by simpa using h
   refine nY ?_;refine aB ?_;refine cl jO ?_;refine aB ?_;refine ab ?_;exact mN (r:={ x with kind:=0,to:=0 }) (by simp[gf,h,aL,ib,Bool.and_assoc,ct]) ⟨rfl,rfl,rfl,rfl,trivial⟩ rfl rfl (fun m=>by repeat' (first|exact trivial|exact c9 (Tr.s _)|exact c9 (ew _)|exact c9 (j9 _)|exact mO|refine And.intro ?_ ?_))
  have h1:¬ x.kind=1:=by simpa using h
  clear h;refine ws ?_;refine af ?_;refine ab (yC rfl (fun h=>?_) fun h=>?_)
  .have h:x.kind=2:=by simpa using h
   refine nY ?_;refine aB ?_;refine cl fD ?_;refine bH ?_;refine gc jO ?_;refine bH ?_;refine gc jO ?_;refine cT ?_;refine ab ?_;exact mN (r:={ x with kind:=0,a:=0,to:=0,gP:=0 }) (by simp[gf,h,aL,ib,Bool.and_assoc,ct]) ⟨rfl,rfl,rfl,rfl,trivial⟩ rfl rfl (fun m=>by repeat' (first|exact trivial|exact c9 (Tr.s _)|exact c9 (ew _)|exact c9 (j9 _)|exact mO|refine And.intro ?_ ?_))
  have h2:¬ x.kind=2:=by simpa using h
  clear h;refine ws ?_;refine af ?_;refine ab (yC rfl (fun h=>?_) fun h=>?_)
  .have h:x.kind=3:=by simpa using h
   refine ws ?_;refine cY ?_;refine er ?_;refine cT ?_;refine af ?_;refine ab (yC rfl (fun hr=>?_) fun hr=>?_)
   .have hr:f.result≠0/\f.iter=false:=by simpa[bne,ib] using hr
    refine Qq XN ?_;refine aB ?_;refine cl fD ?_;refine bH ?_;refine bX bY ?_;exact mN (r:={ x with kind:=0,a:=0 }) (by simp[gf,h,aL,ib,Bool.and_assoc,hr.1,hr.2]) ⟨rfl,rfl,rfl,rfl,trivial⟩ rfl rfl (fun m=>by repeat' (first|exact trivial|exact c9 (Tr.s _)|exact c9 (ew _)|exact c9 (j9 _)|exact mO|refine And.intro ?_ ?_))
   .have hr:¬ (f.result≠0/\f.iter=false):=by simpa[bne,ib] using hr
    refine Jp ?_;exact mN (r:={ x with kind:=0,a:=0 }) (by simp only[gf,h];simp only[if_neg hr];simp[aL,ib]) ⟨rfl,rfl,rfl,rfl,trivial⟩ rfl rfl (fun m=>by repeat' (first|exact trivial|exact c9 (Tr.s _)|exact c9 (ew _)|exact c9 (j9 _)|exact mO|refine And.intro ?_ ?_))
  have h3:¬ x.kind=3:=by simpa using h
  clear h;refine ws ?_;refine af ?_;refine ab (yC rfl (fun h=>?_) fun h=>?_)
  .have h:x.kind=4:=by simpa using h
   refine nY ?_;refine af ?_;refine cl DE ?_;refine aB ?_;refine ab ?_;exact mN (r:={ x with kind:=0,name:=.empty }) (by simp[gf,h,aL,ib,Bool.and_assoc]) ⟨rfl,rfl,rfl,rfl,trivial⟩ rfl rfl (fun m=>by repeat' (first|exact trivial|exact c9 (Tr.s _)|exact c9 (ew _)|exact c9 (j9 _)|exact mO|refine And.intro ?_ ?_))
  have h4:¬ x.kind=4:=by simpa using h
  clear h;refine ws ?_;refine af ?_;refine ab (yC rfl (fun h=>?_) fun h=>?_)
  .have h:x.kind=5:=by simpa using h
   refine ws ?_;have kg:jN prog 91 true (gp (.int .u8 x.ins.op) (qq jH))=.bp [.agg (jD ((fV jH x.ins.op).getD xQ)),.s (.bool (fV jH x.ins.op).isSome)]:=SR rfl _ _ (by rw[MQ];unfold qZ;rw[MR,MS];rfl);have NQ:=RG (P:=prog) (kt:=5) u5 jH;refine bH ?_;refine ao (Pa rfl rfl V.h kg) ak ⟨V.h,by kernel_rfl,NQ⟩ ?_;refine SS ?_;refine ao (vB (v:=.agg (jD _)) rfl rfl) ak (by first|decide|simp) ?_;refine af ?_;refine dJ (iI (cs':=jD _) rfl rfl rfl rfl) ak (eU V.h V.h (by first|(simp;done)|exact⟨rfl,bg rfl⟩|(simp;omega)) (by rfl)) ?_;refine SS ?_;refine er ?_;refine bH ?_;refine bQ rfl rfl (dP (vs:=jD _) rfl rfl V.h V.h rfl) (fun hc=>⟨ak,(dQ V.h V.h (by first|(simp;done)|omega|exact bg rfl))⟩) ?_;refine gc Bb ?_;refine bH ?_;refine gc jO ?_;refine a7 ?_;refine gc s9 ?_;refine af ?_;refine ab (nY ?_);refine SN9 ?_;refine ab ?_;exact mN (r:={ x with kind:=0,ins:=ez,to:=0,aJ:=[],others:= -1 }) (by simp[gf,h,aL,ib,Bool.and_assoc,ct]) ⟨rfl,rfl,rfl,rfl,trivial⟩ rfl rfl (fun m=>by repeat' (first|exact trivial|exact c9 (Tr.s _)|exact c9 (ew _)|exact c9 (j9 _)|exact mO|refine And.intro ?_ ?_))
  have h5:¬ x.kind=5:=by simpa using h
  clear h;refine ws ?_;refine af ?_;refine ab (yC rfl (fun h=>?_) fun h=>?_)
  .have h:x.kind=6:=by simpa using h
   refine ws ?_;have rC:=rC (s:=x.name);have X:=ix (l:=[x.a]);have ix:=ix (l:=x.args);have U:∀ {m:Mem},m 3=some (.cells [I x.a] 3)->nH prog [3] m [q9 f,.rs 3 0 1] [q9 f,aX [x.a]]:=fun hm=>⟨c9 (my lU lV f),Lw hm oS (by rw[c3];rfl) (.cons (.s _) .nil),trivial⟩
   cases C:lu x.name with
   |false=>
    rw[C] at rC;refine af ?_;refine cl rC ?_;refine cT ?_;refine af ?_;refine gc ix ?_;refine SN9 ?_;(iterate 3 refine z fun _ _=>?_);refine bH ?_;refine gc jO ?_;refine a7 ?_;refine gc s9 ?_;refine af ?_;refine ab (nY ?_);refine SN9 ?_;refine aB ?_;refine ab ?_;exact mN (r:={ x with kind:=0,name:=.empty,args:=[],a:=0,to:=0,aJ:=[],others:= -1 }) (by simp[gf,h,aL,ib,Bool.and_assoc,ct,C]) ⟨rfl,rfl,rfl,rfl,trivial⟩ rfl rfl (fun m=>by repeat' (first|exact trivial|exact c9 (Tr.s _)|exact c9 (ew _)|exact c9 (j9 _)|exact mO|refine And.intro ?_ ?_))
   |true=>
    rw[C] at rC;by_cases J:(x.args.length:Int)<=6
    rotate_left
    .have UI:decide ((x.args.length:Int)<=6)=false:=by simpa using J
     refine af ?_;refine cl rC ?_;refine cT ?_;refine af ?_;refine gc ix ?_;refine SN9 ?_;(iterate 3 refine z fun _ _=>?_);refine bH ?_;refine gc jO ?_;refine a7 ?_;refine gc s9 ?_;refine af ?_;refine ab (nY ?_);refine SN9 ?_;refine aB ?_;refine ab ?_;exact mN (r:={ x with kind:=0,name:=.empty,args:=[],a:=0,to:=0,aJ:=[],others:= -1 }) (by simp[gf,h,aL,ib,Bool.and_assoc,ct,C,J]) ⟨rfl,rfl,rfl,rfl,trivial⟩ rfl rfl (fun m=>by repeat' (first|exact trivial|exact c9 (Tr.s _)|exact c9 (ew _)|exact c9 (j9 _)|exact mO|refine And.intro ?_ ?_))
    have UI:decide ((x.args.length:Int)<=6)=true:=by simpa using J
    cases M:gz f.ag x.args with
    |false=>
     rw[M] at ix;refine af ?_;refine cl rC ?_;refine cT ?_;refine af ?_;refine gc ix ?_;refine SN9 ?_;(iterate 3 refine z fun _ _=>?_);refine bH ?_;refine gc jO ?_;refine a7 ?_;refine gc s9 ?_;refine af ?_;refine ab (nY ?_);refine SN9 ?_;refine aB ?_;refine ab ?_;exact mN (r:={ x with kind:=0,name:=.empty,args:=[],a:=0,to:=0,aJ:=[],others:= -1 }) (by simp[gf,h,aL,ib,Bool.and_assoc,ct,C,J,M]) ⟨rfl,rfl,rfl,rfl,trivial⟩ rfl rfl (fun m=>by repeat' (first|exact trivial|exact c9 (Tr.s _)|exact c9 (ew _)|exact c9 (j9 _)|exact mO|refine And.intro ?_ ?_))
    |true=>
     rw[M] at ix;by_cases O:x.a= -1
     .have iO:(x.a== -1)=true:=by simpa using O
      refine af ?_;refine cl rC ?_;refine cT ?_;refine af ?_;refine gc ix ?_;refine SN9 ?_;(iterate 2 refine z fun _ _=>?_);refine cY ?_;refine gc jO ?_;refine a7 ?_;refine gc s9 ?_;refine af ?_;refine ab (nY ?_);refine SN9 ?_;refine aB ?_;refine ab ?_;exact mN (r:={ x with kind:=0,name:=.empty,args:=[],a:=0,to:=0,aJ:=[],others:= -1 }) (by simp[gf,h,aL,ib,Bool.and_assoc,ct,C,J,M,O]) ⟨rfl,rfl,rfl,rfl,trivial⟩ rfl rfl (fun m=>by repeat' (first|exact trivial|exact c9 (Tr.s _)|exact c9 (ew _)|exact c9 (j9 _)|exact mO|refine And.intro ?_ ?_))
     .have iO:(x.a== -1)=false:=by simpa using O
      refine af ?_;refine cl rC ?_;refine cT ?_;refine af ?_;refine gc ix ?_;refine cT ?_;refine af ?_;refine vS X rfl rfl rfl rfl (U rfl) ak ?_;refine cY ?_;refine gc jO ?_;refine a7 ?_;refine gc s9 ?_;refine af ?_;refine ab (nY ?_);refine SN9 ?_;refine aB ?_;refine ab ?_;exact mN (r:={ x with kind:=0,name:=.empty,args:=[],a:=0,to:=0,aJ:=[],others:= -1 }) (by simp[gf,h,aL,ib,Bool.and_assoc,ct,C,J,M,O,vR]) ⟨rfl,rfl,rfl,rfl,trivial⟩ rfl rfl (fun m=>by repeat' (first|exact trivial|exact c9 (Tr.s _)|exact c9 (ew _)|exact c9 (j9 _)|exact mO|refine And.intro ?_ ?_))
  have h6:¬ x.kind=6:=by simpa using h
  clear h;refine ws ?_;refine af ?_;refine ab (yC rfl (fun h=>?_) fun h=>?_)
  .have h:x.kind=7:=by simpa using h
   refine ws ?_;refine af ?_;refine cl rC ?_;refine cT ?_;refine af ?_;refine gc ix ?_;refine bH ?_;refine gc fD ?_;refine cY ?_;refine gc jO ?_;refine af ?_;refine ab (nY ?_);refine cT ?_;refine ab ?_;exact mN (r:={ x with kind:=0,name:=.empty,args:=[],a:=0,to:=0 }) (by simp[gf,h,aL,ib,Bool.and_assoc,ct]) ⟨rfl,rfl,rfl,rfl,trivial⟩ rfl rfl (fun m=>by repeat' (first|exact trivial|exact c9 (Tr.s _)|exact c9 (ew _)|exact c9 (j9 _)|exact mO|refine And.intro ?_ ?_))
  have h7:¬ x.kind=7:=by simpa using h
  clear h;refine ws ?_;refine af ?_;refine ab (yC rfl (fun h=>?_) fun h=>?_)
  .have h:x.kind=8:=by simpa using h
   refine ws ?_;have ix:=ix (l:=[x.b]);have LG:∀ {m:Mem},m 3=some (.cells [I x.b] 3)->nH prog [3] m [q9 f,.rs 3 0 1] [q9 f,aX [x.b]]:=fun hm=>⟨c9 (my lU lV f),Lw hm oS (by rw[c3];rfl) (.cons (.s _) .nil),trivial⟩
   by_cases C:cB f.ag x.a=3
   .have iO:(cB f.ag x.a==3)=true:=by simpa using C
    refine aB ?_;refine cl fD ?_;refine cY ?_;refine vS ix rfl rfl rfl rfl (LG rfl) ak ?_;refine bH ?_;refine gc jO ?_;refine bH ?_;refine gc jO ?_;refine a7 ?_;refine gc s9 ?_;refine af ?_;refine ab (nY ?_);refine SN9 ?_;refine aB ?_;refine ab ?_;exact mN (r:={ x with kind:=0,a:=0,b:=0,to:=0,gP:=0,aJ:=[],others:= -1 }) (by simp[gf,h,aL,ib,Bool.and_assoc,ct,C,vR]) ⟨rfl,rfl,rfl,rfl,trivial⟩ rfl rfl (fun m=>by repeat' (first|exact trivial|exact c9 (Tr.s _)|exact c9 (ew _)|exact c9 (j9 _)|exact mO|refine And.intro ?_ ?_))
   .have iO:(cB f.ag x.a==3)=false:=by simpa using C
    refine aB ?_;refine cl fD ?_;refine bH ?_;(iterate 2 refine z fun _ _=>?_);refine bH ?_;refine gc jO ?_;refine bH ?_;refine gc jO ?_;refine a7 ?_;refine gc s9 ?_;refine af ?_;refine ab (nY ?_);refine SN9 ?_;refine aB ?_;refine ab ?_;exact mN (r:={ x with kind:=0,a:=0,b:=0,to:=0,gP:=0,aJ:=[],others:= -1 }) (by simp[gf,h,aL,ib,Bool.and_assoc,ct,C]) ⟨rfl,rfl,rfl,rfl,trivial⟩ rfl rfl (fun m=>by repeat' (first|exact trivial|exact c9 (Tr.s _)|exact c9 (ew _)|exact c9 (j9 _)|exact mO|refine And.intro ?_ ?_))
  have h8:¬ x.kind=8:=by simpa using h
  clear h;refine ws ?_;refine af ?_;refine ab (yC rfl (fun h=>?_) fun h=>?_)
  .have h:x.kind=9:=by simpa using h
   refine Qq XO ?_;refine fS ?_;refine gc fD ?_;refine SN9 ?_;refine gc jO ?_;refine cY ?_;refine bX bY ?_;exact mN (r:={ x with kind:=0,a:=0,to:=0 }) (by simp[gf,h,aL,ib,Bool.and_assoc,ct]) ⟨rfl,rfl,rfl,rfl,trivial⟩ rfl rfl (fun m=>by repeat' (first|exact trivial|exact c9 (Tr.s _)|exact c9 (ew _)|exact c9 (j9 _)|exact mO|refine And.intro ?_ ?_))
  .have h9:¬ x.kind=9:=by simpa using h
   refine Jp ?_;exact mN (r:={ x with kind:=0 }) (by simp[gf,h1,h2,h3,h4,h5,h6,h7,h8,h9]) ⟨rfl,rfl,rfl,rfl,trivial⟩ rfl rfl (fun m=>by repeat' (first|exact trivial|exact c9 (Tr.s _)|exact c9 (ew _)|exact c9 (j9 _)|exact mO|refine And.intro ?_ ?_))
 .obtain⟨cells,n,hg,hl,hs⟩:=hs;refine⟨_,hg,al ?_⟩;have rV:(cells.drop 0).take 15=cells:=by rw[List.drop_zero,dO oG]
  have MP:=MP (x:=(gf f x).2);have afE:∀ {m:Mem},m 2=m 2->nH prog [2] m [.agg ((cells.drop 0).take 15)] [.agg (bA (gf f x).2)]:=fun {m} _=>⟨acz (by rw[rV];exact hs m),trivial⟩
  have he:jG f x=((gf f x).1&&yA (gf f x).2):=rfl;generalize (gf f x).1=ok at he;cases ok with
  |true=>
   refine aB ?_;refine vS MP rfl rfl rfl rfl (afE rfl) ak ?_;refine af ?_;refine ab (ap (d:=.s (.bool _)) rfl ?_);rw[he];simp
  |false=>
   refine af ?_;(iterate 2 refine z fun _ _=>?_);refine af ?_;refine ab (ap (d:=.s (.bool _)) rfl ?_);rw[he];simp
noncomputable abbrev UJ:=Hn prog ids
noncomputable def Ny:Ctx:={ gM:=UJ }
theorem n9:o7 prog Ny:=⟨mixed,(Rv SE:GS prog UJ),fun _ _ _ h=>oH,fun _ _ _ _ _ _ _ h=>oH⟩
theorem uI{n:Int}(hn: -1000000<=n/\n<=1000000):ax prog 220 [I n] (I (kG n)):=by
 refine bP adD (by simp[Tr.s]) (Tr.s _) ?_;rw[adE];refine ws ?_;refine SS ?_;refine er ?_;refine aB ?_;exact ab (ap rfl rfl)
theorem Cj{off:Nat}{vs cs:List D}(hv:vs.length=20)(hl:off+20<=cs.length)(ho:vs.all D.one=true):aG prog 201=true/\vs.length=prog.cellsOf 201/\off+prog.cellsOf 201<=cs.length/\vs.all D.one=true:=by
 rw[rB];exact⟨t201,hv,hl,ho⟩
theorem lF{w:List Int}{m:Nat}(O:w.length=20)(hm:m<1280):ax prog 147 [gH w,I m] (B (kD w m)):=by
 have M:∀ a∈[gH w,I m],Tr a:=.cons (qm _) (.cons (.s _) .nil);have hi:w[m / 64]? =some w[m / 64]:=bB oG;have hg:w.getD (m / 64) 0=w[m / 64]:=by simp[eg,hi]
 have C:=TQ (m:=m) oG;have J:=TR m;have kd:=mq (f:=cU) hi;refine bP adF M (Tr.s _) ?_;rw[adG];refine ws ?_;refine af ?_;refine er ?_;refine SS ?_;refine ao (SF rfl rfl C) ak ⟨rfl,oG⟩ ?_;refine aB ?_;refine ao (SG rfl rfl J) ak ⟨rfl,oG⟩ ?_;refine ao (acY rfl rfl) ak oG ?_;refine ao (S8 rfl rfl) ak rfl ?_;refine af ?_;refine ab (ap (d:=.s (.bool _)) rfl ?_);unfold kD;rw[hg];rfl
theorem qo{w:List Int}{n:Int}(U:w.length=20)(hn: -1000000<=n/\n<1280):ax prog 218 [gH w,I n] (gH (fW w n)):=by
 have O:∀ a∈[gH w,I n],Tr a:=.cons (qm _) (.cons (.s _) .nil);refine bP adH O (qm _) ?_;rw[adI];refine ws ?_;refine af ?_;refine ab (aV (al ?_));by_cases h0:0<=n
 .obtain⟨m,rfl⟩:=ic h0;have hm:m<1280:=by omega
  have hi:w[m / 64]? =some w[m / 64]:=bB oG;have hg:w.getD (m / 64) 0=w[m / 64]:=by simp[eg,hi]
  have J:=TQ (m:=m) oG;have M:=TR m;have kd:=mq (f:=cU) hi;have C:decide (0<=(m:Int))=true:=by simp
  refine SS ?_;refine ao (SH rfl rfl C) ak rfl ?_;refine ab (yx (eF Yw ?_));refine SS ?_;refine ao (SF rfl rfl J) ak ⟨rfl,oG⟩ ?_;refine aB ?_;refine ao (SG rfl rfl M) ak ⟨rfl,oG⟩ ?_;refine ao (acX rfl rfl) ak oG ?_;refine ao (afX rfl rfl) ak rfl ?_;refine af ?_;refine bX bY (al ?_);refine af ?_;refine ab (mA (mV rfl rfl a201 rB (ns (by first|rfl|simp;omega)) t201 oP) ?_);simp only[fW,h0,if_true,dX,uu,hg,gH,List.map_set];rfl
 .have C:decide (0<=n)=false:=by simpa using h0
  refine SS ?_;refine ao (SH rfl rfl C) ak rfl ?_;refine ab (yw (dL (al ?_)));refine af ?_;refine ab (mA (mV rfl rfl a201 rB (ns oP) t201 oP) ?_);simp only[fW,h0,if_false]
theorem Hp{w v:List Int}(O:w.length=20)(hv:v.length=20):ax prog 219 [gH w,gH v] (gH (ia w v)):=by
 have U:∀ a∈[gH w,gH v],Tr a:=.cons (qm _) (.cons (qm _) .nil);refine bP adJ U (qm _) ?_;rw[adK];refine ws ?_;refine aB ?_;refine ab (aV (aE ?_));refine SS ?_
 refine ab (dA (fun s=>aR prog s ⟨aH [(2,.rp 0 0),(3,.rp 1 0),(4,.rp 2 0)],aby [(0,.cells ((ia w v).map cU) 201),(1,.cells (v.map cU) 201),(2,.cells (replicate 20 (cU 0)) 201)],3⟩) (iK (α:=Nat)
  (fun k=>⟨aH [(2,.rp 0 0),(3,.rp 1 0),(4,.rp 2 0),(6,I k)],aby [(0,.cells ((fk w v k).map cU) 201),(1,.cells (v.map cU) 201),(2,.cells (replicate 20 (cU 0)) 201)],3⟩)
  (fun k=>k<=20) (fun k=>20 - k) 0 (bc eH eH) oG ?_) ?_)
 .intro k hk;refine SS ?_;refine ab ⟨_,rfl,fun h=>?_,fun h=>?_⟩
  .have aj:k<20:=by have h:(k:Int)<20:=by simpa using h
                    omega
   have X:(fk w v k).length=20:=by simp[O]
   have hi:(fk w v k)[k]? =some (fk w v k)[k]:=bB oG;have hj:v[k]? =some v[k]:=bB oG;have hg:(fk w v k).getD k 0=(fk w v k)[k]:=by simp[eg,hi]
   have C:v.getD k 0=v[k]:=by simp[eg,hj]
   have kd:=mq (f:=cU) hi;have M:=mq (f:=cU) hj;refine ws ?_;refine af ?_;refine ab (An Yx ?_);refine bH ?_;refine ao (eJ rfl rfl M V.h) ak (eK V.h V.h M) ?_;refine ao (S8 rfl rfl) ak rfl ?_;refine af ?_;refine bX bY ?_;refine af ?_;refine ab (bD (k+1) (bc eH ⟨?_,rfl,rfl,trivial⟩) oG oG);rw[au];simp only[fk,hg,C,List.map_set];rfl
  .have bL:¬ k<20:=by intro hh;simp at h;omega
   have:k=20:=by omega
   subst this;exact .forget _ _ _ _ fun t=>p6 (l:=[(2,.rp 0 0),(3,.rp 1 0),(4,.rp 2 0)]) ⟨rfl,rfl,rfl,trivial⟩ t
 .intro s hg;have J:(ia w v).length=20:=by simp[O]
  generalize ia w v=u at hg J ⊢;refine⟨_,hg,al ?_⟩;refine af ?_;refine ab (mA (mV rfl rfl a201 rB (ns oP) t201 oP) ?_);rfl
def UK:Int:=18446744073709551615
theorem ME:ax prog 217 [] (gH (replicate 20 UK)):=by
 exact mX n9 100 (show uq prog Ny (jW prog Ny 100) 217 []=some (.inl (gH (replicate 20 UK))) by kernel_rfl) rfl
theorem Dz{w:List Int}{x:bS}(C:w.length=20)(hn:x.op=18->0<=x.n/\x.n<80)(ht:x.op≠18-> -1000000<=dB x/\dB x<1280):ax prog 221 [gH w,.agg (bF x)] (gH (fW w (if x.op=18 then kG x.n else dB x))):=by
 have J:∀ a∈[gH w,.agg (bF x)],Tr a:=.cons (qm _) (.cons (.agg (qP x)) .nil);refine bP adL J (qm _) ?_;rw[adM];refine ws ?_;refine aB ?_;refine ab (aV (al ?_));refine aB ?_;refine ab (dI rfl (fun h=>?_) fun h=>dL (eF Yy ?_))
 .have h:x.op=18:=by simpa using h
  have hx:=hn h;have uI:=uI (n:=x.n) oG;have qo:=qo (w:=w) (n:=kG x.n) C (by unfold kG;omega);refine aV (eF Yz ?_);refine aB ?_;refine cl uI ?_;refine cl qo ?_;refine SS ?_;refine bX bY (fN (mA (mV rfl rfl a201 rB (ns oP) t201 oP) ?_));simp[h]
 .have h:x.op≠18:=by simpa using h
  have BF:=BF (x:=x);have qo:=qo (w:=w) (n:=dB x) C (ht h);refine SS ?_;refine ao (dP (vs:=bF _) rfl rfl V.h V.h rfl) ak (dQ V.h V.h (by first|(simp;done)|omega|exact bg rfl)) ?_;refine cl BF ?_;refine cl qo ?_;refine SS ?_;refine bX bY (mA (mV rfl rfl a201 rB (ns oP) t201 oP) ?_);simp[h]
end Go.Proofs.Tryz.K
namespace Go.Argus
def ig(x:End):Bool:=decide (0<=x.others)&&aI [5,6,8] x.kind
def dh(x:End):List Int:=if aI [3,4] x.kind then [] else x.to::((if aI [2,8] x.kind then [x.gP] else [])++(x.aJ.map (·.to)++(if ig x then [x.others] else [])))
def pL(x:End):Nat:=if aI [2,8] x.kind then 2 else 1
theorem Z9{x:End}(h:aI [3,4] x.kind=false):(dh x)[0]? =some x.to/\(aI [2,8] x.kind=true->(dh x)[1]? =some x.gP)/\(∀ (j:Nat) w,x.aJ[j]? =some w->(dh x)[pL x+j]? =some w.to)/\
 (ig x=true->(dh x)[pL x+x.aJ.length]? =some x.others)/\(dh x).length=pL x+x.aJ.length+(if ig x then 1 else 0):=by
 unfold dh pL;generalize ig x=c;rw[if_neg (by simp[h])];cases h2:aI [2,8] x.kind with
 |true=>
  refine⟨rfl,fun _=>rfl,fun j w hj=>?_,fun hc=>?_,?_⟩
  .have:j<x.aJ.length:=(bZ.1 hj).1;simp only[if_true,List.singleton_append];rw[show 2+j=j+1+1 by omega,List.getElem?_cons_succ,List.getElem?_cons_succ,List.getElem?_append_left (by simpa using this)];simp[hj]
  .simp only[if_true,List.singleton_append];rw[show 2+x.aJ.length=x.aJ.length+1+1 by omega,List.getElem?_cons_succ,List.getElem?_cons_succ,List.getElem?_append_right oS];rw[if_pos hc];simp
  .cases c<;>simp<;>omega
 |false=>
  refine⟨rfl,fun h=>oH,fun j w hj=>?_,fun hc=>?_,?_⟩
  .have:j<x.aJ.length:=(bZ.1 hj).1;simp only[Bool.false_eq_true,if_false,List.nil_append];rw[show 1+j=j+1 by omega,List.getElem?_cons_succ,List.getElem?_append_left (by simpa using this)];simp[hj]
  .simp only[Bool.false_eq_true,if_false,List.nil_append];rw[show 1+x.aJ.length=x.aJ.length+1 by omega,List.getElem?_cons_succ,List.getElem?_append_right oS];rw[if_pos hc];simp
  .cases c<;>simp<;>omega
def AB(x:End)(b:Int):Bool:=aL x.to b&&aL ((dh x).count b:Nat) 1
theorem Ka(x:End):(dh x).length<=x.aJ.length+3:=by
 unfold dh;split
 .simp
 .simp only[List.length_cons,List.length_append,List.length_map];split<;>split<;>simp<;>omega
end Go.Argus
namespace Go.Abs
theorem jj{P:Program}{Y:gd}{rf:Bool}{Q:Exit->St->Prop}{st:St}[eB Y]{ops:Array Oper}{i:Nat}(h:aw P Y ops false [] (gF (Q .normal)) ops.toList st []):AW P Y rf (.region i ops false) Q st:=se (rf:=rf) (id:=i) (aw.l0 h fun _ h=>h)
section
variable{P:Program}{env:Env}{m:Mem}{nx:Nat}{x y:Operand}{t p:TypeId}{k:IntKind}{n n':Int}
theorem SD(hx:(opd env x).core=.s (.int .i64 n))(hy:(opd env y).core=.s (.int .i64 n')){r:Int}(hd:n - n'=r/\ -9223372036854775808<=r/\r<=9223372036854775807):Ef P (.binOp .sub t x y p) env m nx ⟨IntKind.i64=IntKind.i64,.s (.int .i64 r),[],[],0⟩:=by
 obtain⟨rfl,h⟩:=hd;exact Ld hx hy h
theorem p7{j i l:Nat}{e:TypeId}{r:Row}(hx:(opd env x).core=.rs j 0 l)(hy:(opd env y).core=.s (.int k (i:Int)))(hm:m j=some r)(he:av P t=e)(hs:P.cellsOf e=1):
 Ef P (.indexAddr t x y) env m nx ⟨bm P t=true/\i<l,.rp j i,[],[j],0⟩:=by
 have h:=Kt (P:=P) (env:=env) (m:=m) (nx:=nx) (t:=t) hx hy hm he hs;have h1:0+((i:Int)).toNat*1=i:=by simp
 have h2:(bm P t=true/\(0:Int)<=(i:Int)/\(i:Int)<l)=(bm P t=true/\i<l):=by
  apply propext;constructor
  .rintro⟨a,_,b⟩;exact⟨a,oG⟩
  .rintro⟨a,b⟩;exact⟨a,oG,oG⟩
 rw[h1,h2] at h;exact h
theorem uv{α:Type}(f:Nat->α)(i:Nat)(a b:α):up (up f i a) i b=up f i b:=by
 funext j;simp only[up];split<;>rfl
variable{Y:gd}{rf:Bool}{Q:Exit->St->Prop}{st:St}{id iQ i1 i3:Nat}{rc ri:Array Oper}{body:Code}{α:Type}{cf:List (Nat×Nat)}{u:Nat}
theorem acq[eB Y](hi:cg rc=some cf)(S:α->St)(J:α->Prop)(μ:α->Nat)(C:α)(hg:aR P st (S C))(O:J C)
 (h:∀ x,J x->aw P Y rc true cf (gF fun s=>∃ g,opd s.env (.tmp u)=.s (.bool g)/\(g=true->AW P Y rf body (nq iQ id (fun s=>aw P Y ri false [] (gF (AQ P S J μ x)) ri.toList s []) Q) s)/\(g=false->Q .normal s)) rc.toList (S x) []):
 ∃ st',aR P st st'/\AW P Y rf (.block id (.loop (.seq (.seq (.region i1 rc true) (.cond (.tmp u) .skip (.exit id))) (.seq (.block iQ body) (.region i3 ri false))))) Q st':=by
 refine FD (Q:=hZ id Q) S J μ C hg O (fun x hx=>?_) (a:=.skip) fun _ h=>h;refine aV (CH (rf:=rf) (id:=i1) hi (aw.l0 (h x hx) fun s hs=>?_));obtain⟨g,h1,h2,M⟩:=hs;refine⟨s,.refl s,dI h1 (fun U=>?_) fun X=>?_⟩
 .exact dL (JW (h2 U))
 .refine sd ?_;simp only[gE,hZ,if_true];exact M X
theorem tL{l:List (Nat×D)}{m':Mem}(h:n8 l env)(hm:m=m'):aR P ⟨env,m,nx⟩ ⟨aH l,m',nx⟩:=hm▸aq h
end
end Go.Abs
namespace Go.Proofs.Tryz.K
theorem ve{x:Argus.End}:ax prog 90 [.agg (bA x)] (.fn (.func 171) [] [.pt (bA x)]):=by
 have C:∀ a∈[D.agg (bA x)],Tr a:=.cons (.agg (lP x)) .nil;refine bP agY C (.fn oS (.cons (.pt (lP x)) .nil)) ?_;rw[agZ];refine aE ?_;refine SS ?_;refine ao (eM (v:=.s .nilFunc) rfl) ak trivial ?_;refine ab (bj (cr [(0,bA x,48)] eH (l:=[(1,.pt (bA x))]) eH) (al ?_));refine SS ?_;refine ao (eM (v:=.fn _ _ _) rfl) ak trivial ?_;exact ab (ap rfl rfl)
def Nz(l:Nat)(x:Argus.End)(C:Nat->Mem->Nat->Prop)(n:Nat)(s:St):Prop:=∃ m nx,aR prog s ⟨aH [(0,.fn (.yield l) [] []),(1,.pt (bA x))],m,nx⟩/\C n m nx
theorem UL{x:Argus.End}(hlen:x.aJ.length<=100000):yJ prog 171 [] [.pt (bA x)] ((dh x).map fun n=>[I n]):=by
 refine ab' mixed adN kr fun l O Stop m nx hI Td h0=>?_;rw[adO];by_cases M:aI [3,4] x.kind=true
 .have kB:((dh x).map fun n=>[I n]).length=0:=by simp[dh,M]
  rw[kB];by_cases J:x.kind=3
  .have iO:(x.kind==3)=true:=by simpa using J
   refine aV (al ?_);refine a7 ?_;(iterate 3 refine z fun _ _=>?_);refine af ?_;(iterate 5 refine z fun _ _=>?_);refine SS ?_;refine ab (dI rfl (fun h=>R' (bh (aY (xX (.inl h0))))) fun h=>oH)
  .have h4:x.kind=4:=by simpa[aI,J] using M
   have iO:(x.kind==3)=false:=by simpa using J
   have CX:(x.kind==4)=true:=by simpa using h4
   refine aV (al ?_);refine SN9 ?_;(iterate 5 refine z fun _ _=>?_);refine SS ?_;refine ab (dI rfl (fun h=>R' (bh (aY (xX (.inl h0))))) fun h=>oH)
 have M:aI [3,4] x.kind=false:=by simpa using M
 obtain⟨x0,x1,xw,xo,xl⟩:=Z9 M;have C:∀ {k:Nat} {n:Int},(dh x)[k]? =some n->((dh x).map fun n=>[I n])[k]? =some [I n]:=fun h=>by simp[h]
 have sO:((dh x).map fun n=>[I n]).length=pL x+x.aJ.length+(if ig x then 1 else 0):=by simpa using xl
 have xf:x.kind≠3/\x.kind≠4:=by simpa[aI] using M
 refine fO (Nz l x O 1) ?_ fun s hs=>?_
 .have iO:(x.kind==3)=false:=by simpa using xf.1
  have CX:(x.kind==4)=false:=by simpa using xf.2
  refine ws ?_;refine SN9 ?_;refine aB ?_;refine Lz rfl rfl rfl rfl aF ⟨rfl,0,C x0,h0,fun d m' aA hp=>?_⟩;rcases hp with⟨rfl,hp⟩|⟨rfl,hp⟩
  .refine af ?_;exact ab (yC rfl (fun h=>oH) fun h=>bq ⟨m',aA,aq eH,hp⟩)
  .refine af ?_;exact ab (yC rfl (fun h=>bh (aY (xX (.inr hp)))) fun h=>oH)
 obtain⟨m1,X,hg,h1⟩:=hs;refine⟨_,hg,?_⟩;clear hg h0;refine fO (Nz l x O (pL x)) ?_ fun s hs=>?_
 .have yes:aI [2,8] x.kind=true->(dh x)[1]? =some x.gP/\pL x=2:=fun h=>⟨x1 h,by simp[pL,h]⟩
  by_cases h2:x.kind=2
  .obtain⟨y1,y2⟩:=yes (by rw[h2];rfl);have iO:(x.kind==2)=true:=by simpa using h2
   refine ws ?_;refine a7 ?_;(iterate 3 refine z fun _ _=>?_);refine bH ?_;refine Lz rfl rfl rfl rfl aF ⟨rfl,1,C y1,h1,fun d m' aA hp=>?_⟩;rcases hp with⟨rfl,hp⟩|⟨rfl,hp⟩
   .refine af ?_;exact ab (yC rfl (fun h=>oH) fun h=>bq ⟨m',aA,aq eH,y2▸hp⟩)
   .refine af ?_;exact ab (yC rfl (fun h=>bh (aY (xX (.inr hp)))) fun h=>oH)
  .have iO:(x.kind==2)=false:=by simpa using h2
   by_cases U:x.kind=8
   .obtain⟨y1,y2⟩:=yes (by rw[U];rfl);have CX:(x.kind==8)=true:=by simpa using U
    refine ws ?_;refine SN9 ?_;refine aB ?_;refine Lz rfl rfl rfl rfl aF ⟨rfl,1,C y1,h1,fun d m' aA hp=>?_⟩;rcases hp with⟨rfl,hp⟩|⟨rfl,hp⟩
    .refine af ?_;exact ab (yC rfl (fun h=>oH) fun h=>bq ⟨m',aA,aq eH,y2▸hp⟩)
    .refine af ?_;exact ab (yC rfl (fun h=>bh (aY (xX (.inr hp)))) fun h=>oH)
   .have CX:(x.kind==8)=false:=by simpa using U
    have hb:pL x=1:=by simp[pL,aI,h2,U]
    refine ws ?_;refine SN9 ?_;(iterate 5 refine z fun _ _=>?_);refine SS ?_;exact ab (yC rfl (fun h=>oH) fun h=>bq ⟨m1,X,aq eH,hb▸h1⟩)
 obtain⟨m2,iC,hg,h2⟩:=hs;refine⟨_,hg,?_⟩;clear hg;refine fO (Nz l x O (pL x+x.aJ.length)) (aE ?_) fun s hs=>?_
 .refine a7 ?_
  refine ab (iK (α:=Nat×Mem×Nat) (fun k=>⟨aH [(0,.fn (.yield l) [] []),(1,.pt (bA x)),(36,pX x.aJ),(37,I x.aJ.length),(38,I k.1)],k.2.1,k.2.2⟩)
   (fun k=>k.1<=x.aJ.length/\O (pL x+k.1) k.2.1 k.2.2) (fun k=>x.aJ.length - k.1) (0,m2,iC) (aq eH) ⟨oG,h2⟩ ?_)
  rintro⟨k,m3,Nq⟩ ⟨hk,HE⟩;refine SS ?_;refine ab ⟨_,rfl,fun h=>?_,fun h=>?_⟩
  .have aj:k<x.aJ.length:=by simpa using h
   have hx:x.aJ[k]? =some x.aJ[k]:=by simp[aj]
   generalize x.aJ[k]=w at hx;refine ws ?_;refine aB ?_;refine dJ (iI (cs':=lg _) rfl rfl (au _ _ _) rfl) ak (eU V.h V.h (by first|(simp;done)|exact⟨rfl,bg rfl⟩|(simp;omega)) (by rfl)) ?_;refine er ?_;refine SS ?_;refine ao (nV rfl (au _ _ _) V.h) ak (iT V.h) ?_;refine ao (eJ rfl (au _ _ _) rfl V.h) ak (eK V.h V.h rfl) ?_;refine UH rfl rfl aF ⟨rfl,pL x+k,C (xw k w hx),hI _ _ _ _ _ HE oG (fun i hi=>aM oG (aM oG rfl)),fun d m' aA hp=>?_⟩;rcases hp with⟨rfl,hp⟩|⟨rfl,hp⟩
   .refine SS ?_;refine ab (yC rfl (fun h=>oH) fun h=>eC ?_);refine af ?_;exact ab (bD (k+1,m',aA) (aq eH) ⟨by simp only;omega,hp⟩ (by simp only;omega))
   .refine SS ?_;exact ab (yC rfl (fun h=>bh (dp (aY (xX (.inr hp))))) fun h=>oH)
  .have bL:¬ k<x.aJ.length:=by simpa using h
   have:k=x.aJ.length:=by simp only at hk;omega
   subst this;exact⟨m3,Nq,.forget _ _ _ _ fun t=>p6 (l:=[(0,.fn (.yield l) [] []),(1,.pt (bA x))]) ⟨rfl,rfl,trivial⟩ t,HE⟩
 obtain⟨m3,Nq,hg,J⟩:=hs;refine⟨_,hg,al ?_⟩;refine SN9 ?_;refine SN9 ?_;refine ab (yC rfl (fun h=>?_) fun h=>?_)
 .have hc:ig x=true:=by
   revert h;unfold ig aI;simp[ib,or_assoc]
  refine jj ?_;refine aB ?_;refine UH rfl rfl aF ⟨rfl,_,C (xo hc),J,fun d m' aA hp=>?_⟩;refine ab (Gh ?_);rcases hp with⟨rfl,hp⟩|⟨rfl,hp⟩
  .left;rw[sO,if_pos hc];exact hp
  .exact .inr hp
 .have hc:ig x=false:=by
   revert h;unfold ig aI;simp[ib,and_assoc]
  refine eC (Gh (.inl ?_));rw[sO,hc];exact J
theorem MF{x:Argus.End}{b:Int}(hlen:x.aJ.length<=1000):ax prog 222 [.agg (bA x),I b] (B (AB x b)):=by
 have J:∀ a∈[D.agg (bA x),I b],Tr a:=.cons (.agg (lP x)) (.cons (.s _) .nil);have ve:=ve (x:=x);have hl:=Ka x;refine bP adP J (Tr.s _) ?_;rw[adQ];refine aE ?_;refine SS ?_;refine cM (Ks (d:=.s (.int _ _)) rfl rfl) ak rfl ?_;refine SS ?_;refine ab (bj (cr [(0,bA x,48),(1,[I b],3)] eH (l:=[(2,.pt (bA x)),(3,.pt [I b])]) eH) (al ?_));refine SS ?_;refine dJ (mo (d:=.s (.int _ _)) (cs':=[_]) rfl rfl rfl rfl rfl) ak (eU V.h V.h (by first|(simp;done)|exact⟨rfl,bg rfl⟩|(simp;omega)) rfl) ?_;refine ab ?_;refine fO (fun s=>∃ n',aR prog s ⟨aH [(2,.pt (bA x)),(3,.pt [I b]),(5,.rp 2 0)],aby [(2,.cells [I ((dh x).count b:Nat)] 3)],n'⟩) (al ?_) fun s hs=>?_
 .refine SS ?_;refine cl ve ?_;refine ab (qN ?_);refine⟨rfl,trivial,171,[],[.pt (bA x)],(dh x).map (fun n=>[I n]),fun k m nx=>m 2=some (.cells [I (((dh x).take k).count b:Nat)] 3)/\3<=nx,rfl,UL oG,?_,⟨rfl,oS⟩,?_,?_⟩
  .intro y hy;obtain⟨n,_,rfl⟩:=List.mem_map.1 hy;exact⟨rfl,.cons (.s _) .nil⟩
  .rintro k m nx y hy ⟨aD,M⟩;simp only[List.getElem?_map,dm] at hy;obtain⟨n,hn,rfl⟩:=hy;have hk:k<(dh x).length:=(bZ.1 hn).1
   have hc:((dh x).take (k+1)).count b=((dh x).take k).count b+(if n=b then 1 else 0):=by
    rw[List.take_add_one,hn,List.count_append];by_cases e:n=b
    .subst e;simp
    .simp[e]
   have C:((dh x).take k).count b<=k:=Nat.le_trans List.count_le_length oP;generalize ((dh x).take k).count b=c at aD hc C;refine jj ?_;refine SS ?_;refine ab (show AW _ _ _ _ _ _ from qN (al ?_));refine aB ?_;refine ab (yC rfl (fun h=>?_) fun h=>?_)
   .have h:n=b:=by simpa using h
    refine jj ?_;refine af ?_;refine dJ (mo (d:=.s (.int _ _)) (cs':=[_]) rfl rfl aD rfl rfl) ak (eU V.h V.h (by first|(simp;done)|exact⟨rfl,bg rfl⟩|(simp;omega)) rfl) ?_;refine ab ?_;refine⟨?_,oM⟩;dsimp only;refine(au _ _ _).trans ?_;rw[hc,if_pos h];simp
   .have h:¬ n=b:=by simpa using h
    exact eC ⟨by rw[hc,if_neg h];exact aD,M⟩
  .rintro m nx ⟨h1,h2⟩;refine⟨nx,bc eH ⟨?_,trivial⟩⟩;rw[h1,List.length_map,List.take_length]
 obtain⟨n',hg⟩:=hs;refine⟨_,hg,al ?_⟩;refine SN9 ?_;refine ab (ap (d:=.s (.bool _)) rfl ?_);simp[AB,aL,ib]
theorem MG{f:FuncId}{cs:List D}{xs:List Int}(hs:yJ prog f [] cs (xs.map fun n=>[I n]))(ht:Tr (.fn (.func f) [] cs))(hlen:xs.length<=100000):qY prog 297 [.z,.fn (.func f) [] cs] (xs.map I) xs.length 3:=by
 have X:∀ a∈[D.z,.fn (.func f) [] cs],Tr a:=.cons .z (.cons ht .nil);refine NA adR X (.map fun _=>.s _) ?_;rw[adS];refine ws ?_;refine cM (Ks (d:=.z) rfl rfl) ak rfl ?_;refine SS ?_;refine ab ?_;refine fO (fun s=>(xs=[]/\∃ n',aR prog s ⟨aH [(2,.rp 0 0)],aby [(0,.cells [.z] 35)],n'⟩)\/∃ r n',0<r/\aR prog s ⟨aH [(2,.rp 0 0)],aby [(0,.cells [.rs r 0 xs.length] 35),(r,.cells (xs.map I) 3)],n'⟩) (al ?_) fun s hs=>?_
 .refine SS ?_;refine ab (qN ?_);refine⟨rfl,trivial,f,[],cs,xs.map (fun n=>[I n]),fun k m nx=>1<=nx/\((k=0/\m 0=some (.cells [.z] 35))\/(0<k/\∃ r,0<r/\r<nx/\m 0=some (.cells [.rs r 0 k] 35)/\m r=some (.cells ((xs.take k).map I) 3))),rfl,hs,?_,⟨oS,.inl ⟨rfl,rfl⟩⟩,?_,?_⟩
  .intro y hy;obtain⟨n,_,rfl⟩:=List.mem_map.1 hy;exact⟨rfl,.cons (.s _) .nil⟩
  .rintro k m nx y hy ⟨fH,C⟩;simp only[List.getElem?_map,dm] at hy;obtain⟨n,hn,rfl⟩:=hy;have hk:k<xs.length:=(bZ.1 hn).1
   have M:(xs.take (k+1)).map I=(xs.take k).map I++[I n]:=by
    rw[List.take_add_one,hn];simp
   refine jj ?_;refine SS ?_;refine ab (show AW _ _ _ _ _ _ from qN (jj ?_));rcases C with⟨rfl,aD⟩|⟨U,r,O,J,aD,CW⟩
   .refine a7 ?_;refine dJ (mo (d:=.rs _ _ _) (cs':=[_]) rfl rfl (aM oG (aM oG aD)) rfl rfl) ak (eU V.h V.h (by first|(simp;done)|exact⟨rfl,bg rfl⟩|(simp;omega)) rfl) ?_;refine ab ?_;refine⟨oM,.inr ⟨oG,nx+1,oG,oM,?_,?_⟩⟩
    .dsimp only;exact(au _ _ _).trans rfl
    .dsimp only;exact(aM oG (au _ _ _)).trans (by rw[M];rfl)
   .have H2:((xs.take k).map I).length=k:=by simp;omega
    refine a7 ?_;refine dJ (mo (d:=.rs _ _ _) (cs':=[_]) rfl rfl (aM oG (aM oG (aM oG aD))) rfl rfl) ak (eU V.h V.h (by first|(simp;done)|exact⟨rfl,bg rfl⟩|(simp;omega)) rfl) ?_;refine ab ?_;refine⟨oM,.inr ⟨oG,nx+1,oG,oM,?_,?_⟩⟩
    .dsimp only;exact(au _ _ _).trans rfl
    .dsimp only;exact(aM oG (au _ _ _)).trans (by rw[M];rfl)
  .rintro m nx ⟨fH,C⟩;rw[List.length_map] at C;rcases C with⟨h0,aD⟩|⟨U,r,O,J,aD,CW⟩
   .exact .inl ⟨List.length_eq_zero_iff.1 h0,nx,bc eH ⟨aD,trivial⟩⟩
   .refine .inr ⟨r,nx,O,bc eH ⟨aD,?_,trivial⟩⟩;rw[CW,List.take_length]
 rcases hs with⟨rfl,n',hg⟩|⟨r,n',hr,hg⟩
 .refine⟨_,hg,aE ?_⟩;refine af ?_;refine ab ⟨_,.CB _ _ _ 4 3 rfl,ap rfl ⟨n',?_,au _ _ _⟩⟩;rfl
 .refine⟨_,hg,al ?_⟩;refine af ?_;refine ab (ap rfl ⟨r,rfl,?_⟩);simp[aby];omega
theorem MH{f:FuncId}{cs:List D}{xs:List Int}(hs:yJ prog f [] cs (xs.map fun n=>[I n]))(ht:Tr (.fn (.func f) [] cs))(hlen:xs.length<=100000):qY prog 247 [.fn (.func f) [] cs] (xs.map I) xs.length 3:=by
 have C:∀ a∈[.fn (.func f) [] cs],Tr a:=.cons ht .nil;refine NA adT C (.map fun _=>.s _) ?_;rw[adU];have MG:=MG hs ht hlen;refine ws ?_;refine SS ?_;refine er ?_;refine SS ?_;refine Ly MG rfl aF ?_;refine SS ?_;exact ab (ap rfl ⟨0,rfl,rfl⟩)
end Go.Proofs.Tryz.K
namespace Go.Argus
def swapAt(l:List Int)(j:Nat):List Int:=(l.set (j+1) (l.getD j 0)).set j (l.getD (j+1) 0)
def oD(l:List Int):Nat->List Int
 |0=>l
 |j+1=>if l.getD (j+1) 0<l.getD j 0 then oD (swapAt l j) j else l
def mE(l:List Int):Nat->List Int
 |0=>l
 |k+1=>oD (mE l k) (k+1)
def nv(l:List Int):List Int:=mE l (l.length - 1)
@[simp] theorem aks (l : List Int) (j : Nat) : (swapAt l j).length = l.length := by simp [swapAt]
@[simp] theorem Z' : ∀ (j : Nat) (l : List Int), (oD l j).length = l.length
 |0,l=>rfl
 |j+1,l=>by simp only[oD];split<;>simp[Z' j]
@[simp] theorem Pu (l : List Int) : ∀ k, (mE l k).length = l.length
 |0=>rfl
 |k+1=>by simp[mE,Pu l k]
@[simp] theorem Pv (l : List Int) : (nv l).length = l.length := Pu l _
def fL(d:List Int):Nat->List Int
 |0=>[]
 |t+1=>fL d t++(if t≠0/\d.getD t 0=d.getD (t - 1) 0 then [] else [d.getD t 0])
def mZ(d:List Int):List Int:=fL d d.length
theorem Rz{d:List Int}{x:Int}:∀ {t:Nat},t<=d.length->(x∈fL d t↔x∈d.take t)
 |0,_=>by simp[fL]
 |t+1,ht=>by
  have ih:=Rz (d:=d) (x:=x) (t:=t) oG;have hg:d.getD t 0=d[t]:=by simp[eg,bB (show t<d.length by omega)]
  rw[fL,List.mem_append,ih,List.take_succ_eq_append_getElem oG,List.mem_append];split
  .rename_i h;have h1:d[t - 1]? =some d[t - 1]:=bB oG
   have C:d[t]∈d.take t:=by
    rw[<- hg,h.2];have:d.getD (t - 1) 0=d[t - 1]:=by simp[eg,h1]
    rw[this];exact cX (i:=t - 1) (by rw[List.getElem?_take,if_pos oG,h1])
   constructor
   .rintro(h|h)
    .exact .inl h
    .simp at h
   .rintro(h|h)
    .exact .inl h
    .simp at h;subst h;exact .inl C
  .rw[hg]
theorem RA{d:List Int}:∀ t,(fL d t).length<=t
 |0=>by simp[fL]
 |t+1=>by
  have:=RA (d:=d) t;rw[fL,List.length_append];split<;>simp<;>omega
theorem SI{d:List Int}{t:Nat}(ht:t<d.length)(h0:t≠0)(h:d.getD t 0=d.getD (t - 1) 0):fL d (t+1)=fL d t:=by
 rw[fL,if_pos ⟨h0,h⟩,List.append_nil]
theorem SJ{d:List Int}{t:Nat}(h:d.getD t 0≠d.getD (t - 1) 0):fL d (t+1)=fL d t++[d.getD t 0]:=by
 rw[fL,if_neg fun hh=>h hh.2]
end Go.Argus
namespace Go.Proofs.Tryz.K
theorem ag0{a:Int}:ax prog 351 [I a] (B false):=by
 refine bP adV (by simp[Tr.s]) (Tr.s _) ?_;rw[adW];refine ws ?_;refine SS ?_;refine er ?_;refine a7 ?_;refine ab (ap (d:=.s (.bool _)) rfl ?_);simp[bne]
theorem ag1{a b:Int}:ax prog 330 [I a,I b] (B (decide (a<b))):=by
 refine bP adX (by simp[Tr.s]) (Tr.s _) ?_;rw[adY];refine ws ?_;refine SS ?_;refine er ?_;refine SS ?_;refine cl ag0 ?_;refine SS ?_;(iterate 3 refine z fun _ _=>?_);refine fS ?_;exact ab (ap (d:=.s (.bool _)) rfl rfl)
theorem ag2{m:Mem}{nx i n:Nat}{l:List Int}(hi:i<nx)(hm:m i=some (.cells (l.map I) 3))(hl:l.length=n)(hn:n<=12):
 ji prog 324 [.rs i 0 n,I 0,I n] m nx (fun r m' aA=>r=.bp []/\aA=nx/\m'=up m i (some (.cells ((nv l).map I) 3))):=by
 refine H3 adZ ?_;rw[ad0]
 have O:up m i (some (.cells (l.map I) 3))=m:=by
  funext j;simp only[up];split
  .rename_i e;rw[e,hm]
  .rfl
 refine aE ?_;refine aB ?_;refine ab (eX (α:=Nat) (fun k=>⟨aH [(0,.rs i 0 n),(1,I 0),(2,I n),(6,I (k+1:Nat))],up m i (some (.cells ((mE l k).map I) 3)),nx⟩) (fun k=>k<=n - 1) (fun k=>n - k) 0 (tL eH O.symm) oG ?_);intro k hk;refine aB ?_;refine ab ⟨_,rfl,fun h=>?_,fun h=>?_⟩
 .have aj:k+1<n:=by have:((k+1:Nat):Int)<n:=by simpa using h
                    omega
  refine aE ?_;refine af ?_;refine ab (acq YA (α:=List Int×Nat) (fun s=>⟨aH [(0,.rs i 0 n),(1,I 0),(2,I n),(6,I (k+1:Nat)),(7,I s.2)],up m i (some (.cells (s.1.map I) 3)),nx⟩) (fun s=>s.1.length=n/\s.2<=k+1/\oD s.1 s.2=mE l (k+1)) (fun s=>s.2) (mE l k,k+1) (aq eH) ⟨by simp[hl],oS,rfl⟩ ?_);rintro⟨d,j⟩ ⟨hd,hj,hs⟩;simp only at hd hj hs;cases j with
  |zero=>
   have s7:decide ((0:Int)<((0:Nat):Int))=false:=rfl;refine a7 ?_;(iterate 10 refine z fun _ _=>?_);refine SS ?_;refine bX bY ⟨_,rfl,fun h=>oH,fun h=>?_⟩;have hs:d=mE l (k+1):=hs;subst hs;show aw _ _ _ _ _ _ _ _ _;refine aB ?_;exact ab (bD (k+1) (aq eH) oG oG)
  |succ j=>
   have ha:d[j+1]? =some d[j+1]:=bB oG;have hb:d[j]? =some d[j]:=bB oG;have J:d.getD (j+1) 0=d[j+1]:=by simp[eg,ha]
   have M:d.getD j 0=d[j]:=by simp[eg,hb]
   have kd:=mq (f:=I) ha;have C:=mq (f:=I) hb;generalize U:d[j+1]=a at ha J kd;generalize X:d[j]=b at hb M C;clear U X;have s7:decide ((0:Int)<((j+1:Nat):Int))=true:=by simp
   have wC:((j+1:Nat):Int) - 1=(j:Int)/\ -9223372036854775808<=(j:Int)/\(j:Int)<=9223372036854775807:=by omega
   refine cY ?_;refine bQ rfl rfl (p7 rfl rfl (au _ _ _) V.h V.h) (fun hc=>⟨ak,⟨V.h,oG⟩⟩) ?_;refine bQ rfl rfl (eJ rfl (au _ _ _) kd V.h) (fun hc=>⟨ak,(eK V.h V.h kd)⟩) ?_;refine aB ?_;refine bQ rfl rfl (p7 rfl rfl (au _ _ _) V.h V.h) (fun hc=>⟨ak,⟨V.h,oG⟩⟩) ?_;refine bQ rfl rfl (eJ rfl (au _ _ _) C V.h) (fun hc=>⟨ak,(eK V.h V.h C)⟩) ?_;refine gc ag1 ?_;refine SS ?_;refine bX bY ⟨_,rfl,fun h=>?_,fun h=>?_⟩
   .have h:a<b:=by simpa using h
    refine An YB ?_;refine SN9 ?_;refine ao (eJ rfl (au _ _ _) C V.h) ak (eK V.h V.h C) ?_;refine cT ?_;refine bX bY ?_;refine aB ?_;refine ab (bD (swapAt d j,j) (tL eH ?_) ⟨by simp[hd],by simp only;omega,?_⟩ (by simp only;omega))
    .rw[uv,uv];simp only[swapAt,J,M,List.map_set]
    .rw[<- hs];simp only[oD,J,M,if_pos h]
   .have h:¬ a<b:=by simpa using h
    have hs:d=mE l (k+1):=by rw[<- hs];simp only[oD,J,M,if_neg h]
    subst hs;show aw _ _ _ _ _ _ _ _ _;refine aB ?_;exact ab (bD (k+1) (aq eH) oG oG)
 .have bL:¬ k+1<n:=by have h:¬ ((k+1:Nat):Int)<n:=by simpa using h
                      omega
  refine Gh ⟨rfl,rfl,?_⟩;have:k=n - 1:=by omega
  subst this;simp only[nv,hl]
theorem ag3{m:Mem}{nx i n:Nat}{l:List Int}{BJ:Int}(hi:i<nx)(hm:m i=some (.cells (l.map I) 3))(hl:l.length=n)(hn:n<=12):
 ji prog 298 [.rs i 0 n,I 0,I n,I BJ] m nx (fun r m' aA=>r=.bp []/\aA=nx/\m'=up m i (some (.cells ((nv l).map I) 3))):=by
 refine H3 ad1 ?_;rw[ad2];refine ws ?_;refine SS ?_;refine ab (aE ?_);refine SS ?_;refine ab ⟨_,aq (l:=[(0,.rs i 0 n),(1,I 0),(2,I n)]) eH,qN (Q4 (fun s=>s=⟨aH [(0,.rs i 0 n),(1,I 0),(2,I n)],m,nx⟩) (fun _=>0) rfl fun s hs=>?_)⟩;subst hs;refine qN (al ?_);refine a7 ?_;refine ab (aV (al ?_));refine SS ?_;refine ao (GJ rfl rfl) ak rfl ?_;refine ab (dI rfl (fun h=>?_) fun h=>?_)
 .refine aV (al ?_);refine aB ?_;refine G0 (ag2 hi hm hl hn) rfl aF fun r m' aA hp=>?_;obtain⟨rfl,rfl,rfl⟩:=hp;exact ab (fN (bR (aY (bR (xX ⟨rfl,rfl,rfl⟩)))))
 .have:¬ ((n:Int) - 0<=12):=by simpa using h
  omega
theorem MI{n:Nat}(hn:n<=12):∃ r,ax prog 189 [.s (.int .u64 (IntKind.u64.wrap (n:Int)))] (I r):=by
 match n,hn with
 |0,_=>exact⟨0,mX n9 100 kr rfl⟩
 |1,_=>exact⟨1,mX n9 100 kr rfl⟩
 |2,_=>exact⟨2,mX n9 100 kr rfl⟩
 |3,_=>exact⟨2,mX n9 100 kr rfl⟩
 |4,_=>exact⟨3,mX n9 100 kr rfl⟩
 |5,_=>exact⟨3,mX n9 100 kr rfl⟩
 |6,_=>exact⟨3,mX n9 100 kr rfl⟩
 |7,_=>exact⟨3,mX n9 100 kr rfl⟩
 |8,_=>exact⟨4,mX n9 100 kr rfl⟩
 |9,_=>exact⟨4,mX n9 100 kr rfl⟩
 |10,_=>exact⟨4,mX n9 100 kr rfl⟩
 |11,_=>exact⟨4,mX n9 100 kr rfl⟩
 |12,_=>exact⟨4,mX n9 100 kr rfl⟩
theorem ag4{m:Mem}{nx i n:Nat}{l:List Int}(hi:i<nx)(hm:m i=some (.cells (l.map I) 3))(hl:l.length=n)(hn:n<=12):
 ji prog 248 [.rs i 0 n] m nx (fun r m' aA=>r=.bp []/\aA=nx/\m'=up m i (some (.cells ((nv l).map I) 3))):=by
 refine H3 ad3 ?_;rw[ad4];obtain⟨BJ,MI⟩:=MI hn;have aD:=hm;refine ws ?_;refine aB ?_;refine ab (jj ?_);refine aB ?_;refine ao (ab8 rfl V.h) ak V.h ?_;refine cl MI ?_;refine G0 (ag3 hi hm hl hn) rfl aF fun r m' aA hp=>?_;obtain⟨rfl,rfl,rfl⟩:=hp;exact ab (Gh ⟨rfl,rfl,rfl⟩)
end Go.Proofs.Tryz.K
namespace Go.Abs
section
variable{P:Program}{env:Env}{m:Mem}{nx:Nat}{x y:Operand}{t p:TypeId}{k:IntKind}{n n':Int}
theorem abu{j i l off:Nat}{e:TypeId}{r:Row}(hx:(opd env x).core=.rs j off l)(hy:(opd env y).core=.s (.int k (i:Int)))(hm:m j=some r)(he:av P t=e)(hs:P.cellsOf e=1):
 Ef P (.indexAddr t x y) env m nx ⟨bm P t=true/\i<l,.rp j (off+i),[],[j],0⟩:=by
 have h:=Kt (P:=P) (env:=env) (m:=m) (nx:=nx) (t:=t) hx hy hm he hs;have h1:off+((i:Int)).toNat*1=off+i:=by simp
 have h2:(bm P t=true/\(0:Int)<=(i:Int)/\(i:Int)<l)=(bm P t=true/\i<l):=by
  apply propext;constructor
  .rintro⟨a,_,b⟩;exact⟨a,oG⟩
  .rintro⟨a,b⟩;exact⟨a,oG,oG⟩
 rw[h1,h2] at h;exact h
theorem Pw{i l a:Nat}{cs:List D}{e:TypeId}(hx:(opd env x).core=.rs i 0 l)(hm:m i=some (.cells cs e))(he:av P t=e)(hs:P.cellsOf e=1)(ha:(opd env y).core=.s (.int .i64 (a:Int))):
 Ef P (.slice t x (some y) none none) env m nx ⟨bm P t=true/\a<=l,.rs i a (l - a),[],[i],0⟩:=by
 have h:=P9 (P:=P) (env:=env) (m:=m) (nx:=nx) (t:=t) (lo:=some y) (hi:=none) (a:=(a:Int)) (b:=(l:Int)) hx hm he hs (by simp[eP,ha,D.int?]) (by simp[eP]);have h1:0+((a:Int)).toNat*1=a:=by simp
 have C:((l:Int) - (a:Int)).toNat=l - a:=by omega
 have h2:((bm P t=true/\1=1)/\(0:Int)<=(a:Int)/\(a:Int)<=(l:Int)/\(l:Int)<=(l:Int))=(bm P t=true/\a<=l):=by
  apply propext;constructor
  .rintro⟨⟨a,_⟩,_,b,_⟩;exact⟨a,oG⟩
  .rintro⟨a,b⟩;exact⟨⟨a,rfl⟩,oG,oG,oG⟩
 rw[h1,h2,C] at h;exact h
theorem YC{i l b:Nat}{cs:List D}{e:TypeId}(hx:(opd env x).core=.rs i 0 l)(hm:m i=some (.cells cs e))(he:av P t=e)(hs:P.cellsOf e=1)(hb:(opd env y).core=.s (.int .i64 (b:Int))):
 Ef P (.slice t x none (some y) none) env m nx ⟨bm P t=true/\b<=l,.rs i 0 b,[],[i],0⟩:=by
 have h:=P9 (P:=P) (env:=env) (m:=m) (nx:=nx) (t:=t) (lo:=none) (hi:=some y) (a:=0) (b:=(b:Int)) hx hm he hs (by simp[eP]) (by simp[eP,hb,D.int?]);have h1:0+((0:Int)).toNat*1=0:=by simp
 have C:((b:Int) - 0).toNat=b:=by omega
 have h2:((bm P t=true/\1=1)/\(0:Int)<=0/\(0:Int)<=(b:Int)/\(b:Int)<=(l:Int))=(bm P t=true/\b<=l):=by
  apply propext;constructor
  .rintro⟨⟨a,_⟩,_,_,b⟩;exact⟨a,oG⟩
  .rintro⟨a,b⟩;exact⟨⟨a,rfl⟩,oG,oG,oG⟩
 rw[h1,h2,C] at h;exact h
theorem abz{i off l:Nat}{cs z:List D}{e:TypeId}(hx:(opd env x).core=.rs i off l)(hm:m i=some (.cells cs e))(he:av P t=e)(hz:aZ P e=z):
 Ef P (.call { callee:=.builtin .clear,args:= #[x],argTypes:= #[t] }) env m nx ⟨bm P t=true/\off+l*P.cellsOf e<=cs.length/\e=e,.bp [],[(i,some (.cells (fj cs off (dq l z)) e))],[i],0⟩:=by
 refine v8 («aS»:=[.rs i off l]) rfl (by simp[hx]) ?_;simp only[eI,hm,hz,Array.getD_eq_getD_getElem?,List.getElem?_toArray,List.getElem?_cons_zero,Option.getD_some,he]
theorem Xy{cs:List D}{n k:Nat}{x:D}(hn:cs.length=n)(hk:k<=n):fj cs k (dq (n - k) [x])=cs.take k++replicate (n - k) x:=by
 have hr:dq (n - k) [x]=replicate (n - k) x:=by
  unfold dq;generalize n - k=j
  induction j with
  |zero=>rfl
  |succ j ih=>simp[List.replicate_succ,ih]
 rw[hr];unfold fj;split
 .rename_i y e;have h1:n - k=1:=by have:=congrArg List.length e;simpa using this
  rw[h1] at e ⊢;simp at e;subst e;rw[List.set_eq_take_append_cons_drop,if_pos oG,List.drop_eq_nil_of_le oG];rfl
 .rw[List.length_replicate,List.drop_eq_nil_of_le oG,List.append_nil]
end
end Go.Abs
namespace Go.Proofs.Tryz.K
def CZ(d:List Int)(n:Nat):List D:=(mZ d).map I++replicate (n - (mZ d).length) (I 0)
def RB(d:List Int)(n:Nat)(m:Mem)(nx i:Nat)(r:D)(m':Mem)(aA:Nat):Prop:=aA=nx/\r=.rs i 0 (mZ d).length/\m'=up m i (some (.cells (CZ d n) 3))
def acr(d:List Int)(m:Mem)(nx i:Nat)(r:D)(m':Mem)(aA:Nat):Prop:=aA=nx/\r=.rs i 0 (mZ d).length/\∃ c,m'=up m i (some (.cells c 3))/\c.take (mZ d).length=(mZ d).map I
theorem ad5{m:Mem}{nx i n:Nat}{d:List Int}(hi:i<nx)(hm:m i=some (.cells (d.map I) 3))(hl:d.length=n)(hn:n<=100000):ji prog 169 [.rs i 0 n] m nx (RB d n m nx i):=by
 refine H3 ad6 ?_;rw[ad7];have aD:=hm
 have O:up m i (some (.cells (d.map I) 3))=m:=by
  funext j;simp only[up];split
  .rename_i e;rw[e,hm]
  .rfl
 have whole:fL d n=d->RB d n m nx i (.rs i 0 n) m nx:=fun h=>by
  have h:mZ d=d:=by unfold mZ;rw[hl];exact h
  refine⟨rfl,by rw[h,hl],?_⟩;rw[CZ,h,hl,Nat.sub_self,List.replicate_zero,List.append_nil,O]
 refine ws ?_;refine SS ?_;refine ab (aV (al ?_));refine aB ?_;refine ab (dI rfl (fun h=>?_) fun h=>dL (aV (aE ?_)))
 .have h:n<2:=by have h:(n:Int)<2:=by simpa using h
                 omega
  refine aV (al ?_);refine af ?_;refine ab (fN (ap rfl (whole ?_)))
  match d,n,hl,h with
  |[],_,rfl,_=>rfl
  |[a],_,rfl,_=>rfl
 have h2:2<=n:=by have h:¬ (n:Int)<2:=by simpa using h
                  omega
 refine SS ?_;refine ab (dA (fun s=>aR prog s ⟨aH [(0,.rs i 0 n)],m,nx⟩/\fL d n=d) (eX (α:=Nat) (fun k=>⟨aH [(0,.rs i 0 n),(3,I k)],m,nx⟩) (fun k=>1<=k/\k<=n/\fL d k=d.take k) (fun k=>n - k) 1 (aq eH) ⟨oG,oG,?_⟩ ?_) ?_)
 .match d,hl with
  |a::t,_=>rfl
  |[],hl=>simp at hl;omega
 .rintro k ⟨uT,hk,J⟩;refine a7 ?_;refine ab ⟨_,rfl,fun h=>?_,fun h=>?_⟩
  .have aj:k<n:=by have h:(k:Int)<n:=by simpa using h
                   omega
   obtain⟨j,rfl⟩:∃ j,k=j+1:=⟨k - 1,oG⟩
   have ha:d[j+1]? =some d[j+1]:=bB oG;have hb:d[j]? =some d[j]:=bB oG;have ga:d.getD (j+1) 0=d[j+1]:=by simp[eg,ha]
   have gb:d.getD j 0=d[j]:=by simp[eg,hb]
   have kd:=mq (f:=I) ha;have C:=mq (f:=I) hb;have wC:((j+1:Nat):Int) - 1=(j:Int)/\ -9223372036854775808<=(j:Int)/\(j:Int)<=9223372036854775807:=by omega
   refine eF YD ?_;refine cT ?_;refine ao (eJ rfl aD C V.h) ak (eK V.h V.h C) ?_;refine SS ?_;refine bX bY (yC rfl (fun h=>?_) fun h=>?_)
   .have fR:d[j+1]=d[j]:=by simpa using h
    refine ws ?_;refine af ?_;refine ao (Pw rfl aD V.h V.h rfl) ak ⟨V.h,oG⟩ ?_;refine SS ?_;refine ab (aV (aE ?_));refine SS ?_;have ag5:fL d (j+1+1)=fL d (j+1):=SI oG oG (by rw[ga,show j+1 - 1=j by omega,gb];exact fR);have Bp:(fL d (j+1)).length=j+1:=by rw[J];simp;omega
    clear kd C wC
    refine ab (dA (fun s=>∃ (c:List Int) (k:Nat),aR prog s ⟨aH [(0,.rs i 0 n),(3,I (k:Nat))],up m i (some (.cells (c.map I) 3)),nx⟩/\c.length=n/\k<=n/\c.take k=fL d n) (eX (α:=List Int×Nat×Nat) (fun s=>⟨aH [(0,.rs i 0 n),(3,I s.2.1),(4,.rs i (j+1) (n - (j+1))),(5,I (s.2.2+1:Nat))],up m i (some (.cells (s.1.map I) 3)),nx⟩)
     (fun s=>s.1.length=n/\j+1+(s.2.2+1)<=n/\s.2.1<=j+1+s.2.2/\s.1.take s.2.1=fL d (j+1+(s.2.2+1))/\∀ p,j+1+s.2.2<=p->s.1[p]? =d[p]?) (fun s=>n - s.2.2) (d,j+1,0) (tL eH O.symm) ⟨hl,by simp only;omega,by simp only;omega,?_,fun _ _=>rfl⟩ ?_) ?_)
    .show d.take (j+1)=fL d (j+1+1);rw[ag5,J]
    .rintro⟨c,k,q⟩ ⟨M,X,w3,w4,U⟩;simp only at M X w3 w4 U;dsimp only;refine af ?_;refine ao (Ku rfl (au _ _ _)) ak V.h ?_;refine SS ?_;refine ab ⟨_,rfl,fun h=>?_,fun h=>?_⟩
     .have aj:q+1<n - (j+1):=by have h:((q+1:Nat):Int)<((n - (j+1):Nat):Int):=by simpa using h
                                omega
      have xa:c[j+1+(q+1)]? =some c[j+1+(q+1)]:=bB oG;have xb:c[j+1+q]? =some c[j+1+q]:=bB oG;have ya:d.getD (j+1+(q+1)) 0=c[j+1+(q+1)]:=by rw[eg, <- U _ oG,xa];rfl
      have yb:d.getD (j+1+q) 0=c[j+1+q]:=by rw[eg, <- U _ oG,xb];rfl
      have kd:=mq (f:=I) xa;have C:=mq (f:=I) xb;generalize hA:c[j+1+(q+1)]=a at xa ya kd;generalize hB:c[j+1+q]=b at xb yb C;clear hA hB;have wC:((q+1:Nat):Int) - 1=(q:Int)/\ -9223372036854775808<=(q:Int)/\(q:Int)<=9223372036854775807:=by omega
      refine eF Xz ?_;refine cT ?_;refine ao (eJ rfl (au _ _ _) C V.h) ak (eK V.h V.h C) ?_;refine SS ?_;refine bX bY (yC rfl (fun h=>?_) fun h=>?_)
      .have a8:a≠b:=by simpa using h
       have hn:=SJ (d:=d) (t:=j+1+(q+1)) (by rw[ya,show j+1+(q+1) - 1=j+1+q by omega,yb];exact a8);refine ws ?_;refine cT ?_;refine ab (kp ?_);refine aB ?_;refine ab ?_;refine aB ?_;refine ab (bD (c.set k a,k+1,q+1) (tL eH ?_) ⟨by simp[M],by simp only;omega,by simp only;omega,?_,fun p hp=>?_⟩ (by simp only;omega))
       .rw[uv,List.map_set]
       .show(c.set k a).take (k+1)=fL d (j+1+(q+1)+1);rw[hn,ya, <- w4,List.take_succ_eq_append_getElem oP];simp;exact List.take_set_of_le (bO k)
       .simp only at hp;show(c.set k a)[p]? =_;rw[List.getElem?_set_ne oG];exact U p oG
      .have ag6:a=b:=by simpa using h
       have hn:=SI (d:=d) (t:=j+1+(q+1)) oG oG (by rw[ya,show j+1+(q+1) - 1=j+1+q by omega,yb];exact ag6);refine eC ?_;refine aB ?_;refine ab (bD (c,k,q+1) (aq eH) ⟨M,by simp only;omega,by simp only;omega,?_,fun p hp=>U p (by simp only at hp;omega)⟩ (by simp only;omega));show c.take k=fL d (j+1+(q+1)+1);rw[hn,w4]
     .have bL:¬ q+1<n - (j+1):=by have h:¬ ((q+1:Nat):Int)<((n - (j+1):Nat):Int):=by simpa using h
                                  omega
      refine⟨c,k,.forget _ _ _ _ fun t=>p6 (l:=[(0,.rs i 0 n),(3,I k)]) ⟨rfl,rfl,trivial⟩ t,M,oG,?_⟩;rw[w4];exact congrArg (fL d) oG
    .rintro s ⟨c,k,hg,M,ck,X⟩;refine⟨_,hg,al ?_⟩;refine af ?_;refine ao (Pw rfl (au _ _ _) V.h V.h rfl) ak ⟨V.h,oG⟩ ?_;refine dJ (abz rfl (au _ _ _) V.h V.h) ak ⟨V.h,(by rw[c3];first|(simp;done)|(simp;omega)|omega),rfl⟩ ?_;refine er ?_;refine af ?_;refine ao (YC rfl (au _ _ _) V.h V.h rfl) ak ⟨V.h,oG⟩ ?_;refine SS ?_;have cF:(mZ d).length=k:=by unfold mZ;rw[hl, <- X];simp;omega
     refine ab (bh (dp (aY (ap (d:=.rs i 0 k) rfl ⟨rfl,by rw[cF],(uv _ _ _ _).trans ?_⟩))));rw[Xy (by rw[List.length_map,M]) ck, <- List.map_take,X,CZ,cF];unfold mZ;rw[hl]
   .have a8:d[j+1]≠d[j]:=by simpa using h
    refine eC ?_;refine aB ?_;refine ab (bD (j+1+1) (aq eH) ⟨oG,oG,?_⟩ oG);rw[SJ (by rw[ga,show j+1 - 1=j by omega,gb];exact a8),J,ga];exact(List.take_succ_eq_append_getElem oG).symm
  .have bL:¬ k<n:=by have h:¬ (k:Int)<n:=by simpa using h
                     omega
   have:k=n:=by omega
   refine⟨.forget _ _ _ _ fun t=>p6 (l:=[(0,.rs i 0 n)]) ⟨rfl,trivial⟩ t,?_⟩;rw[<- this,J,dO oG]
 .rintro s ⟨hg,J⟩;refine⟨_,hg,al ?_⟩;refine af ?_;exact ab (ap rfl (whole J))
theorem ag7{m:Mem}{nx i n:Nat}{d:List Int}(hi:i<nx)(hm:m i=some (.cells (d.map I) 3))(hl:d.length=n)(hn:n<=100000):ji prog 169 [.rs i 0 n] m nx (acr d m nx i):=by
 refine(ad5 hi hm hl hn).mono ?_;rintro r m' aA ⟨h1,h2,C⟩;refine⟨h1,h2,CZ d n,C,?_⟩;rw[CZ,List.take_append_of_le_length oS,dO oS]
end Go.Proofs.Tryz.K
namespace Go.Argus
def gD(x:End)(b:Int)(w:List Int):List Int:=if AB x b then fW w (eu x) else w
@[simp] theorem Px (x : End) (b : Int) (w : List Int) : (gD x b w).length = w.length := by unfold gD; split <;> simp
def Ao(l:List Int):List Int:=mZ (nv l)
structure qf(x:bS):Prop where
 rd:∀ r∈cL x,0<=r/\r<1200
 sl:x.op=17\/x.op=18->0<=x.n/\x.n<80
 wr: -1000000<=dB x/\dB x<1200
 ar:x.op=10\/x.op=38->x.args.length<=1000
structure C0(x:End):Prop where
 rd:∀ r∈cN x,0<=r/\r<1200
 wr: -1000000<=eu x/\eu x<1200
 wh:x.aJ.length<=9
 a1:x.kind=5->x.ins.op=10\/x.ins.op=38->x.ins.args.length<=1000
 a2:x.kind=6\/x.kind=7->x.args.length<=1000
def ik(w:List Int)(ok:Bool)(rs:List Int):Bool:=rs.foldl (fun ok r=>ok&&kD w r.toNat) ok
def vV(w:List Int)(x:bS):List Int:=fW w (if x.op=18 then kG x.n else dB x)
def lC(s:List Int×Bool)(x:bS):List Int×Bool:=(vV s.1 x,ik s.1 s.2 (cL x)&&(x.op !=17||kD s.1 (kG x.n).toNat))
def kT(l:List bS)(w:List Int):List Int×Bool:=l.foldl lC (w,true)
def jf(b:cE)(w:List Int):List Int×Bool:=((kT b.ins w).1,ik (kT b.ins w).1 (kT b.ins w).2 (cN b.fin))
theorem pT{α β:Type}{f:β->α->β}{z:β}{l:List α}{k:Nat}{x:α}(h:l[k]? =some x):(l.take (k+1)).foldl f z=f ((l.take k).foldl f z) x:=by
 rw[List.take_add_one,h,List.foldl_append];rfl
theorem JE(l:List bS)(w:List Int):(kT l w).1.length=w.length:=by
 unfold kT;generalize true=b
 induction l generalizing w b with
 |nil=>rfl
 |cons x l ih=>rw[List.foldl_cons];exact(ih _ _).trans (by simp[vV])
theorem Iv(b:cE)(w:List Int):(jf b w).1.length=w.length:=JE _ _
def c6(l:List (List Int)):List D:=l.flatMap fun w=>w.map cU
theorem Kb{sz:Nat}:∀ {l:List (List Int)} {i:Nat} {w:List Int},(∀ w∈l,w.length=sz)->l[i]? =some w->(c6 l).drop (i*sz)=w.map cU++(c6 (l.drop (i+1)))
 |[],i,w,_,h=>by simp at h
 |a::l,0,w,_,h=>by simp at h;subst h;simp[c6]
 |a::l,i+1,w,hs,h=>by
  have ha:(a.map cU).length=sz:=by simpa using hs a oS
  have h1:(i+1)*sz=(a.map cU).length+i*sz:=by rw[ha,Nat.add_mul];omega
  have ih:=Kb (l:=l) (i:=i) (w:=w) (fun w C=>hs w (by simp[C])) (by simpa using h);unfold c6 at ih ⊢;rw[List.flatMap_cons,h1, <- List.drop_drop,List.drop_left,ih,List.drop_succ_cons]
theorem G4{sz:Nat}{l:List (List Int)}{i:Nat}{w:List Int}(h:∀ w∈l,w.length=sz)(hi:l[i]? =some w):((c6 l).drop (i*sz)).take sz=w.map cU:=by
 rw[Kb h hi,List.take_append_of_le_length (by simp[h w (cX hi)]),dO (by simp[h w (cX hi)])]
theorem Jf{sz:Nat}:∀ {l:List (List Int)},(∀ w∈l,w.length=sz)->(c6 l).length=l.length*sz
 |[],_=>by simp[c6]
 |a::l,h=>by
  have:=Jf (l:=l) fun w C=>h w (by simp[C]);unfold c6 at this ⊢;rw[List.flatMap_cons,List.length_append,this,List.length_map,h a oS,List.length_cons,Nat.add_mul];omega
theorem yz{sz:Nat}{l:List (List Int)}{i:Nat}{w:List Int}(h:∀ w∈l,w.length=sz)(hi:l[i]? =some w):i*sz+sz<=(c6 l).length:=by
 rw[Jf h];have:=(bZ.1 hi).1;rw[<- Nat.succ_mul];exact Nat.mul_le_mul_right _ this
theorem TL{sz:Nat}(hz:2<=sz):∀ {l:List (List Int)} {i:Nat} {w v:List Int},(∀ w∈l,w.length=sz)->l[i]? =some v->w.length=sz->fj (c6 l) (i*sz) (w.map cU)=c6 (l.set i w):=by
 intro l i w v h hi C
 have key:fj (c6 l) (i*sz) (w.map cU)=(c6 l).take (i*sz)++w.map cU++(c6 l).drop (i*sz+(w.map cU).length):=by
  unfold fj;split
  .rename_i x hx;have:(w.map cU).length=1:=by rw[hx];rfl
   simp at this;omega
  .rfl
 rw[key,List.length_map,C];clear key
 induction l generalizing i with
 |nil=>simp at hi
 |cons a l ih=>
  have ha:(a.map cU).length=sz:=by simpa using h a oS
  cases i with
  |zero=>
   simp only[Nat.zero_mul,List.take_zero,List.nil_append,Nat.zero_add,List.set_cons_zero];unfold c6;rw[List.flatMap_cons,List.flatMap_cons, <- ha,List.drop_left]
  |succ i=>
   have ih:=ih (i:=i) (fun w C=>h w (by simp[C])) (by simpa using hi);simp only[List.set_cons_succ];unfold c6 at ih ⊢;rw[List.flatMap_cons,List.flatMap_cons, <- ih,show(i+1)*sz=(a.map cU).length+i*sz by rw[ha,Nat.add_mul];omega,List.take_length_add_append,Nat.add_assoc,List.drop_length_add_append];simp
theorem aaa(n:Nat)(w:List Int):dq n (w.map cU)=c6 (replicate n w):=by
 unfold dq c6
 induction n with
 |zero=>rfl
 |succ n ih=>rw[List.replicate_succ,List.replicate_succ,List.flatten_cons,List.flatMap_cons,ih]
theorem Cr(n:Nat)(b:Bool):dq n [B b]=(replicate n b).map B:=by
 unfold dq
 induction n with
 |zero=>rfl
 |succ n ih=>rw[List.replicate_succ,List.replicate_succ,List.flatten_cons,List.map_cons,ih];rfl
theorem acs(l:List (List Int)):∀ a∈c6 l,Tr a:=.flat fun w=>.map fun _=>.s _
theorem Kc{sz:Nat}{l:List (List Int)}{i:Nat}{w:List Int}(h:∀ w∈l,w.length=sz)(C:w.length=sz):∀ u∈l.set i w,u.length=sz:=fun u hu=>by
 rcases List.mem_or_eq_of_mem_set hu with h1|h1
 .exact h u h1
 .rw[h1];exact C
theorem Qu:∀ {w v:List Int},w.length=v.length->po (w.map cU) (v.map cU)=some (w.map (Value.int .u64),v.map (Value.int .u64))
 |[],[],_=>rfl
 |a::w,b::v,h=>by
  have:=Qu (w:=w) (v:=v) (by simpa using h);simp[po,yi,this]
theorem Qv:∀ {w v:List Int},w.length=v.length->iX (w.map (Value.int .u64)) (v.map (Value.int .u64))=(w==v)
 |[],[],_=>rfl
 |a::w,b::v,h=>by
  have:=Qv (w:=w) (v:=v) (by simpa using h);simp[iX,ru,this]
theorem YF(w:List Int):(w.map (Value.int .u64)).map jJ=replicate w.length 0:=by
 induction w with
 |nil=>rfl
 |cons a w ih=>simpa[jJ,List.replicate_succ] using ih
end Go.Argus
namespace Go.Proofs.Tryz.K
theorem MJ{f:FuncId}{cs:List D}{xs:List Int}(hs:yJ prog f [] cs (xs.map fun n=>[I n]))(ht:Tr (.fn (.func f) [] cs))(hlen:xs.length<=12):qY prog 170 [.fn (.func f) [] cs] ((nv xs).map I) xs.length 3:=by
 have C:∀ a∈[.fn (.func f) [] cs],Tr a:=.cons ht .nil;refine NA ad8 C (.map fun _=>.s _) ?_;rw[ad9];have MH:=MH hs ht oG;refine ws ?_;refine SS ?_;refine er ?_;refine SS ?_;refine Ly MH rfl aF ?_;refine SS ?_;refine er ?_;refine SS ?_;refine G0 (ag4 (i:=0) (l:=xs) oG rfl rfl hlen) rfl aF fun r m' aA hp=>?_;obtain⟨rfl,rfl,rfl⟩:=hp;refine er ?_;refine af ?_;exact ab (ap rfl ⟨0,rfl,rfl⟩)
theorem vf{f:FuncId}{cs:List D}{xs:List Int}(hs:yJ prog f [] cs (xs.map fun n=>[I n]))(ht:Tr (.fn (.func f) [] cs))(hlen:xs.length<=12):ax prog 89 [.fn (.func f) [] cs] (aX (Ao xs)):=by
 have C:∀ a∈[.fn (.func f) [] cs],Tr a:=.cons ht .nil;refine bP ag8 C (ew _) ?_;rw[ag9];have MJ:=MJ hs ht hlen;refine ws ?_;refine SS ?_;refine ab (aE ?_);refine SS ?_;refine Ly MJ rfl aF ?_;refine G0 (ag7 (i:=0) (d:=nv xs) (n:=xs.length) oG rfl oS oG) rfl aF fun r m' aA hp=>?_;obtain⟨rfl,rfl,c,rfl,hc⟩:=hp;refine SS ?_;refine ab (bj (cr [(0,c,3)] ⟨au _ _ _,trivial⟩ (l:=[(2,aX (Ao xs))]) ⟨?_,trivial⟩) (ap rfl rfl));exact kN c3 (by rw[List.drop_zero,Nat.mul_one];exact hc)
def nextR(x:Argus.End):List Int:=Ao (dh x)
theorem TS{x:Argus.End}(hlen:x.aJ.length<=9):ax prog 89 [.fn (.func 171) [] [.pt (bA x)]] (aX (nextR x)):=
 vf (UL oG) (.fn oS (.cons (.pt (lP x)) .nil)) (by have:=Ka x;omega)
theorem wD{x:Argus.End}{b:Int}{w:List Int}(J:w.length=20)(hlen:x.aJ.length<=1000)(hn: -1000000<=eu x/\eu x<1280):ax prog 146 [.agg (bA x),I b,gH w] (gH (gD x b w)):=by
 have C:∀ a∈[D.agg (bA x),I b,gH w],Tr a:=.cons (.agg (lP x)) (.cons (.s _) (.cons (qm _) .nil));refine bP ad' C (qm _) ?_;rw[aea];have MF:=MF (x:=x) (b:=b) hlen;refine ws ?_;refine aB ?_;refine ab (aV (al ?_));refine af ?_;refine cl MF ?_;refine ab (dI rfl (fun h=>?_) fun h=>dL (al ?_))
 .have NB:=NB (x:=x);have qo:=qo (w:=w) (n:=eu x) J hn;refine aV (eF YE ?_);refine af ?_;refine cl NB ?_;refine cl qo ?_;refine SS ?_;refine bX bY (fN (mA (mV rfl rfl a201 rB (ns oP) t201 oP) ?_));simp[gD,h]
 .refine af ?_;refine ab (mA (mV rfl rfl a201 rB (ns oP) t201 oP) ?_);simp[gD,h]
theorem nF{b:cE}{w:List Int}(hw:w.length=20)(hl:b.ins.length<=100000)(hi:∀ x∈b.ins,qf x)(hf:C0 b.fin)(wW:∀ x∈b.ins,(cL x).length<=100000)(fF:(cN b.fin).length<=100000):ax prog 145 [.agg (gR b),gH w] (.bp [gH (jf b w).1,B (jf b w).2]):=by
 have br:∀ a∈[D.agg (gR b),gH w],Tr a:=.cons (.agg (Py b)) (.cons (qm _) .nil);refine bP aeb br (.bp (.cons (qm _) (.cons (.s _) .nil))) ?_;rw[aec];refine ws ?_;refine cM (sG (cs:=gR _) rfl) ak (by first|rfl|exact tO gi eS|exact oB _|exact ur cK) ?_;refine aB ?_;refine ab (aE ?_);refine SS ?_;refine ab (bj (bc (l:=[(2,.rp 0 0),(3,.rp 1 0),(4,.rp 2 0),(6,B true)]) (ml:=[(0,.cells (gR b) 69),(1,.cells (w.map cU) 201),(2,.cells (replicate 20 (cU 0)) 201)]) eH eH) (aV (aE ?_)));refine a7 ?_
 refine ab (dA (fun s=>∃ n',3<=n'/\aR prog s ⟨aH [(2,.rp 0 0),(3,.rp 1 0),(4,.rp 2 0),(6,B (kT b.ins w).2)],aby [(0,.cells (gR b) 69),(1,.cells ((kT b.ins w).1.map cU) 201),(2,.cells (replicate 20 (cU 0)) 201)],n'⟩) (iK (α:=Nat×Nat)
  (fun k=>⟨aH [(2,.rp 0 0),(3,.rp 1 0),(4,.rp 2 0),(6,B (kT (b.ins.take k.1) w).2),(14,iL b.ins),(15,I b.ins.length),(16,I k.1)],aby [(0,.cells (gR b) 69),(1,.cells ((kT (b.ins.take k.1) w).1.map cU) 201),(2,.cells (replicate 20 (cU 0)) 201)],k.2⟩)
  (fun k=>k.1<=b.ins.length/\3<=k.2) (fun k=>b.ins.length - k.1) (0,3) (bc eH eH) ⟨oS,oS⟩ ?_) ?_)
 .rintro⟨k,N⟩ ⟨hk,hN⟩;dsimp only at hk hN ⊢;refine SS ?_;refine ab ⟨_,rfl,fun h=>?_,fun h=>?_⟩
  .have aj:k<b.ins.length:=by simpa using h
   have hx:b.ins[k]? =some b.ins[k]:=by simp[aj]
   have oA:b.ins[k]∈b.ins:=df aj;generalize b.ins[k]=x at hx oA;obtain⟨ird,VF,iwr,U⟩:=hi x oA;have C:kT (b.ins.take (k+1)) w=lC (kT (b.ins.take k) w) x:=pT hx;have hlen:(kT (b.ins.take k) w).1.length=20:=by rw[JE,hw]
   generalize kT (b.ins.take k) w=u at C hlen;obtain⟨v,ok⟩:=u;dsimp only at hlen ⊢;refine ws ?_;refine a7 ?_;refine ab (aV (aE ?_));have BL:=BL (x:=x) U;refine SS ?_;refine cl BL ?_;refine af ?_;have akL:=wW x oA
   refine ab (dA (fun s=>aR prog s ⟨aH [(2,.rp 0 0),(3,.rp 1 0),(4,.rp 2 0),(6,B (ik v ok (cL x))),(8,.rp N 0),(14,iL b.ins),(15,I b.ins.length),(16,I k)],up (aby [(0,.cells (gR b) 69),(1,.cells (v.map cU) 201),(2,.cells (replicate 20 (cU 0)) 201)]) N (some (.cells (bF x) 45)),N+1⟩) (iK (α:=Nat)
    (fun j=>⟨aH [(2,.rp 0 0),(3,.rp 1 0),(4,.rp 2 0),(6,B (ik v ok ((cL x).take j))),(8,.rp N 0),(14,iL b.ins),(15,I b.ins.length),(16,I k),(21,aX (cL x)),(22,I (cL x).length),(23,I j)],up (aby [(0,.cells (gR b) 69),(1,.cells (v.map cU) 201),(2,.cells (replicate 20 (cU 0)) 201)]) N (some (.cells (bF x) 45)),N+1⟩)
    (fun j=>j<=(cL x).length) (fun j=>(cL x).length - j) 0 (tL eH (uv _ _ _ _)) oG ?_) ?_)
   .intro j hj;refine SS ?_;refine ab ⟨_,rfl,fun h=>?_,fun h=>?_⟩
    .have J:j<(cL x).length:=by simpa using h
     have hr:(cL x)[j]? =some (cL x)[j]:=by simp[J]
     have O:(cL x)[j]∈cL x:=df J;generalize (cL x)[j]=r at hr O;have me:=ird r O;obtain⟨M,rfl⟩:=ic me.1;have lF:=lF (w:=v) (m:=M) hlen oG;refine ws ?_;refine aB ?_;refine ab (kp ?_);refine a7 ?_;refine gc lF ?_;refine af ?_;refine ab ?_;refine af ?_;refine ab (bD (j+1) (aq ⟨rfl,rfl,rfl,?_,rfl,rfl,rfl,rfl,rfl,rfl,rfl,trivial⟩) oG oG)
     have e:ik v ok ((cL x).take (j+1))=(ik v ok ((cL x).take j)&&kD v M):=by
      unfold ik;rw[pT hr,dX]
     rw[e];generalize ik v ok ((cL x).take j)=g;cases g<;>rfl
    .have bL:¬ j<(cL x).length:=by simpa using h
     refine aq ⟨rfl,rfl,rfl,?_,rfl,rfl,rfl,rfl,trivial⟩;show B _=B _;rw[dO oG]
   .intro s hg;have C:kT (b.ins.take (k+1)) w=(vV v x,ik v ok (cL x)&&(x.op !=17||kD v (kG x.n).toNat)):=C;generalize ik v ok (cL x)=NC at hg C;have Dz:=Dz (w:=v) (x:=x) hlen (fun h=>VF (.inr h)) (fun _=>by omega);have fin:∀ (d:Bool) env,d=(NC&&(x.op !=17||kD v (kG x.n).toNat))->n8 [(2,.rp 0 0),(3,.rp 1 0),(4,.rp 2 0),(6,B d),(8,.rp N 0),(14,iL b.ins),(15,I b.ins.length),(16,I k)] env->True:=fun _ _ _ _=>trivial;refine⟨_,hg,?_⟩;cases NC with
    |false=>
     have uI:false=true->ax prog 220 [I x.n] (I (kG x.n)):=fun h=>by cases h
     have lF:false=true->ax prog 147 [gH v,I (kG x.n)] (B true):=fun h=>by cases h
     refine eF IS ?_;refine SN9 ?_;refine uh rfl rfl rfl (fun hc=>⟨ak,uI hc⟩) ?_;refine uh rfl rfl rfl (fun hc=>⟨ak,lF hc⟩) ?_;refine aB ?_;refine bX bY (kp ?_);refine af ?_;refine cl Dz ?_;refine SS ?_;refine ab ?_;refine af ?_;refine ab (bD (k+1,N+1) (bc ⟨rfl,rfl,rfl,?_,rfl,rfl,rfl,trivial⟩ ⟨aM oG (aM oG rfl),?_,aM oG (aM oG rfl),trivial⟩) ⟨oM,oM⟩ oM)
     .dsimp only;rw[C];rfl
     .dsimp only;rw[C];exact au _ _ _
    |true=>
     by_cases X:x.op=17
     .have uG:(x.op !=17)=false:=by simp[X]
      have akY:=VF (.inl X);have uI:=uI (n:=x.n) oG;obtain⟨sn,tf⟩:=ic (show 0<=kG x.n by unfold kG;omega);have lF:=lF (w:=v) (m:=sn) hlen (by unfold kG at tf;omega);rw[<- tf] at lF;refine eF IS ?_;refine SN9 ?_;refine gc uI ?_;refine gc lF ?_;refine aB ?_;refine bX bY (kp ?_);refine af ?_;refine cl Dz ?_;refine SS ?_;refine ab ?_;refine af ?_;refine ab (bD (k+1,N+1) (bc ⟨rfl,rfl,rfl,?_,rfl,rfl,rfl,trivial⟩ ⟨aM oG (aM oG rfl),?_,aM oG (aM oG rfl),trivial⟩) ⟨oM,oM⟩ oM)
      .dsimp only;rw[C,uG,tf];rfl
      .dsimp only;rw[C];exact au _ _ _
     .have uG:(x.op !=17)=true:=by simp[X]
      have uI:false=true->ax prog 220 [I x.n] (I (kG x.n)):=fun h=>by cases h
      have lF:false=true->ax prog 147 [gH v,I (kG x.n)] (B true):=fun h=>by cases h
      refine eF IS ?_;refine cY ?_;(iterate 5 refine z fun _ _=>?_);refine aB ?_;refine bX bY (kp ?_);refine af ?_;refine cl Dz ?_;refine SS ?_;refine ab ?_;refine af ?_;refine ab (bD (k+1,N+1) (bc ⟨rfl,rfl,rfl,?_,rfl,rfl,rfl,trivial⟩ ⟨aM oG (aM oG rfl),?_,aM oG (aM oG rfl),trivial⟩) ⟨oM,oM⟩ oM)
      .dsimp only;rw[C,uG];rfl
      .dsimp only;rw[C];exact au _ _ _
  .have bL:¬ k<b.ins.length:=by simpa using h
   have zd:b.ins.take k=b.ins:=dO oG;refine⟨N,hN,?_⟩;rw[zd];exact aq eH
 .rintro s ⟨n',dN,hg⟩;have hlen:(kT b.ins w).1.length=20:=by rw[JE,hw]
  have Ek:jf b w=((kT b.ins w).1,ik (kT b.ins w).1 (kT b.ins w).2 (cN b.fin)):=rfl;rw[Ek];generalize kT b.ins w=u at hg hlen ⊢;obtain⟨v,ok⟩:=u;dsimp only at hlen hg ⊢;have ND:=ND (x:=b.fin) hf.a1 hf.a2;refine⟨_,hg,aV (aE ?_)⟩;refine af ?_;refine cl ND ?_;refine af ?_
  refine ab (dA (fun s=>aR prog s ⟨aH [(3,.rp 1 0),(4,.rp 2 0),(6,B (ik v ok (cN b.fin)))],aby [(1,.cells (v.map cU) 201),(2,.cells (replicate 20 (cU 0)) 201)],n'⟩) (iK (α:=Nat)
   (fun j=>⟨aH [(3,.rp 1 0),(4,.rp 2 0),(6,B (ik v ok ((cN b.fin).take j))),(53,aX (cN b.fin)),(54,I (cN b.fin).length),(55,I j)],aby [(1,.cells (v.map cU) 201),(2,.cells (replicate 20 (cU 0)) 201)],n'⟩)
   (fun j=>j<=(cN b.fin).length) (fun j=>(cN b.fin).length - j) 0 (bc eH eH) oG ?_) ?_)
  .intro j hj;refine SS ?_;refine ab ⟨_,rfl,fun h=>?_,fun h=>?_⟩
   .have J:j<(cN b.fin).length:=by simpa using h
    have hr:(cN b.fin)[j]? =some (cN b.fin)[j]:=by simp[J]
    have O:(cN b.fin)[j]∈cN b.fin:=df J;generalize (cN b.fin)[j]=r at hr O;have me:=hf.rd r O;obtain⟨M,rfl⟩:=ic me.1;have lF:=lF (w:=v) (m:=M) hlen oG;refine ws ?_;refine aB ?_;refine ab (kp ?_);refine af ?_;refine bQ rfl rfl (dP rfl rfl V.h V.h (ns (by first|rfl|exact bg rfl|(simp;done)|(simp;omega)|omega))) (fun hc=>⟨ak,(dQ V.h V.h (by first|rfl|exact bg rfl|(simp;done)|(simp;omega)|omega))⟩) ?_;refine SS ?_;refine gc lF ?_;refine af ?_;refine ab ?_;refine af ?_;refine ab (bD (j+1) (aq ⟨rfl,rfl,?_,rfl,rfl,rfl,trivial⟩) oG oG)
    have e:ik v ok ((cN b.fin).take (j+1))=(ik v ok ((cN b.fin).take j)&&kD v M):=by
     unfold ik;rw[pT hr,dX]
    rw[e];generalize ik v ok ((cN b.fin).take j)=g;cases g<;>rfl
   .have bL:¬ j<(cN b.fin).length:=by simpa using h
    refine aq ⟨rfl,rfl,?_,trivial⟩;show B _=B _;rw[dO oG]
  .intro s hg;refine⟨_,hg,al ?_⟩;refine a7 ?_;exact ab (Xe (mV rfl rfl a201 rB (ns oP) t201 oP) rfl rfl)
end Go.Proofs.Tryz.K
end
namespace Go.Argus
open Go.Abs
theorem XS{l:List Int}{j:Nat}(hj:j+1<l.length){x:Int}:x∈swapAt l j↔x∈l:=by
 have ha:l.getD j 0=l[j]:=by simp[eg,bB (show j<l.length by omega)]
 have hb:l.getD (j+1) 0=l[j+1]:=by simp[eg,bB hj]
 unfold swapAt;rw[ha,hb];exact(List.set_set_perm (show j+1<l.length from hj) (show j<l.length by omega)).mem_iff
theorem QH{x:Int}:∀ (j:Nat) {l:List Int},j<l.length->(x∈oD l j↔x∈l)
 |0,l,_=>Iff.rfl
 |j+1,l,hj=>by
  simp only[oD];split
  .exact(QH j oP).trans (XS hj)
  .exact Iff.rfl
theorem PQ{l:List Int}{x:Int}:∀ k,k<l.length->(x∈mE l k↔x∈l)
 |0,_=>Iff.rfl
 |k+1,h=>by
  simp only[mE];exact(QH (k+1) (by simpa using h)).trans (PQ k oG)
theorem Ze{l:List Int}{x:Int}:x∈nv l↔x∈l:=by
 unfold nv;cases l with
 |nil=>simp[mE]
 |cons a l=>exact PQ _ oS
theorem IG{l:List Int}{x:Int}:x∈Ao l↔x∈l:=by
 unfold Ao mZ;rw[Rz (bO _),List.take_length];exact Ze
theorem wrap_u64{n:Nat}(h:n<2 ^ 64):IntKind.u64.wrap (n:Int)=n:=by
 unfold IntKind.wrap;simp[IntKind.signed,IntKind.bits];omega
theorem abA{a b:Int}(ha:0<=a/\a<18446744073709551616):0<=pw a b/\pw a b<=a:=by
 unfold pw lb;simp only;rw[wrap_u64 (n:=(BitVec.ofInt IntKind.u64.bits a&&& BitVec.ofInt IntKind.u64.bits b).toNat) (BitVec.isLt (w:=64) _)];obtain⟨n,rfl⟩:=ic ha.1
 have h1:(BitVec.ofInt IntKind.u64.bits (n:Int)).toNat=n:=by
  rw[BitVec.toNat_ofInt];show((n:Int) % ((2 ^ 64:Nat):Int)).toNat=n;omega
 have h2:(BitVec.ofInt IntKind.u64.bits (n:Int)&&& BitVec.ofInt IntKind.u64.bits b).toNat<=n:=by
  rw[BitVec.toNat_and,h1];exact Nat.and_le_left
 omega
end Go.Argus
section
open Go Go.Abs Go.Proofs Go.Argus
namespace Go.Abs
section
variable{P:Program}{env:Env}{m:Mem}{nx:Nat}{x y:Operand}{t p:TypeId}{k:IntKind}{n n':Int}
theorem Cq{j i l sz:Nat}{e:TypeId}{r:Row}(hx:(opd env x).core=.rs j 0 l)(hy:(opd env y).core=.s (.int k (i:Int)))(hm:m j=some r)(he:av P t=e)(hs:P.cellsOf e=sz):
 Ef P (.indexAddr t x y) env m nx ⟨bm P t=true/\i<l,.rp j (i*sz),[],[j],0⟩:=by
 have h:=Kt (P:=P) (env:=env) (m:=m) (nx:=nx) (t:=t) hx hy hm he hs;have h1:0+((i:Int)).toNat*sz=i*sz:=by simp
 have h2:(bm P t=true/\(0:Int)<=(i:Int)/\(i:Int)<l)=(bm P t=true/\i<l):=by
  apply propext;constructor
  .rintro⟨a,_,b⟩;exact⟨a,oG⟩
  .rintro⟨a,b⟩;exact⟨a,oG,oG⟩
 rw[h1,h2] at h;exact h
theorem aab{ps:Array (Nat×Operand)}{e:TypeId}{l:Nat}{z:List D}(hu:P.underlying t=some (.array l e))(hp:ps.toList=[])(hz:aZ P t=z):Ef P (.build t ps) env m nx ⟨aG P t=true/\aG P e=true,.agg z,[],[],0⟩:=by
 refine⟨?_,rfl,rfl⟩;simp only[aQ,hu,hp,hz,List.map_nil,jq,Option.map_some]
theorem aed{xs ys:List D}{us vs:List Value}{C:List Nat}(hx:(opd env x).core=.agg xs)(hy:(opd env y).core=.agg ys)(hf:AH P t=some C)(hz:po xs ys=some (us,vs)){c:Bool}(hc:(!iX us vs)=c):
 Ef P (.binOp .neq t x y p) env m nx ⟨us.map jJ=C/\P.eqGuardType P.depth t=false,.s (.bool c),[],[],0⟩:=by
 refine⟨?_,rfl,rfl⟩
 have hn:kQ P m .neq t (.agg xs) y=none:=by
  unfold kQ;split<;>first|rfl|(rename_i h;cases h)
 simp only[aQ,bC,hx,hy,hn,pq,xU,hf,hz,hc,Option.map_some]
end
def yO(cs:List D):Prop:=∀ d∈cs,∃ v,d=.s v
theorem yO.map{α:Type}{f:α->Value}{l:List α}:yO (l.map fun x=>.s (f x)):=fun d hd=>by
 obtain⟨x,_,rfl⟩:=List.mem_map.1 hd;exact⟨_,rfl⟩
theorem aee{i sz:Nat}{C cs:List D}(h:yO cs):cs.map (sub (dG i C sz))=cs:=by
 induction cs with
 |nil=>rfl
 |cons d cs ih=>
  obtain⟨v,rfl⟩:=h d oS;rw[List.map_cons,ih fun d hd=>h d (by simp[hd])];rfl
theorem Kd{m:Mem}{i j sz:Nat}{J cs:List D}{e:TypeId}(C:j≠i)(hm:m j=some (.cells cs e))(h:yO cs):(if j=i then none else(m j).map (Row.sub (dG i J sz)))=some (.cells cs e):=by
 rw[if_neg C,hm];show some (Row.cells (cs.map _) e)=_;rw[aee h]
theorem acu{i sz n:Nat}{C es:List D}:sub (dG i C sz) (.sl es n)=.sl es n:=rfl
theorem Jg{i j sz off n:Nat}{C:List D}(h:j≠i):sub (dG i C sz) (.rs j off n)=.rs j off n:=by
 show(if j=i then _ else D.rs j off n)=_;rw[if_neg h]
theorem zX{i sz n:Nat}{C:List D}(h:C.length=n*sz):sub (dG i C sz) (.rs i 0 n)=.sl C n:=by
 show(if i=i then D.sl ((C.drop 0).take (n*sz)) n else _)=_;rw[if_pos rfl,List.drop_zero,dO oG]
end Go.Abs
namespace Go.Proofs.Tryz.K
theorem aef:AH prog 201=some (replicate 20 0):=kr
theorem aeg:prog.eqGuardType prog.depth 201=false:=kr
theorem aeh:aZ prog 201=(replicate 20 (0:Int)).map cU:=z201
theorem ag':prog.underlying 201=some (.array 20 199):=kr
section
variable{env:Env}{m:Mem}{nx:Nat}{x y:Operand}{p:TypeId}
theorem aei{w v:List Int}(hx:(opd env x).core=gH w)(hy:(opd env y).core=gH v)(h:w.length=v.length):Ef prog (.binOp .neq 201 x y p) env m nx ⟨(w.map (Value.int .u64)).map jJ=replicate 20 0/\prog.eqGuardType prog.depth 201=false,B (w !=v),[],[],0⟩:=
 aed hx hy aef (Qu h) (by rw[Qv h];rfl)
theorem aej{w:List Int}(h:w.length=20):(w.map (Value.int .u64)).map jJ=replicate 20 0/\prog.eqGuardType prog.depth 201=false:=⟨by rw[YF,h],aeg⟩
end
end Go.Proofs.Tryz.K
namespace Go.Argus
open Go.Proofs.Tryz.K (nextR)
structure CS where
 aP:List (List Int)
 re:List Bool
 ch:Bool
def cQ(x:End)(w:List Int)(s:CS)(n:Int):CS:=
 if s.re.getD n.toNat false=false\/ia (s.aP.getD n.toNat []) (gD x n w)≠s.aP.getD n.toNat [] then⟨s.aP.set n.toNat (ia (s.aP.getD n.toNat []) (gD x n w)),s.re.set n.toNat true,true⟩ else s
def dF(bs:List cE)(s:CS)(k:Nat):CS:=match bs[k]? with
 |none=>s
 |some x=>if s.re.getD k false=true then(nextR x.fin).foldl (cQ x.fin (jf x (s.aP.getD k [])).1) s else s
def ke(bs:List cE)(s:CS):CS:=(range bs.length).foldl (dF bs) ⟨s.aP,s.re,false⟩
def mr(bs:List cE):Nat->CS->CS
 |0,s=>s
 |k+1,s=>if(ke bs s).ch=true then mr bs k (ke bs s) else ke bs s
def kU:Int:=18446744073709551615
def iM:Nat->List Int
 |0=>replicate 20 0
 |k+1=>fW (iM k) k
@[simp] theorem Pz : ∀ k, (iM k).length = 20
 |0=>rfl
 |k+1=>by simp[iM,Pz k]
def kf(n args:Nat):CS:=⟨(replicate n (replicate 20 kU)).set 0 (iM args),(replicate n false).set 0 true,true⟩
def dW(u:Int):Prop:=0<=u/\u<18446744073709551616
structure fX(n:Nat)(s:CS):Prop where
 lw:s.aP.length=n
 lr:s.re.length=n
 jX:∀ w∈s.aP,w.length=20
 rg:∀ w∈s.aP,∀ u∈w,dW u
def mM(w:List Int):Nat:=(w.map Int.toNat).sum
def pM(s:CS):Nat:=(s.aP.map mM).sum+s.re.count false
def nS(s:CS):Nat:=pM s+if s.ch=true then 1 else 0
theorem RC{l:List Nat}{k x y:Nat}(h:l[k]? =some x):(l.set k y).sum+x=l.sum+y:=by
 induction l generalizing k with
 |nil=>simp at h
 |cons a l ih=>cases k with
  |zero=>simp at h;subst h;simp;omega
  |succ k=>have:=ih (k:=k) (by simpa using h);simp;omega
theorem aac{l:List Int}{k:Nat}{x y:Int}(h:l[k]? =some x):mM (l.set k y)+x.toNat=mM l+y.toNat:=by
 unfold mM;rw[List.map_set];exact RC (by simp[h])
theorem PA{a b:Int}(h:dW a):dW (pw a b)/\pw a b<=a:=by
 have:=abA (b:=b) h;exact⟨⟨this.1,by unfold dW at h;omega⟩,this.2⟩
theorem aad{α:Type}{l:List α}{k:Nat}{x:α}(h:l[k]? =some x):l.set k x=l:=by
 apply List.ext_getElem?;intro i;rw[List.getElem?_set];split
 .rename_i e;subst e;rw[if_pos (bZ.1 h).1,h]
 .rfl
theorem Qw{w v:List Int}(M:∀ u∈w,dW u):∀ k,k<=w.length->(∀ u∈fk w v k,dW u)/\mM (fk w v k)<=mM w/\(fk w v k≠w->mM (fk w v k)<mM w)
 |0,_=>⟨M,bO _,fun h=>absurd rfl h⟩
 |k+1,hk=>by
  obtain⟨h1,h2,O⟩:=Qw (v:=v) M k oG;have hl:k<(fk w v k).length:=by simp;omega
  have hx:(fk w v k)[k]? =some (fk w v k)[k]:=bB hl;have hg:(fk w v k).getD k 0=(fk w v k)[k]:=by simp[eg,hx]
  have hm:=h1 _ (df hl);simp only[fk,hg];generalize (fk w v k)[k]=a at hx hm;obtain⟨C,U⟩:=PA (b:=v.getD k 0) hm;generalize pw a (v.getD k 0)=y at C U;have hs:=aac (y:=y) hx;unfold dW at C hm;refine⟨fun u hu=>?_,oG,fun J=>?_⟩
  .rcases List.mem_or_eq_of_mem_set hu with h|h
   .exact h1 u h
   .subst h;exact C
  .by_cases e:y=a
   .subst e;have:(fk w v k).set k y=fk w v k:=aad hx;rw[this] at J ⊢;exact O J
   .omega
theorem aae{l:List (List Int)}{k:Nat}{w v:List Int}(h:l[k]? =some w):((l.set k v).map mM).sum+mM w=(l.map mM).sum+mM v:=by
 rw[List.map_set];exact RC (by simp[h])
theorem count_set{l:List Bool}{k:Nat}{b:Bool}(h:l[k]? =some b):(l.set k true).count false+(if b=true then 0 else 1)=l.count false:=by
 induction l generalizing k with
 |nil=>simp at h
 |cons a l ih=>cases k with
  |zero=>simp at h;subst h;cases a<;>simp
  |succ k=>have:=ih (k:=k) (by simpa using h);simp only[List.set_cons_succ,List.count_cons];omega
theorem ET{x:End}{w:List Int}{s:CS}{n:Nat}{t:Int}(hs:fX n s)(ht:0<=t/\t<n):fX n (cQ x w s t)/\nS (cQ x w s t)<=nS s:=by
 obtain⟨lw,lr,jX,rg⟩:=hs;obtain⟨k,rfl⟩:=ic ht.1;have hk:k<n:=by omega
 have hx:s.aP[k]? =some s.aP[k]:=bB oG;have hb:s.re[k]? =some s.re[k]:=bB oG;have U:s.aP.getD k []=s.aP[k]:=by simp[eg,hx]
 have O:s.re.getD k false=s.re[k]:=by simp[eg,hb]
 have hm:s.aP[k]∈s.aP:=df _;unfold cQ;simp only[dX,U,O];generalize s.aP[k]=v at hx hm;generalize s.re[k]=b at hb;have X:=jX v hm;obtain⟨C,M,J⟩:=Qw (v:=gD x k w) (rg v hm) 20 oG;have hl:=PB v (gD x k w)
 change (∀ u∈ia v (gD x k w),dW u) at C
 change mM (ia v (gD x k w))<=mM v at M
 change ia v (gD x k w)≠v->mM (ia v (gD x k w))<mM v at J
 generalize ia v (gD x k w)=u at C M J hl;split
 .rename_i hc;refine⟨⟨by simp[lw],by simp[lr],Kc jX oG,fun y hy=>?_⟩,?_⟩
  .rcases List.mem_or_eq_of_mem_set hy with h|h
   .exact rg y h
   .subst h;exact C
  .have h1:=aae (v:=u) hx;have h2:=count_set hb;unfold nS pM;simp only[if_true];rcases hc with hc|hc
   .subst hc;simp only[Bool.false_eq_true,if_false] at h2;omega
   .have:=J hc;omega
 .exact⟨⟨lw,lr,jX,rg⟩,bO _⟩
theorem Fa{α β:Type}{f:β->α->β}{J:β->Prop}{φ:β->Nat}{l:List α}(h:∀ x∈l,∀ s,J s->J (f s x)/\φ (f s x)<=φ s){s:β}(hs:J s):J (l.foldl f s)/\φ (l.foldl f s)<=φ s:=by
 induction l generalizing s with
 |nil=>exact⟨hs,bO _⟩
 |cons x l ih=>
  obtain⟨h1,h2⟩:=h x oS s hs;obtain⟨C,M⟩:=ih (fun y hy=>h y (by simp[hy])) h1;exact⟨C,Nat.le_trans M h2⟩
theorem Fb(x:End):(nextR x).length<=x.aJ.length+3:=by
 have h1:=RA (d:=nv (dh x)) (nv (dh x)).length;have h2:=Ka x;rw[Pv] at h1;exact Nat.le_trans (by simpa[nextR,Ao,mZ] using h1) h2
structure sP(n:Nat)(b:cE):Prop where
 len:b.ins.length<=100000
 ins:∀ x∈b.ins,qf x
 fin:C0 b.fin
 rl:∀ x∈b.ins,(cL x).length<=100000
 rf:(cN b.fin).length<=100000
 to:∀ t∈nextR b.fin,0<=t/\t<n
theorem JF{bs:List cE}{s:CS}{n k:Nat}(hb:∀ b∈bs,sP n b)(hs:fX n s):fX n (dF bs s k)/\nS (dF bs s k)<=nS s:=by
 unfold dF;split
 .exact⟨hs,bO _⟩
 .rename_i x hx;split
  .exact Fa (J:=fX n) (φ:=nS) (fun t ht s hs=>ET hs ((hb x (cX hx)).to t ht)) hs
  .exact⟨hs,bO _⟩
theorem BZ{bs:List cE}{s:CS}{n:Nat}(hb:∀ b∈bs,sP n b)(hs:fX n s):fX n (ke bs s)/\nS (ke bs s)<=pM s:=by
 have:=Fa (J:=fX n) (φ:=nS) (f:=dF bs) (l:=range bs.length) (fun k _ s hs=>JF hb hs) (s:=⟨s.aP,s.re,false⟩) ⟨hs.lw,hs.lr,hs.jX,hs.rg⟩;exact this
def iq(bs:List cE)(args:Nat):CS:=mr bs (pM (kf bs.length args)+1) (kf bs.length args)
theorem getD_some{α:Type}{l:List α}{k:Nat}{x d:α}(h:l[k]? =some x):l.getD k d=x:=by simp[eg,h]
theorem Ke{α:Type}{n k:Nat}{x y:α}(hk:k<n):(replicate k x++replicate (n - k) y).set k x=replicate (k+1) x++replicate (n - (k+1)) y:=by
 rw[show n - k=n - (k+1)+1 by omega,List.replicate_succ,List.replicate_succ',List.append_assoc,List.singleton_append];rw[List.set_append];simp
theorem aaf{α:Type}{a b:Nat}{x y z:α}(h:z∈replicate a x++replicate b y):z=x\/z=y:=by
 rcases List.mem_append.1 h with h|h
 .exact .inl (List.eq_of_mem_replicate h)
 .exact .inr (List.eq_of_mem_replicate h)
theorem W7{x:End}{w v:List Int}{s:CS}{k:Nat}{b:Bool}(hx:s.aP[k]? =some v)(hb:s.re[k]? =some b)(h:b=false\/ia v (gD x k w)≠v):cQ x w s k=⟨s.aP.set k (ia v (gD x k w)),s.re.set k true,true⟩:=by
 unfold cQ;rw[dX,getD_some hx,getD_some hb,if_pos h]
theorem XA{x:End}{w v:List Int}{s:CS}{k:Nat}{b:Bool}(hx:s.aP[k]? =some v)(hb:s.re[k]? =some b)(h:¬ (b=false\/ia v (gD x k w)≠v)):cQ x w s k=s:=by
 unfold cQ;rw[dX,getD_some hx,getD_some hb,if_neg h]
theorem ID{n args:Nat}(ha:∀ u∈iM args,dW u):fX n (kf n args):=by
 refine⟨by simp[kf],by simp[kf],Kc (fun w C=>by rw[List.eq_of_mem_replicate C];simp) oS,fun w C u hu=>?_⟩;rcases List.mem_or_eq_of_mem_set C with h|h
 .rw[List.eq_of_mem_replicate h] at hu;rw[List.eq_of_mem_replicate hu];simp[dW,kU]
 .rw[h] at hu;exact ha u hu
end Go.Argus
namespace Go.Proofs.Tryz.K
theorem A9{p q:D}{f:bd}{n args:Nat}(hp:Tr p)(hq:Tr q)(gi:p.one=true)(eS:q.one=true)(hn:f.blocks.length=n)(oI:0<n)(pH:n<=100000)(ha:f.args=args)(rO:args<=1000)(BM:∀ u∈iM args,dW u)(hb:∀ b∈f.blocks,sP n b):
 ax prog 144 [.agg (bu p q f)] (.bp [.sl (c6 (iq f.blocks args).aP) n,.sl ((iq f.blocks args).re.map B) n]):=by
 have br:∀ a∈[D.agg (bu p q f)],Tr a:=.cons (my hp hq f) .nil;refine bP aek br (.bp (.cons (.sl (acs _)) (.cons (.sl (.map fun _=>.s _)) .nil))) ?_;rw[ael];refine aE ?_;refine aB ?_;refine ab (bj (cr [(0,bu p q f,93)] eH (l:=[(1,.pt (bu p q f))]) eH) (tI YG ?_));refine a7 ?_;refine cM (Cf rfl rfl V.h V.h) ak ⟨oG,rfl,oG,by rw[UM];omega,V.h⟩ ?_;refine fS ?_;have dN:((f.blocks.length:Nat):Int).toNat=n:=hn;refine bX bY (bj (bc (l:=[(1,.pt (bu p q f)),(4,.rs 1 0 n),(5,.rs 2 0 n)]) (ml:=[(1,.cells (c6 (replicate n (replicate 20 0))) 201),(2,.cells ((replicate n false).map B) 4)]) ⟨rfl,?_,?_,trivial⟩ ⟨?_,?_,trivial⟩) (aV (aE ?_)))
 .exact congrArg (fun k=>D.rs 1 0 k) dN
 .exact congrArg (fun k=>D.rs 2 0 k) dN
 .exact congrArg (fun c=>some (Row.cells c 201)) ((congrArg (fun k=>dq k ((replicate 20 (0:Int)).map cU)) dN).trans (aaa n (replicate 20 0)))
 .exact congrArg (fun c=>some (Row.cells c 4)) ((congrArg (fun k=>dq k [B false]) dN).trans (Cr n false))
 refine aB ?_
 refine ab (dA (fun s=>aR prog s ⟨aH [(1,.pt (bu p q f)),(4,.rs 1 0 n),(5,.rs 2 0 n)],aby [(1,.cells (c6 (replicate n (replicate 20 kU))) 201),(2,.cells ((replicate n false).map B) 4)],3⟩) (iK (α:=Nat)
  (fun k=>⟨aH [(1,.pt (bu p q f)),(4,.rs 1 0 n),(5,.rs 2 0 n),(27,I n),(28,I k)],aby [(1,.cells (c6 (replicate k (replicate 20 kU)++replicate (n - k) (replicate 20 0))) 201),(2,.cells ((replicate n false).map B) 4)],3⟩)
  (fun k=>k<=n) (fun k=>n - k) 0 (bc eH eH) oG ?_) ?_)
 .intro k hk;refine SS ?_;refine ab ⟨_,rfl,fun h=>?_,fun h=>?_⟩
  .have aj:k<n:=by simpa using h
   have s6:=Ke (x:=replicate 20 kU) (y:=replicate 20 (0:Int)) aj
   have hi:(replicate k (replicate 20 kU)++replicate (n - k) (replicate 20 (0:Int)))[k]? =some (replicate 20 0):=by
    rw[List.getElem?_append_right oS,List.length_replicate,Nat.sub_self,show n - k=n - (k+1)+1 by omega,List.replicate_succ];rfl
   have BN:∀ w∈replicate k (replicate 20 kU)++replicate (n - k) (replicate 20 (0:Int)),w.length=20:=fun w U=>by
    rcases aaf U with h|h<;>(rw[h];simp)
   have ME:ax prog 217 [] (gH (replicate 20 kU)):=ME;refine ws ?_;refine af ?_;refine ab (kp ?_);refine af ?_;refine cl ME ?_;refine af ?_;refine ab ?_;refine af ?_;refine ab (bD (k+1) (bc eH ⟨?_,rfl,trivial⟩) oG oG);rw[<- s6];rfl
  .have bL:¬ k<n:=by simpa using h
   have:k=n:=by omega
   subst this;refine bc eH ⟨?_,rfl,trivial⟩;show some (Row.cells (c6 (_++replicate (k - k) _)) _)=_;rw[Nat.sub_self,List.replicate_zero,List.append_nil]
 rintro s hg;refine⟨_,hg,aE ?_⟩;have hi:(replicate n (replicate 20 kU))[0]? =some (replicate 20 kU):=by simp[oI]
 have BN:∀ w∈replicate n (replicate 20 kU),w.length=20:=fun w U=>by rw[List.eq_of_mem_replicate U];simp
 refine af ?_;refine ao (aab ag' rfl aeh) ak ⟨V.h,V.h⟩ ?_;refine a7 ?_;refine ab (bj (bc (l:=[(1,.pt (bu p q f)),(4,.rs 1 0 n),(5,.rs 2 0 n)]) (ml:=[(1,.cells (c6 ((replicate n (replicate 20 kU)).set 0 (iM 0))) 201),(2,.cells (((replicate n false).set 0 true).map B) 4)]) eH ⟨rfl,?_,trivial⟩) (aV (aE ?_)))
 .rw[List.map_set];rfl
 clear hi;refine a7 ?_
 refine ab (dA (fun s=>aR prog s ⟨aH [(1,.pt (bu p q f)),(4,.rs 1 0 n),(5,.rs 2 0 n)],aby [(1,.cells (c6 ((replicate n (replicate 20 kU)).set 0 (iM args))) 201),(2,.cells (((replicate n false).set 0 true).map B) 4)],3⟩) (iK (α:=Nat)
  (fun k=>⟨aH [(1,.pt (bu p q f)),(4,.rs 1 0 n),(5,.rs 2 0 n),(43,I args),(44,I k)],aby [(1,.cells (c6 ((replicate n (replicate 20 kU)).set 0 (iM k))) 201),(2,.cells (((replicate n false).set 0 true).map B) 4)],3⟩)
  (fun k=>k<=args) (fun k=>args - k) 0 (bc ⟨rfl,rfl,rfl,congrArg I ha,rfl,trivial⟩ eH) oG ?_) ?_)
 .intro k hk;refine SS ?_;refine ab ⟨_,rfl,fun h=>?_,fun h=>?_⟩
  .have aj:k<args:=by simpa using h
   have hi:((replicate n (replicate 20 kU)).set 0 (iM k))[0]? =some (iM k):=by simp[oI]
   have BN:=Kc (i:=0) BN (Pz k);have qo:=qo (w:=iM k) (n:=(k:Int)) oS oG;refine ws ?_;refine af ?_;refine ab (kp ?_);refine aB ?_;refine ao (dP rfl rfl V.h V.h (G4 oN oN)) ak (dQ V.h V.h (yz oN oN)) ?_;refine SS ?_;refine cl qo ?_;refine af ?_;refine ab ?_;refine af ?_;refine ab (bD (k+1) (bc eH ⟨?_,rfl,trivial⟩) oG oG);show some (Row.cells (c6 ((List.set _ 0 (iM k)).set 0 (iM (k+1)))) _)=_;rw[List.set_set]
  .have bL:¬ k<args:=by simpa using h
   have:k=args:=by omega
   subst this;exact aq eH
 clear BN;rintro s hg;refine⟨_,hg,aV (aE ?_)⟩;refine SS ?_;have hi0:=ID (n:=n) BM;have hR:iq f.blocks args=mr f.blocks (pM (kf n args)+1) (kf n args):=by rw[iq,hn]
 generalize iq f.blocks args=R at hR ⊢
 refine ab (dA (fun s=>∃ n',aR prog s ⟨aH [(4,.rs 1 0 n),(5,.rs 2 0 n)],aby [(1,.cells (c6 R.aP) 201),(2,.cells (R.re.map B) 4)],n'⟩/\fX n R) (JX (α:=CS×Nat)
  (fun s=>⟨aH [(1,.pt (bu p q f)),(4,.rs 1 0 n),(5,.rs 2 0 n),(8,B s.1.ch)],aby [(1,.cells (c6 s.1.aP) 201),(2,.cells (s.1.re.map B) 4)],s.2⟩)
  (fun s=>fX n s.1/\3<=s.2/\(s.1.ch=true->∃ k,pM s.1<k/\mr f.blocks k s.1=R)/\(s.1.ch=false->s.1=R)) (fun s=>2*pM s.1+if s.1.ch=true then 1 else 0) (kf n args,3)
  (bc eH eH) ⟨hi0,bO _,fun _=>⟨_,Nat.lt_succ_self _,hR.symm⟩,fun h=>by cases h⟩ ?_) ?_)
 .rintro⟨C,N0⟩ ⟨yP,vg,ja,DB⟩;dsimp only at yP vg ja DB ⊢;refine SS ?_;refine ab ⟨_,rfl,fun h0=>?_,fun h=>?_⟩
  .obtain⟨dV,aem,C'⟩:=ja h0;obtain⟨dV,rfl⟩:∃ j,dV=j+1:=⟨dV - 1,oG⟩
   have Da:=BZ hb yP;refine ws ?_;refine SS ?_;refine ab (aE ?_);refine bH ?_
   refine ab (iK (α:=Nat×Nat)
    (fun k=>⟨aH [(1,.pt (bu p q f)),(4,.rs 1 0 n),(5,.rs 2 0 n),(8,B ((range k.1).foldl (dF f.blocks) ⟨C.aP,C.re,false⟩).ch),(58,gl f.blocks),(59,I n),(60,I k.1)],aby [(1,.cells (c6 ((range k.1).foldl (dF f.blocks) ⟨C.aP,C.re,false⟩).aP) 201),(2,.cells (((range k.1).foldl (dF f.blocks) ⟨C.aP,C.re,false⟩).re.map B) 4)],k.2⟩)
    (fun k=>k.1<=n/\3<=k.2) (fun k=>n - k.1) (0,N0) (bc ⟨rfl,rfl,rfl,rfl,rfl,congrArg (fun k:Nat=>I k) hn,rfl,trivial⟩ eH) ⟨Nat.zero_le _,vg⟩ ?_)
   rintro⟨k,N⟩ ⟨hk,hN⟩;dsimp only at hk hN ⊢;have c7:=(Fa (J:=fX n) (φ:=nS) (f:=dF f.blocks) (l:=range k) (fun k _ s hs=>JF hb hs) (s:=⟨C.aP,C.re,false⟩) ⟨yP.lw,yP.lr,yP.jX,yP.rg⟩).1;have cI:(range (k+1)).foldl (dF f.blocks) ⟨C.aP,C.re,false⟩=dF f.blocks ((range k).foldl (dF f.blocks) ⟨C.aP,C.re,false⟩) k:=by rw[List.range_succ,List.foldl_append];rfl
   have kM:k=n->(range k).foldl (dF f.blocks) ⟨C.aP,C.re,false⟩=ke f.blocks C:=fun e=>by rw[e,ke,hn]
   generalize (range k).foldl (dF f.blocks) ⟨C.aP,C.re,false⟩=u at c7 cI kM;refine SS ?_;refine ab ⟨_,rfl,fun h=>?_,fun h=>?_⟩
   .have aj:k<n:=by simpa using h
    have hx:f.blocks[k]? =some f.blocks[k]:=bB oG;have dz:f.blocks[k]∈f.blocks:=df _;generalize f.blocks[k]=x at hx dz;have X:=hb x dz;have M:dF f.blocks u k=if u.re.getD k false=true then(nextR x.fin).foldl (cQ x.fin (jf x (u.aP.getD k [])).1) u else u:=by rw[dF,hx]
    have lw:=c7.lw;have lr:=c7.lr;have jX:=c7.jX;have U:u.aP[k]? =some u.aP[k]:=bB oG;have oL:u.re[k]? =some u.re[k]:=bB oG;rw[getD_some U,getD_some oL] at M;have mh:=jX _ (df (h:=by omega):u.aP[k]∈u.aP);generalize u.aP[k]=w at U M mh;generalize u.re[k]=b at oL M;have kd:=mq (f:=B) oL;refine ws ?_;refine cY ?_;refine ab (aV (al ?_));refine af ?_;refine ao (p7 rfl rfl (aM oG (aM oG rfl)) V.h V.h) ak ⟨V.h,oG⟩ ?_;refine ao (eJ rfl (aM oG (aM oG rfl)) kd V.h) ak (eK V.h V.h kd) ?_;refine SS ?_;refine ab (dI rfl (fun h=>sd (Ay ?_)) fun h=>dL (tI XB ?_))
    .have Ee:b=false:=by simpa using h
     subst Ee;have M:dF f.blocks u k=u:=M;refine af ?_;refine ab (bD (k+1,N+1) (bc ⟨rfl,rfl,rfl,?_,rfl,rfl,rfl,trivial⟩ ⟨?_,?_,trivial⟩) ⟨oM,oM⟩ oM)
     .dsimp only;rw[cI,M];rfl
     .dsimp only;rw[cI,M];exact aM oG (aM oG rfl)
     .dsimp only;rw[cI,M];exact aM oG (aM oG rfl)
    have NE:b=true:=by simpa using h
    subst NE;have M:dF f.blocks u k=(nextR x.fin).foldl (cQ x.fin (jf x w).1) u:=M;have nF:=nF mh X.len X.ins X.fin X.rl X.rf;have uJ:=Iv x w;rw[mh] at uJ;generalize Ek:jf x w=th at nF uJ M;obtain⟨w',NC⟩:=th;dsimp only at uJ nF M;clear kd;refine ao (dP (vs:=gR _) rfl (au _ _ _) V.h V.h rfl) ak (dQ V.h V.h (by first|(simp;done)|omega|exact bg rfl)) ?_;refine af ?_;refine ao (Cq rfl rfl (aM oG (aM oG (au _ _ _))) V.h V.h) ak ⟨V.h,oG⟩ ?_;refine ao (dP rfl (aM oG (aM oG (au _ _ _))) V.h V.h (G4 oN oN)) ak (dQ V.h V.h (yz oN oN)) ?_;refine cl nF ?_;refine cY ?_;refine bX bY (bj (tL (l:=[(1,.pt (bu p q f)),(4,.rs 1 0 n),(5,.rs 2 0 n),(8,B u.ch),(10,.rp N 0),(11,.rp (N+1) 0),(58,gl f.blocks),(59,I n),(60,I k)]) (m':=up (up (aby [(1,.cells (c6 u.aP) 201),(2,.cells (u.re.map B) 4)]) N (some (.cells (gR x) 69))) (N+1) (some (.cells (w'.map cU) 201))) eH (by rw[uv,uv])) (aE ?_));have ve:=ve (x:=x.fin);have vf:=TS (x:=x.fin) X.fin.wh
    change ax _ _ _ (aX (nextR x.fin)) at vf
    have fM:=X.to;have jz:=Fb x.fin;have VG:=X.fin.wh;generalize nextR x.fin=l at vf M fM jz;refine ao (nV rfl (aM oG (au _ _ _)) V.h) ak (iT V.h) ?_;refine ao (dP (vs:=bA _) rfl (aM oG (au _ _ _)) V.h V.h rfl) ak (dQ V.h V.h (by first|(simp;done)|omega|exact bg rfl)) ?_;refine cl ve ?_;refine cl vf ?_;refine af ?_;have yQ:dF f.blocks u k=l.foldl (cQ x.fin w') u:=M
    refine ab (iK (α:=Nat×Nat)
     (fun j=>⟨aH [(1,.pt (bu p q f)),(4,.rs 1 0 n),(5,.rs 2 0 n),(8,B ((l.take j.1).foldl (cQ x.fin w') u).ch),(10,.rp N 0),(11,.rp (N+1) 0),(58,gl f.blocks),(59,I n),(60,I k),(82,aX l),(83,I l.length),(84,I j.1)],up (up (aby [(1,.cells (c6 ((l.take j.1).foldl (cQ x.fin w') u).aP) 201),(2,.cells (((l.take j.1).foldl (cQ x.fin w') u).re.map B) 4)]) N (some (.cells (gR x) 69))) (N+1) (some (.cells (w'.map cU) 201)),j.2⟩)
     (fun j=>j.1<=l.length/\N+2<=j.2) (fun j=>l.length - j.1) (0,N+2) (tL eH rfl) ⟨Nat.zero_le _,bO _⟩ ?_)
    rintro⟨j,N'⟩ ⟨hj,H4⟩;dsimp only at hj H4 ⊢;have H5:=(Fa (J:=fX n) (φ:=nS) (f:=cQ x.fin w') (l:=l.take j) (fun t ht s hs=>ET hs (fM t (List.mem_of_mem_take ht))) c7).1;have O:∀ t,l[j]? =some t->(l.take (j+1)).foldl (cQ x.fin w') u=cQ x.fin w' ((l.take j).foldl (cQ x.fin w') u) t:=fun t ht=>pT ht;have q8:j=l.length->(l.take j).foldl (cQ x.fin w') u=dF f.blocks u k:=fun e=>by rw[yQ,dO oG]
    generalize (l.take j).foldl (cQ x.fin w') u=v at H5 O q8;clear lw lr jX U oL;have lw:=H5.lw;have lr:=H5.lr;have jX:=H5.jX;refine SS ?_;refine ab ⟨_,rfl,fun h=>?_,fun h=>?_⟩
    .have dZ:j<l.length:=by simpa using h
     have ht:l[j]? =some l[j]:=bB dZ;have rW:=fM _ (df dZ);generalize l[j]=t at ht rW;obtain⟨i,rfl⟩:=ic rW.1;have cy:i<n:=by omega
     have U:v.aP[i]? =some v.aP[i]:=bB oG;have oL:v.re[i]? =some v.re[i]:=bB oG;have NF:=jX _ (df (h:=by omega):v.aP[i]∈v.aP);generalize v.aP[i]=y at U NF;generalize v.re[i]=b at oL;have kd:=mq (f:=B) oL;have wD:=wD (x:=x.fin) (b:=(i:Int)) (w:=w') uJ (by have:=X.fin.wh;omega) (by have:=X.fin.wr;omega);have El:=Px x.fin i w';rw[uJ] at El;have Hp:=Hp NF El;have Bi:=PB y (gD x.fin i w');rw[NF] at Bi;have yes:=W7 (x:=x.fin) (w:=w') U oL;have no:=XA (x:=x.fin) (w:=w') U oL;generalize ia y (gD x.fin i w')=z at Hp Bi yes no;refine ws ?_;refine aB ?_;refine ab (tI XC ?_);refine af ?_;refine ao (Cq rfl rfl (aM oG (aM oG (au _ _ _))) V.h V.h) ak ⟨V.h,oG⟩ ?_;refine ao (dP rfl (aM oG (aM oG (au _ _ _))) V.h V.h (G4 oN oN)) ak (dQ V.h V.h (yz oN oN)) ?_;refine ao (nV rfl (aM oG (au _ _ _)) V.h) ak (iT V.h) ?_;refine ao (dP (vs:=bA _) rfl (aM oG (au _ _ _)) V.h V.h rfl) ak (dQ V.h V.h (by first|(simp;done)|omega|exact bg rfl)) ?_;refine SS ?_;refine ao (dP rfl (au _ _ _) V.h V.h (ns (by first|rfl|exact bg rfl|(simp;done)|(simp;omega)|omega))) ak (dQ V.h V.h (by first|rfl|exact bg rfl|(simp;done)|(simp;omega)|omega)) ?_;refine cl wD ?_;refine cl Hp ?_;refine af ?_;refine bX bY (bj (tL (l:=[(1,.pt (bu p q f)),(4,.rs 1 0 n),(5,.rs 2 0 n),(8,B v.ch),(10,.rp N 0),(11,.rp (N+1) 0),(14,I i),(15,.rp N' 0),(58,gl f.blocks),(59,I n),(60,I k),(82,aX l),(83,I l.length),(84,I j)]) (m':=up (up (up (aby [(1,.cells (c6 v.aP) 201),(2,.cells (v.re.map B) 4)]) N (some (.cells (gR x) 69))) (N+1) (some (.cells (w'.map cU) 201))) N' (some (.cells (z.map cU) 201))) eH (uv _ _ _ _)) (eF XD ?_));refine af ?_;refine ao (p7 rfl rfl (aM oG (aM oG (aM oG rfl))) V.h V.h) ak ⟨V.h,oG⟩ ?_;refine ao (eJ rfl (aM oG (aM oG (aM oG rfl))) kd V.h) ak (eK V.h V.h kd) ?_;refine af ?_;refine bQ rfl rfl (dP rfl (au _ _ _) V.h V.h (ns (by first|rfl|exact bg rfl|(simp;done)|(simp;omega)|omega))) (fun hc=>⟨ak,(dQ V.h V.h (by first|rfl|exact bg rfl|(simp;done)|(simp;omega)|omega))⟩) ?_;refine af ?_;refine bQ rfl rfl (Cq rfl rfl (aM oG (aM oG (aM oG (au _ _ _)))) V.h V.h) (fun hc=>⟨ak,⟨V.h,oG⟩⟩) ?_;refine bQ rfl rfl (dP rfl (aM oG (aM oG (aM oG (au _ _ _)))) V.h V.h (G4 oN oN)) (fun hc=>⟨ak,(dQ V.h V.h (yz oN oN))⟩) ?_;refine bQ rfl rfl (aei rfl rfl (by first|assumption|(simp;omega)|omega)) (fun hc=>⟨ak,(aej (by first|assumption|(simp;omega)|omega))⟩) ?_;refine SS ?_;refine bX bY (yC rfl (fun h=>?_) fun h=>?_)
     .have yes:=yes (by
       cases b with
       |false=>exact .inl rfl
       |true=>exact .inr (by simpa using h))
      have O:=(O _ ht).trans yes;clear yes no;refine kp ?_;refine a7 ?_;refine ao (dP rfl (au _ _ _) V.h V.h (ns (by first|rfl|exact bg rfl|(simp;done)|(simp;omega)|omega))) ak (dQ V.h V.h (by first|rfl|exact bg rfl|(simp;done)|(simp;omega)|omega)) ?_;refine ao (Cq rfl rfl (aM oG (aM oG (aM oG (au _ _ _)))) V.h V.h) ak ⟨V.h,oG⟩ ?_;refine dJ (iI rfl rfl (aM oG (aM oG (aM oG (au _ _ _)))) (TL oC oN oN (by first|assumption|(simp;omega)|(simp;done)))) ak (Cj (by first|(simp;omega)|(simp;done)) (yz oN oN) (oB _)) ?_;refine ao (p7 rfl rfl (aM oG (aM oG (aM oG (aM oG rfl)))) V.h V.h) ak ⟨V.h,oG⟩ ?_;refine dJ (mo (d:=.s (.bool _)) (cs':=_) rfl rfl (aM oG (aM oG (aM oG (aM oG rfl)))) rfl rfl) ak (eU V.h V.h (by first|(simp;done)|exact⟨rfl,bg rfl⟩|(simp;omega)) rfl) ?_;refine SS ?_;refine ab ?_;refine af ?_
      refine ab (bD (j+1,N'+1) (bc (ml:=[(N+1,.cells (w'.map cU) 201),(N,.cells (gR x) 69),(1,.cells (c6 ((l.take (j+1)).foldl (cQ x.fin w') u).aP) 201),(2,.cells (((l.take (j+1)).foldl (cQ x.fin w') u).re.map B) 4)]) ⟨rfl,rfl,rfl,?_,rfl,rfl,rfl,rfl,rfl,rfl,rfl,rfl,trivial⟩
       ⟨aM oG (aM oG (aM oG (au _ _ _))),aM oG (aM oG (aM oG (aM oG (au _ _ _)))),aM oG ?_,?_,trivial⟩) ⟨oM,oM⟩ oM)
      .dsimp only;rw[O];rfl
      .rw[O];exact au _ _ _
      .rw[O];dsimp only;rw[List.map_set];exact au _ _ _
     .have no:=no (by
       cases b with
       |false=>simp at h
       |true=>simpa using h)
      have O:=(O _ ht).trans no;refine eC ?_;refine af ?_
      refine ab (bD (j+1,N'+1) (bc (ml:=[(N+1,.cells (w'.map cU) 201),(N,.cells (gR x) 69),(1,.cells (c6 ((l.take (j+1)).foldl (cQ x.fin w') u).aP) 201),(2,.cells (((l.take (j+1)).foldl (cQ x.fin w') u).re.map B) 4)]) ⟨rfl,rfl,rfl,?_,rfl,rfl,rfl,rfl,rfl,rfl,rfl,rfl,trivial⟩
       ⟨aM oG (au _ _ _),aM oG (aM oG (au _ _ _)),?_,?_,trivial⟩) ⟨oM,oM⟩ oM)
      .dsimp only;rw[O];rfl
      .rw[O];exact aM oG (aM oG (aM oG rfl))
      .rw[O];exact aM oG (aM oG (aM oG rfl))
    .have bL:¬ j<l.length:=by simpa using h
     have vl:=q8 oG;subst vl;show aw _ _ _ _ _ _ _ _ _;refine af ?_;refine ab (bD (k+1,N') (bc ⟨rfl,rfl,rfl,?_,rfl,rfl,rfl,trivial⟩ ⟨?_,?_,trivial⟩) ⟨oM,oM⟩ oM)
     .dsimp only;rw[cI];rfl
     .dsimp only;rw[cI];exact aM oG (aM oG rfl)
     .dsimp only;rw[cI];exact aM oG (aM oG rfl)
   .have bL:¬ k<n:=by simpa using h
    have hl:=kM oG;subst hl;refine bD (ke f.blocks C,N) (bc eH eH) ⟨c7,hN,fun hc=>?_,fun hc=>?_⟩ ?_
    .refine⟨dV,?_,?_⟩
     .have:=Da.2;unfold nS at this;show pM (ke f.blocks C)<dV;rw[if_pos hc] at this;omega
     .dsimp only at hc ⊢;rw[<- C',mr,if_pos hc]
    .dsimp only at hc ⊢;rw[<- C',mr,if_neg (by simp[hc])]
    .have:=Da.2;unfold nS at this;dsimp only;rw[if_pos h0];split at this<;>rename_i hc
     .rw[if_pos hc];omega
     .rw[if_neg hc];omega
  .have NG:=DB h;subst NG;exact⟨N0,bc eH eH,yP⟩
 .rintro s ⟨n',hg,MK⟩;refine⟨_,hg,aE ?_⟩;refine a7 ?_;refine ab (bj (cr [(1,c6 R.aP,201),(2,R.re.map B,4)] ⟨rfl,Kd oG rfl .map,trivial⟩ (l:=[(2,.sl (c6 R.aP) n),(3,.sl (R.re.map B) n)]) ⟨?_,?_,trivial⟩) (R9 rfl rfl rfl))
  .show sub (dG 2 (R.re.map B) (prog.cellsOf 4)) (sub (dG 1 (c6 R.aP) (prog.cellsOf 201)) (D.rs 1 0 n))=_;rw[zX (by rw[rB,Jf MK.jX,MK.lw]),acu]
  .show sub (dG 2 (R.re.map B) (prog.cellsOf 4)) (sub (dG 1 (c6 R.aP) (prog.cellsOf 201)) (D.rs 2 0 n))=_;rw[Jg oG,zX (by rw[c4,List.length_map,MK.lr,Nat.mul_one])]
end Go.Proofs.Tryz.K
namespace Go.Abs
def jc(r:Nat)(l:List D):D:=match l with
 |[]=>.z
 |_=>.rs r 0 l.length
theorem Db{r:Nat}{l:List D}(h:l≠[]):jc r l=.rs r 0 l.length:=by cases l with
 |nil=>exact absurd rfl h
 |cons=>rfl
def px(ρ:Nat->Nat)(L:Nat->List D)(n:Nat):List D:=(range n).map fun i=>jc (ρ i) (L i)
@[simp] theorem akB (ρ : Nat -> Nat) (L : Nat -> List D) (n : Nat) : (px ρ L n).length = n := by simp [px]
theorem Qx{ρ:Nat->Nat}{L:Nat->List D}{n i:Nat}(hi:i<n):∃ cs,(px ρ L n).drop i=jc (ρ i) (L i)::cs:=
 ⟨_,mq (f:=fun i=>jc (ρ i) (L i)) (by simp[hi])⟩
theorem YH{α:Type}{F:Nat->α}{n i:Nat}{x:α}:((range n).map F).set i x=(range n).map (up F i x):=by
 apply List.ext_getElem?;intro k;rw[List.getElem?_set];simp only[List.length_map,List.length_range,List.getElem?_map];split
 .rename_i e;subst e;split
  .rename_i h;simp[h,au]
  .rename_i h;simp[h]
 .rename_i e;by_cases hk:k<n
  .simp[hk,bE F x (Ne.symm e)]
  .simp[hk]
theorem abB{ρ:Nat->Nat}{L:Nat->List D}{n i r:Nat}{l:List D}(hl:l≠[]):(px ρ L n).set i (.rs r 0 l.length)=px (up ρ i r) (up L i l) n:=by
 unfold px;rw[YH];refine congrArg (fun F=>(range n).map F) (funext fun k=>?_);simp only[up];split
 .rw[Db hl]
 .rfl
structure nT(m:Mem)(nx j n:Nat)(e et:TypeId)(ρ:Nat->Nat)(L:Nat->List D):Prop where
 row:m j=some (.cells (px ρ L n) e)
 zu:j<nx
 DC:∀ i,i<n->L i≠[]->m (ρ i)=some (.cells (L i) et)
 lt:∀ i,i<n->L i≠[]->ρ i<nx
 ne:∀ i,i<n->L i≠[]->ρ i≠j
 inj:∀ i k,i<n->k<n->L i≠[]->L k≠[]->ρ i=ρ k->i=k
theorem nT.ext{m m':Mem}{nx aA j n:Nat}{e et:TypeId}{ρ:Nat->Nat}{L:Nat->List D}(h:nT m nx j n e et ρ L)(hm:∀ q,q<nx->m' q=m q)(hn:nx<=aA):nT m' aA j n e et ρ L:=
 ⟨(hm j h.zu).trans h.row,Nat.lt_of_lt_of_le h.zu hn,fun i hi hl=>(hm _ (h.lt i hi hl)).trans (h.DC i hi hl),fun i hi hl=>Nat.lt_of_lt_of_le (h.lt i hi hl) hn,h.ne,h.inj⟩
theorem nT.H6{m m':Mem}{nx aA j n i r:Nat}{e et:TypeId}{ρ:Nat->Nat}{L:Nat->List D}{l:List D}(h:nT m nx j n e et ρ L)(hi:i<n)(hl:l≠[])(hr:nx<=r)(gL:r<aA)
 (hj:m' j=some (.cells ((px ρ L n).set i (.rs r 0 l.length)) e)) (aD:m' r=some (.cells l et)) (hk:∀ q,q<nx->q≠j->(L i≠[]->q≠ρ i)->m' q=m q):nT m' aA j n e et (up ρ i r) (up L i l):=by
 have dZ:=h.zu
 have old:∀ k,k<n->k≠i->L k≠[]->m' (ρ k)=some (.cells (L k) et):=fun k M J C=>
  (hk _ (h.lt k M C) (h.ne k M C) fun yL e=>J (h.inj k i M hi C yL e)).trans (h.DC k M C)
 refine⟨by rw[hj,abB hl],oG,fun k M C=>?_,fun k M C=>?_,fun k M C=>?_,fun a b ha hb H7 zq U=>?_⟩
 .by_cases J:k=i
  .subst J;rw[au,au];exact aD
  .rw[bE _ _ J] at C ⊢;rw[bE _ _ J];exact old k M J C
 .by_cases J:k=i
  .subst J;rw[au];exact gL
  .rw[bE _ _ J] at C ⊢;have:=h.lt k M C;omega
 .by_cases J:k=i
  .subst J;rw[au];omega
  .rw[bE _ _ J] at C ⊢;exact h.ne k M C
 .by_cases X:a=i
  .by_cases O:b=i
   .omega
   .subst X;rw[au,bE _ _ O] at U;rw[bE _ _ O] at zq;have:=h.lt b hb zq;omega
  .by_cases O:b=i
   .subst O;rw[au,bE _ _ X] at U;rw[bE _ _ X] at H7;have:=h.lt a ha H7;omega
   .rw[bE _ _ X] at H7 U;rw[bE _ _ O] at zq U;exact h.inj a b ha hb H7 zq U
theorem Qy{m:Mem}{nx j n:Nat}{e et:TypeId}{ρ:Nat->Nat}(hj:j<nx)(hm:m j=some (.cells (replicate n .z) e)):nT m nx j n e et ρ (fun _=>[]):=by
 refine⟨?_,hj,fun _ _ h=>absurd rfl h,fun _ _ h=>absurd rfl h,fun _ _ h=>absurd rfl h,fun _ _ _ _ h=>absurd rfl h⟩;rw[hm];congr 2;unfold px jc;rw[List.map_const',List.length_range]
theorem RD(n:Nat):dq n [.z]=replicate n D.z:=by
 unfold dq
 induction n with
 |zero=>rfl
 |succ n ih=>rw[List.replicate_succ,List.replicate_succ,List.flatten_cons,ih];rfl
def nz(X:Nat->Prop)(d:D):Prop:=∀ i cs sz,X i->sub (dG i cs sz) d=d
def sH(X:Nat->Prop)(r:Row):Prop:=∀ i cs sz,X i->Row.sub (dG i cs sz) r=r
theorem nz.s{X:Nat->Prop}(v:Value):nz X (.s v):=fun _ _ _ _=>rfl
theorem nz.sl{X:Nat->Prop}(es:List D)(n:Nat):nz X (.sl es n):=fun _ _ _ _=>rfl
theorem nz.z{X:Nat->Prop}:nz X .z:=fun _ _ _ _=>rfl
theorem nz.u{X:Nat->Prop}:nz X .u:=fun _ _ _ _=>rfl
theorem nz.rs{X:Nat->Prop}{j off n:Nat}(h:¬ X j):nz X (.rs j off n):=fun i cs sz hi=>Jg fun e=>h (e▸hi)
theorem sH.cells{X:Nat->Prop}{cs:List D}{e:TypeId}(h:∀ d∈cs,nz X d):sH X (.cells cs e):=fun i C sz hi=>by
 show Row.cells (cs.map _) e=_;congr 1
 induction cs with
 |nil=>rfl
 |cons d cs ih=>rw[List.map_cons,h d oS i C sz hi,ih fun d hd=>h d (by simp[hd])]
theorem sH.aha{X:Nat->Prop}{cs:List D}{e:TypeId}(h:yO cs):sH X (.cells cs e):=sH.cells fun d hd=>by obtain⟨v,rfl⟩:=h d hd;exact .s v
theorem Kf(d:D):Wk d d:=fun _ _ _ _ h=>h
theorem ahb:Wk .z (.sl [] 0):=fun F β w v hv=>by
 obtain⟨x,rfl⟩:=hv.AE;exact .iz x 0
theorem XE{X:Nat->Prop}{l:List (Nat×D)}(h:∀ x∈l,nz X x.2)(t:Nat):nz X (aH l t):=by
 induction l with
 |nil=>exact .u
 |cons x l ih=>
  obtain⟨k,d⟩:=x;simp only[aH];split
  .exact h (k,d) oS
  .exact ih fun y hy=>h y (by simp[hy])
theorem XF{X:Nat->Prop}{l:List (Nat×Row)}(h:∀ x∈l,sH X x.2){q:Nat}{r:Row}(hq:aby l q=some r):sH X r:=by
 induction l with
 |nil=>simp[aby] at hq
 |cons x l ih=>
  obtain⟨k,d⟩:=x;simp only[aby] at hq;split at hq
  .cases hq;exact h (k,r) oS
  .exact ih (fun y hy=>h y (by simp[hy])) hq
theorem YI{l:List (Nat×Row)}{q:Nat}(h:∀ x∈l,x.1≠q):aby l q=none:=by
 induction l with
 |nil=>rfl
 |cons x l ih=>
  obtain⟨k,d⟩:=x;simp only[aby];rw[if_neg fun e=>h (k,d) oS e.symm];exact ih fun y hy=>h y (by simp[hy])
section
variable{P:Program}
open Classical in
noncomputable def kE(ml:List (Nat×Row))(j n k:Nat)(e et:TypeId)(ρ:Nat->Nat)(L:Nat->List D):Mem:=fun q=>
 if q=j then some (.cells ((range n).map fun i=>if i<k then .sl (L i) (L i).length else jc (ρ i) (L i)) e)
 else if h:∃ i,k<=i/\i<n/\L i≠[]/\ρ i=q then some (.cells (L (Classical.choose h)) et)
 else aby ml q
theorem aag{m:Mem}{nx j n k:Nat}{e et:TypeId}{ρ:Nat->Nat}{L:Nat->List D}{l:List (Nat×D)}{ml:List (Nat×Row)}{X:Nat->Prop}(h:nT m nx j n e et ρ L)(hs:∀ i,yO (L i))(het:P.cellsOf et=1)
 (U:∀ i,i<n->L i≠[]->X (ρ i)) (xh:¬ X j) (hl:∀ x∈l,nz X x.2) (wU:∀ x∈ml,sH X x.2/\¬ X x.1) (hk:k<n):
 aR P ⟨aH l,kE ml j n k e et ρ L,nx⟩ ⟨aH l,kE ml j n (k+1) e et ρ L,nx⟩:=by
 by_cases J:L k=[]
 .refine .qi _ _ _ _ _ (fun t=>Kf _) fun q=>?_;by_cases hq:q=j
  .subst hq;right;refine⟨_,_,e,by simp only[kE,if_true];rfl,by simp only[kE,if_true];rfl,oS,fun i d d' hd nI=>?_⟩;simp only[List.getElem?_map,dm] at hd nI;obtain⟨a,ha,rfl⟩:=hd;obtain⟨b,hb,rfl⟩:=nI;rw[ha] at hb;cases hb;by_cases h1:a<k
   .rw[if_pos h1,if_pos oG];exact Kf _
   .rw[if_neg h1];by_cases h2:a=k
    .subst h2;rw[if_pos oG,J];exact ahb
    .rw[if_neg oG];exact Kf _
  .left;simp only[kE,if_neg hq]
   have:(∃ i,k+1<=i/\i<n/\L i≠[]/\ρ i=q)↔(∃ i,k<=i/\i<n/\L i≠[]/\ρ i=q):=by
    constructor
    .rintro⟨i,h1,h2⟩;exact⟨i,oG,h2⟩
    .rintro⟨i,h1,h2,M,O⟩
     exact⟨i,by
      rcases Nat.lt_or_ge k i with g|g
      .exact g
      .have:i=k:=by omega
       subst this;exact absurd J M,h2,M,O⟩
   by_cases hc:∃ i,k<=i/\i<n/\L i≠[]/\ρ i=q
   .rw[dif_pos (this.2 hc),dif_pos hc];have C:=Classical.choose_spec hc;have e2:=Classical.choose_spec (this.2 hc);have:Classical.choose (this.2 hc)=Classical.choose hc:=h.inj _ _ e2.2.1 C.2.1 e2.2.2.1 C.2.2.1 (e2.2.2.2.trans C.2.2.2.symm);rw[this]
   .rw[dif_neg (fun h=>hc (this.1 h)),dif_neg hc]
 .have VH:ρ k≠j:=h.ne k hk J
  have aD:kE ml j n k e et ρ L (ρ k)=some (.cells (L k) et):=by
   have hc:∃ i,k<=i/\i<n/\L i≠[]/\ρ i=ρ k:=⟨k,bO _,hk,J,rfl⟩
   simp only[kE,if_neg VH,dif_pos hc];have C:=Classical.choose_spec hc;have:Classical.choose hc=k:=h.inj _ _ C.2.1 hk C.2.2.1 J C.2.2.2;rw[this]
  have hg:=aR.freeze (P:=P) (aH l) (kE ml j n k e et ρ L) nx (ρ k) (L k) et aD;have C:(fun t=>sub (dG (ρ k) (L k) (P.cellsOf et)) (aH l t))=aH l:=funext fun t=>XE hl t _ _ _ (U k hk J)
  have e2:(fun q=>if q=ρ k then none else(kE ml j n k e et ρ L q).map (Row.sub (dG (ρ k) (L k) (P.cellsOf et))))=kE ml j n (k+1) e et ρ L:=by
   funext q;by_cases zv:q=ρ k
   .subst zv;rw[if_pos rfl]
    have hc:¬ ∃ i,k+1<=i/\i<n/\L i≠[]/\ρ i=ρ k:=by
     rintro⟨i,g1,g2,g3,g4⟩;have:=h.inj _ _ g2 hk g3 J g4;omega
    simp only[kE,if_neg VH,dif_neg hc];exact(YI fun x hx e=>(wU x hx).2 (e▸U k hk J)).symm
   .rw[if_neg zv];by_cases xj:q=j
    .subst xj;simp only[kE,if_true,Option.map_some];congr 1;show Row.cells (List.map _ (List.map _ _)) e=_;rw[List.map_map];congr 1;refine List.map_congr_left fun i hi=>?_;have cy:i<n:=by simpa using hi
     simp only[Function.comp_apply];by_cases h1:i<k
     .rw[if_pos h1,if_pos oG];rfl
     .rw[if_neg h1];by_cases h2:i=k
      .subst h2;rw[if_pos oG,Db J,het];exact zX oG
      .rw[if_neg oG];by_cases M:L i=[]
       .rw[M];rfl
       .rw[Db M];exact Jg fun e=>h2 (h.inj _ _ cy hk M J e)
    .simp only[kE,if_neg xj]
     have this:(∃ i,k+1<=i/\i<n/\L i≠[]/\ρ i=q)↔(∃ i,k<=i/\i<n/\L i≠[]/\ρ i=q):=by
      constructor
      .rintro⟨i,h1,h2⟩;exact⟨i,oG,h2⟩
      .rintro⟨i,h1,h2,M,O⟩
       exact⟨i,by
        rcases Nat.lt_or_ge k i with g|g
        .exact g
        .have:i=k:=by omega
         subst this;exact absurd O.symm zv,h2,M,O⟩
     by_cases hc:∃ i,k<=i/\i<n/\L i≠[]/\ρ i=q
     .rw[dif_pos (this.2 hc),dif_pos hc];have C:=Classical.choose_spec hc;have e2:=Classical.choose_spec (this.2 hc);have:Classical.choose (this.2 hc)=Classical.choose hc:=h.inj _ _ e2.2.1 C.2.1 e2.2.2.1 C.2.2.1 (e2.2.2.2.trans C.2.2.2.symm);rw[this];exact congrArg some (sH.aha (X:=X) (hs _) _ _ _ (U k hk J))
     .rw[dif_neg (fun h=>hc (this.1 h)),dif_neg hc];cases hm:aby ml q with
      |none=>rfl
      |some r=>exact congrArg some (XF (fun x hx=>(wU x hx).1) hm _ _ _ (U k hk J))
  rw[C,e2] at hg;exact hg
theorem PC{env:Env}{m:Mem}{nx j n:Nat}{e et:TypeId}{ρ:Nat->Nat}{L:Nat->List D}{l:List (Nat×D)}{ml:List (Nat×Row)}(X:Nat->Prop)(h:nT m nx j n e et ρ L)(hs:∀ i,yO (L i))(J:P.cellsOf et=1)
 (M:∀ i,i<n->L i≠[]->X (ρ i)) (U:¬ X j) (he:n8 l env) (hl:∀ x∈l,nz X x.2) (hm:CI ml m) (O:∀ x∈ml,sH X x.2/\¬ X x.1):
 aR P ⟨env,m,nx⟩ ⟨aH l,aby ((j,.cells ((range n).map fun i=>.sl (L i) (L i).length) e)::ml),nx⟩:=by
 have key:∀ k,k<=n->aR P ⟨aH l,kE ml j n 0 e et ρ L,nx⟩ ⟨aH l,kE ml j n k e et ρ L,nx⟩:=fun k=>by
  induction k with
  |zero=>exact fun _=>.refl _
  |succ k ih=>exact fun hk=>(ih oG).trans (aag h hs J M U hl O oG)
 have h0:aR P ⟨env,m,nx⟩ ⟨aH l,kE ml j n 0 e et ρ L,nx⟩:=by
  refine(aR.forget env _ m nx (p6 he)).trans (.drop _ _ _ _ fun q=>?_);by_cases hq:q=j
  .subst hq;left;simp only[kE,if_true,Nat.not_lt_zero,if_false];exact h.row.symm
  .simp only[kE,if_neg hq];by_cases hc:∃ i,0<=i/\i<n/\L i≠[]/\ρ i=q
   .rw[dif_pos hc];have C:=Classical.choose_spec hc;left;have:=h.DC _ C.2.1 C.2.2.1;rw[C.2.2.2] at this;exact this.symm
   .rw[dif_neg hc];exact J7 hm q
 refine h0.trans ((key n (bO _)).trans (.drop _ _ _ _ fun q=>.inl ?_));by_cases hq:q=j
 .subst hq;simp only[aby,kE,if_true];congr 2;exact List.map_congr_left fun i hi=>by rw[if_pos (by simpa using hi)]
 .simp only[aby,if_neg hq,kE];rw[dif_neg];rintro⟨i,g1,g2,_⟩;omega
end
section
variable{P:Program}{env:Env}{m:Mem}{nx:Nat}{x y:Operand}{t e:TypeId}{k:IntKind}
theorem QA{w:List Int}{rest:List D}{sz:Nat}(h:w.length=sz):(w.map cU++rest).take sz=w.map cU:=by
 rw[List.take_append_of_le_length (by simp[h]),dO (by simp[h])]
theorem SL{sz n i:Nat}{l:List (List Int)}{w:List Int}(hx:(opd env x).core=.sl (c6 l) n)(hy:(opd env y).core=.s (.int k i))(he:av P t=e)(hs:P.cellsOf e=sz)(hl:∀ w∈l,w.length=sz)(hz:l[i]? =some w):
 Ef P (.indexAddr t x y) env m nx ⟨bm P t=true/\0<=(i:Int)/\(i:Int)<n/\((i:Int).toNat+1)*sz<=(c6 l).length,.pt (w.map cU++c6 (l.drop (i+1))),[],[],0⟩:=
 Le hx hy he hs (by rw[dX];exact Kb hl hz)
theorem SM{sz n i:Nat}{l:List (List Int)}{w:List Int}(ht:bm P t=true)(hl:∀ w∈l,w.length=sz)(hz:l[i]? =some w)(hn:i<n):bm P t=true/\0<=(i:Int)/\(i:Int)<n/\((i:Int).toNat+1)*sz<=(c6 l).length:=by
 have:=yz hl hz;refine⟨ht,oG,oG,?_⟩;rw[dX,Nat.add_mul,Nat.one_mul];exact this
theorem sj{i:Nat}{cs:List D}{l:List (Nat×D)}(hm:m i=some (.cells cs e))(hl:n8 l fun t=>sub (dG i cs (P.cellsOf e)) (env t)):aR P ⟨env,m,nx⟩ ⟨aH l,fun _=>none,nx⟩:=
 cr [(i,cs,e)] ⟨hm,trivial⟩ hl
theorem hP{l:List (Nat×D)}(hl:n8 l env):aR P ⟨env,m,nx⟩ ⟨aH l,fun _=>none,nx⟩:=QB hl fun _=>.inr rfl
end
end Go.Abs
namespace Go.Argus
open Go.Proofs.Tryz.K (nextR)
def fw(b:Nat)(L:Nat->List Int)(t:Int):Nat->List Int:=up L t.toNat (L t.toNat++[(b:Int)])
def qX(bs:List cE)(L:Nat->List Int)(b:Nat):Nat->List Int:=match bs[b]? with
 |none=>L
 |some x=>(nextR x.fin).foldl (fw b) L
def cw(bs:List cE)(k:Nat):Nat->List Int:=(range k).foldl (qX bs) fun _=>[]
def lq(bs:List cE):List (List Int):=(range bs.length).map (cw bs bs.length)
def di(L:List (List Int)):D:=.sl (L.map aX) L.length
theorem Fs(L:List (List Int)):Tr (di L):=.sl (.map fun _=>ew _)
theorem Qz{F:Nat->List Int}{n:Nat}:(D.sl ((range n).map fun i=>.sl ((F i).map I) ((F i).map I).length) n)=di ((range n).map F):=by
 unfold di;rw[List.map_map,List.length_map,List.length_range];congr 1;exact List.map_congr_left fun i _=>by simp[aX]
theorem IT{b:Nat}{L:Nat->List Int}{t:Int}{c:Nat}(h:∀ i,(L i).length<=c):∀ i,(fw b L t i).length<=c+1:=fun i=>by
 unfold fw;simp only[up];split
 .have:=h t.toNat;simp;omega
 .have:=h i;omega
theorem SK{L:Nat->List Int}{k:Nat}{l:List Int}:(fun i=>(up L k l i).map I)=up (fun i=>(L i).map I) k (l.map I):=by
 funext i;simp only[up];split<;>rfl
theorem nU{P:Nat->Bool}{n k:Nat}(hk:k<n)(h:P k=false):(range n).all P=false:=by
 refine Bool.eq_false_iff.2 fun ht=>?_;have:=b7.1 ht k (by simpa using hk);rw[h] at this;cases this
theorem k9{P:Nat->Bool}{k:Nat}(h:(range k).all P=true)(hk:P k=true):(range (k+1)).all P=true:=by
 rw[List.range_succ,List.all_append,h];simp[hk]
abbrev ld(l:List Bool):D:=.sl (l.map B) l.length
def lS:cE:=⟨[],⟨0,0,0,0,0,.empty,ez,[],[],0⟩⟩
def su(bs:List cE)(s:CS)(b:Nat)(y:bS)(i:Nat):Bool:=
 let p:=((cw bs bs.length b).getD i 0).toNat
 !(s.re.getD p false)||kD (gD (bs.getD p lS).fin b (jf (bs.getD p lS) (s.aP.getD p [])).1) (y.args.getD i 0).toNat
def uw(bs:List cE)(s:CS)(b:Nat)(y:bS):Bool:=(range (cw bs bs.length b).length).all (su bs s b y)
def cx(y:bS):Bool:=y.op==19
def qK(bs:List cE)(s:CS)(b:Nat):Bool:=
 !(s.re.getD b false)||((jf (bs.getD b lS) (s.aP.getD b [])).2&&((bs.getD b lS).ins.takeWhile cx).all (uw bs s b))
def vH(bs:List cE)(args:Nat):Bool:=(range bs.length).all (qK bs (iq bs args))
theorem takeWhile_eq{α:Type}{p:α->Bool}{l:List α}{j:Nat}(h:∀ y∈l.take j,p y=true)(h':∀ y,l[j]? =some y->p y=false):l.takeWhile p=l.take j:=by
 induction l generalizing j with
 |nil=>simp
 |cons a l ih=>cases j with
  |zero=>have:=h' a rfl;simp[this]
  |succ j=>
   have ha:=h a oS;rw[List.takeWhile_cons,if_pos ha,List.take_succ_cons,ih (j:=j) (fun y hy=>h y (by simp[hy])) (fun y hy=>h' y (by simpa using hy))]
theorem OY{b:Nat}{p:Int}:∀ {l:List Int} {L:Nat->List Int} {i:Nat},p∈(l.foldl (fw b) L) i↔p∈L i\/(p=b/\∃ t∈l,t.toNat=i)
 |[],L,i=>by simp
 |t::l,L,i=>by
  rw[List.foldl_cons,OY (l:=l)];unfold fw;simp only[up];by_cases h:i=t.toNat
  .subst h;simp only[if_true,List.mem_append,List.mem_singleton];constructor
   .rintro((h|h)|⟨h,u,h1,h2⟩)
    .exact .inl h
    .exact .inr ⟨h,t,oS,rfl⟩
    .exact .inr ⟨h,u,by simp[h1],h2⟩
   .rintro(h|⟨h,u,h1,h2⟩)
    .exact .inl (.inl h)
    .exact .inl (.inr h)
  .rw[if_neg h];constructor
   .rintro(h'|⟨h',u,h1,h2⟩)
    .exact .inl h'
    .exact .inr ⟨h',u,by simp[h1],h2⟩
   .rintro(h'|⟨h',u,h1,h2⟩)
    .exact .inl h'
    .rcases List.mem_cons.1 h1 with e|e
     .subst e;exact absurd h2.symm h
     .exact .inr ⟨h',u,e,h2⟩
theorem IU{bs:List cE}{p:Int}{i:Nat}:∀ {k:Nat},p∈cw bs k i↔∃ b:Nat,p=b/\b<k/\∃ x,bs[b]? =some x/\∃ t∈nextR x.fin,t.toNat=i
 |0=>by simp[cw]
 |k+1=>by
  have ih:=IU (bs:=bs) (p:=p) (i:=i) (k:=k);have e:cw bs (k+1)=qX bs (cw bs k) k:=by rw[cw,List.range_succ,List.foldl_append];rfl
  rw[e,qX];cases hx:bs[k]? with
  |none=>
   simp only;rw[ih];constructor
   .rintro⟨b,h1,h2,C⟩;exact⟨b,h1,oG,C⟩
   .rintro⟨b,h1,h2,x,C,J⟩;refine⟨b,h1,?_,x,C,J⟩;rcases Nat.lt_or_ge b k with g|g
    .exact g
    .have:b=k:=by omega
     subst this;rw[hx] at C;cases C
  |some x=>
   simp only;rw[OY,ih];constructor
   .rintro(⟨b,h1,h2,C⟩|⟨h1,h2⟩)
    .exact⟨b,h1,oG,C⟩
    .exact⟨k,h1,oG,x,hx,h2⟩
   .rintro⟨b,h1,h2,M,C,J⟩;rcases Nat.lt_or_ge b k with g|g
    .exact .inl ⟨b,h1,g,M,C,J⟩
    .have:b=k:=by omega
     subst this;rw[hx] at C;cases C;exact .inr ⟨h1,J⟩
theorem OD{bs:List cE}{n:Nat}(hb:∀ b∈bs,sP n b):∀ (k:Nat) {s:CS},fX n s->fX n (mr bs k s)
 |0,_,h=>h
 |k+1,s,h=>by
  rw[mr];split
  .exact OD hb k (BZ hb h).1
  .exact(BZ hb h).1
theorem aah{bs:List cE}{args:Nat}(hb:∀ b∈bs,sP bs.length b)(C:∀ u∈iM args,dW u):fX bs.length (iq bs args):=OD hb _ (ID C)
theorem PD{b:Nat}:∀ {l:List Int} {L:Nat->List Int} {c:Nat},(∀ i,(L i).length<=c)->∀ i,((l.foldl (fw b) L) i).length<=c+l.length
 |[],_,_,h,i=>h i
 |t::l,L,c,h,i=>by
  have:=PD (b:=b) (l:=l) (IT (t:=t) (b:=b) h) i;rw[List.foldl_cons,List.length_cons];omega
theorem IV{bs:List cE}(C:∀ b∈bs,b.fin.aJ.length<=10):∀ (k i:Nat),(cw bs k i).length<=13*k
 |0,_=>by simp[cw]
 |k+1,i=>by
  have ih:=IV C k;have e:cw bs (k+1)=qX bs (cw bs k) k:=by rw[cw,List.range_succ,List.foldl_append];rfl
  rw[e,qX];cases hx:bs[k]? with
  |none=>have:=ih i;simp only;omega
  |some x=>
   have h1:=PD (l:=nextR x.fin) (b:=k) ih i;have h2:=Fb x.fin;have J:=C x (cX hx);simp only;omega
theorem OZ{bs:List cE}{n k:Nat}(hn:bs.length=n)(hk:k<n):(lq bs)[k]? =some (cw bs n k):=by
 subst hn;simp[lq,hk]
end Go.Argus
namespace Go.Proofs.Tryz.K
theorem BP{p q:D}{f:bd}{n:Nat}(hp:Tr p)(hq:Tr q)(gi:p.one=true)(eS:q.one=true)(hn:f.blocks.length=n)(pH:n<=100000)(hw:∀ b∈f.blocks,b.fin.aJ.length<=9)(ht:∀ b∈f.blocks,∀ t∈nextR b.fin,0<=t/\t<n):
 ax prog 93 [.agg (bu p q f)] (di (lq f.blocks)):=by
 have br:∀ a∈[D.agg (bu p q f)],Tr a:=.cons (my hp hq f) .nil;refine bP ahc br (Fs _) ?_;rw[ahd];refine aE ?_;refine af ?_;refine ab (bj (cr [(0,bu p q f,93)] eH (l:=[(1,.pt (bu p q f))]) eH) (aE ?_));refine a7 ?_;refine cM (Cf rfl rfl V.h V.h) ak ⟨oG,rfl,oG,by rw[NH];omega,V.h⟩ ?_;refine SS ?_;have dN:((f.blocks.length:Nat):Int).toNat=n:=hn;refine ab (bj (bc (l:=[(1,.pt (bu p q f)),(3,.rs 1 0 n)]) (ml:=[(1,.cells (replicate n .z) 35)]) ⟨rfl,congrArg (fun k=>D.rs 1 0 k) dN,trivial⟩ ⟨?_,trivial⟩) (aV (aE ?_)))
 .exact congrArg (fun c=>some (Row.cells c 35)) ((congrArg (fun k=>dq k [D.z]) dN).trans (RD n))
 refine bH ?_
 refine ab (dA (fun s=>∃ m nx ρ,aR prog s ⟨aH [(3,.rs 1 0 n)],m,nx⟩/\nT m nx 1 n 35 3 ρ (fun i=>(cw f.blocks n i).map I)) (iK (α:=Nat×Mem×Nat)
  (fun k=>⟨aH [(1,.pt (bu p q f)),(3,.rs 1 0 n),(15,gl f.blocks),(16,I n),(17,I k.1)],k.2.1,k.2.2⟩)
  (fun k=>k.1<=n/\(∃ ρ,nT k.2.1 k.2.2 1 n 35 3 ρ (fun i=>(cw f.blocks k.1 i).map I))/\∀ i,(cw f.blocks k.1 i).length<=12*k.1) (fun k=>n - k.1) (0,aby [(1,.cells (replicate n .z) 35)],2)
  (aq ⟨rfl,rfl,rfl,congrArg (fun k:Nat=>I k) hn,rfl,trivial⟩) ⟨Nat.zero_le _,⟨fun _=>0,Qy (show 1<2 by decide) rfl⟩,fun _=>bO _⟩ ?_) ?_)
 .rintro⟨k,m,nx⟩ ⟨hk,⟨ρ,C⟩,hlen⟩;dsimp only at hk C hlen ⊢;have aD:=C.row;have dZ:=C.zu;refine SS ?_;refine ab ⟨_,rfl,fun h=>?_,fun h=>?_⟩
  .have aj:k<n:=by simpa using h
   have hx:f.blocks[k]? =some f.blocks[k]:=bB oG;have U:f.blocks[k]∈f.blocks:=df _;generalize f.blocks[k]=x at hx U
   have X:cw f.blocks (k+1)=(nextR x.fin).foldl (fw k) (cw f.blocks k):=by
    rw[cw,List.range_succ,List.foldl_append];show qX f.blocks _ k=_;rw[qX,hx];rfl
   generalize cw f.blocks k=L0 at C hlen aD X;refine ws ?_;refine cY ?_;have ve:=ve (x:=x.fin);have vf:=TS (x:=x.fin) (hw x U)
   change ax _ _ _ (aX (nextR x.fin)) at vf
   have fM:=ht x U;have jz:=Fb x.fin;have VG:=hw x U;generalize nextR x.fin=l at vf fM jz X;refine ab (aE ?_);refine ao (nV rfl (au _ _ _) V.h) ak (iT V.h) ?_;refine ao (dP (vs:=bA _) rfl (au _ _ _) V.h V.h rfl) ak (dQ V.h V.h (by first|(simp;done)|omega|exact bg rfl)) ?_;refine cl ve ?_;refine cl vf ?_;refine af ?_
   refine ab (iK (α:=Nat×Mem×Nat)
    (fun j=>⟨aH [(1,.pt (bu p q f)),(3,.rs 1 0 n),(4,I k),(15,gl f.blocks),(16,I n),(17,I k),(25,aX l),(26,I l.length),(27,I j.1)],j.2.1,j.2.2⟩)
    (fun j=>j.1<=l.length/\(∃ ρ,nT j.2.1 j.2.2 1 n 35 3 ρ (fun i=>((l.take j.1).foldl (fw k) L0 i).map I))/\∀ i,((l.take j.1).foldl (fw k) L0 i).length<=12*k+j.1) (fun j=>l.length - j.1) (0,up m nx (some (.cells (gR x) 69)),nx+1)
    (tL eH (uv _ _ _ _)) ⟨Nat.zero_le _,⟨ρ,C.ext (fun q hq=>aM oG rfl) oM⟩,hlen⟩ ?_)
   clear C aD hlen;rintro⟨j,m,nx⟩ ⟨hj,⟨ρ,C⟩,hlen⟩;dsimp only at hj C hlen ⊢;have aD:=C.row;have dZ:=C.zu;have O:∀ t,l[j]? =some t->(l.take (j+1)).foldl (fw k) L0=fw k ((l.take j).foldl (fw k) L0) t:=fun t ht=>pT ht;have q8:j=l.length->(l.take j).foldl (fw k) L0=cw f.blocks (k+1):=fun e=>by rw[X,dO oG]
   generalize (l.take j).foldl (fw k) L0=L at C hlen aD O q8;refine SS ?_;refine ab ⟨_,rfl,fun h=>?_,fun h=>?_⟩
   .have DD:j<l.length:=by simpa using h
    have En:l[j]? =some l[j]:=bB DD;have rW:=fM _ (df DD);generalize l[j]=t at En rW;obtain⟨i,rfl⟩:=ic rW.1;have J:i<n:=by omega
    have hL:=hlen i;have O:(l.take (j+1)).foldl (fw k) L0=up L i (L i++[(k:Int)]):=O _ En
    have sO:∀ i,((l.take (j+1)).foldl (fw k) L0 i).length<=12*k+(j+1):=fun a=>by
     rw[O];exact IT (t:=(i:Int)) hlen a
    have Eo:(fun a=>((l.take (j+1)).foldl (fw k) L0 a).map I)=up (fun a=>(L a).map I) i ((L i++[(k:Int)]).map I):=by rw[O];exact SK
    obtain⟨cs,kd⟩:=Qx (ρ:=ρ) (L:=fun i=>(L i).map I) J;refine ws ?_;refine aB ?_;refine ab (kp ?_);by_cases hz:L i=[]
    .have zw:jc (ρ i) ((L i).map I)=.z:=by rw[hz];rfl
     rw[zw] at kd;refine SN9 ?_;refine ao (p7 rfl rfl (aM oG (aM oG aD)) V.h V.h) ak ⟨V.h,oG⟩ ?_;refine dJ (mo (d:=.rs _ _ _) (cs':=_) rfl rfl (aM oG (aM oG aD)) rfl rfl) ak (eU V.h V.h (by first|(simp;done)|exact⟨rfl,bg rfl⟩|(simp;omega)) rfl) ?_;refine ab ?_;refine af ?_;refine ab (bD (j+1,up (up (up m nx (some (.cells [I k] 3))) (nx+1) (some (.cells [I k] 3))) 1 (some (.cells ((px ρ (fun i=>(L i).map I) n).set i (.rs (nx+1) 0 1)) 35)),nx+2) (aq eH) ⟨oM,⟨up ρ i (nx+1),?_⟩,sO⟩ oM);dsimp only;rw[Eo];refine C.H6 J oS oG oG ?_ ?_ (fun q hq xj _=>?_)
     .rw[hz];exact au _ _ _
     .rw[hz];exact aM oG (au _ _ _)
     .exact aM oG (aM oG (aM oG rfl))
    .have M:(L i).map I≠[]:=by simpa using hz
     have zw:jc (ρ i) ((L i).map I)=.rs (ρ i) 0 (L i).length:=by rw[Db M,List.length_map]
     rw[zw] at kd;have CW:=C.DC i J M;have hρn:=C.lt i J M;have hρ1:=C.ne i J M;refine SN9 ?_;refine ao (p7 rfl rfl (aM oG (aM oG (aM oG aD))) V.h V.h) ak ⟨V.h,oG⟩ ?_;refine dJ (mo (d:=.rs _ _ _) (cs':=_) rfl rfl (aM oG (aM oG (aM oG aD))) rfl rfl) ak (eU V.h V.h (by first|(simp;done)|exact⟨rfl,bg rfl⟩|(simp;omega)) rfl) ?_;refine ab ?_;refine af ?_;refine ab (bD (j+1,up (up (up (up m nx (some (.cells [I k] 3))) (ρ i) none) (nx+1) (some (.cells ((L i).map I++[I k]) 3))) 1 (some (.cells ((px ρ (fun i=>(L i).map I) n).set i (.rs (nx+1) 0 ((L i).length+1))) 35)),nx+2) (aq eH) ⟨oM,⟨up ρ i (nx+1),?_⟩,sO⟩ oM);dsimp only;rw[Eo];refine C.H6 J oS oG oG ?_ ?_ (fun q hq xj pG=>?_)
     .rw[List.length_map,List.length_append];exact au _ _ _
     .rw[List.map_append];exact aM oG (au _ _ _)
     .have:=pG M;exact aM oG (aM oG (aM oG (aM oG rfl)))
   .have bL:¬ j<l.length:=by simpa using h
    have vl:=q8 oG;subst vl;show aw _ _ _ _ _ _ _ _ _;refine af ?_;refine ab (bD (k+1,m,nx) (aq eH) ⟨oM,⟨ρ,C⟩,fun i=>by have:=hlen i;dsimp only at this ⊢;omega⟩ oM)
  .have bL:¬ k<n:=by simpa using h
   have:k=n:=by omega
   subst this;exact⟨m,nx,ρ,aq eH,C⟩
 .rintro s ⟨m,nx,ρ,hg,C⟩;have xh:¬ ∃ i,i<n/\(cw f.blocks n i).map I≠[]/\ρ i=1:=fun⟨i,h1,h2,h3⟩=>C.ne i h1 h2 h3;refine⟨_,hg.trans (PC (l:=[(3,.rs 1 0 n)]) (ml:=[]) (fun r=>∃ i,i<n/\(cw f.blocks n i).map I≠[]/\ρ i=r) C (fun _=>.map) c3 (fun i h1 h2=>⟨i,h1,h2,rfl⟩) xh ⟨rfl,trivial⟩ (fun x hx=>?_) trivial (fun x hx=>by cases hx)),aE ?_⟩
  .simp at hx;subst hx;exact .rs xh
  refine af ?_;refine ab (bj (cr [(1,_,35)] eH (l:=[(2,di (lq f.blocks))]) ⟨?_,trivial⟩) (ap rfl rfl));show sub (dG 1 _ (prog.cellsOf 35)) (D.rs 1 0 n)=_;rw[zX (by rw[jY];simp),Qz,lq,hn]
theorem H8{p q:D}{f:bd}{n args:Nat}(hp:Tr p)(hq:Tr q)(gi:p.one=true)(eS:q.one=true)(hn:f.blocks.length=n)(oI:0<n)(pH:n<=100000)(ha:f.args=args)(rO:args<=1000)(BM:∀ u∈iM args,dW u)(hb:∀ b∈f.blocks,sP n b)
 (yR:∀ b x,f.blocks[b]? =some x->∀ y∈x.ins,y.op=19->y.args.length=(cw f.blocks n b).length/\∀ r∈y.args,0<=r/\r<1280):
 ax prog 62 [.agg (bu p q f)] (B (vH f.blocks args)):=by
 have br:∀ a∈[D.agg (bu p q f)],Tr a:=.cons (my hp hq f) .nil;have A9:=A9 hp hq gi eS hn oI pH ha rO BM hb;have BP:=BP hp hq gi eS hn pH (fun b h=>(hb b h).fin.wh) (fun b h=>(hb b h).to);have UN:fX n (iq f.blocks args):=by subst hn;exact aah hb BM
 refine bP ahk br (.s _) ?_;rw[ahl];refine aE ?_;refine af ?_;refine ab (bj (cr [(0,bu p q f,93)] eH (l:=[(1,.pt (bu p q f))]) eH) ?_);have mI:vH f.blocks args=(range n).all (qK f.blocks (iq f.blocks args)):=by rw[vH,hn]
 rw[mI];clear mI;generalize iq f.blocks args=R at A9 UN ⊢;obtain⟨lw,lr,jX,rg⟩:=UN;have A9:ax prog 144 [.agg (bu p q f)] (.bp [.sl (c6 R.aP) n,ld R.re]):=by unfold ld;rw[lr];exact A9
 show AW _ _ _ _ (Ko _) _;refine ws ?_;refine SS ?_;refine cl A9 ?_;refine SS ?_;refine ao (vB (v:=.sl _ _) rfl rfl) ak (by first|decide|simp) ?_;refine ao (vB (v:=.sl _ _) rfl rfl) ak (by first|decide|simp) ?_;refine af ?_;refine ab (aE ?_);refine SS ?_;refine cl BP ?_;refine SS ?_;refine ab (bj (hP (l:=[(1,.pt (bu p q f)),(3,.sl (c6 R.aP) n),(4,ld R.re),(5,di (lq f.blocks))]) eH) (W5 (aV (aE ?_))));refine bH ?_
 refine ab (dA (fun s=>(range n).all (qK f.blocks R)=true) (iK (α:=Nat×Nat)
  (fun k=>⟨aH [(1,.pt (bu p q f)),(3,.sl (c6 R.aP) n),(4,ld R.re),(5,di (lq f.blocks)),(25,gl f.blocks),(26,I n),(27,I k.1)],fun _=>none,k.2⟩)
  (fun k=>k.1<=n/\(range k.1).all (qK f.blocks R)=true) (fun k=>n - k.1) (0,1) (hP ⟨rfl,rfl,rfl,rfl,rfl,congrArg (fun k:Nat=>I k) hn,rfl,trivial⟩) ⟨Nat.zero_le _,rfl⟩ ?_) ?_)
 .rintro⟨k,N⟩ ⟨hk,U⟩;dsimp only at hk U ⊢;refine SS ?_;refine ab ⟨_,rfl,fun h=>?_,fun h=>?_⟩
  .have aj:k<n:=by simpa using h
   have hx:f.blocks[k]? =some f.blocks[k]:=bB oG;have dz:f.blocks[k]∈f.blocks:=df _;generalize f.blocks[k]=x at hx dz;have jb:=hb x dz;have rY:=yR k x hx;have hw:R.aP[k]? =some R.aP[k]:=bB oG;have oL:R.re[k]? =some R.re[k]:=bB oG;have mh:=jX _ (df (h:=by omega):R.aP[k]∈R.aP)
   have M:qK f.blocks R k=(!R.re[k]||((jf x R.aP[k]).2&&(x.ins.takeWhile cx).all (uw f.blocks R k))):=by
    rw[qK,getD_some hw,getD_some oL,getD_some hx]
   generalize R.aP[k]=w at hw mh M;generalize R.re[k]=b at oL M;refine aE ?_;refine cY ?_;refine ab (bj (sj (i:=N) (l:=[(1,.pt (bu p q f)),(3,.sl (c6 R.aP) n),(4,ld R.re),(5,di (lq f.blocks)),(6,I k),(7,.pt (gR x)),(25,gl f.blocks),(26,I n),(27,I k)]) (au _ _ _) ⟨rfl,rfl,rfl,rfl,rfl,nt,rfl,rfl,rfl,trivial⟩) (aV (al ?_)));refine bH ?_;refine ab (dI rfl (fun h=>sd (Ay ?_)) fun h=>dL (aV (tI aai ?_)))
   .have Ee:b=false:=by simpa using h
    subst Ee;refine af ?_;refine ab (bD (k+1,N+1) (hP eH) ⟨oM,k9 U (by rw[M];rfl)⟩ oM)
   have NE:b=true:=by simpa using h
   subst NE;have nF:=nF mh jb.len jb.ins jb.fin jb.rl jb.rf;have uJ:=Iv x w;rw[mh] at uJ;generalize jf x w=th at nF M uJ;obtain⟨w1,ok⟩:=th;dsimp only at nF M uJ;refine aB ?_;refine ao (SL rfl rfl V.h V.h oN oN) ak (SM V.h oN oN oG) ?_;refine ao (ki rfl V.h V.h (QA oN)) ak (ko V.h V.h oP) ?_;refine cl nF ?_;refine cY ?_;refine bX bY (bj (hP (l:=[(1,.pt (bu p q f)),(3,.sl (c6 R.aP) n),(4,ld R.re),(5,di (lq f.blocks)),(6,I k),(7,.pt (gR x)),(9,B ok),(25,gl f.blocks),(26,I n),(27,I k)]) eH) (aV (al ?_)));refine af ?_;refine ab (dI rfl (fun h=>?_) fun h=>dL (aE ?_))
   .have c7:ok=false:=by simpa using h
    subst c7;refine aV (al ?_);refine SS ?_;refine ab (fN (dp (aY (JY (ap (d:=B false) rfl ?_)))));rw[nU aj (by rw[M];rfl)]
   have c7:ok=true:=by simpa using h
   subst c7;have M:qK f.blocks R k=(x.ins.takeWhile cx).all (uw f.blocks R k):=M;refine a7 ?_;have jz:=jb.len
   refine ab (iK (α:=Nat×Nat)
    (fun j=>⟨aH [(1,.pt (bu p q f)),(3,.sl (c6 R.aP) n),(4,ld R.re),(5,di (lq f.blocks)),(6,I k),(25,gl f.blocks),(26,I n),(27,I k),(49,iL x.ins),(50,I x.ins.length),(51,I j.1)],fun _=>none,j.2⟩)
    (fun j=>j.1<=x.ins.length/\(∀ y∈x.ins.take j.1,cx y=true)/\(x.ins.take j.1).all (uw f.blocks R k)=true) (fun j=>x.ins.length - j.1) (0,_) (hP eH) ⟨Nat.zero_le _,oS,oS⟩ ?_)
   rintro⟨j,N⟩ ⟨hj,A',DF⟩;dsimp only at hj A' DF ⊢;refine SS ?_;refine ab ⟨_,rfl,fun h=>?_,fun h=>?_⟩
   .have dZ:j<x.ins.length:=by simpa using h
    have hy:x.ins[j]? =some x.ins[j]:=bB dZ;have Ei:x.ins[j]∈x.ins:=df dZ;generalize x.ins[j]=y at hy Ei;refine aE ?_;refine a7 ?_;refine ab (bj (sj (i:=N) (l:=[(1,.pt (bu p q f)),(3,.sl (c6 R.aP) n),(4,ld R.re),(5,di (lq f.blocks)),(6,I k),(11,.pt (bF y)),(25,gl f.blocks),(26,I n),(27,I k),(49,iL x.ins),(50,I x.ins.length),(51,I j)]) (au _ _ _) ⟨rfl,rfl,rfl,rfl,rfl,nt,rfl,rfl,rfl,rfl,rfl,rfl,trivial⟩) (aV (al ?_)));refine aB ?_;refine ab (dI rfl (fun h=>sd (ac4 oC oC (Ay ?_))) fun h=>dL (aE ?_))
    .have a8:y.op≠19:=by simpa using h
     refine af ?_;refine ab (bD (k+1,_) (hP eH) ⟨oM,k9 U ?_⟩ oM);rw[M,takeWhile_eq A' (fun y' h'=>by rw[hy] at h';cases h';simpa[cx] using a8)];exact DF
    have fe:y.op=19:=by simpa using h
    obtain⟨zx,NI⟩:=rY y Ei fe;have hA:=OZ hn aj
    have Ep:∀ p∈cw f.blocks n k,∃ C:Nat,p=C/\C<n:=fun p hp=>by
     obtain⟨b,h1,h2,_⟩:=IU.1 hp;exact⟨b,h1,h2⟩
    have NJ:uw f.blocks R k y=(range (cw f.blocks n k).length).all (su f.blocks R k y):=by rw[uw,hn]
    have J:∀ i,su f.blocks R k y i=(!(R.re.getD ((cw f.blocks n k).getD i 0).toNat false)||kD (gD (f.blocks.getD ((cw f.blocks n k).getD i 0).toNat lS).fin k (jf (f.blocks.getD ((cw f.blocks n k).getD i 0).toNat lS) (R.aP.getD ((cw f.blocks n k).getD i 0).toNat [])).1) (y.args.getD i 0).toNat):=fun i=>by rw[su,hn]
    have NK:=IV (fun b h=>Nat.le_trans (hb b h).fin.wh oC) n k;generalize cw f.blocks n k=A at zx hA Ep NJ J NK
    have acv:∀ i,i<A.length->su f.blocks R k y i=false->(range n).all (qK f.blocks R)=false:=fun i hi he=>by
     refine nU aj ?_;rw[M];refine Bool.eq_false_iff.2 fun ht=>?_
     have ahm:y∈x.ins.takeWhile cx:=by
      have:x.ins.take (j+1)=x.ins.take j++[y]:=by rw[List.take_add_one,hy];rfl
      have h2:x.ins=x.ins.take (j+1)++x.ins.drop (j+1):=(List.take_append_drop _ _).symm;rw[h2,this,List.takeWhile_append_of_pos]
      .simp
      .intro z hz;rcases List.mem_append.1 hz with h|h
       .exact A' z h
       .rw[List.mem_singleton.1 h];simp[cx,fe]
     have:=b7.1 ht y ahm;rw[NJ,nU hi he] at this;cases this
    refine cY ?_
    refine ab (iK (α:=Nat×Nat)
     (fun i=>⟨aH [(1,.pt (bu p q f)),(3,.sl (c6 R.aP) n),(4,ld R.re),(5,di (lq f.blocks)),(6,I k),(11,.pt (bF y)),(25,gl f.blocks),(26,I n),(27,I k),(49,iL x.ins),(50,I x.ins.length),(51,I j),(61,aX A),(62,I A.length),(63,I i.1)],fun _=>none,i.2⟩)
     (fun i=>i.1<=A.length/\(range i.1).all (su f.blocks R k y)=true) (fun i=>A.length - i.1) (0,_) (hP eH) ⟨Nat.zero_le _,rfl⟩ ?_)
    rintro⟨i,N⟩ ⟨hi,LB⟩;dsimp only at hi LB ⊢;refine SS ?_;refine ab ⟨_,rfl,fun h=>?_,fun h=>?_⟩
    .have qz:i<A.length:=by simpa using h
     have VJ:A[i]? =some A[i]:=bB qz;obtain⟨C,Er,mf⟩:=Ep _ (df qz);rw[Er] at VJ;clear Er;have tB:f.blocks[C]? =some f.blocks[C]:=bB oG;have py:f.blocks[C]∈f.blocks:=df _;have VK:R.aP[C]? =some R.aP[C]:=bB oG;have VL:R.re[C]? =some R.re[C]:=bB oG;have MM:=jX _ (df (h:=by omega):R.aP[C]∈R.aP);have NL:y.args[i]? =some y.args[i]:=bB oG;have xg:=NI _ (df (h:=by omega):y.args[i]∈y.args);have J:=J i;rw[getD_some VJ,dX,getD_some tB,getD_some VK,getD_some VL,getD_some NL] at J;generalize f.blocks[C]=xp at tB py J;generalize R.aP[C]=wp at VK MM J;generalize R.re[C]=rb at VL J;generalize y.args[i]=r at NL xg J;obtain⟨rn,rfl⟩:=ic xg.1;rw[dX] at J;have X:=hb xp py;have nF:=Go.Proofs.Tryz.K.nF MM X.len X.ins X.fin X.rl X.rf;have DG:=Iv xp wp;rw[MM] at DG;generalize jf xp wp=tp at nF J DG;obtain⟨w2,ok2⟩:=tp;dsimp only at nF J DG;have wD:=wD (x:=xp.fin) (b:=(k:Int)) (w:=w2) DG (by have:=X.fin.wh;omega) (by have:=X.fin.wr;omega);have iD:=Px xp.fin k w2;rw[DG] at iD;generalize gD xp.fin k w2=w3 at wD iD J;have lF:=lF (w:=w3) (m:=rn) iD oG;refine ws ?_;refine bH ?_;refine ab (tI YJ ?_);refine cT ?_;refine ao (SL rfl rfl V.h V.h oN oN) ak (SM V.h oN oN oG) ?_;refine ao (ki rfl V.h V.h (QA oN)) ak (ko V.h V.h oP) ?_;refine cl nF ?_;refine cY ?_;refine bX bY (bj (sj (i:=N) (l:=[(1,.pt (bu p q f)),(3,.sl (c6 R.aP) n),(4,ld R.re),(5,di (lq f.blocks)),(6,I k),(11,.pt (bF y)),(12,I i),(13,I C),(14,.pt (w2.map cU)),(25,gl f.blocks),(26,I n),(27,I k),(49,iL x.ins),(50,I x.ins.length),(51,I j),(61,aX A),(62,I A.length),(63,I i)]) (au _ _ _) ⟨rfl,rfl,rfl,rfl,rfl,rfl,rfl,rfl,nt,rfl,rfl,rfl,rfl,rfl,rfl,rfl,rfl,rfl,trivial⟩) (eF YK ?_))
     have oi:∀ v:Bool,v=su f.blocks R k y i->(v=false->(range n).all (qK f.blocks R)=false)/\(v=true->(range (i+1)).all (su f.blocks R k y)=true):=fun v hv=>by
      subst hv;exact⟨acv i qz,fun h=>k9 LB h⟩
     cases rb with
     |false=>
      obtain⟨_,O⟩:=oi true J.symm;have O:=O rfl;refine SN9 ?_;refine bQ rfl rfl (vO rfl rfl V.h V.h (zW) oN) (fun hc=>⟨ak,(vP V.h (zW) oN)⟩) ?_;refine aB ?_;refine bQ rfl rfl (ki rfl V.h V.h (SN (by first|rfl|exact bg rfl|(simp;done)|(simp;omega)|omega))) (fun hc=>⟨ak,(ko V.h V.h (by first|rfl|exact bg rfl|(simp;done)|(simp;omega)|omega))⟩) ?_;refine gc wD ?_;refine bH ?_;refine gc lF ?_;refine af ?_;refine bX bY (yC rfl (fun h=>oH) fun h=>eC ?_);refine af ?_;refine ab (bD (i+1,_) (hP eH) ⟨oM,O⟩ oM)
     |true=>
      obtain⟨uW,O⟩:=oi (kD w3 rn) J.symm;generalize kD w3 rn=hv at lF uW O;refine SN9 ?_;refine bQ rfl rfl (vO rfl rfl V.h V.h (zW) oN) (fun hc=>⟨ak,(vP V.h (zW) oN)⟩) ?_;refine aB ?_;refine bQ rfl rfl (ki rfl V.h V.h (SN (by first|rfl|exact bg rfl|(simp;done)|(simp;omega)|omega))) (fun hc=>⟨ak,(ko V.h V.h (by first|rfl|exact bg rfl|(simp;done)|(simp;omega)|omega))⟩) ?_;refine gc wD ?_;refine bH ?_;refine gc lF ?_;refine af ?_;refine bX bY (yC rfl (fun h=>?_) fun h=>eC ?_)
      .have hf:hv=false:=by simpa using h
       refine ws ?_;refine SS ?_;refine ab (bh (dp (dp (dp (aY (JY (ap (d:=B false) rfl ?_)))))));rw[uW hf]
      .have ht:hv=true:=by simpa using h
       have O:=O ht;refine af ?_;refine ab (bD (i+1,_) (hP eH) ⟨oM,O⟩ oM)
    .have bL:¬ i<A.length:=by simpa using h
     have hiA:i=A.length:=by omega
     subst hiA;show aw _ _ _ _ _ _ _ _ _;refine af ?_;refine ab (bD (j+1,_) (hP eH) ⟨oM,fun z hz=>?_,?_⟩ oM)
     .dsimp only at hz;rw[List.take_add_one,hy] at hz;rcases List.mem_append.1 hz with h|h
      .exact A' z h
      .rw[List.mem_singleton.1 h];simp[cx,fe]
     .dsimp only;rw[List.take_add_one,hy,List.all_append,DF];simpa[NJ] using LB
   .have bL:¬ j<x.ins.length:=by simpa using h
    have DY:j=x.ins.length:=by omega
    subst DY;show aw _ _ _ _ _ _ _ _ _;refine af ?_;refine ab (bD (k+1,_) (hP eH) ⟨oM,k9 U ?_⟩ oM);rw[List.take_length] at A' DF;rw[M,takeWhile_eq (j:=x.ins.length) (by rw[List.take_length];exact A') (fun y h=>by simp at h),List.take_length];exact DF
  .have bL:¬ k<n:=by simpa using h
   have:k=n:=by omega
   subst this;exact U
 .rintro⟨env,m,nx⟩ U;refine⟨_,.refl _,al ?_⟩;refine SS ?_;refine ab (JY (ap (d:=B true) rfl ?_));rw[U]
end Go.Proofs.Tryz.K
end
