/- Part 24. -/
import Derived.Test.YtnagfmlifobdiaaGreatDoorShareApart22
import Derived.Test.YtnagfmlifobdiaaGreatDoorShareApart23
set_option linter.all false
set_option maxHeartbeats 0
set_option maxRecDepth 10000
noncomputable section
section
open Go Go.Proofs List
namespace Go.Abs
open Go.Proofs.Tryz
def jY(a b:Bool):(if a=true then b else false)=(a&&b):=by cases a<;>rfl
section
variable{f:az}{hd:D}(ht:Tr hd)(dN:hd.one=true)
include ht dN
def UO{x:cq}:aH prog 196 [.agg (cP f hd),.agg (bU x)] (B (oB f x)):=by
 have cL:∀ {r k:Int},aH prog 191 [.agg (cP f hd),I r,U8 k] (B (bZ f r k)):=λ{r k}=>cL ht dN;have zp:∀ {l:List Int},aH prog 193 [.agg (cP f hd),aU l] (B (jC f.aj l)):=λ{l}=>zp ht dN;refine bx (fo f196) (.cons (.agg (Aq ht f)) (.cons (.agg (tP x)) .nil)) (Tr.s _) ?_;refine aA (ax ?_);refine af (br (cH [(0,cP f hd,206),(1,bU x,54)] eH (l:=[(2,.pt (cP f hd)),(3,.pt (bU x))]) eH) (aG (al ?_)));refine ag ?_;refine af (rj (fS (λs=>aP prog s ⟨aD [(2,.pt (cP f hd)),(3,.pt (bU x)),(6,U8 x.op),(7,B (bf [30,31,32,33,34] x.op))],λ_=>none,2⟩) (al ?_) λs hg=>⟨_,hg,?_⟩))
 . (iterate 3 refine ag ?_;refine af (aB rfl (λh=>bV (au ⟨rfl,rfl,rfl,dX h oC,aa⟩)) λ_=>al ?_));refine ag ?_;refine af (aB rfl (λh=>bV (au ⟨rfl,rfl,rfl,dX h oC,aa⟩)) λA6=>nH ?_);refine ag ?_;refine af (au ⟨rfl,rfl,rfl,?_,aa⟩);show D.s (.bool (x.op==34))=_;simp[bf,any_cons,any_nil,A6,Bool.false_or,Bool.or_false, *]
 refine aB rfl (λh0=>al ?_) λh0=>al ?_
 .have c7:aH prog 190 [.agg (bU x),S ⟨#[116,97,98]⟩] (B (cO x [116,97,98])):=c7 oC;refine SS ?_;refine cl c7 ?_;refine aQ ?_;refine gc cL ?_;refine bh ?_;refine gc cL ?_;refine bh ?_;refine gc cL ?_;refine ag ?_;refine af (bj (cA (aY (aC (d:=.s (.bool _)) rfl ?_))));have e:oB f x=(cO x [116,97,98]&&(bZ f x.to 119&&(bZ f x.a 119&&bZ f x.b 119))):=by rw[oB,bi h0]
  rw[e];simp only[jY,Bool.and_assoc,bm]
 refine ag ?_;refine af (aB rfl (λh1=>al ?_) λh1=>al ?_)
 .have c7:aH prog 190 [.agg (bU x),S ⟨#[97,98]⟩] (B (cO x [97,98])):=c7 oC;refine SS ?_;refine cl c7 ?_;refine aQ ?_;refine gc cL ?_;refine bh ?_;refine gc cL ?_;refine ag ?_;refine af (bj (cA (aY (aC (d:=.s (.bool _)) rfl ?_))));have e:oB f x=(cO x [97,98]&&(bZ f x.a 114&&bZ f x.b 118)):=by rw[oB,ai (by rw[h0];decide),bi (by simpa using h1)]
  rw[e];simp only[jY,Bool.and_assoc,bm]
 have h1:¬ x.op=35:=s0 h1
 refine ag ?_;refine af (aB rfl (λh2=>al ?_) λh2=>al ?_)
 .have c7:aH prog 190 [.agg (bU x),S ⟨#[116,97]⟩] (B (cO x [116,97])):=c7 oC;refine SS ?_;refine cl c7 ?_;refine aQ ?_;refine gc cL ?_;refine bh ?_;refine gc cL ?_;refine ag ?_;refine af (bj (cA (aY (aC (d:=.s (.bool _)) rfl ?_))));have e:oB f x=(cO x [116,97]&&(bZ f x.to 118&&bZ f x.a 114)):=by rw[oB,ai (by rw[h0];decide),ai h1,bi (by simpa using h2)]
  rw[e];simp only[jY,Bool.and_assoc,bm]
 have h2:¬ x.op=36:=s0 h2
 refine ag ?_;refine af (aB rfl (λC=>al ?_) λC=>al ?_)
 .have c7:aH prog 190 [.agg (bU x),S ⟨#[116,97,98]⟩] (B (cO x [116,97,98])):=c7 oC;refine SS ?_;refine cl c7 ?_;refine aQ ?_;refine gc cL ?_;refine bh ?_;refine gc cL ?_;refine bh ?_;refine gc cL ?_;refine ag ?_;refine af (bj (cA (aY (aC (d:=.s (.bool _)) rfl ?_))));have e:oB f x=(cO x [116,97,98]&&(bZ f x.to 118&&(bZ f x.a 114&&bZ f x.b 119))):=by rw[oB,ai (by rw[h0];decide),ai h1,ai h2,bi (by simpa using C)]
  rw[e];simp only[jY,Bool.and_assoc,bm]
 have C:¬ x.op=37:=s0 C
 refine ag ?_;refine af (aB rfl (λJ=>al ?_) λJ=>qw (al ?_))
 .have c7:aH prog 190 [.agg (bU x),S ⟨#[97,98,108]⟩] (B (cO x [97,98,108])):=c7 oC;refine SS ?_;refine cl c7 ?_;refine aQ ?_;refine gc cL ?_;refine bh ?_;refine gc cL ?_;refine aX ?_;refine ag ?_;refine gc zp ?_;refine ag ?_;refine af (bj (cA (aY (aC (d:=.s (.bool _)) rfl ?_))));have e:oB f x=(cO x [97,98,108]&&(bZ f x.a 114&&(bZ f x.b 119&&(bm x.args.length 1&&jC f.aj x.args)))):=by rw[oB,ai (by rw[h0];decide),ai h1,ai h2,ai C,bi (by simpa using J)]
  rw[e];simp only[jY,Bool.and_assoc,bm];rfl
 have J:¬ x.op=38:=s0 J
 refine SS ?_;refine af (aC (d:=.s (.bool _)) rfl ?_);rw[oB,ai (by rw[h0];decide),ai h1,ai h2,ai C,ai J]
end
def xG{f:az}{L:List (List Int)}{b:Nat}{A:List Int}{x:cq}(hb:L[b]? =some A)(hl:f.a6.length<=60)(hs:∀ k∈f.a6,k=1\/k=2)(hL:L.length<=100000):
 aH prog 139 [.agg (cP f (cr L)),.agg (bU x),I b] (B (fu f b A.length x)):=by
 have ht:=nC L;have dN:(cr L).one=true:=rfl;have cL:∀ {r k:Int},aH prog 191 [.agg (cP f (cr L)),I r,U8 k] (B (bZ f r k)):=λ{r k}=>cL ht dN;have D5:∀ {a b:Int},aH prog 192 [.agg (cP f (cr L)),I a,I b] (B (nJ f a b)):=λ{a b}=>D5 ht dN;have zp:∀ {l:List Int},aH prog 193 [.agg (cP f (cr L)),aU l] (B (jC f.aj l)):=λ{l}=>zp ht dN;have N8:∀ {n r:Int},aH prog 194 [.agg (cP f (cr L)),I n,I r] (B (pT f.aj f.a6 r n)):=λ{n r}=>N8 ht dN hl hs;have jN:∀ {n a b:Int},aH prog 188 [I n,I a,I b] (B (eg n a b)):=λ{n a b}=>jN;have bE:∀ a∈[D.agg (cP f (cr L)),.agg (bU x),I b],Tr a:=.cons (.agg (Aq ht f)) (.cons (.agg (tP x)) fp);refine nB (fo f139).he bE λeS=>?_;have hlen:x.args.length<=maxLen:=((eS _ (mem_cons_of_mem _ (mem_cons_self ..))).agg (aU x.args) (by simp[bU])).sl.1;unfold maxLen at hlen;refine bx (fo f139) bE (Tr.s _) ?_;refine aA (ax ?_);refine af (br (cH [(0,cP f (cr L),206),(1,bU x,54)] eH (l:=[(2,I b),(3,.pt (cP f (cr L))),(4,.pt (bU x))]) eH) (aG (al ?_)));refine ag ?_;refine af (rj (ws (ag ?_)));refine af (aB rfl (λh0=>?_) λh0=>?_)
 .apply ws;have c7:aH prog 190 [.agg (bU x),S ⟨#[116,110]⟩] (B (cO x [116,110])):=c7 oC;refine SS ?_;refine cl c7 ?_;refine aQ ?_;refine gc cL ?_;refine aQ ?_;refine gc jN ?_;refine ag ?_;refine af (bj (cA (aY (aC (d:=.s (.bool _)) rfl ?_))));have e:fu f b A.length x=(cO x [116,110]&&(bZ f x.to 119&&eg x.n (-1000000000) 1000000000)):=by rw[fu,bi (by simpa using h0)]
  rw[e];simp only[jY,Bool.and_assoc,bm]
 have h0:¬ x.op=1:=by simpa using h0
 refine ws (ag ?_);refine af (aB rfl (λh1=>?_) λh1=>?_)
 .apply ws;have c7:aH prog 190 [.agg (bU x),S ⟨#[116,97]⟩] (B (cO x [116,97])):=c7 oC;refine SS ?_;refine cl c7 ?_;refine cz ?_;refine gc D5 ?_;refine ag ?_;refine af (bj (cA (aY (aC (d:=.s (.bool _)) rfl ?_))));have e:fu f b A.length x=(cO x [116,97]&&nJ f x.to x.a):=by rw[fu,ai h0,bi (by simpa using h1)]
  rw[e];simp only[jY,Bool.and_assoc,bm]
 have h1:¬ x.op=2:=by simpa using h1
 refine fS (λs=>aP prog s ⟨aD [(2,I b),(3,.pt (cP f (cr L))),(4,.pt (bU x)),(9,U8 x.op),(37,B (bf [3,4,6,7] x.op))],λ_=>none,2⟩) (al ?_) λs hg=>⟨_,hg,?_⟩
 . (iterate 2 refine ag ?_;refine af (aB rfl (λh=>bV (au ⟨rfl,rfl,rfl,rfl,dX h oC,aa⟩)) λ_=>al ?_));refine ag ?_;refine af (aB rfl (λh=>bV (au ⟨rfl,rfl,rfl,rfl,dX h oC,aa⟩)) λe6=>nH ?_);refine ag ?_;refine af (au ⟨rfl,rfl,rfl,rfl,?_,aa⟩);show D.s (.bool (x.op==7))=_;simp[bf,any_cons,any_nil,e6,Bool.false_or,Bool.or_false, *]
 refine aB rfl (λh2=>al ?_) λh2=>?_
 .have c7:aH prog 190 [.agg (bU x),S ⟨#[116,97,98]⟩] (B (cO x [116,97,98])):=c7 oC;refine SS ?_;refine cl c7 ?_;refine aQ ?_;refine gc cL ?_;refine bh ?_;refine gc cL ?_;refine bh ?_;refine gc cL ?_;refine ag ?_;refine af (bj (cA (aY (aC (d:=.s (.bool _)) rfl ?_))));have e:fu f b A.length x=(cO x [116,97,98]&&(bZ f x.to 119&&(bZ f x.a 119&&bZ f x.b 119))):=by rw[fu,ai h0,ai h1,bi h2]
  rw[e];simp only[jY,Bool.and_assoc,bm]
 refine ws (ag ?_);refine af (aB rfl (λC=>?_) λC=>?_)
 .apply ws;have c7:aH prog 190 [.agg (bU x),S ⟨#[116,97,98]⟩] (B (cO x [116,97,98])):=c7 oC;refine SS ?_;refine cl c7 ?_;refine aQ ?_;refine gc cL ?_;refine ek ?_;refine gc D5 ?_;refine ag ?_;refine af (bj (cA (aY (aC (d:=.s (.bool _)) rfl ?_))));have e:fu f b A.length x=(cO x [116,97,98]&&(bZ f x.to 119&&nJ f x.a x.b)):=by rw[fu,ai h0,ai h1,ai (by rw[h2];decide),bi (by simpa using C)]
  rw[e];simp only[jY,Bool.and_assoc,bm]
 have C:¬ x.op=5:=by simpa using C
 refine ws (ag ?_);refine af (aB rfl (λJ=>?_) λJ=>?_)
 .apply ws;have c7:aH prog 190 [.agg (bU x),S ⟨#[116,97]⟩] (B (cO x [116,97])):=c7 oC;refine SS ?_;refine cl c7 ?_;refine aQ ?_;refine gc cL ?_;refine bh ?_;refine gc cL ?_;refine ag ?_;refine af (bj (cA (aY (aC (d:=.s (.bool _)) rfl ?_))));have e:fu f b A.length x=(cO x [116,97]&&(bZ f x.to 119&&bZ f x.a 119)):=by rw[fu,ai h0,ai h1,ai (by rw[h2];decide),ai C,bi (by simpa using J)]
  rw[e];simp only[jY,Bool.and_assoc,bm]
 have J:¬ x.op=8:=by simpa using J
 refine ws (ag ?_);refine af (aB rfl (λM=>?_) λM=>?_)
 .apply ws;have c7:aH prog 190 [.agg (bU x),S ⟨#[116,110]⟩] (B (cO x [116,110])):=c7 oC;refine SS ?_;refine cl c7 ?_;refine aQ ?_;refine gc cL ?_;refine aQ ?_;refine gc jN ?_;refine ag ?_;refine af (bj (cA (aY (aC (d:=.s (.bool _)) rfl ?_))));have e:fu f b A.length x=(cO x [116,110]&&(bZ f x.to 114&&eg x.n 0 1)):=by rw[fu,ai h0,ai h1,ai (by rw[h2];decide),ai C,ai J,bi (by simpa using M)]
  rw[e];simp only[jY,Bool.and_assoc,bm]
 have M:¬ x.op=9:=by simpa using M
 refine ws (ag ?_);refine af (aB rfl (λU=>?_) λU=>?_)
 .apply ws;have c7:aH prog 190 [.agg (bU x),S ⟨#[116,110,108]⟩] (B (cO x [116,110,108])):=c7 oC;refine SS ?_;refine cl c7 ?_;refine aQ ?_;refine gc cL ?_;refine aQ ?_;refine gc jN ?_;refine bh ?_;refine gc jN ?_;refine bh ?_;refine gc zp ?_;refine ag ?_;refine af (bj (cA (aY (aC (d:=.s (.bool _)) rfl ?_))));have e:fu f b A.length x=(cO x [116,110,108]&&(bZ f x.to 114&&(eg x.n 0 5&&(eg x.args.length 1 6&&jC f.aj x.args)))):=by rw[fu,ai h0,ai h1,ai (by rw[h2];decide),ai C,ai J,ai M,bi (by simpa using U)]
  rw[e];simp only[jY,Bool.and_assoc,bm]
 have U:¬ x.op=10:=s0 U
 refine ws (ag ?_);refine af (aB rfl (λX=>?_) λX=>?_)
 .apply ws;have c7:aH prog 190 [.agg (bU x),S ⟨#[116,97,110]⟩] (B (cO x [116,97,110])):=c7 oC;refine SS ?_;refine cl c7 ?_;refine aQ ?_;refine gc cL ?_;refine bh ?_;refine gc cL ?_;refine aQ ?_;refine gc jN ?_;refine ag ?_;refine af (bj (cA (aY (aC (d:=.s (.bool _)) rfl ?_))));have e:fu f b A.length x=(cO x [116,97,110]&&(bZ f x.to 118&&(bZ f x.a 114&&eg x.n 0 5))):=by rw[fu,ai h0,ai h1,ai (by rw[h2];decide),ai C,ai J,ai M,ai U,bi (by simpa using X)]
  rw[e];simp only[jY,Bool.and_assoc,bm]
 have X:¬ x.op=11:=s0 X
 refine ws (ag ?_);refine af (aB rfl (λh8=>?_) λh8=>?_)
 .apply ws;have c7:aH prog 190 [.agg (bU x),S ⟨#[97,98,110]⟩] (B (cO x [97,98,110])):=c7 oC;refine SS ?_;refine cl c7 ?_;refine aQ ?_;refine gc cL ?_;refine bh ?_;refine gc cL ?_;refine aQ ?_;refine gc jN ?_;refine ag ?_;refine af (bj (cA (aY (aC (d:=.s (.bool _)) rfl ?_))));have e:fu f b A.length x=(cO x [97,98,110]&&(bZ f x.a 114&&(bZ f x.b 118&&eg x.n 0 5))):=by rw[fu,ai h0,ai h1,ai (by rw[h2];decide),ai C,ai J,ai M,ai U,ai X,bi (by simpa using h8)]
  rw[e];simp only[jY,Bool.and_assoc,bm]
 have h8:¬ x.op=12:=s0 h8
 refine fS (λs=>aP prog s ⟨aD [(2,I b),(3,.pt (cP f (cr L))),(4,.pt (bU x)),(9,U8 x.op),(180,B (bf [13,14] x.op))],λ_=>none,2⟩) (al ?_) λs hg=>⟨_,hg,?_⟩
 .refine ag ?_;refine af (aB rfl (λh=>bV (au ⟨rfl,rfl,rfl,rfl,dX h oC,aa⟩)) λA2=>nH ?_);refine ag ?_;refine af (au ⟨rfl,rfl,rfl,rfl,?_,aa⟩);show D.s (.bool (x.op==14))=_;simp only[bf,any_cons,any_nil,A2,Bool.false_or,Bool.or_false]
 refine aB rfl (λh9=>al ?_) λh9=>?_
 .have c7:aH prog 190 [.agg (bU x),S ⟨#[116,97]⟩] (B (cO x [116,97])):=c7 oC;refine SS ?_;refine cl c7 ?_;refine aQ ?_;refine gc cL ?_;refine bh ?_;refine gc cL ?_;refine ag ?_;refine af (bj (cA (aY (aC (d:=.s (.bool _)) rfl ?_))));have e:fu f b A.length x=(cO x [116,97]&&(bZ f x.to 119&&bZ f x.a 114)):=by rw[fu,ai h0,ai h1,ai (by rw[h2];decide),ai C,ai J,ai M,ai U,ai X,ai h8,bi h9]
  rw[e];simp only[jY,Bool.and_assoc,bm]
 refine ws (ag ?_);refine af (aB rfl (λqk=>?_) λqk=>?_)
 .apply ws;have c7:aH prog 190 [.agg (bU x),S ⟨#[97]⟩] (B (cO x [97])):=c7 oC;refine SS ?_;refine cl c7 ?_;refine aQ ?_;refine gc cL ?_;refine ag ?_;refine af (bj (cA (aY (aC (d:=.s (.bool _)) rfl ?_))));have e:fu f b A.length x=(cO x [97]&&bZ f x.a 119):=by rw[fu,ai h0,ai h1,ai (by rw[h2];decide),ai C,ai J,ai M,ai U,ai X,ai h8,ai (by rw[h9];decide),bi (by simpa using qk)]
  rw[e];simp only[jY,Bool.and_assoc,bm]
 have qk:¬ x.op=15:=by simpa using qk
 refine ws (ag ?_);refine af (aB rfl (λuY=>?_) λuY=>?_)
 .apply ws;have c7:aH prog 190 [.agg (bU x),S ⟨#[97]⟩] (B (cO x [97])):=c7 oC;refine SS ?_;refine cl c7 ?_;refine aQ ?_;refine gc cL ?_;refine ag ?_;refine af (bj (cA (aY (aC (d:=.s (.bool _)) rfl ?_))));have e:fu f b A.length x=(cO x [97]&&bZ f x.a 105):=by rw[fu,ai h0,ai h1,ai (by rw[h2];decide),ai C,ai J,ai M,ai U,ai X,ai h8,ai (by rw[h9];decide),ai qk,bi (by simpa using uY)]
  rw[e];simp only[jY,Bool.and_assoc,bm]
 have uY:¬ x.op=16:=by simpa using uY
 refine ws (ag ?_);refine af (aB rfl (λwC=>?_) λwC=>?_)
 .apply ws;have c7:aH prog 190 [.agg (bU x),S ⟨#[116,110]⟩] (B (cO x [116,110])):=c7 oC;refine SS ?_;refine cl c7 ?_;refine cz ?_;refine gc N8 ?_;refine ag ?_;refine af (bj (cA (aY (aC (d:=.s (.bool _)) rfl ?_))));have e:fu f b A.length x=(cO x [116,110]&&pT f.aj f.a6 x.to x.n):=by rw[fu,ai h0,ai h1,ai (by rw[h2];decide),ai C,ai J,ai M,ai U,ai X,ai h8,ai (by rw[h9];decide),ai qk,ai uY,bi (by simpa using wC)]
  rw[e];simp only[jY,Bool.and_assoc,bm]
 have wC:¬ x.op=17:=by simpa using wC
 refine ws (ag ?_);refine af (aB rfl (λyd=>?_) λyd=>?_)
 .apply ws;have c7:aH prog 190 [.agg (bU x),S ⟨#[97,110]⟩] (B (cO x [97,110])):=c7 oC;refine SS ?_;refine cl c7 ?_;refine cz ?_;refine gc N8 ?_;refine ag ?_;refine af (bj (cA (aY (aC (d:=.s (.bool _)) rfl ?_))));have e:fu f b A.length x=(cO x [97,110]&&pT f.aj f.a6 x.a x.n):=by rw[fu,ai h0,ai h1,ai (by rw[h2];decide),ai C,ai J,ai M,ai U,ai X,ai h8,ai (by rw[h9];decide),ai qk,ai uY,ai wC,bi (by simpa using yd)]
  rw[e];simp only[jY,Bool.and_assoc,bm]
 have yd:¬ x.op=18:=by simpa using yd
 refine ws (ag ?_);refine af (aB rfl (λEN=>?_) λEN=>?_)
 .have c7:aH prog 190 [.agg (bU x),S ⟨#[116,108]⟩] (B (cO x [116,108])):=c7 oC;have hv:fu f b A.length x=(!bm b 0&&(cO x [116,108]&&(bZ f x.to 118&&(bm x.args.length A.length&&x.args.all (nJ f x.to))))):=by rw[fu,ai h0,ai h1,ai (by rw[h2];decide),ai C,ai J,ai M,ai U,ai X,ai h8,ai (by rw[h9];decide),ai qk,ai uY,ai wC,ai yd,bi (s0 EN)]
  rw[hv];clear hv;have TE:=c7;have TF:= @cL x.to 118;have asZ:= @D5 x.to;generalize cO x [116,108]=lv at TE ⊢;generalize bZ f x.to 118=iv at TF ⊢;refine aG (c6 iO ?_);have c7:=TE;have cL:=TF;by_cases Co:b=0
  .have iy:((b:Int)==0)=true:=by simp[Co]
   have e0:bm b 0=true:=by simp[bm,Co]
   rw[e0];refine aQ ?_;refine gc c7 ?_;refine cz ?_;refine gc cL ?_;refine aX ?_;refine bh ?_;refine bJ bM (cM rfl (λhp=>?_) λhp=>(by cases hp));refine aG (al (SS ?_));refine af (de (cA (aY (aC (d:=B false) rfl ?_))));rfl
  have iy:((b:Int)==0)=false:=by simp[Co]
  have e0:bm b 0=false:=by simp[bm,Co]
  rw[e0];refine aQ ?_;refine gc c7 ?_;refine cz ?_;refine gc cL ?_;refine aX ?_;refine bh ?_;refine bJ bM (cM rfl (λhp=>?_) λhp=>cI ?_)
  .refine aG (al (SS ?_));refine af (de (cA (aY (aC (d:=B false) rfl ?_))))
   have:(lv&&(iv&&bm x.args.length A.length))=false:=by
    revert hp;cases lv<;>cases iv<;>simp[bm]
   revert this;generalize x.args.all (nJ f x.to)=q;generalize bm x.args.length A.length=r;cases lv<;>cases iv<;>cases r<;>simp
  have gZ:lv=true/\iv=true/\bm x.args.length A.length=true:=by
   revert hp;cases lv<;>cases iv<;>simp[bm]
  obtain⟨rfl,rfl,e1⟩:=gZ;rw[e1];show AW _ _ _ _ (kf _ (jI _ (pb _ _ (λd _=>d=B (x.args.all (nJ f x.to)))))) _;clear TE TF c7 cL hp e1 e0 iy;refine aG (aA (SS ?_))
  refine af (cw (λs=>aP prog s ⟨aD [],λ_=>none,2⟩/\∀ (j:Nat) y,x.args[j]? =some y->nJ f x.to y=true) (cT (α:=Nat) (λk=>⟨aD [(3,.pt (cP f (cr L))),(4,.pt (bU x)),(7,I k)],λ_=>none,2⟩)
   (λk=>k<=x.args.length/\∀ j y,j<k->x.args[j]? =some y->nJ f x.to y=true) (λk=>x.args.length - k) 0 (au eH) ⟨oG,λj y hj=>by omega⟩ ?_) ?_)
  .rintro k ⟨hk,hinv⟩;refine bh ?_;refine af ⟨_,rfl,λh=>?_,λh=>?_⟩
   .have ao:k<x.args.length:=by simpa using h
    have hx:x.args[k]? =some x.args[k]:=aO ao;generalize x.args[k]=y at hx;have D5:= @asZ y;refine c6 iO (aX ?_);refine SS ?_;refine bJ bM (aB rfl (λhp=>?_) λhp=>?_)
    .refine ws (SS ?_);refine af (bj (bP (aY (cA (aY (aC (d:=B false) rfl ?_))))));have:x.args.all (nJ f x.to)=false:=all_eq_false.2 ⟨y,bD hx,by simpa using hp⟩;rw[this]
    .refine cB (ax ?_);refine af (aW (k+1) (au eH) ⟨oG,λj z hj hz=>?_⟩ oG);by_cases e:j=k
     .subst e;rw[hx] at hz;cases hz;simpa using hp
     .exact hinv j z oG hz
   .have bt:¬ k<x.args.length:=by simpa using h
    exact⟨.forget _ _ _ _ λ_=>.inr rfl,λj y hy=>hinv j y (by have:=(bQ.1 hy).1;omega) hy⟩
  .rintro s ⟨hg,bd⟩;refine⟨_,hg,al ?_⟩;refine SS ?_;refine af (bj (cA (aY (aC (d:=B true) rfl ?_))))
   have:x.args.all (nJ f x.to)=true:=bK.2 λy hy=>by
    let⟨j,hj⟩:=cV hy;exact bd j y hj
   rw[this]
 have EN:¬ x.op=19:=by simpa using EN
 refine qw (al (SS ?_));refine af (aC (d:=.s (.bool _)) rfl ?_);rw[fu,ai h0,ai h1,ai (by rw[h2];decide),ai C,ai J,ai M,ai U,ai X,ai h8,ai (by rw[h9];decide),ai qk,ai uY,ai wC,ai yd,ai EN]
def Dk(a b:Bool):(if a=true then true else b)=(a||b):=by cases a<;>rfl
section
variable{f:az}{hd:D}(ht:Tr hd)(dN:hd.one=true)
include ht dN
def JP{x:Abs.End}(hw:∀ w∈x.aK,w.name.size<=maxLen)(hn:f.blocks.length<=1200):aH prog 197 [.agg (cP f hd),.agg (bq x)] (B (mu f x)):=by
 have ku:∀ {b:Int},aH prog 138 [.agg (cP f hd),I b] (B (cS f b)):=λ{b}=>ku ht dN hn;have bE:∀ a∈[D.agg (cP f hd),.agg (bq x)],Tr a:=.cons (.agg (Aq ht f)) (.cons (.agg (oU x)) .nil);refine bx (fo f197) bE (Tr.s _) ?_;refine aA (ax ?_);refine af (br (cH [(0,cP f hd,206),(1,bq x,57)] eH (l:=[(2,.pt (cP f hd)),(3,.pt (bq x))]) eH) (aG (al ?_)));have hh:mu f x=(IT f x.aK&&(decide ((x.aK.length:Int)<=7)&&(decide (x.others= -1)||cS f x.others))):=rfl;rw[hh];clear hh;generalize M:cS f x.others=bo;have J:aH prog 138 [.agg (cP f hd),I x.others] (B bo):=M▸ku;clear M;have U:= @ku;clear ku;have ku:=J;refine aX ?_;refine ek ?_;refine af (cM rfl (λh=>?_) λh=>cI (aG (aA ?_)))
 .refine aG (al (SS ?_));refine af (de (aC (d:=B false) rfl ?_))
  have h2:(decide ((x.aK.length:Int)<=7)&&(decide (x.others= -1)||bo))=false:=by
   revert h;cases bo<;>simp<;>grind
  rw[h2,Bool.and_false]
 have h2:(decide ((x.aK.length:Int)<=7)&&(decide (x.others= -1)||bo))=true:=by
  revert h;cases bo<;>simp<;>grind
 have h7:x.aK.length<=7:=by
  rw[aJ,decide_eq_true_eq] at h2;omega
 rw[h2,Bool.and_true];clear h h2 ku J;refine SS ?_
 refine af (cw (λs=>aP prog s ⟨aD [],λ_=>none,2⟩/\∀ (j:Nat) y,x.aK[j]? =some y->qG f x.aK j y=true) (cT (α:=Nat) (λk=>⟨aD [(2,.pt (cP f hd)),(3,.pt (bq x)),(5,I k)],λ_=>none,2⟩)
  (λk=>k<=x.aK.length/\∀ j y,j<k->x.aK[j]? =some y->qG f x.aK j y=true) (λk=>x.aK.length - k) 0 (au eH) ⟨oG,λj y hj=>by omega⟩ ?_) ?_)
 .rintro k ⟨hk,hinv⟩;refine bh ?_;refine af ⟨_,rfl,λh=>?_,λh=>?_⟩
  .have ao:k<x.aK.length:=s0 h
   have hx:x.aK[k]? =some x.aK[k]:=aO ao;have rT:=rT (hw _ (eh ao));generalize x.aK[k]=w at hx rT;have C:qG f x.aK k w=(isName w.name&&(cS f w.to&& !(x.aK.take k).any λv=>v.name.toList==w.name.toList)):=rfl;have ku:= @U w.to;generalize isName w.name=a at rT C;generalize cS f w.to=b at ku C;refine aG (c6 iO ?_);refine aX ?_;refine aQ ?_;refine cF rfl rfl (yN rfl rfl V.h V.h (HU) oN) (λhc=>⟨ak,(yO V.h (HU) oN)⟩) (bh ?_);refine bJ bM (cM rfl (λhp=>?_) λhp=>cI (aA ?_))
   .refine aG (al (SS ?_));refine af (de (bP (aY (aC (d:=B false) rfl ?_))))
    have:qG f x.aK k w=false:=by
     rw[C];revert hp;cases a<;>cases b<;>simp
    rw[PI hx this]
   have lR:a=true/\b=true:=by revert hp;cases a<;>cases b<;>simp
   obtain⟨rfl,rfl⟩:=lR;refine SS ?_
   refine af (cT (α:=Nat) (λq=>⟨aD [(2,.pt (cP f hd)),(3,.pt (bq x)),(5,I k),(6,I q)],λ_=>none,2⟩)
    (λq=>q<=k/\∀ j y,j<q->x.aK[j]? =some y->(y.name.toList==w.name.toList)=false) (λq=>k - q) 0 (au eH) ⟨oG,λj y hj=>by omega⟩ ?_)
   rintro q ⟨hq,qd⟩;refine ax ?_;refine af ⟨_,rfl,λh=>?_,λh=>?_⟩
   .have zF:q<k:=s0 h
    have hy:x.aK[q]? =some x.aK[q]:=aO oG;generalize x.aK[q]=y at hy;refine c6 iO (aX ?_);refine aQ ?_;refine bJ bM (aB rfl (λhp=>?_) λhp=>?_)
    .refine ws (SS ?_);refine af (bj (bP (bP (aY (aC (d:=B false) rfl ?_)))))
     have:qG f x.aK k w=false:=by
      rw[C,any_eq_true.2 ⟨y,bD (i:=q) (by rw[getElem?_take,bi zF,hy]),hp⟩];rfl
     rw[PI hx this]
    .refine cB (ax ?_);refine af (aW (q+1) (au eH) ⟨oG,λj z hj hz=>?_⟩ oG);by_cases e:j=q
     .subst e;rw[hy] at hz;cases hz;exact hp
     .exact qd j z oG hz
   .have bt:¬ q<k:=s0 h
    have:q=k:=by omega
    subst this;show aE _ _ _ _ _ _ _ _ _;refine ax ?_;refine af (aW (q+1) (au eH) ⟨oG,λj z hj hz=>?_⟩ oG);by_cases e:j=q
    .subst e;rw[hx] at hz;cases hz;rw[C]
     have:((x.aK.take j).any λv=>v.name.toList==w.name.toList)=false:=any_eq_false.2 λv hv=>by
      let⟨i,hi⟩:=cV hv;have X:i<j:=by have:=(bQ.1 hi).1;simp at this;omega
      rw[getElem?_take,bi X] at hi;rw[qd i v X hi];simp
     rw[this];rfl
    .exact hinv j z oG hz
  .have bt:¬ k<x.aK.length:=s0 h
   exact⟨.forget _ _ _ _ λ_=>.inr rfl,λj y hy=>hinv j y (by have:=(bQ.1 hy).1;omega) hy⟩
 .rintro s ⟨hg,bd⟩;refine⟨_,hg,al ?_⟩;refine SS ?_;refine af (aC (d:=B true) rfl ?_);rw[Xh bd]
def Ob{x:Abs.End}(hnm:x.name.size<=maxLen)(hw:∀ w∈x.aK,w.name.size<=maxLen)(hn:f.blocks.length<=1200):aH prog 140 [.agg (cP f hd),.agg (bq x)] (B (jP f x)):=by
 have ku:∀ {b:Int},aH prog 138 [.agg (cP f hd),I b] (B (cS f b)):=λ{b}=>ku ht dN hn;have cL:∀ {r k:Int},aH prog 191 [.agg (cP f hd),I r,U8 k] (B (bZ f r k)):=λ{r k}=>cL ht dN;have zp:∀ {l:List Int},aH prog 193 [.agg (cP f hd),aU l] (B (jC f.aj l)):=λ{l}=>zp ht dN;have UO:aH prog 196 [.agg (cP f hd),.agg (bU x.ins)] (B (oB f x.ins)):=UO ht dN;have JP:=JP ht dN hw hn;have D4:=D4 hnm;have rT:=rT hnm;have bE:∀ a∈[D.agg (cP f hd),.agg (bq x)],Tr a:=.cons (.agg (Aq ht f)) (.cons (.agg (oU x)) .nil);refine bx (fo f140) bE (Tr.s _) ?_;refine ws (ax ?_);refine af (aA (aQ ?_));refine af (br (cH [(0,cP f hd,206),(1,bq x,57),(2,aL f,48)] eH (l:=[(2,.pt (cP f hd)),(3,.pt (bq x)),(5,.pt (aL f))]) eH) (aG (al ?_)));refine ag ?_;refine af (rj (ws (ag ?_)));refine af (aB rfl (λh1=>?_) λh1=>?_)
 .have h1:x.kind=1:=s0 h1
  have gI:aH prog 195 [.agg (bq x),S ⟨#[116]⟩] (B (fc x [116])):=gI oC;refine ws (SS ?_);refine cl gI ?_;refine aQ ?_;refine gc ku ?_;refine ag ?_;refine af (bj (cA (aY (aC (d:=.s (.bool _)) rfl ?_))));have e:jP f x=(fc x [116]&&cS f x.to):=by rw[jP,bi h1]
  rw[e];simp[jY,Dk,Bool.and_assoc,bm,ib]
 have h1:¬ x.kind=1:=s0 h1
 refine ws (ag ?_);refine af (aB rfl (λh2=>?_) λh2=>?_)
 .have h2:x.kind=2:=s0 h2
  have gI:aH prog 195 [.agg (bq x),S ⟨#[97,116,101]⟩] (B (fc x [97,116,101])):=gI oC;refine ws (SS ?_);refine cl gI ?_;refine aQ ?_;refine gc cL ?_;refine bh ?_;refine gc ku ?_;refine bh ?_;refine gc ku ?_;refine ag ?_;refine af (bj (cA (aY (aC (d:=.s (.bool _)) rfl ?_))));have e:jP f x=(fc x [97,116,101]&&(bZ f x.a 119&&(cS f x.to&&cS f x.ei))):=by rw[jP,ai h1,bi h2]
  rw[e];simp[jY,Dk,Bool.and_assoc,bm,ib]
 have h2:¬ x.kind=2:=s0 h2
 refine ws (ag ?_);refine af (aB rfl (λC=>?_) λC=>?_)
 .have C:x.kind=3:=s0 C
  have gI:aH prog 195 [.agg (bq x),S ⟨#[97]⟩] (B (fc x [97])):=gI oC;have hv:jP f x=if f.iter=true\/f.result=0 then fc x [97]&&bm x.a (-1) else fc x [97]&&(bZ f x.a 118&&bm (dc f.aj x.a) f.result):=by rw[jP,ai h1,ai h2,bi C]
  rw[hv];clear hv;refine aG (al (ek ?_));refine af (cM rfl (λh=>?_) λh=>cI ?_)
  .have tx:f.iter=true\/f.result=0:=by revert h;cases f.iter<;>simp
   rw[bi tx];refine aG (al (cJ ?_));refine af (de (cA (aY (aC (d:=.s (.bool _)) rfl ?_))));simp[jY,bm,ib]
  .have tx:¬ (f.iter=true\/f.result=0):=by revert h;cases f.iter<;>simp
   rw[ai tx];clear tx h;let⟨xk,xa,xb,xt,xe,xn,xi,xs,xw,xo⟩:=x;dsimp only at*
   apply c6 iO;generalize fc _ [97]=bv at gI;cases bv with
   |false=>
    refine ax ?_;(iterate 4 refine z λ_ _=>?_);refine ag ?_;(iterate 9 refine z λ_ _=>?_);refine ag ?_;exact bJ bM (bj (cA (aY (aC rfl rfl))))
   |true=>
    have kv:= @cL xa 118;cases hv:bZ f xa 118 with
    |false=>
     rw[hv] at kv;have cL:=kv;refine aX ?_;(iterate 9 refine z λ_ _=>?_);refine ag ?_;exact bJ bM (bj (cA (aY (aC rfl rfl))))
    |true=>
     rw[hv] at kv;have cL:=kv;obtain⟨i,hi,rfl⟩:=oQ (nE hv);have hx:f.aj[i]? =some f.aj[i]:=aO hi;have wz:=yu hx;rw[wz];generalize f.aj[i]=y at hx;refine aX ?_;refine aX ?_;refine ag ?_;refine bJ bM (bj (cA (aY (aC (d:=.s (.bool _)) rfl ?_))));rfl
 have C:¬ x.kind=3:=s0 C
 refine ws (ag ?_);refine af (aB rfl (λJ=>?_) λJ=>?_)
 .have J:x.kind=4:=s0 J
  have gI:aH prog 195 [.agg (bq x),S ⟨#[110]⟩] (B (fc x [110])):=gI oC;refine ws (cJ ?_);refine af (bj (cA (aY (aC (d:=.s (.bool _)) rfl ?_))));have e:jP f x=(fc x [110]&&isName x.name):=by rw[jP,ai h1,ai h2,ai C,bi J]
  rw[e];simp[jY,Dk,Bool.and_assoc,bm,ib]
 have J:¬ x.kind=4:=s0 J
 refine ws (ag ?_);refine af (aB rfl (λM=>?_) λM=>?_)
 .have M:x.kind=5:=s0 M
  have gI:aH prog 195 [.agg (bq x),S ⟨#[116,105,104]⟩] (B (fc x [116,105,104])):=gI oC;refine ws (SS ?_);refine cl gI ?_;refine aQ ?_;refine gc UO ?_;refine bh ?_;refine gc ku ?_;refine aQ ?_;refine gc JP ?_;refine ag ?_;refine af (bj (cA (aY (aC (d:=.s (.bool _)) rfl ?_))));have e:jP f x=(fc x [116,105,104]&&(oB f x.ins&&(cS f x.to&&mu f x))):=by rw[jP,ai h1,ai h2,ai C,ai J,bi M]
  rw[e];simp[jY,Dk,Bool.and_assoc,bm,ib]
 have M:¬ x.kind=5:=s0 M
 refine ws (ag ?_);refine af (aB rfl (λU=>?_) λU=>?_)
 .have U:x.kind=6:=s0 U
  have gI:aH prog 195 [.agg (bq x),S ⟨#[97,116,110,108,104]⟩] (B (fc x [97,116,110,108,104])):=gI oC;refine ws (SS ?_);refine cl gI ?_;refine ax ?_;refine gc D4 ?_;refine aX ?_;refine ag ?_;refine gc zp ?_;refine aX ?_;refine gc cL ?_;refine cz ?_;refine gc ku ?_;refine aQ ?_;refine gc JP ?_;refine ag ?_;refine af (bj (cA (aY (aC (d:=.s (.bool _)) rfl ?_))));have e:jP f x=(fc x [97,116,110,108,104]&&(kZ x.name&&(decide ((x.args.length:Int)<=6)&&(jC f.aj x.args&&((bm x.a (-1)||bZ f x.a 118)&&(cS f x.to&&mu f x)))))):=by rw[jP,ai h1,ai h2,ai C,ai J,ai M,bi U]
  rw[e];simp[jY,Dk,Bool.and_assoc,bm,ib]
 have U:¬ x.kind=6:=s0 U
 refine ws (ag ?_);refine af (aB rfl (λX=>?_) λX=>?_)
 .have X:x.kind=7:=s0 X
  have gI:aH prog 195 [.agg (bq x),S ⟨#[97,116,110,108]⟩] (B (fc x [97,116,110,108])):=gI oC;refine ws (SS ?_);refine cl gI ?_;refine ax ?_;refine gc D4 ?_;refine aX ?_;refine ag ?_;refine gc zp ?_;refine bh ?_;refine gc cL ?_;refine bh ?_;refine gc ku ?_;refine ag ?_;refine af (bj (cA (aY (aC (d:=.s (.bool _)) rfl ?_))));have e:jP f x=(fc x [97,116,110,108]&&(kZ x.name&&(decide ((x.args.length:Int)<=6)&&(jC f.aj x.args&&(bZ f x.a 105&&cS f x.to))))):=by rw[jP,ai h1,ai h2,ai C,ai J,ai M,ai U,bi X]
  rw[e];simp[jY,Dk,Bool.and_assoc,bm,ib]
 have X:¬ x.kind=7:=s0 X
 refine ws (ag ?_);refine af (aB rfl (λh8=>?_) λh8=>?_)
 .have h8:x.kind=8:=s0 h8
  have gI:aH prog 195 [.agg (bq x),S ⟨#[97,98,116,101,104]⟩] (B (fc x [97,98,116,101,104])):=gI oC;refine ws (SS ?_);refine cl gI ?_;refine aQ ?_;refine gc cL ?_;refine bh ?_;refine gc cL ?_;refine bh ?_;refine gc ku ?_;refine bh ?_;refine gc ku ?_;refine aQ ?_;refine gc JP ?_;refine ag ?_;refine af (bj (cA (aY (aC (d:=.s (.bool _)) rfl ?_))));have e:jP f x=(fc x [97,98,116,101,104]&&(bZ f x.a 105&&(bZ f x.b 118&&(cS f x.to&&(cS f x.ei&&mu f x))))):=by rw[jP,ai h1,ai h2,ai C,ai J,ai M,ai U,ai X,bi h8]
  rw[e];simp[jY,Dk,Bool.and_assoc,bm,ib]
 have h8:¬ x.kind=8:=s0 h8
 refine ws (ag ?_);refine af (aB rfl (λh9=>?_) λh9=>?_)
 .have h9:x.kind=9:=s0 h9
  have gI:aH prog 195 [.agg (bq x),S ⟨#[97,116]⟩] (B (fc x [97,116])):=gI oC;have hv:jP f x=(fc x [97,116]&&(f.iter&&(bZ f x.a 118&&(bm (dc f.aj x.a) f.result&&cS f x.to)))):=by rw[jP,ai h1,ai h2,ai C,ai J,ai M,ai U,ai X,ai h8,bi h9]
  rw[hv];clear hv;let⟨xk,xa,xb,xt,xe,xn,xi,xs,xw,xo⟩:=x;dsimp only at*
  apply c6 iO;generalize fc _ [97,116]=bv at gI;have kv:= @cL xa 118;have kb:= @ku xt;generalize cS f xt=bb at kb;have ku:=kb;cases bv with
  |false=>
   refine ax ?_;(iterate 2 refine z λ_ _=>?_);refine ag ?_;(iterate 4 refine z λ_ _=>?_);refine ag ?_;(iterate 9 refine z λ_ _=>?_);refine ag ?_;(iterate 4 refine z λ_ _=>?_);refine ag ?_;exact bJ bM (bj (cA (aY (aC rfl rfl))))
  |true=>
   let⟨fnm,fi,fa,fr,fg,fs,fz,fb⟩:=f;dsimp only at*
   cases fi with
   |false=>
    refine ek ?_;(iterate 4 refine z λ_ _=>?_);refine ag ?_;(iterate 9 refine z λ_ _=>?_);refine ag ?_;(iterate 4 refine z λ_ _=>?_);refine ag ?_;exact bJ bM (bj (cA (aY (aC rfl rfl))))
   |true=>
    cases hv:bZ ⟨fnm,true,fa,fr,fg,fs,fz,fb⟩ xa 118 with
    |false=>
     rw[hv] at kv;have cL:=kv;refine aX ?_;refine aQ ?_;(iterate 9 refine z λ_ _=>?_);refine ag ?_;(iterate 4 refine z λ_ _=>?_);refine ag ?_;exact bJ bM (bj (cA (aY (aC rfl rfl))))
    |true=>
     rw[hv] at kv;have cL:=kv;obtain⟨i,hi,rfl⟩:=oQ (nE hv);have hx:fg[i]? =some fg[i]:=aO hi;have wz:=yu hx;rw[wz];generalize fg[i]=y at hx;cases AY:decide (y=fr) with
     |false=>
      have iy:(y==fr)=false:=s0 AY
      refine aX ?_;refine aX ?_;refine cz ?_;(iterate 4 refine z λ_ _=>?_);refine ag ?_;refine bJ bM (bj (cA (aY (aC (d:=.s (.bool _)) rfl ?_))));simp[bm,AY]
     |true=>
      have iy:(y==fr)=true:=s0 AY
      refine aX ?_;refine aX ?_;refine aX ?_;refine ax ?_;refine bJ bM (bj (cA (aY (aC (d:=.s (.bool _)) rfl ?_))));simp[bm,AY]
 have h9:¬ x.kind=9:=s0 h9
 refine qw (al (SS ?_));refine af (aC (d:=.s (.bool _)) rfl ?_);rw[jP,ai h1,ai h2,ai C,ai J,ai M,ai U,ai X,ai h8,ai h9]
end
def tQ(bs:List bI):List (List Int):=(range bs.length).map (o4 bs bs.length)
def zs{f:az}{b:Nat}{x:Abs.bI}(hx:f.blocks[b]? =some x)(hw:x.fin.aK.length<=100):aH prog 141 [.agg (aL f),I b] (aU (ug x.fin)):=by
 have wa:=wa (x:=x.fin) oG;have M:=Lh x.fin;refine bx (fo f141) (.cons (.agg (gS f)) fp) (dP _) ?_;refine aA (ag ?_);refine af (br (cH [(0,aL f,48)] eH (l:=[(1,I b),(2,.pt (aL f))]) eH) (aA ?_));refine SS ?_;refine af ⟨_,(aP.oY _ _ _ 5 3 rfl).trans (cH [(1,[],3)] ⟨aw _ _ _,aa⟩ (l:=[(1,I b),(2,.pt (aL f)),(5,aU [])]) ⟨rfl,rfl,oi (sz:=1) c3 rfl,aa⟩),al ?_⟩;unfold ug;generalize gE x.fin=l at wa M;refine cJ ?_;refine af (aG (aA (SS ?_)))
 refine af (cw (λs=>aP prog s ⟨aD [(5,aU (xg l))],λ_=>none,2⟩) (cT (α:=Nat) (λk=>⟨aD [(5,aU (xg (l.take k))),(6,aU l),(7,I k)],λ_=>none,2⟩)
  (λk=>k<=l.length) (λk=>l.length - k) 0 (au eH) oG ?_) ?_)
 .intro k hk;have J:=(HZ (l:=l.take k) (z:=[]) .nil).2.2;have C:∀ t,l[k]? =some t->xg (l.take (k+1))=nq (xg (l.take k)) t:=λt ht=>ve ht;have U:k=l.length->xg (l.take k)=xg l:=λe=>by rw[e,take_length]
  change (xg (l.take k)).length<=_ at J
  rw[length_take,length_nil] at J;generalize xg (l.take k)=c at J C U;refine aQ ?_;refine af ⟨_,rfl,λh=>?_,λh=>?_⟩
  .have ao:k<l.length:=s0 h
   have hy:l[k]? =some l[k]:=aO ao;have C:=C _ hy;generalize l[k]=t at hy C;have UM:=UM (l:=c) (n:=t) oG;refine gj (ek ?_);refine af (ax ?_);refine af (aW (k+1) (au ⟨?_,rfl,rfl,aa⟩) oG oG);rw[C];rfl
  .have X:¬ k<l.length:=s0 h
   rw[<- U oG];exact au eH
 .intro s hg;refine⟨_,hg,al ?_⟩;refine ag ?_;exact af (aC rfl rfl)
def Cb{f:az}{n:Nat}(hn:f.blocks.length=n)(uI:n<=100000)(hw:∀ b∈f.blocks,b.fin.aK.length<=9)(ht:∀ b∈f.blocks,∀ t∈ug b.fin,0<=t/\t<n):
 aH prog 103 [.agg (aL f)] (cr (tQ f.blocks)):=by
 have bE:∀ a∈[D.agg (aL f)],Tr a:=.cons (.agg (gS f)) .nil;refine bx (fo f103) bE (nC _) ?_;refine aA (ag ?_);refine af (br (cH [(0,aL f,48)] eH (l:=[(1,.pt (aL f))]) eH) (aA ?_));refine ax ?_;refine di (H5 rfl rfl V.h V.h) ak ⟨oG,rfl,oG,by rw[Ez];omega,V.h⟩ (SS ?_);have fO:((f.blocks.length:Nat):Int).toNat=n:=hn;refine af (br (bp (l:=[(1,.pt (aL f)),(3,.rs 1 0 n)]) (ml:=[(1,.cells (replicate n .z) 43)]) ⟨rfl,congrArg (λk=>D.rs 1 0 k) fO,aa⟩ ⟨?_,aa⟩) (aG (aA ?_)))
 .exact congrArg (λc=>some (Row.cells c 43)) ((congrArg (λk=>eI k [D.z]) fO).trans (aaN n))
 refine SS ?_
 refine af (cw (λs=>∃ m nx ρ,aP prog s ⟨aD [(3,.rs 1 0 n)],m,nx⟩/\eW m nx 1 n 43 3 ρ (λi=>(o4 f.blocks n i).map I)) (cT (α:=Nat×Mem×Nat)
  (λk=>⟨aD [(1,.pt (aL f)),(3,.rs 1 0 n),(4,I k.1)],k.2.1,k.2.2⟩)
  (λk=>k.1<=n/\(∃ ρ,eW k.2.1 k.2.2 1 n 43 3 ρ (λi=>(o4 f.blocks k.1 i).map I))/\∀ i,(o4 f.blocks k.1 i).length<=12*k.1) (λk=>n - k.1) (0,bA [(1,.cells (replicate n .z) 43)],2)
  (au eH) ⟨Nat.zero_le _,⟨λ_=>0,ZD (show 1<2 by decide) rfl⟩,λ_=>bY _⟩ ?_) ?_)
 .rintro⟨k,m,nx⟩ ⟨hk,⟨ρ,C⟩,hlen⟩;dsimp only at hk C hlen ⊢;have aF:=C.row;have cW:=C.mY;refine bh ?_;refine af ⟨_,rfl,λh=>?_,λh=>?_⟩
  .have ao:k<n:=by simpa[hn] using h
   have hx:f.blocks[k]? =some f.blocks[k]:=aO oG;have X:f.blocks[k]∈f.blocks:=eh _;have zs:=zs hx (by have:=hw _ X;omega);generalize f.blocks[k]=x at hx X zs
   have dF:o4 f.blocks (k+1)=(ug x.fin).foldl (ir k) (o4 f.blocks k):=by
    rw[o4,range_succ,foldl_append];show Iu f.blocks _ k=_;rw[Iu,hx];rfl
   generalize o4 f.blocks k=L0 at C hlen aF dF;have iG:=ht x X;have gu:=aj8 x.fin;have hwh:=hw x X;generalize ug x.fin=l at zs iG gu dF;refine ws (aQ ?_);refine af (aA (SS ?_))
   refine af (cT (α:=Nat×Mem×Nat)
    (λj=>⟨aD [(1,.pt (aL f)),(3,.rs 1 0 n),(4,I k),(5,aU l),(6,I j.1)],j.2.1,j.2.2⟩)
    (λj=>j.1<=l.length/\(∃ ρ,eW j.2.1 j.2.2 1 n 43 3 ρ (λi=>((l.take j.1).foldl (ir k) L0 i).map I))/\∀ i,((l.take j.1).foldl (ir k) L0 i).length<=12*k+j.1) (λj=>l.length - j.1) (0,m,nx)
    (au eH) ⟨Nat.zero_le _,⟨ρ,C⟩,hlen⟩ ?_)
   clear C aF hlen;rintro⟨j,m,nx⟩ ⟨hj,⟨ρ,C⟩,hlen⟩;dsimp only at hj C hlen ⊢;have aF:=C.row;have cW:=C.mY;have U:∀ t,l[j]? =some t->(l.take (j+1)).foldl (ir k) L0=ir k ((l.take j).foldl (ir k) L0) t:=λt ht=>ve ht;have w9:j=l.length->(l.take j).foldl (ir k) L0=o4 f.blocks (k+1):=λe=>by rw[dF,cX oG]
   generalize (l.take j).foldl (ir k) L0=L at C hlen aF U w9;refine aQ ?_;refine af ⟨_,rfl,λh=>?_,λh=>?_⟩
   .have JJ:j<l.length:=s0 h
    have Kw:l[j]? =some l[j]:=aO JJ;have xZ:=iG _ (eh JJ);generalize l[j]=t at Kw xZ;obtain⟨i,rfl⟩:=jy xZ.1;have J:i<n:=by omega
    have hL:=hlen i;have U:(l.take (j+1)).foldl (ir k) L0=up L i (L i++[(k:Int)]):=U _ Kw
    have y5:∀ i,((l.take (j+1)).foldl (ir k) L0 i).length<=12*k+(j+1):=λa=>by
     rw[U];exact P9 (t:=(i:Int)) hlen a
    have Kx:(λa=>((l.take (j+1)).foldl (ir k) L0 a).map I)=up (λa=>(L a).map I) i ((L i++[(k:Int)]).map I):=by rw[U];exact abZ
    let⟨cs,kd⟩:=Bi (ρ:=ρ) (L:=λi=>(L i).map I) J;apply Bp (hD [(3,14),(4,14)]);by_cases hz:L i=[]
    .have Bz:jc (ρ i) ((L i).map I)=.z:=by rw[hz];rfl
     rw[Bz] at kd;refine aX ?_;refine cz ?_;refine ae7 ?_;refine ae8 ?_;refine bJ bM (ax ?_);refine af (aW (j+1,up (up (up m nx (some (.cells [I k] 3))) (nx+1) (some (.cells [I k] 3))) 1 (some (.cells ((jL ρ (λi=>(L i).map I) n).set i (.rs (nx+1) 0 1)) 43)),nx+2) (au eH) ⟨oM,⟨up ρ i (nx+1),?_⟩,y5⟩ oM);dsimp only;rw[Kx];refine C.EC J oS oG oG ?_ ?_ (λq hq qY _=>?_)
     .rw[hz];exact aw _ _ _
     .rw[hz];exact ay oG r9
     .exact ay oG (ay oG (ay oG rfl))
    .have M:(L i).map I≠[]:=s0 hz
     have Bz:jc (ρ i) ((L i).map I)=.rs (ρ i) 0 (L i).length:=by rw[sU M,length_map]
     rw[Bz] at kd;have fJ:=C.rR i J M;have Kk:=C.lt i J M;have Kl:=C.ne i J M;refine aX ?_;refine cz ?_;refine ae9 ?_;refine ae' ?_;refine bJ bM (ax ?_);refine af (aW (j+1,up (up (up (up m nx (some (.cells [I k] 3))) (ρ i) none) (nx+1) (some (.cells ((L i).map I++[I k]) 3))) 1 (some (.cells ((jL ρ (λi=>(L i).map I) n).set i (.rs (nx+1) 0 ((L i).length+1))) 43)),nx+2) (au eH) ⟨oM,⟨up ρ i (nx+1),?_⟩,y5⟩ oM);dsimp only;rw[Kx];refine C.EC J oS oG oG ?_ ?_ (λq hq qY qd=>?_)
     .rw[length_map,length_append];exact aw _ _ _
     .rw[map_append];exact ay oG r9
     .have:=qd M;exact ay oG (ay oG (ay oG (ay oG rfl)))
   .have bt:¬ j<l.length:=s0 h
    have vl:=w9 oG;subst vl;show aE _ _ _ _ _ _ _ _ _;refine ax ?_;refine af (aW (k+1,m,nx) (au eH) ⟨oM,⟨ρ,C⟩,λi=>by have:=hlen i;dsimp only at this ⊢;omega⟩ oM)
  .have bt:¬ k<n:=by simpa[hn] using h
   have:k=n:=by omega
   subst this;exact⟨m,nx,ρ,au eH,C⟩
 .rintro s ⟨m,nx,ρ,hg,C⟩;have qf:¬ ∃ i,i<n/\(o4 f.blocks n i).map I≠[]/\ρ i=1:=λ⟨i,h1,h2,h3⟩=>C.ne i h1 h2 h3;refine⟨_,hg.trans (HW (l:=[(3,.rs 1 0 n)]) (ml:=[]) (λr=>∃ i,i<n/\(o4 f.blocks n i).map I≠[]/\ρ i=r) C (λ_=>.map) c3 (λi h1 h2=>⟨i,h1,h2,rfl⟩) qf ⟨rfl,aa⟩ (λx hx=>?_) aa (λx hx=>by cases hx)),aA ?_⟩
  .simp at hx;subst hx;exact .rs qf
  refine ag ?_;refine af (br (cH [(1,_,43)] eH (l:=[(2,cr (tQ f.blocks))]) ⟨?_,aa⟩) (aC rfl rfl));show sub (dq 1 _ (prog.cellsOf 43)) (D.rs 1 0 n)=_;rw[lS (by rw[ly];simp),Lv,tQ,hn]
def take_set{C:List Bool}{k n:Nat}{v:Bool}(h:C[k]? =some v)(hn:C.length=n):((C.take k++replicate (n - k) false).set k v)=C.take (k+1)++replicate (n - (k+1)) false:=by
 have hk:=(bQ.1 h).1;have hl:(C.take k).length=k:=by simp;omega
 rw[show n - k=n - (k+1)+1 by omega,replicate_succ,set_append_right _ _ oG,hl,Nat.sub_self,set_cons_zero,take_add_one,h];simp
def GV{a b:Cert}(hl:a.is.length=b.is.length)(hm:a.is.length<=100000):aH prog 142 [.agg (dn a),.agg (dn b)] (.agg (dn (uh a b))):=by
 refine bx (fo f142) (.cons (.agg (yS a)) (.cons (.agg (yS b)) .nil)) (.agg (yS _)) ?_;let⟨X,C⟩:=a;let⟨ba,J⟩:=b;dsimp only at hl hm;refine aA (ax ?_);refine af (br (bp (l:=[(2,.rp 0 0),(3,.rp 1 0),(4,.rp 2 0)]) (ml:=[(0,.cells (dn ⟨X,C⟩) 163),(1,.cells (dn ⟨ba,J⟩) 163),(2,.cells [B false,.z] 163)]) eH eH) (aG (al ?_)));refine ag ?_;cases X with
 |true=>
  refine af (wY ?_);refine aG (al (ag ?_));exact af (de (nG (kz rfl rfl xF pj rfl t163 (bL rfl)) rfl))
 |false=>
 refine af (sT (cI (aG (al ?_))));refine ag ?_;cases ba with
 |true=>
  refine af (wY ?_);refine aG (al (ag ?_));exact af (de (nG (kz rfl rfl xF pj rfl t163 (bL rfl)) rfl))
 |false=>
 refine af (sT (cI (aA ?_)));have hb:uh ⟨false,C⟩ ⟨false,J⟩=⟨false,zipWith (λx y=>x&&y) C J⟩:=rfl;rw[hb];clear hb;have kO:({ any:=false,is:=C }:Cert).is.length<=100000:=hm;have fO:((C.length:Nat):Int).toNat=C.length:=eU _;have U:(zipWith (λx y=>x&&y) C J).length=C.length:=by simp;omega
 have M:∀ (k:Nat) x y,C[k]? =some x->J[k]? =some y->(zipWith (λx y=>x&&y) C J)[k]? =some (x&&y):=λk x y h1 h2=>by rw[getElem?_zipWith,h1,h2]
 generalize zipWith (λx y=>x&&y) C J=zQ at U M;refine ek ?_;refine af (br (bp (l:=[(2,.rp 0 0),(3,.rp 1 0),(4,.rp 2 0),(5,.rp 4 0)]) (ml:=[(0,.cells (dn ⟨false,C⟩) 163),(1,.cells (dn ⟨false,J⟩) 163),(2,.cells [B false,.z] 163),(3,.cells ((replicate C.length false).map B) 4),(4,.cells [B false,.rs 3 0 C.length] 163)]) eH ⟨rfl,rfl,rfl,?_,?_,aa⟩) (aG (aA ?_)))
 .exact congrArg (λc=>some (Row.cells c 4)) ((congrArg (λk=>eI k [B false]) fO).trans (Ir _ false))
 .exact congrArg (λk=>some (Row.cells [B false,.rs 3 0 k] 163)) fO
 refine SS ?_
 refine af (cw (λs=>aP prog s ⟨aD [(4,.rp 2 0),(5,.rp 4 0)],bA [(2,.cells [B false,.z] 163),(3,.cells (zQ.map B) 4),(4,.cells [B false,.rs 3 0 C.length] 163)],5⟩) (cT (α:=Nat) (λk=>⟨aD [(2,.rp 0 0),(3,.rp 1 0),(4,.rp 2 0),(5,.rp 4 0),(6,I k)],bA [(0,.cells (dn ⟨false,C⟩) 163),(1,.cells (dn ⟨false,J⟩) 163),(2,.cells [B false,.z] 163),(3,.cells ((zQ.take k++replicate (C.length - k) false).map B) 4),(4,.cells [B false,.rs 3 0 C.length] 163)],5⟩)
  (λk=>k<=C.length) (λk=>C.length - k) 0 (bp eH eH) oG ?_) ?_)
 .intro k hk;refine bh ?_;refine af ⟨_,rfl,λh=>?_,λh=>?_⟩
  .have ao:k<C.length:=s0 h
   have hx:C[k]? =some C[k]:=aO ao;have hy:J[k]? =some J[k]:=aO oG;have hz:=M k _ _ hx hy;generalize C[k]=x at hx hz;generalize J[k]=y at hy hz;have zn:=take_set hz U;have uH:(zQ.take k++replicate (C.length - k) false).length=C.length:=by simp;omega
   apply Bp iO;cases x with
   |false=>
    refine aX ?_;(iterate 5 refine z λ_ _=>?_);refine ax ?_;refine bJ bM (ax ?_);refine af (aW (k+1) (bp eH ⟨rfl,rfl,rfl,?_,rfl,aa⟩) oG oG);rw[<- zn,map_set];rfl
   |true=>
    refine aX ?_;refine cJ ?_;refine bJ bM (ax ?_);refine af (aW (k+1) (bp eH ⟨rfl,rfl,rfl,?_,rfl,aa⟩) oG oG);rw[<- zn,map_set];rfl
  .have bt:¬ k<C.length:=s0 h
   have:k=C.length:=by omega
   subst this;refine bp eH ⟨rfl,?_,rfl,aa⟩;rw[Nat.sub_self,replicate_zero,append_nil,cX oG];rfl
 .intro s hg;refine⟨_,hg,aA ?_⟩;refine ag ?_
  have e:sub (dq 3 (zQ.map B) (prog.cellsOf 4)) (.rs 3 0 C.length)=.sl (zQ.map B) C.length:=by
   rw[c4,w8,drop_zero,cX oP]
  refine af (br (cH [(3,zQ.map B,4),(2,[B false,.sl (zQ.map B) C.length],163)] ⟨rfl,?_,aa⟩ (l:=[(4,.pt [B false,.sl (zQ.map B) C.length])]) eH) (bj (nG (aaR rfl xF pj rfl t163 (bL rfl)) ?_)))
  .exact congrArg (λd=>some (Row.cells [B false,d] 163)) e
  .rw[<- U];rfl
section
variable{f:az}{b:Nat}{x:Abs.bI}
def AG{c:Cert}(hx:f.blocks[b]? =some x)(hl:c.is.length=f.aj.length+f.a6.length)(hm:c.is.length<=2000)(hi:∀ y∈x.ins,D7 f.aj.length (f.aj.length+f.a6.length) y)(xL:x.ins.length<=100000):
 aH prog 109 [.agg (aL f),I b,.agg (dn c)] (.agg (dn (gL f.aj.length x.ins c))):=by
 have nr:∀ {d:Cert} {r:Int},d.is.length=f.aj.length+f.a6.length->JO (f.aj.length+f.a6.length) r->aH prog 106 [.agg (dn d),I r] (.agg (dn (mE d r))):=λ{d r} h1 h2=>nr oG (by rw[h1];exact h2);refine bx (fo f109) (.cons (.agg (gS f)) (.cons (.s _) (.cons (.agg (yS c)) .nil))) (.agg (yS _)) ?_;refine aA (ax ?_);refine af (br (bp (l:=[(1,I b),(3,.rp 0 0),(5,.rp 1 0),(6,.rp 2 0)]) (ml:=[(0,.cells (aL f) 48),(1,.cells (dn c) 163),(2,.cells [B false,.z] 163)]) eH eH) (al ?_));refine ek ?_;refine af (aG (aA (SS ?_)))
 refine af (cw (λs=>aP prog s ⟨aD [(5,.rp 1 0),(6,.rp 2 0)],bA [(1,.cells (dn (gL f.aj.length x.ins c)) 163),(2,.cells [B false,.z] 163)],3⟩) (cT (α:=Nat) (λk=>⟨aD [(3,.rp 0 0),(5,.rp 1 0),(6,.rp 2 0),(7,jo x.ins),(8,I k)],bA [(0,.cells (aL f) 48),(1,.cells (dn (gL f.aj.length (x.ins.take k) c)) 163),(2,.cells [B false,.z] 163)],3⟩)
  (λk=>k<=x.ins.length) (λk=>x.ins.length - k) 0 (bp eH eH) oG ?_) ?_)
 .intro k hk;have C:∀ y,x.ins[k]? =some y->gL f.aj.length (x.ins.take (k+1)) c=Ar f.aj.length (gL f.aj.length (x.ins.take k) c) y:=λy hy=>ve hy;have pS:k=x.ins.length->gL f.aj.length (x.ins.take k) c=gL f.aj.length x.ins c:=λe=>by rw[e,take_length]
  have U:=(HY f.aj.length (x.ins.take k) c).trans hl;generalize gL f.aj.length (x.ins.take k) c=d at C pS U;refine aQ ?_;refine af ⟨_,rfl,λh=>?_,λh=>?_⟩
  .have ao:k<x.ins.length:=s0 h
   have hy:x.ins[k]? =some x.ins[k]:=aO ao;have C:=C _ hy;have M:=hi _ (eh ao);generalize x.ins[k]=y at hy C M;have wc:=wc (x:=y)
   have hp:JO (f.aj.length+f.a6.length) (eP y):=by
    rcases M.w with e|⟨i,h1,h2⟩
    .exact .inl e
    .exact .inr ⟨i,oG,h2⟩
   have X:=nr U hp;have EJ:=(Lg d (eP y)).trans U
   have kv:y.op=18->aH prog 106 [.agg (dn (mE d (eP y))),I ((f.aj.length:Int)+y.n)] (.agg (dn (mE (mE d (eP y)) ((f.aj.length:Int)+y.n)))):=λe=>nr EJ (by
    let⟨i,h1,h2⟩:=M.s e
    exact .inr ⟨f.aj.length+i,h1,by rw[h2];omega⟩)
   unfold Ar at C;generalize mE d (eP y)=d1 at X EJ kv C;generalize eP y=w at wc X;clear nr;have nr:=X;refine c6 (hD [(0,5)]) (cJ ?_);refine bJ bM (al ?_);refine cz ?_;refine af (aB rfl (λJ=>?_) λJ=>?_)
   .have J:y.op=18:=s0 J
    rw[bi J] at C;have nr:=kv J;let⟨i,h1,h2⟩:=M.s J;have Cq:0<=y.n/\y.n<=2000:=by omega
    refine Bp iO (aX ?_);refine ax ?_;refine bJ bM (ax ?_);refine af (aW (k+1) (bp eH ⟨rfl,?_,rfl,aa⟩) oG oG);rw[C];rfl
   .have J:¬ y.op=18:=s0 J
    rw[ai J] at C;refine cB (ax ?_);refine af (aW (k+1) (bp eH ⟨rfl,?_,rfl,aa⟩) oG oG);rw[C];rfl
  .have bt:¬ k<x.ins.length:=s0 h
   rw[<- pS oG];exact bp eH eH
 .intro s hg;refine⟨_,hg,al ?_⟩;generalize gL f.aj.length x.ins c=d;refine ag ?_;exact af (bj (nG (kz rfl rfl xF pj rfl t163 (bL rfl)) rfl))
def Cc{c:Cert}{to:Int}(hx:f.blocks[b]? =some x)(hw:x.fin.aK.length<=100)(hm:c.is.length<=2000)(X:JO c.is.length (fY x.fin)):
 aH prog 108 [.agg (aL f),I b,I to,.agg (dn c)] (.agg (dn (qH x.fin to c))):=by
 have nr:=nr (c:=c) oG X;have wa:=wa (x:=x.fin) oG;have N9:=N9 (x:=x.fin);have J:=Lh x.fin;refine bx (fo f108) (.cons (.agg (gS f)) (.cons (.s _) (.cons (.s _) (.cons (.agg (yS c)) .nil)))) (.agg (yS _)) ?_;refine ws (ax ?_);refine af (aA (ek ?_));refine dH (jV (cs':=bq _) rfl rfl rfl rfl) ak (eO V.h V.h bk (by rfl)) (af (br (bp (l:=[(2,I to),(7,.rp 1 0),(8,.rp 2 0),(9,.rp 3 0)]) (ml:=[(1,.cells (dn c) 163),(2,.cells [B false,.z] 163),(3,.cells (bq x.fin) 57)]) eH eH) (al ?_)));have M:qH x.fin to c=if x.fin.to≠to\/(gE x.fin).tail.any (·==to)=true\/x.fin.kind=3\/x.fin.kind=4 then c else mE c (fY x.fin):=rfl
 rw[M];clear M;generalize gE x.fin=l at wa J;refine ax ?_;refine er (SS ?_);refine af (aG (aA (SS ?_)))
 refine af (cw (λs=>aP prog s ⟨aD [(2,I to),(7,.rp 1 0),(8,.rp 2 0),(9,.rp 3 0),(11,B (l.tail.any (·==to)))],bA [(1,.cells (dn c) 163),(2,.cells [B false,.z] 163),(3,.cells (bq x.fin) 57)],4⟩) (cT (α:=Nat) (λk=>⟨aD [(2,I to),(7,.rp 1 0),(8,.rp 2 0),(9,.rp 3 0),(10,aU l),(11,B ((l.tail.take k).any (·==to))),(12,I ((k+1:Nat):Int))],bA [(1,.cells (dn c) 163),(2,.cells [B false,.z] 163),(3,.cells (bq x.fin) 57)],4⟩)
  (λk=>k<=l.tail.length) (λk=>l.tail.length - k) 0 (bp eH eH) oG ?_) ?_)
 .intro k hk;have VQ:l.tail.length=l.length - 1:=length_tail ..;have C:∀ y,l.tail[k]? =some y->(l.tail.take (k+1)).any (·==to)=((l.tail.take k).any (·==to)||y==to):=λy hy=>by rw[take_add_one,hy,any_append];simp
  have U:k=l.tail.length->(l.tail.take k).any (·==to)=l.tail.any (·==to):=λe=>by rw[e,take_length]
  generalize (l.tail.take k).any (·==to)=ob at C U;refine aQ ?_;refine af ⟨_,rfl,λh=>?_,λh=>?_⟩
  .have ao:k+1<l.length:=by
    have:=of_decide_eq_true h;omega
   have hy:l[k+1]? =some l[k+1]:=aO ao;have C:=C l[k+1] (by rw[getElem?_tail];exact hy);generalize l[k+1]=y at hy C;apply gj;cases ob with
   |false=>
    refine cJ ?_;refine ag ?_;refine af (ax ?_);refine af (aW (k+1) (bp ⟨rfl,rfl,rfl,rfl,rfl,?_,rfl,aa⟩ eH) oG oG);rw[C];rfl
   |true=>
    refine ag ?_;(iterate 6 refine z λ_ _=>?_);refine ag ?_;refine af (ax ?_);refine af (aW (k+1) (bp ⟨rfl,rfl,rfl,rfl,rfl,?_,rfl,aa⟩ eH) oG oG);rw[C];rfl
  .have bt:¬ k+1<l.length:=λhh=>by
    have:=of_decide_eq_false h;omega
   rw[<- U oG];exact bp eH eH
 .intro s hg;refine⟨_,hg,aG (al ?_)⟩;generalize l.tail.any (·==to)=ob;refine aX ?_;refine cJ ?_;refine af (cM rfl (λh=>?_) λh=>cI (c6 (hD [(0,2)]) ?_))
  .refine aG (al (ag ?_));refine af (de (nG (kz rfl rfl xF pj rfl t163 (bL rfl)) ?_));rw[bi]
   .rfl
   .revert h;simp;grind
  .rw[ai (by revert h;simp;grind)];generalize mE c (fY x.fin)=d at nr;generalize fY x.fin=w at nr N9;refine bh ?_;exact bJ bM (bj (nG (kz rfl rfl xF pj rfl t163 (bL rfl)) rfl))
end
section
def pW(R:Nat)(bs:List bI)(k:Nat):List Bool:=(range R).map λ(i:Nat)=>(lD bs k).any (·==(i:Int))
def H0(R:Nat)(bs:List bI)(k:Nat):(pW R bs k).length=R:=by simp[pW]
variable{bs:List bI}{k:Nat}
def LD{R i:Nat}(h:i<R):(pW R bs k)[i]? =some ((lD bs k).any (·==(i:Int))):=by simp[pW,h]
variable{x:bI}
def XL(h:bs[k]? =some x):lD bs (k+1)=lD bs k++if x.fin.kind=7 then [x.fin.a] else []:=by
 rw[lD,take_add_one,h,filter_append,map_append];congr 1;by_cases e:x.fin.kind=7<;>simp[e]
def an1{R:Nat}{bs:List bI}{k:Nat}{x:bI}(h:bs[k]? =some x)(e:¬ x.fin.kind=7):pW R bs (k+1)=pW R bs k:=by
 unfold pW;rw[XL h,ai e,List.append_nil]
def amp{R i:Nat}(h:bs[k]? =some x)(e:x.fin.kind=7)(ha:x.fin.a=i):pW R bs (k+1)=(pW R bs k).set i true:=by
 apply ext_getElem?;intro j;rw[getElem?_set];by_cases hj:j<R
 .rw[LD hj,LD hj,XL h,bi e,any_append,ha,H0];by_cases C:i=j
  .subst C;simp[hj]
  .rw[ai C];have:((i:Int)==(j:Int))=false:=by simp;omega
   simp[this]
 .have h1:∀ k,(pW R bs k)[j]? =none:=λk=>getElem?_eq_none (by rw[H0];omega);rw[h1,h1,H0];split
  .rw[ai oG]
  .rfl
def aj'(R:Nat)(bs:List bI):pW R bs 0=replicate R false:=by
 apply ext_getElem?;intro j;by_cases hj:j<R
 .rw[LD hj];simp[lD,hj]
 .rw[getElem?_eq_none (by rw[H0];omega),getElem?_eq_none oP]
end
def GU{f:az}(hs:Nx f)(hw:∀ b∈f.blocks,b.fin.aK.length<=9):aH prog 101 [.agg (aL f)] (B (zU f)):=by
 have GS:=GS hs;refine bx (fo f101) (.cons (.agg (gS f)) .nil) (Tr.s _) ?_;refine aA (ag ?_);refine af (br (cH [(0,aL f,48)] eH (l:=[(1,.pt (aL f))]) eH) (al ?_));cases hh:vM f with
 |false=>
  rw[hh] at GS;refine ax ?_;refine af (aG (al (ag ?_)));refine af (wY ?_);refine aG (al (SS ?_));refine af (de (aC (d:=B false) rfl ?_));rw[zU,hh];rfl
 |true=>
  rw[hh] at GS;have hF:zU f=(L3 f&&(range f.blocks.length).all (wg f)):=by rw[zU,hh];rfl
  rw[hF];clear hF;unfold vM at hh;simp only[aJ] at hh;let⟨h1,h2,_⟩:=hh;unfold od at h1;simp only[aJ,Bool.not_eq_true',decide_eq_false_iff_not,kC] at h1;have hN:f.blocks.length<=1200:=by omega
  have hR:f.aj.length<=1200:=by omega
  have lx:f.a6.length<=60:=by omega
  have AZ:∀ k∈f.a6,k=1\/k=2:=λk hk=>by
   unfold sC at h2;simp only[aJ] at h2;have h3:=h2.2.2.1;simp only[gk,Bool.not_eq_true',any_eq_false] at h3;have:=h3 k hk;simp[pC] at this;omega
  clear h1 h2;refine ax ?_;refine af (aG (al (ag ?_)));refine af (sT (cI (aA ?_)));refine SS ?_;refine aI (Ln (cs:=cP _ _) V.h V.h V.h rfl rfl) ak ⟨V.h,V.h⟩ (SS ?_);refine dH (jV (cs':=cP _ _) rfl rfl rfl rfl) ak (eO V.h V.h bk (by rfl)) (af (br (bp (l:=[(1,.pt (aL f)),(4,.rp 1 0)]) (ml:=[(1,.cells (cP f .z) 206)]) eH eH) (aG (aA ?_))));refine SS ?_
  refine af (cw (λs=>aP prog s ⟨aD [(1,.pt (aL f)),(4,.rp 1 0)],bA [(1,.cells (cP f .z) 206)],2⟩/\∀ (j:Nat) x,f.blocks[j]? =some x->(gE x.fin).all (cS f)=true) (cT (α:=Nat) (λk=>⟨aD [(1,.pt (aL f)),(4,.rp 1 0),(5,I k)],bA [(1,.cells (cP f .z) 206)],2⟩)
   (λk=>k<=f.blocks.length/\∀ j x,j<k->f.blocks[j]? =some x->(gE x.fin).all (cS f)=true) (λk=>f.blocks.length - k) 0 (bp eH eH) ⟨oG,λj y hj=>by omega⟩ ?_) ?_)
  .rintro k ⟨hk,hinv⟩;refine bh ?_;refine af ⟨_,rfl,λh=>?_,λh=>?_⟩
   .have ao:k<f.blocks.length:=s0 h
    have hx:f.blocks[k]? =some f.blocks[k]:=aO ao;have hwx:=hw _ (eh ao);generalize f.blocks[k]=x at hx hwx;have wa:=wa (x:=x.fin) oG;have hle:=Lh x.fin;have gM:(gE x.fin).all (cS f)=false->L3 f=false:=λh=>all_eq_false.2 ⟨x,bD hx,by simp[h]⟩
    have sV:(gE x.fin).all (cS f)=true->∀ j y,j<k+1->f.blocks[j]? =some y->(gE y.fin).all (cS f)=true:=λhq j y hj hy=>by
     by_cases e:j=k
     .subst e;rw[hx] at hy;cases hy;exact hq
     .exact hinv j y oG hy
    generalize gE x.fin=l at wa hle gM sV;refine ws (cJ ?_);refine af (aA (SS ?_))
    refine af (cT (α:=Nat) (λq=>⟨aD [(1,.pt (aL f)),(4,.rp 1 0),(5,I k),(6,aU l),(7,I q)],bA [(1,.cells (cP f .z) 206)],2⟩)
     (λq=>q<=l.length/\∀ j y,j<q->l[j]? =some y->cS f y=true) (λq=>l.length - q) 0 (bp eH eH) ⟨oG,λj y hj=>by omega⟩ ?_)
    rintro q ⟨hq,qd⟩;refine aQ ?_;refine af ⟨_,rfl,λh=>?_,λh=>?_⟩
    .have Cz:q<l.length:=s0 h
     have hy:l[q]? =some l[q]:=aO Cz;generalize l[q]=y at hy;have ku:aH prog 138 [.agg (cP f .z),I y] (B (cS f y)):=ku adf rfl hN;refine c6 iO (aI (gA (vs:=cP _ _) rfl rfl V.h V.h rfl) ak (gB V.h V.h c0) (cz ?_));refine bJ bM (al ?_);refine ag ?_;refine af (aB rfl (λhp=>?_) λhp=>?_)
     .refine ws (SS ?_);refine af (bj (bP (bP (aY (aC (d:=B false) rfl ?_)))));rw[gM (all_eq_false.2 ⟨y,bD hy,s0 hp⟩)];rfl
     .refine cB (ax ?_);refine af (aW (q+1) (bp eH eH) ⟨oG,λj z hj hz=>?_⟩ oG);by_cases e:j=q
      .subst e;rw[hy] at hz;cases hz;simpa using hp
      .exact qd j z oG hz
    .have bt:¬ q<l.length:=s0 h
     show aE _ _ _ _ _ _ _ _ _;refine ax ?_;refine af (aW (k+1) (bp eH eH) ⟨oG,sV (bK.2 λy hy=>?_)⟩ oG);let⟨j,hj⟩:=cV hy;exact qd j y (by have:=(bQ.1 hj).1;omega) hj
   .have bt:¬ k<f.blocks.length:=s0 h
    exact⟨bp eH eH,λj y hy=>hinv j y (by have:=(bQ.1 hy).1;omega) hy⟩
  rintro s ⟨hg,U⟩
  have hE:L3 f=true:=bK.2 λx hx=>by
   let⟨j,hj⟩:=cV hx;exact U j x hj
  rw[hE,Bool.true_and]
  have iG:∀ b∈f.blocks,∀ t∈ug b.fin,0<=t/\t<f.blocks.length:=λb hb t ht=>by
   have:=bK.1 (bK.1 hE b hb) t (Yy.1 ht);rw[cS,kC] at this;omega
  have Cb:=Cb (f:=f) rfl oG hw iG;have jl:∀ k,k<f.blocks.length->(tQ f.blocks)[k]? =some (o4 f.blocks f.blocks.length k):=λk hk=>by simp[tQ,hk]
  have Hq:(tQ f.blocks).length<=100000:=by simp[tQ];omega
  clear U hE iG;refine⟨_,hg,aA ?_⟩;generalize hL:tQ f.blocks=L at Cb jl Hq;clear hL;refine aQ ?_;refine af (br (cH [(1,cP f (cr L),206)] eH (l:=[(1,.pt (aL f)),(4,.pt (cP f (cr L)))]) eH) (aA ?_));refine bh ?_;have fO:((f.aj.length:Nat):Int).toNat=f.aj.length:=eU _;refine af (br (bp (l:=[(1,.pt (aL f)),(4,.pt (cP f (cr L))),(9,.rs 2 0 f.aj.length)]) (ml:=[(2,.cells ((replicate f.aj.length false).map B) 4)]) ⟨rfl,rfl,congrArg (λk=>D.rs 2 0 k) fO,aa⟩ ⟨?_,aa⟩) (aG (aA ?_)))
  .exact congrArg (λc=>some (Row.cells c 4)) ((congrArg (λk=>eI k [B false]) fO).trans (Ir _ false))
  rw[<- aj' f.aj.length f.blocks];refine SS ?_
  refine af (cw (λs=>∃ N,aP prog s ⟨aD [],λ_=>none,N⟩/\(range f.blocks.length).all (wg f)=true) (cT (α:=Nat×Nat) (λq=>⟨aD [(1,.pt (aL f)),(4,.pt (cP f (cr L))),(9,.rs 2 0 f.aj.length),(10,I q.1)],bA [(2,.cells ((pW f.aj.length f.blocks q.1).map B) 4)],q.2⟩)
   (λq=>q.1<=f.blocks.length/\3<=q.2/\(range q.1).all (wg f)=true) (λq=>f.blocks.length - q.1) (0,3) (bp eH eH) ⟨Nat.zero_le _,bY _,rfl⟩ ?_) ?_)
  .rintro⟨k,N⟩ ⟨hk,hN3,U⟩;dsimp only at hk hN3 U ⊢;refine bh ?_;refine af ⟨_,rfl,λh=>?_,λh=>?_⟩
   .have ao:k<f.blocks.length:=s0 h
    have hx:f.blocks[k]? =some f.blocks[k]:=aO ao;have xK:=hs.en _ (eh ao)
    have C:wg f k=(!decide ((200:Int)<f.blocks[k].ins.length)&&((range f.blocks[k].ins.length).all (As f k f.blocks[k].ins)&&(jP f f.blocks[k].fin&& !(f.blocks[k].fin.kind==7&&(lD f.blocks k).any (·==f.blocks[k].fin.a))))):=by
     unfold wg;simp only[getD_some hx]
    have gM:wg f k=false->(range f.blocks.length).all (wg f)=false:=λhq=>py ao hq;have eD:=an1 (R:=f.aj.length) hx;have gZ:=λ(i:Nat)=>amp (R:=f.aj.length) (i:=i) hx;have hA:=jl k ao;have xG:∀ {y:cq},aH prog 139 [.agg (cP f (cr L)),.agg (bU y),I k] (B (fu f k (o4 f.blocks f.blocks.length k).length y)):=λ{y}=>xG hA lx AZ Hq;have J:∀ j,As f k f.blocks[k].ins j=(fu f k (o4 f.blocks f.blocks.length k).length (f.blocks[k].ins.getD j eR)&& !(c8 (f.blocks[k].ins.getD j eR)&&(decide (0<j)&& !c8 (f.blocks[k].ins.getD (j - 1) eR)))):=λj=>rfl;generalize o4 f.blocks f.blocks.length k=A at xG J hA;generalize f.blocks[k]=x at hx xK C eD gZ J;have Ob:=Ob (f:=f) (nC L) rfl xK.1 xK.2 hN;refine ws (ek ?_);refine af (aG (al (ax ?_)));refine af (cM rfl (λhp=>?_) λhp=>cI (aG (aA ?_)))
    .refine aG (al (SS ?_));refine af (de (bP (aY (aC (d:=B false) rfl ?_))));rw[gM (by rw[C,hp];rfl)]
    rw[hp,Bool.not_false,Bool.true_and] at C;have gh:x.ins.length<=200:=by have:=of_decide_eq_false hp;omega
    refine SS ?_
    refine af (cw (λs=>aP prog s ⟨aD [(1,.pt (aL f)),(4,.pt (cP f (cr L))),(9,.rs 2 0 f.aj.length),(10,I k)],bA [(2,.cells ((pW f.aj.length f.blocks k).map B) 4)],N⟩/\(range x.ins.length).all (As f k x.ins)=true) (cT (α:=Nat) (λj=>⟨aD [(1,.pt (aL f)),(4,.pt (cP f (cr L))),(9,.rs 2 0 f.aj.length),(10,I k),(11,jo x.ins),(12,I j)],bA [(2,.cells ((pW f.aj.length f.blocks k).map B) 4)],N⟩)
     (λj=>j<=x.ins.length/\(range j).all (As f k x.ins)=true) (λj=>x.ins.length - j) 0 (bp eH eH) ⟨Nat.zero_le _,rfl⟩ ?_) ?_)
    .rintro j ⟨hj,uU⟩;refine aQ ?_;refine af ⟨_,rfl,λh=>?_,λh=>?_⟩
     .have cW:j<x.ins.length:=s0 h
      have hy:x.ins[j]? =some x.ins[j]:=aO cW;have J:=J j;rw[getD_some hy] at J;have X:As f k x.ins j=false->(range f.blocks.length).all (wg f)=false:=λhq=>gM (by rw[C,py cW hq];rfl);have M:As f k x.ins j=true->(range (j+1)).all (As f k x.ins)=true:=λhq=>mn uU hq;generalize x.ins[j]=y at hy J;have xG:= @xG y;generalize fu f k A.length y=v at xG J;rw[J] at X M;clear J;apply c6 iO;cases v with
      |false=>
       refine aX ?_;refine aX ?_;refine bh ?_;(iterate 5 refine z λ_ _=>?_);refine SS ?_;refine bJ bM (aB rfl (λhp=>?_) λhp=>(by cases hp));refine ws (SS ?_);refine af (bj (bP (aY (bP (aY (aC (d:=B false) rfl ?_))))));rw[X rfl]
      |true=>
       rw[Bool.true_and] at X M;by_cases gR:y.op=19
       .have yc:c8 y=true:=by simp[c8,gR]
        rw[yc,Bool.true_and] at X M;have iy:(y.op==19)=true:=by simp[gR]
        cases j with
        |zero=>
         have rP:decide ((0:Int)<((0:Nat):Int))=false:=rfl;refine aX ?_;refine aX ?_;refine ag ?_;(iterate 7 refine z λ_ _=>?_);refine ag ?_;refine bJ bM (aB rfl (λhp=>(by cases hp)) λhp=>cB ?_);refine ax ?_;refine af (aW 1 (bp eH eH) ⟨oG,M rfl⟩ oG)
        |succ i=>
         have rP:decide ((0:Int)<((i+1:Nat):Int))=true:=decide_eq_true oG;have uu:((i+1:Nat):Int) - 1=(i:Int)/\ -9223372036854775808<=(i:Int)/\(i:Int)<=9223372036854775807:=by omega
         have hz:x.ins[i]? =some x.ins[i]:=aO oG;rw[show i+1 - 1=i from rfl,getD_some hz] at X M;generalize x.ins[i]=z at hz X M;refine aX ?_;refine aX ?_;refine aX ?_;refine ag ?_;refine bJ bM (aB rfl (λhp=>?_) λhp=>?_)
         .refine ws (SS ?_);refine af (bj (bP (aY (bP (aY (aC (d:=B false) rfl ?_))))));rw[X (by revert hp;simp[c8])]
         .refine cB (ax ?_);refine af (aW (i+1+1) (bp eH eH) ⟨oG,M (by revert hp;simp[c8])⟩ oG)
       .have yc:c8 y=false:=by simp[c8,gR]
        rw[yc,Bool.false_and] at X M;have iy:(y.op==19)=false:=by simp[gR]
        refine aX ?_;refine aX ?_;refine bh ?_;(iterate 4 refine z λ_ _=>?_);refine ag ?_;refine bJ bM (aB rfl (λhp=>(by cases hp)) λhp=>cB ?_);refine ax ?_;refine af (aW (j+1) (bp eH eH) ⟨oG,M rfl⟩ oG)
     .have bt:¬ j<x.ins.length:=s0 h
      have:j=x.ins.length:=by omega
      subst this;exact⟨bp eH eH,uU⟩
    rintro s ⟨hg,J⟩;rw[J,Bool.true_and] at C;refine⟨_,hg,aA ?_⟩;clear hg xG J hA;let⟨azT,xk,xa,xb,xt,xe,xn,Wr,xs,xw,xo⟩:=x;dsimp only at*
    refine cJ ?_;refine af (br (mq (i:=N) (l:=[(1,.pt (aL f)),(4,.pt (cP f (cr L))),(9,.rs 2 0 f.aj.length),(10,I k),(13,.pt (bq ⟨xk,xa,xb,xt,xe,xn,Wr,xs,xw,xo⟩))]) (ml:=[(2,.cells ((pW f.aj.length f.blocks k).map B) 4)]) r9 ⟨rfl,rfl,yp oG,rfl,nh,aa⟩ ⟨RO oG (ay oG (ay oG rfl)) .map,aa⟩) (al ?_));have cR:= @RU f ⟨xk,xa,xb,xt,xe,xn,Wr,xs,xw,xo⟩;generalize jP f ⟨xk,xa,xb,xt,xe,xn,Wr,xs,xw,xo⟩=v at Ob C cR;refine aQ ?_;refine af (aG (al (ag ?_)));refine af (cM rfl (λhp=>?_) λhp=>cI (al ?_))
    .refine aG (al (SS ?_));refine af (de (bP (aY (aC (d:=B false) rfl ?_))));rw[gM (by rw[C];revert hp;cases v<;>simp)]
    have hv:v=true:=s0 hp
    subst hv;rw[Bool.true_and] at C;refine ax ?_;refine af (aB rfl (λh7=>?_) λh7=>cB ?_)
    .have e7:xk=7:=s0 h7
     let⟨i,hi,e⟩:=(cR rfl).2.2 e7;dsimp only at e;subst e;have gZ:=gZ i e7 rfl;have Eg:(pW f.aj.length f.blocks k)[i]? =some ((lD f.blocks k).any (·==(i:Int))):=LD hi;have qT:=H0 f.aj.length f.blocks k;rw[e7] at C;generalize (lD f.blocks k).any (·==(i:Int))=o at Eg C;generalize pW f.aj.length f.blocks k=O at Eg qT gZ ⊢;have kd:=qo (f:=B) Eg;refine aG (al (bh ?_));refine af (cM rfl (λhp=>?_) λhp=>cI ?_)
     .refine aG (al (SS ?_));refine af (de (bP (aY (aC (d:=B false) rfl ?_))));rw[gM (by rw[C,hp];rfl)]
     .refine gj (bh ?_);refine af (ax ?_);refine af (aW (k+1,N+1) (bp eH ⟨?_,aa⟩) ⟨oM,oM,mn U (by rw[C,hp];rfl)⟩ oM);dsimp only;rw[gZ,map_set];rfl
    .have h7:¬ xk=7:=s0 h7
     have eD:=eD h7;refine ax ?_;refine af (aW (k+1,N+1) (bp eH ⟨?_,aa⟩) ⟨oM,oM,mn U (by rw[C];simp[h7])⟩ oM);dsimp only;rw[eD];rfl
   .have bt:¬ k<f.blocks.length:=s0 h
    have:k=f.blocks.length:=by omega
    subst this;exact⟨N,jB (l:=[]) aa,U⟩
  .rintro s ⟨N,hg,U⟩;refine⟨_,hg,al ?_⟩;refine SS ?_;refine af (aC (d:=B true) rfl ?_);rw[U]
section
def sX(p:Bool×D):List D:=[B p.1,p.2]
def eA(L:List (Bool×D)):List D:=L.flatMap sX
def JQ(c:Cert):Bool×D:=(c.any,lA c.is)
def Fz:∀ L:List (Bool×D),(eA L).length=L.length*2
 |[]=>rfl
 |p::L=>by
  have:=Fz L;unfold eA at this ⊢;rw[flatMap_cons,length_append,this];simp[sX];omega
def Re:∀ {L:List (Bool×D)} {t:Nat} {p:Bool×D},L[t]? =some p->∃ r,(eA L).drop (t*2)=B p.1::p.2::r
 |[],_,_,h=>by simp at h
 |p::L,0,q,h=>by
  simp at h;subst h;exact⟨eA L,rfl⟩
 |p::L,t+1,q,h=>by
  obtain⟨r,hr⟩:=Re (L:=L) (t:=t) (by simpa using h);refine⟨r,?_⟩;rw[show(t+1)*2=t*2+2 by omega];show(B p.1::p.2::eA L).drop (t*2+2)=_;exact hr
def aaS:∀ {L:List (Bool×D)} {t:Nat} (q:Bool×D),t<L.length->(eA L).take (t*2)++[B q.1,q.2]++(eA L).drop (t*2+2)=eA (L.set t q)
 |[],_,_,h=>by simp at h
 |p::L,0,q,h=>rfl
 |p::L,t+1,q,h=>by
  have ih:=aaS (L:=L) (t:=t) q (s0 h);rw[show(t+1)*2=t*2+2 by omega,set_cons_succ];show B p.1::p.2::((eA L).take (t*2)++[B q.1,q.2]++(eA L).drop (t*2+2))=_;rw[ih];rfl
def Qa{L:List (Bool×D)}{t:Nat}(q:Bool×D)(h:t<L.length):jF (eA L) (t*2) [B q.1,q.2]=eA (L.set t q):=aaS q h
variable{L:List (Bool×D)}{t:Nat}{p:Bool×D}
def apc(h:L[t]? =some p):∃ r,(eA L).drop (t*2+0)=B p.1::p.2::r:=Re h
def aaT(h:L[t]? =some p):((eA L).drop (t*2)).take 2=[B p.1,p.2]:=by
 let⟨r,hr⟩:=Re h;rw[hr];rfl
def L4(g:D->D)(hg:∀ b,g (B b)=B b):∀ L:List (Bool×D),(eA L).map g=eA (L.map λp=>(p.1,g p.2))
 |[]=>rfl
 |p::L=>by
  show g (B p.1)::g p.2::(eA L).map g=B p.1::g p.2::_;rw[hg,L4 g hg L];rfl
def l6(n N:Nat)(d:D):Nat->List (Bool×D)
 |0=>replicate N (false,.z)
 |k+1=>(true,d)::(replicate k (true,lA (replicate n false))++replicate (N - (k+1)) (false,.z))
variable{N k:Nat}
def QH{n:Nat}{d:D}(h:k<=N):(l6 n N d k).length=N:=by
 cases k with
 |zero=>simp[l6]
 |succ k=>simp[l6];omega
variable{n:Nat}{d:D}
def an2(h:0<N):(l6 n N d 0).set 0 (true,d)=l6 n N d 1:=by
 obtain⟨M,rfl⟩:∃ M,N=M+1:=⟨N - 1,oG⟩
 simp[l6,replicate_succ]
def an3(h:k+1<N):(l6 n N d (k+1)).set (k+1) (true,lA (replicate n false))=l6 n N d (k+2):=by
 rw[l6,set_cons_succ,show N - (k+1)=N - (k+1+1)+1 by omega,replicate_succ (n:=N - (k+1+1)),set_append_right _ _ oS,length_replicate,Nat.sub_self,set_cons_zero];show _=(true,d)::(replicate (k+1) _++_)
 rw[replicate_succ',append_assoc];rfl
def gJ(R n N:Nat)(s:CS):List (Bool×D):=(range N).map λk=>JQ (dm R n s k)
def Be(R n N:Nat)(s:CS):(gJ R n N s).length=N:=by simp[gJ]
def EY{R n:Nat}{s:CS}(h:k<N):(gJ R n N s)[k]? =some (JQ (dm R n s k)):=by simp[gJ,h]
variable{s:CS}
def aii{R:Nat}{s':CS}{c:Cert}(h:∀ k,dm R n s' k=if k=t then c else dm R n s k):(gJ R n N s).set t (JQ c)=gJ R n N s':=by
 apply ext_getElem?;intro j;rw[getElem?_set,Be];by_cases hj:j<N
 .rw[EY hj,EY hj,h j];by_cases e:t=j
  .subst e;simp[hj]
  .rw[ai e,ai λh=>e h.symm]
 .have h1:∀ s,(gJ R n N s)[j]? =none:=λs=>by simp[gJ];omega
  rw[h1,h1];split
  .rw[ai oG]
  .rfl
def IU(f:az)(s:CS):D:=.sl (eA (gJ f.aj.length (f.aj.length+f.a6.length) f.blocks.length s)) f.blocks.length
def Qb{R:Nat}:(dm R n s k).is.length=n:=by
 unfold dm;split
 .exact Ic ..
 .simp
def ui(a b:Cert)(q:Nat):Bool:=(a.any==b.any)&&(range q).all λi=>a.is.getD i false==b.is.getD i false
def aij(a b:Cert)(q:Nat):ui a b (q+1)=(ui a b q&&(a.is.getD q false==b.is.getD q false)):=by
 unfold ui;rw[List.range_succ,List.all_append,Bool.and_assoc];simp
def akd{a b:Cert}(ha:a.is.length=n)(hb:b.is.length=n):ui a b n=true↔a.any=b.any/\a.is=b.is:=by
 rw[ui,aJ,beq_iff_eq,bK];refine and_congr_right λ_=>⟨λh=>?_,λh k hk=>by rw[h];simp⟩
 apply ext_getElem?;intro j;by_cases hj:j<n
 .have:=h j (s0 hj);have h1:a.is[j]? =some a.is[j]:=aO oG;have h2:b.is[j]? =some b.is[j]:=aO oG;rw[getD_some h1,getD_some h2,beq_iff_eq] at this;rw[h1,h2,this]
 .rw[getElem?_eq_none oG,getElem?_eq_none oG]
def ZH:∀ n:Nat,eI n [B false,.z]=eA (replicate n (false,.z))
 |0=>rfl
 |n+1=>by
  have:=ZH n;unfold eI at this ⊢;rw[replicate_succ,replicate_succ,flatten_cons,this];rfl
def aaU:∀ {L:List (Bool×D)},(∀ p∈L,Tr p.2)->∀ x∈eA L,Tr x
 |[],_,x,h=>by simp[eA] at h
 |p::L,hp,x,h=>by
  have h:x∈B p.1::p.2::eA L:=h;rcases mem_cons.1 h with rfl|h
  .exact .s _
  .rcases mem_cons.1 h with rfl|h
   .exact hp p oS
   .exact aaU (λq hq=>hp q (by simp[hq])) x h
def amq(f:az)(s:CS):Tr (IU f s):=.sl (aaU λp hp=>by
 obtain⟨k,_,rfl⟩:=mem_map.1 hp
 exact .sl (.map λ_=>.s _))
variable{cs:List D}{sz:Nat}
def amr{i:Nat}(h:i≠2)(k:Nat):(l6 n N (.rs 2 0 n) k).map (λp=>(p.1,sub (dq i cs sz) p.2))=l6 n N (.rs 2 0 n) k:=by
 cases k with
 |zero=>simp only[l6,map_replicate];rfl
 |succ k=>
  simp[l6,map_cons,map_append,map_replicate,yp (Ne.symm h)];rfl
def an4{i:Nat}(h:i≠2)(hk:k+1<N):(eA ((l6 n N (.rs 2 0 n) (k+1)).set (k+1) (true,.rs i 0 n))).map (sub (dq i ((replicate n false).map B) 1))=eA (l6 n N (.rs 2 0 n) (k+2)):=by
 rw[L4 _ (λ_=>rfl),map_set,amr h,w8,drop_zero,cX oS, <- an3 hk];congr 3;show _=D.sl _ _;rw[length_replicate]
def sY(n N:Nat):List (Bool×D):=replicate (N - 1) (true,lA (replicate n false))
def an5(h:0<N):l6 n N d N=(true,d)::sY n N:=by
 obtain⟨M,rfl⟩:∃ M,N=M+1:=⟨N - 1,oG⟩
 simp[l6,sY]
def Yz{n:Nat}(h:0<N):(sY n N).length+1=N:=by simp[sY];omega
def awI{i:Nat}:(sY n N).map (λp=>(p.1,sub (dq i cs sz) p.2))=sY n N:=by
 rw[sY,map_replicate];rfl
def ahk{R args:Nat}(h0:dm R n (nD N args) 0=⟨false,replicate args true++replicate (n - args) false⟩)(h1:∀ k,0<k->k<N->dm R n (nD N args) k=⟨true,replicate n false⟩)(C:0<N):
 gJ R n N (nD N args)=(false,lA (replicate args true++replicate (n - args) false))::sY n N:=by
 apply ext_getElem?;intro j;by_cases hj:j<N
 .rw[EY hj];cases j with
  |zero=>rw[h0];rfl
  |succ j=>
   rw[h1 _ oG hj,getElem?_cons_succ];rw[sY,getElem?_replicate,bi oG];rfl
 .rw[getElem?_eq_none (by rw[Be];omega),getElem?_eq_none (by have:=Yz (n:=n) C;simp;omega)]
def Rf{R i:Nat}{e:TypeId}:Row.sub (dq i cs sz) (.cells (eA (gJ R n N s)) e)=.cells (eA (gJ R n N s)) e:=by
 refine congrArg (λc=>Row.cells c e) ((L4 _ (λ_=>rfl) _).trans (congrArg eA ?_));rw[gJ,map_map];rfl
def TG(f:az)(n N:Nat):Nat->St
 |0=>⟨aD [(1,.pt (aL f)),(3,I n),(4,.rs 1 0 N),(5,I (0:Nat))],bA [(1,.cells (eA (l6 n N (.rs 2 0 n) 0)) 163)],2⟩
 |k+1=>⟨aD [(1,.pt (aL f)),(3,I n),(4,.rs 1 0 N),(5,I (k+1:Nat))],bA [(1,.cells (eA (l6 n N (.rs 2 0 n) (k+1))) 163),(2,.cells ((replicate n false).map B) 4)],k+3⟩
end
theorem GW{f:az}(M:NB f)(hw:∀ b∈f.blocks,b.fin.aK.length<=9):aH prog 102 [.agg (aL f)] (IU f (jH f.blocks f.args.toNat)):=by
 have hR:=M.ok.aj;have hS:=M.sl;have hN1:=M.ok.mh;have A1:=M.ok.pos;let⟨a,ha,uG⟩:=M.ar;have Jh:=YA (R:=f.aj.length) (n:=f.aj.length+f.a6.length) (N:=f.blocks.length) (args:=a) hR oG oG A1 uG;rw[ha,eU];refine bx (fo f102) (.cons (.agg (gS f)) .nil) (amq f _) ?_;refine aA (ag ?_);refine af (br (cH [(0,aL f,48)] eH (l:=[(1,.pt (aL f))]) eH) (aA ?_));refine cJ ?_;refine af (br (au (l:=[(1,.pt (aL f)),(3,I ((f.aj.length+f.a6.length:Nat):Int))]) eH) (aA ?_));have Cl:f.aj.length+f.a6.length<=1260:=by omega
 have Ws:f.aj.length<=f.aj.length+f.a6.length:=by omega
 unfold IU;generalize hn:f.aj.length+f.a6.length=n at Jh Cl Ws ⊢;have fO:((f.blocks.length:Nat):Int).toNat=f.blocks.length:=eU _;refine ax ?_;refine di (H5 rfl rfl V.h V.h) ak ⟨oG,rfl,oG,by rw[aez];omega,V.h⟩ (SS ?_);refine af (br (bp (l:=[(1,.pt (aL f)),(3,I n),(4,.rs 1 0 f.blocks.length)]) (ml:=[(1,.cells (eA (l6 n f.blocks.length (.rs 2 0 n) 0)) 163)]) ⟨rfl,rfl,congrArg (λk=>D.rs 1 0 k) fO,aa⟩ ⟨?_,aa⟩) (aG (aA ?_)))
 .exact congrArg (λc=>some (Row.cells c 163)) ((congrArg (λk=>eI k [B false,D.z]) fO).trans (ZH _))
 refine SS ?_;have AJ:((n:Nat):Int).toNat=n:=eU _
 refine af (cw (λs=>∃ N,aP prog s ⟨aD [(1,.pt (aL f)),(3,I n),(4,.rs 1 0 f.blocks.length)],bA [(1,.cells (eA ((true,.rs 2 0 n)::sY n f.blocks.length)) 163),(2,.cells ((replicate n false).map B) 4)],N⟩/\3<=N) (cT (α:=Nat) (TG f n f.blocks.length)
  (λk=>k<=f.blocks.length) (λk=>f.blocks.length - k) 0 (bp eH eH) oG ?_) ?_)
 .intro k hk;have U:=(Fz (l6 n f.blocks.length (.rs 2 0 n) k)).trans (congrArg (·*2) (QH (n:=n) (d:=.rs 2 0 n) hk));cases k with
  |zero=>
   show aE _ _ _ _ _ _ _ _ _;unfold TG;refine aQ ?_;refine af ⟨_,rfl,λh=>?_,λh=>?_⟩
   .apply gj;have u7:=Qa (L:=l6 n f.blocks.length (.rs 2 0 n) 0) (t:=0) (true,.rs 2 0 n) (by rw[QH hk];exact A1);rw[an2 A1] at u7;refine cz ?_;refine dH (jV (vs:=[B true,.rs 2 0 n]) rfl rfl rfl u7) aM (eO t163 pj ⟨rfl,by rw[U];omega⟩ rfl) (af (ax ?_));refine af (aW 1 (bp eH ⟨rfl,?_,aa⟩) oG oG)
    .exact congrArg (λc=>some (Row.cells c 4)) ((congrArg (λk=>eI k [B false]) AJ).trans (Ir _ false))
   .exact absurd (of_decide_eq_false h) oG
  |succ k=>
   show aE _ _ _ _ _ _ _ _ _;unfold TG;refine aQ ?_;refine af ⟨_,rfl,λh=>?_,λh=>?_⟩
   .have ao:k+1<f.blocks.length:=by have:=of_decide_eq_true h;omega
    apply gj;have u7:=Qa (L:=l6 n f.blocks.length (.rs 2 0 n) (k+1)) (t:=k+1) (true,.rs (k+3) 0 n) (by rw[QH hk];exact ao);refine cz ?_;refine dH (jV (vs:=[B true,.rs (k+3) 0 n]) rfl rfl (ay oG rfl) u7) aM (eO t163 pj ⟨rfl,by rw[U];omega⟩ rfl) (af (ax ?_));refine af (aW (k+2) (mq (i:=k+3) (e:=4) (cs:=(replicate n false).map B) (ay oG ?_) ⟨rfl,rfl,yp oG,rfl,aa⟩ ⟨?_,RO oG (ay oG (ay oG rfl)) .map,aa⟩) oG oG)
    .exact(aw _ _ _).trans (congrArg (λc=>some (Row.cells c 4)) ((congrArg (λk=>eI k [B false]) AJ).trans (Ir _ false)))
    .rw[c4];refine(ai (show ¬ 1=k+3 by omega)).trans ?_;exact(congrArg (Option.map _) r9).trans (congrArg (λc=>some (Row.cells c 163)) (an4 oG ao))
   .have bt:¬ k+1<f.blocks.length:=by have:=of_decide_eq_false h;omega
    have hkN:k+1=f.blocks.length:=by omega
    refine⟨k+3,bp eH ⟨?_,rfl,aa⟩,oG⟩;rw[<- an5 A1, <- hkN];rfl
 rintro s ⟨N3,hg,hN3⟩;have eM:=Yz (n:=n) A1;have EO:=ahk Jh.2.1 Jh.2.2 A1;have Wt:∀ cs sz,(sY n f.blocks.length).map (λp=>(p.1,sub (dq 2 cs sz) p.2))=sY n f.blocks.length:=λcs sz=>awI;have U:=Fz (sY n f.blocks.length);generalize sY n f.blocks.length=T at hg eM EO Wt U;refine⟨_,hg,aA ?_⟩;refine aQ ?_;refine af (br (bp (l:=[(1,.pt (aL f)),(3,I n),(4,.rs 1 0 f.blocks.length)]) (ml:=[(1,.cells (eA ((false,.rs 2 0 n)::T)) 163),(2,.cells ((replicate 0 true++replicate (n - 0) false).map B) 4)]) eH eH) (aG (aA ?_)));refine SS ?_
 refine af (cw (λs=>aP prog s ⟨aD [(1,.pt (aL f)),(3,I n),(4,.rs 1 0 f.blocks.length)],bA [(1,.cells (eA ((false,.rs 2 0 n)::T)) 163),(2,.cells ((replicate a true++replicate (n - a) false).map B) 4)],N3⟩) (cT (α:=Nat) (λr=>⟨aD [(1,.pt (aL f)),(3,I n),(4,.rs 1 0 f.blocks.length),(6,I r)],bA [(1,.cells (eA ((false,.rs 2 0 n)::T)) 163),(2,.cells ((replicate r true++replicate (n - r) false).map B) 4)],N3⟩)
  (λr=>r<=a) (λr=>a - r) 0 (bp eH eH) oG ?_) ?_)
 .intro r hr;refine aQ ?_;refine af ⟨_,rfl,λh=>?_,λh=>?_⟩
  .have ao:r<a:=by have:=of_decide_eq_true h;omega
   have zn:=RP (x:=true) (y:=false) (n:=n) (k:=r) oG;have uH:(replicate r true++replicate (n - r) false).length=n:=by simp;omega
   refine gj (ek ?_);refine af (ax ?_);refine af (aW (r+1) (bp eH ⟨rfl,?_,aa⟩) oG oG);rw[<- zn,map_set];rfl
  .have bt:¬ r<a:=by have:=of_decide_eq_false h;omega
   have:r=a:=by omega
   subst this;exact bp eH eH
 clear hg;rintro s hg;refine⟨_,hg.trans (mq (i:=2) (e:=4) (cs:=(replicate a true++replicate (n - a) false).map B) (l:=[(1,.pt (aL f)),(3,I n),(4,.rs 1 0 f.blocks.length)]) (ml:=[(1,.cells (eA (gJ f.aj.length n f.blocks.length (nD f.blocks.length a))) 163)]) rfl eH ⟨?_,aa⟩),aG (aA ?_)⟩
 .rw[c4,EO];refine congrArg (λc=>some (Row.cells c 163)) ((L4 _ (λ_=>rfl) _).trans (congrArg eA ?_));rw[map_cons,Wt,w8,drop_zero,cX oP];have:(replicate a true++replicate (n - a) false).length=n:=by simp;omega
  show(false,D.sl _ n)::T=(false,D.sl _ (length _))::T;rw[this]
 clear hg eM EO Wt U T;refine SS ?_;have hG0:=Jh.1;clear Jh;have hRR:jH f.blocks a=nY f.blocks (uV (nD f.blocks.length a)+1) (nD f.blocks.length a):=rfl;generalize jH f.blocks a=RR at hRR ⊢
 refine af (cw (λs=>∃ N,aP prog s ⟨aD [(4,.rs 1 0 f.blocks.length)],bA [(1,.cells (eA (gJ f.aj.length n f.blocks.length RR)) 163)],N⟩) (LQ (α:=CS×Nat)
  (λs=>⟨aD [(1,.pt (aL f)),(3,I n),(4,.rs 1 0 f.blocks.length),(7,B s.1.ch)],bA [(1,.cells (eA (gJ f.aj.length n f.blocks.length s.1)) 163)],s.2⟩)
  (λs=>uj f.aj.length n f.blocks.length s.1/\2<=s.2/\(s.1.ch=true->∃ k,uV s.1<k/\nY f.blocks k s.1=RR)/\(s.1.ch=false->s.1=RR)) (λs=>2*uV s.1+if s.1.ch=true then 1 else 0) (nD f.blocks.length a,N3)
  (bp eH eH) ⟨hG0,oM,λ_=>⟨_,Nat.lt_succ_self _,hRR.symm⟩,λh=>by cases h⟩ ?_) ?_)
 .rintro⟨C,N0⟩ ⟨hG,aeA,qe,JH⟩;dsimp only at hG aeA qe JH ⊢;refine SS ?_;refine af ⟨_,rfl,λh0=>?_,λh=>?_⟩
  .let⟨eY,ary,Je⟩:=qe h0;obtain⟨eY,rfl⟩:∃ j,eY=j+1:=⟨eY - 1,oG⟩
   have Jf:=HI M.ok.cn hG.ok;refine ws (SS ?_);refine af (aA (SS ?_))
   refine af (cT (α:=Nat×Nat)
    (λk=>⟨aD [(1,.pt (aL f)),(3,I n),(4,.rs 1 0 f.blocks.length),(7,B ((range k.1).foldl (eK f.blocks) ⟨C.wsq,C.re,false⟩).ch),(8,I k.1)],bA [(1,.cells (eA (gJ f.aj.length n f.blocks.length ((range k.1).foldl (eK f.blocks) ⟨C.wsq,C.re,false⟩))) 163)],k.2⟩)
    (λk=>k.1<=f.blocks.length/\2<=k.2/\uj f.aj.length n f.blocks.length ((range k.1).foldl (eK f.blocks) ⟨C.wsq,C.re,false⟩)) (λk=>f.blocks.length - k.1) (0,N0) (bp eH eH) ⟨Nat.zero_le _,aeA,aaV hG false⟩ ?_)
   rintro⟨k,N⟩ ⟨hk,hN,EP⟩;dsimp only at hk hN EP ⊢;have dF:(range (k+1)).foldl (eK f.blocks) ⟨C.wsq,C.re,false⟩=eK f.blocks ((range k).foldl (eK f.blocks) ⟨C.wsq,C.re,false⟩) k:=by rw[range_succ,foldl_append];rfl
   have pS:k=f.blocks.length->(range k).foldl (eK f.blocks) ⟨C.wsq,C.re,false⟩=lU f.blocks C:=λe=>by rw[e,lU]
   generalize (range k).foldl (eK f.blocks) ⟨C.wsq,C.re,false⟩=u at EP dF pS;refine aQ ?_;refine af ⟨_,rfl,λh=>?_,λh=>?_⟩
   .have ao:k<f.blocks.length:=s0 h
    have hx:f.blocks[k]? =some f.blocks[k]:=aO ao;have X:f.blocks[k]∈f.blocks:=eh _;generalize f.blocks[k]=x at hx X;have J:eK f.blocks u k=if u.re.getD k false=true then(nextR x.fin).foldl (dD x.fin (lB x (u.wsq.getD k [])).1) u else u:=by rw[eK,hx]
    have HD:=EY (R:=f.aj.length) (n:=n) (s:=u) ao;let⟨rr,kd⟩:=apc HD;have A7:=aaT HD;have U:=(Fz (gJ f.aj.length n f.blocks.length u)).trans (congrArg (·*2) (Be f.aj.length n f.blocks.length u));have KH:dm f.aj.length n u k=if u.re.getD k false=true then⟨false,dk f.aj.length n (u.wsq.getD k [])⟩ else⟨true,replicate n false⟩:=rfl
    have Pt:=EP.yes k ao;have aeB:=EP.ok.aeC ao;refine aG (al ?_);cases tJ:u.re.getD k false with
    |false=>
     rw[tJ] at KH J;rw[KH] at kd;have J:eK f.blocks u k=u:=J;have kd:(eA (gJ f.aj.length n f.blocks.length u)).drop (k*2+0)=B true::lA (replicate n false)::rr:=kd;refine bh ?_;refine af (cM rfl (λh=>rh (yP ?_)) λh=>oH);refine ax ?_;refine af (aW (k+1,N) (bp ⟨rfl,rfl,rfl,?_,rfl,aa⟩ ⟨?_,aa⟩) ⟨oM,hN,?_⟩ oM)
     .dsimp only;rw[dF,J];rfl
     .dsimp only;rw[dF,J];rfl
     .dsimp only;rw[dF,J];exact EP
    |true=>
    rw[tJ] at KH J;rw[KH] at kd A7;have J:eK f.blocks u k=(nextR x.fin).foldl (dD x.fin (lB x (u.wsq.getD k [])).1) u:=J;have Pt:=Pt tJ;generalize u.wsq.getD k []=w at KH J kd A7 Pt aeB;have kd:(eA (gJ f.aj.length n f.blocks.length u)).drop (k*2+0)=B false::lA (dk f.aj.length n w)::rr:=kd;refine bh ?_;refine af (cM rfl (λh=>oH) λh=>cI (zK iO ?_));have hla:(dk f.aj.length n w).length=n:=Ic ..;let⟨q1,q2,q3⟩:=Ie (R:=f.aj.length) (n:=n) hR oG Ws (l:=x.ins) (ok:=true) (λy hy=>hn▸(M.ins x X y hy).1) aeB Pt;have AG:aH prog 109 [.agg (aL f),I k,.agg (dn ⟨false,dk f.aj.length n w⟩)] (.agg (dn (gL f.aj.length x.ins ⟨false,dk f.aj.length n w⟩))):=AG hx (by rw[hn];exact hla) (by show(dk f.aj.length n w).length<=_;omega) (λy hy=>(M.ins x X y hy).1) (by have:=(M.ok.cn x X).len;omega);rw[q1] at AG;have Kt:(lB x w).1=(x.ins.foldl o8 (w,true)).1:=rfl;rw[Kt] at J;clear Kt;generalize (x.ins.foldl o8 (w,true)).1=w' at q1 q2 q3 AG J;refine bh ?_;refine aI (gA rfl rfl xF pj A7) aM (gB t163 pj (by rw[U];omega)) (ax ?_);have awJ:(dk f.aj.length n w').length=n:=Ic ..;refine bJ bM (br (mq (i:=N) (l:=[(1,.pt (aL f)),(3,I n),(4,.rs 1 0 f.blocks.length),(7,B u.ch),(8,I k),(9,.pt (dn ⟨false,dk f.aj.length n w'⟩))]) (ml:=[(1,.cells (eA (gJ f.aj.length n f.blocks.length u)) 163)]) r9 ⟨rfl,rfl,yp oG,rfl,rfl,nh,aa⟩ ⟨zP oG (ay oG (ay oG rfl)) Rf,aa⟩) (al ?_));have zs:=zs hx (by have:=hw x X;omega);rw[(M.ed x X).2] at zs;have iG:=(M.ok.cn x X).to;have gu:=Lf x.fin;have hwx:=hw x X;have u6:=M.wr x X;have JZ:=(M.ed x X).1;generalize nextR x.fin=l at zs iG gu J;refine aQ ?_;refine af (aA (SS ?_))
    refine af (cT (α:=Nat×Nat)
     (λj=>⟨aD [(1,.pt (aL f)),(3,I n),(4,.rs 1 0 f.blocks.length),(7,B ((l.take j.1).foldl (dD x.fin w') u).ch),(8,I k),(9,.pt (dn ⟨false,dk f.aj.length n w'⟩)),(10,aU l),(11,I j.1)],bA [(1,.cells (eA (gJ f.aj.length n f.blocks.length ((l.take j.1).foldl (dD x.fin w') u))) 163)],j.2⟩)
     (λj=>j.1<=l.length/\2<=j.2/\uj f.aj.length n f.blocks.length ((l.take j.1).foldl (dD x.fin w') u)) (λj=>l.length - j.1) (0,N+1) (bp eH eH) ⟨Nat.zero_le _,oM,EP⟩ ?_)
    clear A7 U;rintro⟨j,N'⟩ ⟨hj,Pk,Pu⟩;dsimp only at hj Pk Pu ⊢;have gX:∀ t,l[j]? =some t->(l.take (j+1)).foldl (dD x.fin w') u=dD x.fin w' ((l.take j).foldl (dD x.fin w') u) t:=λt ht=>ve ht;have w9:j=l.length->(l.take j).foldl (dD x.fin w') u=eK f.blocks u k:=λe=>by rw[J,cX oG]
    generalize (l.take j).foldl (dD x.fin w') u=v at Pu gX w9;refine aQ ?_;refine af ⟨_,rfl,λh=>?_,λh=>?_⟩
    .have cW:j<l.length:=s0 h
     have ht:l[j]? =some l[j]:=aO cW;have xZ:=iG _ (eh cW);generalize l[j]=t at ht xZ;obtain⟨i,rfl⟩:=jy xZ.1;have cR:i<f.blocks.length:=by omega
     have HD:=EY (R:=f.aj.length) (n:=n) (s:=v) cR;have A7:=aaT HD;have U:=(Fz (gJ f.aj.length n f.blocks.length v)).trans (congrArg (·*2) (Be f.aj.length n f.blocks.length v));have u7:=λq=>Qa (L:=gJ f.aj.length n f.blocks.length v) (t:=i) q (by rw[Be];exact cR);let⟨Wu,nV⟩:=aaW (R:=f.aj.length) (n:=n) hR oG Ws Pu JZ u6 cR q2 q3;have gX:=gX _ ht
     have Cc:aH prog 108 [.agg (aL f),I k,I i,.agg (dn ⟨false,dk f.aj.length n w'⟩)] (.agg (dn (qH x.fin i ⟨false,dk f.aj.length n w'⟩))):=Cc hx oG (by show(dk f.aj.length n w').length<=_;omega) (by
      rcases u6 with e|⟨r,h1,h2⟩
      .exact .inl e
      .exact .inr ⟨r,by show r<(dk f.aj.length n w').length;omega,h2⟩)
     have qT:(qH x.fin i ⟨false,dk f.aj.length n w'⟩).is.length=n:=(Yx ..).trans awJ;have dB:(dm f.aj.length n v i).is.length=n:=Qb;have GV:=GV (a:=dm f.aj.length n v i) (b:=qH x.fin i ⟨false,dk f.aj.length n w'⟩) (by rw[dB,qT]) oG;unfold GX at nV
     have iL:(uh (dm f.aj.length n v i) (qH x.fin i ⟨false,dk f.aj.length n w'⟩)).is.length=n:=by
      unfold uh;split
      .exact qT
      .split
       .exact dB
       .show(zipWith _ _ _).length=n;rw[length_zipWith];omega
     generalize uh (dm f.aj.length n v i) (qH x.fin i ⟨false,dk f.aj.length n w'⟩)=now at GV nV iL;generalize qH x.fin i ⟨false,dk f.aj.length n w'⟩=ov at Cc GV qT;generalize azU:dm f.aj.length n v i=pw at GV nV dB A7;have A7:((eA (gJ f.aj.length n f.blocks.length v)).drop (i*2)).take 2=dn pw:=A7;refine aA (cz ?_);refine aI (gA rfl rfl xF pj A7) aM (gB t163 pj (by rw[U];omega)) (ag ?_);refine af (br (mq (i:=N') (l:=[(1,.pt (aL f)),(3,I n),(4,.rs 1 0 f.blocks.length),(7,B v.ch),(8,I k),(9,.pt (dn ⟨false,dk f.aj.length n w'⟩)),(10,aU l),(11,I j),(12,.pt (dn pw))]) (ml:=[(1,.cells (eA (gJ f.aj.length n f.blocks.length v)) 163)]) r9 ⟨rfl,rfl,yp oG,rfl,rfl,rfl,rfl,rfl,nh,aa⟩ ⟨zP oG (ay oG (ay oG rfl)) Rf,aa⟩) (zK (hD [(0,8)]) ?_));refine aX ?_;refine ax ?_;refine bJ bM (br (mq (i:=N'+1) (l:=[(1,.pt (aL f)),(3,I n),(4,.rs 1 0 f.blocks.length),(7,B v.ch),(8,I k),(9,.pt (dn ⟨false,dk f.aj.length n w'⟩)),(10,aU l),(11,I j),(12,.pt (dn pw)),(13,.pt (dn now))]) (ml:=[(1,.cells (eA (gJ f.aj.length n f.blocks.length v)) 163)]) r9 ⟨rfl,rfl,yp oG,rfl,rfl,rfl,rfl,rfl,rfl,nh,aa⟩ ⟨zP oG (ay oG (ay oG rfl)) Rf,aa⟩) (al ?_));refine aQ ?_;refine aI (abk rfl rfl) ak V.h (SS ?_);refine af (aG (aA (SS ?_)))
     refine af (cw (λs=>aP prog s ⟨aD [(1,.pt (aL f)),(3,I n),(4,.rs 1 0 f.blocks.length),(7,B v.ch),(8,I k),(9,.pt (dn ⟨false,dk f.aj.length n w'⟩)),(10,aU l),(11,I j),(13,.pt (dn now)),(14,B (ui pw now n))],bA [(1,.cells (eA (gJ f.aj.length n f.blocks.length v)) 163)],N'+2⟩) (cT (α:=Nat) (λq=>⟨aD [(1,.pt (aL f)),(3,I n),(4,.rs 1 0 f.blocks.length),(7,B v.ch),(8,I k),(9,.pt (dn ⟨false,dk f.aj.length n w'⟩)),(10,aU l),(11,I j),(12,.pt (dn pw)),(13,.pt (dn now)),(14,B (ui pw now q)),(15,I q)],bA [(1,.cells (eA (gJ f.aj.length n f.blocks.length v)) 163)],N'+2⟩)
      (λq=>q<=n) (λq=>n - q) 0 (bp ⟨rfl,rfl,rfl,rfl,rfl,rfl,rfl,rfl,rfl,rfl,?_,rfl,aa⟩ eH) oG ?_) ?_)
     .show B (pw.any==now.any)=B (ui pw now 0);rw[ui,range_zero,all_nil,Bool.and_true]
     .intro q hq;have AZ:=aij pw now q;have hlq:q=n->ui pw now q=ui pw now n:=λe=>by rw[e]
      generalize ui pw now q=sq at AZ hlq;refine ax ?_;refine af ⟨_,rfl,λh=>?_,λh=>?_⟩
      .have Cz:q<n:=s0 h
       have Hn:pw.is[q]? =some pw.is[q]:=aO oG;have Hb:now.is[q]? =some now.is[q]:=aO oG;rw[getD_some Hn,getD_some Hb] at AZ;generalize pw.is[q]=b1 at Hn AZ;generalize now.is[q]=b2 at Hb AZ;apply Bp iO;cases sq with
       |false=>
        refine ag ?_;(iterate 11 refine z λ_ _=>?_);refine ag ?_;refine bJ bM (ax ?_);refine af (aW (q+1) (bp ⟨rfl,rfl,rfl,rfl,rfl,rfl,rfl,rfl,rfl,rfl,?_,rfl,aa⟩ eH) oG oG);rw[AZ];rfl
       |true=>
        refine aX ?_;refine cz ?_;refine bJ bM (ax ?_);refine af (aW (q+1) (bp ⟨rfl,rfl,rfl,rfl,rfl,rfl,rfl,rfl,rfl,rfl,?_,rfl,aa⟩ eH) oG oG);rw[AZ];rfl
      .have bt:¬ q<n:=s0 h
       rw[<- hlq oG];exact bp eH eH
     rintro s1 J3;have cZ:=akd dB iL;generalize ui pw now n=sq at J3 cZ;refine⟨_,J3,al ?_⟩;clear J3;refine ag ?_;refine af (aB rfl (λhp=>?_) λhp=>cB ?_)
     .have VM:¬ (pw.any=now.any/\pw.is=now.is):=λh=>by rw[cZ.2 h] at hp;cases hp
      have u7:=u7 (JQ now);rcases nV with⟨nV,_⟩|⟨_,me,Eu⟩
      .exact absurd ⟨congrArg Cert.any nV.symm,congrArg Cert.is nV.symm⟩ VM
      rw[aii Eu] at u7;refine c6 iO (ek ?_);refine dH (jV (vs:=dn now) rfl rfl rfl u7) aM (eO t163 pj ⟨rfl,by rw[U];omega⟩ rfl) (bJ bM (gj ?_));refine SS ?_;refine af (ax ?_);refine af (aW (j+1,N'+2) (bp ⟨rfl,rfl,rfl,?_,rfl,rfl,rfl,rfl,aa⟩ ⟨?_,aa⟩) ⟨oM,oM,?_⟩ oM)
      .dsimp only;rw[gX,me];rfl
      .dsimp only;rw[gX];rfl
      .dsimp only;rw[gX];exact Wu
     .have hsq:sq=true:=s0 hp
      have Pg:=cZ.1 hsq;rcases nV with⟨_,nV⟩|⟨aR,_,_⟩
      .rw[nV] at gX Wu;refine ax ?_;refine af (aW (j+1,N'+2) (bp ⟨rfl,rfl,rfl,?_,rfl,rfl,rfl,rfl,aa⟩ ⟨?_,aa⟩) ⟨oM,oM,?_⟩ oM)
       .dsimp only;rw[gX];rfl
       .dsimp only;rw[gX];rfl
       .dsimp only;rw[gX];exact Wu
      .exfalso;rcases aR with h|h
       .exact h Pg.1.symm
       .exact h Pg.2.symm
    .have bt:¬ j<l.length:=s0 h
     have vl:=w9 oG;subst vl;show aE _ _ _ _ _ _ _ _ _;refine ax ?_;refine af (aW (k+1,N') (bp ⟨rfl,rfl,rfl,?_,rfl,aa⟩ ⟨?_,aa⟩) ⟨oM,Pk,?_⟩ oM)
     .dsimp only;rw[dF];rfl
     .dsimp only;rw[dF];rfl
     .dsimp only;rw[dF];exact Pu
   .have bt:¬ k<f.blocks.length:=s0 h
    have hl:=pS oG;subst hl;refine aW (lU f.blocks C,N) (bp eH eH) ⟨EP,hN,λhc=>?_,λhc=>?_⟩ ?_
    .refine⟨eY,?_,?_⟩
     .have:=Jf.2;unfold su at this;show uV (lU f.blocks C)<eY;rw[bi hc] at this;omega
     .dsimp only at hc ⊢;rw[<- Je,nY,bi hc]
    .dsimp only at hc ⊢;rw[<- Je,nY,ai (by simp[hc])]
    .have:=Jf.2;unfold su at this;dsimp only;rw[bi h0];split at this<;>rename_i hc
     .rw[bi hc];omega
     .rw[ai hc];omega
  .have Kp:=JH h;subst Kp;exact⟨N0,bp eH eH⟩
 .rintro s ⟨N4,hg⟩;refine⟨_,hg,aA ?_⟩;refine ag ?_;refine af (br (cH [(1,eA (gJ f.aj.length n f.blocks.length RR),163)] eH (l:=[(2,.sl (eA (gJ f.aj.length n f.blocks.length RR)) f.blocks.length)]) ⟨?_,aa⟩) (aC rfl rfl));show sub (dq 1 _ (prog.cellsOf 163)) (D.rs 1 0 f.blocks.length)=_;rw[lS (by rw[pj,Fz,Be])]
@[simp] theorem XB (p : Bool × D) : (sX p).length = 2 := rfl
theorem ahl{f:az}(h:iX f=true):∀ b∈f.blocks,gD f b.fin=true:=fun b hb=>by
 unfold iX at h;simp only[aJ] at h;let⟨_,_,_,C,_⟩:=h;let⟨k,hk⟩:=cV hb;have:=bK.1 C k (by simpa using(bQ.1 hk).1);unfold kD at this;simp only[getD_some hk,aJ] at this;exact this.1
def Km{f:az}(hs:Nx f)(hw:∀ b∈f.blocks,b.fin.aK.length<=9):aH prog 66 [.agg (aL f)] (I (eF f)):=by
 rw[<- ake];have GU:=GU hs hw;have Oz:SB f=if zU f=true then(if(range f.blocks.length).all (uk f (jH f.blocks f.args.toNat))=true then 0 else 81) else 80:=rfl
 refine bx (fo f66) (.cons (.agg (gS f)) .nil) (Tr.s _) ?_;rw[Oz];clear Oz;refine aA (ag ?_);refine af (br (cH [(0,aL f,48)] eH (l:=[(1,.pt (aL f))]) eH) (al ?_));cases hf:zU f with
 |false=>
  rw[hf] at GU;refine ax ?_;refine af (aG (al (ag ?_)));refine af (wY ?_);refine aG (al (SS ?_));exact af (de (aC rfl rfl))
 |true=>
 rw[hf] at GU;rw[bi rfl];rw[XM] at hf;have he:=ahl hf;have J:=adq hf;have GW:=GW J hw;have hR:=J.ok.aj;have hS:=J.sl;have hN1:=J.ok.mh;have Cb:=Cb (f:=f) rfl oG hw (λb hb t ht=>by rw[(J.ed b hb).2] at ht;exact(J.ok.cn b hb).to t ht)
 have hLg:∀ k,k<f.blocks.length->(tQ f.blocks)[k]? =some (cY f.blocks f.blocks.length k):=λk hk=>by
  rw[<- YB he];simp[tQ,hk]
 have Hq:(tQ f.blocks).length=f.blocks.length:=by simp[tQ]
 generalize tQ f.blocks=L at Cb hLg Hq
 have hCD:IU f (jH f.blocks f.args.toNat)=.sl ((gJ f.aj.length (f.aj.length+f.a6.length) f.blocks.length (jH f.blocks f.args.toNat)).flatMap sX) (gJ f.aj.length (f.aj.length+f.a6.length) f.blocks.length (jH f.blocks f.args.toNat)).length:=by
  rw[IU,Be];rfl
 rw[hCD] at GW;clear hCD;generalize jH f.blocks f.args.toNat=RR at GW ⊢;have Wv:∀ k,k<f.blocks.length->(gJ f.aj.length (f.aj.length+f.a6.length) f.blocks.length RR)[k]? =some (JQ (dm f.aj.length (f.aj.length+f.a6.length) RR k)):=λk hk=>EY hk;have hCl:=Be f.aj.length (f.aj.length+f.a6.length) f.blocks.length RR;generalize gJ f.aj.length (f.aj.length+f.a6.length) f.blocks.length RR=CP at GW Wv hCl;refine ax ?_;refine af (aG (al (ag ?_)));refine af (sT (cI (al ?_)));refine ax ?_;refine er (ax ?_);refine af (aG (aA (SS ?_)))
 refine af (cw (λs=>(∃ N,aP prog s ⟨aD [],λ_=>none,N⟩)/\(range f.blocks.length).all (uk f RR)=true) (cT (α:=Nat×Nat) (λq=>⟨aD [(1,.pt (aL f)),(4,.sl (CP.flatMap sX) CP.length),(5,cr L),(6,I q.1)],λ_=>none,q.2⟩)
  (λq=>q.1<=f.blocks.length/\(range q.1).all (uk f RR)=true) (λq=>f.blocks.length - q.1) (0,1) (jB eH) ⟨Nat.zero_le _,rfl⟩ ?_) ?_)
 .rintro⟨k,N⟩ ⟨hk,bd⟩;dsimp only at hk bd ⊢;refine bh ?_;refine af ⟨_,rfl,λh=>?_,λh=>?_⟩
  .have ao:k<f.blocks.length:=s0 h
   have hx:f.blocks[k]? =some f.blocks[k]:=aO ao;have dW:f.blocks[k]∈f.blocks:=eh _;have HD:=Wv k ao;have gM:uk f RR k=false->(if(range f.blocks.length).all (uk f RR)=true then(0:Int) else 81)=81:=λhq=>by rw[py ao hq];rfl
   have CD:uk f RR k=((dm f.aj.length (f.aj.length+f.a6.length) RR k).any||((range f.blocks[k].ins.length).all (D8 f RR k f.blocks[k].ins (dm f.aj.length (f.aj.length+f.a6.length) RR k))&&wB (gL f.aj.length f.blocks[k].ins (dm f.aj.length (f.aj.length+f.a6.length) RR k)) (dM f.blocks[k].fin))):=by
    unfold uk;simp only[getD_some hx]
   have dB:(dm f.aj.length (f.aj.length+f.a6.length) RR k).is.length=f.aj.length+f.a6.length:=Qb;generalize f.blocks[k]=x at hx dW CD;generalize dm f.aj.length (f.aj.length+f.a6.length) RR k=c at HD CD dB;let⟨ca,C⟩:=c;refine aG (al ?_);cases ca with
   |true=>
    refine bh ?_;refine af (cM rfl (λh=>rh (yP ?_)) λh=>oH);refine ax ?_;exact af (aW (k+1,N) (jB eH) ⟨oM,mn bd CD⟩ oM)
   |false=>
   refine bh ?_;refine af (cM rfl (λh=>oH) λh=>cI (aA ?_));rw[show({ any:=false,is:=C }:Cert).any=false from rfl,Bool.false_or] at CD;refine cz ?_;refine af (br (bp (l:=[(1,.pt (aL f)),(4,.sl (CP.flatMap sX) CP.length),(5,cr L),(6,I k),(7,.rp N 0)]) (ml:=[(N,.cells (dn ⟨false,C⟩) 163)]) eH ⟨aw _ _ _,aa⟩) (al ?_));refine ek ?_;have dd:=(J.ok.cn x dW).len;have awM:=J.ins x dW;have D2:=J.Pq k x hx;have hAg:=hLg k ao;have awN:=K2 (λb hb t ht=>((J.ok.cn b hb).to t ht).1) f.blocks.length k;have atm:=J.ok.cn;have U:∀ y q,um f RR k y q=um f RR k y q:=λ_ _=>rfl;refine af (aG (aA (SS ?_)))
   refine af (cw (λs=>∃ N',aP prog s ⟨aD [(1,.pt (aL f)),(4,.sl (CP.flatMap sX) CP.length),(5,cr L),(6,I k),(7,.rp N 0)],bA [(N,.cells (dn (gL f.aj.length x.ins ⟨false,C⟩)) 163)],N'⟩/\N<N'/\(range x.ins.length).all (D8 f RR k x.ins ⟨false,C⟩)=true) (cT (α:=Nat×Nat) (λj=>⟨aD [(1,.pt (aL f)),(4,.sl (CP.flatMap sX) CP.length),(5,cr L),(6,I k),(7,.rp N 0),(8,jo x.ins),(9,I j.1)],bA [(N,.cells (dn (gL f.aj.length (x.ins.take j.1) ⟨false,C⟩)) 163)],j.2⟩)
    (λj=>j.1<=x.ins.length/\N<j.2/\(range j.1).all (D8 f RR k x.ins ⟨false,C⟩)=true) (λj=>x.ins.length - j.1) (0,N+1) (bp eH ⟨aw _ _ _,aa⟩) ⟨Nat.zero_le _,Nat.lt_succ_self _,rfl⟩ ?_) ?_)
   .rintro⟨j,M⟩ ⟨hj,hM,uU⟩;dsimp only at hj hM uU ⊢;have cx:∀ y,x.ins[j]? =some y->gL f.aj.length (x.ins.take (j+1)) ⟨false,C⟩=Ar f.aj.length (gL f.aj.length (x.ins.take j) ⟨false,C⟩) y:=λy hy=>ve hy;have pS:j=x.ins.length->gL f.aj.length (x.ins.take j) ⟨false,C⟩=gL f.aj.length x.ins ⟨false,C⟩:=λe=>by rw[e,take_length]
    have CC:=(HY f.aj.length (x.ins.take j) ⟨false,C⟩).trans dB;have cQ:D8 f RR k x.ins ⟨false,C⟩ j=(opsV f.aj.length (gL f.aj.length (x.ins.take j) ⟨false,C⟩) (x.ins.getD j eR)&&GY f RR k (x.ins.getD j eR)):=rfl;generalize gL f.aj.length (x.ins.take j) ⟨false,C⟩=d at cx pS CC cQ;refine aQ ?_;refine af ⟨_,rfl,λh=>?_,λh=>?_⟩
    .have cW:j<x.ins.length:=s0 h
     have hy:x.ins[j]? =some x.ins[j]:=aO cW;have cx:=cx _ hy;rw[getD_some hy] at cQ;have EQ:=awM _ (eh cW);have yc:=D2 j _ hy;have xh:D8 f RR k x.ins ⟨false,C⟩ j=false->(if(range f.blocks.length).all (uk f RR)=true then(0:Int) else 81)=81:=λhq=>gM (by rw[CD,py cW hq];rfl);generalize x.ins[j]=y at hy cx cQ EQ yc;refine aA (cz ?_);refine af (br (mq (i:=M) (l:=[(1,.pt (aL f)),(4,.sl (CP.flatMap sX) CP.length),(5,cr L),(6,I k),(7,.rp N 0),(8,jo x.ins),(9,I j),(10,.pt (bU y))]) (ml:=[(N,.cells (dn d) 163)]) r9 ⟨rfl,rfl,rfl,rfl,lz oG,rfl,rfl,nh,aa⟩ ⟨zP oG (ay oG (ay oG r9)) rfl,aa⟩) (fS (λs=>aP prog s ⟨aD [(1,.pt (aL f)),(4,.sl (CP.flatMap sX) CP.length),(5,cr L),(6,I k),(7,.rp N 0),(8,jo x.ins),(9,I j),(10,.pt (bU y))],bA [(N,.cells (dn d) 163)],M+1⟩/\opsV f.aj.length d y=true) ?_ ?_))
     .have cu:=(atm x dW).ins y (bD hy);clear cx yc;let⟨X,yt,ya,yb,yn,yl⟩:=y;have fv:opsV f.aj.length d ⟨X,yt,ya,yb,yn,yl⟩=((X !=17||d.is.getD ((f.aj.length:Int)+yn).toNat false)&&wB d (dE ⟨X,yt,ya,yb,yn,yl⟩)):=rfl;have Ca:=Ca (x:=⟨X,yt,ya,yb,yn,yl⟩) (λho=>by have:=cu.ar ho;dsimp only at this ⊢;omega)
      have xE:=xE (c:=d) (rs:=dE ⟨X,yt,ya,yb,yn,yl⟩) (λr hr=>by
       let⟨i,h1,h2⟩:=EQ.2.r r hr
       exact⟨i,oG,h2⟩)
      generalize wB d (dE ⟨X,yt,ya,yb,yn,yl⟩)=v at xE fv;generalize dE ⟨X,yt,ya,yb,yn,yl⟩=rs at xE Ca;have Jx:opsV f.aj.length d ⟨X,yt,ya,yb,yn,yl⟩=false->I 81=I (if(range f.blocks.length).all (uk f RR)=true then 0 else 81):=λhq=>by rw[xh (by rw[cQ,hq];rfl)]
      apply c6 (hD [(17,19)]);by_cases kT:X=17
      .let⟨i,hi,e⟩:=EQ.2.s kT;dsimp only at e;subst e;have Hw:d.is[f.aj.length+i]? =some d.is[f.aj.length+i]:=aO oG;have iy:(X==17)=true:=by simp[kT]
       rw[show((f.aj.length:Int)+(i:Int)).toNat=f.aj.length+i by omega,getD_some Hw,show(X !=17)=false by simp[kT],Bool.false_or] at fv;generalize d.is[f.aj.length+i]=b at Hw fv;have ff:({ op:=X,to:=yt,a:=ya,b:=yb,n:=(i:Int),args:=yl }:cq).n=(i:Int):=rfl;refine aX ?_;refine ag ?_;refine cF rfl rfl (aci rfl rfl oG) (λhc=>⟨ak,rfl⟩) (bh ?_);refine cF rfl rfl (gA rfl r9 V.h V.h rfl) (λhc=>⟨ak,(gB V.h V.h c0)⟩) (bh ?_);refine bJ bM (aB rfl (λhp=>al ?_) λhp=>bV ⟨bp eH ⟨aw _ _ _,aa⟩,by rw[fv];revert hp;cases b<;>cases v<;>simp⟩);refine SS ?_;exact af (bj (aY (bP (aY (bP (aY (aC rfl (Jx (by rw[fv];revert hp;cases b<;>cases v<;>simp)))))))))
      .have iy:(X==17)=false:=by simp[kT]
       rw[show(X !=17)=true by simp[kT],Bool.true_or,Bool.true_and] at fv;refine aQ ?_;(iterate 11 refine z λ_ _=>?_);refine ag ?_;refine cF rfl rfl (gA rfl r9 V.h V.h rfl) (λhc=>⟨ak,(gB V.h V.h c0)⟩) (bh ?_);refine bJ bM (aB rfl (λhp=>al ?_) λhp=>bV ⟨bp eH ⟨aw _ _ _,aa⟩,by rw[fv];revert hp;cases v<;>simp⟩);refine SS ?_;exact af (bj (aY (bP (aY (bP (aY (aC rfl (Jx (by rw[fv];revert hp;cases v<;>simp)))))))))
     rintro s ⟨hg,aeD⟩;rw[aeD,Bool.true_and] at cQ;clear aeD;have wc:=wc (x:=y)
     have hp:JO d.is.length (eP y):=by
      rcases EQ.1.w with e|⟨i,h1,h2⟩
      .exact .inl e
      .exact .inr ⟨i,oG,h2⟩
     have kw:=nr (c:=d) oG hp;have EJ:=(Lg d (eP y)).trans CC
     have kv:y.op=18->aH prog 106 [.agg (dn (mE d (eP y))),I ((f.aj.length:Int)+y.n)] (.agg (dn (mE (mE d (eP y)) ((f.aj.length:Int)+y.n)))):=λe=>nr oG (by
      let⟨i,h1,h2⟩:=EQ.1.s e
      exact .inr ⟨f.aj.length+i,oG,by rw[h2];omega⟩)
     have lx:y.op=18->0<=y.n/\y.n<=2000:=λe=>by
      let⟨i,h1,h2⟩:=EQ.1.s e;omega
     have xr:=cx;unfold Ar at xr;generalize mE d (eP y)=d1 at kw EJ kv xr;generalize eP y=w at wc kw;have nr:=kw;refine⟨_,hg,zK (hD [(0,2)]) ?_⟩;clear hg;refine bh ?_;refine bJ bM (br (bp (l:=[(1,.pt (aL f)),(4,.sl (CP.flatMap sX) CP.length),(5,cr L),(6,I k),(7,.rp N 0),(8,jo x.ins),(9,I j),(10,.pt (bU y))]) (ml:=[(N,.cells (dn d1) 163)]) eH ⟨aw _ _ _,aa⟩) (fS (λs=>aP prog s ⟨aD [(1,.pt (aL f)),(4,.sl (CP.flatMap sX) CP.length),(5,cr L),(6,I k),(7,.rp N 0),(8,jo x.ins),(9,I j),(10,.pt (bU y))],bA [(N,.cells (dn (gL f.aj.length (x.ins.take (j+1)) ⟨false,C⟩)) 163)],M+1⟩) (al ?_) ?_))
     .refine ax ?_;refine af (aB rfl (λfP=>nH ?_) λfP=>bV ?_)
      .have fP:y.op=18:=s0 fP
       rw[bi fP] at xr;have nr:=kv fP;have Cq:=lx fP;refine aX ?_;refine af (bp eH ⟨?_,aa⟩);rw[xr];exact aw _ _ _
      .have fP:¬ y.op=18:=s0 fP
       rw[ai fP] at xr;refine bp eH ⟨?_,aa⟩;rw[xr];exact aw _ _ _
     intro s hg;refine⟨_,hg,aA ?_⟩;clear hg xr kw kv EJ nr wc hp lx cx;refine SS ?_;generalize hdj:gL f.aj.length (x.ins.take (j+1)) ⟨false,C⟩=dj
     refine af (cT (α:=Nat×Nat) (λq=>⟨aD [(1,.pt (aL f)),(4,.sl (CP.flatMap sX) CP.length),(5,cr L),(6,I k),(7,.rp N 0),(8,jo x.ins),(9,I j),(10,.pt (bU y)),(11,I q.1)],bA [(N,.cells (dn dj) 163)],q.2⟩)
      (λq=>q.1<=y.args.length/\N<q.2/\(q.1=0\/y.op=19)/\(range q.1).all (um f RR k y)=true) (λq=>y.args.length - q.1) (0,M+1) (bp eH ⟨aw _ _ _,aa⟩) ⟨Nat.zero_le _,oM,.inl rfl,rfl⟩ ?_)
     rintro⟨q,M2⟩ ⟨hq,Pv,awO,KI⟩;dsimp only at hq Pv awO KI ⊢;by_cases gR:y.op=19
     .have iy:(y.op==19)=true:=by simp[gR]
      have Zp:c8 y=true:=by simp[c8,gR]
      have yc:=(yc Zp).1;have Pw:GY f RR k y=(range y.args.length).all (um f RR k y):=by rw[GY,Zp];rfl
      have Ky:∀ p∈cY f.blocks f.blocks.length k,∃ pn:Nat,p=pn/\pn<f.blocks.length:=λp hp=>by
       let⟨b,h1,h2,_⟩:=KY.1 hp;exact⟨b,h1,h2⟩
      have U:∀ q,um f RR k y q=((dm f.aj.length (f.aj.length+f.a6.length) RR ((cY f.blocks f.blocks.length k).getD q 0).toNat).any||(qH (f.blocks.getD ((cY f.blocks f.blocks.length k).getD q 0).toNat kM).fin k (gL f.aj.length (f.blocks.getD ((cY f.blocks f.blocks.length k).getD q 0).toNat kM).ins (dm f.aj.length (f.aj.length+f.a6.length) RR ((cY f.blocks f.blocks.length k).getD q 0).toNat))).is.getD (y.args.getD q 0).toNat false):=λq=>rfl;have awP:=EQ.2.p gR;have Wc:=P' hw f.blocks.length k;generalize cY f.blocks f.blocks.length k=A at yc Ky U hAg Wc;by_cases Cz:q<y.args.length
      .have rO:decide ((q:Int)<(y.args.length:Int))=true:=decide_eq_true oG;refine cJ ?_;refine cF rfl rfl (Su rfl rfl rO) (λhc=>⟨ak,rfl⟩) (SS ?_);refine af ⟨_,rfl,λh=>?_,λh=>oH⟩;have U:=U q;have hA1:A[q]? =some A[q]:=aO oG;let⟨pn,e1,Kz⟩:=Ky _ (eh (h:=by omega):A[q]∈A);rw[e1] at hA1;clear e1;rw[getD_some hA1,eU] at U;have EO:=Wv pn Kz;have UP:(dm f.aj.length (f.aj.length+f.a6.length) RR pn).is.length=f.aj.length+f.a6.length:=Qb;generalize dm f.aj.length (f.aj.length+f.a6.length) RR pn=cp at EO U UP;let⟨pa,pi⟩:=cp;refine ws (cJ ?_);refine af (aG (al ?_));cases pa with
       |true=>
        refine bh ?_;refine af (cM rfl (λh=>rh (yP ?_)) λh=>oH);refine ax ?_;exact af (aW (q+1,M2) (bp eH ⟨aw _ _ _,aa⟩) ⟨oM,Pv,.inr gR,mn KI U⟩ oM)
       |false=>
       refine bh ?_;refine af (cM rfl (λh=>oH) λh=>cI (zK (hD [(0,9)]) ?_));have zG:f.blocks[pn]? =some f.blocks[pn]:=aO Kz;have uw:f.blocks[pn]∈f.blocks:=eh _;rw[getD_some zG] at U;generalize f.blocks[pn]=xp at zG uw U;have AG:=AG (c:=⟨false,pi⟩) zG UP oG (λy hy=>(J.ins xp uw y hy).1) (by have:=(J.ok.cn xp uw).len;omega);have r6:=(HY f.aj.length xp.ins ⟨false,pi⟩).trans UP;generalize gL f.aj.length xp.ins ⟨false,pi⟩=pc at AG U r6
       have Cc:=Cc (c:=pc) (to:=(k:Int)) zG (by have:=hw xp uw;omega) oG (by
        rcases J.wr xp uw with e|⟨r,h1,h2⟩
        .exact .inl e
        .exact .inr ⟨r,oG,h2⟩)
       have Eo:=(Yx xp.fin k pc).trans r6;generalize qH xp.fin k pc=zQ at Cc U Eo;have qW:y.args[q]? =some y.args[q]:=aO Cz;let⟨ri,We,e2⟩:=awP _ (eh Cz);rw[e2] at qW;clear e2;have Kf:zQ.is[ri]? =some zQ.is[ri]:=aO oG;rw[getD_some qW,eU,getD_some Kf] at U;generalize zQ.is[ri]=bz at Kf U;have U:um f RR k y q=bz:=U;refine aX ?_;refine aQ ?_;refine bJ bM (br (mq (i:=M2) (l:=[(1,.pt (aL f)),(4,.sl (CP.flatMap sX) CP.length),(5,cr L),(6,I k),(7,.rp N 0),(8,jo x.ins),(9,I j),(10,.pt (bU y)),(11,I q),(13,.pt (dn zQ))]) (ml:=[(N,.cells (dn dj) 163)]) r9 ⟨rfl,rfl,rfl,rfl,lz oG,rfl,rfl,rfl,rfl,nh,aa⟩ ⟨zP oG (ay oG (ay oG r9)) rfl,aa⟩) (c6 iO ?_));refine cJ ?_;refine ag ?_;refine bJ bM (aB rfl (λhp=>al ?_) λhp=>cB ?_)
       .have Ww:bz=false:=s0 hp
        refine SS ?_;refine af (bj (bP (bP (aY (bP (aY (aC (d:=I 81) rfl ?_)))))));rw[xh (by rw[cQ,Pw,py Cz (by rw[U,Ww])])]
       .have Ww:bz=true:=s0 hp
        refine ax ?_;exact af (aW (q+1,M2+1) (bp eH ⟨aw _ _ _,aa⟩) ⟨oM,oM,.inr gR,mn KI (by rw[U,Ww])⟩ oM)
      .have rO:decide ((q:Int)<(y.args.length:Int))=false:=decide_eq_false oG;have:q=y.args.length:=by omega
       subst this;rw[<- Pw] at KI;refine cJ ?_;refine cF rfl rfl (Su rfl rfl rO) (λhc=>⟨ak,rfl⟩) (SS ?_);refine af ⟨_,rfl,λh=>oH,λh=>?_⟩;show aE _ _ _ _ _ _ _ _ _;refine ax ?_;refine af (aW (j+1,M2) (bp eH ⟨?_,aa⟩) ⟨oM,Pv,mn uU (by rw[cQ,KI])⟩ oM);dsimp only;rw[hdj];exact aw _ _ _
     .have iy:(y.op==19)=false:=by simp[gR]
      have Pw:GY f RR k y=true:=by unfold GY c8;simp[gR]
      refine aQ ?_;(iterate 5 refine z λ_ _=>?_);refine SS ?_;refine af ⟨_,rfl,λh=>oH,λh=>?_⟩;show aE _ _ _ _ _ _ _ _ _;refine ax ?_;refine af (aW (j+1,M2) (bp eH ⟨?_,aa⟩) ⟨oM,Pv,mn uU (by rw[cQ,Pw])⟩ oM);dsimp only;rw[hdj];exact aw _ _ _
    .have bt:¬ j<x.ins.length:=s0 h
     have:j=x.ins.length:=by omega
     subst this;rw[<- pS rfl];exact⟨M,bp eH ⟨aw _ _ _,aa⟩,hM,uU⟩
   .rintro s ⟨M,hg,hM,tI⟩;rw[tI,Bool.true_and] at CD;have CC:=(HY f.aj.length x.ins ⟨false,C⟩).trans dB;refine⟨_,hg,c6 (hD [(0,7)]) ?_⟩;generalize gL f.aj.length x.ins ⟨false,C⟩=d at CD CC;have Oa:=Oa (x:=x.fin) (λh5 ho=>by have:=(J.ok.awB x dW h5).ar ho;omega) (λh1=>by have:=(J.ok.ends x dW).fin.a2 (by rcases h1 with e|e<;>simp[bf,e]);omega)
    have xE:=xE (c:=d) (rs:=dM x.fin) (λr hr=>by
     let⟨i,h1,h2⟩:=J.rd x dW r hr
     exact⟨i,oG,h2⟩)
    rw[<- CD] at xE;generalize dM x.fin=rs at Oa xE;refine aX ?_;refine SS ?_;refine bJ bM (aB rfl (λhp=>?_) λhp=>cB ?_)
    .refine ws (SS ?_);refine af (bj (bP (aY (aC (d:=I 81) rfl ?_))));rw[gM (s0 hp)]
    .refine ax ?_;exact af (aW (k+1,M) (jB eH) ⟨oM,mn bd (s0 hp)⟩ oM)
  .have bt:¬ k<f.blocks.length:=s0 h
   have:k=f.blocks.length:=by omega
   subst this;exact⟨⟨N,jB (l:=[]) aa⟩,bd⟩
 .rintro s ⟨⟨N,hg⟩,bd⟩;refine⟨_,hg,al ?_⟩;refine SS ?_;refine af (aC (d:=I 0) rfl ?_);rw[bd];rfl
structure Gl(l:List az):Prop where
 str:∀ f∈l,Nx f
 whs:∀ f∈l,∀ b∈f.blocks,b.fin.aK.length<=9
 len:l.length<=1000
def B9(n:Nat)(a:Int):Bool:=if decide (a<0) then true else !decide (a<(n:Int))
def M0(l:List az)(C:List Int):Int:=if(dK l).2=0 then(if C.any (B9 l.length) then 1 else 0) else(dK l).2
def VT{l:List az}(X:Gl l):aH prog 84 [bS l] (.bu [I (dK l).1,I (dK l).2]):=by
 have hlen:=X.len;refine bx (fo f84) (.cons (kV l) .nil) (.bu (.cons (.s _) fp)) ?_;refine ws (ag ?_);refine af (aG (al (ax ?_)));refine af (cM rfl (λh=>aG (al ?_)) λh=>cI (aG (aA ?_)))
 .have h:60<l.length:=by
   have:(60:Int)<l.length:=s0 h
   omega
  have he:dK l=(0,2):=by rw[dK,bi h]
  rw[he];refine ag ?_;exact af (de (fB rfl rfl rfl))
 have zB:¬ 60<l.length:=by
  have:¬ (60:Int)<l.length:=s0 h
  omega
 clear h;refine SS ?_
 refine af (cw (λs=>(∃ nx,aP prog s ⟨aD [(0,bS l)],λ_=>none,nx⟩)/\∀ j,j<l.length->iQ l j=0) (cT (α:=Nat) (λk=>⟨aD [(0,bS l),(4,I k)],λ_=>none,0⟩)
  (λk=>k<=l.length/\∀ j,j<k->iQ l j=0) (λk=>l.length - k) 0 (au eH) ⟨Nat.zero_le _,λj hj=>by omega⟩ ?_) ?_)
 .rintro k ⟨hk,hinv⟩;refine aQ ?_;refine af ⟨_,rfl,λh=>?_,λh=>?_⟩
  .have ao:k<l.length:=s0 h
   clear h;let⟨f,hf⟩:=s3 l k ao
   have M:=bD hf;have Km:=Km (f:=f) (X.str f M) (X.whs f M);have C:iQ l k=if eF f=0 then(if decide (0<k)&&AD (qm l (k - 1)) f.name then 1 else 0) else eF f:=by rw[iQ,hf]
   have gM:iQ l k≠0->dK l=(↑k,iQ l k):=λh=>by
    rw[dK,ai zB,KV ao (s0 h) λj hj=>by simp[hinv j hj]]
   apply aA;generalize eF f=e at Km C;refine cz ?_;refine af ⟨_,.refl _,aG (al ?_)⟩;refine ag ?_;refine af (cM rfl (λh=>aG (al ?_)) λh=>cI (c6 iO ?_))
   .have h:e≠0:=s0 h
    rw[ai h] at C;rw[gM (by rw[C];exact h),C];refine aQ ?_;exact af (de (bP (aY (fB rfl rfl rfl))))
   have h:e=0:=s0 h
   rw[bi h] at C;clear h Km
   have gZ:iQ l k=0->∀ j,j<k+1->iQ l j=0:=λh j hj=>by
    by_cases e:j=k
    .subst e;exact h
    .exact hinv j oG
   cases k with
   |zero=>
    have hz:iQ l 0=0:=by rw[C];simp
    refine cz ?_;(iterate 3 refine z λ_ _=>?_);refine bh ?_;refine z λ_ _=>?_;refine SS ?_;refine bJ bM (Gf (cB ?_));show aE _ _ _ _ _ _ _ _ _;refine ax ?_;exact af (aW (0+1) (au eH) ⟨oG,gZ hz⟩ oG)
   |succ k'=>
    let⟨U,Vv⟩:=s3 l k' oG
    have Kh:qm l (k'+1 - 1)=U.name:=by rw[qm,Nat.add_sub_cancel,Vv]
    rw[Kh] at C;have uu:(((k'+1:Nat):Int) - 1=(k':Int))/\ -9223372036854775808<=(k':Int)/\(k':Int)<=9223372036854775807:=by omega
    have rP:decide ((0:Int)<((k'+1:Nat):Int))=true:=by simp
    refine aX ?_;refine ek ?_;refine bJ bM (aB rfl (λhp=>al ?_) λhp=>cB ?_)
    .have h1:iQ l (k'+1)=1:=by
      rw[C,bi];simpa[AD] using hp
     rw[gM (by rw[h1];decide),h1];refine ax ?_;exact af (bj (bP (aY (fB rfl rfl rfl))))
    .have hz:iQ l (k'+1)=0:=by
      rw[C,ai];simpa[AD] using hp
     show aE _ _ _ _ _ _ _ _ _;refine ax ?_;exact af (aW (k'+1+1) (au eH) ⟨oG,gZ hz⟩ oG)
  .have bt:¬ k<l.length:=s0 h
   exact⟨⟨0,au eH⟩,λj hj=>hinv j oG⟩
 .rintro s ⟨⟨nx,hg⟩,bd⟩
  have mf:∀ f∈l,eF f=0:=λf hf=>by
   let⟨j,hj⟩:=cV hf;have cW:=(bQ.1 hj).1;have h1:=bd j cW;rw[iQ,hj] at h1;dsimp only at h1;by_cases h2:eF f=0
   .exact h2
   .rw[ai h2] at h1;exact absurd h1 h2
  have r8:(range l.length).find? (λi=>iQ l i !=0)=none:=KW λj hj=>by simp[bd j hj]
  refine⟨_,hg,aG (aA ?_)⟩;clear hg;refine SS ?_
  refine af (cw (λs=>(∃ nx,aP prog s ⟨aD [],λ_=>none,nx⟩)/\∀ j,j<l.length->sA l j=false) (cT (α:=Nat) (λk=>⟨aD [(0,bS l),(6,I k)],λ_=>none,nx⟩)
   (λk=>k<=l.length/\∀ j,j<k->sA l j=false) (λk=>l.length - k) 0 (au eH) ⟨Nat.zero_le _,λj hj=>by omega⟩ ?_) ?_)
  .rintro k ⟨hk,hinv⟩;refine aQ ?_;refine af ⟨_,rfl,λh=>?_,λh=>?_⟩
   .have ao:k<l.length:=s0 h
    clear h;let⟨f,hf⟩:=s3 l k ao
    have M:=bD hf;have DG:=Abs.checked (mf f M);have JE:=JE (aaG oG mf M) λb hb hk=>Sw DG hb hk;rw[ahV DG] at JE;have J:sA l k= !tU f l:=by rw[sA,hf]
    apply ws;generalize tU f l=cb at JE J;refine ek ?_;refine er (ag ?_);refine af (aB rfl (λhp=>al ?_) λhp=>cB ?_)
    .have J:sA l k=true:=by rw[J];simpa using hp
     have hr:dK l=(↑k,82):=by
      rw[dK,ai zB,r8,KV ao J hinv]
     rw[hr];refine ax ?_;exact af (bj (bP (aY (fB rfl rfl rfl))))
    .have J:sA l k=false:=by rw[J];simpa using hp
     show aE _ _ _ _ _ _ _ _ _;refine ax ?_;refine af (aW (k+1) (au eH) ⟨oG,λj hj=>?_⟩ oG);by_cases e:j=k
     .subst e;exact J
     .exact hinv j oG
   .have bt:¬ k<l.length:=s0 h
    exact⟨⟨nx,au aa⟩,λj hj=>hinv j oG⟩
  .rintro s ⟨⟨nx,hg⟩,Tq⟩
   have hr:dK l=(0,0):=by
    rw[dK,ai zB,r8,KW Tq]
   rw[hr];refine⟨_,hg,al ?_⟩;refine ag ?_;exact af (fB rfl rfl rfl)
def EE{l:List az}{p:List Int}(M:Gl l)(hp:p.length<=1000):aH prog 46 [bS l,aU p] (I (M0 l p)):=by
 have VT:=VT M;have hlen:=M.len;refine bx (fo f46) (.cons (kV l) (.cons (dP p) .nil)) (.s _) ?_;have C:M0 l p=if(dK l).2=0 then(if p.any (B9 l.length) then 1 else 0) else(dK l).2:=rfl
 generalize (dK l).2=e at*
 refine ws (SS ?_);refine er (ek ?_);refine af (aG (al (ag ?_)));refine af (cM rfl (λh=>aG (al ?_)) λh=>cI (aG (aA ?_)))
 .have h:e≠0:=s0 h
  rw[ai h] at C;rw[C];refine ag ?_;exact af (de (aC rfl rfl))
 have h:e=0:=s0 h
 rw[bi h] at C;refine SS ?_
 refine af (cw (λs=>(∃ nx,aP prog s ⟨aD [],λ_=>none,nx⟩)/\p.any (B9 l.length)=false) (cT (α:=Nat) (λk=>⟨aD [(0,bS l),(1,aU p),(7,I k)],λ_=>none,0⟩)
  (λk=>k<=p.length/\∀ j y,j<k->p[j]? =some y->B9 l.length y=false) (λk=>p.length - k) 0 (au eH) ⟨Nat.zero_le _,λj y hj=>by omega⟩ ?_) ?_)
 .rintro k ⟨hk,J⟩;refine aQ ?_;refine af ⟨_,rfl,λh=>?_,λh=>?_⟩
  .have ao:k<p.length:=s0 h
   clear h;let⟨a,ha⟩:=s3 p k ao
   refine ws (aX ?_);refine bh ?_;refine af (aB rfl (λhp=>al ?_) λhp=>cB ?_)
   .have:p.any (B9 l.length)=true:=by
     rw[any_eq_true];refine⟨a,bD ha,?_⟩;unfold B9;simpa using hp
    rw[this] at C;rw[C];refine SS ?_;exact af (bj (bP (aY (aC rfl rfl))))
   .have hi:B9 l.length a=false:=by
     unfold B9;simpa using hp
    show aE _ _ _ _ _ _ _ _ _;refine ax ?_;refine af (aW (k+1) (au eH) ⟨oG,λj y hj hy=>?_⟩ oG);by_cases e:j=k
    .subst e;rw[ha] at hy;cases hy;exact hi
    .exact J j y oG hy
  .have U:¬ k<p.length:=s0 h
   refine⟨⟨0,au aa⟩,?_⟩;rw[any_eq_false];intro y hy;let⟨j,hj⟩:=cV hy;rw[J j y (by have:=(bQ.1 hj).1;omega) hj];decide
 .rintro s ⟨⟨nx,hg⟩,J⟩;rw[J] at C;rw[C];refine⟨_,hg,al ?_⟩;refine SS ?_;exact af (aC rfl rfl)
def Bj{α β:Type}{f:α->β}(hf:∀ x y,f x=f y->x=y):∀ {a b:List α},a.map f=b.map f->a=b
 |[],[],_=>rfl
 |x::a,y::b,h=>by
  simp[map_cons,cons.injEq] at h;rw[hf x y h.1,Bj hf h.2]
 |[],_::_,h=>by simp at h
 |_::_,[],h=>by simp at h
def aiv{f g:az}(hf:sL f)(hg:sL g)(h:rH f=rH g):lY f=lY g:=
 Bj (λ_ _ e=>Bj (λ_ _ e=>Ab e) e) (XQ hf hg h)
def Db{m n:Int}(h:gv m=gv n):m=n:=Z1 (by rw[<- SH, <- SH,h])
def Dq{n:Int}(h0:0<=n)(h:n<=255):ky n=n:=by
 unfold ky;simp only[IntKind.wrap,IntKind.bits,IntKind.signed];simp;omega
def MD{α:Type}{P:α->Prop}:∀ {p q A B:List α},(∀ a∈p,P a)->(∀ a∈q,P a)->(∀ a,A.head? =some a->¬ P a)->(∀ b,B.head? =some b->¬ P b)->p++A=q++B->p=q/\A=B
 |[],[],_,_,_,_,_,_,h=>⟨rfl,h⟩
 |x::p,y::q,A,B,hp,hq,hA,hB,h=>by
  simp[cons_append,cons.injEq] at h;let⟨h1,h2⟩:=MD (λa ha=>hp a (mem_cons_of_mem _ ha)) (λa ha=>hq a (mem_cons_of_mem _ ha)) hA hB h.2;exact⟨by rw[h.1,h1],h2⟩
 |[],y::q,A,B,hp,hq,hA,hB,h=>by
  simp[nil_append] at h;rw[h] at hA;exact absurd (hq y oS) (hA y rfl)
 |x::p,[],A,B,hp,hq,hA,hB,h=>by
  simp[nil_append] at h;rw[<- h] at hB;exact absurd (hp x oS) (hB x rfl)
def Wd(w:ByteArray)(l:List ByteArray):Prop:=l.head? =some w
structure FY(x:cq):Prop where
 op:0<=x.op/\x.op<=255
structure IY(b:bI):Prop where
 ins:∀ x∈b.ins,FY x
 kind:1<=b.fin.kind/\b.fin.kind<=9
 fin:FY b.fin.ins
 no:b.fin.kind≠5->b.fin.ins=eR
def aa9{x y:cq}(hx:FY x)(hy:FY y){w:ByteArray}(h:nN w x=nN w y):x=y:=by
 unfold nN at h;simp[cons.injEq,true_and] at h;have e:=Bj (λ_ _ e=>Db e) h;unfold AA at e;simp[cons.injEq] at e;let⟨C,e2,e3,e4,e5,e6⟩:=e;rw[Dq hx.op.1 hx.op.2,Dq hy.op.1 hy.op.2] at C;cases x;cases y;simp_all
def akC{x y:Abs.End}(hx:1<=x.kind/\x.kind<=9)(hy:1<=y.kind/\y.kind<=9)(h:tc x=tc y):x.kind=y.kind/\x.a=y.a/\x.b=y.b/\x.to=y.to/\x.ei=y.ei/\x.others=y.others/\x.args=y.args:=by
 unfold tc at h;simp[cons.injEq,true_and] at h;have e:=Bj (λ_ _ e=>Db e) h;unfold zm at e;simp[cons.injEq] at e;let⟨C,e2,e3,e4,e5,e6,e7⟩:=e;rw[Dq oG oG,Dq oG oG] at C;exact⟨C,e2,e3,e4,e5,e6,e7⟩
def amQ{w v:jf}(h:lG w=lG v):w=v:=by
 unfold lG at h;simp[cons.injEq,true_and,and_true] at h;cases w;cases v;simp[jf.mk.injEq];exact⟨h.1,Db h.2⟩
def Z2:ta≠GB/\y7≠DU/\y7≠Gp/\y7≠qz/\Gp≠qz/\TL≠TK:=by decide
def Na(A:List (List ByteArray)):Prop:=∀ a,A.head? =some a->a=[qz]
def akD{x y:bI}(hx:IY x)(hy:IY y){A B:List (List ByteArray)}(X:Na A)(hB:Na B)(h:kF x++A=kF y++B):x=y/\A=B:=by
 let⟨n1,n2,n3,n4,n5,_⟩:=Z2;unfold kF at h;simp[cons_append,cons.injEq,true_and,append_assoc] at h
 let⟨h1,h⟩:=MD (P:=Wd ta) (λa ha=>by
  simp[ud,mem_map] at ha
  obtain⟨_,_,rfl⟩:=ha;rfl) (λa ha=>by
  simp[ud,mem_map] at ha
  obtain⟨_,_,rfl⟩:=ha;rfl) (λa ha e=>by
  simp[head?_cons,bg] at ha;subst ha
  exact n1 (Option.some.inj e).symm) (λa ha e=>by
  simp[head?_cons,bg] at ha;subst ha
  exact n1 (Option.some.inj e).symm) h
 simp[cons.injEq] at h;let⟨h2,h⟩:=h;let⟨M,e2,e3,e4,e5,e6,e7⟩:=akC hx.kind hy.kind h2
 have hT:∀ (z:bI) (C:List (List ByteArray)),Na C->∀ a,(nj z.fin++(z.fin.aK.map lG++C)).head? =some a->¬ Wd y7 a:=λz C hC a ha e=>by
  unfold nj at ha;split at ha
  .simp[cons_append,head?_cons,bg] at ha;subst ha;exact n2 (Option.some.inj e).symm
  .rw[nil_append] at ha;cases hw:z.fin.aK with
   |nil=>
    rw[hw] at ha;have:=hC a ha;subst this;exact n4 (Option.some.inj e).symm
   |cons w wsq=>
    rw[hw] at ha;simp[map_cons,cons_append,head?_cons,bg] at ha;subst ha;exact n3 (Option.some.inj e).symm
 have hN:∀ z:bI,∀ a∈lZ z.fin,Wd y7 a:=λz a ha=>by
  unfold lZ at ha;split at ha
  .simp at ha
  .simp[mem_cons,not_mem_nil,or_false] at ha;subst ha;rfl
 let⟨J,h⟩:=MD (P:=Wd y7) (hN x) (hN y) (hT x A X) (hT y B hB) h
 have e8:x.fin.name=y.fin.name:=by
  have he:∀ s:ByteArray,s.toList=[]->bW s=[]:=λs hs=>by rw[ym] at hs;exact hs
  unfold lZ at J;split at J<;>split at J
  .rename_i q1 q2;exact Ab (by rw[he _ q1,he _ q2])
  .simp at J
  .simp at J
  .simp[cons.injEq,true_and,and_true] at J;exact J
 have hh:x.fin.ins=y.fin.ins/\x.fin.aK.map lG++A=y.fin.aK.map lG++B:=by
  unfold nj at h;by_cases hk:x.fin.kind=5
  .rw[bi hk,bi (M▸hk)] at h;simp[cons_append,nil_append,cons.injEq] at h;exact⟨aa9 hx.fin hy.fin h.1,h.2⟩
  .rw[ai hk,ai (M▸hk)] at h;exact⟨(hx.no hk).trans (hy.no (M▸hk)).symm,h⟩
 let⟨e9,h⟩:=hh
 have hW:∀ z:bI,∀ a∈z.fin.aK.map lG,Wd Gp a:=λz a ha=>by
  obtain⟨w,_,rfl⟩:=mem_map.1 ha;rfl
 let⟨h4,U⟩:=MD (P:=Wd Gp) (hW x) (hW y) (λa ha e=>by
  rw[X a ha] at e
  exact n5 (Option.some.inj e).symm) (λa ha e=>by
  rw[hB a ha] at e
  exact n5 (Option.some.inj e).symm) h
 have Pr:=Bj (λ_ _ e=>amQ e) h4
 have e0:x.ins=y.ins:=by
  have:∀ {a b:List cq},(∀ i∈a,FY i)->(∀ i∈b,FY i)->a.map (nN ta)=b.map (nN ta)->a=b:=λ{a}=>by
   induction a with
   |nil=>intro b _ _ h;cases b with
    |nil=>rfl
    |cons _ _=>simp at h
   |cons u a ih=>intro b h1 h2 h;cases b with
    |nil=>simp at h
    |cons v b=>
     simp[map_cons,cons.injEq] at h;rw[aa9 (h1 u oS) (h2 v oS) h.1,ih (λi hi=>h1 i (mem_cons_of_mem _ hi)) (λi hi=>h2 i (mem_cons_of_mem _ hi)) h.2]
  exact this hx.ins hy.ins h1
 refine⟨?_,U⟩;rcases x with⟨xi,xf⟩
 rcases y with⟨yi,yf⟩
 cases xf;cases yf;simp_all
def WO(bs:List bI):Na (bs.flatMap kF):=λa ha=>by
 cases bs with
 |nil=>cases ha
 |cons b bs=>
  unfold kF at ha;simp[flatMap_cons,cons_append,head?_cons,bg] at ha;exact ha.symm
def XR:∀ {a b:List bI},(∀ x∈a,IY x)->(∀ x∈b,IY x)->a.flatMap kF=b.flatMap kF->a=b
 |[],[],_,_,_=>rfl
 |x::a,y::b,h1,h2,h=>by
  let⟨C,e2⟩:=akD (h1 x oS) (h2 y oS) (WO a) (WO b) h;rw[C,XR (λz hz=>h1 z (mem_cons_of_mem _ hz)) (λz hz=>h2 z (mem_cons_of_mem _ hz)) e2]
 |[],y::b,_,_,h=>by unfold kF at h;simp at h
 |x::a,[],_,_,h=>by unfold kF at h;simp at h
structure Iq(f:az):Prop where
 r5:sL f
 EH:0<=f.result/\f.result<=255
 aj:∀ r∈f.aj,0<=r/\r<=255
 a6:∀ r∈f.a6,0<=r/\r<=255
 cn:∀ b∈f.blocks,IY b
def ME{l:List Int}(h:∀ r∈l,0<=r/\r<=255):l.map ky=l:=by
 conv=>rhs;rw[<- map_id l]
 exact map_congr_left λr hr=>Dq (h r hr).1 (h r hr).2
def amR{f g:az}(hf:Iq f)(hg:Iq g)(h:rH f=rH g):f=g:=by
 let⟨_,_,_,_,_,C⟩:=Z2;have h:=aiv hf.r5 hg.r5 h;unfold lY at h;let⟨h1,h2⟩:=append_inj h rfl;have hb:=XR hf.cn hg.cn h2;unfold Gq at h1;simp only[cons.injEq,true_and,and_true] at h1;let⟨⟨J,e2,e3,e4⟩,e5,e6,e7⟩:=h1
 have e2:f.iter=g.iter:=by
  unfold wZ at e2;revert e2;cases f.iter<;>cases g.iter<;>simp[C,C.symm]
 have e3:=Db e3;have e4:=Db e4;rw[Dq hf.EH.1 hf.EH.2,Dq hg.EH.1 hg.EH.2] at e4;have e5:=Bj (λ_ _ e=>Db e) e5;have e6:=Bj (λ_ _ e=>Db e) e6;rw[ME hf.aj,ME hg.aj] at e5;rw[ME hf.a6,ME hg.a6] at e6;cases f;cases g;simp_all
def amS{op:Int}(h:(gl nI op).isSome=true):0<=op/\op<=255:=by
 cases hs:gl nI op with
 |none=>rw[hs] at h;cases h
 |some s=>
  have:=CH hs;have C:nI.all (λx=>decide (0<=x.1)&&decide (x.1<=255))=true:=by decide
  have:=bK.1 C _ this;simp[aJ,decide_eq_true_eq] at this;exact this
def amT{op:Int}(h:(gl ko op).isSome=true):0<=op/\op<=255:=by
 cases hs:gl ko op with
 |none=>rw[hs] at h;cases h
 |some s=>
  have:=CH hs;have C:ko.all (λx=>decide (0<=x.1)&&decide (x.1<=255))=true:=by decide
  have:=bK.1 C _ this;simp[aJ,decide_eq_true_eq] at this;exact this
def amU{f:az}{b ahead:Int}{x:cq}{phis:Bool}(h:kG f b x phis ahead=true):0<=x.op/\x.op<=255:=by
 unfold kG at h;split at h
 .omega
 split at h
 .omega
 split at h
 .omega
 split at h
 .omega
 .rw[aJ] at h;exact amS h.1
def amV{x:cq}(h:BB x=true):x=eR:=by
 unfold BB at h;simp only[aJ,decide_eq_true_eq] at h;let⟨h1,h2,J,M,U,C⟩:=h;have C:x.args=[]:=length_eq_zero_iff.1 oG;cases x;simp_all[eR]
def amW{x:Abs.End}(h:xc x=true):x.ins=eR:=by
 unfold xc at h;simp[aJ] at h;exact amV h.2.2.2.2.2.2.2.2.2
def akE{f:az}{x:Abs.End}(h:gD f x=true):(x.kind≠5->x.ins=eR)/\0<=x.ins.op/\x.ins.op<=255:=by
 rw[gD,aJ] at h;let⟨h1,h2⟩:=h;have hz:x.ins=eR->(x.kind≠5->x.ins=eR)/\0<=x.ins.op/\x.ins.op<=255:=λe=>⟨λ_=>e,by rw[e];decide⟩
 by_cases C:x.kind=5
 .refine⟨λh=>absurd C h,?_⟩;unfold fL at h1;simp only[C] at h1;simp at h1;exact amT h1.1
 .apply hz;have:=amW h2;unfold fL at this;simp[C,if_false] at this
  repeat' split at this
  all_goals exact this
def aon{f:az}(h:iX f=true):Iq f:=by
 have M:=yR h;have C:=Fx h;unfold iX at h;simp only[aJ] at h;let⟨h1,h2,h3,h4,h5⟩:=h;unfold od at h1;simp only[aJ] at h1;unfold sC at h2;simp only[aJ] at h2
 have hk:∀ {l:List Int} {m:Int},m<=255->gk l m=true->∀ r∈l,0<=r/\r<=255:=λ{l m} hm h r hr=>by
  unfold gk at h;simp only[Bool.not_eq_true',any_eq_false] at h;have:=h r hr;unfold pC at this;simp at this;omega
 refine⟨C,?_,hk oC h2.1,hk oC h2.2.2.1,λb hb=>?_⟩
 .have:=h1.2.2.1;unfold se at this;simp at this;omega
 .let⟨k,J⟩:=cV hb;have iD:k<f.blocks.length:=(bQ.1 J).1;have he:=bK.1 h4 k (mem_range.2 iD);rw[kD,getD_some J] at he;simp only[aJ] at he;let⟨U,X⟩:=akE he.1;refine⟨λx hx=>?_,(C.cn b hb).fin.kind,⟨X⟩,U⟩;let⟨j,hj⟩:=cV hx;exact⟨amU (M.right k b J j x hj)⟩
def Fp{f:az}(h:eF f=0):Iq (o7 f):=aon (checked (P6 h))
def akF{f g:az}(hf:eF f=0)(hg:eF g=0):tW f=tW g↔o7 f=o7 g:=
 ⟨λh=>amR (Fp hf) (Fp hg) h,λh=>congrArg rH h⟩
def orI(a b:Bool):(if a=true then true else b)=(a||b):=by cases a<;>rfl
def avQ(a b:Bool):(if a=true then b else false)=(a&&b):=by cases a<;>rfl
abbrev iT(n:Int):Int:=IntKind.i64.wrap n
def rK(x y:cq):Bool:= @decide (x=y) (Classical.propDecidable _)
def HX{x y:cq}:rK x y=true↔x=y:=by unfold rK;simp
def qC(f:az):az:={ f with aj:=f.aj.map iT,a6:=f.a6.map iT }
def DH(f g:az):Bool:= @decide (qC f=qC g) (Classical.propDecidable _)
def Qz{f g:az}:DH f g=true↔qC f=qC g:=by unfold DH;simp
def alY{f g:az}(h:qC f=qC g->False):DH f g=false:=by
 rw[Bool.eq_false_iff];intro e;exact h (Qz.1 e)
def anN(x y:cq):rK x y=((x.op==y.op)&&((x.to==y.to)&&((x.a==y.a)&&((x.b==y.b)&&((x.n==y.n)&&decide (x.args=y.args)))))):=by
 cases x;cases y;rw[Bool.eq_iff_iff,HX];simp
def Pb{l:List Int}(hl:l.length<=1000000):aH prog 95 [jW l] (aU (l.map iT)):=by
 refine bx (fo f95) (.cons (qq l) .nil) (dP _) ?_;refine ws ?_;refine SS ?_;refine af (aA ?_);refine SS ?_;refine af ⟨_,.oY _ _ _ 3 3 rfl,aG (aA ?_)⟩;refine SS ?_
 refine af (cw (λs=>∃ r nx,aP prog s ⟨aD [(3,.rs r 0 l.length)],bA [(r,.cells ((l.map iT).map I) 3)],nx⟩) (cT (α:=Nat×Nat×Nat)
  (λs=>⟨aD [(0,jW l),(3,.rs s.2.1 0 s.1),(4,I s.1)],bA [(s.2.1,.cells (((l.take s.1).map iT).map I) 3)],s.2.2⟩)
  (λs=>s.1<=l.length/\s.2.1<s.2.2) (λs=>l.length - s.1) (0,0,1)
  (bp eH eH) ⟨Nat.zero_le _,oC⟩ ?_) ?_)
 .rintro⟨k,r,nx⟩ ⟨hk,hr⟩;dsimp only at hk hr ⊢;refine aQ ?_;refine af ⟨_,rfl,λh=>?_,λh=>?_⟩
  .have ao:k<l.length:=by simpa using h
   clear h;obtain⟨x,hx⟩:∃ x,l[k]? =some x:=⟨_,aO ao⟩
   have C:(l.take (k+1)).map iT=(l.take k).map iT++[iT x]:=by rw[List.take_add_one,hx,List.map_append];rfl
   have J:((l.take k).map iT).length=k:=by simp;omega
   generalize (l.take k).map iT=cs at*
   have aF:bA [(r,Row.cells (cs.map I) 3)] r=some (.cells (cs.map I) 3):=by simp[bA]
   refine kU ?_;refine aX ?_;refine af ?_;show aE _ _ _ _ _ _ _ _ _;refine ax ?_;refine af (aW (k+1,nx+1,nx+1+1) ?_ ⟨oM,oM⟩ oM);dsimp only;rw[C];refine bp eH ⟨(aw _ _ _).trans ?_,aa⟩;simp;rfl
  .have M:¬ k<l.length:=by simpa using h
   have:k=l.length:=by omega
   subst this;rw[List.take_length];exact⟨r,nx,au eH⟩
 .rintro s ⟨r,nx,hg⟩;refine⟨_,hg,aA ?_⟩;refine ag ?_;refine af (br (gd (i:=r) (cs:=(l.map iT).map I) (e:=3) (by simp[bA]) (l:=[(2,aU (l.map iT))]) ⟨?_,aa⟩) (aC rfl rfl));exact(lS (by rw[c3];simp)).trans oS
def k96{x y:cq}:aH prog 96 [.agg (bU x),.agg (bU y)] (B (rK x y)):=by
 refine bx (fo f96) (.cons (.agg (tP x)) (.cons (.agg (tP y)) .nil)) (Tr.s _) ?_;refine aA ?_;refine ax ?_;refine af (br (cH [(0,bU x,54),(1,bU y,54)] eH (l:=[(2,.pt (bU x)),(3,.pt (bU y))]) eH) (al ?_));refine aX ?_;refine aX ?_;refine aX ?_;refine aX ?_;refine ag ?_;refine gc vD ?_;refine ag ?_;refine af (aC rfl ?_);show B _=B _;congr 1;rw[anN];simp only[avQ,Bool.and_assoc]
def anO(w v:jf):s6 (jX w) (jX v)=some ([.string w.name,.int .i64 w.to],[.string v.name,.int .i64 v.to]):=rfl
def avV:Ds prog 79=some [2,0]:=kr
def avW:prog.eqGuardType prog.depth 79=false:=kr
def DI(w v:jf):Bool:= @decide (w=v) (Classical.propDecidable _)
def alZ(w v:jf):lf [.string w.name,.int .i64 w.to] [.string v.name,.int .i64 v.to]=DI w v:=by
 rw[Bool.eq_iff_iff];unfold DI;cases w with|mk a b=>cases v with|mk c d=>
 simp only[lf,xu,Bool.and_true,aJ,beq_iff_eq,decide_eq_true_eq,jf.mk.injEq,true_and,beq_self_eq_true];constructor
 .rintro⟨h,rfl⟩;exact⟨Ab h,rfl⟩
 .rintro⟨rfl,rfl⟩;exact⟨rfl,rfl⟩
def Pc{f g:az}(h1:f.aj.length<=1000000)(h2:f.a6.length<=1000000)(h3:g.aj.length<=1000000)(h4:g.a6.length<=1000000):aH prog 62 [.agg (aL f),.agg (aL g)] (B (DH f g)):=by
 have ka:=Pb h1;have kb:=Pb h3;have kc:=Pb h2;have J:=Pb h4;have kab:=vD (a:=f.aj.map iT) (b:=g.aj.map iT);have kcd:=vD (a:=f.a6.map iT) (b:=g.a6.map iT);refine nB (fo f62).he (.cons (.agg (gS f)) (.cons (.agg (gS g)) .nil)) λeS=>?_;refine bx (fo f62) (.cons (.agg (gS f)) (.cons (.agg (gS g)) .nil)) (Tr.s _) ?_;have eD:=alY (f:=f) (g:=g);have gZ:qC f=qC g->DH f g=true:=Qz.2
 have uB:f.name=g.name->f.iter=g.iter->f.args=g.args->f.result=g.result->f.aj.map iT=g.aj.map iT->f.a6.map iT=g.a6.map iT->f.signals=g.signals->f.blocks=g.blocks->qC f=qC g:=λa b c d e x y zQ=>by
  unfold qC;rw[e,x];cases f;cases g;simp_all
 have VU:qC f=qC g->f.name=g.name/\f.iter=g.iter/\f.args=g.args/\f.result=g.result/\f.aj.map iT=g.aj.map iT/\f.a6.map iT=g.a6.map iT/\f.signals=g.signals/\f.blocks=g.blocks:=λe=>by
  unfold qC at e;simp only[az.mk.injEq] at e;exact e
 generalize DH f g=sb at*
 refine aA (ax ?_);refine af (br (cH [(0,aL f,48),(1,aL g,48)] eH (l:=[(2,.pt (aL f)),(3,.pt (aL g))]) eH) (aG (c6 (hD [(29,30),(29,31),(39,40),(39,41)]) ?_)));refine cJ ?_;refine ag ?_;refine cF rfl rfl (abl rfl rfl) (λhc=>⟨ak,V.h⟩) (aX ?_);refine aX ?_;refine Di rfl rfl rfl (λhc=>⟨(by repeat' (first|exact trivial|exact hc|exact rfl|refine And.intro ?_ ?_)),ka⟩) ?_;refine ag ?_;refine Di rfl rfl rfl (λhc=>⟨(by repeat' (first|exact trivial|exact hc|exact rfl|refine And.intro ?_ ?_)),kb⟩) ?_;refine cz ?_;refine Di rfl rfl rfl (λhc=>⟨(by repeat' (first|exact trivial|exact hc|exact rfl|refine And.intro ?_ ?_)),kc⟩) ?_;refine ag ?_;refine Di rfl rfl rfl (λhc=>⟨(by repeat' (first|exact trivial|exact hc|exact rfl|refine And.intro ?_ ?_)),J⟩) ?_;refine aX ?_;refine aX ?_;refine ax ?_;refine bJ bM (cM rfl (λh=>?_) λh=>cI (aG (aA ?_)))
 .refine aG (al (SS ?_));refine af (de (aC (d:=B false) rfl ?_));rw[eD λe=>?_];let⟨e1,e2,e3,e4,e5,e6,e7,e8⟩:=VU e;revert h;rw[e1,e2,e3,e4,e5,e6,e7,e8];simp
 simp only[orI,Bool.or_eq_false_iff] at h;obtain⟨⟨⟨⟨⟨⟨⟨n1,n2⟩,n3⟩,n4⟩,n5⟩,n6⟩,n7⟩,n8⟩:=h;have e1:=RL n1;have e2:f.iter=g.iter:=by simpa using n2
 have e3:f.args=g.args:=by simpa using n3
 have e4:f.result=g.result:=by simpa using n4
 have e5:f.aj.map iT=g.aj.map iT:=by simpa using n5
 have e6:f.a6.map iT=g.a6.map iT:=by simpa using n6
 have l7:f.signals.length=g.signals.length:=by
  have:¬ ((f.signals.length:Int)≠g.signals.length):=by simpa using n7
  omega
 have l8:f.blocks.length=g.blocks.length:=by
  have:¬ ((f.blocks.length:Int)≠g.blocks.length):=by simpa using n8
  omega
 clear n1 n2 n3 n4 n5 n6 n7 n8;have gq:=eS (.agg (aL f)) oS;have hrs:=(gq.agg (fT f.signals) (by simp[aL])).sl.1;have X:=(gq.agg (dz f.blocks) (by simp[aL])).sl;have avY:=X.1
 have avZ:∀ x∈f.blocks,x.ins.length<=9223372036854775807/\x.fin.aK.length<=9223372036854775807:=λx hx=>by
  have hm:∀ d∈cE x,Real d:=λd hd=>X.2 d (mem_flatMap.2 ⟨x,hx,hd⟩);have q1:=(hm (jo x.ins) (by simp[cE])).sl.1;have q2:=(hm (nX x.fin.aK) (by simp[cE,bq])).sl.1;unfold maxLen at q1 q2;omega
 unfold maxLen at hrs avY;clear X gq eS ka kb kc J kab kcd;refine SS ?_
 refine af (cw (λs=>aP prog s ⟨aD [(2,.pt (aL f)),(3,.pt (aL g))],λ_=>none,2⟩/\f.signals=g.signals) (cT (α:=Nat) (λk=>⟨aD [(2,.pt (aL f)),(3,.pt (aL g)),(5,I k)],λ_=>none,2⟩)
  (λk=>k<=f.signals.length/\∀ j,j<k->f.signals[j]? =g.signals[j]?) (λk=>f.signals.length - k) 0 (au eH) ⟨Nat.zero_le _,λj hj=>by omega⟩ ?_) ?_)
 .rintro k ⟨hk,hinv⟩;refine bh ?_;refine af ⟨_,rfl,λh=>?_,λh=>?_⟩
  .have ao:k<f.signals.length:=by simpa using h
   obtain⟨x,hx⟩:∃ x,f.signals[k]? =some x:=⟨_,aO ao⟩
   obtain⟨y,hy⟩:∃ y,g.signals[k]? =some y:=⟨_,aO oG⟩
   refine c6 iO (aX ?_);refine ag ?_;refine bJ bM (aB rfl (λhp=>al ?_) λhp=>cB ?_)
   .refine SS ?_;refine af (bj (bP (aY (aC (d:=B false) rfl ?_))));rw[eD λe=>?_];let⟨_,_,_,_,_,_,e7,_⟩:=VU e;rw[e7,hy] at hx;cases hx;have hp:(!(x.toList==x.toList))=true:=hp;simp at hp
   .show aE _ _ _ _ _ _ _ _ _;refine ax ?_;refine af (aW (k+1) (au eH) ⟨oG,λj hj=>?_⟩ oG);by_cases e:j=k
    .subst e;rw[hx,hy];congr 1;exact RL hp
    .exact hinv j oG
  .have bt:¬ k<f.signals.length:=by simpa using h
   refine⟨au eH,List.ext_getElem? λj=>?_⟩;by_cases hj:j<k
   .exact hinv j hj
   .rw[List.getElem?_eq_none oG,List.getElem?_eq_none oG]
 rintro s ⟨hg,e7⟩;refine⟨_,hg,aG (aA ?_)⟩;refine SS ?_
 refine af (cw (λs=>(∃ nx,aP prog s ⟨aD [],λ_=>none,nx⟩)/\f.blocks=g.blocks) (cT (α:=Nat×Nat) (λs=>⟨aD [(2,.pt (aL f)),(3,.pt (aL g)),(6,I s.1)],λ_=>none,s.2⟩)
  (λs=>s.1<=f.blocks.length/\∀ j,j<s.1->f.blocks[j]? =g.blocks[j]?) (λs=>f.blocks.length - s.1) (0,2) (au eH) ⟨Nat.zero_le _,λj hj=>by dsimp only at hj;omega⟩ ?_) ?_)
 .rintro⟨k,nx⟩ ⟨hk,hinv⟩;dsimp only at hk hinv ⊢;refine bh ?_;refine af ⟨_,rfl,λh=>?_,λh=>?_⟩
  .have ao:k<f.blocks.length:=by simpa using h
   clear h;obtain⟨x,hx⟩:∃ x,f.blocks[k]? =some x:=⟨_,aO ao⟩
   obtain⟨y,hy⟩:∃ y,g.blocks[k]? =some y:=⟨_,aO oG⟩
   obtain⟨Hw,hxw⟩:=avZ x (bD hx)
   have U:(x=y->False)->sb=false:=λaR=>eD λe=>by
    let⟨_,_,_,_,_,_,_,e8⟩:=VU e;rw[e8,hy] at hx;cases hx;exact aR rfl
   refine ws ?_;refine ek ?_;refine er ?_;refine ek ?_;refine af (aG (al ?_));refine bh ?_;refine af (cM rfl (λh=>?_) λh=>cI (aG (aA ?_)))
   .refine aG (al (SS ?_));refine af (de (bP (aY (aC (d:=B false) rfl ?_))));rw[U λe=>?_];subst e;simp at h
   have li:x.ins.length=y.ins.length:=by
    have:¬ ((x.ins.length:Int)≠y.ins.length):=by simpa using h
    omega
   clear h;refine SS ?_
   refine af (cw (λs=>aP prog s ⟨aD [(2,.pt (aL f)),(3,.pt (aL g)),(6,I k)],λ_=>none,nx⟩/\x.ins=y.ins) (cT (α:=Nat) (λj=>⟨aD [(2,.pt (aL f)),(3,.pt (aL g)),(6,I k),(7,jo x.ins),(8,jo y.ins),(9,I j)],λ_=>none,nx⟩)
    (λj=>j<=x.ins.length/\∀ i,i<j->x.ins[i]? =y.ins[i]?) (λj=>x.ins.length - j) 0 (au eH) ⟨Nat.zero_le _,λj hj=>by omega⟩ ?_) ?_)
   .rintro j ⟨hj,C⟩;refine aQ ?_;refine af ⟨_,rfl,λh=>?_,λh=>?_⟩
    .have cW:j<x.ins.length:=by simpa using h
     obtain⟨u,hu⟩:∃ u,x.ins[j]? =some u:=⟨_,aO cW⟩
     obtain⟨v,hv⟩:∃ v,y.ins[j]? =some v:=⟨_,aO oG⟩
     refine c6 iO (cJ ?_);refine cl k96 ?_;refine SS ?_;refine bJ bM (aB rfl (λhp=>al ?_) λhp=>cB ?_)
     .refine SS ?_;refine af (bj (bP (aY (bP (aY (aC (d:=B false) rfl ?_))))));rw[U λe=>?_];subst e;rw[hv] at hu;cases hu;have hp:(!(rK u u))=true:=hp;rw[HX.2 rfl] at hp;cases hp
     .have hp:(!(rK u v))=false:=hp;show aE _ _ _ _ _ _ _ _ _;refine ax ?_;refine af (aW (j+1) (au eH) ⟨oG,λi hi=>?_⟩ oG);by_cases e:i=j
      .subst e;rw[hu,hv];congr 1;exact HX.1 (by simpa using hp)
      .exact C i oG
    .have bt:¬ j<x.ins.length:=by simpa using h
     refine⟨au eH,List.ext_getElem? λi=>?_⟩;by_cases hi:i<j
     .exact C i hi
     .rw[List.getElem?_eq_none oG,List.getElem?_eq_none oG]
   rintro s ⟨hg,azO⟩;refine⟨_,hg,aA ?_⟩;refine cJ ?_;refine af (br (gd (i:=nx) (l:=[(2,.pt (aL f)),(3,.pt (aL g)),(6,I k),(10,.pt (bq x.fin))]) (aw _ _ _) ⟨rfl,rfl,rfl,nh,aa⟩) (aA ?_));refine cJ ?_;refine af (br (gd (i:=nx+1) (l:=[(2,.pt (aL f)),(3,.pt (aL g)),(6,I k),(10,.pt (bq x.fin)),(11,.pt (bq y.fin))]) (aw _ _ _) ⟨rfl,rfl,rfl,rfl,nh,aa⟩) (aG (al ?_)));refine aX ?_;refine aX ?_;refine aX ?_;refine aX ?_;refine aX ?_;refine cF rfl rfl (abi rfl rfl) (λhc=>⟨ak,aa⟩) ?_;refine cz ?_;refine gc k96 ?_;refine ek ?_;refine gc vD ?_;refine aX ?_;refine ag ?_;refine af (cM rfl (λh=>?_) λh=>cI (aA ?_))
   .refine aG (al (SS ?_));refine af (de (bP (aY (aC (d:=B false) rfl ?_))));rw[U λe=>?_];subst e;revert h;simp[HX.2]
   simp only[orI,Bool.or_eq_false_iff] at h;obtain⟨⟨⟨⟨⟨⟨⟨⟨⟨m1,m2⟩,m3⟩,m4⟩,m5⟩,m6⟩,m7⟩,m8⟩,m9⟩,M⟩:=h
   have lw:x.fin.aK.length=y.fin.aK.length:=by
    have:¬ ((x.fin.aK.length:Int)≠y.fin.aK.length):=by simpa using M
    omega
   have xA:x.fin.aK=y.fin.aK->x=y:=λhw=>by
    have q1:x.fin.kind=y.fin.kind:=by simpa using m1
    have q2:x.fin.a=y.fin.a:=by simpa using m2
    have q3:x.fin.b=y.fin.b:=by simpa using m3
    have q4:x.fin.to=y.fin.to:=by simpa using m4
    have q5:x.fin.ei=y.fin.ei:=by simpa using m5
    have q6:x.fin.others=y.fin.others:=by simpa using m6
    have q7:=RL m7;have q8:x.fin.ins=y.fin.ins:=HX.1 (by simpa using m8);have q9:x.fin.args=y.fin.args:=by simpa using m9
    rcases x with⟨xi,xf⟩
    rcases y with⟨yi,yf⟩
    cases xf;cases yf;simp_all
   clear m1 m2 m3 m4 m5 m6 m7 m8 m9 M;refine SS ?_
   refine af (cT (α:=Nat) (λj=>⟨aD [(2,.pt (aL f)),(3,.pt (aL g)),(6,I k),(10,.pt (bq x.fin)),(11,.pt (bq y.fin)),(12,I j)],λ_=>none,nx+1+1⟩)
    (λj=>j<=x.fin.aK.length/\∀ i,i<j->x.fin.aK[i]? =y.fin.aK[i]?) (λj=>x.fin.aK.length - j) 0 (au eH) ⟨Nat.zero_le _,λj hj=>by omega⟩ ?_)
   rintro j ⟨hj,C⟩;refine bh ?_;refine af ⟨_,rfl,λh=>?_,λh=>?_⟩
   .have cW:j<x.fin.aK.length:=by simpa using h
    obtain⟨u,hu⟩:∃ u,x.fin.aK[j]? =some u:=⟨_,aO cW⟩
    obtain⟨v,hv⟩:∃ v,y.fin.aK[j]? =some v:=⟨_,aO oG⟩
    refine c6 iO (cJ ?_);refine ag ?_;refine aI (ac6 (c:= !(DI u v)) rfl rfl avV (anO u v) (by rw[alZ])) aM ⟨rfl,avW⟩ (bJ bM (aB rfl (λhp=>al ?_) λhp=>cB ?_))
    .refine SS ?_;refine af (bj (bP (bP (aY (aC (d:=B false) rfl ?_)))));rw[U λe=>?_];subst e;rw[hv] at hu;cases hu;have hp:(!(DI u u))=true:=hp;simp[DI] at hp
    .have hp:(!(DI u v))=false:=hp;show aE _ _ _ _ _ _ _ _ _;refine ax ?_;refine af (aW (j+1) (au eH) ⟨oG,λi hi=>?_⟩ oG);by_cases e:i=j
     .subst e;rw[hu,hv];congr 1;simpa[DI] using hp
     .exact C i oG
   .have bt:¬ j<x.fin.aK.length:=by simpa using h
    have hxy:x=y:=xA (List.ext_getElem? λi=>by
     by_cases hi:i<j
     .exact C i hi
     .rw[List.getElem?_eq_none oG,List.getElem?_eq_none oG])
    show aE _ _ _ _ _ _ _ _ _;refine ax ?_;refine af (aW (k+1,nx+1+1) (au eH) ⟨oM,λi hi=>?_⟩ oM);dsimp only at hi;by_cases e:i=k
    .subst e;rw[hx,hy,hxy]
    .exact hinv i oG
  .have bt:¬ k<f.blocks.length:=by simpa using h
   refine⟨⟨nx,au aa⟩,List.ext_getElem? λj=>?_⟩;by_cases hj:j<k
   .exact hinv j hj
   .rw[List.getElem?_eq_none oG,List.getElem?_eq_none oG]
 .rintro s ⟨⟨nx,hg⟩,e8⟩;refine⟨_,hg,al ?_⟩;refine SS ?_;refine af (aC (d:=B true) rfl ?_);rw[gZ (uB e1 e2 e3 e4 e5 e6 e7 e8)]
def qA(n:Nat):List ByteArray:=replicate n AU
def ahg(n:Nat):qA (n+1)=qA n++[AU]:=by unfold qA;rw[List.replicate_succ']
@[simp] theorem XG (n : Nat) : (qA n).length = n := by simp [qA]
def vZ(f g:az):Bool:=DH (o7 f) (o7 g)
def anP{n:Int}(h:0<=n/\n<=255):iT n=n:=by
 unfold iT;simp only[IntKind.wrap,IntKind.bits,IntKind.signed];simp;omega
def Zx{l:List Int}(h:∀ r∈l,0<=r/\r<=255):l.map iT=l:=by
 conv=>rhs;rw[<- map_id l]
 exact map_congr_left λr hr=>anP (h r hr)
def abV{f:az}(h:Iq f):qC f=f:=by
 rw[qC,Zx h.aj,Zx h.a6]
def al2{f g:az}(hf:eF f=0)(hg:eF g=0):vZ f g=true↔o7 f=o7 g:=by
 rw[vZ,Qz,abV (Fp hf),abV (Fp hg)]
def zD{f:az}(C:f.blocks.length<=1000000):aH prog 69 [.agg (aL f)] (.agg (aL (o7 f))):=by
 have oO:=oO C;have dB:(cU f.blocks).length<=1000000:=Nat.le_trans (zL f.blocks) C;have Ph:=Ph (f:=f) (name:=AU) (to:=λ_=>AU) (ls:=qA (cU f.blocks).length) (by simp[qA,map_const']) C
 change aH _ _ _ (.agg (aL (o7 f))) at Ph
 refine bx (fo f69) (.cons (.agg (gS f)) .nil) (.agg (gS _)) ?_;refine aA (ag ?_);refine af ⟨_,mq (i:=0) (cs:=aL f) (e:=48) rfl (l:=[(1,.pt (aL f)),(2,.rp 1 0)]) eH (ml:=[(1,.cells ja 48)]) eH,aA ?_⟩;refine SS ?_;refine af ⟨_,.oY _ _ _ 3 9 rfl,aG (aA ?_)⟩;refine SS ?_;generalize cU f.blocks=pK at*
 refine af (cw (λs=>∃ nx,aP prog s ⟨aD [(1,.pt (aL f)),(2,.rp 1 0),(3,fT (qA pK.length))],bA [(1,.cells ja 48)],nx⟩) (cT (α:=Nat×Nat×Nat)
  (λs=>⟨aD [(1,.pt (aL f)),(2,.rp 1 0),(3,.rs s.2.1 0 (qA s.1).length),(4,I s.1)],bA [(1,.cells ja 48),(s.2.1,.cells ((qA s.1).map S) 9)],s.2.2⟩)
  (λs=>s.1<=pK.length/\1<s.2.1/\s.2.1<s.2.2) (λs=>pK.length - s.1) (0,2,3)
  (bp eH eH) ⟨Nat.zero_le _,oC,oC⟩ ?_) ?_)
 .rintro⟨k,r,nx⟩ ⟨hk,U,hr⟩;dsimp only at hk U hr ⊢
  have aF:bA [(1,Row.cells ja 48),(r,Row.cells ((qA k).map S) 9)] r=some (.cells ((qA k).map S) 9):=by
   show(if r=1 then _ else if r=r then _ else none)=_;rw[ai oG,bi rfl]
  have fJ:bA [(1,Row.cells ja 48),(r,Row.cells ((qA k).map S) 9)] 1=some (.cells ja 48):=rfl;have nv:(qA k).length<=1000000:=by rw[XG];omega
  have J:=ahg k;have M:=XG k;generalize bA [(1,Row.cells ja 48),(r,Row.cells ((qA k).map S) 9)]=m at*
  generalize hu:qA k=us at*
  refine bh ?_;refine af ⟨_,rfl,λh=>?_,λh=>?_⟩
  .have ao:k<pK.length:=s0 h
   clear h;refine kU (aQ ?_);apply af;show aE _ _ _ _ _ _ _ _ _;refine ax ?_;refine af (aW (k+1,nx+1,nx+1+1) ?_ ⟨oM,oM,oM⟩ oM);dsimp only;rw[J];refine bp ⟨rfl,rfl,?_,rfl,aa⟩ ⟨?_,r9.trans (by simp;rfl),aa⟩
   .rw[length_append];rfl
   .repeat (first|exact fJ|apply ay oG)
  .have bt:¬ k<pK.length:=s0 h
   have X:k=pK.length:=by omega
   subst X;rw[hu];refine⟨_,mq (i:=r) (cs:=us.map S) (e:=9) aF (l:=[(1,.pt (aL f)),(2,.rp 1 0),(3,fT us)]) ⟨rfl,lz oG,?_,aa⟩ (ml:=[(1,.cells ja 48)]) ⟨?_,aa⟩⟩
   .exact(lS (by rw[c9];simp)).trans oS
   .exact RH oG fJ rfl
 .rintro s ⟨nx,hg⟩;refine⟨_,hg,al ?_⟩;refine aQ ?_;exact af (nG (kz rfl rfl AR zz rfl t48 (bY 8)) rfl)
def zE{f g:az}(hf:eF f=0)(hg:eF g=0):aH prog 52 [.agg (aL f),.agg (aL g)] (B (vZ f g)):=by
 have C:=(Fp hf).r5;have J:=(Fp hg).r5;have zD:∀ {f:az},eF f=0->aH prog 69 [.agg (aL f)] (.agg (aL (o7 f))):=λ{f} h=>zD (by have:=(yR (Abs.checked h)).mh;omega);have M:=zD hf;have U:=zD hg;have Pc:=Pc (f:=o7 f) (g:=o7 g) (by have:=C.aj;omega) (by have:=C.a6;omega) (by have:=J.aj;omega) (by have:=J.a6;omega)
 change aH _ _ _ (B (vZ f g)) at Pc
 refine bx (fo f52) (.cons (.agg (gS f)) (.cons (.agg (gS g)) .nil)) (Tr.s _) ?_;refine aA (ax ?_);refine af (br (cH [(0,aL f,48),(1,aL g,48)] eH (l:=[(2,.pt (aL f)),(3,.pt (aL g))]) eH) (c6 (hD [(1,2)]) ?_));clear zD;have zD:=M;refine ag ?_;clear zD;have zD:=U;refine aQ ?_;exact bJ bM (aC rfl rfl)
def iz(n:Nat)(A:Nat->Nat->Bool)(a:Nat):List D:=(range n).map λb=>B (A a b)
def DY(A:Nat->Nat->Bool)(a b:Nat):List D:=(range b).map λc=>B (A a c)
@[simp] theorem al5 {A : Nat -> Nat -> Bool} {a b : Nat} : (DY A a b).length = b := by simp [DY]
@[simp] theorem CQ {n : Nat} {A : Nat -> Nat -> Bool} {a : Nat} : (iz n A a).length = n := by simp [iz]
def te(A:Nat->Nat->Bool)(a b:Nat):Nat->Nat->Bool:=λx y=>if x=a/\y=b then true else A x y
def anR{n:Nat}{A:Nat->Nat->Bool}{a b:Nat}:up (iz n A) a ((iz n A a).set b (B true))=iz n (te A a b):=by
 funext i;by_cases e:i=a
 .subst e;rw[aw];rw[iz,Yt];refine map_congr_left λc hc=>?_;by_cases e:c=b
  .subst e;rw[aw];simp[te]
  .rw[aV _ _ e];simp[te,e]
 .rw[aV _ _ e];unfold iz;refine map_congr_left λc hc=>?_;simp[te,e]
def Sy{l:List az}(h:lF l){a b:Nat}{f g:az}(hf:l[a]? =some f)(hg:l[b]? =some g):(dS l).getD a 0=(dS l).getD b 0↔vZ f g=true:=by
 have cf:=h.sd f (bD hf);have C:=h.sd g (bD hg);have h1:(dL l)[a]? =some (tW f):=by simp[dL,hf]
 have h2:(dL l)[b]? =some (tW g):=by simp[dL,hg]
 have e:=Lw h1 h2;rw[akF cf C, <- al2 cf C] at e;rw[<- e];have ha:a<(bT (dL l)).length:=by rw[Fo];exact(bQ.1 h1).1
 have hb:b<(bT (dL l)).length:=by rw[Fo];exact(bQ.1 h2).1
 rw[dS,fx (d:=0) ha,fx (d:=0) hb];simp
def FT{l:List az}{a:Nat}{f:az}(h:l[a]? =some f):(bC l).getD a []=(cU f.blocks).map (eN l):=by
 unfold bC;exact mW (by simp[h])
def eW.put{m:Mem}{nx j n i:Nat}{e et:TypeId}{ρ:Nat->Nat}{L:Nat->List D}{l:List D}(h:eW m nx j n e et ρ L)(hi:i<n)(hl:l.length=(L i).length)(M:L i≠[]):eW (up m (ρ i) (some (.cells l et))) nx j n e et ρ (up L i l):=by
 have tv:l≠[]:=λe=>by
  subst e;exact M (eq_nil_of_length_eq_zero hl.symm)
 have J:∀ k,up L i l k≠[]->L k≠[]:=λk hk=>by
  by_cases e:k=i
  .subst e;exact M
  .rwa[aV _ _ e] at hk
 refine⟨?_,h.mY,λk hk C=>?_,λk hk C=>h.lt k hk (J k C),λk hk C=>h.ne k hk (J k C),λa b ha hb qX X=>h.inj a b ha hb (J a qX) (J b X)⟩
 .rw[aV _ _ (λe=>h.ne i hi M e.symm),h.row];congr 2;refine map_congr_left λk hk=>?_;by_cases e:k=i
  .subst e;rw[aw,sU tv,sU M,hl]
  .rw[aV _ _ e]
 .by_cases e:k=i
  .subst e;rw[aw,aw]
  .rw[aV _ _ e,aV _ _ λU=>e (h.inj k i hk hi (J k C) M U)];exact h.rR k hk (J k C)
def eW.congr{m:Mem}{nx j n:Nat}{e et:TypeId}{ρ:Nat->Nat}{L M:Nat->List D}(h:eW m nx j n e et ρ L)(J:∀ i,i<n->M i=L i):eW m nx j n e et ρ M:=by
 refine⟨?_,h.mY,λi hi C=>?_,λi hi C=>h.lt i hi (J i hi▸C),λi hi C=>h.ne i hi (J i hi▸C),λa b ha hb X U=>h.inj a b ha hb (J a ha▸X) (J b hb▸U)⟩
 .rw[h.row];congr 2;exact map_congr_left λi hi=>by rw[J i (mem_range.1 hi)]
 .rw[J i hi] at C ⊢;exact h.rR i hi C
def Zy{P:Program}{f:FuncId}{args C:List D}{r:D}(hc:aH P f C r)(hl:C.length=args.length)(h:∀ (k:Nat) (d d':D),args[k]? =some d->C[k]? =some d'->Wk d d')(ht:∀ a∈args,Tr a):aH P f args r:=by
 refine⟨hc.1,ht,λF w vs M hR=>hc.2.2 F w vs M ⟨by rw[hR.1,hl],λk d' v J hv=>?_⟩⟩;have hk:k<args.length:=by have:=(bQ.1 J).1;omega
 exact h k args[k] d' (aO hk) J F _ w v (hR.2 k args[k] v (aO hk) hv)
def ao4{l:List az}(h:vY l=true)(hs:∀ f∈l,0<=f.result):Gl l:=by
 have hl:=aaI h;rw[vY,aJ,bK] at h;have J:∀ f∈l,vX f=true:=h.1
 have C:∀ f∈l,∀ b∈f.blocks,xB b=true:=λf hf=>by
  have:=J f hf;unfold vX at this;simp[aJ,bK] at this;exact this.2.2
 refine⟨λf hf=>⟨hs f hf,?_,λs M=>?_,λb hb=>⟨?_,λw U=>?_⟩⟩,λf hf b hb=>?_,oG⟩
 .have:=J f hf;unfold vX GH at this;simp[aJ,Bool.not_eq_true',Bool.or_eq_false_iff,decide_eq_false_iff_not] at this;have:=this.1.2.2.2.2;unfold maxLen;omega
 .have:=J f hf;unfold vX at this;simp[aJ,bK] at this;have:=this.2.1 s M;unfold DX at this;simp at this;unfold maxLen;omega
 .have:=C f hf b hb;unfold xB DW at this;simp[aJ,Bool.not_eq_true',Bool.or_eq_false_iff,decide_eq_false_iff_not] at this;have:=this.1.2.2.2.1;unfold maxLen;omega
 .have:=C f hf b hb;unfold xB at this;simp[aJ,bK] at this;have:=this.2.2 w U;unfold GJ at this;simp at this;unfold maxLen;omega
 .have:=C f hf b hb;unfold xB DW at this;simp[aJ,Bool.not_eq_true',Bool.or_eq_false_iff,decide_eq_false_iff_not] at this;have:=this.1.2.1;omega
end Go.Abs
end
end
