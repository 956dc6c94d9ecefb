/- Part 22. -/
import Derived.Test.YtkogeiacmmckkaaGreatDoorFlowNames21
set_option linter.all false
set_option maxHeartbeats 0
set_option maxRecDepth 10000
section
open Go Go.Proofs List
namespace Go.Abs
open Go.Proofs.Tryz
def js(a b:Bool):(if a=true then b else false)=(a&&b):=by cases a<;>rfl
section
variable{f:aO}{hd:D}(ht:Tr hd)(di:hd.one=true)
include ht di
def RP{x:Ins}:aE prog 231 [.agg (cD f hd),.agg (aI x)] (B (ni f x)):=by
 have cx:∀ {r k:Int},aE prog 226 [.agg (cD f hd),I r,U8 k] (B (bQ f r k)):=λ{r k}=>cx ht di;have wI:∀ {l:List Int},aE prog 228 [.agg (cD f hd),av l] (B (iX f.ag l)):=λ{l}=>wI ht di;refine bN (fo f231) (.cons (.agg (yu ht f)) (.cons (.agg (jP x)) .nil)) (Tr.s _) ?_;refine aF (az ?_);refine ab (bF (cE [(0,cD f hd,206),(1,aI x,45)] eH (l:=[(2,.pt (cD f hd)),(3,.pt (aI x))]) eH) (aM (aj ?_)));refine af ?_;refine ab (pQ (cI (λs=>aL prog s ⟨ay [(2,.pt (cD f hd)),(3,.pt (aI x)),(6,U8 x.op),(7,B (aC [30,31,32,33,34] x.op))],λ_=>none,2⟩) (aj ?_) λs hg=>⟨_,hg,?_⟩))
 . (iterate 3 refine af ?_;refine ab (au rfl (λh=>bd (ao ⟨rfl,rfl,rfl,dP h oC,aa⟩)) λ_=>aj ?_));refine af ?_;refine ab (au rfl (λh=>bd (ao ⟨rfl,rfl,rfl,dP h oC,aa⟩)) λX=>eI ?_);refine af ?_;refine ab (ao ⟨rfl,rfl,rfl,?_,aa⟩);show D.s (.bool (x.op==34))=_;simp only[aC,any_cons,any_nil,X,Bool.false_or,Bool.or_false, *]
 refine au rfl (λh0=>aj ?_) λh0=>aj ?_
 .have cU:aE prog 225 [.agg (aI x),S ⟨#[116,97,98]⟩] (B (cC x [116,97,98])):=cU oC;refine SS ?_;refine cl cU ?_;refine aX ?_;refine gc cx ?_;refine bG ?_;refine gc cx ?_;refine bG ?_;refine gc cx ?_;refine af ?_;refine ab (bD (cu (bc (aD (d:=.s (.bool _)) rfl ?_))));have e:ni f x=(cC x [116,97,98]&&(bQ f x.to 119&&(bQ f x.a 119&&bQ f x.b 119))):=by rw[ni,bi h0]
  rw[e];simp only[js,Bool.and_assoc,aZ]
 refine af ?_;refine ab (au rfl (λh1=>aj ?_) λh1=>aj ?_)
 .have cU:aE prog 225 [.agg (aI x),S ⟨#[97,98]⟩] (B (cC x [97,98])):=cU oC;refine SS ?_;refine cl cU ?_;refine aX ?_;refine gc cx ?_;refine bG ?_;refine gc cx ?_;refine af ?_;refine ab (bD (cu (bc (aD (d:=.s (.bool _)) rfl ?_))));have e:ni f x=(cC x [97,98]&&(bQ f x.a 114&&bQ f x.b 118)):=by rw[ni,ai (by rw[h0];decide),bi (by simpa using h1)]
  rw[e];simp only[js,Bool.and_assoc,aZ]
 have h1:¬ x.op=35:=tn h1
 refine af ?_;refine ab (au rfl (λh2=>aj ?_) λh2=>aj ?_)
 .have cU:aE prog 225 [.agg (aI x),S ⟨#[116,97]⟩] (B (cC x [116,97])):=cU oC;refine SS ?_;refine cl cU ?_;refine aX ?_;refine gc cx ?_;refine bG ?_;refine gc cx ?_;refine af ?_;refine ab (bD (cu (bc (aD (d:=.s (.bool _)) rfl ?_))));have e:ni f x=(cC x [116,97]&&(bQ f x.to 118&&bQ f x.a 114)):=by rw[ni,ai (by rw[h0];decide),ai h1,bi (by simpa using h2)]
  rw[e];simp only[js,Bool.and_assoc,aZ]
 have h2:¬ x.op=36:=tn h2
 refine af ?_;refine ab (au rfl (λC=>aj ?_) λC=>aj ?_)
 .have cU:aE prog 225 [.agg (aI x),S ⟨#[116,97,98]⟩] (B (cC x [116,97,98])):=cU oC;refine SS ?_;refine cl cU ?_;refine aX ?_;refine gc cx ?_;refine bG ?_;refine gc cx ?_;refine bG ?_;refine gc cx ?_;refine af ?_;refine ab (bD (cu (bc (aD (d:=.s (.bool _)) rfl ?_))));have e:ni f x=(cC x [116,97,98]&&(bQ f x.to 118&&(bQ f x.a 114&&bQ f x.b 119))):=by rw[ni,ai (by rw[h0];decide),ai h1,ai h2,bi (by simpa using C)]
  rw[e];simp only[js,Bool.and_assoc,aZ]
 have C:¬ x.op=37:=tn C
 refine af ?_;refine ab (au rfl (λJ=>aj ?_) λJ=>pw (aj ?_))
 .have cU:aE prog 225 [.agg (aI x),S ⟨#[97,98,108]⟩] (B (cC x [97,98,108])):=cU oC;refine SS ?_;refine cl cU ?_;refine aX ?_;refine gc cx ?_;refine bG ?_;refine gc cx ?_;refine bg ?_;refine af ?_;refine gc wI ?_;refine af ?_;refine ab (bD (cu (bc (aD (d:=.s (.bool _)) rfl ?_))));have e:ni f x=(cC x [97,98,108]&&(bQ f x.a 114&&(bQ f x.b 119&&(aZ x.args.length 1&&iX f.ag x.args)))):=by rw[ni,ai (by rw[h0];decide),ai h1,ai h2,ai C,bi (by simpa using J)]
  rw[e];simp only[js,Bool.and_assoc,aZ];rfl
 have J:¬ x.op=38:=tn J
 refine SS ?_;refine ab (aD (d:=.s (.bool _)) rfl ?_);rw[ni,ai (by rw[h0];decide),ai h1,ai h2,ai C,ai J]
end
def uI{f:aO}{L:List (List Int)}{b:Nat}{A:List Int}{x:Ins}(hb:L[b]? =some A)(hl:f.aU.length<=60)(hs:∀ k∈f.aU,k=1\/k=2)(hL:L.length<=100000):
 aE prog 151 [.agg (cD f (cr L)),.agg (aI x),I b] (B (eX f b A.length x)):=by
 have ht:=DG L;have di:(cr L).one=true:=rfl;have cx:∀ {r k:Int},aE prog 226 [.agg (cD f (cr L)),I r,U8 k] (B (bQ f r k)):=λ{r k}=>cx ht di;have Cg:∀ {a b:Int},aE prog 227 [.agg (cD f (cr L)),I a,I b] (B (mB f a b)):=λ{a b}=>Cg ht di;have wI:∀ {l:List Int},aE prog 228 [.agg (cD f (cr L)),av l] (B (iX f.ag l)):=λ{l}=>wI ht di;have LU:∀ {n r:Int},aE prog 229 [.agg (cD f (cr L)),I n,I r] (B (oK f.ag f.aU r n)):=λ{n r}=>LU ht di hl hs;have gD:∀ {n a b:Int},aE prog 82 [I n,I a,I b] (B (dz n a b)):=λ{n a b}=>gD;have bB:∀ a∈[D.agg (cD f (cr L)),.agg (aI x),I b],Tr a:=.cons (.agg (yu ht f)) (.cons (.agg (jP x)) fl);refine qP (fo f151).he bB λiJ=>?_;have hlen:x.args.length<=maxLen:=((iJ _ (mem_cons_of_mem _ (mem_cons_self ..))).agg (av x.args) (by simp[aI])).sl.1;unfold maxLen at hlen;refine bN (fo f151) bB (Tr.s _) ?_;refine aF (az ?_);refine ab (bF (cE [(0,cD f (cr L),206),(1,aI x,45)] eH (l:=[(2,I b),(3,.pt (cD f (cr L))),(4,.pt (aI x))]) eH) (aM (aj ?_)));refine af ?_;refine ab (pQ (ws (af ?_)));refine ab (au rfl (λh0=>?_) λh0=>?_)
 .apply ws;have cU:aE prog 225 [.agg (aI x),S ⟨#[116,110]⟩] (B (cC x [116,110])):=cU oC;refine SS ?_;refine cl cU ?_;refine aX ?_;refine gc cx ?_;refine aX ?_;refine gc gD ?_;refine af ?_;refine ab (bD (cu (bc (aD (d:=.s (.bool _)) rfl ?_))));have e:eX f b A.length x=(cC x [116,110]&&(bQ f x.to 119&&dz x.n (-1000000000) 1000000000)):=by rw[eX,bi (by simpa using h0)]
  rw[e];simp only[js,Bool.and_assoc,aZ]
 have h0:¬ x.op=1:=by simpa using h0
 refine ws (af ?_);refine ab (au rfl (λh1=>?_) λh1=>?_)
 .apply ws;have cU:aE prog 225 [.agg (aI x),S ⟨#[116,97]⟩] (B (cC x [116,97])):=cU oC;refine SS ?_;refine cl cU ?_;refine cB ?_;refine gc Cg ?_;refine af ?_;refine ab (bD (cu (bc (aD (d:=.s (.bool _)) rfl ?_))));have e:eX f b A.length x=(cC x [116,97]&&mB f x.to x.a):=by rw[eX,ai h0,bi (by simpa using h1)]
  rw[e];simp only[js,Bool.and_assoc,aZ]
 have h1:¬ x.op=2:=by simpa using h1
 refine cI (λs=>aL prog s ⟨ay [(2,I b),(3,.pt (cD f (cr L))),(4,.pt (aI x)),(9,U8 x.op),(37,B (aC [3,4,6,7] x.op))],λ_=>none,2⟩) (aj ?_) λs hg=>⟨_,hg,?_⟩
 . (iterate 2 refine af ?_;refine ab (au rfl (λh=>bd (ao ⟨rfl,rfl,rfl,rfl,dP h oC,aa⟩)) λ_=>aj ?_));refine af ?_;refine ab (au rfl (λh=>bd (ao ⟨rfl,rfl,rfl,rfl,dP h oC,aa⟩)) λe6=>eI ?_);refine af ?_;refine ab (ao ⟨rfl,rfl,rfl,rfl,?_,aa⟩);show D.s (.bool (x.op==7))=_;simp only[aC,any_cons,any_nil,e6,Bool.false_or,Bool.or_false, *]
 refine au rfl (λh2=>aj ?_) λh2=>?_
 .have cU:aE prog 225 [.agg (aI x),S ⟨#[116,97,98]⟩] (B (cC x [116,97,98])):=cU oC;refine SS ?_;refine cl cU ?_;refine aX ?_;refine gc cx ?_;refine bG ?_;refine gc cx ?_;refine bG ?_;refine gc cx ?_;refine af ?_;refine ab (bD (cu (bc (aD (d:=.s (.bool _)) rfl ?_))));have e:eX f b A.length x=(cC x [116,97,98]&&(bQ f x.to 119&&(bQ f x.a 119&&bQ f x.b 119))):=by rw[eX,ai h0,ai h1,bi h2]
  rw[e];simp only[js,Bool.and_assoc,aZ]
 refine ws (af ?_);refine ab (au rfl (λC=>?_) λC=>?_)
 .apply ws;have cU:aE prog 225 [.agg (aI x),S ⟨#[116,97,98]⟩] (B (cC x [116,97,98])):=cU oC;refine SS ?_;refine cl cU ?_;refine aX ?_;refine gc cx ?_;refine eD ?_;refine gc Cg ?_;refine af ?_;refine ab (bD (cu (bc (aD (d:=.s (.bool _)) rfl ?_))));have e:eX f b A.length x=(cC x [116,97,98]&&(bQ f x.to 119&&mB f x.a x.b)):=by rw[eX,ai h0,ai h1,ai (by rw[h2];decide),bi (by simpa using C)]
  rw[e];simp only[js,Bool.and_assoc,aZ]
 have C:¬ x.op=5:=by simpa using C
 refine ws (af ?_);refine ab (au rfl (λJ=>?_) λJ=>?_)
 .apply ws;have cU:aE prog 225 [.agg (aI x),S ⟨#[116,97]⟩] (B (cC x [116,97])):=cU oC;refine SS ?_;refine cl cU ?_;refine aX ?_;refine gc cx ?_;refine bG ?_;refine gc cx ?_;refine af ?_;refine ab (bD (cu (bc (aD (d:=.s (.bool _)) rfl ?_))));have e:eX f b A.length x=(cC x [116,97]&&(bQ f x.to 119&&bQ f x.a 119)):=by rw[eX,ai h0,ai h1,ai (by rw[h2];decide),ai C,bi (by simpa using J)]
  rw[e];simp only[js,Bool.and_assoc,aZ]
 have J:¬ x.op=8:=by simpa using J
 refine ws (af ?_);refine ab (au rfl (λO=>?_) λO=>?_)
 .apply ws;have cU:aE prog 225 [.agg (aI x),S ⟨#[116,110]⟩] (B (cC x [116,110])):=cU oC;refine SS ?_;refine cl cU ?_;refine aX ?_;refine gc cx ?_;refine aX ?_;refine gc gD ?_;refine af ?_;refine ab (bD (cu (bc (aD (d:=.s (.bool _)) rfl ?_))));have e:eX f b A.length x=(cC x [116,110]&&(bQ f x.to 114&&dz x.n 0 1)):=by rw[eX,ai h0,ai h1,ai (by rw[h2];decide),ai C,ai J,bi (by simpa using O)]
  rw[e];simp only[js,Bool.and_assoc,aZ]
 have O:¬ x.op=9:=by simpa using O
 refine ws (af ?_);refine ab (au rfl (λU=>?_) λU=>?_)
 .apply ws;have cU:aE prog 225 [.agg (aI x),S ⟨#[116,110,108]⟩] (B (cC x [116,110,108])):=cU oC;refine SS ?_;refine cl cU ?_;refine aX ?_;refine gc cx ?_;refine aX ?_;refine gc gD ?_;refine bG ?_;refine gc gD ?_;refine bG ?_;refine gc wI ?_;refine af ?_;refine ab (bD (cu (bc (aD (d:=.s (.bool _)) rfl ?_))));have e:eX f b A.length x=(cC x [116,110,108]&&(bQ f x.to 114&&(dz x.n 0 5&&(dz x.args.length 1 6&&iX f.ag x.args)))):=by rw[eX,ai h0,ai h1,ai (by rw[h2];decide),ai C,ai J,ai O,bi (by simpa using U)]
  rw[e];simp only[js,Bool.and_assoc,aZ]
 have U:¬ x.op=10:=by simpa using U
 refine ws (af ?_);refine ab (au rfl (λX=>?_) λX=>?_)
 .apply ws;have cU:aE prog 225 [.agg (aI x),S ⟨#[116,97,110]⟩] (B (cC x [116,97,110])):=cU oC;refine SS ?_;refine cl cU ?_;refine aX ?_;refine gc cx ?_;refine bG ?_;refine gc cx ?_;refine aX ?_;refine gc gD ?_;refine af ?_;refine ab (bD (cu (bc (aD (d:=.s (.bool _)) rfl ?_))));have e:eX f b A.length x=(cC x [116,97,110]&&(bQ f x.to 118&&(bQ f x.a 114&&dz x.n 0 5))):=by rw[eX,ai h0,ai h1,ai (by rw[h2];decide),ai C,ai J,ai O,ai U,bi (by simpa using X)]
  rw[e];simp only[js,Bool.and_assoc,aZ]
 have X:¬ x.op=11:=by simpa using X
 refine ws (af ?_);refine ab (au rfl (λh8=>?_) λh8=>?_)
 .apply ws;have cU:aE prog 225 [.agg (aI x),S ⟨#[97,98,110]⟩] (B (cC x [97,98,110])):=cU oC;refine SS ?_;refine cl cU ?_;refine aX ?_;refine gc cx ?_;refine bG ?_;refine gc cx ?_;refine aX ?_;refine gc gD ?_;refine af ?_;refine ab (bD (cu (bc (aD (d:=.s (.bool _)) rfl ?_))));have e:eX f b A.length x=(cC x [97,98,110]&&(bQ f x.a 114&&(bQ f x.b 118&&dz x.n 0 5))):=by rw[eX,ai h0,ai h1,ai (by rw[h2];decide),ai C,ai J,ai O,ai U,ai X,bi (by simpa using h8)]
  rw[e];simp only[js,Bool.and_assoc,aZ]
 have h8:¬ x.op=12:=by simpa using h8
 refine cI (λs=>aL prog s ⟨ay [(2,I b),(3,.pt (cD f (cr L))),(4,.pt (aI x)),(9,U8 x.op),(180,B (aC [13,14] x.op))],λ_=>none,2⟩) (aj ?_) λs hg=>⟨_,hg,?_⟩
 .refine af ?_;refine ab (au rfl (λh=>bd (ao ⟨rfl,rfl,rfl,rfl,dP h oC,aa⟩)) λzi=>eI ?_);refine af ?_;refine ab (ao ⟨rfl,rfl,rfl,rfl,?_,aa⟩);show D.s (.bool (x.op==14))=_;simp only[aC,any_cons,any_nil,zi,Bool.false_or,Bool.or_false]
 refine au rfl (λh9=>aj ?_) λh9=>?_
 .have cU:aE prog 225 [.agg (aI x),S ⟨#[116,97]⟩] (B (cC x [116,97])):=cU oC;refine SS ?_;refine cl cU ?_;refine aX ?_;refine gc cx ?_;refine bG ?_;refine gc cx ?_;refine af ?_;refine ab (bD (cu (bc (aD (d:=.s (.bool _)) rfl ?_))));have e:eX f b A.length x=(cC x [116,97]&&(bQ f x.to 119&&bQ f x.a 114)):=by rw[eX,ai h0,ai h1,ai (by rw[h2];decide),ai C,ai J,ai O,ai U,ai X,ai h8,bi h9]
  rw[e];simp only[js,Bool.and_assoc,aZ]
 refine ws (af ?_);refine ab (au rfl (λpP=>?_) λpP=>?_)
 .apply ws;have cU:aE prog 225 [.agg (aI x),S ⟨#[97]⟩] (B (cC x [97])):=cU oC;refine SS ?_;refine cl cU ?_;refine aX ?_;refine gc cx ?_;refine af ?_;refine ab (bD (cu (bc (aD (d:=.s (.bool _)) rfl ?_))));have e:eX f b A.length x=(cC x [97]&&bQ f x.a 119):=by rw[eX,ai h0,ai h1,ai (by rw[h2];decide),ai C,ai J,ai O,ai U,ai X,ai h8,ai (by rw[h9];decide),bi (by simpa using pP)]
  rw[e];simp only[js,Bool.and_assoc,aZ]
 have pP:¬ x.op=15:=by simpa using pP
 refine ws (af ?_);refine ab (au rfl (λvz=>?_) λvz=>?_)
 .apply ws;have cU:aE prog 225 [.agg (aI x),S ⟨#[97]⟩] (B (cC x [97])):=cU oC;refine SS ?_;refine cl cU ?_;refine aX ?_;refine gc cx ?_;refine af ?_;refine ab (bD (cu (bc (aD (d:=.s (.bool _)) rfl ?_))));have e:eX f b A.length x=(cC x [97]&&bQ f x.a 105):=by rw[eX,ai h0,ai h1,ai (by rw[h2];decide),ai C,ai J,ai O,ai U,ai X,ai h8,ai (by rw[h9];decide),ai pP,bi (by simpa using vz)]
  rw[e];simp only[js,Bool.and_assoc,aZ]
 have vz:¬ x.op=16:=by simpa using vz
 refine ws (af ?_);refine ab (au rfl (λxq=>?_) λxq=>?_)
 .apply ws;have cU:aE prog 225 [.agg (aI x),S ⟨#[116,110]⟩] (B (cC x [116,110])):=cU oC;refine SS ?_;refine cl cU ?_;refine cB ?_;refine gc LU ?_;refine af ?_;refine ab (bD (cu (bc (aD (d:=.s (.bool _)) rfl ?_))));have e:eX f b A.length x=(cC x [116,110]&&oK f.ag f.aU x.to x.n):=by rw[eX,ai h0,ai h1,ai (by rw[h2];decide),ai C,ai J,ai O,ai U,ai X,ai h8,ai (by rw[h9];decide),ai pP,ai vz,bi (by simpa using xq)]
  rw[e];simp only[js,Bool.and_assoc,aZ]
 have xq:¬ x.op=17:=by simpa using xq
 refine ws (af ?_);refine ab (au rfl (λzm=>?_) λzm=>?_)
 .apply ws;have cU:aE prog 225 [.agg (aI x),S ⟨#[97,110]⟩] (B (cC x [97,110])):=cU oC;refine SS ?_;refine cl cU ?_;refine cB ?_;refine gc LU ?_;refine af ?_;refine ab (bD (cu (bc (aD (d:=.s (.bool _)) rfl ?_))));have e:eX f b A.length x=(cC x [97,110]&&oK f.ag f.aU x.a x.n):=by rw[eX,ai h0,ai h1,ai (by rw[h2];decide),ai C,ai J,ai O,ai U,ai X,ai h8,ai (by rw[h9];decide),ai pP,ai vz,ai xq,bi (by simpa using zm)]
  rw[e];simp only[js,Bool.and_assoc,aZ]
 have zm:¬ x.op=18:=by simpa using zm
 refine ws (af ?_);refine ab (au rfl (λIS=>?_) λIS=>?_)
 .have cU:aE prog 225 [.agg (aI x),S ⟨#[116,108]⟩] (B (cC x [116,108])):=cU oC;have hv:eX f b A.length x=(!aZ b 0&&(cC x [116,108]&&(bQ f x.to 118&&(aZ x.args.length A.length&&x.args.all (mB f x.to))))):=by rw[eX,ai h0,ai h1,ai (by rw[h2];decide),ai C,ai J,ai O,ai U,ai X,ai h8,ai (by rw[h9];decide),ai pP,ai vz,ai xq,ai zm,bi (by simpa using IS)]
  rw[hv];clear hv;have QB:=cU;have QC:= @cx x.to 118;have am':= @Cg x.to;generalize cC x [116,108]=lv at QB ⊢;generalize bQ f x.to 118=iv at QC ⊢;refine aM (eJ iB ?_);have cU:=QB;have cx:=QC;by_cases Fi:b=0
  .have kQ:((b:Int)==0)=true:=by simp[Fi]
   have e0:aZ b 0=true:=by simp[aZ,Fi]
   rw[e0];refine aX ?_;refine gc cU ?_;refine cB ?_;refine gc cx ?_;refine bg ?_;refine bG ?_;refine bU bX (cG rfl (λhp=>?_) λhp=>(by cases hp));refine aM (aj (SS ?_));refine ab (dX (cu (bc (aD (d:=B false) rfl ?_))));rfl
  have kQ:((b:Int)==0)=false:=by simp[Fi]
  have e0:aZ b 0=false:=by simp[aZ,Fi]
  rw[e0];refine aX ?_;refine gc cU ?_;refine cB ?_;refine gc cx ?_;refine bg ?_;refine bG ?_;refine bU bX (cG rfl (λhp=>?_) λhp=>dn ?_)
  .refine aM (aj (SS ?_));refine ab (dX (cu (bc (aD (d:=B false) rfl ?_))))
   have:(lv&&(iv&&aZ x.args.length A.length))=false:=by
    revert hp;cases lv<;>cases iv<;>simp[aZ]
   revert this;generalize x.args.all (mB f x.to)=q;generalize aZ x.args.length A.length=r;cases lv<;>cases iv<;>cases r<;>simp
  have yI:lv=true/\iv=true/\aZ x.args.length A.length=true:=by
   revert hp;cases lv<;>cases iv<;>simp[aZ]
  obtain⟨rfl,rfl,e1⟩:=yI;rw[e1];show AW _ _ _ _ (jH _ (iM _ (lE _ _ (λd _=>d=B (x.args.all (mB f x.to)))))) _;clear QB QC cU cx hp e1 e0 kQ;refine aM (aF (SS ?_))
  refine ab (cJ (λs=>aL prog s ⟨ay [],λ_=>none,2⟩/\∀ (j:Nat) y,x.args[j]? =some y->mB f x.to y=true) (dS (α:=Nat) (λk=>⟨ay [(3,.pt (cD f (cr L))),(4,.pt (aI x)),(7,I k)],λ_=>none,2⟩)
   (λk=>k<=x.args.length/\∀ j y,j<k->x.args[j]? =some y->mB f x.to y=true) (λk=>x.args.length - k) 0 (ao eH) ⟨oG,λj y hj=>by omega⟩ ?_) ?_)
  .rintro k ⟨hk,hinv⟩;refine bG ?_;refine ab ⟨_,rfl,λh=>?_,λh=>?_⟩
   .have al:k<x.args.length:=by simpa using h
    have hx:x.args[k]? =some x.args[k]:=aV al;generalize x.args[k]=y at hx;have Cg:= @am' y;refine eJ iB (cF ?_);refine cl Cg ?_;refine SS ?_;refine bU bX (au rfl (λhp=>?_) λhp=>?_)
    .refine ws (SS ?_);refine ab (bD (dd (bc (cu (bc (aD (d:=B false) rfl ?_))))));have:x.args.all (mB f x.to)=false:=all_eq_false.2 ⟨y,cL hx,by simpa using hp⟩;rw[this]
    .refine eQ (az ?_);refine ab (bA (k+1) (ao eH) ⟨oG,λj z hj hz=>?_⟩ oG);by_cases e:j=k
     .subst e;rw[hx] at hz;cases hz;simpa using hp
     .exact hinv j z oG hz
   .have bJ:¬ k<x.args.length:=by simpa using h
    exact⟨.forget _ _ _ _ λ_=>.inr rfl,λj y hy=>hinv j y (by have:=(bO.1 hy).1;omega) hy⟩
  .rintro s ⟨hg,cb⟩;refine⟨_,hg,aj ?_⟩;refine SS ?_;refine ab (bD (cu (bc (aD (d:=B true) rfl ?_))))
   have:x.args.all (mB f x.to)=true:=cm.2 λy hy=>by
    let⟨j,hj⟩:=dW hy;exact cb j y hj
   rw[this]
 have IS:¬ x.op=19:=by simpa using IS
 refine pw (aj (SS ?_));refine ab (aD (d:=.s (.bool _)) rfl ?_);rw[eX,ai h0,ai h1,ai (by rw[h2];decide),ai C,ai J,ai O,ai U,ai X,ai h8,ai (by rw[h9];decide),ai pP,ai vz,ai xq,ai zm,ai IS]
def BH(a b:Bool):(if a=true then true else b)=(a||b):=by cases a<;>rfl
section
variable{f:aO}{hd:D}(ht:Tr hd)(di:hd.one=true)
include ht di
def HY{x:Abs.End}(hw:∀ w∈x.aA,w.name.size<=maxLen)(hn:f.blocks.length<=1200):aE prog 232 [.agg (cD f hd),.agg (aR x)] (B (pk f x)):=by
 have jA:∀ {b:Int},aE prog 150 [.agg (cD f hd),I b] (B (cS f b)):=λ{b}=>jA ht di hn;have bB:∀ a∈[D.agg (cD f hd),.agg (aR x)],Tr a:=.cons (.agg (yu ht f)) (.cons (.agg (ot x)) .nil);refine bN (fo f232) bB (Tr.s _) ?_;refine aF (az ?_);refine ab (bF (cE [(0,cD f hd,206),(1,aR x,48)] eH (l:=[(2,.pt (cD f hd)),(3,.pt (aR x))]) eH) (aM (aj ?_)));have hh:pk f x=(KL f x.aA&&(decide ((x.aA.length:Int)<=7)&&(decide (x.others= -1)||cS f x.others))):=rfl;rw[hh];clear hh;generalize J:cS f x.others=bo;have U:aE prog 150 [.agg (cD f hd),I x.others] (B bo):=J▸jA;clear J;have O:= @jA;clear jA;have jA:=U;refine bg ?_;refine eD ?_;refine ab (cG rfl (λh=>?_) λh=>dn (aM (aF ?_)))
 .refine aM (aj (SS ?_));refine ab (dX (aD (d:=B false) rfl ?_))
  have h2:(decide ((x.aA.length:Int)<=7)&&(decide (x.others= -1)||bo))=false:=by
   revert h;cases bo<;>simp<;>grind
  rw[h2,Bool.and_false]
 have h2:(decide ((x.aA.length:Int)<=7)&&(decide (x.others= -1)||bo))=true:=by
  revert h;cases bo<;>simp<;>grind
 have h7:x.aA.length<=7:=by
  rw[aH,decide_eq_true_eq] at h2;omega
 rw[h2,Bool.and_true];clear h h2 jA U;refine SS ?_
 refine ab (cJ (λs=>aL prog s ⟨ay [],λ_=>none,2⟩/\∀ (j:Nat) y,x.aA[j]? =some y->ry f x.aA j y=true) (dS (α:=Nat) (λk=>⟨ay [(2,.pt (cD f hd)),(3,.pt (aR x)),(5,I k)],λ_=>none,2⟩)
  (λk=>k<=x.aA.length/\∀ j y,j<k->x.aA[j]? =some y->ry f x.aA j y=true) (λk=>x.aA.length - k) 0 (ao eH) ⟨oG,λj y hj=>by omega⟩ ?_) ?_)
 .rintro k ⟨hk,hinv⟩;refine bG ?_;refine ab ⟨_,rfl,λh=>?_,λh=>?_⟩
  .have al:k<x.aA.length:=tn h
   have hx:x.aA[k]? =some x.aA[k]:=aV al;have qu:=qu (hw _ (dG al));generalize x.aA[k]=w at hx qu;have C:ry f x.aA k w=(isName w.name&&(cS f w.to&& !(x.aA.take k).any λv=>v.name.toList==w.name.toList)):=rfl;have jA:= @O w.to;generalize isName w.name=a at qu C;generalize cS f w.to=b at jA C;refine aM (eJ iB ?_);refine bg ?_;refine aX ?_;refine cq rfl rfl (zL rfl rfl V.h V.h (Gg) oN) (λhc=>⟨ak,(zM V.h (Gg) oN)⟩) (bG ?_);refine bU bX (cG rfl (λhp=>?_) λhp=>dn (aF ?_))
   .refine aM (aj (SS ?_));refine ab (dX (dd (bc (aD (d:=B false) rfl ?_))))
    have:ry f x.aA k w=false:=by
     rw[C];revert hp;cases a<;>cases b<;>simp
    rw[MS hx this]
   have qK:a=true/\b=true:=by revert hp;cases a<;>cases b<;>simp
   obtain⟨rfl,rfl⟩:=qK;refine SS ?_
   refine ab (dS (α:=Nat) (λq=>⟨ay [(2,.pt (cD f hd)),(3,.pt (aR x)),(5,I k),(6,I q)],λ_=>none,2⟩)
    (λq=>q<=k/\∀ j y,j<q->x.aA[j]? =some y->(y.name.toList==w.name.toList)=false) (λq=>k - q) 0 (ao eH) ⟨oG,λj y hj=>by omega⟩ ?_)
   rintro q ⟨hq,sS⟩;refine az ?_;refine ab ⟨_,rfl,λh=>?_,λh=>?_⟩
   .have CV:q<k:=tn h
    have hy:x.aA[q]? =some x.aA[q]:=aV oG;generalize x.aA[q]=y at hy;refine eJ iB (bg ?_);refine az ?_;refine aaA ?_;refine bU bX (au rfl (λhp=>?_) λhp=>?_)
    .refine ws (SS ?_);refine ab (bD (dd (dd (bc (aD (d:=B false) rfl ?_)))))
     have:ry f x.aA k w=false:=by
      rw[C,any_eq_true.2 ⟨y,cL (i:=q) (by rw[getElem?_take,bi CV,hy]),hp⟩];rfl
     rw[MS hx this]
    .refine eQ (az ?_);refine ab (bA (q+1) (ao eH) ⟨oG,λj z hj hz=>?_⟩ oG);by_cases e:j=q
     .subst e;rw[hy] at hz;cases hz;exact hp
     .exact sS j z oG hz
   .have bJ:¬ q<k:=tn h
    have:q=k:=by omega
    subst this;show aJ _ _ _ _ _ _ _ _ _;refine az ?_;refine ab (bA (q+1) (ao eH) ⟨oG,λj z hj hz=>?_⟩ oG);by_cases e:j=q
    .subst e;rw[hx] at hz;cases hz;rw[C]
     have:((x.aA.take j).any λv=>v.name.toList==w.name.toList)=false:=any_eq_false.2 λv hv=>by
      let⟨i,hi⟩:=dW hv;have X:i<j:=by have:=(bO.1 hi).1;simp at this;omega
      rw[getElem?_take,bi X] at hi;rw[sS i v X hi];simp
     rw[this];rfl
    .exact hinv j z oG hz
  .have bJ:¬ k<x.aA.length:=tn h
   exact⟨.forget _ _ _ _ λ_=>.inr rfl,λj y hy=>hinv j y (by have:=(bO.1 hy).1;omega) hy⟩
 .rintro s ⟨hg,cb⟩;refine⟨_,hg,aj ?_⟩;refine SS ?_;refine ab (aD (d:=B true) rfl ?_);rw[TT cb]
def LV{x:Abs.End}(hnm:x.name.size<=maxLen)(hw:∀ w∈x.aA,w.name.size<=maxLen)(hn:f.blocks.length<=1200):aE prog 152 [.agg (cD f hd),.agg (aR x)] (B (jj f x)):=by
 have jA:∀ {b:Int},aE prog 150 [.agg (cD f hd),I b] (B (cS f b)):=λ{b}=>jA ht di hn;have cx:∀ {r k:Int},aE prog 226 [.agg (cD f hd),I r,U8 k] (B (bQ f r k)):=λ{r k}=>cx ht di;have wI:∀ {l:List Int},aE prog 228 [.agg (cD f hd),av l] (B (iX f.ag l)):=λ{l}=>wI ht di;have RP:aE prog 231 [.agg (cD f hd),.agg (aI x.ins)] (B (ni f x.ins)):=RP ht di;have HY:=HY ht di hw hn;have Cf:=Cf hnm;have qu:=qu hnm;have bB:∀ a∈[D.agg (cD f hd),.agg (aR x)],Tr a:=.cons (.agg (yu ht f)) (.cons (.agg (ot x)) .nil);refine bN (fo f152) bB (Tr.s _) ?_;refine ws (az ?_);refine ab (aF (SS ?_));refine ax (dL (vs:=aG _) rfl rfl V.h V.h rfl) ak (dN V.h V.h da) (af ?_);refine ab (bF (cE [(0,cD f hd,206),(1,aR x,48),(2,aG f,26)] eH (l:=[(2,.pt (cD f hd)),(3,.pt (aR x)),(5,.pt (aG f))]) eH) (aM (aj ?_)));refine af ?_;refine ab (pQ (ws (af ?_)));refine ab (au rfl (λh1=>?_) λh1=>?_)
 .have h1:x.kind=1:=tn h1
  have gg:aE prog 230 [.agg (aR x),S ⟨#[116]⟩] (B (eT x [116])):=gg oC;refine ws (SS ?_);refine cl gg ?_;refine aX ?_;refine gc jA ?_;refine af ?_;refine ab (bD (cu (bc (aD (d:=.s (.bool _)) rfl ?_))));have e:jj f x=(eT x [116]&&cS f x.to):=by rw[jj,bi h1]
  rw[e];simp[js,BH,Bool.and_assoc,aZ,ib]
 have h1:¬ x.kind=1:=tn h1
 refine ws (af ?_);refine ab (au rfl (λh2=>?_) λh2=>?_)
 .have h2:x.kind=2:=tn h2
  have gg:aE prog 230 [.agg (aR x),S ⟨#[97,116,101]⟩] (B (eT x [97,116,101])):=gg oC;refine ws (SS ?_);refine cl gg ?_;refine aX ?_;refine gc cx ?_;refine bG ?_;refine gc jA ?_;refine bG ?_;refine gc jA ?_;refine af ?_;refine ab (bD (cu (bc (aD (d:=.s (.bool _)) rfl ?_))));have e:jj f x=(eT x [97,116,101]&&(bQ f x.a 119&&(cS f x.to&&cS f x.cz))):=by rw[jj,ai h1,bi h2]
  rw[e];simp[js,BH,Bool.and_assoc,aZ,ib]
 have h2:¬ x.kind=2:=tn h2
 refine ws (af ?_);refine ab (au rfl (λC=>?_) λC=>?_)
 .have C:x.kind=3:=tn C
  have gg:aE prog 230 [.agg (aR x),S ⟨#[97]⟩] (B (eT x [97])):=gg oC;have hv:jj f x=if f.iter=true\/f.result=0 then eT x [97]&&aZ x.a (-1) else eT x [97]&&(bQ f x.a 118&&aZ (cV f.ag x.a) f.result):=by rw[jj,ai h1,ai h2,bi C]
  rw[hv];clear hv;refine aM (aj (eD ?_));refine ab (cG rfl (λh=>?_) λh=>dn ?_)
  .have rJ:f.iter=true\/f.result=0:=by revert h;cases f.iter<;>simp
   rw[bi rJ];refine aM (aj (cF ?_));refine ab (dX (cu (bc (aD (d:=.s (.bool _)) rfl ?_))));simp[js,aZ,ib]
  .have rJ:¬ (f.iter=true\/f.result=0):=by revert h;cases f.iter<;>simp
   rw[ai rJ];clear rJ h;let⟨xk,xa,xb,xt,xe,xn,xi,xs,xw,xo⟩:=x;dsimp only at*
   apply eJ iB;generalize eT _ [97]=bv at gg;cases bv with
   |false=>
    refine az ?_;(iterate 4 refine z λ_ _=>?_);refine af ?_;(iterate 9 refine z λ_ _=>?_);refine af ?_;exact bU bX (bD (cu (bc (aD rfl rfl))))
   |true=>
    have kv:= @cx xa 118;cases hv:bQ f xa 118 with
    |false=>
     rw[hv] at kv;have cx:=kv;refine bg ?_;(iterate 9 refine z λ_ _=>?_);refine af ?_;exact bU bX (bD (cu (bc (aD rfl rfl))))
    |true=>
     rw[hv] at kv;have cx:=kv;obtain⟨i,hi,rfl⟩:=nr (om hv);have hx:f.ag[i]? =some f.ag[i]:=aV hi;have IK:=vH hx;rw[IK];generalize f.ag[i]=y at hx;refine bg ?_;refine bg ?_;refine af ?_;refine bU bX (bD (cu (bc (aD (d:=.s (.bool _)) rfl ?_))));rfl
 have C:¬ x.kind=3:=tn C
 refine ws (af ?_);refine ab (au rfl (λJ=>?_) λJ=>?_)
 .have J:x.kind=4:=tn J
  have gg:aE prog 230 [.agg (aR x),S ⟨#[110]⟩] (B (eT x [110])):=gg oC;refine ws (cF ?_);refine ab (bD (cu (bc (aD (d:=.s (.bool _)) rfl ?_))));have e:jj f x=(eT x [110]&&isName x.name):=by rw[jj,ai h1,ai h2,ai C,bi J]
  rw[e];simp[js,BH,Bool.and_assoc,aZ,ib]
 have J:¬ x.kind=4:=tn J
 refine ws (af ?_);refine ab (au rfl (λO=>?_) λO=>?_)
 .have O:x.kind=5:=tn O
  have gg:aE prog 230 [.agg (aR x),S ⟨#[116,105,104]⟩] (B (eT x [116,105,104])):=gg oC;refine ws (SS ?_);refine cl gg ?_;refine aX ?_;refine gc RP ?_;refine bG ?_;refine gc jA ?_;refine aX ?_;refine gc HY ?_;refine af ?_;refine ab (bD (cu (bc (aD (d:=.s (.bool _)) rfl ?_))));have e:jj f x=(eT x [116,105,104]&&(ni f x.ins&&(cS f x.to&&pk f x))):=by rw[jj,ai h1,ai h2,ai C,ai J,bi O]
  rw[e];simp[js,BH,Bool.and_assoc,aZ,ib]
 have O:¬ x.kind=5:=tn O
 refine ws (af ?_);refine ab (au rfl (λU=>?_) λU=>?_)
 .have U:x.kind=6:=tn U
  have gg:aE prog 230 [.agg (aR x),S ⟨#[97,116,110,108,104]⟩] (B (eT x [97,116,110,108,104])):=gg oC;refine ws (SS ?_);refine cl gg ?_;refine az ?_;refine gc Cf ?_;refine bg ?_;refine af ?_;refine gc wI ?_;refine bg ?_;refine gc cx ?_;refine cB ?_;refine gc jA ?_;refine aX ?_;refine gc HY ?_;refine af ?_;refine ab (bD (cu (bc (aD (d:=.s (.bool _)) rfl ?_))));have e:jj f x=(eT x [97,116,110,108,104]&&(nM x.name&&(decide ((x.args.length:Int)<=6)&&(iX f.ag x.args&&((aZ x.a (-1)||bQ f x.a 118)&&(cS f x.to&&pk f x)))))):=by rw[jj,ai h1,ai h2,ai C,ai J,ai O,bi U]
  rw[e];simp[js,BH,Bool.and_assoc,aZ,ib]
 have U:¬ x.kind=6:=tn U
 refine ws (af ?_);refine ab (au rfl (λX=>?_) λX=>?_)
 .have X:x.kind=7:=tn X
  have gg:aE prog 230 [.agg (aR x),S ⟨#[97,116,110,108]⟩] (B (eT x [97,116,110,108])):=gg oC;refine ws (SS ?_);refine cl gg ?_;refine az ?_;refine gc Cf ?_;refine bg ?_;refine af ?_;refine gc wI ?_;refine bG ?_;refine gc cx ?_;refine bG ?_;refine gc jA ?_;refine af ?_;refine ab (bD (cu (bc (aD (d:=.s (.bool _)) rfl ?_))));have e:jj f x=(eT x [97,116,110,108]&&(nM x.name&&(decide ((x.args.length:Int)<=6)&&(iX f.ag x.args&&(bQ f x.a 105&&cS f x.to))))):=by rw[jj,ai h1,ai h2,ai C,ai J,ai O,ai U,bi X]
  rw[e];simp[js,BH,Bool.and_assoc,aZ,ib]
 have X:¬ x.kind=7:=tn X
 refine ws (af ?_);refine ab (au rfl (λh8=>?_) λh8=>?_)
 .have h8:x.kind=8:=tn h8
  have gg:aE prog 230 [.agg (aR x),S ⟨#[97,98,116,101,104]⟩] (B (eT x [97,98,116,101,104])):=gg oC;refine ws (SS ?_);refine cl gg ?_;refine aX ?_;refine gc cx ?_;refine bG ?_;refine gc cx ?_;refine bG ?_;refine gc jA ?_;refine bG ?_;refine gc jA ?_;refine aX ?_;refine gc HY ?_;refine af ?_;refine ab (bD (cu (bc (aD (d:=.s (.bool _)) rfl ?_))));have e:jj f x=(eT x [97,98,116,101,104]&&(bQ f x.a 105&&(bQ f x.b 118&&(cS f x.to&&(cS f x.cz&&pk f x))))):=by rw[jj,ai h1,ai h2,ai C,ai J,ai O,ai U,ai X,bi h8]
  rw[e];simp[js,BH,Bool.and_assoc,aZ,ib]
 have h8:¬ x.kind=8:=tn h8
 refine ws (af ?_);refine ab (au rfl (λh9=>?_) λh9=>?_)
 .have h9:x.kind=9:=tn h9
  have gg:aE prog 230 [.agg (aR x),S ⟨#[97,116]⟩] (B (eT x [97,116])):=gg oC;have hv:jj f x=(eT x [97,116]&&(f.iter&&(bQ f x.a 118&&(aZ (cV f.ag x.a) f.result&&cS f x.to)))):=by rw[jj,ai h1,ai h2,ai C,ai J,ai O,ai U,ai X,ai h8,bi h9]
  rw[hv];clear hv;let⟨xk,xa,xb,xt,xe,xn,xi,xs,xw,xo⟩:=x;dsimp only at*
  apply eJ iB;generalize eT _ [97,116]=bv at gg;have kv:= @cx xa 118;have kb:= @jA xt;generalize cS f xt=bb at kb;have jA:=kb;cases bv with
  |false=>
   refine az ?_;(iterate 2 refine z λ_ _=>?_);refine af ?_;(iterate 4 refine z λ_ _=>?_);refine af ?_;(iterate 9 refine z λ_ _=>?_);refine af ?_;(iterate 4 refine z λ_ _=>?_);refine af ?_;exact bU bX (bD (cu (bc (aD rfl rfl))))
  |true=>
   let⟨fnm,fi,fa,fr,fg,fs,fz,fb⟩:=f;dsimp only at*
   cases fi with
   |false=>
    refine eD ?_;(iterate 4 refine z λ_ _=>?_);refine af ?_;(iterate 9 refine z λ_ _=>?_);refine af ?_;(iterate 4 refine z λ_ _=>?_);refine af ?_;exact bU bX (bD (cu (bc (aD rfl rfl))))
   |true=>
    cases hv:bQ ⟨fnm,true,fa,fr,fg,fs,fz,fb⟩ xa 118 with
    |false=>
     rw[hv] at kv;have cx:=kv;refine bg ?_;refine aX ?_;(iterate 9 refine z λ_ _=>?_);refine af ?_;(iterate 4 refine z λ_ _=>?_);refine af ?_;exact bU bX (bD (cu (bc (aD rfl rfl))))
    |true=>
     rw[hv] at kv;have cx:=kv;obtain⟨i,hi,rfl⟩:=nr (om hv);have hx:fg[i]? =some fg[i]:=aV hi;have IK:=vH hx;rw[IK];generalize fg[i]=y at hx;cases MG:decide (y=fr) with
     |false=>
      have kQ:(y==fr)=false:=tn MG
      refine bg ?_;refine bg ?_;refine cB ?_;(iterate 4 refine z λ_ _=>?_);refine af ?_;refine bU bX (bD (cu (bc (aD (d:=.s (.bool _)) rfl ?_))));simp[aZ,MG]
     |true=>
      have kQ:(y==fr)=true:=tn MG
      refine bg ?_;refine bg ?_;refine bg ?_;refine az ?_;refine bU bX (bD (cu (bc (aD (d:=.s (.bool _)) rfl ?_))));simp[aZ,MG]
 have h9:¬ x.kind=9:=tn h9
 refine pw (aj (SS ?_));refine ab (aD (d:=.s (.bool _)) rfl ?_);rw[jj,ai h1,ai h2,ai C,ai J,ai O,ai U,ai X,ai h8,ai h9]
end
def nF(bs:List bH):List (List Int):=(range bs.length).map (mU bs bs.length)
def xr{f:aO}{b:Nat}{x:Abs.bH}(hx:f.blocks[b]? =some x)(hw:x.fin.aA.length<=100):aE prog 92 [.agg (aG f),I b] (av (rv x.fin)):=by
 have tI:=tI (x:=x.fin) oG;have O:=Js x.fin;refine bN (fo f92) (.cons (.agg (jG f)) fl) (cR _) ?_;refine aF (af ?_);refine ab (bF (cE [(0,aG f,26)] eH (l:=[(1,I b),(2,.pt (aG f))]) eH) (aF ?_));refine SS ?_;refine ab ⟨_,(aL.mz _ _ _ 5 3 rfl).trans (cE [(1,[],3)] ⟨ap _ _ _,aa⟩ (l:=[(1,I b),(2,.pt (aG f)),(5,av [])]) ⟨rfl,rfl,kN (sz:=1) c3 rfl,aa⟩),aj ?_⟩;unfold rv;generalize fY x.fin=l at tI O;refine cF ?_;refine ab (aM (aF (SS ?_)))
 refine ab (cJ (λs=>aL prog s ⟨ay [(5,av (nQ l))],λ_=>none,2⟩) (dS (α:=Nat) (λk=>⟨ay [(5,av (nQ (l.take k))),(6,av l),(7,I k)],λ_=>none,2⟩)
  (λk=>k<=l.length) (λk=>l.length - k) 0 (ao eH) oG ?_) ?_)
 .intro k hk;have J:=(zv (l:=l.take k) (z:=[]) .nil).2.2;have C:∀ t,l[k]? =some t->nQ (l.take (k+1))=jy (nQ (l.take k)) t:=λt ht=>s7 ht;have U:k=l.length->nQ (l.take k)=nQ l:=λe=>by rw[e,take_length]
  change (nQ (l.take k)).length<=_ at J
  rw[length_take,length_nil] at J;generalize nQ (l.take k)=c at J C U;refine aX ?_;refine ab ⟨_,rfl,λh=>?_,λh=>?_⟩
  .have al:k<l.length:=tn h
   have hy:l[k]? =some l[k]:=aV al;have C:=C _ hy;generalize l[k]=t at hy C;have Au:=Au (l:=c) (n:=t) oG;refine gE (eD ?_);refine ab (az ?_);refine ab (bA (k+1) (ao ⟨?_,rfl,rfl,aa⟩) oG oG);rw[C];rfl
  .have X:¬ k<l.length:=tn h
   rw[<- U oG];exact ao eH
 .intro s hg;refine⟨_,hg,aj ?_⟩;refine af ?_;exact ab (aD rfl rfl)
def sY{f:aO}{n:Nat}(hn:f.blocks.length=n)(sT:n<=100000)(hw:∀ b∈f.blocks,b.fin.aA.length<=10)(ht:∀ b∈f.blocks,∀ t∈rv b.fin,0<=t/\t<n):
 aE prog 65 [.agg (aG f)] (cr (nF f.blocks)):=by
 have bB:∀ a∈[D.agg (aG f)],Tr a:=.cons (.agg (jG f)) .nil;refine bN (fo f65) bB (DG _) ?_;refine aF (af ?_);refine ab (bF (cE [(0,aG f,26)] eH (l:=[(1,.pt (aG f))]) eH) (aF ?_));refine az ?_;refine cY (zx rfl rfl V.h V.h) ak ⟨oG,rfl,oG,by rw[S3];omega,V.h⟩ (SS ?_);have eZ:((f.blocks.length:Nat):Int).toNat=n:=hn;refine ab (bF (a6 (l:=[(1,.pt (aG f)),(3,.rs 1 0 n)]) (ml:=[(1,.cells (replicate n .z) 35)]) ⟨rfl,congrArg (λk=>D.rs 1 0 k) eZ,aa⟩ ⟨?_,aa⟩) (aM (aF ?_)))
 .exact congrArg (λc=>some (Row.cells c 35)) ((congrArg (λk=>dp k [D.z]) eZ).trans (WZ n))
 refine SS ?_
 refine ab (cJ (λs=>∃ m nx ρ,aL prog s ⟨ay [(3,.rs 1 0 n)],m,nx⟩/\qM m nx 1 n 35 3 ρ (λi=>(mU f.blocks n i).map I)) (dS (α:=Nat×Mem×Nat)
  (λk=>⟨ay [(1,.pt (aG f)),(3,.rs 1 0 n),(4,I k.1)],k.2.1,k.2.2⟩)
  (λk=>k.1<=n/\(∃ ρ,qM k.2.1 k.2.2 1 n 35 3 ρ (λi=>(mU f.blocks k.1 i).map I))/\∀ i,(mU f.blocks k.1 i).length<=13*k.1) (λk=>n - k.1) (0,b8 [(1,.cells (replicate n .z) 35)],2)
  (ao eH) ⟨Nat.zero_le _,⟨λ_=>0,VT (show 1<2 by decide) rfl⟩,λ_=>bK _⟩ ?_) ?_)
 .rintro⟨k,m,nx⟩ ⟨hk,⟨ρ,C⟩,hlen⟩;dsimp only at hk C hlen ⊢;have an:=C.row;have dx:=C.CT;refine bG ?_;refine ab ⟨_,rfl,λh=>?_,λh=>?_⟩
  .have al:k<n:=by simpa[hn] using h
   have hx:f.blocks[k]? =some f.blocks[k]:=aV oG;have X:f.blocks[k]∈f.blocks:=dG _;have xr:=xr hx (by have:=hw _ X;omega);generalize f.blocks[k]=x at hx X xr
   have dw:mU f.blocks (k+1)=(rv x.fin).foldl (gH k) (mU f.blocks k):=by
    rw[mU,range_succ,foldl_append];show GH f.blocks _ k=_;rw[GH,hx];rfl
   generalize mU f.blocks k=L0 at C hlen an dw;have eE:=ht x X;have kX:=afl x.fin;have Mv:=hw x X;generalize rv x.fin=l at xr eE kX dw;refine ws (aX ?_);refine ab (aF (SS ?_))
   refine ab (dS (α:=Nat×Mem×Nat)
    (λj=>⟨ay [(1,.pt (aG f)),(3,.rs 1 0 n),(4,I k),(5,av l),(6,I j.1)],j.2.1,j.2.2⟩)
    (λj=>j.1<=l.length/\(∃ ρ,qM j.2.1 j.2.2 1 n 35 3 ρ (λi=>((l.take j.1).foldl (gH k) L0 i).map I))/\∀ i,((l.take j.1).foldl (gH k) L0 i).length<=13*k+j.1) (λj=>l.length - j.1) (0,m,nx)
    (ao eH) ⟨Nat.zero_le _,⟨ρ,C⟩,hlen⟩ ?_)
   clear C an hlen;rintro⟨j,m,nx⟩ ⟨hj,⟨ρ,C⟩,hlen⟩;dsimp only at hj C hlen ⊢;have an:=C.row;have dx:=C.CT;have U:∀ t,l[j]? =some t->(l.take (j+1)).foldl (gH k) L0=gH k ((l.take j).foldl (gH k) L0) t:=λt ht=>s7 ht;have uo:j=l.length->(l.take j).foldl (gH k) L0=mU f.blocks (k+1):=λe=>by rw[dw,cW oG]
   generalize (l.take j).foldl (gH k) L0=L at C hlen an U uo;refine aX ?_;refine ab ⟨_,rfl,λh=>?_,λh=>?_⟩
   .have HS:j<l.length:=tn h
    have IE:l[j]? =some l[j]:=aV HS;have vr:=eE _ (dG HS);generalize l[j]=t at IE vr;obtain⟨i,rfl⟩:=fc vr.1;have J:i<n:=by omega
    have hL:=hlen i;have U:(l.take (j+1)).foldl (gH k) L0=up L i (L i++[(k:Int)]):=U _ IE
    have wi:∀ i,((l.take (j+1)).foldl (gH k) L0 i).length<=13*k+(j+1):=λa=>by
     rw[U];exact Ns (t:=(i:Int)) hlen a
    have IF:(λa=>((l.take (j+1)).foldl (gH k) L0 a).map I)=up (λa=>(L a).map I) i ((L i++[(k:Int)]).map I):=by rw[U];exact Ya
    let⟨cs,kd⟩:=VS (ρ:=ρ) (L:=λi=>(L i).map I) J;apply r8 (ij [(3,14),(4,14)]);by_cases hz:L i=[]
    .have CW:jc (ρ i) ((L i).map I)=.z:=by rw[hz];rfl
     rw[CW] at kd;refine bg ?_;refine cB ?_;refine ax (pY rfl rfl (aq oG (aq oG an)) V.h V.h) ak ⟨V.h,oG⟩ (bT (dM (d:=.rs _ _ _) (cs':=_) rfl rfl (aq oG (aq oG an)) rfl rfl) ak (bW V.h V.h bk rfl) (bU bX (az ?_)));refine ab (bA (j+1,up (up (up m nx (some (.cells [I k] 3))) (nx+1) (some (.cells [I k] 3))) 1 (some (.cells ((sK ρ (λi=>(L i).map I) n).set i (.rs (nx+1) 0 1)) 35)),nx+2) (ao eH) ⟨oM,⟨up ρ i (nx+1),?_⟩,wi⟩ oM);dsimp only;rw[IF];refine C.My J oS oG oG ?_ ?_ (λq hq A5 _=>?_)
     .rw[hz];exact ap _ _ _
     .rw[hz];exact aq oG s3
     .exact aq oG (aq oG (aq oG rfl))
    .have O:(L i).map I≠[]:=tn hz
     have CW:jc (ρ i) ((L i).map I)=.rs (ρ i) 0 (L i).length:=by rw[Hm O,length_map]
     rw[CW] at kd;have dQ:=C.HQ i J O;have hρn:=C.lt i J O;have hρ1:=C.ne i J O;refine bg ?_;refine cB ?_;refine ax (pY rfl rfl (aq oG (aq oG (aq oG an))) V.h V.h) ak ⟨V.h,oG⟩ (bT (dM (d:=.rs _ _ _) (cs':=_) rfl rfl (aq oG (aq oG (aq oG an))) rfl rfl) ak (bW V.h V.h bk rfl) (bU bX (az ?_)));refine ab (bA (j+1,up (up (up (up m nx (some (.cells [I k] 3))) (ρ i) none) (nx+1) (some (.cells ((L i).map I++[I k]) 3))) 1 (some (.cells ((sK ρ (λi=>(L i).map I) n).set i (.rs (nx+1) 0 ((L i).length+1))) 35)),nx+2) (ao eH) ⟨oM,⟨up ρ i (nx+1),?_⟩,wi⟩ oM);dsimp only;rw[IF];refine C.My J oS oG oG ?_ ?_ (λq hq A5 sS=>?_)
     .rw[length_map,length_append];exact ap _ _ _
     .rw[map_append];exact aq oG s3
     .have:=sS O;exact aq oG (aq oG (aq oG (aq oG rfl)))
   .have bJ:¬ j<l.length:=tn h
    have vl:=uo oG;subst vl;show aJ _ _ _ _ _ _ _ _ _;refine az ?_;refine ab (bA (k+1,m,nx) (ao eH) ⟨oM,⟨ρ,C⟩,λi=>by have:=hlen i;dsimp only at this ⊢;omega⟩ oM)
  .have bJ:¬ k<n:=by simpa[hn] using h
   have:k=n:=by omega
   subst this;exact⟨m,nx,ρ,ao eH,C⟩
 .rintro s ⟨m,nx,ρ,hg,C⟩;have A4:¬ ∃ i,i<n/\(mU f.blocks n i).map I≠[]/\ρ i=1:=λ⟨i,h1,h2,h3⟩=>C.ne i h1 h2 h3;refine⟨_,hg.trans (UW (l:=[(3,.rs 1 0 n)]) (ml:=[]) (λr=>∃ i,i<n/\(mU f.blocks n i).map I≠[]/\ρ i=r) C (λ_=>.map) c3 (λi h1 h2=>⟨i,h1,h2,rfl⟩) A4 ⟨rfl,aa⟩ (λx hx=>?_) aa (λx hx=>by cases hx)),aF ?_⟩
  .simp at hx;subst hx;exact .rs A4
  refine af ?_;refine ab (bF (cE [(1,_,35)] eH (l:=[(2,cr (nF f.blocks))]) ⟨?_,aa⟩) (aD rfl rfl));show sub (cZ 1 _ (prog.cellsOf 35)) (D.rs 1 0 n)=_;rw[Bf (by rw[jC];simp),VU,nF,hn]
def take_set{C:List Bool}{k n:Nat}{v:Bool}(h:C[k]? =some v)(hn:C.length=n):((C.take k++replicate (n - k) false).set k v)=C.take (k+1)++replicate (n - (k+1)) false:=by
 have hk:=(bO.1 h).1;have hl:(C.take k).length=k:=by simp;omega
 rw[show n - k=n - (k+1)+1 by omega,replicate_succ,set_append_right _ _ oG,hl,Nat.sub_self,set_cons_zero,take_add_one,h];simp
def EV{a b:Cert}(hl:a.is.length=b.is.length)(hm:a.is.length<=100000):aE prog 153 [.agg (dc a),.agg (dc b)] (.agg (dc (sx a b))):=by
 refine bN (fo f153) (.cons (.agg (vX a)) (.cons (.agg (vX b)) .nil)) (.agg (vX _)) ?_;let⟨X,C⟩:=a;let⟨ba,J⟩:=b;dsimp only at hl hm;refine aF (az ?_);refine ab (bF (a6 (l:=[(2,.rp 0 0),(3,.rp 1 0),(4,.rp 2 0)]) (ml:=[(0,.cells (dc ⟨X,C⟩) 99),(1,.cells (dc ⟨ba,J⟩) 99),(2,.cells [B false,.z] 99)]) eH eH) (aM (aj ?_)));refine af ?_;cases X with
 |true=>
  refine ab (BU ?_);refine aM (aj (af ?_));exact ab (dX (jR (fT rfl rfl vw oe rfl t99 (aP rfl)) rfl))
 |false=>
 refine ab (BT (dn (aM (aj ?_))));refine af ?_;cases ba with
 |true=>
  refine ab (BU ?_);refine aM (aj (af ?_));exact ab (dX (jR (fT rfl rfl vw oe rfl t99 (aP rfl)) rfl))
 |false=>
 refine ab (BT (dn (aF ?_)));have hb:sx ⟨false,C⟩ ⟨false,J⟩=⟨false,zipWith (λx y=>x&&y) C J⟩:=rfl;rw[hb];clear hb;have ke:({ any:=false,is:=C }:Cert).is.length<=100000:=hm;have eZ:((C.length:Nat):Int).toNat=C.length:=eC _;have U:(zipWith (λx y=>x&&y) C J).length=C.length:=by simp;omega
 have O:∀ (k:Nat) x y,C[k]? =some x->J[k]? =some y->(zipWith (λx y=>x&&y) C J)[k]? =some (x&&y):=λk x y h1 h2=>by rw[getElem?_zipWith,h1,h2]
 generalize zipWith (λx y=>x&&y) C J=zQ at U O;refine eD ?_;refine ab (bF (a6 (l:=[(2,.rp 0 0),(3,.rp 1 0),(4,.rp 2 0),(5,.rp 4 0)]) (ml:=[(0,.cells (dc ⟨false,C⟩) 99),(1,.cells (dc ⟨false,J⟩) 99),(2,.cells [B false,.z] 99),(3,.cells ((replicate C.length false).map B) 4),(4,.cells [B false,.rs 3 0 C.length] 99)]) eH ⟨rfl,rfl,rfl,?_,?_,aa⟩) (aM (aF ?_)))
 .exact congrArg (λc=>some (Row.cells c 4)) ((congrArg (λk=>dp k [B false]) eZ).trans (DQ _ false))
 .exact congrArg (λk=>some (Row.cells [B false,.rs 3 0 k] 99)) eZ
 refine SS ?_
 refine ab (cJ (λs=>aL prog s ⟨ay [(4,.rp 2 0),(5,.rp 4 0)],b8 [(2,.cells [B false,.z] 99),(3,.cells (zQ.map B) 4),(4,.cells [B false,.rs 3 0 C.length] 99)],5⟩) (dS (α:=Nat) (λk=>⟨ay [(2,.rp 0 0),(3,.rp 1 0),(4,.rp 2 0),(5,.rp 4 0),(6,I k)],b8 [(0,.cells (dc ⟨false,C⟩) 99),(1,.cells (dc ⟨false,J⟩) 99),(2,.cells [B false,.z] 99),(3,.cells ((zQ.take k++replicate (C.length - k) false).map B) 4),(4,.cells [B false,.rs 3 0 C.length] 99)],5⟩)
  (λk=>k<=C.length) (λk=>C.length - k) 0 (a6 eH eH) oG ?_) ?_)
 .intro k hk;refine bG ?_;refine ab ⟨_,rfl,λh=>?_,λh=>?_⟩
  .have al:k<C.length:=tn h
   have hx:C[k]? =some C[k]:=aV al;have hy:J[k]? =some J[k]:=aV oG;have hz:=O k _ _ hx hy;generalize C[k]=x at hx hz;generalize J[k]=y at hy hz;have wE:=take_set hz U;have qE:(zQ.take k++replicate (C.length - k) false).length=C.length:=by simp;omega
   apply r8 iB;cases x with
   |false=>
    refine bg ?_;(iterate 5 refine z λ_ _=>?_);refine az ?_;refine bU bX (az ?_);refine ab (bA (k+1) (a6 eH ⟨rfl,rfl,rfl,?_,rfl,aa⟩) oG oG);rw[<- wE,map_set];rfl
   |true=>
    refine bg ?_;refine cF ?_;refine bU bX (az ?_);refine ab (bA (k+1) (a6 eH ⟨rfl,rfl,rfl,?_,rfl,aa⟩) oG oG);rw[<- wE,map_set];rfl
  .have bJ:¬ k<C.length:=tn h
   have:k=C.length:=by omega
   subst this;refine a6 eH ⟨rfl,?_,rfl,aa⟩;rw[Nat.sub_self,replicate_zero,append_nil,cW oG];rfl
 .intro s hg;refine⟨_,hg,aF ?_⟩;refine af ?_
  have e:sub (cZ 3 (zQ.map B) (prog.cellsOf 4)) (.rs 3 0 C.length)=.sl (zQ.map B) C.length:=by
   rw[c4,oI,drop_zero,cW oP]
  refine ab (bF (cE [(3,zQ.map B,4),(2,[B false,.sl (zQ.map B) C.length],99)] ⟨rfl,?_,aa⟩ (l:=[(4,.pt [B false,.sl (zQ.map B) C.length])]) eH) (bD (jR (W2 rfl vw oe rfl t99 (aP rfl)) ?_)))
  .exact congrArg (λd=>some (Row.cells [B false,d] 99)) e
  .rw[<- U];rfl
section
variable{f:aO}{b:Nat}{x:Abs.bH}
def zn{c:Cert}(hx:f.blocks[b]? =some x)(hl:c.is.length=f.ag.length+f.aU.length)(hm:c.is.length<=2000)(hi:∀ y∈x.ins,Ci f.ag.length (f.ag.length+f.aU.length) y)(Fa:x.ins.length<=100000):
 aE prog 69 [.agg (aG f),I b,.agg (dc c)] (.agg (dc (gp f.ag.length x.ins c))):=by
 have mo:∀ {d:Cert} {r:Int},d.is.length=f.ag.length+f.aU.length->HX (f.ag.length+f.aU.length) r->aE prog 67 [.agg (dc d),I r] (.agg (dc (lB d r))):=λ{d r} h1 h2=>mo oG (by rw[h1];exact h2);refine bN (fo f69) (.cons (.agg (jG f)) (.cons (.s _) (.cons (.agg (vX c)) .nil))) (.agg (vX _)) ?_;refine aF (az ?_);refine ab (bF (a6 (l:=[(1,I b),(3,.rp 0 0),(5,.rp 1 0),(6,.rp 2 0)]) (ml:=[(0,.cells (aG f) 26),(1,.cells (dc c) 99),(2,.cells [B false,.z] 99)]) eH eH) (aj ?_));refine eD ?_;refine ab (aM (aF (SS ?_)))
 refine ab (cJ (λs=>aL prog s ⟨ay [(5,.rp 1 0),(6,.rp 2 0)],b8 [(1,.cells (dc (gp f.ag.length x.ins c)) 99),(2,.cells [B false,.z] 99)],3⟩) (dS (α:=Nat) (λk=>⟨ay [(3,.rp 0 0),(5,.rp 1 0),(6,.rp 2 0),(7,eV x.ins),(8,I k)],b8 [(0,.cells (aG f) 26),(1,.cells (dc (gp f.ag.length (x.ins.take k) c)) 99),(2,.cells [B false,.z] 99)],3⟩)
  (λk=>k<=x.ins.length) (λk=>x.ins.length - k) 0 (a6 eH eH) oG ?_) ?_)
 .intro k hk;have C:∀ y,x.ins[k]? =some y->gp f.ag.length (x.ins.take (k+1)) c=yv f.ag.length (gp f.ag.length (x.ins.take k) c) y:=λy hy=>s7 hy;have mY:k=x.ins.length->gp f.ag.length (x.ins.take k) c=gp f.ag.length x.ins c:=λe=>by rw[e,take_length]
  have U:=(Gl f.ag.length (x.ins.take k) c).trans hl;generalize gp f.ag.length (x.ins.take k) c=d at C mY U;refine aX ?_;refine ab ⟨_,rfl,λh=>?_,λh=>?_⟩
  .have al:k<x.ins.length:=tn h
   have hy:x.ins[k]? =some x.ins[k]:=aV al;have C:=C _ hy;have O:=hi _ (dG al);generalize x.ins[k]=y at hy C O;have pM:=pM (x:=y)
   have hp:HX (f.ag.length+f.aU.length) (dt y):=by
    rcases O.w with e|⟨i,h1,h2⟩
    .exact .inl e
    .exact .inr ⟨i,oG,h2⟩
   have X:=mo U hp;have xc:=(Jr d (dt y)).trans U
   have kv:y.op=18->aE prog 67 [.agg (dc (lB d (dt y))),I ((f.ag.length:Int)+y.n)] (.agg (dc (lB (lB d (dt y)) ((f.ag.length:Int)+y.n)))):=λe=>mo xc (by
    let⟨i,h1,h2⟩:=O.s e
    exact .inr ⟨f.ag.length+i,h1,by rw[h2];omega⟩)
   unfold yv at C;generalize lB d (dt y)=d1 at X xc kv C;generalize dt y=w at pM X;clear mo;have mo:=X;refine eJ (ij [(0,5)]) (cF ?_);refine bU bX (aj ?_);refine cB ?_;refine ab (au rfl (λJ=>?_) λJ=>?_)
   .have J:y.op=18:=tn J
    rw[bi J] at C;have mo:=kv J;let⟨i,h1,h2⟩:=O.s J;have rI:0<=y.n/\y.n<=2000:=by omega
    refine r8 iB (bg ?_);refine az ?_;refine bU bX (az ?_);refine ab (bA (k+1) (a6 eH ⟨rfl,?_,rfl,aa⟩) oG oG);rw[C];rfl
   .have J:¬ y.op=18:=tn J
    rw[ai J] at C;refine eQ (az ?_);refine ab (bA (k+1) (a6 eH ⟨rfl,?_,rfl,aa⟩) oG oG);rw[C];rfl
  .have bJ:¬ k<x.ins.length:=tn h
   rw[<- mY oG];exact a6 eH eH
 .intro s hg;refine⟨_,hg,aj ?_⟩;generalize gp f.ag.length x.ins c=d;refine af ?_;exact ab (bD (jR (fT rfl rfl vw oe rfl t99 (aP rfl)) rfl))
def A8{c:Cert}{to:Int}(hx:f.blocks[b]? =some x)(hw:x.fin.aA.length<=100)(hm:c.is.length<=2000)(s4:HX c.is.length (fI x.fin)):
 aE prog 68 [.agg (aG f),I b,I to,.agg (dc c)] (.agg (dc (pz x.fin to c))):=by
 have mo:=mo (c:=c) oG s4;have tI:=tI (x:=x.fin) oG;have ME:=ME (x:=x.fin);have J:=Js x.fin;refine bN (fo f68) (.cons (.agg (jG f)) (.cons (.s _) (.cons (.s _) (.cons (.agg (vX c)) .nil)))) (.agg (vX _)) ?_;refine ws (az ?_);refine ab (aF (eD ?_));refine bT (eK (cs':=aR _) rfl rfl rfl rfl) ak (bW V.h V.h bk (by rfl)) (ab (bF (a6 (l:=[(2,I to),(7,.rp 1 0),(8,.rp 2 0),(9,.rp 3 0)]) (ml:=[(1,.cells (dc c) 99),(2,.cells [B false,.z] 99),(3,.cells (aR x.fin) 48)]) eH eH) (aj ?_)));have O:pz x.fin to c=if x.fin.to≠to\/(fY x.fin).tail.any (·==to)=true\/x.fin.kind=3\/x.fin.kind=4 then c else lB c (fI x.fin):=rfl
 rw[O];clear O;generalize fY x.fin=l at tI J;refine az ?_;refine er (SS ?_);refine ab (aM (aF (SS ?_)))
 refine ab (cJ (λs=>aL prog s ⟨ay [(2,I to),(7,.rp 1 0),(8,.rp 2 0),(9,.rp 3 0),(11,B (l.tail.any (·==to)))],b8 [(1,.cells (dc c) 99),(2,.cells [B false,.z] 99),(3,.cells (aR x.fin) 48)],4⟩) (dS (α:=Nat) (λk=>⟨ay [(2,I to),(7,.rp 1 0),(8,.rp 2 0),(9,.rp 3 0),(10,av l),(11,B ((l.tail.take k).any (·==to))),(12,I ((k+1:Nat):Int))],b8 [(1,.cells (dc c) 99),(2,.cells [B false,.z] 99),(3,.cells (aR x.fin) 48)],4⟩)
  (λk=>k<=l.tail.length) (λk=>l.tail.length - k) 0 (a6 eH eH) oG ?_) ?_)
 .intro k hk;have X:l.tail.length=l.length - 1:=length_tail ..;have C:∀ y,l.tail[k]? =some y->(l.tail.take (k+1)).any (·==to)=((l.tail.take k).any (·==to)||y==to):=λy hy=>by rw[take_add_one,hy,any_append];simp
  have U:k=l.tail.length->(l.tail.take k).any (·==to)=l.tail.any (·==to):=λe=>by rw[e,take_length]
  generalize (l.tail.take k).any (·==to)=ob at C U;refine aX ?_;refine ab ⟨_,rfl,λh=>?_,λh=>?_⟩
  .have al:k+1<l.length:=by
    have:=of_decide_eq_true h;omega
   have hy:l[k+1]? =some l[k+1]:=aV al;have C:=C l[k+1] (by rw[getElem?_tail];exact hy);generalize l[k+1]=y at hy C;apply gE;cases ob with
   |false=>
    refine cF ?_;refine af ?_;refine ab (az ?_);refine ab (bA (k+1) (a6 ⟨rfl,rfl,rfl,rfl,rfl,?_,rfl,aa⟩ eH) oG oG);rw[C];rfl
   |true=>
    refine af ?_;(iterate 6 refine z λ_ _=>?_);refine af ?_;refine ab (az ?_);refine ab (bA (k+1) (a6 ⟨rfl,rfl,rfl,rfl,rfl,?_,rfl,aa⟩ eH) oG oG);rw[C];rfl
  .have bJ:¬ k+1<l.length:=λhh=>by
    have:=of_decide_eq_false h;omega
   rw[<- U oG];exact a6 eH eH
 .intro s hg;refine⟨_,hg,aM (aj ?_)⟩;generalize l.tail.any (·==to)=ob;refine bg ?_;refine cF ?_;refine ab (cG rfl (λh=>?_) λh=>dn (eJ (ij [(0,2)]) ?_))
  .refine aM (aj (af ?_));refine ab (dX (jR (fT rfl rfl vw oe rfl t99 (aP rfl)) ?_));rw[bi]
   .rfl
   .revert h;simp;grind
  .rw[ai (by revert h;simp;grind)];generalize lB c (fI x.fin)=d at mo;generalize fI x.fin=w at mo ME;refine bG ?_;exact bU bX (bD (jR (fT rfl rfl vw oe rfl t99 (aP rfl)) rfl))
end
section
def oQ(R:Nat)(bs:List bH)(k:Nat):List Bool:=(range R).map λ(i:Nat)=>(nG bs k).any (·==(i:Int))
def Gm(R:Nat)(bs:List bH)(k:Nat):(oQ R bs k).length=R:=by simp[oQ]
variable{bs:List bH}{k:Nat}
def JD{R i:Nat}(h:i<R):(oQ R bs k)[i]? =some ((nG bs k).any (·==(i:Int))):=by simp[oQ,h]
variable{x:bH}
def Uh(h:bs[k]? =some x):nG bs (k+1)=nG bs k++if x.fin.kind=7 then [x.fin.a] else []:=by
 rw[nG,take_add_one,h,filter_append,map_append];congr 1;by_cases e:x.fin.kind=7<;>simp[e]
def aix{R:Nat}{bs:List bH}{k:Nat}{x:bH}(h:bs[k]? =some x)(e:¬ x.fin.kind=7):oQ R bs (k+1)=oQ R bs k:=by
 unfold oQ;rw[Uh h,ai e,List.append_nil]
def ag'{R i:Nat}(h:bs[k]? =some x)(e:x.fin.kind=7)(ha:x.fin.a=i):oQ R bs (k+1)=(oQ R bs k).set i true:=by
 apply ext_getElem?;intro j;rw[getElem?_set];by_cases hj:j<R
 .rw[JD hj,JD hj,Uh h,bi e,any_append,ha,Gm];by_cases C:i=j
  .subst C;simp[hj]
  .rw[ai C];have:((i:Int)==(j:Int))=false:=by simp;omega
   simp[this]
 .have h1:∀ k,(oQ R bs k)[j]? =none:=λk=>getElem?_eq_none (by rw[Gm];omega);rw[h1,h1,Gm];split
  .rw[ai oG]
  .rfl
def afm(R:Nat)(bs:List bH):oQ R bs 0=replicate R false:=by
 apply ext_getElem?;intro j;by_cases hj:j<R
 .rw[JD hj];simp[nG,hj]
 .rw[getElem?_eq_none (by rw[Gm];omega),getElem?_eq_none oP]
end
def FU{f:aO}(hs:Et f)(hw:∀ b∈f.blocks,b.fin.aA.length<=10):aE prog 63 [.agg (aG f)] (B (xN f)):=by
 have EU:=EU hs;refine bN (fo f63) (.cons (.agg (jG f)) .nil) (Tr.s _) ?_;refine aF (af ?_);refine ab (bF (cE [(0,aG f,26)] eH (l:=[(1,.pt (aG f))]) eH) (aj ?_));cases hh:tx f with
 |false=>
  rw[hh] at EU;refine az ?_;refine ab (aM (aj (af ?_)));refine ab (BU ?_);refine aM (aj (SS ?_));refine ab (dX (aD (d:=B false) rfl ?_));rw[xN,hh];rfl
 |true=>
  rw[hh] at EU;have hF:xN f=(JY f&&(range f.blocks.length).all (tJ f)):=by rw[xN,hh];rfl
  rw[hF];clear hF;unfold tx at hh;simp only[aH] at hh;let⟨h1,h2,_⟩:=hh;unfold pq at h1;simp only[aH,Bool.not_eq_true',decide_eq_false_iff_not,jF] at h1;have hN:f.blocks.length<=1200:=by omega
  have hR:f.ag.length<=1200:=by omega
  have kE:f.aU.length<=60:=by omega
  have A6:∀ k∈f.aU,k=1\/k=2:=λk hk=>by
   unfold r9 at h2;simp only[aH] at h2;have h3:=h2.2.2.1;simp only[gm,Bool.not_eq_true',any_eq_false] at h3;have:=h3 k hk;simp[pj] at this;omega
  clear h1 h2;refine az ?_;refine ab (aM (aj (af ?_)));refine ab (BT (dn (aF ?_)));refine SS ?_;refine ax (Gp (cs:=cD _ _) V.h V.h V.h rfl rfl) ak ⟨V.h,V.h⟩ (SS ?_);refine bT (eK (cs':=cD _ _) rfl rfl rfl rfl) ak (bW V.h V.h bk (by rfl)) (ab (bF (a6 (l:=[(1,.pt (aG f)),(4,.rp 1 0)]) (ml:=[(1,.cells (cD f .z) 206)]) eH eH) (aM (aF ?_))));refine SS ?_
  refine ab (cJ (λs=>aL prog s ⟨ay [(1,.pt (aG f)),(4,.rp 1 0)],b8 [(1,.cells (cD f .z) 206)],2⟩/\∀ (j:Nat) x,f.blocks[j]? =some x->(fY x.fin).all (cS f)=true) (dS (α:=Nat) (λk=>⟨ay [(1,.pt (aG f)),(4,.rp 1 0),(5,I k)],b8 [(1,.cells (cD f .z) 206)],2⟩)
   (λk=>k<=f.blocks.length/\∀ j x,j<k->f.blocks[j]? =some x->(fY x.fin).all (cS f)=true) (λk=>f.blocks.length - k) 0 (a6 eH eH) ⟨oG,λj y hj=>by omega⟩ ?_) ?_)
  .rintro k ⟨hk,hinv⟩;refine bG ?_;refine ab ⟨_,rfl,λh=>?_,λh=>?_⟩
   .have al:k<f.blocks.length:=tn h
    have hx:f.blocks[k]? =some f.blocks[k]:=aV al;have hwx:=hw _ (dG al);generalize f.blocks[k]=x at hx hwx;have tI:=tI (x:=x.fin) oG;have hle:=Js x.fin;have nV:(fY x.fin).all (cS f)=false->JY f=false:=λh=>all_eq_false.2 ⟨x,cL hx,by simp[h]⟩
    have ZB:(fY x.fin).all (cS f)=true->∀ j y,j<k+1->f.blocks[j]? =some y->(fY y.fin).all (cS f)=true:=λhq j y hj hy=>by
     by_cases e:j=k
     .subst e;rw[hx] at hy;cases hy;exact hq
     .exact hinv j y oG hy
    generalize fY x.fin=l at tI hle nV ZB;refine ws (cF ?_);refine ab (aF (SS ?_))
    refine ab (dS (α:=Nat) (λq=>⟨ay [(1,.pt (aG f)),(4,.rp 1 0),(5,I k),(6,av l),(7,I q)],b8 [(1,.cells (cD f .z) 206)],2⟩)
     (λq=>q<=l.length/\∀ j y,j<q->l[j]? =some y->cS f y=true) (λq=>l.length - q) 0 (a6 eH eH) ⟨oG,λj y hj=>by omega⟩ ?_)
    rintro q ⟨hq,sS⟩;refine aX ?_;refine ab ⟨_,rfl,λh=>?_,λh=>?_⟩
    .have FV:q<l.length:=tn h
     have hy:l[q]? =some l[q]:=aV FV;generalize l[q]=y at hy;have jA:aE prog 150 [.agg (cD f .z),I y] (B (cS f y)):=jA Zu rfl hN;refine eJ iB (ax (dL (vs:=cD _ _) rfl rfl V.h V.h rfl) ak (dN V.h V.h da) (cB ?_));refine bU bX (aj ?_);refine af ?_;refine ab (au rfl (λhp=>?_) λhp=>?_)
     .refine ws (SS ?_);refine ab (bD (dd (dd (bc (aD (d:=B false) rfl ?_)))));rw[nV (all_eq_false.2 ⟨y,cL hy,tn hp⟩)];rfl
     .refine eQ (az ?_);refine ab (bA (q+1) (a6 eH eH) ⟨oG,λj z hj hz=>?_⟩ oG);by_cases e:j=q
      .subst e;rw[hy] at hz;cases hz;simpa using hp
      .exact sS j z oG hz
    .have bJ:¬ q<l.length:=tn h
     show aJ _ _ _ _ _ _ _ _ _;refine az ?_;refine ab (bA (k+1) (a6 eH eH) ⟨oG,ZB (cm.2 λy hy=>?_)⟩ oG);let⟨j,hj⟩:=dW hy;exact sS j y (by have:=(bO.1 hj).1;omega) hj
   .have bJ:¬ k<f.blocks.length:=tn h
    exact⟨a6 eH eH,λj y hy=>hinv j y (by have:=(bO.1 hy).1;omega) hy⟩
  rintro s ⟨hg,U⟩
  have hE:JY f=true:=cm.2 λx hx=>by
   let⟨j,hj⟩:=dW hx;exact U j x hj
  rw[hE,Bool.true_and]
  have eE:∀ b∈f.blocks,∀ t∈rv b.fin,0<=t/\t<f.blocks.length:=λb hb t ht=>by
   have:=cm.1 (cm.1 hE b hb) t (U1.1 ht);rw[cS,jF] at this;omega
  have sY:=sY (f:=f) rfl oG hw eE;have zd:∀ k,k<f.blocks.length->(nF f.blocks)[k]? =some (mU f.blocks f.blocks.length k):=λk hk=>by simp[nF,hk]
  have A1:(nF f.blocks).length<=100000:=by simp[nF];omega
  clear U hE eE;refine⟨_,hg,aF ?_⟩;generalize hL:nF f.blocks=L at sY zd A1;clear hL;refine aX ?_;refine ab (bF (cE [(1,cD f (cr L),206)] eH (l:=[(1,.pt (aG f)),(4,.pt (cD f (cr L)))]) eH) (aF ?_));refine bG ?_;have eZ:((f.ag.length:Nat):Int).toNat=f.ag.length:=eC _;refine ab (bF (a6 (l:=[(1,.pt (aG f)),(4,.pt (cD f (cr L))),(9,.rs 2 0 f.ag.length)]) (ml:=[(2,.cells ((replicate f.ag.length false).map B) 4)]) ⟨rfl,rfl,congrArg (λk=>D.rs 2 0 k) eZ,aa⟩ ⟨?_,aa⟩) (aM (aF ?_)))
  .exact congrArg (λc=>some (Row.cells c 4)) ((congrArg (λk=>dp k [B false]) eZ).trans (DQ _ false))
  rw[<- afm f.ag.length f.blocks];refine SS ?_
  refine ab (cJ (λs=>∃ N,aL prog s ⟨ay [],λ_=>none,N⟩/\(range f.blocks.length).all (tJ f)=true) (dS (α:=Nat×Nat) (λq=>⟨ay [(1,.pt (aG f)),(4,.pt (cD f (cr L))),(9,.rs 2 0 f.ag.length),(10,I q.1)],b8 [(2,.cells ((oQ f.ag.length f.blocks q.1).map B) 4)],q.2⟩)
   (λq=>q.1<=f.blocks.length/\3<=q.2/\(range q.1).all (tJ f)=true) (λq=>f.blocks.length - q.1) (0,3) (a6 eH eH) ⟨Nat.zero_le _,bK _,rfl⟩ ?_) ?_)
  .rintro⟨k,N⟩ ⟨hk,hN3,U⟩;dsimp only at hk hN3 U ⊢;refine bG ?_;refine ab ⟨_,rfl,λh=>?_,λh=>?_⟩
   .have al:k<f.blocks.length:=tn h
    have hx:f.blocks[k]? =some f.blocks[k]:=aV al;have tN:=hs.en _ (dG al)
    have C:tJ f k=(!decide ((200:Int)<f.blocks[k].ins.length)&&((range f.blocks[k].ins.length).all (yx f k f.blocks[k].ins)&&(jj f f.blocks[k].fin&& !(f.blocks[k].fin.kind==7&&(nG f.blocks k).any (·==f.blocks[k].fin.a))))):=by
     unfold tJ;simp only[getD_some hx]
    have nV:tJ f k=false->(range f.blocks.length).all (tJ f)=false:=λhq=>qN al hq;have wV:=aix (R:=f.ag.length) hx;have yI:=λ(i:Nat)=>ag' (R:=f.ag.length) (i:=i) hx;have hA:=zd k al;have uI:∀ {y:Ins},aE prog 151 [.agg (cD f (cr L)),.agg (aI y),I k] (B (eX f k (mU f.blocks f.blocks.length k).length y)):=λ{y}=>uI hA kE A6 A1;have J:∀ j,yx f k f.blocks[k].ins j=(eX f k (mU f.blocks f.blocks.length k).length (f.blocks[k].ins.getD j fM)&& !(cP (f.blocks[k].ins.getD j fM)&&(decide (0<j)&& !cP (f.blocks[k].ins.getD (j - 1) fM)))):=λj=>rfl;generalize mU f.blocks f.blocks.length k=A at uI J hA;generalize f.blocks[k]=x at hx tN C wV yI J;have LV:=LV (f:=f) (DG L) rfl tN.1 tN.2 hN;refine ws (eD ?_);refine ab (aM (aj (az ?_)));refine ab (cG rfl (λhp=>?_) λhp=>dn (aM (aF ?_)))
    .refine aM (aj (SS ?_));refine ab (dX (dd (bc (aD (d:=B false) rfl ?_))));rw[nV (by rw[C,hp];rfl)]
    rw[hp,Bool.not_false,Bool.true_and] at C;have pL:x.ins.length<=200:=by have:=of_decide_eq_false hp;omega
    refine SS ?_
    refine ab (cJ (λs=>aL prog s ⟨ay [(1,.pt (aG f)),(4,.pt (cD f (cr L))),(9,.rs 2 0 f.ag.length),(10,I k)],b8 [(2,.cells ((oQ f.ag.length f.blocks k).map B) 4)],N⟩/\(range x.ins.length).all (yx f k x.ins)=true) (dS (α:=Nat) (λj=>⟨ay [(1,.pt (aG f)),(4,.pt (cD f (cr L))),(9,.rs 2 0 f.ag.length),(10,I k),(11,eV x.ins),(12,I j)],b8 [(2,.cells ((oQ f.ag.length f.blocks k).map B) 4)],N⟩)
     (λj=>j<=x.ins.length/\(range j).all (yx f k x.ins)=true) (λj=>x.ins.length - j) 0 (a6 eH eH) ⟨Nat.zero_le _,rfl⟩ ?_) ?_)
    .rintro j ⟨hj,xm⟩;refine aX ?_;refine ab ⟨_,rfl,λh=>?_,λh=>?_⟩
     .have dx:j<x.ins.length:=tn h
      have hy:x.ins[j]? =some x.ins[j]:=aV dx;have J:=J j;rw[getD_some hy] at J;have ur:yx f k x.ins j=false->(range f.blocks.length).all (tJ f)=false:=λhq=>nV (by rw[C,qN dx hq];rfl);have X:yx f k x.ins j=true->(range (j+1)).all (yx f k x.ins)=true:=λhq=>nq xm hq;generalize x.ins[j]=y at hy J;have uI:= @uI y;generalize eX f k A.length y=v at uI J;rw[J] at ur X;clear J;apply eJ iB;cases v with
      |false=>
       refine bg ?_;refine bg ?_;refine bG ?_;(iterate 5 refine z λ_ _=>?_);refine SS ?_;refine bU bX (au rfl (λhp=>?_) λhp=>(by cases hp));refine ws (SS ?_);refine ab (bD (dd (bc (dd (bc (aD (d:=B false) rfl ?_))))));rw[ur rfl]
      |true=>
       rw[Bool.true_and] at ur X;by_cases dm:y.op=19
       .have vt:cP y=true:=by simp[cP,dm]
        rw[vt,Bool.true_and] at ur X;have kQ:(y.op==19)=true:=by simp[dm]
        cases j with
        |zero=>
         have yE:decide ((0:Int)<((0:Nat):Int))=false:=rfl;refine bg ?_;refine bg ?_;refine af ?_;(iterate 7 refine z λ_ _=>?_);refine af ?_;refine bU bX (au rfl (λhp=>(by cases hp)) λhp=>eQ ?_);refine az ?_;refine ab (bA 1 (a6 eH eH) ⟨oG,X rfl⟩ oG)
        |succ i=>
         have yE:decide ((0:Int)<((i+1:Nat):Int))=true:=decide_eq_true oG;have Ap:((i+1:Nat):Int) - 1=(i:Int)/\ -9223372036854775808<=(i:Int)/\(i:Int)<=9223372036854775807:=by omega
         have hz:x.ins[i]? =some x.ins[i]:=aV oG;rw[show i+1 - 1=i from rfl,getD_some hz] at ur X;generalize x.ins[i]=z at hz ur X;refine bg ?_;refine bg ?_;refine bg ?_;refine af ?_;refine bU bX (au rfl (λhp=>?_) λhp=>?_)
         .refine ws (SS ?_);refine ab (bD (dd (bc (dd (bc (aD (d:=B false) rfl ?_))))));rw[ur (by revert hp;simp[cP])]
         .refine eQ (az ?_);refine ab (bA (i+1+1) (a6 eH eH) ⟨oG,X (by revert hp;simp[cP])⟩ oG)
       .have vt:cP y=false:=by simp[cP,dm]
        rw[vt,Bool.false_and] at ur X;have kQ:(y.op==19)=false:=by simp[dm]
        refine bg ?_;refine bg ?_;refine bG ?_;(iterate 4 refine z λ_ _=>?_);refine af ?_;refine bU bX (au rfl (λhp=>(by cases hp)) λhp=>eQ ?_);refine az ?_;refine ab (bA (j+1) (a6 eH eH) ⟨oG,X rfl⟩ oG)
     .have bJ:¬ j<x.ins.length:=tn h
      have:j=x.ins.length:=by omega
      subst this;exact⟨a6 eH eH,xm⟩
    rintro s ⟨hg,J⟩;rw[J,Bool.true_and] at C;refine⟨_,hg,aF ?_⟩;clear hg uI J hA;let⟨atu,xk,xa,xb,xt,xe,xn,Tf,xs,xw,xo⟩:=x;dsimp only at*
    refine cF ?_;refine ab (bF (pf (i:=N) (l:=[(1,.pt (aG f)),(4,.pt (cD f (cr L))),(9,.rs 2 0 f.ag.length),(10,I k),(13,.pt (aR ⟨xk,xa,xb,xt,xe,xn,Tf,xs,xw,xo⟩))]) (ml:=[(2,.cells ((oQ f.ag.length f.blocks k).map B) 4)]) s3 ⟨rfl,rfl,lR oG,rfl,mC,aa⟩ ⟨O0 oG (aq oG (aq oG rfl)) .map,aa⟩) (aj ?_));have cv:= @O4 f ⟨xk,xa,xb,xt,xe,xn,Tf,xs,xw,xo⟩;generalize jj f ⟨xk,xa,xb,xt,xe,xn,Tf,xs,xw,xo⟩=v at LV C cv;refine aX ?_;refine ab (aM (aj (af ?_)));refine ab (cG rfl (λhp=>?_) λhp=>dn (aj ?_))
    .refine aM (aj (SS ?_));refine ab (dX (dd (bc (aD (d:=B false) rfl ?_))));rw[nV (by rw[C];revert hp;cases v<;>simp)]
    have hv:v=true:=tn hp
    subst hv;rw[Bool.true_and] at C;refine az ?_;refine ab (au rfl (λh7=>?_) λh7=>eQ ?_)
    .have e7:xk=7:=tn h7
     let⟨i,hi,e⟩:=(cv rfl).2.2 e7;dsimp only at e;subst e;have yI:=yI i e7 rfl;have Cr:(oQ f.ag.length f.blocks k)[i]? =some ((nG f.blocks k).any (·==(i:Int))):=JD hi;have lJ:=Gm f.ag.length f.blocks k;rw[e7] at C;generalize (nG f.blocks k).any (·==(i:Int))=o at Cr C;generalize oQ f.ag.length f.blocks k=O at Cr lJ yI ⊢;have kd:=nv (f:=B) Cr;refine aM (aj (bG ?_));refine ab (cG rfl (λhp=>?_) λhp=>dn ?_)
     .refine aM (aj (SS ?_));refine ab (dX (dd (bc (aD (d:=B false) rfl ?_))));rw[nV (by rw[C,hp];rfl)]
     .refine gE (bG ?_);refine ab (az ?_);refine ab (bA (k+1,N+1) (a6 eH ⟨?_,aa⟩) ⟨oM,oM,nq U (by rw[C,hp];rfl)⟩ oM);dsimp only;rw[yI,map_set];rfl
    .have h7:¬ xk=7:=tn h7
     have wV:=wV h7;refine az ?_;refine ab (bA (k+1,N+1) (a6 eH ⟨?_,aa⟩) ⟨oM,oM,nq U (by rw[C];simp[h7])⟩ oM);dsimp only;rw[wV];rfl
   .have bJ:¬ k<f.blocks.length:=tn h
    have:k=f.blocks.length:=by omega
    subst this;exact⟨N,jq (l:=[]) aa,U⟩
  .rintro s ⟨N,hg,U⟩;refine⟨_,hg,aj ?_⟩;refine SS ?_;refine ab (aD (d:=B true) rfl ?_);rw[U]
section
def rz(p:Bool×D):List D:=[B p.1,p.2]
def dZ(L:List (Bool×D)):List D:=L.flatMap rz
def HZ(c:Cert):Bool×D:=(c.any,nA c.is)
def DT:∀ L:List (Bool×D),(dZ L).length=L.length*2
 |[]=>rfl
 |p::L=>by
  have:=DT L;unfold dZ at this ⊢;rw[flatMap_cons,length_append,this];simp[rz];omega
def Ot:∀ {L:List (Bool×D)} {t:Nat} {p:Bool×D},L[t]? =some p->∃ r,(dZ L).drop (t*2)=B p.1::p.2::r
 |[],_,_,h=>by simp at h
 |p::L,0,q,h=>by
  simp at h;subst h;exact⟨dZ L,rfl⟩
 |p::L,t+1,q,h=>by
  obtain⟨r,hr⟩:=Ot (L:=L) (t:=t) (by simpa using h);refine⟨r,?_⟩;rw[show(t+1)*2=t*2+2 by omega];show(B p.1::p.2::dZ L).drop (t*2+2)=_;exact hr
def W3:∀ {L:List (Bool×D)} {t:Nat} (q:Bool×D),t<L.length->(dZ L).take (t*2)++[B q.1,q.2]++(dZ L).drop (t*2+2)=dZ (L.set t q)
 |[],_,_,h=>by simp at h
 |p::L,0,q,h=>rfl
 |p::L,t+1,q,h=>by
  have ih:=W3 (L:=L) (t:=t) q (tn h);rw[show(t+1)*2=t*2+2 by omega,set_cons_succ];show B p.1::p.2::((dZ L).take (t*2)++[B q.1,q.2]++(dZ L).drop (t*2+2))=_;rw[ih];rfl
def Nu{L:List (Bool×D)}{t:Nat}(q:Bool×D)(h:t<L.length):fJ (dZ L) (t*2) [B q.1,q.2]=dZ (L.set t q):=W3 q h
variable{L:List (Bool×D)}{t:Nat}{p:Bool×D}
def ajw(h:L[t]? =some p):∃ r,(dZ L).drop (t*2+0)=B p.1::p.2::r:=Ot h
def W4(h:L[t]? =some p):((dZ L).drop (t*2)).take 2=[B p.1,p.2]:=by
 let⟨r,hr⟩:=Ot h;rw[hr];rfl
def JZ(g:D->D)(hg:∀ b,g (B b)=B b):∀ L:List (Bool×D),(dZ L).map g=dZ (L.map λp=>(p.1,g p.2))
 |[]=>rfl
 |p::L=>by
  show g (B p.1)::g p.2::(dZ L).map g=B p.1::g p.2::_;rw[hg,JZ g hg L];rfl
def kO(n N:Nat)(d:D):Nat->List (Bool×D)
 |0=>replicate N (false,.z)
 |k+1=>(true,d)::(replicate k (true,nA (replicate n false))++replicate (N - (k+1)) (false,.z))
variable{N k:Nat}
def NU{n:Nat}{d:D}(h:k<=N):(kO n N d k).length=N:=by
 cases k with
 |zero=>simp[kO]
 |succ k=>simp[kO];omega
variable{n:Nat}{d:D}
def aiy(h:0<N):(kO n N d 0).set 0 (true,d)=kO n N d 1:=by
 obtain⟨M,rfl⟩:∃ M,N=M+1:=⟨N - 1,oG⟩
 simp[kO,replicate_succ]
def aiz(h:k+1<N):(kO n N d (k+1)).set (k+1) (true,nA (replicate n false))=kO n N d (k+2):=by
 rw[kO,set_cons_succ,show N - (k+1)=N - (k+1+1)+1 by omega,replicate_succ (n:=N - (k+1+1)),set_append_right _ _ oS,length_replicate,Nat.sub_self,set_cons_zero];show _=(true,d)::(replicate (k+1) _++_)
 rw[replicate_succ',append_assoc];rfl
def gn(R n N:Nat)(s:CS):List (Bool×D):=(range N).map λk=>HZ (c8 R n s k)
def zs(R n N:Nat)(s:CS):(gn R n N s).length=N:=by simp[gn]
def Dm{R n:Nat}{s:CS}(h:k<N):(gn R n N s)[k]? =some (HZ (c8 R n s k)):=by simp[gn,h]
variable{s:CS}
def adX{R:Nat}{s':CS}{c:Cert}(h:∀ k,c8 R n s' k=if k=t then c else c8 R n s k):(gn R n N s).set t (HZ c)=gn R n N s':=by
 apply ext_getElem?;intro j;rw[getElem?_set,zs];by_cases hj:j<N
 .rw[Dm hj,Dm hj,h j];by_cases e:t=j
  .subst e;simp[hj]
  .rw[ai e,ai λh=>e h.symm]
 .have h1:∀ s,(gn R n N s)[j]? =none:=λs=>by simp[gn];omega
  rw[h1,h1];split
  .rw[ai oG]
  .rfl
def G7(f:aO)(s:CS):D:=.sl (dZ (gn f.ag.length (f.ag.length+f.aU.length) f.blocks.length s)) f.blocks.length
def Nv{R:Nat}:(c8 R n s k).is.length=n:=by
 unfold c8;split
 .exact Gy ..
 .simp
def sy(a b:Cert)(q:Nat):Bool:=(a.any==b.any)&&(range q).all λi=>a.is.getD i false==b.is.getD i false
def adY(a b:Cert)(q:Nat):sy a b (q+1)=(sy a b q&&(a.is.getD q false==b.is.getD q false)):=by
 unfold sy;rw[List.range_succ,List.all_append,Bool.and_assoc];simp
def afr{a b:Cert}(ha:a.is.length=n)(hb:b.is.length=n):sy a b n=true↔a.any=b.any/\a.is=b.is:=by
 rw[sy,aH,beq_iff_eq,cm];refine and_congr_right λ_=>⟨λh=>?_,λh k hk=>by rw[h];simp⟩
 apply ext_getElem?;intro j;by_cases hj:j<n
 .have:=h j (tn hj);have h1:a.is[j]? =some a.is[j]:=aV oG;have h2:b.is[j]? =some b.is[j]:=aV oG;rw[getD_some h1,getD_some h2,beq_iff_eq] at this;rw[h1,h2,this]
 .rw[getElem?_eq_none oG,getElem?_eq_none oG]
def VY:∀ n:Nat,dp n [B false,.z]=dZ (replicate n (false,.z))
 |0=>rfl
 |n+1=>by
  have:=VY n;unfold dp at this ⊢;rw[replicate_succ,replicate_succ,flatten_cons,this];rfl
def W5:∀ {L:List (Bool×D)},(∀ p∈L,Tr p.2)->∀ x∈dZ L,Tr x
 |[],_,x,h=>by simp[dZ] at h
 |p::L,hp,x,h=>by
  have h:x∈B p.1::p.2::dZ L:=h;rcases mem_cons.1 h with rfl|h
  .exact .s _
  .rcases mem_cons.1 h with rfl|h
   .exact hp p oS
   .exact W5 (λq hq=>hp q (by simp[hq])) x h
def ahc(f:aO)(s:CS):Tr (G7 f s):=.sl (W5 λp hp=>by
 obtain⟨k,_,rfl⟩:=mem_map.1 hp
 exact .sl (.map λ_=>.s _))
variable{cs:List D}{sz:Nat}
def ahd{i:Nat}(h:i≠2)(k:Nat):(kO n N (.rs 2 0 n) k).map (λp=>(p.1,sub (cZ i cs sz) p.2))=kO n N (.rs 2 0 n) k:=by
 cases k with
 |zero=>simp only[kO,map_replicate];rfl
 |succ k=>
  simp[kO,map_cons,map_append,map_replicate,lR (Ne.symm h)];rfl
def aiA{i:Nat}(h:i≠2)(hk:k+1<N):(dZ ((kO n N (.rs 2 0 n) (k+1)).set (k+1) (true,.rs i 0 n))).map (sub (cZ i ((replicate n false).map B) 1))=dZ (kO n N (.rs 2 0 n) (k+2)):=by
 rw[JZ _ (λ_=>rfl),map_set,ahd h,oI,drop_zero,cW oS, <- aiz hk];congr 3;show _=D.sl _ _;rw[length_replicate]
def rA(n N:Nat):List (Bool×D):=replicate (N - 1) (true,nA (replicate n false))
def aiB(h:0<N):kO n N d N=(true,d)::rA n N:=by
 obtain⟨M,rfl⟩:∃ M,N=M+1:=⟨N - 1,oG⟩
 simp[kO,rA]
def U2{n:Nat}(h:0<N):(rA n N).length+1=N:=by simp[rA];omega
def ap4{i:Nat}:(rA n N).map (λp=>(p.1,sub (cZ i cs sz) p.2))=rA n N:=by
 rw[rA,map_replicate];rfl
def adg{R args:Nat}(h0:c8 R n (mr N args) 0=⟨false,replicate args true++replicate (n - args) false⟩)(h1:∀ k,0<k->k<N->c8 R n (mr N args) k=⟨true,replicate n false⟩)(C:0<N):
 gn R n N (mr N args)=(false,nA (replicate args true++replicate (n - args) false))::rA n N:=by
 apply ext_getElem?;intro j;by_cases hj:j<N
 .rw[Dm hj];cases j with
  |zero=>rw[h0];rfl
  |succ j=>
   rw[h1 _ oG hj,getElem?_cons_succ];rw[rA,getElem?_replicate,bi oG];rfl
 .rw[getElem?_eq_none (by rw[zs];omega),getElem?_eq_none (by have:=U2 (n:=n) C;simp;omega)]
def Ou{R i:Nat}{e:TypeId}:Row.sub (cZ i cs sz) (.cells (dZ (gn R n N s)) e)=.cells (dZ (gn R n N s)) e:=by
 refine congrArg (λc=>Row.cells c e) ((JZ _ (λ_=>rfl) _).trans (congrArg dZ ?_));rw[gn,map_map];rfl
def QD(f:aO)(n N:Nat):Nat->St
 |0=>⟨ay [(1,.pt (aG f)),(3,I n),(4,.rs 1 0 N),(5,I (0:Nat))],b8 [(1,.cells (dZ (kO n N (.rs 2 0 n) 0)) 99)],2⟩
 |k+1=>⟨ay [(1,.pt (aG f)),(3,I n),(4,.rs 1 0 N),(5,I (k+1:Nat))],b8 [(1,.cells (dZ (kO n N (.rs 2 0 n) (k+1))) 99),(2,.cells ((replicate n false).map B) 4)],k+3⟩
end
theorem FW{f:aO}(O:Ew f)(hw:∀ b∈f.blocks,b.fin.aA.length<=10):aE prog 64 [.agg (aG f)] (G7 f (jU f.blocks f.args.toNat)):=by
 have hR:=O.ok.ag;have hS:=O.sl;have hN1:=O.ok.lim;have zh:=O.ok.pos;let⟨a,ha,uY⟩:=O.ar;have Ho:=U3 (R:=f.ag.length) (n:=f.ag.length+f.aU.length) (N:=f.blocks.length) (args:=a) hR oG oG zh uY;rw[ha,eC];refine bN (fo f64) (.cons (.agg (jG f)) .nil) (ahc f _) ?_;refine aF (af ?_);refine ab (bF (cE [(0,aG f,26)] eH (l:=[(1,.pt (aG f))]) eH) (aF ?_));refine cF ?_;refine ab (bF (ao (l:=[(1,.pt (aG f)),(3,I ((f.ag.length+f.aU.length:Nat):Int))]) eH) (aF ?_));have uT:f.ag.length+f.aU.length<=1260:=by omega
 have Tg:f.ag.length<=f.ag.length+f.aU.length:=by omega
 unfold G7;generalize hn:f.ag.length+f.aU.length=n at Ho uT Tg ⊢;have eZ:((f.blocks.length:Nat):Int).toNat=f.blocks.length:=eC _;refine az ?_;refine cY (zx rfl rfl V.h V.h) ak ⟨oG,rfl,oG,by rw[b99];omega,V.h⟩ (SS ?_);refine ab (bF (a6 (l:=[(1,.pt (aG f)),(3,I n),(4,.rs 1 0 f.blocks.length)]) (ml:=[(1,.cells (dZ (kO n f.blocks.length (.rs 2 0 n) 0)) 99)]) ⟨rfl,rfl,congrArg (λk=>D.rs 1 0 k) eZ,aa⟩ ⟨?_,aa⟩) (aM (aF ?_)))
 .exact congrArg (λc=>some (Row.cells c 99)) ((congrArg (λk=>dp k [B false,D.z]) eZ).trans (VY _))
 refine SS ?_;have AG:((n:Nat):Int).toNat=n:=eC _
 refine ab (cJ (λs=>∃ N,aL prog s ⟨ay [(1,.pt (aG f)),(3,I n),(4,.rs 1 0 f.blocks.length)],b8 [(1,.cells (dZ ((true,.rs 2 0 n)::rA n f.blocks.length)) 99),(2,.cells ((replicate n false).map B) 4)],N⟩/\3<=N) (dS (α:=Nat) (QD f n f.blocks.length)
  (λk=>k<=f.blocks.length) (λk=>f.blocks.length - k) 0 (a6 eH eH) oG ?_) ?_)
 .intro k hk;have U:=(DT (kO n f.blocks.length (.rs 2 0 n) k)).trans (congrArg (·*2) (NU (n:=n) (d:=.rs 2 0 n) hk));cases k with
  |zero=>
   show aJ _ _ _ _ _ _ _ _ _;unfold QD;refine aX ?_;refine ab ⟨_,rfl,λh=>?_,λh=>?_⟩
   .apply gE;have lP:=Nu (L:=kO n f.blocks.length (.rs 2 0 n) 0) (t:=0) (true,.rs 2 0 n) (by rw[NU hk];exact zh);rw[aiy zh] at lP;refine cB ?_;refine bT (eK (vs:=[B true,.rs 2 0 n]) rfl rfl rfl lP) aB (bW t99 oe ⟨rfl,by rw[U];omega⟩ rfl) (ab (az ?_));refine ab (bA 1 (a6 eH ⟨rfl,?_,aa⟩) oG oG)
    .exact congrArg (λc=>some (Row.cells c 4)) ((congrArg (λk=>dp k [B false]) AG).trans (DQ _ false))
   .exact absurd (of_decide_eq_false h) oG
  |succ k=>
   show aJ _ _ _ _ _ _ _ _ _;unfold QD;refine aX ?_;refine ab ⟨_,rfl,λh=>?_,λh=>?_⟩
   .have al:k+1<f.blocks.length:=by have:=of_decide_eq_true h;omega
    apply gE;have lP:=Nu (L:=kO n f.blocks.length (.rs 2 0 n) (k+1)) (t:=k+1) (true,.rs (k+3) 0 n) (by rw[NU hk];exact al);refine cB ?_;refine bT (eK (vs:=[B true,.rs (k+3) 0 n]) rfl rfl (aq oG rfl) lP) aB (bW t99 oe ⟨rfl,by rw[U];omega⟩ rfl) (ab (az ?_));refine ab (bA (k+2) (pf (i:=k+3) (e:=4) (cs:=(replicate n false).map B) (aq oG ?_) ⟨rfl,rfl,lR oG,rfl,aa⟩ ⟨?_,O0 oG (aq oG (aq oG rfl)) .map,aa⟩) oG oG)
    .exact(ap _ _ _).trans (congrArg (λc=>some (Row.cells c 4)) ((congrArg (λk=>dp k [B false]) AG).trans (DQ _ false)))
    .rw[c4];refine(ai (show ¬ 1=k+3 by omega)).trans ?_;exact(congrArg (Option.map _) s3).trans (congrArg (λc=>some (Row.cells c 99)) (aiA oG al))
   .have bJ:¬ k+1<f.blocks.length:=by have:=of_decide_eq_false h;omega
    have hkN:k+1=f.blocks.length:=by omega
    refine⟨k+3,a6 eH ⟨?_,rfl,aa⟩,oG⟩;rw[<- aiB zh, <- hkN];rfl
 rintro s ⟨N3,hg,hN3⟩;have vg:=U2 (n:=n) zh;have Da:=adg Ho.2.1 Ho.2.2 zh;have Th:∀ cs sz,(rA n f.blocks.length).map (λp=>(p.1,sub (cZ 2 cs sz) p.2))=rA n f.blocks.length:=λcs sz=>ap4;have U:=DT (rA n f.blocks.length);generalize rA n f.blocks.length=T at hg vg Da Th U;refine⟨_,hg,aF ?_⟩;refine aX ?_;refine ab (bF (a6 (l:=[(1,.pt (aG f)),(3,I n),(4,.rs 1 0 f.blocks.length)]) (ml:=[(1,.cells (dZ ((false,.rs 2 0 n)::T)) 99),(2,.cells ((replicate 0 true++replicate (n - 0) false).map B) 4)]) eH eH) (aM (aF ?_)));refine SS ?_
 refine ab (cJ (λs=>aL prog s ⟨ay [(1,.pt (aG f)),(3,I n),(4,.rs 1 0 f.blocks.length)],b8 [(1,.cells (dZ ((false,.rs 2 0 n)::T)) 99),(2,.cells ((replicate a true++replicate (n - a) false).map B) 4)],N3⟩) (dS (α:=Nat) (λr=>⟨ay [(1,.pt (aG f)),(3,I n),(4,.rs 1 0 f.blocks.length),(6,I r)],b8 [(1,.cells (dZ ((false,.rs 2 0 n)::T)) 99),(2,.cells ((replicate r true++replicate (n - r) false).map B) 4)],N3⟩)
  (λr=>r<=a) (λr=>a - r) 0 (a6 eH eH) oG ?_) ?_)
 .intro r hr;refine aX ?_;refine ab ⟨_,rfl,λh=>?_,λh=>?_⟩
  .have al:r<a:=by have:=of_decide_eq_true h;omega
   have wE:=O1 (x:=true) (y:=false) (n:=n) (k:=r) oG;have qE:(replicate r true++replicate (n - r) false).length=n:=by simp;omega
   refine gE (eD ?_);refine ab (az ?_);refine ab (bA (r+1) (a6 eH ⟨rfl,?_,aa⟩) oG oG);rw[<- wE,map_set];rfl
  .have bJ:¬ r<a:=by have:=of_decide_eq_false h;omega
   have:r=a:=by omega
   subst this;exact a6 eH eH
 clear hg;rintro s hg;refine⟨_,hg.trans (pf (i:=2) (e:=4) (cs:=(replicate a true++replicate (n - a) false).map B) (l:=[(1,.pt (aG f)),(3,I n),(4,.rs 1 0 f.blocks.length)]) (ml:=[(1,.cells (dZ (gn f.ag.length n f.blocks.length (mr f.blocks.length a))) 99)]) rfl eH ⟨?_,aa⟩),aM (aF ?_)⟩
 .rw[c4,Da];refine congrArg (λc=>some (Row.cells c 99)) ((JZ _ (λ_=>rfl) _).trans (congrArg dZ ?_));rw[map_cons,Th,oI,drop_zero,cW oP];have:(replicate a true++replicate (n - a) false).length=n:=by simp;omega
  show(false,D.sl _ n)::T=(false,D.sl _ (length _))::T;rw[this]
 clear hg vg Da Th U T;refine SS ?_;have hG0:=Ho.1;clear Ho;have hRR:jU f.blocks a=pg f.blocks (sZ (mr f.blocks.length a)+1) (mr f.blocks.length a):=rfl;generalize jU f.blocks a=RR at hRR ⊢
 refine ab (cJ (λs=>∃ N,aL prog s ⟨ay [(4,.rs 1 0 f.blocks.length)],b8 [(1,.cells (dZ (gn f.ag.length n f.blocks.length RR)) 99)],N⟩) (OH (α:=CS×Nat)
  (λs=>⟨ay [(1,.pt (aG f)),(3,I n),(4,.rs 1 0 f.blocks.length),(7,B s.1.ch)],b8 [(1,.cells (dZ (gn f.ag.length n f.blocks.length s.1)) 99)],s.2⟩)
  (λs=>sA f.ag.length n f.blocks.length s.1/\2<=s.2/\(s.1.ch=true->∃ k,sZ s.1<k/\pg f.blocks k s.1=RR)/\(s.1.ch=false->s.1=RR)) (λs=>2*sZ s.1+if s.1.ch=true then 1 else 0) (mr f.blocks.length a,N3)
  (a6 eH eH) ⟨hG0,oM,λ_=>⟨_,Nat.lt_succ_self _,hRR.symm⟩,λh=>by cases h⟩ ?_) ?_)
 .rintro⟨C,N0⟩ ⟨hG,aaE,kZ,HP⟩;dsimp only at hG aaE kZ HP ⊢;refine SS ?_;refine ab ⟨_,rfl,λh0=>?_,λh=>?_⟩
  .let⟨fu,al1,Hk⟩:=kZ h0;obtain⟨fu,rfl⟩:∃ j,fu=j+1:=⟨fu - 1,oG⟩
   have Hl:=F4 O.ok.blk hG.ok;refine ws (SS ?_);refine ab (aF (SS ?_))
   refine ab (dS (α:=Nat×Nat)
    (λk=>⟨ay [(1,.pt (aG f)),(3,I n),(4,.rs 1 0 f.blocks.length),(7,B ((range k.1).foldl (eR f.blocks) ⟨C.a8,C.re,false⟩).ch),(8,I k.1)],b8 [(1,.cells (dZ (gn f.ag.length n f.blocks.length ((range k.1).foldl (eR f.blocks) ⟨C.a8,C.re,false⟩))) 99)],k.2⟩)
    (λk=>k.1<=f.blocks.length/\2<=k.2/\sA f.ag.length n f.blocks.length ((range k.1).foldl (eR f.blocks) ⟨C.a8,C.re,false⟩)) (λk=>f.blocks.length - k.1) (0,N0) (a6 eH eH) ⟨Nat.zero_le _,aaE,W6 hG false⟩ ?_)
   rintro⟨k,N⟩ ⟨hk,hN,Db⟩;dsimp only at hk hN Db ⊢;have dw:(range (k+1)).foldl (eR f.blocks) ⟨C.a8,C.re,false⟩=eR f.blocks ((range k).foldl (eR f.blocks) ⟨C.a8,C.re,false⟩) k:=by rw[range_succ,foldl_append];rfl
   have mY:k=f.blocks.length->(range k).foldl (eR f.blocks) ⟨C.a8,C.re,false⟩=mq f.blocks C:=λe=>by rw[e,mq]
   generalize (range k).foldl (eR f.blocks) ⟨C.a8,C.re,false⟩=u at Db dw mY;refine aX ?_;refine ab ⟨_,rfl,λh=>?_,λh=>?_⟩
   .have al:k<f.blocks.length:=tn h
    have hx:f.blocks[k]? =some f.blocks[k]:=aV al;have X:f.blocks[k]∈f.blocks:=dG _;generalize f.blocks[k]=x at hx X;have J:eR f.blocks u k=if u.re.getD k false=true then(nextR x.fin).foldl (dD x.fin (lj x (u.a8.getD k [])).1) u else u:=by rw[eR,hx]
    have FX:=Dm (R:=f.ag.length) (n:=n) (s:=u) al;let⟨rr,kd⟩:=ajw FX;have zo:=W4 FX;have U:=(DT (gn f.ag.length n f.blocks.length u)).trans (congrArg (·*2) (zs f.ag.length n f.blocks.length u));have IU:c8 f.ag.length n u k=if u.re.getD k false=true then⟨false,c7 f.ag.length n (u.a8.getD k [])⟩ else⟨true,replicate n false⟩:=rfl
    have MI:=Db.yes k al;have aaF:=Db.ok.aaG al;refine aM (aj ?_);cases rT:u.re.getD k false with
    |false=>
     rw[rT] at IU J;rw[IU] at kd;have J:eR f.blocks u k=u:=J;have kd:(dZ (gn f.ag.length n f.blocks.length u)).drop (k*2+0)=B true::nA (replicate n false)::rr:=kd;refine bG ?_;refine ab (cG rfl (λh=>tU (D3 ?_)) λh=>oH);refine az ?_;refine ab (bA (k+1,N) (a6 ⟨rfl,rfl,rfl,?_,rfl,aa⟩ ⟨?_,aa⟩) ⟨oM,hN,?_⟩ oM)
     .dsimp only;rw[dw,J];rfl
     .dsimp only;rw[dw,J];rfl
     .dsimp only;rw[dw,J];exact Db
    |true=>
    rw[rT] at IU J;rw[IU] at kd zo;have J:eR f.blocks u k=(nextR x.fin).foldl (dD x.fin (lj x (u.a8.getD k [])).1) u:=J;have MI:=MI rT;generalize u.a8.getD k []=w at IU J kd zo MI aaF;have kd:(dZ (gn f.ag.length n f.blocks.length u)).drop (k*2+0)=B false::nA (c7 f.ag.length n w)::rr:=kd;refine bG ?_;refine ab (cG rfl (λh=>oH) λh=>dn (xx iB ?_));have AR:(c7 f.ag.length n w).length=n:=Gy ..;let⟨q1,q2,q3⟩:=Gz (R:=f.ag.length) (n:=n) hR oG Tg (l:=x.ins) (ok:=true) (λy hy=>hn▸(O.ins x X y hy).1) aaF MI;have zn:aE prog 69 [.agg (aG f),I k,.agg (dc ⟨false,c7 f.ag.length n w⟩)] (.agg (dc (gp f.ag.length x.ins ⟨false,c7 f.ag.length n w⟩))):=zn hx (by rw[hn];exact AR) (by show(c7 f.ag.length n w).length<=_;omega) (λy hy=>(O.ins x X y hy).1) (by have:=(O.ok.blk x X).len;omega);rw[q1] at zn;have ID:(lj x w).1=(x.ins.foldl mD (w,true)).1:=rfl;rw[ID] at J;clear ID;generalize (x.ins.foldl mD (w,true)).1=w' at q1 q2 q3 zn J;refine bG ?_;refine ax (dL rfl rfl vw oe zo) aB (dN t99 oe (by rw[U];omega)) (az ?_);have ap7:(c7 f.ag.length n w').length=n:=Gy ..;refine bU bX (bF (pf (i:=N) (l:=[(1,.pt (aG f)),(3,I n),(4,.rs 1 0 f.blocks.length),(7,B u.ch),(8,I k),(9,.pt (dc ⟨false,c7 f.ag.length n w'⟩))]) (ml:=[(1,.cells (dZ (gn f.ag.length n f.blocks.length u)) 99)]) s3 ⟨rfl,rfl,lR oG,rfl,rfl,mC,aa⟩ ⟨DI oG (aq oG (aq oG rfl)) Ou,aa⟩) (aj ?_));have xr:=xr hx (by have:=hw x X;omega);rw[(O.ed x X).2] at xr;have eE:=(O.ok.blk x X).to;have kX:=Jq x.fin;have hwx:=hw x X;have s4:=O.wr x X;have uR:=(O.ed x X).1;generalize nextR x.fin=l at xr eE kX J;refine aX ?_;refine ab (aF (SS ?_))
    refine ab (dS (α:=Nat×Nat)
     (λj=>⟨ay [(1,.pt (aG f)),(3,I n),(4,.rs 1 0 f.blocks.length),(7,B ((l.take j.1).foldl (dD x.fin w') u).ch),(8,I k),(9,.pt (dc ⟨false,c7 f.ag.length n w'⟩)),(10,av l),(11,I j.1)],b8 [(1,.cells (dZ (gn f.ag.length n f.blocks.length ((l.take j.1).foldl (dD x.fin w') u))) 99)],j.2⟩)
     (λj=>j.1<=l.length/\2<=j.2/\sA f.ag.length n f.blocks.length ((l.take j.1).foldl (dD x.fin w') u)) (λj=>l.length - j.1) (0,N+1) (a6 eH eH) ⟨Nat.zero_le _,oM,Db⟩ ?_)
    clear zo U;rintro⟨j,N'⟩ ⟨hj,Mw,MJ⟩;dsimp only at hj Mw MJ ⊢;have gA:∀ t,l[j]? =some t->(l.take (j+1)).foldl (dD x.fin w') u=dD x.fin w' ((l.take j).foldl (dD x.fin w') u) t:=λt ht=>s7 ht;have uo:j=l.length->(l.take j).foldl (dD x.fin w') u=eR f.blocks u k:=λe=>by rw[J,cW oG]
    generalize (l.take j).foldl (dD x.fin w') u=v at MJ gA uo;refine aX ?_;refine ab ⟨_,rfl,λh=>?_,λh=>?_⟩
    .have dx:j<l.length:=tn h
     have ht:l[j]? =some l[j]:=aV dx;have vr:=eE _ (dG dx);generalize l[j]=t at ht vr;obtain⟨i,rfl⟩:=fc vr.1;have cv:i<f.blocks.length:=by omega
     have FX:=Dm (R:=f.ag.length) (n:=n) (s:=v) cv;have zo:=W4 FX;have U:=(DT (gn f.ag.length n f.blocks.length v)).trans (congrArg (·*2) (zs f.ag.length n f.blocks.length v));have lP:=λq=>Nu (L:=gn f.ag.length n f.blocks.length v) (t:=i) q (by rw[zs];exact cv);let⟨Ti,rU⟩:=W7 (R:=f.ag.length) (n:=n) hR oG Tg MJ uR s4 cv q2 q3;have gA:=gA _ ht
     have A8:aE prog 68 [.agg (aG f),I k,I i,.agg (dc ⟨false,c7 f.ag.length n w'⟩)] (.agg (dc (pz x.fin i ⟨false,c7 f.ag.length n w'⟩))):=A8 hx oG (by show(c7 f.ag.length n w').length<=_;omega) (by
      rcases s4 with e|⟨r,h1,h2⟩
      .exact .inl e
      .exact .inr ⟨r,by show r<(c7 f.ag.length n w').length;omega,h2⟩)
     have lJ:(pz x.fin i ⟨false,c7 f.ag.length n w'⟩).is.length=n:=(U0 ..).trans ap7;have dh:(c8 f.ag.length n v i).is.length=n:=Nv;have EV:=EV (a:=c8 f.ag.length n v i) (b:=pz x.fin i ⟨false,c7 f.ag.length n w'⟩) (by rw[dh,lJ]) oG;unfold EW at rU
     have mf:(sx (c8 f.ag.length n v i) (pz x.fin i ⟨false,c7 f.ag.length n w'⟩)).is.length=n:=by
      unfold sx;split
      .exact lJ
      .split
       .exact dh
       .show(zipWith _ _ _).length=n;rw[length_zipWith];omega
     generalize sx (c8 f.ag.length n v i) (pz x.fin i ⟨false,c7 f.ag.length n w'⟩)=now at EV rU mf;generalize pz x.fin i ⟨false,c7 f.ag.length n w'⟩=ov at A8 EV lJ;generalize atv:c8 f.ag.length n v i=og at EV rU dh zo;have zo:((dZ (gn f.ag.length n f.blocks.length v)).drop (i*2)).take 2=dc og:=zo;refine aF (cB ?_);refine ax (dL rfl rfl vw oe zo) aB (dN t99 oe (by rw[U];omega)) (af ?_);refine ab (bF (pf (i:=N') (l:=[(1,.pt (aG f)),(3,I n),(4,.rs 1 0 f.blocks.length),(7,B v.ch),(8,I k),(9,.pt (dc ⟨false,c7 f.ag.length n w'⟩)),(10,av l),(11,I j),(12,.pt (dc og))]) (ml:=[(1,.cells (dZ (gn f.ag.length n f.blocks.length v)) 99)]) s3 ⟨rfl,rfl,lR oG,rfl,rfl,rfl,rfl,rfl,mC,aa⟩ ⟨DI oG (aq oG (aq oG rfl)) Ou,aa⟩) (xx (ij [(0,8)]) ?_));refine bg ?_;refine az ?_;refine bU bX (bF (pf (i:=N'+1) (l:=[(1,.pt (aG f)),(3,I n),(4,.rs 1 0 f.blocks.length),(7,B v.ch),(8,I k),(9,.pt (dc ⟨false,c7 f.ag.length n w'⟩)),(10,av l),(11,I j),(12,.pt (dc og)),(13,.pt (dc now))]) (ml:=[(1,.cells (dZ (gn f.ag.length n f.blocks.length v)) 99)]) s3 ⟨rfl,rfl,lR oG,rfl,rfl,rfl,rfl,rfl,rfl,mC,aa⟩ ⟨DI oG (aq oG (aq oG rfl)) Ou,aa⟩) (aj ?_));refine aX ?_;refine ax (Xn rfl rfl) ak V.h (SS ?_);refine ab (aM (aF (SS ?_)))
     refine ab (cJ (λs=>aL prog s ⟨ay [(1,.pt (aG f)),(3,I n),(4,.rs 1 0 f.blocks.length),(7,B v.ch),(8,I k),(9,.pt (dc ⟨false,c7 f.ag.length n w'⟩)),(10,av l),(11,I j),(13,.pt (dc now)),(14,B (sy og now n))],b8 [(1,.cells (dZ (gn f.ag.length n f.blocks.length v)) 99)],N'+2⟩) (dS (α:=Nat) (λq=>⟨ay [(1,.pt (aG f)),(3,I n),(4,.rs 1 0 f.blocks.length),(7,B v.ch),(8,I k),(9,.pt (dc ⟨false,c7 f.ag.length n w'⟩)),(10,av l),(11,I j),(12,.pt (dc og)),(13,.pt (dc now)),(14,B (sy og now q)),(15,I q)],b8 [(1,.cells (dZ (gn f.ag.length n f.blocks.length v)) 99)],N'+2⟩)
      (λq=>q<=n) (λq=>n - q) 0 (a6 ⟨rfl,rfl,rfl,rfl,rfl,rfl,rfl,rfl,rfl,rfl,?_,rfl,aa⟩ eH) oG ?_) ?_)
     .show B (og.any==now.any)=B (sy og now 0);rw[sy,range_zero,all_nil,Bool.and_true]
     .intro q hq;have A6:=adY og now q;have hlq:q=n->sy og now q=sy og now n:=λe=>by rw[e]
      generalize sy og now q=sq at A6 hlq;refine az ?_;refine ab ⟨_,rfl,λh=>?_,λh=>?_⟩
      .have FV:q<n:=tn h
       have IV:og.is[q]? =some og.is[q]:=aV oG;have Fk:now.is[q]? =some now.is[q]:=aV oG;rw[getD_some IV,getD_some Fk] at A6;generalize og.is[q]=b1 at IV A6;generalize now.is[q]=b2 at Fk A6;apply r8 iB;cases sq with
       |false=>
        refine af ?_;(iterate 11 refine z λ_ _=>?_);refine af ?_;refine bU bX (az ?_);refine ab (bA (q+1) (a6 ⟨rfl,rfl,rfl,rfl,rfl,rfl,rfl,rfl,rfl,rfl,?_,rfl,aa⟩ eH) oG oG);rw[A6];rfl
       |true=>
        refine bg ?_;refine az ?_;refine cq rfl rfl (Xn rfl rfl) (λhc=>⟨ak,V.h⟩) (af ?_);refine bU bX (az ?_);refine ab (bA (q+1) (a6 ⟨rfl,rfl,rfl,rfl,rfl,rfl,rfl,rfl,rfl,rfl,?_,rfl,aa⟩ eH) oG oG);rw[A6];rfl
      .have bJ:¬ q<n:=tn h
       rw[<- hlq oG];exact a6 eH eH
     rintro s1 Ib;have cM:=afr dh mf;generalize sy og now n=sq at Ib cM;refine⟨_,Ib,aj ?_⟩;clear Ib;refine af ?_;refine ab (au rfl (λhp=>?_) λhp=>eQ ?_)
     .have hns:¬ (og.any=now.any/\og.is=now.is):=λh=>by rw[cM.2 h] at hp;cases hp
      have lP:=lP (HZ now);rcases rU with⟨rU,_⟩|⟨_,sR,Fv⟩
      .exact absurd ⟨congrArg Cert.any rU.symm,congrArg Cert.is rU.symm⟩ hns
      rw[adX Fv] at lP;refine eJ iB (eD ?_);refine bT (eK (vs:=dc now) rfl rfl rfl lP) aB (bW t99 oe ⟨rfl,by rw[U];omega⟩ rfl) (bU bX (gE ?_));refine SS ?_;refine ab (az ?_);refine ab (bA (j+1,N'+2) (a6 ⟨rfl,rfl,rfl,?_,rfl,rfl,rfl,rfl,aa⟩ ⟨?_,aa⟩) ⟨oM,oM,?_⟩ oM)
      .dsimp only;rw[gA,sR];rfl
      .dsimp only;rw[gA];rfl
      .dsimp only;rw[gA];exact Ti
     .have hsq:sq=true:=tn hp
      have hss:=cM.1 hsq;rcases rU with⟨_,rU⟩|⟨bC,_,_⟩
      .rw[rU] at gA Ti;refine az ?_;refine ab (bA (j+1,N'+2) (a6 ⟨rfl,rfl,rfl,?_,rfl,rfl,rfl,rfl,aa⟩ ⟨?_,aa⟩) ⟨oM,oM,?_⟩ oM)
       .dsimp only;rw[gA];rfl
       .dsimp only;rw[gA];rfl
       .dsimp only;rw[gA];exact Ti
      .exfalso;rcases bC with h|h
       .exact h hss.1.symm
       .exact h hss.2.symm
    .have bJ:¬ j<l.length:=tn h
     have vl:=uo oG;subst vl;show aJ _ _ _ _ _ _ _ _ _;refine az ?_;refine ab (bA (k+1,N') (a6 ⟨rfl,rfl,rfl,?_,rfl,aa⟩ ⟨?_,aa⟩) ⟨oM,Mw,?_⟩ oM)
     .dsimp only;rw[dw];rfl
     .dsimp only;rw[dw];rfl
     .dsimp only;rw[dw];exact MJ
   .have bJ:¬ k<f.blocks.length:=tn h
    have hl:=mY oG;subst hl;refine bA (mq f.blocks C,N) (a6 eH eH) ⟨Db,hN,λhc=>?_,λhc=>?_⟩ ?_
    .refine⟨fu,?_,?_⟩
     .have:=Hl.2;unfold qL at this;show sZ (mq f.blocks C)<fu;rw[bi hc] at this;omega
     .dsimp only at hc ⊢;rw[<- Hk,pg,bi hc]
    .dsimp only at hc ⊢;rw[<- Hk,pg,ai (by simp[hc])]
    .have:=Hl.2;unfold qL at this;dsimp only;rw[bi h0];split at this<;>rename_i hc
     .rw[bi hc];omega
     .rw[ai hc];omega
  .have S2:=HP h;subst S2;exact⟨N0,a6 eH eH⟩
 .rintro s ⟨N4,hg⟩;refine⟨_,hg,aF ?_⟩;refine af ?_;refine ab (bF (cE [(1,dZ (gn f.ag.length n f.blocks.length RR),99)] eH (l:=[(2,.sl (dZ (gn f.ag.length n f.blocks.length RR)) f.blocks.length)]) ⟨?_,aa⟩) (aD rfl rfl));show sub (cZ 1 _ (prog.cellsOf 99)) (D.rs 1 0 f.blocks.length)=_;rw[Bf (by rw[oe,DT,zs])]
@[simp] theorem UF (p : Bool × D) : (rz p).length = 2 := rfl
theorem TR{f:aO}(h:ou f=true):∀ b∈f.blocks,jJ f b.fin=true:=fun b hb=>by
 unfold ou at h;simp only[aH] at h;let⟨_,_,_,C,_⟩:=h;let⟨k,hk⟩:=dW hb;have:=cm.1 C k (by simpa using(bO.1 hk).1);unfold lU at this;simp only[getD_some hk,aH] at this;exact this.1
def rN{f:aO}(hs:Et f)(hw:∀ b∈f.blocks,b.fin.aA.length<=10):aE prog 17 [.agg (aG f)] (I (fL f)):=by
 rw[<- afw];have FU:=FU hs hw;have Me:PJ f=if xN f=true then(if(range f.blocks.length).all (sC f (jU f.blocks f.args.toNat))=true then 0 else 81) else 80:=rfl
 refine bN (fo f17) (.cons (.agg (jG f)) .nil) (Tr.s _) ?_;rw[Me];clear Me;refine aF (af ?_);refine ab (bF (cE [(0,aG f,26)] eH (l:=[(1,.pt (aG f))]) eH) (aj ?_));cases hf:xN f with
 |false=>
  rw[hf] at FU;refine az ?_;refine ab (aM (aj (af ?_)));refine ab (BU ?_);refine aM (aj (SS ?_));exact ab (dX (aD rfl rfl))
 |true=>
 rw[hf] at FU;rw[bi rfl];rw[Ui] at hf;have he:=TR hf;have J:=Qq hf;have FW:=FW J hw;have hR:=J.ok.ag;have hS:=J.sl;have hN1:=J.ok.lim;have sY:=sY (f:=f) rfl oG hw (λb hb t ht=>by rw[(J.ed b hb).2] at ht;exact(J.ok.blk b hb).to t ht)
 have zc:∀ k,k<f.blocks.length->(nF f.blocks)[k]? =some (cA f.blocks f.blocks.length k):=λk hk=>by
  rw[<- NP he];simp[nF,hk]
 have A1:(nF f.blocks).length=f.blocks.length:=by simp[nF]
 generalize nF f.blocks=L at sY zc A1
 have hCD:G7 f (jU f.blocks f.args.toNat)=.sl ((gn f.ag.length (f.ag.length+f.aU.length) f.blocks.length (jU f.blocks f.args.toNat)).flatMap rz) (gn f.ag.length (f.ag.length+f.aU.length) f.blocks.length (jU f.blocks f.args.toNat)).length:=by
  rw[G7,zs];rfl
 rw[hCD] at FW;clear hCD;generalize jU f.blocks f.args.toNat=RR at FW ⊢;have Tj:∀ k,k<f.blocks.length->(gn f.ag.length (f.ag.length+f.aU.length) f.blocks.length RR)[k]? =some (HZ (c8 f.ag.length (f.ag.length+f.aU.length) RR k)):=λk hk=>Dm hk;have hCl:=zs f.ag.length (f.ag.length+f.aU.length) f.blocks.length RR;generalize gn f.ag.length (f.ag.length+f.aU.length) f.blocks.length RR=CP at FW Tj hCl;refine az ?_;refine ab (aM (aj (af ?_)));refine ab (BT (dn (aj ?_)));refine az ?_;refine er (az ?_);refine ab (aM (aF (SS ?_)))
 refine ab (cJ (λs=>(∃ N,aL prog s ⟨ay [],λ_=>none,N⟩)/\(range f.blocks.length).all (sC f RR)=true) (dS (α:=Nat×Nat) (λq=>⟨ay [(1,.pt (aG f)),(4,.sl (CP.flatMap rz) CP.length),(5,cr L),(6,I q.1)],λ_=>none,q.2⟩)
  (λq=>q.1<=f.blocks.length/\(range q.1).all (sC f RR)=true) (λq=>f.blocks.length - q.1) (0,1) (jq eH) ⟨Nat.zero_le _,rfl⟩ ?_) ?_)
 .rintro⟨k,N⟩ ⟨hk,cb⟩;dsimp only at hk cb ⊢;refine bG ?_;refine ab ⟨_,rfl,λh=>?_,λh=>?_⟩
  .have al:k<f.blocks.length:=tn h
   have hx:f.blocks[k]? =some f.blocks[k]:=aV al;have eF:f.blocks[k]∈f.blocks:=dG _;have FX:=Tj k al;have nV:sC f RR k=false->(if(range f.blocks.length).all (sC f RR)=true then(0:Int) else 81)=81:=λhq=>by rw[qN al hq];rfl
   have A9:sC f RR k=((c8 f.ag.length (f.ag.length+f.aU.length) RR k).any||((range f.blocks[k].ins.length).all (Cj f RR k f.blocks[k].ins (c8 f.ag.length (f.ag.length+f.aU.length) RR k))&&tT (gp f.ag.length f.blocks[k].ins (c8 f.ag.length (f.ag.length+f.aU.length) RR k)) (dB f.blocks[k].fin))):=by
    unfold sC;simp only[getD_some hx]
   have dh:(c8 f.ag.length (f.ag.length+f.aU.length) RR k).is.length=f.ag.length+f.aU.length:=Nv;generalize f.blocks[k]=x at hx eF A9;generalize c8 f.ag.length (f.ag.length+f.aU.length) RR k=c at FX A9 dh;let⟨ca,C⟩:=c;refine aM (aj ?_);cases ca with
   |true=>
    refine bG ?_;refine ab (cG rfl (λh=>tU (D3 ?_)) λh=>oH);refine az ?_;exact ab (bA (k+1,N) (jq eH) ⟨oM,nq cb A9⟩ oM)
   |false=>
   refine bG ?_;refine ab (cG rfl (λh=>oH) λh=>dn (aF ?_));rw[show({ any:=false,is:=C }:Cert).any=false from rfl,Bool.false_or] at A9;refine cB ?_;refine ab (bF (a6 (l:=[(1,.pt (aG f)),(4,.sl (CP.flatMap rz) CP.length),(5,cr L),(6,I k),(7,.rp N 0)]) (ml:=[(N,.cells (dc ⟨false,C⟩) 99)]) eH ⟨ap _ _ _,aa⟩) (aj ?_));refine eD ?_;have gS:=(J.ok.blk x eF).len;have ap':=J.ins x eF;have Cd:=J.AZ k x hx;have hAg:=zc k al;have aqa:=Ja (λb hb t ht=>((J.ok.blk b hb).to t ht).1) f.blocks.length k;have anm:=J.ok.blk;have O:∀ y q,sD f RR k y q=sD f RR k y q:=λ_ _=>rfl;refine ab (aM (aF (SS ?_)))
   refine ab (cJ (λs=>∃ N',aL prog s ⟨ay [(1,.pt (aG f)),(4,.sl (CP.flatMap rz) CP.length),(5,cr L),(6,I k),(7,.rp N 0)],b8 [(N,.cells (dc (gp f.ag.length x.ins ⟨false,C⟩)) 99)],N'⟩/\N<N'/\(range x.ins.length).all (Cj f RR k x.ins ⟨false,C⟩)=true) (dS (α:=Nat×Nat) (λj=>⟨ay [(1,.pt (aG f)),(4,.sl (CP.flatMap rz) CP.length),(5,cr L),(6,I k),(7,.rp N 0),(8,eV x.ins),(9,I j.1)],b8 [(N,.cells (dc (gp f.ag.length (x.ins.take j.1) ⟨false,C⟩)) 99)],j.2⟩)
    (λj=>j.1<=x.ins.length/\N<j.2/\(range j.1).all (Cj f RR k x.ins ⟨false,C⟩)=true) (λj=>x.ins.length - j.1) (0,N+1) (a6 eH ⟨ap _ _ _,aa⟩) ⟨Nat.zero_le _,Nat.lt_succ_self _,rfl⟩ ?_) ?_)
   .rintro⟨j,M⟩ ⟨hj,hM,xm⟩;dsimp only at hj hM xm ⊢;have bL:∀ y,x.ins[j]? =some y->gp f.ag.length (x.ins.take (j+1)) ⟨false,C⟩=yv f.ag.length (gp f.ag.length (x.ins.take j) ⟨false,C⟩) y:=λy hy=>s7 hy;have mY:j=x.ins.length->gp f.ag.length (x.ins.take j) ⟨false,C⟩=gp f.ag.length x.ins ⟨false,C⟩:=λe=>by rw[e,take_length]
    have A7:=(Gl f.ag.length (x.ins.take j) ⟨false,C⟩).trans dh;have cw:Cj f RR k x.ins ⟨false,C⟩ j=(opsV f.ag.length (gp f.ag.length (x.ins.take j) ⟨false,C⟩) (x.ins.getD j fM)&&EX f RR k (x.ins.getD j fM)):=rfl;generalize gp f.ag.length (x.ins.take j) ⟨false,C⟩=d at bL mY A7 cw;refine aX ?_;refine ab ⟨_,rfl,λh=>?_,λh=>?_⟩
    .have dx:j<x.ins.length:=tn h
     have hy:x.ins[j]? =some x.ins[j]:=aV dx;have bL:=bL _ hy;rw[getD_some hy] at cw;have Dc:=ap' _ (dG dx);have vt:=Cd j _ hy;have ur:Cj f RR k x.ins ⟨false,C⟩ j=false->(if(range f.blocks.length).all (sC f RR)=true then(0:Int) else 81)=81:=λhq=>nV (by rw[A9,qN dx hq];rfl);generalize x.ins[j]=y at hy bL cw Dc vt;refine aF (cB ?_);refine ab (bF (pf (i:=M) (l:=[(1,.pt (aG f)),(4,.sl (CP.flatMap rz) CP.length),(5,cr L),(6,I k),(7,.rp N 0),(8,eV x.ins),(9,I j),(10,.pt (aI y))]) (ml:=[(N,.cells (dc d) 99)]) s3 ⟨rfl,rfl,rfl,rfl,gk oG,rfl,rfl,mC,aa⟩ ⟨DI oG (aq oG (aq oG s3)) rfl,aa⟩) (cI (λs=>aL prog s ⟨ay [(1,.pt (aG f)),(4,.sl (CP.flatMap rz) CP.length),(5,cr L),(6,I k),(7,.rp N 0),(8,eV x.ins),(9,I j),(10,.pt (aI y))],b8 [(N,.cells (dc d) 99)],M+1⟩/\opsV f.ag.length d y=true) ?_ ?_))
     .have c6:=(anm x eF).ins y (cL hy);clear bL vt;let⟨U,yt,ya,yb,yn,yl⟩:=y;have fO:opsV f.ag.length d ⟨U,yt,ya,yb,yn,yl⟩=((U !=17||d.is.getD ((f.ag.length:Int)+yn).toNat false)&&tT d (cN ⟨U,yt,ya,yb,yn,yl⟩)):=rfl;have rO:=rO (x:=⟨U,yt,ya,yb,yn,yl⟩) (λho=>by have:=c6.ar ho;dsimp only at this ⊢;omega)
      have vu:=vu (c:=d) (rs:=cN ⟨U,yt,ya,yb,yn,yl⟩) (λr hr=>by
       let⟨i,h1,h2⟩:=Dc.2.r r hr
       exact⟨i,oG,h2⟩)
      generalize tT d (cN ⟨U,yt,ya,yb,yn,yl⟩)=v at vu fO;generalize cN ⟨U,yt,ya,yb,yn,yl⟩=rs at vu rO;have HD:opsV f.ag.length d ⟨U,yt,ya,yb,yn,yl⟩=false->I 81=I (if(range f.blocks.length).all (sC f RR)=true then 0 else 81):=λhq=>by rw[ur (by rw[cw,hq];rfl)]
      apply eJ (ij [(17,19)]);by_cases gj:U=17
      .let⟨i,hi,e⟩:=Dc.2.s gj;dsimp only at e;subst e;have SK:d.is[f.ag.length+i]? =some d.is[f.ag.length+i]:=aV oG;have kQ:(U==17)=true:=by simp[gj]
       rw[show((f.ag.length:Int)+(i:Int)).toNat=f.ag.length+i by omega,getD_some SK,show(U !=17)=false by simp[gj],Bool.false_or] at fO;generalize d.is[f.ag.length+i]=b at SK fO;have hqn:({ op:=U,to:=yt,a:=ya,b:=yb,n:=(i:Int),args:=yl }:Ins).n=(i:Int):=rfl;refine bg ?_;refine af ?_;refine cq rfl rfl (Yw rfl rfl oG) (λhc=>⟨ak,rfl⟩) (bG ?_);refine cq rfl rfl (dL rfl s3 V.h V.h rfl) (λhc=>⟨ak,(dN V.h V.h da)⟩) (bG ?_);refine bU bX (au rfl (λhp=>aj ?_) λhp=>bd ⟨a6 eH ⟨ap _ _ _,aa⟩,by rw[fO];revert hp;cases b<;>cases v<;>simp⟩);refine SS ?_;exact ab (bD (bc (dd (bc (dd (bc (aD rfl (HD (by rw[fO];revert hp;cases b<;>cases v<;>simp)))))))))
      .have kQ:(U==17)=false:=by simp[gj]
       rw[show(U !=17)=true by simp[gj],Bool.true_or,Bool.true_and] at fO;refine aX ?_;(iterate 11 refine z λ_ _=>?_);refine af ?_;refine cq rfl rfl (dL rfl s3 V.h V.h rfl) (λhc=>⟨ak,(dN V.h V.h da)⟩) (bG ?_);refine bU bX (au rfl (λhp=>aj ?_) λhp=>bd ⟨a6 eH ⟨ap _ _ _,aa⟩,by rw[fO];revert hp;cases v<;>simp⟩);refine SS ?_;exact ab (bD (bc (dd (bc (dd (bc (aD rfl (HD (by rw[fO];revert hp;cases v<;>simp)))))))))
     rintro s ⟨hg,aaH⟩;rw[aaH,Bool.true_and] at cw;clear aaH;have pM:=pM (x:=y)
     have hp:HX d.is.length (dt y):=by
      rcases Dc.1.w with e|⟨i,h1,h2⟩
      .exact .inl e
      .exact .inr ⟨i,oG,h2⟩
     have kw:=mo (c:=d) oG hp;have xc:=(Jr d (dt y)).trans A7
     have kv:y.op=18->aE prog 67 [.agg (dc (lB d (dt y))),I ((f.ag.length:Int)+y.n)] (.agg (dc (lB (lB d (dt y)) ((f.ag.length:Int)+y.n)))):=λe=>mo oG (by
      let⟨i,h1,h2⟩:=Dc.1.s e
      exact .inr ⟨f.ag.length+i,oG,by rw[h2];omega⟩)
     have kE:y.op=18->0<=y.n/\y.n<=2000:=λe=>by
      let⟨i,h1,h2⟩:=Dc.1.s e;omega
     have uw:=bL;unfold yv at uw;generalize lB d (dt y)=d1 at kw xc kv uw;generalize dt y=w at pM kw;have mo:=kw;refine⟨_,hg,xx (ij [(0,2)]) ?_⟩;clear hg;refine bG ?_;refine bU bX (bF (a6 (l:=[(1,.pt (aG f)),(4,.sl (CP.flatMap rz) CP.length),(5,cr L),(6,I k),(7,.rp N 0),(8,eV x.ins),(9,I j),(10,.pt (aI y))]) (ml:=[(N,.cells (dc d1) 99)]) eH ⟨ap _ _ _,aa⟩) (cI (λs=>aL prog s ⟨ay [(1,.pt (aG f)),(4,.sl (CP.flatMap rz) CP.length),(5,cr L),(6,I k),(7,.rp N 0),(8,eV x.ins),(9,I j),(10,.pt (aI y))],b8 [(N,.cells (dc (gp f.ag.length (x.ins.take (j+1)) ⟨false,C⟩)) 99)],M+1⟩) (aj ?_) ?_))
     .refine az ?_;refine ab (au rfl (λej=>eI ?_) λej=>bd ?_)
      .have ej:y.op=18:=tn ej
       rw[bi ej] at uw;have mo:=kv ej;have rI:=kE ej;refine bg ?_;refine ab (a6 eH ⟨?_,aa⟩);rw[uw];exact ap _ _ _
      .have ej:¬ y.op=18:=tn ej
       rw[ai ej] at uw;refine a6 eH ⟨?_,aa⟩;rw[uw];exact ap _ _ _
     intro s hg;refine⟨_,hg,aF ?_⟩;clear hg uw kw kv xc mo pM hp kE bL;refine SS ?_;generalize CJ:gp f.ag.length (x.ins.take (j+1)) ⟨false,C⟩=dj
     refine ab (dS (α:=Nat×Nat) (λq=>⟨ay [(1,.pt (aG f)),(4,.sl (CP.flatMap rz) CP.length),(5,cr L),(6,I k),(7,.rp N 0),(8,eV x.ins),(9,I j),(10,.pt (aI y)),(11,I q.1)],b8 [(N,.cells (dc dj) 99)],q.2⟩)
      (λq=>q.1<=y.args.length/\N<q.2/\(q.1=0\/y.op=19)/\(range q.1).all (sD f RR k y)=true) (λq=>y.args.length - q.1) (0,M+1) (a6 eH ⟨ap _ _ _,aa⟩) ⟨Nat.zero_le _,oM,.inl rfl,rfl⟩ ?_)
     rintro⟨q,M2⟩ ⟨hq,A0,aqb,IW⟩;dsimp only at hq A0 aqb IW ⊢;by_cases dm:y.op=19
     .have kQ:(y.op==19)=true:=by simp[dm]
      have hpy:cP y=true:=by simp[cP,dm]
      have vt:=(vt hpy).1;have FY:EX f RR k y=(range y.args.length).all (sD f RR k y):=by rw[EX,hpy];rfl
      have vq:∀ p∈cA f.blocks f.blocks.length k,∃ X:Nat,p=X/\X<f.blocks.length:=λp hp=>by
       let⟨b,h1,h2,_⟩:=Gb.1 hp;exact⟨b,h1,h2⟩
      have O:∀ q,sD f RR k y q=((c8 f.ag.length (f.ag.length+f.aU.length) RR ((cA f.blocks f.blocks.length k).getD q 0).toNat).any||(pz (f.blocks.getD ((cA f.blocks f.blocks.length k).getD q 0).toNat jx).fin k (gp f.ag.length (f.blocks.getD ((cA f.blocks f.blocks.length k).getD q 0).toNat jx).ins (c8 f.ag.length (f.ag.length+f.aU.length) RR ((cA f.blocks f.blocks.length k).getD q 0).toNat))).is.getD (y.args.getD q 0).toNat false):=λq=>rfl;have aqc:=Dc.2.p dm;have IC:=Gc hw f.blocks.length k;generalize cA f.blocks f.blocks.length k=A at vt vq O hAg IC;by_cases FV:q<y.args.length
      .have yD:decide ((q:Int)<(y.args.length:Int))=true:=decide_eq_true oG;refine cF ?_;refine cq rfl rfl (PE rfl rfl yD) (λhc=>⟨ak,rfl⟩) (SS ?_);refine ab ⟨_,rfl,λh=>?_,λh=>oH⟩;have O:=O q;have hA1:A[q]? =some A[q]:=aV oG;let⟨X,e1,IG⟩:=vq _ (dG (h:=by omega):A[q]∈A);rw[e1] at hA1;clear e1;rw[getD_some hA1,eC] at O;have Da:=Tj X IG;have RQ:(c8 f.ag.length (f.ag.length+f.aU.length) RR X).is.length=f.ag.length+f.aU.length:=Nv;generalize c8 f.ag.length (f.ag.length+f.aU.length) RR X=cp at Da O RQ;let⟨pa,pi⟩:=cp;refine ws (cF ?_);refine ab (aM (aj ?_));cases pa with
       |true=>
        refine bG ?_;refine ab (cG rfl (λh=>tU (D3 ?_)) λh=>oH);refine az ?_;exact ab (bA (q+1,M2) (a6 eH ⟨ap _ _ _,aa⟩) ⟨oM,A0,.inr dm,nq IW O⟩ oM)
       |false=>
       refine bG ?_;refine ab (cG rfl (λh=>oH) λh=>dn (xx (ij [(0,9)]) ?_));have xh:f.blocks[X]? =some f.blocks[X]:=aV IG;have sL:f.blocks[X]∈f.blocks:=dG _;rw[getD_some xh] at O;generalize f.blocks[X]=xp at xh sL O;have zn:=zn (c:=⟨false,pi⟩) xh RQ oG (λy hy=>(J.ins xp sL y hy).1) (by have:=(J.ok.blk xp sL).len;omega);have jn:=(Gl f.ag.length xp.ins ⟨false,pi⟩).trans RQ;generalize gp f.ag.length xp.ins ⟨false,pi⟩=pc at zn O jn
       have A8:=A8 (c:=pc) (to:=(k:Int)) xh (by have:=hw xp sL;omega) oG (by
        rcases J.wr xp sL with e|⟨r,h1,h2⟩
        .exact .inl e
        .exact .inr ⟨r,oG,h2⟩)
       have CD:=(U0 xp.fin k pc).trans jn;generalize pz xp.fin k pc=zQ at A8 O CD;have pN:y.args[q]? =some y.args[q]:=aV FV;let⟨ri,FE,e2⟩:=aqc _ (dG FV);rw[e2] at pN;clear e2;have Ig:zQ.is[ri]? =some zQ.is[ri]:=aV oG;rw[getD_some pN,eC,getD_some Ig] at O;generalize zQ.is[ri]=bz at Ig O;have O:sD f RR k y q=bz:=O;refine bg ?_;refine aX ?_;refine bU bX (bF (pf (i:=M2) (l:=[(1,.pt (aG f)),(4,.sl (CP.flatMap rz) CP.length),(5,cr L),(6,I k),(7,.rp N 0),(8,eV x.ins),(9,I j),(10,.pt (aI y)),(11,I q),(13,.pt (dc zQ))]) (ml:=[(N,.cells (dc dj) 99)]) s3 ⟨rfl,rfl,rfl,rfl,gk oG,rfl,rfl,rfl,rfl,mC,aa⟩ ⟨DI oG (aq oG (aq oG s3)) rfl,aa⟩) (eJ iB ?_));refine cF ?_;refine af ?_;refine bU bX (au rfl (λhp=>aj ?_) λhp=>eQ ?_)
       .have Tk:bz=false:=tn hp
        refine SS ?_;refine ab (bD (dd (dd (bc (dd (bc (aD (d:=I 81) rfl ?_)))))));rw[ur (by rw[cw,FY,qN FV (by rw[O,Tk])])]
       .have Tk:bz=true:=tn hp
        refine az ?_;exact ab (bA (q+1,M2+1) (a6 eH ⟨ap _ _ _,aa⟩) ⟨oM,oM,.inr dm,nq IW (by rw[O,Tk])⟩ oM)
      .have yD:decide ((q:Int)<(y.args.length:Int))=false:=decide_eq_false oG;have:q=y.args.length:=by omega
       subst this;rw[<- FY] at IW;refine cF ?_;refine cq rfl rfl (PE rfl rfl yD) (λhc=>⟨ak,rfl⟩) (SS ?_);refine ab ⟨_,rfl,λh=>oH,λh=>?_⟩;show aJ _ _ _ _ _ _ _ _ _;refine az ?_;refine ab (bA (j+1,M2) (a6 eH ⟨?_,aa⟩) ⟨oM,A0,nq xm (by rw[cw,IW])⟩ oM);dsimp only;rw[CJ];exact ap _ _ _
     .have kQ:(y.op==19)=false:=by simp[dm]
      have FY:EX f RR k y=true:=by unfold EX cP;simp[dm]
      refine aX ?_;(iterate 5 refine z λ_ _=>?_);refine SS ?_;refine ab ⟨_,rfl,λh=>oH,λh=>?_⟩;show aJ _ _ _ _ _ _ _ _ _;refine az ?_;refine ab (bA (j+1,M2) (a6 eH ⟨?_,aa⟩) ⟨oM,A0,nq xm (by rw[cw,FY])⟩ oM);dsimp only;rw[CJ];exact ap _ _ _
    .have bJ:¬ j<x.ins.length:=tn h
     have:j=x.ins.length:=by omega
     subst this;rw[<- mY rfl];exact⟨M,a6 eH ⟨ap _ _ _,aa⟩,hM,xm⟩
   .rintro s ⟨M,hg,hM,o9⟩;rw[o9,Bool.true_and] at A9;have A7:=(Gl f.ag.length x.ins ⟨false,C⟩).trans dh;refine⟨_,hg,eJ (ij [(0,7)]) ?_⟩;generalize gp f.ag.length x.ins ⟨false,C⟩=d at A9 A7;have MF:=MF (x:=x.fin) (λh5 ho=>by have:=(J.ok.apA x eF h5).ar ho;omega) (λh1=>by have:=(J.ok.ends x eF).fin.a2 (by rcases h1 with e|e<;>simp[aC,e]);omega)
    have vu:=vu (c:=d) (rs:=dB x.fin) (λr hr=>by
     let⟨i,h1,h2⟩:=J.rd x eF r hr
     exact⟨i,oG,h2⟩)
    rw[<- A9] at vu;generalize dB x.fin=rs at MF vu;refine bg ?_;refine SS ?_;refine bU bX (au rfl (λhp=>?_) λhp=>eQ ?_)
    .refine ws (SS ?_);refine ab (bD (dd (bc (aD (d:=I 81) rfl ?_))));rw[nV (tn hp)]
    .refine az ?_;exact ab (bA (k+1,M) (jq eH) ⟨oM,nq cb (tn hp)⟩ oM)
  .have bJ:¬ k<f.blocks.length:=tn h
   have:k=f.blocks.length:=by omega
   subst this;exact⟨⟨N,jq (l:=[]) aa⟩,cb⟩
 .rintro s ⟨⟨N,hg⟩,cb⟩;refine⟨_,hg,aj ?_⟩;refine SS ?_;refine ab (aD (d:=I 0) rfl ?_);rw[cb];rfl
def k3{f:aO}(hs:Et f):aE prog 3 [.agg (aG f)] (B true):=by
 have C:∀ a∈[D.agg (aG f)],Tr a:=.cons (.agg (jG f)) .nil;refine bN (fo f3) C (Tr.s _) ?_;have AY:=AY;have wX:=wX (f:=f);refine aF (af ?_);refine ab (bF (cE [(0,aG f,26)] eH (l:=[(1,.pt (aG f))]) eH) (aM (aj ?_)));cases hb:nK f with
 |false=>
  rw[hb] at wX;refine az ?_;refine ab (BU (aM (aj ?_)));refine af ?_;exact ab (dX (aD rfl rfl))
 |true=>
  rw[hb] at wX;have rM:=rM (f:=f);have rN:=rN hs (VM hb);generalize fL f=c at rM rN;refine az ?_;refine ab (BT (dn (eJ (ij [(3,4)]) ?_)));refine af ?_;refine cq rfl rfl (nC (vs:=aG _) rfl V.h V.h rfl) (λhc=>⟨ak,(nD V.h V.h oS)⟩) (gc rM ?_);refine cq rfl rfl (nC (vs:=aG _) rfl V.h V.h rfl) (λhc=>⟨ak,(nD V.h V.h oS)⟩) (af ?_);rw[show(c==c)=true from beq_self_eq_true _];refine af ?_;exact bU bX (aD rfl rfl)
def ig(i:Nat)(cs:List D)(sz:Nat)(m:Mem):Mem:=λj=>if j=i then none else(m j).map (Row.sub (cZ i cs sz))
def pR{P:Program}{env:Env}{m:Mem}{nx i:Nat}{cs:List D}{e:TypeId}{l:List (Nat×D)}(hm:m i=some (.cells cs e))(hl:p8 l λt=>sub (cZ i cs (P.cellsOf e)) (env t)):aL P ⟨env,m,nx⟩ ⟨ay l,ig i cs (P.cellsOf e) m,nx⟩:=
 (aL.freeze env m nx i cs e hm).trans (ao hl)
def kx{i j sz:Nat}{cs:List D}{m:Mem}{r:Row}(h:m j=some r)(hj:j≠i)(hr:nL (λk=>k=i) r):ig i cs sz m j=some r:=by
 rw[ig,ai hj,h];exact congrArg some (hr i cs sz rfl)
def z7{A C:List D}{p q j:Nat}{xs r:List D}{v:D}(J:A.length=p)(h:(xs++C).drop j=v::r)(hq:q=p+j:=by omega):(A++(xs++C)).drop q=v::r:=by
 subst hq J;rw[drop_append,drop_eq_nil_of_le oG,nil_append,show A.length+j - A.length=j by omega];exact h
def PH{A C:List D}{p q j n:Nat}{xs r:List D}(J:A.length=p)(h:((xs++C).drop j).take n=r)(hq:q=p+j:=by omega):((A++(xs++C)).drop q).take n=r:=by
 subst hq J;rw[drop_append,drop_eq_nil_of_le oG,nil_append,show A.length+j - A.length=j by omega];exact h
def B'{A C:List D}{p q j:Nat}{xs ys:List D}{v:D}(J:A.length=p)(h:(xs++C).set j v=ys++C)(hq:q=p+j:=by omega):(A++(xs++C)).set q v=A++(ys++C):=by
 subst hq J;rw[set_append,ai oG,show A.length+j - A.length=j by omega,h]
def WR{A C:List D}{p q j:Nat}{xs ys vs:List D}(J:A.length=p)(hv:vs.length≠1)(h:(xs++C).take j++vs++(xs++C).drop (j+vs.length)=ys++C)(hq:q=p+j:=by omega):fJ (A++(xs++C)) q vs=A++(ys++C):=by
 subst hq J
 have e:∀ (cs:List D) (off:Nat),fJ cs off vs=cs.take off++vs++cs.drop (off+vs.length):=λcs off=>by
  unfold fJ;split
  .simp at hv
  .rfl
 rw[e, <- h,List.take_append,cW oG,drop_append,drop_eq_nil_of_le oG,show A.length+j - A.length=j by omega,show A.length+j+vs.length - A.length=j+vs.length by omega];simp
def putAt(to l C:List Int)(k:Nat):List Int:=(range k).foldl (λC i=>C.set (to.getD i 0).toNat (l.getD i 0)) C
def I9(to l C:List Int)(k:Nat):putAt to l C (k+1)=(putAt to l C k).set (to.getD k 0).toNat (l.getD k 0):=by
 rw[putAt,range_succ,foldl_append];rfl
def vD(to l C:List Int):∀ k,(putAt to l C k).length=C.length
 |0=>rfl
 |k+1=>by rw[I9,length_set,vD to l C k]
def PI(to:List Int)(x:End):End:={ x with a:=if aC [2,8,9,7] x.kind then bf to x.a else if aC [3,6] x.kind&&decide (0<=x.a) then bf to x.a else x.a,ins:=if x.kind=5 then jY to x.ins else x.ins,b:=if x.kind=8 then bf to x.b else x.b,args:=x.args.map (bf to) }
def qo(to:List Int)(x:End):End:={ x with a:=if aC [2,8,9,7] x.kind then bf to x.a else if aC [3,6] x.kind&&decide (0<=x.a) then bf to x.a else x.a,ins:=if x.kind=5 then jY to x.ins else x.ins }
def ajf{to:List Int}{x:End}(h:aC [2,8,9,7] x.kind=true):qo to x={ x with a:=bf to x.a }:=by
 have:¬ x.kind=5:=λe=>by rw[e] at h;simp[aC] at h
 rw[qo,bi h,ai this]
def ajg{to:List Int}{x:End}(h:aC [2,8,9,7] x.kind=false)(h2:aC [3,6] x.kind=true):qo to x={ x with a:=if 0<=x.a then bf to x.a else x.a }:=by
 have:¬ x.kind=5:=λe=>by rw[e] at h2;simp[aC] at h2
 rw[qo,h,h2,ai this];simp
def ajh{to:List Int}{x:End}(h:aC [2,8,9,7] x.kind=false)(h2:aC [3,6] x.kind=false):qo to x={ x with ins:=if x.kind=5 then jY to x.ins else x.ins }:=by
 rw[qo,h,h2];simp
def Jo{X:Nat->Prop}(x:Ins):∀ d∈aI x,jw X d:=λd hd=>by
 simp[aI,mem_cons,not_mem_nil,or_false] at hd;rcases hd with rfl|rfl|rfl|rfl|rfl|rfl<;>first|exact .s _|exact .sl _ _
def Gi{X:Nat->Prop}(x:End):∀ d∈aR x,jw X d:=λd hd=>by
 simp[aR,mem_cons,not_mem_nil,or_false] at hd;rcases hd with rfl|rfl|rfl|rfl|rfl|rfl|rfl|rfl|rfl|rfl|rfl|rfl|rfl|rfl|rfl<;>first|exact .s _|exact .sl _ _
def I7{X:Nat->Prop}(b:bH):∀ d∈bq b,jw X d:=λd hd=>by
 rcases mem_cons.1 hd with rfl|hd
 .exact .sl _ _
 .exact Gi _ d hd
def mQ(to:List Int)(b:bH):bH:=⟨b.ins.map (jY to),PI to b.fin⟩
def Ar(f:aO)(to:List Int):aO:={ f with ag:=putAt to f.ag f.ag f.ag.length,blocks:=f.blocks.map (mQ to) }
structure X4(n:Nat)(x:End):Prop where
 a:aC [2,8,9,7] x.kind=true->0<=x.a/\x.a<n
 a2:aC [3,6] x.kind=true->0<=x.a->x.a<n
 b:x.kind=8->0<=x.b/\x.b<n
 ins:x.kind=5->Hg n x.ins
 args:∀ r∈x.args,0<=r/\r<n
 len:x.args.length<=100000
structure WS(f:aO)(n:Nat):Prop where
 l1:f.ag.length<=100000
 l2:f.aU.length<=100000
 l3:f.signals.length<=100000
 l4:f.blocks.length<=100000
 l5:∀ b∈f.blocks,uE b
 ins:∀ b∈f.blocks,∀ x∈b.ins,Hg n x
 ends:∀ b∈f.blocks,X4 n b.fin
def qq(f:aO)(to:List Int):Int:=if fL f=0 then(if lX to f.ag.length f.args then 0 else 1) else fL f
structure RR(M:Mem)(i j g:Nat)(f:aO)(rs:List D)(bs:List D):Prop where
 r2:M 2=some (.cells ef 26)
 rg:M g=some (.cells (su f i j) 26)
 ri:M i=some (.cells rs 5)
 rj:M j=some (.cells bs 69)
def RR.upI{M:Mem}{i j g:Nat}{f:aO}{rs C bs:List D}(h:RR M i j g f rs bs)(h1:2<i)(h2:i<j)(J:j<g):RR (up M i (some (.cells C 5))) i j g f C bs:=
 ⟨aq oG h.r2,aq oG h.rg,ap _ _ _,aq oG h.rj⟩
def RR.FD{M:Mem}{i j g:Nat}{f:aO}{rs C bs:List D}(h:RR M i j g f rs bs)(h1:2<i)(h2:i<j)(J:j<g):RR (up M j (some (.cells C 69))) i j g f rs C:=
 ⟨aq oG h.r2,aq oG h.rg,aq oG h.ri,ap _ _ _⟩
def SE{f:aO}{to:List Int}(eE:to.length<=100000)(hf:fL f=0->WS f f.ag.length)(AS:f.ag.length<=100000\/fL f≠0):aE prog 50 [.agg (aG f),av to] (.bu [.agg (if qq f to=0 then aG (Ar f to) else ef),I (qq f to)]):=by
 have rM:=rM (f:=f)
 have bB:∀ a∈(if qq f to=0 then aG (Ar f to) else ef),Tr a:=by
  split
  .exact jG _
  .exact .cons (.s _) (.cons (.s _) (.cons (.s _) (.cons (.s _) (.cons .z (.cons .z (.cons .z (.cons .z .nil)))))))
 refine bN (fo f50) (.cons (.agg (jG _)) (.cons (cR _) .nil)) (.bu (.cons (.agg bB) fl)) ?_;clear bB;refine aF (aX ?_);refine ab ⟨_,(pf (i:=0) (cs:=aG f) (e:=26) rfl (l:=[(2,.pt (aG f)),(3,.rp 1 0),(4,.rp 2 0),(5,I 0)]) eH (ml:=[(1,.cells [av to] 35),(2,.cells ef 26)]) eH).trans (pf (i:=1) (cs:=[av to]) (e:=35) rfl (l:=[(2,.pt (aG f)),(3,.pt [av to]),(4,.rp 2 0),(5,I 0)]) eH (ml:=[(2,.cells ef 26)]) eH),aM (aj ?_)⟩;refine az ?_;refine ab (aM (aj (af ?_)));by_cases hc:fL f=0
 case neg=>
  have e:qq f to=fL f:=ai hc;rw[e,ai hc];generalize fL f=c at*
  refine ab (cG rfl (λ_=>aM (aj ?_)) λh=>absurd (tn h) hc);refine aX ?_;exact ab (dX (rX (fT (cs:=ef) (vs:=ef) rfl rfl a26 iS rfl t26 (aP rfl)) rfl rfl))
 have X:=hf hc;have e:qq f to=if lX to f.ag.length f.args then 0 else 1:=bi hc
 rw[hc];rw[hc] at rM;refine ab (cG rfl (λh=>by simp at h) λ_=>dn (aM (aj ?_)));have Aq:=Aq (to:=to) (N:=f.ag.length) (fixed:=f.args) X.l1 eE;refine cF ?_;cases hp:lX to f.ag.length f.args with
 |false=>
  rw[hp] at e;rw[e];refine ab (cG rfl (λ_=>aM (aj ?_)) λh=>by simp at h);refine az ?_;exact ab (dX (rX (fT (cs:=ef) (vs:=ef) rfl rfl a26 iS rfl t26 (aP rfl)) rfl rfl))
 |true=>
 rw[hp] at e;rw[e,bi rfl,bi rfl];refine ab (cG rfl (λh=>by simp at h) λ_=>dn ?_)
 have hlen:to.length=f.ag.length:=by
  rw[lX,aH] at hp;have:=hp.2;simp at this;omega
 have nZ:∀ k,k<to.length->∃ v:Nat,v<to.length/\to[k]? =some (v:Int):=λk hk=>by
  rw[lX,aH,cm] at hp;have:=hp.1 k (mem_range.2 hk);rw[px,aH,tu (aV hk),jF] at this;let⟨v,hv⟩:=fc this.1.1;exact⟨v,oG,by rw[aV hk,hv]⟩
 clear hp e hf rM Aq hc;refine cI (λs=>∃ M i j g,2<i/\i<j/\j<g/\RR M i j g f (f.ag.map U8) (f.blocks.flatMap bq)/\aL prog s ⟨ay [(2,.pt (aG f)),(3,.pt [av to]),(4,.rp 2 0),(5,I 0),(7,.rp g 0)],M,g+1⟩) (eI ?_) ?_
 .refine SS ?_;apply wj (aoF X.l1 X.l2 X.l3 X.l4 X.l5) rfl aB;rintro r M g ⟨i,j,h1,h2,h3,rfl,h4,U,h6⟩;dsimp[St.put];refine SS ?_;have an:∀ {M:Mem} {c},up M g c g=c:=ap _ _ _;refine bT (eK (cs':=su f i j) rfl rfl s3 rfl) aB (bW t26 iS ⟨rfl,aP rfl⟩ rfl) (ab ⟨_,i,j,g,oG,h2,h3,⟨?_,ap _ _ _,?_,?_⟩,ao eH⟩)
  .exact aq oG (aq oG (h6 2 oG))
  .exact aq oG (aq oG h4)
  .exact aq oG (aq oG U)
 rintro s ⟨M,i,j,g,h1,h2,h3,hR,J⟩;refine⟨_,J,aM (aF ?_)⟩;clear J;refine aX ?_
 refine ab (cJ (λs=>∃ M,RR M i j g f ((putAt to f.ag f.ag f.ag.length).map U8) (f.blocks.flatMap bq)/\aL prog s ⟨ay [(2,.pt (aG f)),(3,.pt [av to]),(4,.rp 2 0),(5,I 0),(7,.rp g 0)],M,g+1⟩) (gl (α:=Nat×Mem)
  (λs=>⟨ay [(2,.pt (aG f)),(3,.pt [av to]),(4,.rp 2 0),(5,I 0),(7,.rp g 0),(31,cH f.ag),(32,I f.ag.length),(33,I s.1)],s.2,g+1⟩)
  (λs=>s.1<=f.ag.length/\RR s.2 i j g f ((putAt to f.ag f.ag s.1).map U8) (f.blocks.flatMap bq)) (λs=>f.ag.length - s.1) (0,M)
  (ao eH) ⟨Nat.zero_le _,hR⟩ ?_) ?_)
 .rintro⟨k,M⟩ ⟨hk,hR⟩;dsimp only at hk hR ⊢;refine SS ?_;refine ab ⟨_,rfl,λh=>?_,λh=>?_⟩
  .have al:k<f.ag.length:=tn h
   clear h;let⟨v,hv,hg⟩:=nZ k oG;let⟨x,hx⟩:=tS f.ag k al
   have Iy:=I9 to f.ag f.ag k;rw[tu hg,tu hx,eC] at Iy;have jn:=vD to f.ag f.ag k;generalize putAt to f.ag f.ag k=q at*
   refine ws (bG ?_);refine ab (r8 iB ?_);have an:=hR.rg;have dQ:=hR.ri;have kd:(su f i j).drop (0+4)=.rs i 0 f.ag.length::[cH f.aU,io f.signals,.rs j 0 f.blocks.length]:=rfl;refine eD ?_;refine ax (pY rfl rfl dQ V.h V.h) ak ⟨V.h,oG⟩ (bT (dM (d:=.s (.int _ _)) (cs':=(q.set v x).map U8) rfl rfl dQ rfl (by rw[map_set])) aB (bW t5 c5 ⟨rfl,by simp;omega⟩ rfl) (bU bX (af ?_)));exact ab (bA (k+1,_) (ao eH) ⟨oM,by dsimp only;rw[Iy];exact hR.upI h1 h2 h3⟩ oM)
  .have bJ:¬ k<f.ag.length:=tn h
   have:k=f.ag.length:=by omega
   subst this;exact⟨M,hR,ao eH⟩
 rintro s ⟨M,hR,J⟩;refine⟨_,J,aM (aF ?_)⟩;clear J nZ;have hl4:=X.l4;generalize Iz:(putAt to f.ag f.ag f.ag.length).map U8=rs at*
 have an:=hR.rg;have kd:(su f i j).drop (0+7)=.rs j 0 f.blocks.length::[]:=rfl;have dQ:=hR.rj;refine aX ?_
 refine ab (cJ (λs=>∃ M,RR M i j g f rs ((f.blocks.map (mQ to)).flatMap bq)/\aL prog s ⟨ay [(4,.rp 2 0),(5,I 0),(7,.rp g 0)],M,g+1⟩) (gl (α:=Nat×Mem)
  (λs=>⟨ay [(3,.pt [av to]),(4,.rp 2 0),(5,I 0),(7,.rp g 0),(49,I f.blocks.length),(50,I s.1)],s.2,g+1⟩)
  (λs=>s.1<=f.blocks.length/\RR s.2 i j g f rs (((f.blocks.take s.1).map (mQ to)++f.blocks.drop s.1).flatMap bq)) (λs=>f.blocks.length - s.1) (0,M)
  (ao eH) ⟨Nat.zero_le _,hR⟩ ?_) ?_)
 .clear an dQ hR;rintro⟨k,M⟩ ⟨hk,hR⟩;dsimp only at hk hR ⊢;refine SS ?_;refine ab ⟨_,rfl,λh=>?_,λh=>?_⟩
  .have al:k<f.blocks.length:=tn h
   clear h;let⟨b,hb⟩:=tS f.blocks k al
   have lb:=cL hb;have hI:=X.ins b lb;have hE:=X.ends b lb;have hS:=X.l5 b lb
   have lP:((f.blocks.take k).map (mQ to)++f.blocks.drop k).flatMap bq=((f.blocks.take k).map (mQ to)).flatMap bq++(bq b++(f.blocks.drop (k+1)).flatMap bq):=by
    rw[flatMap_append,drop_eq_getElem_cons al,flatMap_cons,(bO.1 hb).2]
   have eh:((f.blocks.take (k+1)).map (mQ to)++f.blocks.drop (k+1)).flatMap bq=((f.blocks.take k).map (mQ to)).flatMap bq++(bq (mQ to b)++(f.blocks.drop (k+1)).flatMap bq):=by
    rw[take_add_one,hb,map_append,flatMap_append,flatMap_append];simp
   have O:(((f.blocks.take k).map (mQ to)).flatMap bq).length=k*16:=by
    rw[pd (sz:=16) (λ_=>rfl),length_map,length_take,Nat.min_eq_left hk]
   rw[lP] at hR;clear lP;generalize ((f.blocks.take k).map (mQ to)).flatMap bq=A at*
   generalize (f.blocks.drop (k+1)).flatMap bq=C at*
   have hL:∀ y:bH,(A++(bq y++C)).length=k*16+(16+C.length):=λy=>by
    rw[length_append,length_append,O];rfl
   refine ws (af ?_);refine ab (aF ?_);have an:=hR.rg;have dQ:=hR.rj;have kd:(su f i j).drop (0+7)=.rs j 0 f.blocks.length::[]:=rfl;refine aX ?_;refine ax (fQ (v:=.rp _ _) rfl) ak aa (ab ⟨_,ao (l:=[(3,.pt [av to]),(4,.rp 2 0),(5,I 0),(7,.rp g 0),(49,I f.blocks.length),(50,I k),(11,.rp j (k*16))]) eH,?_⟩);have aak:to.length=f.ag.length:=hlen;rw[<- hlen] at hI hE
   have oW:∀ {r:Int},0<=r/\r<to.length->∃ k:Nat,∃ v,r=k/\to[k]? =some v/\bf to r=v:=λ{r} h=>by
    obtain⟨k,rfl⟩:=fc h.1;exact⟨k,_,rfl,aV oG,by simp[bf,dF,aV (show k<to.length by omega)]⟩
   have tF:=tF (l:=b.ins) (g:=104) (fs:=[]) (cs:=[.pt [av to]]) (p:=jY to) (by have:=hS.ins;omega) (.fn oS (.cons (.pt (.cons (cR _) .nil)) .nil)) (λx hx=>aoD (hI x hx));have wG:=wG (l:=b.fin.args) (g:=107) (fs:=[]) (cs:=[.pt [av to]]) (p:=bf to) (by have:=hS.ea;omega) (.fn oS (.cons (.pt (.cons (cR _) .nil)) .nil)) (λr hr=>aoB (hE.args r hr));generalize hq:k*16=q at*
   refine cI (λs=>∃ M,RR M i j g f rs (A++(bq ⟨b.ins.map (jY to),b.fin⟩++C))/\aL prog s ⟨ay [(3,.pt [av to]),(4,.rp 2 0),(5,I 0),(7,.rp g 0),(49,I f.blocks.length),(50,I k),(11,.rp j q)],M,g+1⟩) (eI ?_) ?_
   .clear kd an;have an:=hR.rj;have kd:(A++(bq b++C)).drop (q+0)=eV b.ins::(aR b.fin++C):=z7 (j:=0) O rfl;refine bg ?_;exact bT (dM (d:=.sl _ _) (cs':=A++(bq ⟨b.ins.map (jY to),b.fin⟩++C)) rfl rfl an rfl (B' (j:=0) O rfl)) aB (bW t67 SG ⟨rfl,by rw[hL];omega⟩ rfl) (ab ⟨_,hR.FD h1 h2 h3,ao eH⟩)
   clear hR an dQ kd;rintro s ⟨M,hR,J⟩;refine⟨_,J,aj ?_⟩;clear J;have an:=hR.rj;refine az ?_;refine ax (fQ (v:=.rp _ _) rfl) ak aa (ab (cI (λs=>∃ M,RR M i j g f rs (A++(bq ⟨b.ins.map (jY to),qo to b.fin⟩++C))/\aL prog s ⟨ay [(3,.pt [av to]),(4,.rp 2 0),(5,I 0),(7,.rp g 0),(49,I f.blocks.length),(50,I k),(12,.rp j (q+1))],M,g+1⟩) (aj ?_) ?_))
   .have kd:(A++(bq ⟨b.ins.map (jY to),b.fin⟩++C)).drop (q+1+0)=U8 b.fin.kind::_:=z7 (j:=1) O rfl;refine aX ?_;refine ab (qQ ?_);clear kd;generalize pL:b.ins.map (jY to)=il at*
    generalize b.fin=x at*
    have wY:∀ y:Abs.End,(A++(bq ⟨il,y⟩++C)).length=q+(16+C.length):=λy=>hL ⟨il,y⟩;refine cI (λs=>aL prog s ⟨ay [(3,.pt [av to]),(4,.rp 2 0),(5,I 0),(7,.rp g 0),(49,I f.blocks.length),(50,I k),(12,.rp j (q+1)),(72,U8 x.kind),(73,B (aC [2,8,9,7] x.kind))],M,g+1⟩) (aj ?_) λs hg=>⟨_,hg,?_⟩
    .refine af ?_;refine ab (au rfl (λh=>bd ?_) λe1=>aj ?_)
     .have h:x.kind=2:=tn h
      refine ao ⟨rfl,rfl,rfl,rfl,rfl,rfl,rfl,rfl,?_,aa⟩;show D.s (.bool (x.kind==2))=_;rw[h];rfl
     refine af ?_;refine ab (au rfl (λh=>bd ?_) λe2=>aj ?_)
     .have h:x.kind=8:=tn h
      refine ao ⟨rfl,rfl,rfl,rfl,rfl,rfl,rfl,rfl,?_,aa⟩;show D.s (.bool (x.kind==8))=_;rw[h];rfl
     refine af ?_;refine ab (au rfl (λh=>bd ?_) λe3=>eI ?_)
     .have h:x.kind=9:=tn h
      refine ao ⟨rfl,rfl,rfl,rfl,rfl,rfl,rfl,rfl,?_,aa⟩;show D.s (.bool (x.kind==9))=_;rw[h];rfl
     refine af ?_;refine ab (ao ⟨rfl,rfl,rfl,rfl,rfl,rfl,rfl,rfl,?_,aa⟩);show D.s (.bool (x.kind==7))=_;simp[aC,any_cons,any_nil,e1,e2,e3,Bool.false_or,Bool.or_false]
    clear hg;refine au rfl (λvj=>Gt iB ?_) λvj=>?_
    .let⟨kk,v,ha,hv,e⟩:=oW (hE.a vj);have kd:(A++(bq ⟨il,x⟩++C)).drop (q+1+1)=I kk::_:=(z7 (j:=2) O (r:=(bq ⟨il,x⟩++C).drop 3) rfl).trans (by rw[ha]);refine cF ?_;refine af ?_;exact bT (dM (d:=.s (.int _ _)) (cs':=A++(bq ⟨il,qo to x⟩++C)) rfl rfl an rfl (B' (j:=2) O (by rw[ajf vj,e];rfl))) aB (bW t3 c3 ⟨rfl,by rw[wY];omega⟩ rfl) (bU bX ⟨_,hR.FD h1 h2 h3,ao eH⟩)
    refine cI (λs=>aL prog s ⟨ay [(3,.pt [av to]),(4,.rp 2 0),(5,I 0),(7,.rp g 0),(49,I f.blocks.length),(50,I k),(12,.rp j (q+1)),(72,U8 x.kind),(88,B (aC [3,6] x.kind))],M,g+1⟩) (aj ?_) λs hg=>⟨_,hg,?_⟩
    .refine af ?_;refine ab (au rfl (λh=>bd ?_) λe1=>eI ?_)
     .have h:x.kind=3:=tn h
      refine ao ⟨rfl,rfl,rfl,rfl,rfl,rfl,rfl,rfl,?_,aa⟩;show D.s (.bool (x.kind==3))=_;rw[h];rfl
     refine af ?_;refine ab (ao ⟨rfl,rfl,rfl,rfl,rfl,rfl,rfl,rfl,?_,aa⟩);show D.s (.bool (x.kind==6))=_;simp[aC,any_cons,any_nil,e1,Bool.false_or,Bool.or_false]
    clear hg;refine au rfl (λy9=>aj ?_) λy9=>aj ?_
    .have e0:=ajg (to:=to) vj y9;have kd:(A++(bq ⟨il,x⟩++C)).drop (q+1+1)=I x.a::_:=z7 (j:=2) O rfl;refine bG ?_;refine ab (au rfl (λh0=>Gt iB ?_) λh0=>zy ?_)
     .have h0:0<=x.a:=tn h0
      let⟨kk,v,ha,hv,e⟩:=oW ⟨h0,hE.a2 y9 h0⟩;rw[bi h0,e] at e0;rw[ha] at kd;refine cF ?_;refine af ?_;exact bT (dM (d:=.s (.int _ _)) (cs':=A++(bq ⟨il,qo to x⟩++C)) rfl rfl an rfl (B' (j:=2) O (by rw[e0];rfl))) aB (bW t3 c3 ⟨rfl,by rw[wY];omega⟩ rfl) (bU bX ⟨_,hR.FD h1 h2 h3,ao eH⟩)
     .have h0:¬ 0<=x.a:=tn h0
      rw[ai h0] at e0;exact⟨_,by rw[e0];exact hR,ao eH⟩
    .have e0:=ajh (to:=to) vj y9;refine af ?_;refine ab (au rfl (λU=>Gt iB ?_) λU=>zy ?_)
     .have U:x.kind=5:=tn U
      rw[bi U] at e0;have EK:=EK (hE.ins U);refine aX ?_;refine ax (dL (vs:=aI x.ins) rfl an a45 kG (PH (j:=7) O rfl)) aB (dN t45 kG (by rw[wY];omega)) (aX ?_);exact bT (eK (vs:=aI (jY to x.ins)) (cs':=A++(bq ⟨il,qo to x⟩++C)) rfl rfl an (WR (j:=7) O (by simp[aI]) (by rw[e0];rfl))) aB (bW t45 kG ⟨rfl,by rw[wY];omega⟩ rfl) (bU bX ⟨_,hR.FD h1 h2 h3,ao eH⟩)
     .have U:¬ x.kind=5:=tn U
      rw[ai U] at e0;exact⟨_,by rw[e0];exact hR,ao eH⟩
   clear hR an;rintro s ⟨M,hR,J⟩;refine⟨_,J,?_⟩;clear J;have an:=hR.rj;have wZ:mQ to b=⟨b.ins.map (jY to),{ qo to b.fin with b:=if b.fin.kind=8 then bf to b.fin.b else b.fin.b,args:=b.fin.args.map (bf to) }⟩:=rfl;rw[wZ] at eh;clear wZ tF;generalize b.ins.map (jY to)=il at*
   have wY:∀ y:Abs.End,(A++(bq ⟨il,y⟩++C)).length=q+(16+C.length):=λy=>hL ⟨il,y⟩;have w8:=hE.b;have y1:(qo to b.fin).kind=b.fin.kind:=rfl;have y2:(qo to b.fin).b=b.fin.b:=rfl;have y3:(qo to b.fin).args=b.fin.args:=rfl;generalize qo to b.fin=y at*
   rw[<- y1, <- y2] at w8 eh;rw[<- y3] at wG eh;clear y1 y2 y3 hE hI hS lb hL;refine cI (λs=>∃ M,RR M i j g f rs (A++(bq ⟨il,{ y with b:=if y.kind=8 then bf to y.b else y.b }⟩++C))/\aL prog s ⟨ay [(3,.pt [av to]),(4,.rp 2 0),(5,I 0),(7,.rp g 0),(49,I f.blocks.length),(50,I k),(12,.rp j (q+1))],M,g+1⟩) (aj ?_) ?_
   .have kd:(A++(bq ⟨il,y⟩++C)).drop (q+1+0)=U8 y.kind::_:=z7 (j:=1) O rfl;refine bG ?_;refine ab (au rfl (λh8=>GD iB ?_) λh8=>bd ?_)
    .have h8:y.kind=8:=tn h8
     let⟨kk,v,ha,hv,e⟩:=oW (w8 h8);rw[bi h8,e];have kd:(A++(bq ⟨il,y⟩++C)).drop (q+1+2)=I kk::_:=(z7 (j:=3) O (r:=(bq ⟨il,y⟩++C).drop 4) rfl).trans (by rw[ha]);refine cF ?_;refine af ?_;exact bT (dM (d:=.s (.int _ _)) (cs':=A++(bq ⟨il,{ y with b:=v }⟩++C)) rfl rfl an rfl (B' (j:=3) O rfl)) aB (bW t3 c3 ⟨rfl,by rw[wY];omega⟩ rfl) (bU bX ⟨_,hR.FD h1 h2 h3,ao eH⟩)
    .have h8:¬ y.kind=8:=tn h8
     rw[ai h8];exact⟨_,hR,ao eH⟩
   clear hR an;rintro s ⟨M,hR,J⟩;refine⟨_,J,gE ?_⟩;clear J;generalize (if y.kind=8 then bf to y.b else y.b)=yb at*
   have an:=hR.rj;have kd:(A++(bq ⟨il,{ y with b:=yb }⟩++C)).drop (q+1+12)=av y.args::_:=z7 (j:=13) O rfl;refine bg ?_;refine bT (dM (d:=.sl _ _) (cs':=A++(bq ⟨il,{ y with b:=yb,args:=y.args.map (bf to) }⟩++C)) rfl rfl an rfl (B' (j:=13) O rfl)) aB (bW t35 jC ⟨rfl,by rw[wY];omega⟩ rfl) (ab (af ?_));exact ab (bA (k+1,_) (ao eH) ⟨oM,by dsimp only;rw[eh];exact hR.FD h1 h2 h3⟩ oM)
  .have bJ:¬ k<f.blocks.length:=tn h
   have:k=f.blocks.length:=by omega
   subst this;rw[take_length,List.drop_length,append_nil] at hR;exact⟨M,hR,ao eH⟩
 .rintro s ⟨M,hR,J⟩;refine⟨_,J,aF ?_⟩;clear J an dQ kd;have an:=hR.rg;apply ax (dL (vs:=su f i j) rfl an a26 iS rfl) aB (dN t26 iS (aP rfl));have dQ:=hR.r2;refine bT (eK (cs':=su f i j) rfl rfl dQ rfl) aB (bW t26 iS ⟨rfl,aP rfl⟩ rfl) (SS ?_);have g1:up M 2 (some (Row.cells (su f i j) 26)) j=some (.cells ((f.blocks.map (mQ to)).flatMap bq) 69):=aq oG hR.rj
  have g2:ig j ((f.blocks.map (mQ to)).flatMap bq) (prog.cellsOf 69) (up M 2 (some (Row.cells (su f i j) 26))) i=some (.cells rs 5):=kx (aq oG hR.ri) oG (nL.cells λd hd=>by
   rw[<- Iz] at hd;obtain⟨x,_,rfl⟩:=mem_map.1 hd
   exact .s _)
  have g3:ig i rs (prog.cellsOf 5) (ig j ((f.blocks.map (mQ to)).flatMap bq) (prog.cellsOf 69) (up M 2 (some (Row.cells (su f i j) 26)))) 2=some (.cells (aG (Ar f to)) 26):=by
   unfold ig;rw[ai oG,ai oG,ap];show some (Row.cells [S f.name,B f.iter,I f.args,U8 f.result,sub (cZ i rs _) (sub (cZ j _ _) (.rs i 0 f.ag.length)),cH f.aU,io f.signals,sub (cZ i rs _) (sub (cZ j _ _) (.rs j 0 f.blocks.length))] 26)=_;rw[lR oG,oI,oI,c5,mN,List.drop_zero,List.drop_zero,Nat.mul_one,cW (l:=rs) (by rw[<- Iz,List.length_map,vD];exact bK _),s9 (f:=bq) (sz:=16) (λ_=>rfl),cW oS, <- Iz];show some (Row.cells [S f.name,B f.iter,I f.args,U8 f.result,.sl ((putAt to f.ag f.ag f.ag.length).map U8) f.ag.length,cH f.aU,io f.signals,.sl ((f.blocks.map (mQ to)).flatMap bq) f.blocks.length] 26)=some (Row.cells [S f.name,B f.iter,I f.args,U8 f.result,.sl ((putAt to f.ag f.ag f.ag.length).map U8) (putAt to f.ag f.ag f.ag.length).length,cH f.aU,io f.signals,.sl ((f.blocks.map (mQ to)).flatMap bq) (f.blocks.map (mQ to)).length] 26);rw[vD,List.length_map]
  refine ab ⟨_,(pR (l:=[(4,.rp 2 0),(5,I 0)]) g1 ⟨gk oG,rfl,aa⟩).trans (pR (l:=[(4,.rp 2 0),(5,I 0)]) g2 ⟨gk oG,rfl,aa⟩),?_⟩;exact rX (fT (cs:=aG (Ar f to)) (vs:=aG (Ar f to)) rfl g3 a26 iS rfl t26 (aP rfl)) rfl rfl
def jg(to:List Int)(x:Ins):Ins:={ x with to:=if 0<=dt x then bf to x.to else x.to,a:=if x.op≠10/\0<(cN x).length then bf to x.a else x.a,b:=if x.op≠10/\1<(cN x).length then bf to x.b else x.b,args:=if aC [10,19,38] x.op then x.args.map (bf to) else x.args }
structure Lf(n:Nat)(x:Ins):Prop where
 to:0<=dt x->0<=x.to/\x.to<n
 a:x.op≠10/\0<(cN x).length->0<=x.a/\x.a<n
 b:x.op≠10/\1<(cN x).length->0<=x.b/\x.b<n
 args:aC [10,19,38] x.op=true->∀ r∈x.args,0<=r/\r<n
 len:x.args.length<=1000
def As{to:List Int}{N:Nat}{fixed:Int}(hN:N<=100000):aE prog 116 [av to,I N,I fixed] (B (lX to N fixed)):=by
 refine bN (fo f116) (.cons (cR to) (.cons (.s _) fl)) (Tr.s _) ?_;refine ws (SS ?_);refine ab (aM (aj ?_));refine aX ?_;unfold lX;by_cases hl:to.length=N
 case neg=>
  have:((to.length:Int)==N)=false:=by simp;omega
  rw[this,Bool.and_false];refine ab (cG rfl (λ_=>aM (aj ?_)) λh=>by simp at h;omega);refine SS ?_;exact ab (dX (aD rfl rfl))
 have:((to.length:Int)==N)=true:=by simp;omega
 rw[this,Bool.and_true];clear this;refine ab (cG rfl (λh=>by simp at h;omega) λ_=>dn (aj ?_));refine az ?_;refine ab (aM (aF ?_));refine SS ?_
 refine ab (cJ (λs=>∃ m nx,aL prog s ⟨ay [],m,nx⟩/\(range to.length).all (px to N fixed)=true) (dS (α:=Nat)
  (λk=>⟨ay [(1,I N),(0,av to),(2,I fixed),(7,.rs 0 0 N),(8,I k)],b8 [(0,.cells ((pH to k N).map B) 4)],1⟩)
  (λk=>k<=to.length/\(range k).all (px to N fixed)=true) (λk=>to.length - k) 0
  (a6 eH ⟨by rw[X3];rfl,aa⟩) ⟨Nat.zero_le _,rfl⟩ ?_) ?_)
 .rintro k ⟨hk,O⟩;refine az ?_;refine ab ⟨_,rfl,λh=>?_,λh=>?_⟩
  .have al:k<to.length:=by rw[hl];simpa using h
   clear h;obtain⟨x,hx⟩:∃ x,to[k]? =some x:=⟨_,aV al⟩
   have J:px to N fixed k=(dz x 0 (N - 1)&&(!aC (to.take k) x&& !(decide ((k:Int)<fixed)&&x !=k))):=by rw[px,tu hx]
   have gD:=gD (n:=x) (a:=0) (b:=N - 1);refine aM (aj ?_);cases C:dz x 0 (N - 1) with
   |false=>
    rw[C] at gD;refine cB ?_;refine cl gD ?_;refine af ?_;(iterate 7 refine z λ_ _=>?_);refine cB ?_;(iterate 7 refine z λ_ _=>?_);refine SS ?_;refine ab (cG rfl (λ_=>?_) λh=>by simp at h);have hg:(range to.length).all (px to N fixed)=false:=KI al (J.trans (by rw[C];rfl));simp only[hg];refine aM (aj ?_);refine SS ?_;exact ab (dX (dd (bc (aD rfl rfl))))
   |true=>
    rw[C] at gD J;obtain⟨v,rfl⟩:=fc (jF.1 C).1;have hv:v<N:=by have:=(jF.1 C).2;omega
    have hg:=VK (to:=to) (k:=k) hv;have hlen:=VJ to k N;have U:=VL hx hv;generalize aC (to.take k) v=c at hg J;generalize pH to k N=q at*
    have kd:=nv (f:=B) hg;refine cB ?_;refine cl gD ?_;refine eD ?_;refine cq rfl rfl (pY rfl rfl rfl V.h V.h) (λhc=>⟨ak,⟨V.h,oG⟩⟩) (cq rfl rfl (fe rfl rfl kd V.h) (λhc=>⟨ak,(fh V.h V.h kd)⟩) (bg ?_));refine bG ?_;refine ab (cG rfl (λh=>?_) λh=>dn ?_)
    .have h:(range to.length).all (px to N fixed)=false:=KI al (J.trans (by revert h;cases c<;>cases decide ((k:Int)<fixed)<;>simp));simp only[h];refine aM (aj ?_);refine SS ?_;exact ab (dX (dd (bc (aD rfl rfl))))
    .have h:px to N fixed k=true:=J.trans (by revert h;cases c<;>cases decide ((k:Int)<fixed)<;>simp);refine gE (eD ?_);refine ab (az ?_);exact ab (bA (k+1) (a6 eH ⟨by rw[<- U,map_set];rfl,aa⟩) ⟨oG,WQ O h⟩ oG)
  .have bJ:¬ k<N:=by simpa using h
   have:k=to.length:=by omega
   subst this;exact⟨_,_,ao aa,O⟩
 .rintro s ⟨m,nx,X,O⟩;rw[O];refine⟨_,X,aj ?_⟩;refine SS ?_;exact ab (aD rfl rfl)
def uF{l to:List Int}(hl:l.length<=100000)(hr:∀ r∈l,0<=r/\r<to.length):aE prog 118 [av l,av to] (av (l.map (bf to))):=by
 refine bN (fo f118) (.cons (cR _) (.cons (cR _) .nil)) (cR _) ?_;refine ws (SS ?_);refine ab (aF ?_);refine SS ?_;refine ab ⟨_,.mz _ _ _ 5 3 rfl,aM (aF ?_)⟩;refine SS ?_
 refine ab (cJ (λs=>∃ r m nx,aL prog s ⟨ay [(5,.rs r 0 l.length)],m,nx⟩/\m r=some (.cells ((l.map (bf to)).map I) 3)) (dS (α:=Nat×Nat×Mem×Nat)
  (λs=>⟨ay [(0,av l),(1,av to),(5,.rs s.2.1 0 s.1),(6,I s.1)],s.2.2.1,s.2.2.2⟩)
  (λs=>s.1<=l.length/\s.2.1<s.2.2.2/\s.2.2.1 s.2.1=some (.cells (((l.take s.1).map (bf to)).map I) 3)) (λs=>l.length - s.1) (0,_,_,_)
  (ao eH) ⟨Nat.zero_le _,Nat.lt_succ_self _,rfl⟩ ?_) ?_)
 .rintro⟨j,r,m,nx⟩ ⟨hj,U,an⟩;dsimp only at hj U an ⊢;refine aX ?_;refine ab ⟨_,rfl,λh=>?_,λh=>?_⟩
  .have O:j<l.length:=by simpa using h
   have hx:l[j]? =some l[j]:=by simp[O]
   have J:=hr l[j] (dG _)
   have C:((l.take (j+1)).map (bf to)).map I=((l.take j).map (bf to)).map I++[I (bf to l[j])]:=by
    rw[take_add_one,hx,map_append,map_append];rfl
   have X:(((l.take j).map (bf to)).map I).length=j:=by simp;omega
   generalize l[j]=x at hx J C;obtain⟨k,rfl⟩:=fc J.1;obtain⟨v,hv⟩:∃ v,to[k]? =some v:=⟨_,aV oG⟩
   have e:bf to k=v:=by simp[bf,dF,hv]
   rw[e] at C;generalize ((l.take j).map (bf to)).map I=ds at an C X;refine gE (bg ?_);refine af ?_;refine ab (az ?_);refine ab (bA (j+1,nx+1,_,_) (ao eH) ⟨oM,oM,?_⟩ oM);dsimp only;rw[C];exact ap _ _ _
  .have bJ:¬ j<l.length:=by simpa using h
   have:j=l.length:=by omega
   subst this;rw[take_length] at an;exact⟨r,m,nx,ao eH,an⟩
 .rintro s ⟨r,m,nx,hg,an⟩;refine⟨_,hg,aF ?_⟩;refine af ?_;refine ab (bF (cE [(r,_,3)] ⟨an,aa⟩ (l:=[(4,av (l.map (bf to)))]) ⟨?_,aa⟩) (aD rfl rfl));exact(kN c3 (es:=(l.map (bf to)).map I) (by rw[Nat.mul_one,drop_zero,cW oS])).trans oS
def EN{x:Ins}{to:List Int}(hx:Lf to.length x):aE prog 117 [.agg (aI x),av to] (.agg (aI (jg to x))):=by
 have nZ:∀ {r:Int},0<=r/\r<to.length->∃ k:Nat,∃ v,r=k/\to[k]? =some v/\bf to r=v:=λ{r} h=>by
  obtain⟨k,rfl⟩:=fc h.1;exact⟨k,_,rfl,aV oG,by simp[bf,dF,aV (show k<to.length by omega)]⟩
 have pM:=pM (x:=x);refine bN (fo f117) (.cons (.agg (jP _)) (.cons (cR _) .nil)) (.agg (jP _)) ?_;refine ws (af ?_);let⟨h1,h2,h3,h4,h5⟩:=hx;refine ab (cI (λq=>aL prog q ⟨ay [(1,av to),(2,.rp 0 0),(4,.rp 1 0)],b8 [(0,.cells (aI { x with to:=if 0<=dt x then bf to x.to else x.to }) 45),(1,.cells tG 45)],2⟩) ?_ ?_)
 .refine ws (SS ?_);refine cl pM ?_;refine SS ?_;refine ab (au rfl (λhp=>eI ?_) λhp=>bd ?_)
  .have hp:0<=dt x:=by simpa using hp
   let⟨op,CM,U,O,X,J⟩:=x;dsimp only at h1;obtain⟨k,v,rfl,hv,e⟩:=nZ (h1 hp);rw[bi hp,e];refine eD ?_;exact ab (a6 eH eH)
  .have hp:¬ 0<=dt x:=by simpa using hp
   rw[ai hp];exact a6 eH eH
 rintro q C;refine⟨_,C,aj ?_⟩;clear C pM;have e1:cN { x with to:=if 0<=dt x then bf to x.to else x.to }=cN x:=rfl;unfold jg;have rO:=rO (x:={ x with to:=if 0<=dt x then bf to x.to else x.to }) (λ_=>h5);rw[e1] at rO;clear e1 h1;generalize (if 0<=dt x then bf to x.to else x.to)=y1 at*
 let⟨op,CM,U,O,X,J⟩:=x;dsimp only at h2 h3 h4 h5 rO ⊢;generalize cN ⟨op,CM,U,O,X,J⟩=rd at*
 refine SS ?_;refine cl rO ?_;refine SS ?_;refine ab (cI (λq=>aL prog q ⟨ay [(1,av to),(2,.rp 0 0),(4,.rp 1 0),(5,av rd)],b8 [(0,.cells (aI ⟨op,y1,U,O,X,if aC [10,19,38] op then J.map (bf to) else J⟩) 45),(1,.cells tG 45)],2⟩) ?_ ?_)
 .refine ws (bg ?_);refine aX ?_
  have hc:(if(if(op==10)=true then true else(op==19))=true then true else(op==38))=aC [10,19,38] op:=by
   simp only[aC,any_cons,any_nil,Bool.or_false];cases (op==10)<;>cases (op==19)<;>rfl
  refine ab (au (g:=aC [10,19,38] op) (congrArg (λb=>D.s (.bool b)) hc) (λhp=>eI ?_) λhp=>bd ?_)
  .have uF:=uF (l:=J) (to:=to) oG (h4 hp);rw[bi hp];refine az ?_;refine cl uF ?_;refine af ?_;exact ab (a6 eH eH)
  .rw[show(if aC [10,19,38] op=true then J.map (bf to) else J)=J from ai (by rw[hp];simp)];exact a6 eH eH
 rintro q C;refine⟨_,C,?_⟩;clear C h4 rO;generalize (if aC [10,19,38] op=true then J.map (bf to) else J)=y4 at*
 refine cI (λq=>aL prog q ⟨ay [(1,av to),(2,.rp 0 0),(4,.rp 1 0),(5,av rd)],b8 [(0,.cells (aI ⟨op,y1,if op≠10/\0<rd.length then bf to U else U,O,X,y4⟩) 45),(1,.cells tG 45)],2⟩) ?_ ?_
 .refine ws (cF ?_)
  have hc:(if(op !=10)=true then decide ((0:Int)<rd.length) else false)=decide (op≠10/\0<rd.length):=by
   by_cases h:op=10<;>simp[h]
  refine ab (au (g:=decide (op≠10/\0<rd.length)) (congrArg (λb=>D.s (.bool b)) hc) (λhp=>eI ?_) λhp=>bd ?_)
  .have hp:=of_decide_eq_true hp;obtain⟨k,v,rfl,hv,e⟩:=nZ (h2 hp);rw[bi hp,e];refine eD ?_;exact ab (a6 eH eH)
  .have hp:=of_decide_eq_false hp;rw[ai hp];exact a6 eH eH
 rintro q C;refine⟨_,C,?_⟩;clear C h2;generalize (if op≠10/\0<rd.length then bf to U else U)=y2 at*
 refine cI (λq=>aL prog q ⟨ay [(1,av to),(2,.rp 0 0),(4,.rp 1 0),(5,av rd)],b8 [(0,.cells (aI ⟨op,y1,y2,if op≠10/\1<rd.length then bf to O else O,X,y4⟩) 45),(1,.cells tG 45)],2⟩) ?_ ?_
 .refine ws (cF ?_)
  have hc:(if(op !=10)=true then decide ((1:Int)<rd.length) else false)=decide (op≠10/\1<rd.length):=by
   by_cases h:op=10<;>simp[h];omega
  refine ab (au (g:=decide (op≠10/\1<rd.length)) (congrArg (λb=>D.s (.bool b)) hc) (λhp=>eI ?_) λhp=>bd ?_)
  .have hp:=of_decide_eq_true hp;obtain⟨k,v,rfl,hv,e⟩:=nZ (h3 hp);rw[bi hp,e];refine eD ?_;exact ab (a6 eH eH)
  .have hp:=of_decide_eq_false hp;rw[ai hp];exact a6 eH eH
 rintro q C;refine⟨_,C,aj ?_⟩;clear C h3;generalize (if op≠10/\1<rd.length then bf to O else O)=y3 at*
 refine af ?_;exact ab (jR (fT (cs:=aI ⟨op,y1,y2,y3,X,y4⟩) (vs:=aI ⟨op,y1,y2,y3,X,y4⟩) rfl rfl a45 kG rfl t45 (aP rfl)) rfl)
end Go.Abs
end
