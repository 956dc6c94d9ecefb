/- Part 21. -/
import Derived.Test.YtnagfmlifobdiaaGreatDoorShareApart13
import Derived.Test.YtnagfmlifobdiaaGreatDoorShareApart20
import Derived.Handed
import Derived.LaidLaws
import Derived.Stop.Joined
import Derived.Test.YtnagfmlifobdiaaGreatDoorRows
set_option linter.all false
set_option maxHeartbeats 0
set_option maxRecDepth 10000
namespace Go.Abs
open List
open Go.Proofs.Tryz
open Go
abbrev nL:Sh:=.int .i64
abbrev JU:Sh:=.int .u8
abbrev Jm:Sh:=.pair JU (.pair nL (.pair nL (.pair nL (.pair nL (.pair (.sl nL) .unit)))))
abbrev M':Sh:=.pair .str (.pair nL .unit)
abbrev NE:Sh:=.pair JU (.pair nL (.pair nL (.pair nL (.pair nL (.pair .str (.pair Jm (.pair (.sl nL) (.pair (.sl M') (.pair nL .unit)))))))))
abbrev MC:Sh:=.pair (.sl Jm) (.pair NE .unit)
abbrev yU:Sh:=.pair .str (.pair .bool (.pair nL (.pair JU (.pair (.sl JU) (.pair (.sl JU) (.pair (.sl .str) (.pair (.sl MC) .unit)))))))
def TM(x:Jm.val):cq:=⟨x.1,x.2.1,x.2.2.1,x.2.2.2.1,x.2.2.2.2.1,x.2.2.2.2.2.1⟩
def aca(x:M'.val):jf:=⟨x.1,x.2.1⟩
def adu(x:NE.val):End:=⟨x.1,x.2.1,x.2.2.1,x.2.2.2.1,x.2.2.2.2.1,x.2.2.2.2.2.1,TM x.2.2.2.2.2.2.1,x.2.2.2.2.2.2.2.1,map aca x.2.2.2.2.2.2.2.2.1,x.2.2.2.2.2.2.2.2.2.1⟩
def aa6(x:MC.val):bI:=⟨map TM x.1,adu x.2.1⟩
def SG(x:yU.val):az:=⟨x.1,x.2.1,x.2.2.1,x.2.2.2.1,x.2.2.2.2.1,x.2.2.2.2.2.1,x.2.2.2.2.2.2.1,map aa6 x.2.2.2.2.2.2.2.1⟩
def IX{k:IntKind}(l:List Int):D.sl (flatMap (Sh.enc (.int k)) l) l.length=.sl (l.map λn=>.s (.int k n)) l.length:=congrArg (D.sl · l.length) (LH (λn=>D.s (.int k n)) l)
def apm(l:List ByteArray):D.sl (flatMap (Sh.enc .str) l) l.length=fT l:=congrArg (D.sl · l.length) (LH S l)
def NF{s:Sh}{β:Type}{g:β->List D}{h:s.val->β}(he:∀ x,s.enc x=g (h x))(l:List s.val):D.sl (flatMap s.enc l) l.length=.sl ((l.map h).flatMap g) (l.map h).length:=by
 rw[XN he l,length_map]
def c1'{α β:Type}(f:α->β){a a':α}(h:a=a'):f a=f a':=by rw[h]
def sf{α β γ:Type}(f:α->β->γ){a a':α}{b C:β}(h:a=a')(h2:b=C):f a b=f a' C:=by rw[h,h2]
def c3'{α β γ δ:Type}(f:α->β->γ->δ){a a':α}{b C:β}{c c':γ}(h:a=a')(h2:b=C)(J:c=c'):f a b c=f a' C c':=by rw[h,h2,J]
def c4'{α β γ δ ε:Type}(f:α->β->γ->δ->ε){a a':α}{b C:β}{c c':γ}{d d':δ}(h:a=a')(h2:b=C)(J:c=c')(M:d=d'):f a b c d=f a' C c' d':=by rw[h,h2,J,M]
def alN(l:List Int):(Sh.sl nL).arg l=aU l:=IX l
def aa7(x:Jm.val):Jm.enc x=bU (TM x):=
 c1' (λq=>[U8 x.1,I x.2.1,I x.2.2.1,I x.2.2.2.1,I x.2.2.2.2.1,q]) (IX (k:=.i64) x.2.2.2.2.2.1)
def amO(x:M'.val):M'.enc x=jX (aca x):=rfl
def aom(x:NE.val):NE.enc x=bq (adu x):=
 c3' (λa b c=>[U8 x.1,I x.2.1,I x.2.2.1,I x.2.2.2.1,I x.2.2.2.2.1,S x.2.2.2.2.2.1]++(a++[b,c,I x.2.2.2.2.2.2.2.2.2.1])) (aa7 x.2.2.2.2.2.2.1) (IX (k:=.i64) x.2.2.2.2.2.2.2.1) (NF amO x.2.2.2.2.2.2.2.2.1)
def aky(x:MC.val):MC.enc x=cE (aa6 x):=by
 have:=sf (λa b=>a::(b++[])) (NF aa7 x.1) (aom x.2.1);apply Eq.trans this;rw[append_nil];rfl
def akz(x:yU.val):yU.enc x=aL (SG x):=
 c4' (λa b c d=>[S x.1,B x.2.1,I x.2.2.1,U8 x.2.2.2.1,a,b,c,d]) (IX (k:=.u8) x.2.2.2.2.1) (IX (k:=.u8) x.2.2.2.2.2.1) (apm x.2.2.2.2.2.2.1) (NF aky x.2.2.2.2.2.2.2.1)
def akk(l:List yU.val):(Sh.sl yU).arg l=bS (l.map SG):=NF akz l
def akm{x:(Sh.sl yU).val}(h:(Sh.sl yU).ok x):∀ f∈map SG x,0<=f.result:=λf hf=>by
 obtain⟨y,hy,rfl⟩:=mem_map.1 hf;let⟨_,_,_,C,_⟩:=h y hy;have:(Lit.int .u8 y.2.2.2.1).wf=true:=C;simp only[Lit.wf,aJ] at this;exact of_decide_eq_true this.1
end Go.Abs
namespace Go.Proofs.YtnagfmlifobdiaaGreatDoor
open List
open Go.Abs Go.Proofs.Tryz
open Go
set_option maxRecDepth 100000
def awS:ownKnob prog.godebug=none:=kr
def laidOut:laidOutB prog=true:=kr
def aty: prog.underlying 4=some .bool:=kr
noncomputable abbrev BO:List (String×DataW Unit):=Rows.shareClassesRow.laid
def acb:List Int:=[1,10,100,1000,10000,100000,1000000,10000000,100000000,1000000000,10000000000,100000000000,1000000000000,10000000000000,100000000000000,1000000000000000,10000000000000000,100000000000000000,1000000000000000000,10000000000000000000]
def ait:∃ nm,(nm,DataW.agg (acb.map λn=>DataW.lit (.int .u64 n)))∈BO/\ prog.globalNamed nm=some 0:=⟨_,.tail _ (.tail _ (.head _)),by kernel_rfl⟩
def XO(w:World):laidMetH prog BO w=laidMet prog BO w:=MakeChecks.laidMetH_plain _ _ _ kr
def an'{W:World}(h:laidMetH prog BO W):FB (λb=>b=0) W/\Jl (λb=>b=0) W:=by
 rw[XO] at h;let⟨nm,hm,hg⟩:=ait;let⟨ty,ht⟩:=aiu (t:=200) (e:=199) h hm hg kr kr kr kr kr oC;refine⟨⟨λb hb=>?_,λt C=>?_⟩,λb o u hb hu=>?_⟩
 .subst hb;exact(Array.getElem?_eq_some_iff.1 ht).1
 .simp[BQ,mem_singleton] at C;subst C;exact⟨rfl,ty,_,ht⟩
 .subst hb;unfold World.cell? at hu;rw[ht] at hu;simp only at hu;have hu:((acb.map (Value.int .u64 ·)).toArray)[o]? =some u:=hu;rw[getElem?_toArray,getElem?_map] at hu;obtain⟨n,_,rfl⟩:=ej.1 hu;exact⟨n,rfl⟩
def awX:DataW Unit->Value
 | .lit (.int k n)=>.int k n
 |_=>undef
def awY:DataW Unit->Array Value
 | .agg ps=>(ps.map awX).toArray
 |_=> #[]
noncomputable def YE(os:Os):World:=
 let C:=World.holding prog os ⟨#[], #[],[]⟩
 let f (d:DataW Unit):Obj->Obj:=λ
     | .cells _ t frozen=>.cells (awY d) t frozen
     |o=>o
 { C with heap:=((C.heap.modify 0 (f Rows.laid_internal_strconv_uint64pow10)).modify 2 (f Rows.laid_math_bits_deBruijn32tab)).modify 3 (f Rows.laid_math_bits_deBruijn64tab) }
def agJ(os:Os)(args:Array Value):laidMetH prog BO ((YE os).forCall (λ_ _=>0) ⟨#[],args,[]⟩).memory:=by
 rw[XO];exact laidMet_of_run' 8 kr kr
end Go.Proofs.YtnagfmlifobdiaaGreatDoor
section
open Go Go.Proofs List
namespace Go.Abs
open Go.Proofs.Tryz
def RL{a b:ByteArray}(h:(!(a.toList==b.toList))=false):a=b:=by
 have h:a.toList=b.toList:=s0 h
 rw[ym,ym] at h;exact Ab h
def vD{a b:List Int}:aH prog 72 [aU a,aU b] (B (decide (a=b))):=by
 have J:∀ x∈[aU a,aU b],Tr x:=.cons (dP _) (.cons (dP _) .nil);refine nB (fo f72).he J λM=>?_;have hlen:=(M (aU a) oS).sl.1;unfold maxLen at hlen;refine bx (fo f72) J (Tr.s _) ?_;refine ws (SS ?_);refine af (aG (al (bh ?_)));refine af (cM rfl (λh=>?_) λh=>cI (aG (aA ?_)))
 .refine aG (al (SS ?_));refine af (de (aC (d:=B false) rfl ?_));have C:a≠b:=λe=>by subst e;simp at h
  rw[decide_eq_false C]
 have gu:a.length=b.length:=by
  have:¬ ((a.length:Int)≠(b.length:Int)):=s0 h
  omega
 clear h;refine SS ?_
 refine af (cw (λs=>aP prog s ⟨aD [],λ_=>none,0⟩/\a=b) (cT (α:=Nat) (λk=>⟨aD [(0,aU a),(1,aU b),(5,I k)],λ_=>none,0⟩)
  (λk=>k<=a.length/\∀ j,j<k->a[j]? =b[j]?) (λk=>a.length - k) 0 (au eH) ⟨oG,λj hj=>by omega⟩ ?_) ?_)
 .rintro k ⟨hk,hinv⟩;refine aQ ?_;refine af ⟨_,rfl,λh=>?_,λh=>?_⟩
  .have ao:k<a.length:=s0 h
   have hx:a[k]? =some a[k]:=aO ao;have hy:b[k]? =some b[k]:=aO oG;generalize a[k]=x at hx;generalize b[k]=y at hy;refine c6 iO (aX ?_);refine bJ bM (aB rfl (λhp=>?_) λhp=>?_)
   .refine ws (SS ?_);refine af (bj (bP (aY (aC (d:=B false) rfl ?_))))
    have C:a≠b:=λe=>by
     subst e;rw[hx] at hy;cases hy;simp at hp
    rw[decide_eq_false C]
   .refine cB (ax ?_);refine af (aW (k+1) (au eH) ⟨oG,λj hj=>?_⟩ oG);by_cases e:j=k
    .subst e;rw[hx,hy];congr 1;simpa using hp
    .exact hinv j oG
  .have X:¬ k<a.length:=s0 h
   refine⟨jB (l:=[]) aa,ext_getElem? λj=>?_⟩;by_cases hj:j<k
   .exact hinv j hj
   .rw[getElem?_eq_none oG,getElem?_eq_none oG]
 .rintro s ⟨hg,U⟩;refine⟨_,hg,al ?_⟩;refine SS ?_;refine af (aC (d:=B true) rfl ?_);rw[decide_eq_true U]
def VR{a b:List Int}:aH prog 39 [aU a,aU b] (B (decide (a=b))):=by
 have C:∀ x∈[aU a,aU b],Tr x:=.cons (dP _) (.cons (dP _) .nil);have vD:=vD (a:=a) (b:=b);refine bx (fo f39) C (Tr.s _) ?_;refine ws (SS ?_);refine er (aQ ?_);exact af (aC rfl rfl)
def pJ(l:List az):(bC l).length=l.length:=by simp[bC]
def Hu{b:bI}:aH prog 85 [.agg (bq b.fin)] (B (iq b)):=by
 refine bx (fo f85) (.cons (.agg (oU b.fin)) .nil) (Tr.s _) ?_;refine aA (ag ?_);refine af (br (cH [(0,bq b.fin,57)] eH (l:=[(1,.pt (bq b.fin))]) eH) (al ?_));refine aX ?_;refine af (aC rfl ?_);show B _=B _;congr 1;unfold iq;by_cases h:b.fin.kind=6<;>by_cases C:b.fin.kind=7<;>simp[h,C]
def ss{l:List az}{s:ByteArray}:aH prog 54 [bS l,S s] (I (named l s)):=by
 unfold named;refine nB (fo f54).he (.cons (kV l) fp) λJ=>?_;have hlen:=(J (bS l) oS).sl.1;unfold maxLen at hlen;refine bx (fo f54) (.cons (kV l) fp) (Tr.s _) ?_;refine ws (SS ?_);refine af (aG (aA (SS ?_)))
 refine af (cw (λst=>(∃ nx,aP prog st ⟨aD [],λ_=>none,nx⟩)/\∀ (j:Nat) g,l[j]? =some g->(g.name.toList==s.toList)=false) (cT (α:=Nat) (λk=>⟨aD [(0,bS l),(1,S s),(5,I k)],λ_=>none,0⟩)
  (λk=>k<=l.length/\∀ j g,j<k->l[j]? =some g->(g.name.toList==s.toList)=false) (λk=>l.length - k) 0 (au eH) ⟨oG,λj g hj=>by omega⟩ ?_) ?_)
 .rintro k ⟨hk,C⟩;refine aQ ?_;refine af ⟨_,rfl,λh=>?_,λh=>?_⟩
  .have ao:k<l.length:=s0 h
   let⟨x,hx⟩:=s3 l k ao
   refine ws (ek ?_);refine af (aB rfl (λhp=>al ?_) λhp=>cB ?_)
   .refine ag ?_;refine af (bj (bP (aY (aC rfl ?_))));rw[yj hx hp C];rfl
   .show aE _ _ _ _ _ _ _ _ _;refine ax ?_;refine af (aW (k+1) (au eH) ⟨oG,λj g hj hg=>?_⟩ oG);by_cases e:j=k
    .subst e;rw[hx] at hg;cases hg;exact hp
    .exact C j g oG hg
  .have M:¬ k<l.length:=s0 h
   exact⟨⟨0,au aa⟩,λj g hg=>C j g (by have:=(bQ.1 hg).1;omega) hg⟩
 .rintro st ⟨⟨nx,hg⟩,C⟩;refine⟨_,hg,al ?_⟩;refine SS ?_;refine af (aC rfl ?_);rw[Bf C];rfl
def oO{f:az}(M:f.blocks.length<=1000000):aH prog 53 [.agg (aL f)] (fT (cU f.blocks)):=by
 refine bx (fo f53) (.cons (.agg (gS f)) .nil) (rA _) ?_;refine aA (ag ?_);refine af (br (cH [(0,aL f,48)] eH (l:=[(1,.pt (aL f))]) eH) (aA ?_));refine SS ?_;refine af ⟨_,.oY _ _ _ 3 9 rfl,aG (aA ?_)⟩;refine SS ?_
 refine af (cw (λs=>∃ r nx,aP prog s ⟨aD [(3,.rs r 0 (cU f.blocks).length)],bA [(r,.cells ((cU f.blocks).map S) 9)],nx⟩) (cT (α:=Nat×Nat×Nat)
  (λs=>⟨aD [(1,.pt (aL f)),(3,.rs s.2.1 0 (cU (f.blocks.take s.1)).length),(4,I s.1)],bA [(s.2.1,.cells ((cU (f.blocks.take s.1)).map S) 9)],s.2.2⟩)
  (λs=>s.1<=f.blocks.length/\s.2.1<s.2.2) (λs=>f.blocks.length - s.1) (0,1,2)
  (bp eH eH) ⟨Nat.zero_le _,oC⟩ ?_) ?_)
 .rintro⟨k,r,nx⟩ ⟨hk,hr⟩;dsimp only at hk hr ⊢;refine bh ?_;refine af ⟨_,rfl,λh=>?_,λh=>?_⟩
  .have ao:k<f.blocks.length:=s0 h
   clear h;let⟨b,hb⟩:=s3 f.blocks k ao
   have C:cU (f.blocks.take (k+1))=cU (f.blocks.take k)++if iq b then [b.fin.name] else []:=by
    rw[take_add_one,hb, <- PG];rfl
   have U:(cU (f.blocks.take k)).length<=1000000:=by
    have:=zL (f.blocks.take k);have:(f.blocks.take k).length<=f.blocks.length:=length_take_le' _ _;omega
   generalize cU (f.blocks.take k)=cs at*
   have aF:bA [(r,Row.cells (cs.map S) 9)] r=some (.cells (cs.map S) 9):=by simp[bA]
   have Hu:=Hu (b:=b);generalize iq b=ic at*
   refine ws (ek ?_);refine af (aB rfl (λhp=>?_) λhp=>?_)
   .have hp:ic=true:=hp;subst hp;rw[bi rfl] at C;refine kU (aX ?_);refine ag ?_;apply af;show aE _ _ _ _ _ _ _ _ _;refine ax ?_;refine af (aW (k+1,nx+1,nx+1+1) ?_ ⟨oM,?_⟩ oM)
    .dsimp only;rw[C];refine bp ⟨rfl,?_,rfl,aa⟩ ⟨r9.trans (by simp;rfl),aa⟩;rw[length_append];rfl
    .dsimp only;omega
   .have hp:ic=false:=hp;subst hp;rw[ai oS,append_nil] at C;apply cB;show aE _ _ _ _ _ _ _ _ _;refine ax ?_;refine af (aW (k+1,r,nx) ?_ ⟨oM,?_⟩ oM)
    .dsimp only;rw[C];exact au eH
    .dsimp only;omega
  .have J:¬ k<f.blocks.length:=s0 h
   have:k=f.blocks.length:=by omega
   subst this;rw[take_length];exact⟨r,nx,au eH⟩
 .rintro s ⟨r,nx,hg⟩;refine⟨_,hg,aA ?_⟩;refine ag ?_;refine af (br (gd (i:=r) (cs:=(cU f.blocks).map S) (e:=9) (by simp[bA]) (l:=[(2,fT (cU f.blocks))]) ⟨?_,aa⟩) (aC rfl rfl));exact(lS (by rw[c9];simp)).trans oS
section
variable{α:Type}
def Zw{f:α->List D}{sz:Nat}(hs:∀ x,(f x).length=sz):∀ {l:List α} {k j:Nat} {x C:α} {v:D},l[k]? =some x->j<sz->f C=(f x).set j v->(l.flatMap f).set (k*sz+j) v=(l.set k C).flatMap f
 |[],k,j,x,C,v,h,_,_=>by simp at h
 |y::l,0,j,x,C,v,h,hj,hx=>by
  simp[getElem?_cons_zero,bg] at h;subst h;rw[flatMap_cons,set_cons_zero,flatMap_cons,hx,Nat.zero_mul,Nat.zero_add,set_append_left _ _ (by rw[hs];exact hj)]
 |y::l,k+1,j,x,C,v,h,hj,hx=>by
  rw[flatMap_cons,set_cons_succ,flatMap_cons, <- Zw hs (l:=l) (k:=k) (s0 h) hj hx,set_append_right _ _ (by rw[hs,Nat.add_mul];omega),hs];congr 2;rw[Nat.add_mul];omega
def lH(bs:List bI)(to:ByteArray->ByteArray)(k:Nat):List bI:=(bs.take k).map (eu to)++bs.drop k
variable{bs:List bI}{k:Nat}{b:bI}
def Qy{to:ByteArray->ByteArray}(h:bs[k]? =some b):(lH bs to k)[k]? =some b:=by
 have hk:=(bQ.1 h).1;rw[lH,getElem?_append_right oP];simp[length_map,length_take,Nat.min_eq_left (Nat.le_of_lt hk),Nat.sub_self,getElem?_drop];exact h
def ajx(bs:List bI)(to:ByteArray->ByteArray)(k:Nat):(lH bs to k).length=bs.length:=by
 unfold lH;simp;omega
variable{to:ByteArray->ByteArray}
def XF(h:bs[k]? =some b):lH bs to (k+1)=(lH bs to k).set k (eu to b):=by
 have hk:=(bQ.1 h).1;unfold lH
 have hd:bs.drop k=b::bs.drop (k+1):=by
  rw[drop_eq_getElem_cons hk];congr 1;exact Option.some.inj ((aO hk).symm.trans h)
 rw[take_add_one,h,hd,set_append_right _ _ oP];simp[Nat.min_eq_left (Nat.le_of_lt hk)]
def ajy(bs:List bI)(to:ByteArray->ByteArray):lH bs to bs.length=bs.map (eu to):=by unfold lH;simp
def ahQ(bs:List bI)(to:ByteArray->ByteArray):lH bs to 0=bs:=by unfold lH;simp
def ajz{l:List α}{x:α}(h:l[k]? =some x):l.set k x=l:=by
 obtain⟨hk,rfl⟩:=bQ.1 h;exact set_getElem_self hk
def alV(h:bs[k]? =some b)(hc:iq b=false):lH bs to (k+1)=lH bs to k:=by
 rw[XF h];have e:eu to b=b:=by rw[eu,ai (by rw[hc];simp)]
 rw[e];exact ajz (Qy h)
end
def Ph{f:az}{name:ByteArray}{to:ByteArray->ByteArray}{ls:List ByteArray}(VK:ls=(cU f.blocks).map to)(dd:f.blocks.length<=1000000):
 aH prog 61 [.agg (aL f),S name,fT ls] (.agg (aL (lC f name to))):=by
 refine bx (fo f61) (.cons (.agg (gS f)) (.cons (.s _) (.cons (rA _) .nil))) (.agg (gS _)) ?_;refine aA (ag ?_);refine af ⟨_,.refl _,aA ?_⟩;refine ax ?_;refine af ⟨_,.refl _,aA ?_⟩;have AO:(f.blocks.flatMap cE).length=f.blocks.length*16:=CG HE _;have dZ:(f.blocks.flatMap cE).take (f.blocks.length*16)=f.blocks.flatMap cE:=cX oG;refine ax ?_;refine eT (eQ rfl rfl rfl V.h V.h (iH dZ) rfl) ak ⟨V.h,rfl,cg,oC,db,da,(by rw[O0];first|omega|(simp;omega)),ey⟩ (SS ?_);apply dH (lT (d:=.rs _ _ _) (cs':=_) rfl rfl rfl rfl rfl) ak (eO V.h V.h bk rfl);obtain⟨hd,U⟩:∃ hd,hd=headD (lC f name to) (.rs 3 0 f.blocks.length):=⟨_,rfl⟩
 refine af ⟨_,bp (l:=[(2,fT ls),(3,.rp 0 0),(6,.rp 1 0)]) (ml:=[(0,.cells hd 48),(1,.cells ja 48),(3,.cells ((lH f.blocks to 0).flatMap cE) 59)]) eH ⟨?_,rfl,?_,aa⟩,al ?_⟩
 .rw[U,Nat.zero_add f.blocks.length];rfl
 .rw[ahQ];rfl
 refine SS ?_;refine af (aG (aA (SS ?_)));have kd:hd.drop (0+7)=.rs 3 0 f.blocks.length::[]:=by rw[U];rfl
 refine af (cw (λs=>aP prog s ⟨aD [(3,.rp 0 0),(6,.rp 1 0)],bA [(0,.cells hd 48),(1,.cells ja 48),(3,.cells ((lH f.blocks to f.blocks.length).flatMap cE) 59)],4⟩) (cT (α:=Nat)
  (λk=>⟨aD [(2,fT ls),(3,.rp 0 0),(6,.rp 1 0),(7,I (cU (f.blocks.take k)).length),(8,I k)],bA [(0,.cells hd 48),(1,.cells ja 48),(3,.cells ((lH f.blocks to k).flatMap cE) 59)],4⟩)
  (λk=>k<=f.blocks.length) (λk=>f.blocks.length - k) 0 (bp eH eH) (Nat.zero_le _) ?_) ?_)
 .rintro k hk;refine bh ?_;refine af ⟨_,rfl,λh=>?_,λh=>?_⟩
  .have ao:k<f.blocks.length:=s0 h
   clear h;let⟨b,hb⟩:=s3 f.blocks k ao
   have C:cU (f.blocks.take (k+1))=cU (f.blocks.take k)++if iq b then [b.fin.name] else []:=by
    rw[take_add_one,hb, <- PG];rfl
   have nv:(cU (f.blocks.take k)).length<=1000000:=by
    have:=zL (f.blocks.take k);have:(f.blocks.take k).length<=f.blocks.length:=length_take_le' _ _;omega
   have bd:cU f.blocks=cU (f.blocks.take k)++((if iq b then [b.fin.name] else [])++cU (f.blocks.drop (k+1))):=by
    rw[<- append_assoc, <- C];unfold cU;rw[<- map_append, <- filter_append,take_append_drop]
   have J:iq b=true->ls[(cU (f.blocks.take k)).length]? =some (to b.fin.name):=λhc=>by
    rw[VK,getElem?_map,bd,hc,getElem?_append_right (bY _),Nat.sub_self];rfl
   have X:=Qi (f:=cE) HE (Qy (to:=to) hb);have hlen:((lH f.blocks to k).flatMap cE).length=f.blocks.length*16:=by rw[CG HE,ajx]
   have M:(((lH f.blocks to k).flatMap cE).drop (k*16+1)).take 15=bq b.fin:=by
    rw[<- drop_drop,X];show(bq b.fin++_).take 15=_;rw[take_left' (ahR _)]
   have zn:iq b=true->((lH f.blocks to k).flatMap cE).set (k*16+1+5) (S (to b.fin.name))=(lH f.blocks to (k+1)).flatMap cE:=λhc=>by
    rw[XF hb];exact Zw (j:=6) HE (Qy hb) oC (by rw[eu,bi hc];rfl)
   have eD:iq b=false->(lH f.blocks to (k+1)).flatMap cE=(lH f.blocks to k).flatMap cE:=λhc=>by rw[alV hb hc]
   have Hu:=Hu (b:=b);generalize (lH f.blocks to k).flatMap cE=cs at*
   generalize cU (f.blocks.take k)=pK at*
   generalize Vx:iq b=ic at*
   refine ws (bh ?_);refine aI (gA (vs:=bq b.fin) rfl rfl a57 VS M) aM (gB t57 VS oG) (cl Hu ?_);refine af (aB rfl (λhp=>?_) λhp=>?_)
   .have hp:ic=true:=hp;subst hp;rw[bi rfl] at C;have hg:=J rfl;have hs:=zn rfl;refine c6 iO (cJ ?_);refine ag ?_;refine dH (lT (d:=.s (.string _)) (cs':=(lH f.blocks to (k+1)).flatMap cE) rfl rfl rfl rfl hs) aM (eO t9 c9 ⟨rfl,oG⟩ rfl) (bJ bM (kU ?_));refine ax ?_;apply af;show aE _ _ _ _ _ _ _ _ _;refine ax ?_;refine af (aW (k+1) (bp ⟨rfl,rfl,rfl,?_,rfl,aa⟩ eH) oG oG);rw[C,length_append];rfl
   .have hp:ic=false:=hp;subst hp;rw[ai oS,append_nil] at C;have hn:=eD rfl;apply cB;show aE _ _ _ _ _ _ _ _ _;refine ax ?_;refine af (aW (k+1) (bp ⟨rfl,rfl,rfl,?_,rfl,aa⟩ ⟨rfl,rfl,?_,aa⟩) oG oG)
    .rw[C];rfl
    .rw[hn];rfl
  .have bt:¬ k<f.blocks.length:=s0 h
   have:k=f.blocks.length:=by omega
   subst this;exact bp eH eH
 .rintro s hg;rw[ajy] at hg;have hlen:((f.blocks.map (eu to)).flatMap cE).length=f.blocks.length*16:=by rw[CG HE,length_map]
  refine⟨_,hg.trans (mq (i:=3) (cs:=(f.blocks.map (eu to)).flatMap cE) (e:=59) rfl (l:=[(3,.rp 0 0),(6,.rp 1 0)]) eH (ml:=[(0,.cells (aL (lC f name to)) 48),(1,.cells ja 48)]) ⟨?_,rfl,aa⟩),al ?_⟩
  .show some (Row.cells (hd.map _) 48)=_;rw[U];refine congrArg (λx=>some (Row.cells (headD (lC f name to) x) 48)) (w8.trans ?_);rw[drop_zero,O1,cX oG];show D.sl _ f.blocks.length=.sl _ (f.blocks.map (eu to)).length;rw[length_map];rfl
  refine ag ?_;exact af (nG (kz rfl rfl AR zz rfl t48 (bY 8)) rfl)
section
variable{l:List az}{s:ByteArray}
def lF.atC(h:hZ (lV l) s=true):∃ g,l[eN l s]? =some g/\g.name=s:=by
 have h1:=amN h;rw[eN,bi h];rw[getElem?_map] at h1;let⟨g,hg,e⟩:=ej.1 h1;exact⟨g,hg,e⟩
def Lz(hn:(lV l).Nodup)(h:hZ (lV l) s=true):named l s=(eN l s:Nat):=by
 obtain⟨g,hg,rfl⟩:=lF.atC h;refine yj hg oS λj y hj hy=>?_;rw[Bool.eq_false_iff];intro e
 have e:y.name=g.name:=by
  have:y.name.toList=g.name.toList:=s0 e
  rw[ym,ym] at this;exact Ab this
 have h1:(lV l)[j]? =some g.name:=by simp[hy,e]
 have h2:(lV l)[eN l g.name]? =some g.name:=by simp[hg]
 have:=(getElem?_inj (bQ.1 h1).1 hn).1 (h1.trans h2.symm);omega
end
section
def sW(f g:az)(x y:End):Bool:= !(y.kind==8&&(y.a==x.a&&(lE f.aj y.b !=g.result)))
def xC(f g:az)(x:End):Bool:=
 (g.iter==(x.kind==7))&&(decide (g.args=x.args.length)&&((range x.args.length).all (ue f g x.args)&&(!(x.kind==6&&(x.a != -1&&(lE f.aj x.a !=g.result)))&&(x.kind==6||f.blocks.all λc=>sW f g x c.fin))))
def mI(l:List az)(f:az)(x:End):Bool:=if x.kind=6\/x.kind=7 then(match findF l x.name with
 |none=>false
 |some g=>xC f g x) else true
def B8(l:List az)(f:az):Bool:=f.blocks.all λb=>mI l f b.fin
variable{f:az}{b:bI}
def YT{f:az}(h:iX f=true){i j:Nat}{b c:bI}(hb:f.blocks[i]? =some b)(hc:f.blocks[j]? =some c)(U:i<j)(J:b.fin.kind=7)(M:c.fin.kind=7):b.fin.a≠c.fin.a:=λe=>by
 unfold iX at h;simp only[aJ] at h;have:=bK.1 h.2.2.2.1 j (mem_range.2 (bQ.1 hc).1);rw[kD,getD_some hc] at this;simp only[aJ] at this;have C:=this.2.2;rw[M] at C;simp only[beq_self_eq_true,Bool.true_and,Bool.not_eq_true',any_eq_false] at C;refine C b.fin.a ?_ (by simp[e]);unfold lD;refine mem_map.2 ⟨b,mem_filter.2 ⟨?_,by simp[J]⟩,rfl⟩;apply bD (i:=i);rw[getElem?_take_of_lt U];exact hb
theorem Sw{f:az}(h:iX f=true){b:bI}(hb:b∈f.blocks)(hk:b.fin.kind=6): -1<=b.fin.a:=by
 unfold iX at h;simp only[aJ] at h;let⟨k,C⟩:=cV hb;have:=bK.1 h.2.2.2.1 k (mem_range.2 (bQ.1 C).1);rw[kD,getD_some C] at this;simp only[aJ] at this;have:=this.1;unfold gD at this;simp only[fL,hk,Int.reduceEq,if_false,if_true,aJ,decide_eq_true_eq,Bool.or_eq_true,eb] at this;rcases this.1.2.2.2.1 with h1|h1
 .omega
 .have:=(nE h1).1;omega
def aiw(h:iX f=true)(hb:b∈f.blocks)(J:b.fin.kind=7)(l:List az):vU f l b.fin.a=findF l b.fin.name:=by
 unfold vU;have hp:vJ b.fin.a b=true:=by simp[vJ,J]
 cases hf:f.blocks.find? (vJ b.fin.a) with
 |none=>exact absurd hp (by simpa using find?_eq_none.1 hf b hb)
 |some c=>
  dsimp only;have hc:=mem_of_find?_eq_some hf;have C:=find?_some hf;simp[vJ,aJ,decide_eq_true_eq] at C;let⟨i,hi⟩:=cV hb;let⟨j,hj⟩:=cV hc;rcases Nat.lt_trichotomy i j with e|e|e
  .exact absurd C.2.symm (YT h hi hj e J C.1)
  .subst e;rw[hi] at hj;cases hj;rfl
  .exact absurd C.2 (YT h hj hi e C.1 J)
def ahV(h:iX f=true)(l:List az):B8 l f=tU f l:=by
 rw[Bool.eq_iff_iff];rw[B8,tU,bK,bK];constructor
 .intro H b hb;unfold kY;have C:=H b hb;unfold mI at C;by_cases M:b.fin.kind=6
  .rw[bi (.inl M)] at C;rw[bi M];unfold An;cases hf:findF l b.fin.name with
   |none=>rw[hf] at C;cases C
   |some g=>
    rw[hf] at C;simp only[xC,M,aJ,decide_eq_true_eq] at C;let⟨h1,h2,h3,h4,_⟩:=C;simp only[pP,aJ,decide_eq_true_eq];refine⟨s0 h1,⟨h2.symm,h3⟩,?_⟩;have:=Sw h hb M;simp at h4 ⊢;exact h4.imp (λh=>by omega) id
  rw[ai M];by_cases U:b.fin.kind=7
  .rw[bi (.inr U)] at C;rw[bi U];unfold Ao;cases hf:findF l b.fin.name with
   |none=>rw[hf] at C;cases C
   |some g=>
    rw[hf] at C;simp[xC,U,aJ,decide_eq_true_eq] at C;let⟨h1,h2,h3,_⟩:=C;simp[pP,aJ,decide_eq_true_eq];exact⟨s0 h1,h2.symm,h3⟩
  rw[ai U];by_cases X:b.fin.kind=8
  .rw[bi X];unfold y8;cases ho:vU f l b.fin.a with
   |none=>rfl
   |some g=>
    dsimp only;unfold vU at ho;cases hc:f.blocks.find? (vJ b.fin.a) with
    |none=>rw[hc] at ho;cases ho
    |some c=>
     rw[hc] at ho;dsimp only at ho;have Pa:=mem_of_find?_eq_some hc;have fI:=find?_some hc;simp only[vJ,aJ,decide_eq_true_eq] at fI;have C:=H c Pa;rw[mI,bi (.inr fI.1),ho] at C;simp only[xC,fI.1,aJ] at C;have h5:=C.2.2.2.2;simp only[Int.reduceBEq,Bool.false_or,bK] at h5;have:=h5 b hb;simpa[sW,X,fI.2] using this
  .rw[ai X]
 .intro H b hb;unfold mI;split
  .rename_i hk;have J:=H b hb;unfold kY at J;rcases hk with M|U
   .rw[bi M] at J;unfold An at J;cases hf:findF l b.fin.name with
    |none=>rw[hf] at J;cases J
    |some g=>
     rw[hf] at J;simp only[pP,aJ,decide_eq_true_eq] at J;let⟨h1,⟨h2,h3⟩,h4⟩:=J;simp only[xC,M,aJ,decide_eq_true_eq];refine⟨s0 h1,h2.symm,h3,?_,oS⟩;have:=Sw h hb M;simp at h4 ⊢;exact h4.imp (λh=>by omega) id
   .rw[ai oG,bi U] at J;unfold Ao at J;cases hf:findF l b.fin.name with
    |none=>rw[hf] at J;cases J
    |some g=>
     rw[hf] at J;simp only[pP,aJ,decide_eq_true_eq] at J;let⟨h1,h2,h3⟩:=J;simp only[xC,U,aJ,decide_eq_true_eq];refine⟨s0 h1,h2.symm,h3,oS,?_⟩;simp only[Int.reduceBEq,Bool.false_or,bK];intro c hc;have KL:=H c hc;unfold sW;by_cases X:c.fin.kind=8
     .by_cases ea:c.fin.a=b.fin.a
      .rw[kY,ai oG,ai oG,bi X] at KL;rw[y8,ea,aiw h hb U,hf] at KL;simpa[X,ea] using KL
      .simp[X,ea]
     .simp[X]
  .rfl
end
end Go.Abs
end
