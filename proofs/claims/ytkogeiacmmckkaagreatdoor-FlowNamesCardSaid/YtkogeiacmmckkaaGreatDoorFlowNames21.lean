/- Part 21. -/
import Derived.Test.YtkogeiacmmckkaaGreatDoorFlowNames20
set_option linter.all false
set_option maxHeartbeats 0
set_option maxRecDepth 10000
section
open Go Go.Proofs List
namespace Go.Abs
open Go.Proofs.Tryz
structure uE(b:bH):Prop where
 ins:b.ins.length<=100000
 args:∀ x∈b.ins,x.args.length<=100000
 ea:b.fin.args.length<=100000
 ew:b.fin.aA.length<=100000
 ei:b.fin.ins.args.length<=100000
def headD(f:aO)(x r:D):List D:=[S f.name,B f.iter,I f.args,U8 f.result,r,cH f.aU,io f.signals,x]
def su(f:aO)(i j:Nat):List D:=[S f.name,B f.iter,I f.args,U8 f.result,.rs i 0 f.ag.length,cH f.aU,io f.signals,.rs j 0 f.blocks.length]
def Zf{l:List Int}(hl:l.length<=100000):mV prog 174 [cH l] (l.map U8) l.length 5:=by
 have C:(l.map U8).length=l.length*1:=by simp
 refine y6 (fo f174) (.cons (r6 l) .nil) (.map λ_=>.s _) ?_;refine ws (SS ?_);have J:(l.map U8).take (l.length*1)=l.map U8:=cW (Nat.le_of_eq C)
 have last:AW prog nk true (.seq (.region 3 (Z Bp 3) false) .ret) (lE prog [.tmp 2] λd st=>∃ i,d=.rs i 0 l.length/\st.mem i=some (.cells (l.map U8) 5)) ⟨ay [(0,cH l)],λ_=>none,0⟩:=by
  refine ws (af ?_);refine gf (fW rfl rfl rfl SB c5 (jE J) rfl) aB ⟨HM,rfl,Nat.le_of_eq C.symm,oC,rfl,by unfold maxLen;omega,by rw[b5];omega,oS⟩ (SS ?_);exact ab (aD (d:=.rs 1 0 (0+l.length)) rfl ⟨1,by rw[Nat.zero_add],rfl⟩)
 refine ab (cI (λs=>aL prog s ⟨ay [(0,cH l)],λ_=>none,0⟩) (aj ?_) λs hg=>⟨_,hg,last⟩)
 cases l with
 |nil=>
  refine ax (jI (v:=.sl [] 0) rfl) aB aa (ax (G3 rfl) aB HM (ab (GF rfl (aF ?_) (bd (ao eH)))));refine SS ?_;exact ab ⟨_,.mz _ _ _ 2 5 rfl,bD (bc (aD rfl ⟨_,rfl,rfl⟩))⟩
 |cons a l=>
  have O:(a::l).length≠0:=by simp
  exact ax (jI (v:=.sl _ _) rfl) aB aa (ax (G4 rfl O) aB HM (ab (au rfl (λh=>oH) λh=>bd (ao eH))))
def RA{l:List Int}(hl:l.length<=100000):aE prog 174 [cH l] (cH l):=by
 have e:(l.map U8).take (l.length*prog.cellsOf 5)=l.map U8:=by
  rw[c5];exact cW (Nat.le_of_eq oS)
 have h:=(Zf hl).Kw (by rw[e];exact r6 l)
 rwa[e] at h
def akV{l:List ByteArray}(hl:l.length<=100000):mV prog 175 [io l] (l.map S) l.length 9:=by
 have C:(l.map S).length=l.length*1:=by simp
 refine y6 (fo f175) (.cons (xM l) .nil) (.map λ_=>.s _) ?_;refine ws (SS ?_);have J:(l.map S).take (l.length*1)=l.map S:=cW (Nat.le_of_eq C)
 have last:AW prog nk true (.seq (.region 3 (Z Bq 3) false) .ret) (lE prog [.tmp 2] λd st=>∃ i,d=.rs i 0 l.length/\st.mem i=some (.cells (l.map S) 9)) ⟨ay [(0,io l)],λ_=>none,0⟩:=by
  refine ws (af ?_);refine gf (fW rfl rfl rfl wW c9 (jE J) rfl) aB ⟨LG,rfl,Nat.le_of_eq C.symm,oC,rfl,by unfold maxLen;omega,by rw[b9];omega,oS⟩ (SS ?_);exact ab (aD (d:=.rs 1 0 (0+l.length)) rfl ⟨1,by rw[Nat.zero_add],rfl⟩)
 refine ab (cI (λs=>aL prog s ⟨ay [(0,io l)],λ_=>none,0⟩) (aj ?_) λs hg=>⟨_,hg,last⟩)
 cases l with
 |nil=>
  refine ax (jI (v:=.sl [] 0) rfl) aB aa (ax (G3 rfl) aB LG (ab (GF rfl (aF ?_) (bd (ao eH)))));refine SS ?_;exact ab ⟨_,.mz _ _ _ 2 9 rfl,bD (bc (aD rfl ⟨_,rfl,rfl⟩))⟩
 |cons a l=>
  have O:(a::l).length≠0:=by simp
  exact ax (jI (v:=.sl _ _) rfl) aB aa (ax (G4 rfl O) aB LG (ab (au rfl (λh=>oH) λh=>bd (ao eH))))
def EL{l:List ByteArray}(hl:l.length<=100000):aE prog 175 [io l] (io l):=by
 have e:(l.map S).take (l.length*prog.cellsOf 9)=l.map S:=by
  rw[c9];exact cW (Nat.le_of_eq oS)
 have h:=(akV hl).Kw (by rw[e];exact xM l)
 rwa[e] at h
def Zg{l:List iO}(hl:l.length<=100000):mV prog 179 [lg l] (l.flatMap cK) l.length 82:=by
 have C:(l.flatMap cK).length=l.length*2:=pd (sz:=2) (λ_=>rfl) l;refine y6 (fo f179) (.cons (lh l) .nil) (.flat Gv) ?_;refine ws (SS ?_);have J:(l.flatMap cK).take (l.length*2)=l.flatMap cK:=cW (Nat.le_of_eq C)
 have last:AW prog nk true (.seq (.region 3 (Z Br 3) false) .ret) (lE prog [.tmp 2] λd st=>∃ i,d=.rs i 0 l.length/\st.mem i=some (.cells (l.flatMap cK) 82)) ⟨ay [(0,lg l)],λ_=>none,0⟩:=by
  refine ws (af ?_);refine gf (fW rfl rfl rfl SC FA (jE J) rfl) aB ⟨HN,rfl,Nat.le_of_eq C.symm,oC,rfl,by unfold maxLen;omega,by rw[SD];omega,oS⟩ (SS ?_);exact ab (aD (d:=.rs 1 0 (0+l.length)) rfl ⟨1,by rw[Nat.zero_add],rfl⟩)
 refine ab (cI (λs=>aL prog s ⟨ay [(0,lg l)],λ_=>none,0⟩) (aj ?_) λs hg=>⟨_,hg,last⟩)
 cases l with
 |nil=>
  refine ax (jI (v:=.sl [] 0) rfl) aB aa (ax (G3 rfl) aB HN (ab (GF rfl (aF ?_) (bd (ao eH)))));refine SS ?_;exact ab ⟨_,.mz _ _ _ 2 82 rfl,bD (bc (aD rfl ⟨_,rfl,rfl⟩))⟩
 |cons a l=>
  have O:(a::l).length≠0:=by simp
  exact ax (jI (v:=.sl _ _) rfl) aB aa (ax (G4 rfl O) aB HN (ab (au rfl (λh=>oH) λh=>bd (ao eH))))
def RB{l:List iO}(hl:l.length<=100000):aE prog 179 [lg l] (lg l):=by
 have e:(l.flatMap cK).take (l.length*prog.cellsOf 82)=l.flatMap cK:=by
  rw[FA];exact cW (Nat.le_of_eq (pd (sz:=2) (λ_=>rfl) l))
 have h:=(Zg hl).Kw (by rw[e];exact lh l)
 rwa[e] at h
def aai{x:Ins}(hx:x.args.length<=100000):aE prog 178 [.agg (aI x)] (.agg (aI x)):=by
 have sW:=sW (l:=x.args) hx;refine bN (fo f178) (.cons (.agg (jP _)) .nil) (.agg (jP _)) ?_;refine ws (af ?_);refine er (bG ?_);refine er (af ?_);exact ab (jR (fT (cs:=aI x) (vs:=aI x) rfl rfl a45 kG rfl t45 (aP rfl)) rfl)
def aoE{b:bH}(h:uE b):aE prog 177 [.agg (bq b)] (.agg (bq b)):=by
 let⟨h1,h2,C,J,O⟩:=h;have tF:=tF (l:=b.ins) (g:=178) (fs:=[]) (cs:=[]) (p:=λx=>x) oG (.fn oS oS) (λx hx=>aai (h2 x hx));rw[List.map_id'] at tF;have U:=sW (l:=b.fin.args) C;have X:=sW (l:=b.fin.ins.args) O;have RB:=RB (l:=b.fin.aA) J;refine bN (fo f177) (.cons (.agg (Gh _)) .nil) (.agg (Gh _)) ?_;refine ws (af ?_);refine er (bG ?_);refine ab (eJ (ij [(4,5),(4,6),(4,7),(4,9),(8,9),(4,10),(8,10),(4,11),(8,11),(8,13),(12,13),(8,14),(12,14),(8,15),(12,15)]) ?_);refine aX ?_;refine z1 X rfl aB (az ?_);refine z1 U rfl aB (bg ?_);refine bG ?_;refine bU bX (aj ?_);exact ax (dL (vs:=bq _) rfl rfl V.h V.h rfl) ak (dN V.h V.h da) (bT (eK (cs':=bq _) rfl rfl rfl rfl) ak (bW V.h V.h bk (by rfl)) (ab (jR (fT (cs:=bq b) (vs:=bq b) rfl rfl FC mN rfl t69 (aP rfl)) rfl)))
def ak2{l:List bH}{g:FuncId}{fs cs:List D}{p:bH->bH}(hl:l.length<=1000000)(ht:Tr (.fn (.func g) fs cs))(hg:∀ x∈l,aE prog g (fs++[.agg (bq x)]++cs) (.agg (bq (p x)))):mV prog 176 [fA l,.fn (.func g) fs cs] ((l.map p).flatMap bq) l.length 69:=by
 refine y6 (fo f176) (.cons (Jn _) (.cons ht .nil)) (.flat Gh) ?_;refine ws (SS ?_);refine ab (aF (SS ?_));refine ab ⟨_,.mz _ _ _ 5 69 rfl,aM (aF ?_)⟩;refine az ?_
 refine ab (cJ (λs=>∃ r m nx,aL prog s ⟨ay [(5,.rs r 0 l.length)],m,nx⟩/\m r=some (.cells ((l.map p).flatMap bq) 69)) (gl (α:=Nat×Nat×Mem×Nat)
  (λs=>⟨ay [(1,.fn (.func g) fs cs),(5,.rs s.2.1 0 s.1),(8,fA l),(9,I l.length),(10,I s.1)],s.2.2.1,s.2.2.2⟩)
  (λs=>s.1<=l.length/\s.2.1<s.2.2.2/\s.2.2.1 s.2.1=some (.cells (((l.take s.1).map p).flatMap bq) 69)) (λs=>l.length - s.1) (0,_,_,_)
  (ao eH) ⟨Nat.zero_le _,Nat.lt_succ_self _,rfl⟩ ?_) ?_)
 .rintro⟨j,r,m,nx⟩ ⟨hj,hr,an⟩;dsimp only at hj hr an ⊢;refine SS ?_;refine ab ⟨_,rfl,λh=>?_,λh=>?_⟩
  .have U:j<l.length:=tn h
   have hx:l[j]? =some l[j]:=by simp[U]
   have O:=hg l[j] (dG _)
   have C:((l.take (j+1)).map p).flatMap bq=((l.take j).map p).flatMap bq++bq (p l[j]):=by
    rw[take_add_one,hx,map_append,flatMap_append];simp
   have J:(((l.take j).map p).flatMap bq).length=j*16:=by
    rw[pd (sz:=16) (λ_=>rfl),length_map,length_take];congr 1;omega
   generalize l[j]=x at hx O C;generalize ((l.take j).map p).flatMap bq=ds at an C J;refine ws (aX ?_);refine ab (gE (bG ?_));refine gf (fW rfl (aq oG (aq oG (aq oG an))) rfl Mr mN (gV s3 rfl) rfl) aB ⟨LH,rfl,aP rfl,oC,by rw[J];omega,by unfold maxLen;omega,by rw[CN];omega,by simp;omega⟩ (SS ?_);refine ab (af ?_);refine ab (bA (j+1,nx+1+1,_,_) (ao eH) ⟨oM,oM,?_⟩ oM);dsimp only;rw[C];exact ap _ _ _
  .have X:¬ j<l.length:=tn h
   have:j=l.length:=by omega
   subst this;rw[take_length] at an;exact⟨r,m,nx,ao eH,an⟩
 .rintro s ⟨r,m,nx,hg,an⟩;refine⟨_,hg,aj ?_⟩;refine af ?_;refine ab (aD rfl ⟨r,rfl,an⟩)
def aoF{f:aO}{m:Mem}{nx:Nat}(h1:f.ag.length<=100000)(h2:f.aU.length<=100000)(U:f.signals.length<=100000)(h4:f.blocks.length<=100000)(X:∀ b∈f.blocks,uE b):
 iZ prog 102 [.agg (aG f)] m nx λr m' aw=>∃ i j,nx<=i/\i<j/\j<aw/\r=.agg (su f i j)/\m' i=some (.cells (f.ag.map U8) 5)/\m' j=some (.cells (f.blocks.flatMap bq) 69)/\∀ k,k<nx->m' k=m k:=by
 have kR:=Zf (l:=f.ag) h1;have kS:=RA (l:=f.aU) h2;have EL:=EL (l:=f.signals) U;have C:=ak2 (l:=f.blocks) (g:=177) (fs:=[]) (cs:=[]) (p:=λx=>x) oG (.fn oS oS) (λx hx=>aoE (X x hx));rw[List.map_id'] at C;refine y8 (fo f102) ?_;refine ws (af ?_);refine ab (cI (λs=>∃ M:Mem,M nx=some (.cells (headD f (fA f.blocks) (.rs (nx+1+1) 0 f.ag.length)) 26)/\M (nx+1)=some (.cells ef 26)/\M (nx+1+1)=some (.cells (f.ag.map U8) 5)/\(∀ k,k<nx->M k=m k)/\aL prog s ⟨ay [(1,.rp nx 0),(2,.rp (nx+1) 0)],M,nx+1+1+1⟩) (GD (ij [(2,3),(2,4),(2,6),(5,6),(2,7),(5,7),(5,9),(8,9)]) ?_) ?_)
 .have an:∀ {a},up (up m nx (some (.cells (aG f) 26))) (nx+1) a nx=some (.cells (aG f) 26):=aq oG s3;refine af ?_;apply z6 kR rfl aB;have an:∀ {a b},up (up (up m nx (some (.cells (aG f) 26))) (nx+1) a) (nx+1+1) b nx=some (.cells (aG f) 26):=aq oG (aq oG s3);refine af ?_;refine z1 kS rfl aB (aX ?_);apply bT (dM (d:=.rs _ _ _) (cs':=_) rfl rfl an rfl rfl) ak (bW V.h V.h bk rfl);have an:∀ {M:Mem} {c},up M nx c nx=c:=ap _ _ _;refine aX ?_;refine bU (by simp[mT];omega) ⟨_,ap _ _ _,?_,?_,?_,ao eH⟩
  .repeat (first|exact ap _ _ _|apply aq oG)
  .repeat (first|exact ap _ _ _|apply aq oG)
  .intro k hk
   repeat (first|exact rfl|apply aq oG)
 rintro s ⟨M,O,q2,q3,q4,J⟩;refine⟨_,J,aj ?_⟩;clear J;have an:=O;refine af ?_;apply z6 C rfl aB;have an:∀ {a},up M (nx+1+1+1) a nx=_:=aq oG O;refine SS ?_;apply bT (dM (d:=.rs _ _ _) (cs':=_) rfl rfl an rfl rfl) ak (bW V.h V.h bk rfl);have an:∀ {M:Mem} {c},up M nx c nx=c:=ap _ _ _;have dQ:∀ {a b},up (up M (nx+1+1+1) a) nx b (nx+1)=some (.cells ef 26):=aq oG (aq oG q2);refine er (ax (dL rfl an V.h V.h rfl) ak (dN V.h V.h da) (bT (eK rfl rfl dQ rfl) ak (bW V.h V.h bk (by rfl)) (ab (jR (fT (cs:=su f (nx+1+1) (nx+1+1+1)) (vs:=su f (nx+1+1) (nx+1+1+1)) rfl s3 a26 iS rfl t26 (aP rfl)) ⟨nx+1+1,nx+1+1+1,oG,oG,Nat.lt_succ_self _,rfl,?_,?_,?_⟩))))
 .dsimp only
  repeat (first|exact q3|apply aq oG)
 .dsimp only
  repeat (first|exact ap _ _ _|apply aq oG)
 .intro k hk;dsimp only
  repeat (first|exact q4 k hk|apply aq oG)
def Ir:∀ a b c d e:Bool,(if(if(if(if a=true then true else b)=true then true else c)=true then true else d)=true then true else e)=(a||(b||(c||(d||e)))):=by decide
def hs7:∀ a b c d e f g:Bool,(if(if(if(if(if(if a=true then b else false)=true then true else c)=true then true else d)=true then true else e)=true then true else f)=true then true else g)=((a&&b)||(c||(d||(e||(f||g))))):=by decide
def EM(f:aO):Bool:=decide (40<(f.ag.length:Int))||(decide (10<(f.aU.length:Int))||(decide (10<(f.signals.length:Int))||(decide (200<(f.name.size:Int))||decide (30<(f.blocks.length:Int)))))
def tg(b:bH):Bool:=(decide (12<(b.ins.length:Int))&&decide ((b.ins.length:Int)<=200))||(decide (210<(b.ins.length:Int))||(decide (10<(b.fin.args.length:Int))||(decide (10<(b.fin.aA.length:Int))||(decide (200<(b.fin.name.size:Int))||decide (10<(b.fin.ins.args.length:Int))))))
def si(y:Ins):Bool:=decide (40<(y.args.length:Int))
def nK(f:aO):Bool:= !(EM f)&&f.blocks.all (λb=> !(tg b)&&b.ins.all λy=> !(si y))
def VM{f:aO}(h:nK f=true):∀ b∈f.blocks,b.fin.aA.length<=10:=λb hb=>by
 rw[nK,aH] at h;have:=cm.1 h.2 b hb;unfold tg at this;simp[aH,Bool.not_eq_true',Bool.or_eq_false_iff,decide_eq_false_iff_not] at this;omega
def wX{f:aO}:aE prog 14 [.agg (aG f)] (B (nK f)):=by
 have bB:∀ a∈[D.agg (aG f)],Tr a:=.cons (.agg (jG f)) .nil;refine bN (fo f14) bB (Tr.s _) ?_;refine aF (af ?_);refine ab (bF (cE [(0,aG f,26)] eH (l:=[(1,.pt (aG f))]) eH) (aM (aF ?_)));refine bg ?_;refine cF ?_;refine af ?_;refine cq rfl rfl (Pe rfl) (λhc=>⟨ak,V.h⟩) (cF ?_);have hd:EM f=_:=(Ir (decide (40<(f.ag.length:Int))) (decide (10<(f.aU.length:Int))) (decide (10<(f.signals.length:Int))) (decide (200<(f.name.size:Int))) (decide (30<(f.blocks.length:Int)))).symm;refine ab ⟨_,.refl _,cG rfl (λh=>?_) λh=>dn (aM (aF ?_))⟩
 .have h1:EM f=true:=hd.trans h;refine aM (aj (SS ?_));refine ab (dX (aD (d:=B false) rfl ?_));rw[nK,h1];rfl
 have h1:EM f=false:=hd.trans h;clear hd h
 have X:f.blocks.length<=100000:=by
  unfold EM at h1;simp[Bool.or_eq_false_iff,decide_eq_false_iff_not] at h1;omega
 refine aX ?_
 refine ab (cJ (λs=>(∃ nx,aL prog s ⟨ay [],λ_=>none,nx⟩)/\f.blocks.all (λb=> !(tg b)&&b.ins.all λy=> !(si y))=true) (gl (α:=Nat×Nat) (λk=>⟨ay [(1,.pt (aG f)),(36,fA f.blocks),(37,I f.blocks.length),(38,I k.1)],λ_=>none,k.2⟩)
  (λk=>k.1<=f.blocks.length/\(f.blocks.take k.1).all (λb=> !(tg b)&&b.ins.all λy=> !(si y))=true) (λk=>f.blocks.length - k.1) (0,1) (ao eH) ⟨Nat.zero_le _,rfl⟩ ?_) ?_)
 .rintro⟨k,nx⟩ ⟨hk,hinv⟩;dsimp only at hk hinv ⊢;refine SS ?_;refine ab ⟨_,rfl,λh=>?_,λh=>?_⟩
  .have al:k<f.blocks.length:=tn h
   have hx:f.blocks[k]? =some f.blocks[k]:=by simp[al]
   have U:f.blocks[k]∈f.blocks:=dG _;generalize f.blocks[k]=x at hx U
   have C:(!(tg x)&&x.ins.all λy=> !(si y))=false->nK f=false:=λhb=>by
    have:f.blocks.all (λb=> !(tg b)&&b.ins.all λy=> !(si y))=false:=by
     refine Bool.eq_false_iff.2 λht=>?_;have:=cm.1 ht x U;rw[hb] at this;cases this
    rw[nK,this];simp
   refine aF (aX ?_);refine ab (bF (r7 (i:=nx) (l:=[(1,.pt (aG f)),(4,.pt (bq x)),(36,fA f.blocks),(37,I f.blocks.length),(38,I k)]) s3 ⟨rfl,mC,rfl,rfl,rfl,aa⟩) (aM (aj ?_)));refine bg ?_;refine bg ?_;refine bg ?_;refine eD ?_;refine cq rfl rfl (Pe rfl) (λhc=>⟨ak,V.h⟩) (cF ?_);refine af ?_;have hd:tg x=_:=(hs7 (decide (12<(x.ins.length:Int))) (decide ((x.ins.length:Int)<=200)) (decide (210<(x.ins.length:Int))) (decide (10<(x.fin.args.length:Int))) (decide (10<(x.fin.aA.length:Int))) (decide (200<(x.fin.name.size:Int))) (decide (10<(x.fin.ins.args.length:Int)))).symm;refine ab (cG rfl (λh=>?_) λh=>dn (aF ?_))
   .have hb:tg x=true:=hd.trans h;refine aM (aj (SS ?_));refine ab (dX (dd (bc (aD (d:=B false) rfl ?_))));rw[C (by rw[hb];rfl)]
   .have hb:tg x=false:=hd.trans h;clear hd h
    have pL:x.ins.length<=100000:=by
     unfold tg at hb;simp[Bool.or_eq_false_iff,Bool.and_eq_false_iff,decide_eq_false_iff_not] at hb;omega
    refine aX ?_
    refine ab (gl (α:=Nat×Nat) (λj=>⟨ay [(1,.pt (aG f)),(36,fA f.blocks),(37,I f.blocks.length),(38,I k),(88,eV x.ins),(89,I x.ins.length),(90,I j.1)],λ_=>none,j.2⟩)
     (λj=>j.1<=x.ins.length/\(x.ins.take j.1).all (λy=> !(si y))=true) (λj=>x.ins.length - j.1) (0,nx+1) (ao eH) ⟨Nat.zero_le _,rfl⟩ ?_)
    rintro⟨j,ny⟩ ⟨hj,J⟩;dsimp only at hj J ⊢;refine SS ?_;refine ab ⟨_,rfl,λh=>?_,λh=>?_⟩
    .have dx:j<x.ins.length:=tn h
     have hy:x.ins[j]? =some x.ins[j]:=by simp[dx]
     have O:x.ins[j]∈x.ins:=dG _;generalize x.ins[j]=y at hy O;refine aF (aX ?_);refine ab (bF (r7 (i:=ny) (l:=[(1,.pt (aG f)),(6,.pt (aI y)),(36,fA f.blocks),(37,I f.blocks.length),(38,I k),(88,eV x.ins),(89,I x.ins.length),(90,I j)]) s3 ⟨rfl,mC,rfl,rfl,rfl,rfl,rfl,rfl,aa⟩) (aj ?_));refine aX ?_;refine ab (au rfl (λhp=>?_) λhp=>?_)
     .have hp:si y=true:=hp;refine ws (SS ?_);refine ab (bD (dd (dd (bc (aD (d:=B false) rfl ?_)))));rw[C]
      have:x.ins.all (λy=> !(si y))=false:=by
       refine Bool.eq_false_iff.2 λht=>?_;have:=cm.1 ht y O;rw[hp] at this;cases this
      rw[this];simp
     .have hp:si y=false:=hp;refine eQ (af ?_);refine ab (bA (j+1,ny+1) (ao eH) ⟨oM,?_⟩ oM);dsimp only;rw[take_add_one,hy,all_append,J];show(true&&(!(si y)&&true))=true;rw[hp];rfl
    .have bJ:¬ j<x.ins.length:=tn h
     rw[cW oG] at J;show aJ _ _ _ _ _ _ _ _ _;refine af ?_;refine ab (bA (k+1,ny) (ao eH) ⟨oM,?_⟩ oM);dsimp only;rw[take_add_one,hx,all_append,hinv];show(true&&((!(tg x)&&x.ins.all λy=> !(si y))&&true))=true;rw[hb,J];rfl
  .have bJ:¬ k<f.blocks.length:=tn h
   rw[cW oG] at hinv;exact⟨⟨nx,ao aa⟩,hinv⟩
 rintro s ⟨⟨nx,hg⟩,cb⟩;refine⟨_,hg,aj ?_⟩;refine SS ?_;refine ab (aD (d:=B true) rfl ?_);rw[nK,h1,cb];rfl
def ZG(a b:Int):Int:=ns .andNot .u64 a b
def Ll(w:List Int)(m:Nat):List Int:=w.set (m / 64) (ZG (w.getD (m / 64) 0) (IntKind.u64.wrap (1*2 ^ (min (m % 64) 64))))
def Hr(w:List Int)(n:Int):List Int:=if 0<=n then Ll w n.toNat else w
def Ac(w v:List Int):Nat->List Int
 |0=>w
 |k+1=>(Ac w v k).set k (CX ((Ac w v k).getD k 0) (v.getD k 0))
def ant(w v:List Int):List Int:=Ac w v 19
@[simp] theorem as1 (w : List Int) (m : Nat) : (Ll w m).length = w.length := by simp [Ll]
@[simp] theorem as2 (w : List Int) (n : Int) : (Hr w n).length = w.length := by unfold Hr; split <;> simp
@[simp] theorem Vi (w v : List Int) : ∀ k, (Ac w v k).length = w.length
 |0=>rfl
 |k+1=>by simp[Ac,Vi w v k]
@[simp] theorem as3 (w v : List Int) : (ant w v).length = w.length := Vi w v 19
def lQ(x:End):List Int:=if x.kind≠3/\x.kind≠4 then [x.to] else []
def rS(x:End):List Int:=if x.kind=2\/x.kind=8 then lQ x++[x.cz] else lQ x
def ik(x:End)(k:Nat):List Int:=rS x++(x.aA.take k).map (·.to)
def fY(x:End):List Int:=if 0<=x.others then ik x x.aA.length++[x.others] else ik x x.aA.length
def ag5{x:End}{k:Nat}{w:iO}(h:x.aA[k]? =some w):ik x (k+1)=ik x k++[w.to]:=by
 unfold ik;rw[List.take_add_one,h,List.map_append,List.append_assoc];rfl
def O3(x:End):(rS x).length<=2:=by unfold rS lQ;repeat' split<;>simp
def Js(x:End):(fY x).length<=x.aA.length+3:=by
 have:=O3 x;unfold fY ik;split<;>simp<;>omega
end Go.Abs
end
namespace Go.Abs
open List
open Go.Proofs.Tryz
open Go
section
def tbV(v:BitVec 64)(i:Nat):(IntKind.u64.wrap (v.toNat:Int)).toNat.testBit i=v.getLsbD i:=by
 rw[wrap_u64 v.isLt,eC,BitVec.testBit_toNat]
def MM{a:Int}(ha:fv a)(i:Nat):(BitVec.ofInt 64 a).getLsbD i=a.toNat.testBit i:=by
 obtain⟨n,rfl⟩:=fc ha.1;have h:=ha.2;rw[<- BitVec.testBit_toNat,BitVec.toNat_ofInt];congr 1;omega
def ans{a b:Int}(ha:fv a)(hb:fv b)(i:Nat):(CX a b).toNat.testBit i=(a.toNat.testBit i||b.toNat.testBit i):=by
 have:CX a b=IntKind.u64.wrap (((BitVec.ofInt 64 a||| BitVec.ofInt 64 b).toNat:Nat):Int):=rfl;rw[this,tbV,BitVec.getLsbD_or,MM ha,MM hb]
def Yo{a b:Int}(ha:fv a)(hb:fv b)(i:Nat):(sJ a b).toNat.testBit i=(a.toNat.testBit i&&b.toNat.testBit i):=by
 have:sJ a b=IntKind.u64.wrap (((BitVec.ofInt 64 a&&& BitVec.ofInt 64 b).toNat:Nat):Int):=rfl;rw[this,tbV,BitVec.getLsbD_and,MM ha,MM hb]
def NZ(v:BitVec 64):fv (IntKind.u64.wrap (v.toNat:Int)):=by
 rw[wrap_u64 v.isLt];have:=v.isLt;unfold fv;omega
def ad4(a b:Int):fv (ZG a b):=NZ (BitVec.ofInt 64 a&&& ~~~ BitVec.ofInt 64 b)
def Vh(a b:Int):fv (CX a b):=NZ (BitVec.ofInt 64 a||| BitVec.ofInt 64 b)
variable{k:Nat}
def aiP(hk:k<64):IntKind.u64.wrap (1*2 ^ (min k 64))=((2 ^ k:Nat):Int):=by
 have h1:min k 64=k:=by omega
 have h2:(2:Nat) ^ k<2 ^ 64:=Nat.pow_lt_pow_right oG hk;rw[h1,Int.one_mul, <- wrap_u64 h2]
 norm_cast
def fy(w:List Int)(r:Nat):Bool:=(w.getD (r / 64) 0).toNat.testBit (r % 64)
def hZ(w:List Int):Prop:=∀ u∈w,fv u
variable{w:List Int}
def hZ.get(h:hZ w)(i:Nat):fv (w.getD i 0):=by
 rw[dF];cases hx:w[i]? with
 |none=>exact⟨oS,oS⟩
 |some u=>exact h u (cL hx)
def ahB(hk:k<64):fv ((2 ^ k:Nat):Int):=by
 have h2:(2:Nat) ^ k<2 ^ 64:=Nat.pow_lt_pow_right oG hk;generalize (2:Nat) ^ k=z at h2;unfold fv;omega
def Bl(h:hZ w)(m:Nat):mH w m=fy w m:=by
 have hu:=h.get (m / 64);unfold mH fy;generalize w.getD (m / 64) 0=u at hu;have hk:min (m % 64) 64=m % 64:=by omega
 rw[hk];obtain⟨n,rfl⟩:=fc hu.1
 have e:((n:Int).fdiv (2 ^ (m % 64)))=((n / 2 ^ (m % 64):Nat):Int):=by
  rw[Int.fdiv_eq_ediv_of_nonneg _ (Int.le_of_lt (Int.pow_pos oG)),Int.natCast_ediv,Int.natCast_pow];rfl
 rw[e];have hd:n / 2 ^ (m % 64)<=n:=Nat.div_le_self _ _
 have hq:fv ((n / 2 ^ (m % 64):Nat):Int):=by
  have:=hu.2;revert hd;generalize n / 2 ^ (m % 64)=z;intro hd;unfold fv;omega
 have h1:fv 1:=by unfold fv;omega
 have hb:∀ i,(sJ ((n / 2 ^ (m % 64):Nat):Int) 1).toNat.testBit i=(n.testBit (m % 64)&&decide (i=0)):=λi=>by
  rw[Yo hq h1,eC];by_cases hi:i=0
  .subst hi;simp[Nat.testBit_eq_decide_div_mod_eq]
  .have:(1:Int).toNat.testBit i=false:=by
    show Nat.testBit 1 i=false;cases i with
    |zero=>omega
    |succ j=>simp[Nat.testBit_succ]
   rw[this];simp[hi]
 have hp:fv (sJ ((n / 2 ^ (m % 64):Nat):Int) 1):=NZ (BitVec.ofInt 64 _&&& BitVec.ofInt 64 1);generalize sJ ((n / 2 ^ (m % 64):Nat):Int) 1=z at hb hp;obtain⟨q,rfl⟩:=fc hp.1;simp[eC] at hb ⊢;cases hn:n.testBit (m % 64) with
 |false=>
  have:q=0:=Nat.eq_of_testBit_eq λi=>by rw[hb i,hn];simp
  subst this;rfl
 |true=>
  have:q=1:=Nat.eq_of_testBit_eq λi=>by
   rw[hb i,hn];cases i with
   |zero=>simp
   |succ j=>simp[Nat.testBit_succ]
  subst this;rfl
variable{i:Nat}{u:Int}
def Xa(hi:i<w.length)(r:Nat):fy (w.set i u) r=if r / 64=i then u.toNat.testBit (r % 64) else fy w r:=by
 unfold fy;simp[dF,getElem?_set];split
 .rename_i h;subst h;simp[hi]
 .rename_i h;rw[ai λe=>h e.symm]
def Ov(h:hZ w){m:Nat}(hm:m / 64<w.length)(r:Nat):fy (yp w m) r=(fy w r||decide (r=m)):=by
 have hk:m % 64<64:=by omega
 rw[yp,aiP hk,Xa hm];split
 .rename_i e;rw[ans (h.get _) (ahB hk),eC,Nat.testBit_two_pow,fy,e];congr 1;apply decide_eq_decide.2;omega
 .rename_i e;have:¬ r=m:=λh=>e (by rw[h]);simp[this]
def hZ.set(h:hZ w)(hu:fv u):hZ (w.set i u):=λx hx=>by
 rcases mem_or_eq_of_mem_set hx with h1|h1
 .exact h x h1
 .subst h1;exact hu
def hZ.with(h:hZ w)(m:Nat):hZ (yp w m):=h.set (Vh _ _)
def hZ.less(h:hZ w)(m:Nat):hZ (Ll w m):=h.set (ad4 _ _)
def hZ.Hr(h:hZ w)(n:Int):hZ (Hr w n):=by
 unfold Abs.Hr;split
 .exact h.less _
 .exact h
def hZ.Ac{v:List Int}(h:hZ w):∀ k,hZ (Ac w v k)
 |0=>h
 |k+1=>(hZ.Ac h k).set (Vh _ _)
def Vg{w v:List Int}(h:hZ w)(hv:hZ v)(hl:w.length=v.length)(he:∀ r,fy w r=fy v r):w=v:=by
 apply ext_getElem hl;intro i h1 h2;have C:w.getD i 0=w[i]:=by simp[dF,aV h1]
 have e2:v.getD i 0=v[i]:=by simp[dF,aV h2]
 have a:=h w[i] oS;have b:=hv v[i] oS
 have:w[i].toNat=v[i].toNat:=Nat.eq_of_testBit_eq λk=>by
  by_cases hk:k<64
  .have:=he (i*64+k);unfold fy at this;rw[show(i*64+k) / 64=i by omega,show(i*64+k) % 64=k by omega,C,e2] at this;exact this
  .have h2:2 ^ 64<=2 ^ k:=Nat.pow_le_pow_right oG oG;unfold fv at a b;rw[Nat.testBit_lt_two_pow oG,Nat.testBit_lt_two_pow oG]
 unfold fv at a b;omega
def ahy(n r:Nat):fy (replicate n 0) r=false:=by
 rw[fy,dF,getElem?_replicate];split<;>simp
end
end Go.Abs
section
open Go Go.Proofs List
namespace Go.Abs
open Go.Proofs.Tryz
def cD(f:aO)(h:D):List D:=[S f.name,B f.iter,I f.args,U8 f.result,cH f.ag,cH f.aU,io f.signals,fA f.blocks,h]
@[simp] theorem as5 (f : aO) (h : D) : (cD f h).length = 9 := rfl
def yu{h:D}(ht:Tr h)(f:aO):∀ d∈cD f h,Tr d:=.cons (.s _) (.cons (.s _) (.cons (.s _) (.cons (.s _) (.cons (r6 _) (.cons (r6 _) (.cons (xM _) (.cons (Jn _) (.cons ht .nil))))))))
def bQ(f:aO)(r k:Int):Bool:=if k=119 then cV f.ag r==1 else if k=114 then cV f.ag r==2 else if k=105 then cV f.ag r==3 else fB f.ag r
def JX{s:ByteArray}{k:Nat}(h:k<s.size):((s.data.toList.getD (k:Int).toNat 0).toNat:Int)∈dJ s/\(dJ s)[k]? =some ((s.data.toList.getD (k:Int).toNat 0).toNat:Int):=by
 have h1:k<s.data.toList.length:=tn h
 have h2:(dJ s)[k]? =some ((s.data.toList.getD (k:Int).toNat 0).toNat:Int):=by
  simp[dJ,aV h1,dF]
 exact⟨cL h2,h2⟩
def gD{n a b:Int}:aE prog 82 [I n,I a,I b] (B (dz n a b)):=by
 refine bN (fo f82) (.cons (.s _) (.cons (.s _) fl)) (Tr.s _) ?_;refine ws (SS ?_);refine er (bg ?_);refine ab (aD (d:=.s (.bool _)) rfl ?_);unfold dz;by_cases h:a<=n<;>simp[h]
def Cf{s:ByteArray}(hs:s.size<=maxLen):aE prog 223 [S s] (B (nM s)):=by
 unfold maxLen at hs;refine bN (fo f223) fl (Tr.s _) ?_;refine ws (SS ?_);refine ab (aM (aF (SS ?_)))
 refine ab (cJ (λst=>aL prog st ⟨ay [(0,S s)],λ_=>none,0⟩/\∀ (j:Nat) y,(dJ s)[j]? =some y->vF y=false) (dS (α:=Nat) (λk=>⟨ay [(0,S s),(3,I k)],λ_=>none,0⟩)
  (λk=>k<=s.size/\∀ j y,j<k->(dJ s)[j]? =some y->vF y=false) (λk=>s.size - k) 0 (ao eH) ⟨oG,λj y hj=>by omega⟩ ?_) ?_)
 .rintro k ⟨hk,hinv⟩;refine aX ?_;refine ab ⟨_,rfl,λh=>?_,λh=>?_⟩
  .have al:k<s.size:=tn h
   let⟨hm,hx⟩:=JX al;generalize hz:s.data.toList.getD (k:Int).toNat 0=z at hm hx;refine ws (cF ?_);refine af ?_;refine ab (au rfl (λhp=>?_) λhp=>?_)
   .refine ws (SS ?_);refine ab (bD (dd (bc (aD (d:=B false) rfl ?_))));have h1:(dJ s).any vF=true:=any_eq_true.2 ⟨_,hm,by rw[hz] at hp;revert hp;simp[vF]⟩;rw[nM,h1];simp
   .refine eQ (az ?_);refine ab (bA (k+1) (ao eH) ⟨oG,λj y hj hy=>?_⟩ oG);by_cases e:j=k
    .subst e;rw[hx] at hy;cases hy;rw[hz] at hp;revert hp;simp[vF]
    .exact hinv j y oG hy
  .have J:¬ k<s.size:=tn h
   exact⟨ao eH,λj y hy=>hinv j y (by have:=(bO.1 hy).1;simp[dJ] at this;omega) hy⟩
 .rintro st ⟨hg,C⟩;refine⟨_,hg,aj ?_⟩;have gD:=gD (n:=s.size) (a:=1) (b:=120);refine aX ?_;refine ab (aD (d:=.s (.bool _)) rfl ?_)
  have h1:(dJ s).any vF=false:=any_eq_false.2 λx hx=>by
   let⟨j,hj⟩:=dW hx;rw[C j x hj];simp
  rw[nM,h1];simp
def qu{s:ByteArray}(hs:s.size<=maxLen):aE prog 224 [S s] (B (isName s)):=by
 unfold maxLen at hs;refine bN (fo f224) fl (Tr.s _) ?_;refine ws (SS ?_);refine ab (aM (aF (SS ?_)))
 refine ab (cJ (λst=>aL prog st ⟨ay [(0,S s)],λ_=>none,0⟩/\∀ (j:Nat) y,(dJ s)[j]? =some y->vG y=false) (dS (α:=Nat) (λk=>⟨ay [(0,S s),(3,I k)],λ_=>none,0⟩)
  (λk=>k<=s.size/\∀ j y,j<k->(dJ s)[j]? =some y->vG y=false) (λk=>s.size - k) 0 (ao eH) ⟨oG,λj y hj=>by omega⟩ ?_) ?_)
 .rintro k ⟨hk,hinv⟩;refine aX ?_;refine ab ⟨_,rfl,λh=>?_,λh=>?_⟩
  .have al:k<s.size:=tn h
   let⟨hm,hx⟩:=JX al;generalize hz:s.data.toList.getD (k:Int).toNat 0=z at hm hx;refine ws (bg ?_);refine bg ?_;refine aX ?_;refine ab (au rfl (λhp=>?_) λhp=>?_)
   .refine ws (SS ?_);refine ab (bD (dd (bc (aD (d:=B false) rfl ?_))));have h1:(dJ s).any vG=true:=any_eq_true.2 ⟨_,hm,by rw[hz] at hp;revert hp;simp[vG]⟩;rw[isName,h1];simp
   .refine eQ (az ?_);refine ab (bA (k+1) (ao eH) ⟨oG,λj y hj hy=>?_⟩ oG);by_cases e:j=k
    .subst e;rw[hx] at hy;cases hy;rw[hz] at hp;revert hp;simp[vG]
    .exact hinv j y oG hy
  .have J:¬ k<s.size:=tn h
   exact⟨ao eH,λj y hy=>hinv j y (by have:=(bO.1 hy).1;simp[dJ] at this;omega) hy⟩
 .rintro st ⟨hg,C⟩;refine⟨_,hg,aj ?_⟩;have gD:=gD (n:=s.size) (a:=1) (b:=12);refine aX ?_;refine ab (aD (d:=.s (.bool _)) rfl ?_)
  have h1:(dJ s).any vG=false:=any_eq_false.2 λx hx=>by
   let⟨j,hj⟩:=dW hx;rw[C j x hj];simp
  rw[isName,h1];simp
def ym{f:aO}{hd:D}(h:hd.one=true):(cD f hd).all D.one=true:=by
 simp only[cD,all_cons,all_nil,h,Bool.and_true];rfl
section
variable{f:aO}{hd:D}(ht:Tr hd)(di:hd.one=true)
include ht di
def jA{b:Int}(hn:f.blocks.length<=1200):aE prog 150 [.agg (cD f hd),I b] (B (cS f b)):=by
 refine bN (fo f150) (.cons (.agg (yu ht f)) fl) (Tr.s _) ?_;refine aF (af ?_);refine ab (bF (cE [(0,cD f hd,206)] eH (l:=[(1,I b),(2,.pt (cD f hd))]) eH) (aj ?_));have gD:=gD (n:=b) (a:=0) (b:=(f.blocks.length:Int) - 1);refine cF ?_;exact ab (aD rfl rfl)
def cx{r k:Int}:aE prog 226 [.agg (cD f hd),I r,U8 k] (B (bQ f r k)):=by
 refine bN (fo f226) (.cons (.agg (yu ht f)) (.cons (.s _) fl)) (Tr.s _) ?_;refine aF (af ?_);refine ab (bF (cE [(0,cD f hd,206)] eH (l:=[(1,I r),(2,U8 k),(3,.pt (cD f hd))]) eH) (aM (aj ?_)));refine cF ?_;refine cq rfl rfl (P4 rfl rfl) (λhc=>⟨ak,rfl⟩) (SS ?_);refine ab (cG rfl (λh=>?_) λh=>dn (aj ?_))
 .refine aM (aj (SS ?_));refine ab (dX (aD (d:=.s (.bool _)) rfl ?_))
  have h0:cV f.ag r=0:=NS λhh=>by
   by_cases h1:r<0<;>simp[h1] at h<;>omega
  simp[bQ,fB,h0]
 .have hr:0<=r/\r<f.ag.length:=by
   by_cases h1:r<0<;>simp[h1] at h;omega
  obtain⟨n,rfl⟩:=fc hr.1;have hx:f.ag[n]? =some f.ag[n]:=aV oG;have hk:=vH hx;have hi:bQ f n k=if k=119 then f.ag[n]==1 else if k=114 then f.ag[n]==2 else if k=105 then f.ag[n]==3 else f.ag[n]==1||f.ag[n]==2:=by simp[bQ,fB,hk]
  rw[hi];generalize f.ag[n]=v at hx;clear h hi hk;refine eD ?_;refine ab (aM (aj (SS ?_)));refine ab (pQ (aj (af ?_)));refine ab (au rfl (λh0=>?_) λh0=>?_)
  .have h0:k=119:=tn h0
   refine ws (az ?_);refine ab (bD (cu (bc (aD (d:=.s (.bool _)) rfl ?_))));simp[h0]
  have h0:¬ k=119:=tn h0
  refine ws (af ?_);refine ab (au rfl (λh1=>?_) λh1=>?_)
  .have h1:k=114:=tn h1
   refine ws (az ?_);refine ab (bD (cu (bc (aD (d:=.s (.bool _)) rfl ?_))));simp[h1]
  have h1:¬ k=114:=tn h1
  refine ws (af ?_);refine ab (au rfl (λh2=>?_) λh2=>?_)
  .have h2:k=105:=tn h2
   refine ws (az ?_);refine ab (bD (cu (bc (aD (d:=.s (.bool _)) rfl ?_))));simp[h2]
  have h2:¬ k=105:=tn h2
  refine pw (aj (eD ?_));refine ab (aD (d:=.s (.bool _)) rfl ?_);rw[ai h0,ai h1,ai h2];by_cases C:v=1<;>simp[C]
end
def mB(f:aO)(a b:Int):Bool:=fB f.ag a&&(fB f.ag b&&cV f.ag a==cV f.ag b)
section
variable{f:aO}{hd:D}(ht:Tr hd)(di:hd.one=true)
include ht di
def Cg{a b:Int}:aE prog 227 [.agg (cD f hd),I a,I b] (B (mB f a b)):=by
 have hi:∀ r,bQ f r 118=fB f.ag r:=λr=>rfl;have C:=cx (f:=f) ht di (r:=a) (k:=118);have J:=cx (f:=f) ht di (r:=b) (k:=118);rw[hi] at C J;refine bN (fo f227) (.cons (.agg (yu ht f)) (.cons (.s _) fl)) (Tr.s _) ?_;refine aF (af ?_);refine ab (bF (cE [(0,cD f hd,206)] eH (l:=[(1,I a),(2,I b),(3,.pt (cD f hd))]) eH) (eJ iB ?_))
 have X:∀ r,fB f.ag r=true->∃ (n:Nat) (x:Int),r=n/\f.ag[n]? =some x/\cV f.ag r=x:=λr h=>by
  let⟨h1,h2⟩:=om h;obtain⟨n,rfl⟩:=fc h1;have hx:f.ag[n]? =some f.ag[n]:=aV oG;exact⟨n,_,rfl,hx,vH hx⟩
 unfold mB;cases O:fB f.ag a with
 |false=>
  rw[O] at C;have cx:=C;refine bG ?_;have cx:=J
  (iterate 2 refine z λ_ _=>?_);refine af ?_;(iterate 13 refine z λ_ _=>?_);refine af ?_
  exact bU bX (aD rfl rfl)
 |true=>
  rw[O] at C;cases U:fB f.ag b with
  |false=>
   rw[U] at J;have cx:=C;refine bG ?_;have cx:=J;refine aX ?_;(iterate 13 refine z λ_ _=>?_);refine af ?_;exact bU bX (aD rfl rfl)
  |true=>
   rw[U] at J;obtain⟨n,x,rfl,hx,e1⟩:=X a O;obtain⟨m,y,rfl,hy,e2⟩:=X b U;rw[e1,e2];have cx:=C;refine bG ?_;have cx:=J;refine bg ?_;refine bg ?_;refine SS ?_;exact bU bX (aD rfl rfl)
def wI{l:List Int}:aE prog 228 [.agg (cD f hd),av l] (B (iX f.ag l)):=by
 have C:∀ a∈[D.agg (cD f hd),av l],Tr a:=.cons (.agg (yu ht f)) (.cons (cR _) .nil);refine qP (fo f228).he C λO=>?_;have hlen:=(O (av l) oS).sl.1;unfold maxLen at hlen;refine bN (fo f228) C (Tr.s _) ?_;refine aF (af ?_);refine ab (bF (cE [(0,cD f hd,206)] eH (l:=[(1,av l),(2,.pt (cD f hd))]) eH) (aM (aF ?_)));refine SS ?_
 refine ab (cJ (λs=>aL prog s ⟨ay [],λ_=>none,1⟩/\∀ (j:Nat) y,l[j]? =some y->fB f.ag y=true) (dS (α:=Nat) (λk=>⟨ay [(1,av l),(2,.pt (cD f hd)),(5,I k)],λ_=>none,1⟩)
  (λk=>k<=l.length/\∀ j y,j<k->l[j]? =some y->fB f.ag y=true) (λk=>l.length - k) 0 (ao eH) ⟨oG,λj y hj=>by omega⟩ ?_) ?_)
 .rintro k ⟨hk,hinv⟩;refine aX ?_;refine ab ⟨_,rfl,λh=>?_,λh=>?_⟩
  .have al:k<l.length:=tn h
   have hx:l[k]? =some l[k]:=by simp[al]
   generalize l[k]=x at hx;have cx:aE prog 226 [.agg (cD f hd),I x,U8 118] (B (fB f.ag x)):=cx (f:=f) ht di (r:=x) (k:=118);refine eJ iB (eD ?_);refine bU bX (aj ?_);refine af ?_;refine ab (au rfl (λhp=>?_) λhp=>?_)
   .refine ws (SS ?_);refine ab (bD (dd (bc (aD (d:=B false) rfl ?_))));have:iX f.ag l=false:=all_eq_false.2 ⟨x,cL hx,tn hp⟩;rw[this]
   .refine eQ (az ?_);refine ab (bA (k+1) (ao eH) ⟨oG,λj y hj hy=>?_⟩ oG);by_cases e:j=k
    .subst e;rw[hx] at hy;cases hy;simpa using hp
    .exact hinv j y oG hy
  .have U:¬ k<l.length:=tn h
   exact⟨.forget _ _ _ _ λ_=>.inr rfl,λj y hy=>hinv j y (by have:=(bO.1 hy).1;omega) hy⟩
 .rintro s ⟨hg,J⟩;refine⟨_,hg,aj ?_⟩;refine SS ?_;refine ab (aD (d:=B true) rfl ?_)
  have:iX f.ag l=true:=cm.2 λx hx=>by
   let⟨j,hj⟩:=dW hx;exact J j x hj
  rw[this]
def LU{n r:Int}(hl:f.aU.length<=60)(hs:∀ k∈f.aU,k=1\/k=2):aE prog 229 [.agg (cD f hd),I n,I r] (B (oK f.ag f.aU r n)):=by
 have gD:=gD (n:=n) (a:=0) (b:=(f.aU.length:Int) - 1);have X:aE prog 226 [.agg (cD f hd),I r,U8 118] (B (fB f.ag r)):=cx (f:=f) ht di (r:=r) (k:=118);refine bN (fo f229) (.cons (.agg (yu ht f)) (.cons (.s _) fl)) (Tr.s _) ?_;refine aF (af ?_);refine ab (bF (cE [(0,cD f hd,206)] eH (l:=[(1,I n),(2,I r),(3,.pt (cD f hd))]) eH) (eJ iB ?_));unfold oK;have cx:=X;cases J:dz n 0 (f.aU.length - 1) with
 |false=>
  rw[J] at gD;refine cF ?_;(iterate 3 refine z λ_ _=>?_);refine af ?_;(iterate 13 refine z λ_ _=>?_);refine af ?_;exact bU bX (aD rfl rfl)
 |true=>
  rw[J] at gD;have h0:=jF.1 J;obtain⟨m,rfl⟩:=fc h0.1;have hx:f.aU[m]? =some f.aU[m]:=aV oG;have U:=vH hx;have C:=hs _ (cL hx);rw[U];generalize f.aU[m]=x at hx C;cases hv:fB f.ag r with
  |false=>
   rw[hv] at cx;refine bg ?_;refine aX ?_;(iterate 13 refine z λ_ _=>?_);refine af ?_;refine bU bX (aD (d:=.s (.bool _)) rfl ?_)
   have:(cV f.ag r==x)=false:=by
    unfold fB at hv;rcases C with rfl|rfl<;>simp at hv ⊢<;>simp[hv]
   rw[this];rfl
  |true=>
   rw[hv] at cx;let⟨h1,h2⟩:=om hv;obtain⟨i,rfl⟩:=fc h1;have hy:f.ag[i]? =some f.ag[i]:=aV oG;have O:=vH hy;rw[O];generalize f.ag[i]=y at hy;refine bg ?_;refine bg ?_;refine bg ?_;refine SS ?_;refine bU bX (aD (d:=.s (.bool _)) rfl ?_);show B (x==y)=B (y==x);rw[Bool.beq_comm]
end
def jy:List Int->Int->List Int
 |[],n=>[n]
 |x::l,n=>if x<n then x::jy l n else if x=n then x::l else n::x::l
def Yf{n:Int}:∀ {l:List Int} {k:Nat},k<=l.length->(∀ j y,j<k->l[j]? =some y->y<n)->(∀ y,l[k]? =some y->¬ y<n)->
 jy l n=if l[k]? =some n then l else l.take k++n::l.drop k
 |[],k,hk,_,_=>by
  have:k=0:=tn hk
  subst this;simp[jy]
 |x::l,0,_,_,h=>by
  have h0:¬ x<n:=h x rfl;by_cases e:x=n
  .subst e;simp[jy]
  .simp[jy,h0,e]
 |x::l,k+1,hk,h1,h2=>by
  have h0:x<n:=h1 0 x oG rfl;have ih:=Yf (n:=n) (l:=l) (k:=k) (tn hk) (λj y hj hy=>h1 (j+1) y oG (tn hy)) (λy hy=>h2 y (tn hy));simp[jy,bi h0,ih,getElem?_cons_succ];split<;>simp
def Ox{n x:Int}:∀ {l:List Int},x∈jy l n↔x∈l\/x=n
 |[]=>by simp[jy]
 |y::l=>by
  unfold jy;split
  .rw[mem_cons,Ox (l:=l),mem_cons];exact or_assoc.symm
  .split
   .rename_i e;subst e;simp only[mem_cons];constructor
    .exact .inl
    .rintro(h|h)
     .exact h
     .exact .inl h
   .simp[mem_cons];constructor
    .rintro(h|h)
     .exact .inr h
     .exact .inl h
    .rintro(h|h)
     .exact .inr h
     .exact .inl h
def V7{n:Int}:∀ {l:List Int},l.Pairwise (·<·)->(jy l n).Pairwise (·<·)
 |[],_=>by simp[jy]
 |y::l,h=>by
  rw[pairwise_cons] at h;unfold jy;split
  .rename_i hy;refine pairwise_cons.2 ⟨λz hz=>?_,V7 h.2⟩;rcases Ox.1 hz with hz|rfl
   .exact h.1 z hz
   .exact hy
  .split
   .exact pairwise_cons.2 h
   .refine pairwise_cons.2 ⟨λz hz=>?_,pairwise_cons.2 h⟩;rcases mem_cons.1 hz with rfl|hz
    .omega
    .have:=h.1 z hz;omega
def V8{n:Int}:∀ {l:List Int},(jy l n).length<=l.length+1
 |[]=>by simp[jy]
 |y::l=>by
  have:=V8 (n:=n) (l:=l);unfold jy;split
  .simp;omega
  .split<;>simp
def nQ(l:List Int):List Int:=l.foldl jy []
def zv:∀ {l z:List Int},z.Pairwise (·<·)->(l.foldl jy z).Pairwise (·<·)/\(∀ x,x∈l.foldl jy z↔x∈z\/x∈l)/\(l.foldl jy z).length<=z.length+l.length
 |[],z,h=>⟨h,λx=>by simp,oS⟩
 |y::l,z,h=>by
  let⟨h1,h2,C⟩:=zv (l:=l) (V7 (n:=y) h);have:=V8 (n:=y) (l:=z);refine⟨h1,λx=>?_,by simp[length_cons,foldl_cons];omega⟩;rw[foldl_cons,h2,Ox,mem_cons,or_assoc]
def Xc:∀ {l z:List Int},l.Pairwise (·<·)->z.Pairwise (·<·)->(∀ x,x∈l↔x∈z)->l=z
 |[],[],_,_,_=>rfl
 |[],y::z,_,_,h=>by have:=(h y).2 oS;simp at this
 |y::l,[],_,_,h=>by have:=(h y).1 oS;simp at this
 |x::l,y::z,hl,hz,h=>by
  rw[pairwise_cons] at hl hz
  have e:x=y:=by
   have h1:=(h x).1 oS;have h2:=(h y).2 oS;rcases mem_cons.1 h1 with h1|h1
   .exact h1
   .rcases mem_cons.1 h2 with h2|h2
    .exact h2.symm
    .have:=hl.1 y h2;have:=hz.1 x h1;omega
  subst e;rw[Xc hl.2 hz.2 λw=>⟨λC=>?_,λC=>?_⟩]
  .rcases mem_cons.1 ((h w).1 (by simp[C])) with e|e
   .have:=hl.1 w C;omega
   .exact e
  .rcases mem_cons.1 ((h w).2 (by simp[C])) with e|e
   .have:=hz.1 w C;omega
   .exact e
def rv(x:End):List Int:=nQ (fY x)
def U1{x:End}{t:Int}:t∈rv x↔t∈fY x:=by
 rw[rv,nQ,(zv (l:=fY x) (z:=[]) .nil).2.1];simp
def afl(x:End):(rv x).length<=x.aA.length+3:=by
 have:=(zv (l:=fY x) (z:=[]) .nil).2.2;have:=Js x;unfold rv nQ;simp at*;omega
def GH(bs:List bH)(L:Nat->List Int)(b:Nat):Nat->List Int:=match bs[b]? with
 |none=>L
 |some x=>(rv x.fin).foldl (gH b) L
def mU(bs:List bH)(k:Nat):Nat->List Int:=(range k).foldl (GH bs) λ_=>[]
def ma(x:Ins)(c:Int):Ins:=if c=116 then { x with to:=0 } else if c=97 then { x with a:=0 } else if c=98 then { x with b:=0 } else if c=110 then { x with n:=0 } else if c=108 then { x with args:=[] } else x
def mZ(x:Ins):Bool:=aZ x.to 0&&(aZ x.a 0&&(aZ x.b 0&&(aZ x.n 0&&kJ x)))
def cC(x:Ins)(fs:List Int):Bool:=mZ (fs.foldl ma x)
def ni(f:aO)(x:Ins):Bool:=
 if aC [30,31,32,33,34] x.op then cC x [116,97,98]&&(bQ f x.to 119&&(bQ f x.a 119&&bQ f x.b 119))
 else if x.op=35 then cC x [97,98]&&(bQ f x.a 114&&bQ f x.b 118)
 else if x.op=36 then cC x [116,97]&&(bQ f x.to 118&&bQ f x.a 114)
 else if x.op=37 then cC x [116,97,98]&&(bQ f x.to 118&&(bQ f x.a 114&&bQ f x.b 119))
 else if x.op=38 then cC x [97,98,108]&&(bQ f x.a 114&&(bQ f x.b 119&&(aZ x.args.length 1&&iX f.ag x.args)))
 else false
def eX(f:aO)(b C:Int)(x:Ins):Bool:=
 if x.op=1 then cC x [116,110]&&(bQ f x.to 119&&dz x.n (-1000000000) 1000000000)
 else if x.op=2 then cC x [116,97]&&mB f x.to x.a
 else if aC [3,4,6,7] x.op then cC x [116,97,98]&&(bQ f x.to 119&&(bQ f x.a 119&&bQ f x.b 119))
 else if x.op=5 then cC x [116,97,98]&&(bQ f x.to 119&&mB f x.a x.b)
 else if x.op=8 then cC x [116,97]&&(bQ f x.to 119&&bQ f x.a 119)
 else if x.op=9 then cC x [116,110]&&(bQ f x.to 114&&dz x.n 0 1)
 else if x.op=10 then cC x [116,110,108]&&(bQ f x.to 114&&(dz x.n 0 5&&(dz x.args.length 1 6&&iX f.ag x.args)))
 else if x.op=11 then cC x [116,97,110]&&(bQ f x.to 118&&(bQ f x.a 114&&dz x.n 0 5))
 else if x.op=12 then cC x [97,98,110]&&(bQ f x.a 114&&(bQ f x.b 118&&dz x.n 0 5))
 else if aC [13,14] x.op then cC x [116,97]&&(bQ f x.to 119&&bQ f x.a 114)
 else if x.op=15 then cC x [97]&&bQ f x.a 119
 else if x.op=16 then cC x [97]&&bQ f x.a 105
 else if x.op=17 then cC x [116,110]&&oK f.ag f.aU x.to x.n
 else if x.op=18 then cC x [97,110]&&oK f.ag f.aU x.a x.n
 else if x.op=19 then !aZ b 0&&(cC x [116,108]&&(bQ f x.to 118&&(aZ x.args.length C&&x.args.all (mB f x.to))))
 else false
def ji(x:End)(c:Int):End:=
 if c=97 then { x with a:=0 } else if c=98 then { x with b:=0 } else if c=116 then { x with to:=0 } else if c=101 then { x with cz:=0 }
 else if c=110 then { x with name:=.empty } else if c=105 then { x with ins:=fM } else if c=108 then { x with args:=[] } else x
def sv(x:End):Bool:=aZ x.a 0&&(aZ x.b 0&&(aZ x.to 0&&(aZ x.cz 0&&(x.name.toList==[]&&(aZ x.args.length 0&&(aZ x.ins.op 0&&mZ x.ins))))))
def eT(x:End)(fs:List Int):Bool:=(fs.any (·==104)||(aZ x.aA.length 0&&aZ x.others (-1)))&&sv (fs.foldl ji x)
def jj(f:aO)(x:End):Bool:=
 if x.kind=1 then eT x [116]&&cS f x.to
 else if x.kind=2 then eT x [97,116,101]&&(bQ f x.a 119&&(cS f x.to&&cS f x.cz))
 else if x.kind=3 then(if f.iter=true\/f.result=0 then eT x [97]&&aZ x.a (-1) else eT x [97]&&(bQ f x.a 118&&aZ (cV f.ag x.a) f.result))
 else if x.kind=4 then eT x [110]&&isName x.name
 else if x.kind=5 then eT x [116,105,104]&&(ni f x.ins&&(cS f x.to&&pk f x))
 else if x.kind=6 then eT x [97,116,110,108,104]&&(nM x.name&&(decide ((x.args.length:Int)<=6)&&(iX f.ag x.args&&((aZ x.a (-1)||bQ f x.a 118)&&(cS f x.to&&pk f x)))))
 else if x.kind=7 then eT x [97,116,110,108]&&(nM x.name&&(decide ((x.args.length:Int)<=6)&&(iX f.ag x.args&&(bQ f x.a 105&&cS f x.to))))
 else if x.kind=8 then eT x [97,98,116,101,104]&&(bQ f x.a 105&&(bQ f x.b 118&&(cS f x.to&&(cS f x.cz&&pk f x))))
 else if x.kind=9 then eT x [97,116]&&(f.iter&&(bQ f x.a 118&&(aZ (cV f.ag x.a) f.result&&cS f x.to)))
 else false
def wm(f:aO)(r:Int):bQ f r 119=aZ (cV f.ag r) 1:=rfl
def B0(f:aO)(r:Int):bQ f r 114=aZ (cV f.ag r) 2:=rfl
def Hq(f:aO)(r:Int):bQ f r 105=aZ (cV f.ag r) 3:=rfl
def uu(f:aO)(r:Int):bQ f r 118=fB f.ag r:=rfl
def ad3{f:aO}{r n:Int}(hs:∀ k∈f.aU,k=1\/k=2)(h:oK f.ag f.aU r n=true):fB f.ag r=true:=by
 rw[oK,aH,jF] at h;let⟨⟨h1,h2⟩,C⟩:=h;obtain⟨k,rfl⟩:=fc h1;have hk:k<f.aU.length:=by omega
 rw[vH (aV hk)] at C;have C:cV f.ag r=f.aU[k]:=tn C
 have:=hs _ (dG hk);rw[fB,C];rcases this with e|e<;>simp[e]
def aiJ(f:aO)(x:Ins):ni f x=((dO fX x.op).isSome&&p6 f.ag x ((dO fX x.op).getD nE)):=by
 let⟨op,to,a,b,n,args⟩:=x;unfold ni;dsimp only;by_cases h0:op=30\/op=31\/op=32\/op=33\/op=34
 .rcases h0 with rfl|rfl|rfl|rfl|rfl<;>
   (simp[aC,dO,fX,find?,p6,oz,ta,rY,cC,ma,mZ,wm,aZ,kJ,dz];grind)
 by_cases C:op=35
 .subst C;simp[aC,dO,fX,find?,p6,oz,ta,rY,cC,ma,mZ,wm,B0,uu,aZ,kJ,dz];grind
 by_cases J:op=36
 .subst J;simp[aC,dO,fX,find?,p6,oz,ta,rY,cC,ma,mZ,wm,B0,uu,aZ,kJ,dz];grind
 by_cases O:op=37
 .subst O;simp[aC,dO,fX,find?,p6,oz,ta,rY,cC,ma,mZ,wm,B0,uu,aZ,kJ,dz];grind
 by_cases U:op=38
 .subst U;simp[aC,dO,fX,find?,p6,oz,ta,rY,cC,ma,mZ,wm,B0,uu,aZ,kJ,dz];grind
 have hn:dO fX op=none:=by
  simp only[dO,fX,Option.map_eq_none_iff,find?_eq_none];simp;omega
 rw[hn,ai (by simp[aC];omega),ai C,ai J,ai O,ai U];rfl
def aiK(f:aO)(to:Int)(l:List Int)(h:fB f.ag to=true):l.all (mB f to)= !l.any λr=> !aZ (cV f.ag r) (cV f.ag to):=by
 have hk:cV f.ag to=1\/cV f.ag to=2:=by simpa[fB] using h
 rw[not_any_eq_all_not];congr 1;funext r;simp[mB,h,Bool.true_and,aZ,Bool.not_not,fB];grind
def Xd{f:aO}{b X:Nat}{x:Ins}(hs:∀ k∈f.aU,k=1\/k=2):eX f b X x=ky f b x true X:=by
 have hsv:= @ad3 f;let⟨op,to,a,b',n,args⟩:=x;unfold eX ky;dsimp only;by_cases U:op=16
 .subst U;simp[aC,cC,ma,mZ,Hq,aZ,kJ];grind
 by_cases O:op=17
 .subst O;simp[aC,cC,ma,mZ,aZ,kJ];grind
 by_cases J:op=18
 .subst J;simp[aC,cC,ma,mZ,aZ,kJ];grind
 by_cases C:op=19
 .subst C;cases hv:fB f.ag to with
  |false=>simp[aC,uu,hv]
  |true=>
   rw[aiK f to args hv]
   have hb:decide (0<(b:Int))= !decide ((b:Int)=0):=by
    by_cases h:b=0<;>simp[h];omega
   simp[aC,uu,hv,hb,cC,ma,mZ,aZ,kJ];grind
 rw[ai U,ai O,ai J,ai C,ai U,ai O,ai J,ai C];by_cases hm:op∈[1,2,3,4,5,6,7,8,9,10,11,12,13,14,15]
 .simp[mem_cons,not_mem_nil,or_false] at hm
  rcases hm with rfl|rfl|rfl|rfl|rfl|rfl|rfl|rfl|rfl|rfl|rfl|rfl|rfl|rfl|rfl<;>
   (simp[aC,dO,gW,find?,p6,oz,ta,rY,cC,ma,mZ,wm,B0,uu,aZ,kJ,dz,mB,fB];grind)
 .have hn:dO gW op=none:=by
   simp[dO,gW,Option.map_eq_none_iff,find?_eq_none];simp at hm ⊢;omega
  simp[mem_cons,not_mem_nil,or_false,not_or] at hm;rw[hn];simp[aC];grind
def O7{f:aO}{x:End}(hr:pU f=true):jj f x=jJ f x:=by
 have ht:=aiJ f x.ins
 have kY:(f.result=1\/f.result=2)\/f.result=0/\f.iter=false:=by
  simp[pU] at hr;grind
 let⟨kind,a,b,to,cz,name,ins,args,aA,others⟩:=x;dsimp only at ht;have hz:∀ y:Ins,G6 y=(aZ y.op 0&&mZ y):=λy=>by simp[G6,mZ,aZ,kJ]
 have h0:mZ fM=true:=rfl;have he:ByteArray.toList .empty=[]:=by simp
 unfold jj jJ gZ BX;simp[hz];by_cases h1:kind=1
 .subst h1;simp[eT,ji,sv,aZ];grind
 by_cases h2:kind=2
 .subst h2;simp[eT,ji,sv,aZ,wm];grind
 by_cases C:kind=3
 .subst C;simp[eT,ji,sv,aZ,uu,fB];grind
 by_cases J:kind=4
 .subst J;simp[eT,ji,sv,aZ];grind
 by_cases O:kind=5
 .subst O;simp[eT,ji,sv,aZ,ht,h0,fM];grind
 by_cases U:kind=6
 .subst U;simp[eT,ji,sv,aZ,uu,he];grind
 by_cases X:kind=7
 .subst X;simp[eT,ji,sv,aZ,Hq,he];grind
 by_cases h8:kind=8
 .subst h8;simp[eT,ji,sv,aZ,Hq,uu];grind
 by_cases h9:kind=9
 .subst h9;simp[eT,ji,sv,aZ,uu,fB];grind
 simp[h1,h2,C,J,O,U,X,h8,h9]
def BY(y:Ins)(d:D):List D:=[U8 y.op,I y.to,I y.a,I y.b,I y.n,d]
def Zu:Tr .z:=λF β w v h=>by
 rw[h.Ah];exact .z
def wJ(d:D)(l:List Int):Prop:=d=av l\/d=.z/\l=[]
def aiw{d:D}{l:List Int}(h:wJ d l):Tr d:=by
 rcases h with rfl|⟨rfl,_⟩
 .exact cR _
 .exact Zu
def ag3{y:Ins}{d:D}(h:wJ d y.args):∀ a∈BY y d,Tr a:=.cons (.s _) (.cons (.s _) (.cons (.s _) (.cons (.s _) (.cons (.s _) (.cons (aiw h) .nil)))))
def ag4{y:Ins}{d:D}(h:wJ d y.args):(BY y d).all D.one=true:=by
 rcases h with rfl|⟨rfl,_⟩<;>rfl
def Zv{x:Ins}{d0:D}{s:ByteArray}(X:wJ d0 x.args)(hs:s.size<=8):aE prog 225 [.agg (BY x d0),S s] (B (cC x (dJ s))):=by
 refine bN (fo f225) (.cons (.agg (ag3 X)) fl) (Tr.s _) ?_;refine aF (cY (uf (cs:=BY x d0) rfl) aB (ag4 X) (SS ?_));refine ab (bF (a6 (l:=[(1,S s),(2,.rp 0 0)]) (ml:=[(0,.cells (BY x d0) 45)]) eH eH) (aM (aF ?_)));refine SS ?_
 refine ab (cJ (λst=>∃ y d,aL prog st ⟨ay [(2,.rp 0 0)],b8 [(0,.cells (BY y d) 45)],1⟩/\(dJ s).foldl ma x=y/\wJ d y.args) (dS (α:=Nat×Ins×D) (λq=>⟨ay [(1,S s),(2,.rp 0 0),(5,I q.1)],b8 [(0,.cells (BY q.2.1 q.2.2) 45)],1⟩)
  (λq=>q.1<=s.size/\((dJ s).take q.1).foldl ma x=q.2.1/\wJ q.2.2 q.2.1.args) (λq=>s.size - q.1) (0,x,d0) (a6 eH eH) ⟨Nat.zero_le _,rfl,X⟩ ?_) ?_)
 .rintro⟨k,y,d⟩ ⟨hk,hy,hd⟩;dsimp only at hk hy hd ⊢;refine aX ?_;refine ab ⟨_,rfl,λh=>?_,λh=>?_⟩
  .have al:k<s.size:=tn h
   let⟨hm,hx⟩:=JX al;generalize hz:s.data.toList.getD (k:Int).toNat 0=z at hm hx;have U:((dJ s).take (k+1)).foldl ma x=ma y z.toNat:=by rw[s7 hx,hy]
   refine ws (az ?_);refine ab (qQ (aj (af ?_)));refine ab (au rfl (λh1=>lu ?_) λh1=>aj ?_)
   .refine af ?_;apply ab;show aJ _ _ _ _ _ _ _ _ _;refine az ?_;refine ab (bA (k+1,{ y with to:=0 },d) (a6 eH eH) ⟨oM,?_,hd⟩ oM);rw[hz] at h1;rw[U,ma,bi (tn h1)]
   rw[hz] at h1;have h1:¬ (z.toNat:Int)=116:=tn h1
   refine af ?_;refine ab (au rfl (λh2=>lu ?_) λh2=>aj ?_)
   .refine af ?_;apply ab;show aJ _ _ _ _ _ _ _ _ _;refine az ?_;refine ab (bA (k+1,{ y with a:=0 },d) (a6 eH eH) ⟨oM,?_,hd⟩ oM);rw[hz] at h2;rw[U,ma,ai h1,bi (tn h2)]
   rw[hz] at h2;have h2:¬ (z.toNat:Int)=97:=tn h2
   refine af ?_;refine ab (au rfl (λC=>lu ?_) λC=>aj ?_)
   .refine af ?_;apply ab;show aJ _ _ _ _ _ _ _ _ _;refine az ?_;refine ab (bA (k+1,{ y with b:=0 },d) (a6 eH eH) ⟨oM,?_,hd⟩ oM);rw[hz] at C;rw[U,ma,ai h1,ai h2,bi (tn C)]
   rw[hz] at C;have C:¬ (z.toNat:Int)=98:=tn C
   refine af ?_;refine ab (au rfl (λJ=>lu ?_) λJ=>aj ?_)
   .refine af ?_;apply ab;show aJ _ _ _ _ _ _ _ _ _;refine az ?_;refine ab (bA (k+1,{ y with n:=0 },d) (a6 eH eH) ⟨oM,?_,hd⟩ oM);rw[hz] at J;rw[U,ma,ai h1,ai h2,ai C,bi (tn J)]
   rw[hz] at J;have J:¬ (z.toNat:Int)=110:=tn J
   refine af ?_;refine ab (au rfl (λO=>lu ?_) λO=>?_)
   .refine af ?_;apply ab;show aJ _ _ _ _ _ _ _ _ _;refine az ?_;refine ab (bA (k+1,{ y with args:=[] },.z) (a6 eH eH) ⟨oM,?_,.inr ⟨rfl,rfl⟩⟩ oM);rw[hz] at O;rw[U,ma,ai h1,ai h2,ai C,ai J,bi (tn O)]
   rw[hz] at O;have O:¬ (z.toNat:Int)=108:=tn O
   apply eQ;show aJ _ _ _ _ _ _ _ _ _;refine az ?_;refine ab (bA (k+1,y,d) (a6 eH eH) ⟨oM,?_,hd⟩ oM);rw[U,ma,ai h1,ai h2,ai C,ai J,ai O]
  .have bJ:¬ k<s.size:=tn h
   rw[cW (by simp[dJ];omega)] at hy;exact⟨y,d,a6 eH eH,hy,hd⟩
 .rintro st ⟨y,d,hg,hy,hd⟩;refine⟨_,hg,aj ?_⟩;have hl:cC x (dJ s)=mZ y:=by rw[cC,hy]
  rw[hl];have AR:((y.args.length:Int)=0)↔y.args=[]:=⟨λh=>length_eq_zero_iff.1 oG,λh=>by rw[h];rfl⟩
  rcases hd with rfl|⟨rfl,hd⟩
  .refine bg ?_;refine bg ?_;refine eD ?_;refine ab (aD (d:=.s (.bool _)) rfl ?_);simp[mZ,aZ,kJ];grind
  .refine bg ?_;refine bg ?_;refine az ?_;refine cq rfl rfl (Xo rfl) (λhc=>⟨ak,V.h⟩) (az ?_);refine ab (aD (d:=.s (.bool _)) rfl ?_);simp[mZ,aZ,kJ,hd];grind
def cU{x:Ins}{s:ByteArray}(hs:s.size<=8):aE prog 225 [.agg (aI x),S s] (B (cC x (dJ s))):=Zv (d0:=av x.args) (.inl rfl) hs
def Zw(y:End)(C J:D):List D:=[U8 y.kind,I y.a,I y.b,I y.to,I y.cz,S y.name,U8 y.ins.op,I y.ins.to,I y.ins.a,I y.ins.b,I y.ins.n,C,J,lg y.aA,I y.others]
def gg{x:Abs.End}{s:ByteArray}(hs:s.size<=8):aE prog 230 [.agg (aR x),S s] (B (eT x (dJ s))):=by
 refine bN (fo f230) (.cons (.agg (ot x)) fl) (Tr.s _) ?_;refine aF (af ?_);refine ab (bF (a6 (l:=[(1,S s),(2,.rp 0 0)]) (ml:=[(0,.cells (aR x) 48)]) eH eH) (aj ?_));refine SS ?_;refine ab (aM (aF (SS ?_)))
 refine ab (cJ (λst=>∃ y C U,aL prog st ⟨ay [(2,.rp 0 0),(5,B ((dJ s).any (·==104)))],b8 [(0,.cells (Zw y C U) 48)],1⟩/\(dJ s).foldl ji x=y/\wJ C y.ins.args/\wJ U y.args) (dS (α:=Nat×Abs.End×D×D) (λq=>⟨ay [(1,S s),(2,.rp 0 0),(5,B (((dJ s).take q.1).any (·==104))),(6,I q.1)],b8 [(0,.cells (Zw q.2.1 q.2.2.1 q.2.2.2) 48)],1⟩)
  (λq=>q.1<=s.size/\((dJ s).take q.1).foldl ji x=q.2.1/\wJ q.2.2.1 q.2.1.ins.args/\wJ q.2.2.2 q.2.1.args) (λq=>s.size - q.1) (0,x,av x.ins.args,av x.args) (a6 eH eH) ⟨Nat.zero_le _,rfl,.inl rfl,.inl rfl⟩ ?_) ?_)
 .rintro⟨k,y,C,U⟩ ⟨hk,hy,di,J⟩;dsimp only at hk hy di J ⊢;refine aX ?_;refine ab ⟨_,rfl,λh=>?_,λh=>?_⟩
  .have al:k<s.size:=tn h
   let⟨hm,hx⟩:=JX al;generalize hz:s.data.toList.getD (k:Int).toNat 0=z at hm hx;have dw:((dJ s).take (k+1)).foldl ji x=ji y z.toNat:=by rw[s7 hx,hy]
   have wK:((dJ s).take (k+1)).any (·==104)=(((dJ s).take k).any (·==104)||(z.toNat:Int)==104):=by rw[take_add_one,hx,any_append];simp
   generalize ((dJ s).take k).any (·==104)=hb at wK;refine ws (az ?_);refine ab (qQ (aj (af ?_)));refine ab (au rfl (λh0=>lu ?_) λh0=>aj ?_)
   .refine af ?_;apply ab;show aJ _ _ _ _ _ _ _ _ _;refine az ?_;rw[hz] at h0;have h0:(z.toNat:Int)=97:=tn h0
    refine ab (bA (k+1,{ y with a:=0 },C,U) (a6 ⟨rfl,rfl,?_,rfl,aa⟩ eH) ⟨oM,?_,di,J⟩ oM)
    .show B hb=B (((dJ s).take (k+1)).any (·==104));rw[wK,h0];simp
    .rw[dw,ji,bi h0]
   rw[hz] at h0;have h0:¬ (z.toNat:Int)=97:=tn h0
   refine af ?_;refine ab (au rfl (λh1=>lu ?_) λh1=>aj ?_)
   .refine af ?_;apply ab;show aJ _ _ _ _ _ _ _ _ _;refine az ?_;rw[hz] at h1;have h1:(z.toNat:Int)=98:=tn h1
    refine ab (bA (k+1,{ y with b:=0 },C,U) (a6 ⟨rfl,rfl,?_,rfl,aa⟩ eH) ⟨oM,?_,di,J⟩ oM)
    .show B hb=B (((dJ s).take (k+1)).any (·==104));rw[wK,h1];simp
    .rw[dw,ji,ai h0,bi h1]
   rw[hz] at h1;have h1:¬ (z.toNat:Int)=98:=tn h1
   refine af ?_;refine ab (au rfl (λh2=>lu ?_) λh2=>aj ?_)
   .refine af ?_;apply ab;show aJ _ _ _ _ _ _ _ _ _;refine az ?_;rw[hz] at h2;have h2:(z.toNat:Int)=116:=tn h2
    refine ab (bA (k+1,{ y with to:=0 },C,U) (a6 ⟨rfl,rfl,?_,rfl,aa⟩ eH) ⟨oM,?_,di,J⟩ oM)
    .show B hb=B (((dJ s).take (k+1)).any (·==104));rw[wK,h2];simp
    .rw[dw,ji,ai h0,ai h1,bi h2]
   rw[hz] at h2;have h2:¬ (z.toNat:Int)=116:=tn h2
   refine af ?_;refine ab (au rfl (λO=>lu ?_) λO=>aj ?_)
   .refine af ?_;apply ab;show aJ _ _ _ _ _ _ _ _ _;refine az ?_;rw[hz] at O;have O:(z.toNat:Int)=101:=tn O
    refine ab (bA (k+1,{ y with cz:=0 },C,U) (a6 ⟨rfl,rfl,?_,rfl,aa⟩ eH) ⟨oM,?_,di,J⟩ oM)
    .show B hb=B (((dJ s).take (k+1)).any (·==104));rw[wK,O];simp
    .rw[dw,ji,ai h0,ai h1,ai h2,bi O]
   rw[hz] at O;have O:¬ (z.toNat:Int)=101:=tn O
   refine af ?_;refine ab (au rfl (λX=>lu ?_) λX=>aj ?_)
   .refine af ?_;apply ab;show aJ _ _ _ _ _ _ _ _ _;refine az ?_;rw[hz] at X;have X:(z.toNat:Int)=110:=tn X
    refine ab (bA (k+1,{ y with name:=.empty },C,U) (a6 ⟨rfl,rfl,?_,rfl,aa⟩ eH) ⟨oM,?_,di,J⟩ oM)
    .show B hb=B (((dJ s).take (k+1)).any (·==104));rw[wK,X];simp
    .rw[dw,ji,ai h0,ai h1,ai h2,ai O,bi X]
   rw[hz] at X;have X:¬ (z.toNat:Int)=110:=tn X
   refine af ?_;refine ab (au rfl (λh5=>lu ?_) λh5=>aj ?_)
   .refine az ?_;apply ab;show aJ _ _ _ _ _ _ _ _ _;refine az ?_;rw[hz] at h5;have h5:(z.toNat:Int)=105:=tn h5
    refine ab (bA (k+1,{ y with ins:=fM },.z,U) (a6 ⟨rfl,rfl,?_,rfl,aa⟩ eH) ⟨oM,?_,.inr ⟨rfl,rfl⟩,J⟩ oM)
    .show B hb=B (((dJ s).take (k+1)).any (·==104));rw[wK,h5];simp
    .rw[dw,ji,ai h0,ai h1,ai h2,ai O,ai X,bi h5]
   rw[hz] at h5;have h5:¬ (z.toNat:Int)=105:=tn h5
   refine af ?_;refine ab (au rfl (λh6=>lu ?_) λh6=>aj ?_)
   .refine af ?_;apply ab;show aJ _ _ _ _ _ _ _ _ _;refine az ?_;rw[hz] at h6;have h6:(z.toNat:Int)=108:=tn h6
    refine ab (bA (k+1,{ y with args:=[] },C,.z) (a6 ⟨rfl,rfl,?_,rfl,aa⟩ eH) ⟨oM,?_,di,.inr ⟨rfl,rfl⟩⟩ oM)
    .show B hb=B (((dJ s).take (k+1)).any (·==104));rw[wK,h6];simp
    .rw[dw,ji,ai h0,ai h1,ai h2,ai O,ai X,ai h5,bi h6]
   rw[hz] at h6;have h6:¬ (z.toNat:Int)=108:=tn h6
   refine af ?_;refine ab (au rfl (λh8=>lu ?_) λh8=>?_)
   .refine SS ?_;apply ab;show aJ _ _ _ _ _ _ _ _ _;refine az ?_;rw[hz] at h8;refine ab (bA (k+1,y,C,U) (a6 ⟨rfl,rfl,?_,rfl,aa⟩ eH) ⟨oM,?_,di,J⟩ oM)
    .show B true=B (((dJ s).take (k+1)).any (·==104));rw[wK,h8];simp
    .rw[dw,ji,ai h0,ai h1,ai h2,ai O,ai X,ai h5,ai h6]
   rw[hz] at h8;apply eQ;show aJ _ _ _ _ _ _ _ _ _;refine az ?_;refine ab (bA (k+1,y,C,U) (a6 ⟨rfl,rfl,?_,rfl,aa⟩ eH) ⟨oM,?_,di,J⟩ oM)
   .show B hb=B (((dJ s).take (k+1)).any (·==104));rw[wK,h8];simp
   .rw[dw,ji,ai h0,ai h1,ai h2,ai O,ai X,ai h5,ai h6]
  .have bJ:¬ k<s.size:=tn h
   rw[cW (by simp[dJ];omega)] at hy ⊢;exact⟨y,C,U,a6 eH eH,hy,di,J⟩
 .rintro st ⟨y,C,U,hg,hy,di,J⟩;refine⟨_,hg,aM (aj ?_)⟩
  have hl:eT x (dJ s)=(((dJ s).any (·==104)||(aZ y.aA.length 0&&aZ y.others (-1)))&&sv y):=by
   have hw:∀ (l:List Int) (x:Abs.End),(l.foldl ji x).aA=x.aA/\(l.foldl ji x).others=x.others:=λl=>by
    induction l with
    |nil=>exact λ_=>⟨rfl,rfl⟩
    |cons a l ih=>
     intro x
     have:(ji x a).aA=x.aA/\(ji x a).others=x.others:=by
      unfold ji
      repeat' split
      all_goals exact⟨rfl,rfl⟩
     rw[foldl_cons,(ih _).1,(ih _).2,this.1,this.2];exact⟨rfl,rfl⟩
   let⟨h1,h2⟩:=hw (dJ s) x;rw[hy] at h1 h2;rw[eT,hy,h1,h2]
  rw[hl];clear hl hy;generalize (dJ s).any (·==104)=hb;have cU:aE prog 225 [.agg [U8 y.ins.op,I y.ins.to,I y.ins.a,I y.ins.b,I y.ins.n,C],S ⟨#[]⟩] (B (mZ y.ins)):=Zv (x:=y.ins) di oC;refine bg ?_;refine aX ?_;refine ab (cG rfl (λh=>?_) λh=>dn (aj ?_))
  .refine aM (aj (SS ?_));refine ab (dX (aD (d:=.s (.bool _)) rfl ?_));revert h;simp[aZ];grind
  rcases J with rfl|⟨rfl,J⟩
  .refine bg ?_;refine bg ?_;refine bg ?_;refine bg ?_;refine bG ?_;refine ab (aD (d:=.s (.bool _)) rfl ?_);revert h;simp[sv,aZ];grind
  .refine bg ?_;refine bg ?_;refine cF ?_;refine cq rfl rfl (Xo rfl) (λhc=>⟨ak,V.h⟩) (bg ?_);refine bG ?_;refine ab (aD (d:=.s (.bool _)) rfl ?_);revert h;simp[sv,aZ,J];grind
def W2{P:Program}{st:St}{a n:Nat}{ty:TypeId}{cs vs:List D}(ha:st.env a=.pt cs)(hg:bM P ty=true)(hc:P.cellsOf ty=n)(hv:cs.take n=vs)(ht:aT P ty=true)(hl:n<=cs.length):
 ∃ p,tB P st (.cell a ty)=some (p,.agg vs)/\p:=⟨aT P ty=true/\n<=cs.length,by simp[tB,ha,lz,hg,if_true,hc,hv],ht,hl⟩
end Go.Abs
end
namespace Go.Abs
open List
section
variable{P:Program}{m:Mem}{bP:List Nat}
end
end Go.Abs
section
open Go Go.Proofs List
namespace Go.Abs
open Go.Proofs.Tryz
set_option maxRecDepth 100000
def s0(x:Abs.End)(l:List Int)(s:St):Prop:=∃ r m nx,r<nx/\m r=some (.cells (l.map I) 3)/\aL prog s ⟨ay [(1,.pt (aR x)),(3,.rs r 0 l.length)],m,nx⟩
def tI{x:Abs.End}(hlen:x.aA.length<=100000):aE prog 149 [.agg (aR x)] (av (fY x)):=by
 have bB:∀ a∈[D.agg (aR x)],Tr a:=.cons (.agg (ot x)) .nil;refine bN (fo f149) bB (cR _) ?_;refine aF (af ?_);refine ab (bF (cE [(0,aR x,48)] eH (l:=[(1,.pt (aR x))]) eH) (aF ?_));refine SS ?_;refine ab ⟨_,.mz _ _ _ 3 3 rfl,?_⟩;refine cI (s0 x (lQ x)) (aj ?_) λs hs=>?_
 .have yes:x.kind≠3/\x.kind≠4->lQ x=[x.to]:=λh=>by rw[lQ,bi h]
  have no:¬ (x.kind≠3/\x.kind≠4)->lQ x=[]:=λh=>by rw[lQ,ai h]
  have an:up (λ_=>(none:Option Row)) 1 (some (.cells [] 3)) 1=some (.cells [] 3):=ap _ _ _;by_cases U:x.kind=3
  .have yF:(x.kind !=3)=false:=by simp[U]
   refine aX ?_;(iterate 3 refine z λ_ _=>?_);refine SS ?_;refine ab (au rfl (λh=>oH) λh=>bd ?_);rw[no (by simp[U])];exact⟨_,_,_,Nat.lt_succ_self _,ap _ _ _,ao eH⟩
  .by_cases C:x.kind=4
   .have yF:(x.kind !=3)=true:=by simp[C]
    have X:(x.kind !=4)=false:=by simp[C]
    refine cF ?_;refine ab (au rfl (λh=>(by simp[C] at h)) λh=>bd ?_);rw[no (by simp[C])];exact⟨_,_,_,Nat.lt_succ_self _,ap _ _ _,ao eH⟩
   .have yF:(x.kind !=3)=true:=by simp[U]
    have X:(x.kind !=4)=true:=by simp[C]
    refine cF ?_;refine ab (au rfl (λh=>?_) λh=>(by simp[C] at h));refine lu (aX ?_);refine gf (fW rfl rfl rfl V.h V.h (gV rfl rfl) rfl) ak ⟨V.h,rfl,c0,oC,eb,db,(by rw[b3];first|omega|(simp;omega)),ey⟩ (SS ?_);apply ab;rw[yes ⟨U,C⟩];exact⟨_,_,_,Nat.lt_succ_self _,ap _ _ _,ao eH⟩
 let⟨r,m,nx,hr,an,hg⟩:=hs;refine⟨_,hg,cI (s0 x (rS x)) (aj ?_) λs hs=>?_⟩
 .have O:rS x=if x.kind=2\/x.kind=8 then lQ x++[x.cz] else lQ x:=rfl
  have J:(lQ x).length<=1:=by unfold lQ;split<;>simp
  generalize lQ x=l at an O J;have jo:(l.map I).length=l.length:=by simp
  by_cases h2:x.kind=2\/x.kind=8
  .rw[bi h2] at O;refine cF ?_;refine ab (au rfl (λh=>lu ?_) λh=>(by rcases h2 with h2|h2<;>simp[h2] at h));refine cB ?_;apply ab;rw[O];refine⟨_,_,_,Nat.lt_succ_self _,s3.trans (by rw[map_append];rfl),ao ⟨rfl,?_,aa⟩⟩;show D.rs _ 0 _=D.rs _ 0 _;rw[length_append];rfl
  .rw[ai h2] at O;refine cF ?_;refine ab (au rfl (λh=>(by exfalso;apply h2;revert h;by_cases e2:x.kind=2<;>by_cases e8:x.kind=8<;>simp[e2,e8])) λh=>bd ?_);rw[O];exact⟨r,m,nx,hr,an,ao eH⟩
 clear hg hr an;let⟨r,m,nx,hr,an,hg⟩:=hs;refine⟨_,hg,cI (s0 x (ik x x.aA.length)) (aF ?_) λs hs=>?_⟩
 .refine SS ?_
  refine ab (dS (α:=Nat×Nat×Mem×Nat) (λs=>⟨ay [(1,.pt (aR x)),(3,.rs s.2.1 0 (ik x s.1).length),(4,I s.1)],s.2.2.1,s.2.2.2⟩)
   (λs=>s.1<=x.aA.length/\s.2.1<s.2.2.2/\s.2.2.1 s.2.1=some (.cells ((ik x s.1).map I) 3)) (λs=>x.aA.length - s.1) (0,r,m,nx) (ao ⟨rfl,?_,rfl,aa⟩) ⟨Nat.zero_le _,hr,?_⟩ ?_)
  .show D.rs r 0 _=D.rs r 0 _;simp[ik]
  .show m r=_;rw[an];simp[ik]
  clear hg hr an;rintro⟨j,r,m,nx⟩ ⟨hj,hr,an⟩;dsimp only at hj hr an ⊢;refine bG ?_;refine ab ⟨_,rfl,λh=>?_,λh=>?_⟩
  .have dx:j<x.aA.length:=tn h
   have hy:x.aA[j]? =some x.aA[j]:=aV dx;generalize x.aA[j]=w at hy;have bL:=ag5 hy;have CR:(ik x (j+1)).length=(ik x j).length+1:=by rw[bL];simp
   have jo:((ik x j).map I).length=(ik x j).length:=by simp
   have J:(ik x j).length<=2+j:=by have:=O3 x;unfold ik;simp;omega
   generalize ik x j=l at an bL jo CR J;refine gE (cF ?_);refine af ?_;refine ab (az ?_);refine ab (bA (j+1,nx+1,_,_) (ao ⟨rfl,?_,rfl,aa⟩) ⟨oM,oM,?_⟩ oM)
   .show D.rs _ 0 _=D.rs _ 0 _;rw[CR]
   .dsimp only;rw[bL,map_append];exact ap _ _ _
  .have bJ:¬ j<x.aA.length:=tn h
   have:j=x.aA.length:=by omega
   subst this;exact⟨r,m,nx,hr,an,ao eH⟩
 clear hg hr an;let⟨r,m,nx,hr,an,hg⟩:=hs;refine⟨_,hg,cI (s0 x (fY x)) (aj ?_) λs hs=>?_⟩
 .have hd:fY x=if 0<=x.others then ik x x.aA.length++[x.others] else ik x x.aA.length:=rfl
  have J:(ik x x.aA.length).length<=2+x.aA.length:=by have:=O3 x;unfold ik;simp;omega
  generalize ik x x.aA.length=l at an hd J;have jo:(l.map I).length=l.length:=by simp
  refine az ?_;refine ab (au rfl (λh=>lu ?_) λh=>bd ?_)
  .rw[bi (tn h)] at hd;refine cB ?_;apply ab;rw[hd];refine⟨_,_,_,Nat.lt_succ_self _,s3.trans (by rw[map_append];rfl),ao ⟨rfl,?_,aa⟩⟩;show D.rs _ 0 _=D.rs _ 0 _;rw[length_append];rfl
  .rw[ai (tn h)] at hd;rw[hd];exact⟨r,m,nx,hr,an,ao eH⟩
 clear hg hr an;let⟨r,m,nx,hr,an,hg⟩:=hs;refine⟨_,hg,aF ?_⟩;refine af ?_;refine ab (bF (cE [(r,(fY x).map I,3)] ⟨an,aa⟩ (l:=[(2,av (fY x))]) ⟨kN (sz:=1) c3 (by rw[drop_zero,cW oS]),aa⟩) (aD rfl rfl))
def Au{l:List Int}{n:Int}(hl:l.length<=100000):aE prog 172 [av l,I n] (av (jy l n)):=by
 refine bN (fo f172) (.cons (cR _) fl) (cR _) ?_;refine ws (SS ?_);refine ab (aF (SS ?_))
 refine ab (cJ (λst=>∃ k:Nat,aL prog st ⟨ay [(0,av l),(1,I n),(5,I k)],λ_=>none,0⟩/\k<=l.length/\(∀ (j:Nat) y,j<k->l[j]? =some y->y<n)/\∀ y,l[k]? =some y->¬ y<n) (OH (α:=Nat) (λk=>⟨ay [(0,av l),(1,I n),(5,I k)],λ_=>none,0⟩)
  (λk=>k<=l.length/\∀ (j:Nat) y,j<k->l[j]? =some y->y<n) (λk=>l.length - k) 0 (ao eH) ⟨Nat.zero_le _,λj y hj=>by omega⟩ ?_) ?_)
 .rintro k ⟨hk,hinv⟩;by_cases al:k<l.length
  .have hx:l[k]? =some l[k]:=aV al;generalize l[k]=y at hx;have yD:decide ((k:Int)<(l.length:Int))=true:=decide_eq_true oG;refine bg ?_;refine az ?_;refine ab ⟨_,rfl,λh=>?_,λh=>?_⟩
   .have hy:y<n:=by simpa using h
    refine gE (az ?_);refine ab (bA (k+1) (ao eH) ⟨oG,λj O hj hz=>?_⟩ oG);by_cases e:j=k
    .subst e;rw[hx] at hz;cases hz;exact hy
    .exact hinv j O oG hz
   .have hy:¬ y<n:=by simpa using h
    exact⟨k,ao eH,hk,hinv,λO hz=>by rw[hx] at hz;cases hz;exact hy⟩
  .have yD:decide ((k:Int)<(l.length:Int))=false:=decide_eq_false oG;refine bG ?_;(iterate 6 refine z λ_ _=>?_);refine SS ?_;refine ab ⟨_,rfl,λh=>oH,λh=>?_⟩;exact⟨k,ao eH,hk,hinv,λO hz=>by have:=(bO.1 hz).1;omega⟩
 .rintro st ⟨k,hg,hk,hinv,bL⟩;have wD:=Yf hk hinv bL;refine⟨_,hg,aM (aj ?_)⟩;by_cases X:l[k]? =some n
  .rw[bi X] at wD;have yD:decide ((k:Int)<(l.length:Int))=true:=decide_eq_true (by have:=(bO.1 X).1;omega);refine bg ?_;refine az ?_;refine ab (cG rfl (λh=>?_) λh=>(by simp at h));refine aM (aj (af ?_));refine ab (dX (aD rfl ?_));rw[wD];rfl
  rw[ai X] at wD
  have dY:((l.map I).drop ((0:Int).toNat*1)).take (((k:Int) - 0).toNat*1)=(l.take k).map I:=by
   rw[show(0:Int).toNat*1=0 by simp,show((k:Int) - 0).toNat*1=k by omega,List.drop_zero,List.map_take]
  have jB:((l.map I).drop ((k:Int).toNat*1)).take (((l.length:Int) - k).toNat*1)=(l.drop k).map I:=by
   rw[show(k:Int).toNat*1=k by omega, <- map_drop,cW (by simp;try omega)]
  have S9:((l.take k).map I).take (((k:Int) - 0).toNat*1)=(l.take k).map I:=cW (by simp;try omega);have S':((l.drop k).map I).take (((l.length:Int) - k).toNat*1)=(l.drop k).map I:=cW (by simp;try omega);have xc:((l.take k).map I).length=k:=by simp;omega
  have vd:((l.drop k).map I).length=l.length - k:=by simp
  have U:((l.take k).map I++[I n])++(l.drop k).map I=(l.take k++n::l.drop k).map I:=by simp
  have hlen:(l.take k++n::l.drop k).length=l.length+1:=by simp;omega
  rw[wD];generalize l.take k++n::l.drop k=O at U hlen;generalize (l.take k).map I=A at dY S9 xc U;generalize (l.drop k).map I=C at jB S' vd U;by_cases al:k<l.length
  .have hx:l[k]? =some l[k]:=aV al;have bC:l[k]≠n:=λe=>X (by rw[hx,e]);generalize l[k]=y at hx bC;have yD:decide ((k:Int)<(l.length:Int))=true:=decide_eq_true oG;have kQ:(y==n)=false:=tn bC
   refine bg ?_;refine az ?_;refine ab (cG rfl (λh=>oH) λh=>dn (aj ?_));refine az ?_;apply ax (DK (es':=A) rfl dC c3 rfl rfl dY) aB ⟨dK,oG,oG,oG⟩;have J:=S9
   refine SS ?_
   apply ax (jI (v:=.s (.int _ _)) rfl) aB aa
   refine SS ?_
   refine SS ?_
   refine SS ?_
   refine ab (aF (az ?_));apply ax (DK (es':=C) rfl dC c3 rfl rfl jB) aB ⟨dK,oG,oG,oG⟩;have J:=S'
   refine SS ?_
   refine SS ?_
   refine ab (bF (cE [(4,O.map I,3)] ⟨by rw[<- U];rfl,aa⟩ (l:=[(4,av O)]) ⟨?_,aa⟩) (bD (aD rfl rfl)));show uX _ [(4,_,3)] (.rs 4 0 (0+((k:Int) - 0).toNat+1+((l.length:Int) - k).toNat))=_;rw[show 0+((k:Int) - 0).toNat+1+((l.length:Int) - k).toNat=O.length by omega];exact kN (sz:=1) c3 (by rw[drop_zero,cW oS])
  .have yD:decide ((k:Int)<(l.length:Int))=false:=decide_eq_false oG;refine bG ?_;(iterate 6 refine z λ_ _=>?_);refine SS ?_;refine ab (cG rfl (λh=>oH) λh=>dn (aj ?_));refine az ?_;apply ax (DK (es':=A) rfl dC c3 rfl rfl dY) aB ⟨dK,oG,oG,oG⟩;have J:=S9
   refine SS ?_
   apply ax (jI (v:=.s (.int _ _)) rfl) aB aa
   refine SS ?_
   refine SS ?_
   refine SS ?_
   refine ab (aF (az ?_));apply ax (DK (es':=C) rfl dC c3 rfl rfl jB) aB ⟨dK,oG,oG,oG⟩;have J:=S'
   refine SS ?_
   refine SS ?_
   refine ab (bF (cE [(4,O.map I,3)] ⟨by rw[<- U];rfl,aa⟩ (l:=[(4,av O)]) ⟨?_,aa⟩) (bD (aD rfl rfl)));show uX _ [(4,_,3)] (.rs 4 0 (0+((k:Int) - 0).toNat+1+((l.length:Int) - k).toNat))=_;rw[show 0+((k:Int) - 0).toNat+1+((l.length:Int) - k).toNat=O.length by omega];exact kN (sz:=1) c3 (by rw[drop_zero,cW oS])
end Go.Abs
end
namespace Go.Abs
open List
open Go.Proofs.Tryz
open Go
section
def uJ(w v:List Int):Prop:=∀ r,fy w r=true->fy v r=true
def uJ.refl(w:List Int):uJ w w:=λ_ h=>h
variable{w v:List Int}
def uJ.trans{u:List Int}(h:uJ u w)(k:uJ w v):uJ u v:=λr x=>k r (h r x)
structure eU(w:List Int):Prop where
 len:w.length=20
 all:hZ w
def eU.iq(h:eU w)(n:Int):eU (iq w n):=⟨by simp[h.len],Ug h.all⟩
def afN(C:eU w)(hv:eU v)(h:uJ w v)(n:Int):uJ (iq w n) (iq v n):=by
 unfold Abs.iq;split
 .by_cases hn:n.toNat / 64<20
  .intro r;rw[Ov C.all (by rw[C.len];exact hn),Ov hv.all (by rw[hv.len];exact hn),Bool.or_eq_true,Bool.or_eq_true];exact Or.imp (h r) id
  .unfold yp;rw[List.set_eq_of_length_le (by rw[C.len];omega),List.set_eq_of_length_le (by rw[hv.len];omega)];exact h
 .exact h
def hZ.gz(h:hZ w)(hv:hZ v):∀ k,hZ (gz w v k)
 |0=>h
 |k+1=>(hZ.gz h hv k).set (UT ((hZ.gz h hv k).get _)).1
def Vc{w v:List Int}(h:hZ w)(hv:hZ v):∀ k,k<=w.length->∀ r,fy (gz w v k) r=(fy w r&&(fy v r|| !decide (r / 64<k)))
 |0,_,r=>by simp[Abs.gz]
 |k+1,hk,r=>by
  have ih:=Vc h hv k oG;rw[Abs.gz,Xa oP];split
  .rename_i e;have h1:=ih r;have h2:¬ r / 64<k:=by omega
   simp only[h2,decide_false,Bool.not_false,Bool.or_true,Bool.and_true] at h1;unfold fy at h1;rw[e] at h1;rw[Yo ((hZ.gz h hv k).get _) (hv.get _),h1];unfold fy;rw[e];simp
  .rename_i e;rw[ih r];have:decide (r / 64<k)=decide (r / 64<k+1):=decide_eq_decide.2 oG;rw[this]
def Ow(C:eU w)(hv:eU v)(r:Nat):fy (jL w v) r=(fy w r&&fy v r):=by
 rw[jL,Vc C.all hv.all 20 (by rw[C.len];exact bK _)];by_cases hr:r / 64<20
 .simp[hr]
 .have:fy w r=false:=by
   rw[fy,dF,getElem?_eq_none (by rw[C.len];omega)];simp
  simp[this]
def eU.RW(C:eU w)(hv:eU v):eU (jL w v):=⟨by simp[C.len],C.all.gz hv.all 20⟩
structure H3(s t:List Int×Bool):Prop where
 l:eU s.1
 r:eU t.1
 sub:uJ s.1 t.1
 ok:s.2=true->t.2=true
def Vd(C:eU w)(hv:eU v)(h:uJ w v):∀ (rs:List Int) {a b:Bool},(a=true->b=true)->jQ w a rs=true->jQ v b rs=true
 |[],_,_,qK,hx=>qK hx
 |r::rs,a,b,qK,hx=>by
  have hx:jQ w (a&&mH w r.toNat) rs=true:=hx;refine Vd C hv h rs (a:=a&&mH w r.toNat) (b:=b&&mH v r.toNat) ?_ hx;rw[aH,aH,Bl C.all,Bl hv.all];exact λhh=>⟨qK hh.1,h _ hh.2⟩
def sf{s t:List Int×Bool}(h:H3 s t)(x:Ins):H3 (mD s x) (mD t x):=by
 refine⟨h.l.iq _,h.r.iq _,afN h.l h.r h.sub _,?_⟩;unfold mD;simp only[aH,Bool.or_eq_true];rintro⟨a,b⟩;refine⟨Vd h.l h.r h.sub _ h.ok a,b.imp id ?_⟩;rw[Bl h.l.all,Bl h.r.all];exact h.sub _
def Xb:∀ (l:List Ins) {s t:List Int×Bool},H3 s t->H3 (l.foldl mD s) (l.foldl mD t)
 |[],_,_,h=>h
 |x::l,_,_,h=>Xb l (sf h x)
def ahr(C:eU w)(hv:eU v)(h:uJ w v)(l:List Ins):H3 (lG l w) (lG l v):=Xb l ⟨C,hv,h,λx=>x⟩
def eU.ins(C:eU w)(l:List Ins):eU (lG l w).1:=(ahr C C (.refl w) l).l
variable{α:Type}{f:CS->α->CS}
def Jt(hk:∀ s a,s.ch=true->(f s a).ch=true)(hn:∀ s a,(f s a).ch=false->f s a=s):∀ (l:List α) (s:CS),(l.foldl f s).ch=false->l.foldl f s=s/\∀ a∈l,f s a=s
 |[],s,_=>⟨rfl,λa ha=>by simp at ha⟩
 |a::l,s,h=>by
  let⟨h1,h2⟩:=Jt hk hn l (f s a) h;have C:f s a=s:=hn s a (by rw[<- h1];exact h);rw[C] at h1 h2;refine⟨by rw[foldl_cons,C];exact h1,λb hb=>?_⟩;rcases mem_cons.1 hb with rfl|hb
  .exact C
  .exact h2 b hb
def V5(hk:∀ s a,s.ch=true->(f s a).ch=true):∀ (l:List α) (s:CS),s.ch=true->(l.foldl f s).ch=true
 |[],_,h=>h
 |a::l,s,h=>V5 hk l (f s a) (hk s a h)
variable{x:End}
def PM(s:CS)(t:Int)(h:s.ch=true):(dD x w s t).ch=true:=by
 unfold dD;split
 .rfl
 .exact h
def Yp(s:CS)(t:Int)(h:(dD x w s t).ch=false):dD x w s t=s:=by
 unfold dD at h ⊢;split
 .rename_i hc;rw[bi hc] at h;cases h
 .rfl
def ahs{bs:List bH}(s:CS)(k:Nat)(h:s.ch=true):(eR bs s k).ch=true:=by
 unfold eR;split
 .exact h
 .split
  .exact V5 PM _ s h
  .exact h
def aht{bs:List bH}(s:CS)(k:Nat)(h:(eR bs s k).ch=false):eR bs s k=s:=by
 unfold eR at h ⊢;split
 .rfl
 .rename_i x hx;rw[hx] at h;simp only at h;split
  .rename_i hr;rw[bi hr] at h;exact(Jt PM Yp _ s h).1
  .rfl
structure aaP(bs:List bH)(s:CS):Prop where
 fix:∀ b x,bs[b]? =some x->s.re.getD b false=true->∀ t∈nextR x.fin,s.re.getD t.toNat false=true/\jL (s.a8.getD t.toNat []) (jd x.fin t (lj x (s.a8.getD b [])).1)=s.a8.getD t.toNat []
variable{bs:List bH}{s:CS}
def ahu(h:(mq bs s).ch=false):mq bs s=⟨s.a8,s.re,false⟩/\aaP bs (mq bs s):=by
 let⟨h1,h2⟩:=Jt (ahs (bs:=bs)) (aht (bs:=bs)) (range bs.length) ⟨s.a8,s.re,false⟩ h;have e:mq bs s=⟨s.a8,s.re,false⟩:=h1;refine⟨e,⟨λb x hx hr t ht=>?_⟩⟩;rw[e] at hr ⊢;have C:=h2 b (mem_range.2 (bO.1 hx).1);have J:(eR bs ⟨s.a8,s.re,false⟩ b).ch=false:=by rw[C]
 unfold eR at C J;rw[hx] at C J;simp only at C J hr;rw[bi hr] at C J;have U:=(Jt PM Yp _ _ J).2 t ht;have O:(dD x.fin (lj x (s.a8.getD b [])).1 ⟨s.a8,s.re,false⟩ t).ch=false:=by rw[U]
 unfold dD at O;split at O
 .cases O
 .rename_i hc;have hc:=not_or.1 hc;refine⟨tn hc.1,Classical.byContradiction λhh=>hc.2 hh⟩
variable{n:Nat}
def V6{J:CS->Prop}(hb:∀ b∈bs,wl n b)(C:∀ s,ir n s->J s->J (mq bs s)):∀ (k:Nat) (s:CS),ir n s->J s->sZ s<k->ir n (pg bs k s)/\aaP bs (pg bs k s)/\J (pg bs k s)
 |0,s,_,_,h=>absurd h (Nat.not_lt_zero _)
 |k+1,s,hs,hj,h=>by
  let⟨p1,O⟩:=F4 hb hs;unfold pg;split
  .rename_i hc;apply V6 hb C k _ p1 (C s hs hj);rw[qL,bi hc] at O;omega
  .rename_i hc;exact⟨p1,(ahu (tn hc)).2,C s hs hj⟩
def ahv{J:CS->Prop}(hb:∀ b∈bs,wl n b)(h0:∀ s,J s->J ⟨s.a8,s.re,false⟩)(C:∀ s k,ir n s->J s->J (eR bs s k))(hs:ir n s)(h:J s):J (mq bs s):=by
 unfold mq
 have:∀ (l:List Nat) (s:CS),ir n s->J s->J (l.foldl (eR bs) s):=λl=>by
  induction l with
  |nil=>exact λs _ h=>h
  |cons a l ih=>exact λs hs h=>ih _ (On hb hs).1 (C s a hs h)
 exact this _ _ ⟨hs.lw,hs.lr,hs.mn,hs.rg⟩ (h0 s h)
def aiI{J:CS->Prop}(hb:∀ b∈bs,wl n b){k:Nat}(hs:ir n s)(h:J s)
 (C:∀ x,bs[k]? =some x->s.re.getD k false=true->∀ u,ir n u->J u->∀ t∈nextR x.fin,J (dD x.fin (lj x (s.a8.getD k [])).1 u t)):J (eR bs s k):=by
 unfold eR;split
 .exact h
 .rename_i x hx;split
  .rename_i hr;have C:=C x hx hr;have O:=(hb x (cL hx)).to;generalize (lj x (s.a8.getD k [])).1=w at C
   have:∀ (l:List Int),(∀ t∈l,t∈nextR x.fin)->∀ u,ir n u->J u->J (l.foldl (dD x.fin w) u):=λl=>by
    induction l with
    |nil=>exact λ_ u _ h=>h
    |cons a l ih=>exact λhl u hu h=>ih (λt ht=>hl t (by simp[ht])) _ (Jb hu (O a (hl a oS))).1 (C u hu h a (hl a oS))
   exact this _ (λ_ h=>h) s hs h
  .exact h
end
section
variable{i:Nat}
def Ju{α:Type}{l:List α}{k:Nat}{x d:α}(hk:k<l.length):(l.set k x).getD i d=if i=k then x else l.getD i d:=by
 rw[dF,getElem?_set,dF];by_cases h:k=i
 .subst h;rw[bi rfl,bi rfl,bi hk];rfl
 .rw[ai h,ai λe=>h e.symm]
def ir.aaG{n:Nat}{s:CS}(h:ir n s){b:Nat}(hb:b<n):eU (s.a8.getD b []):=by
 have hl:b<s.a8.length:=by rw[h.lw];exact hb
 have hx:s.a8[b]? =some s.a8[b]:=aV hl;rw[getD_some hx];have hm:s.a8[b]∈s.a8:=dG _;exact⟨h.mn _ hm,h.rg _ hm⟩
structure Cert where
 any:Bool
 is:List Bool
def iD(R i:Nat):Nat:=if i<R then i else 1200+(i - R)
def c7(R n:Nat)(w:List Int):List Bool:=(range n).map λi=>fy w (iD R i)
def oR(R n:Nat)(w:List Int):Prop:=∀ r,fy w r=true->∃ i,i<n/\r=iD R i
def lB(c:Cert)(r:Int):Cert:=if r= -1 then c else⟨c.any,c.is.set r.toNat true⟩
def yv(R:Nat)(c:Cert)(x:Ins):Cert:=if x.op=18 then lB (lB c (dt x)) ((R:Int)+x.n) else lB c (dt x)
def gp(R:Nat)(l:List Ins)(c:Cert):Cert:=l.foldl (yv R) c
def pz(x:End)(to:Int)(c:Cert):Cert:=if x.to≠to\/(fY x).tail.any (·==to)=true\/x.kind=3\/x.kind=4 then c else lB c (fI x)
def sx(a b:Cert):Cert:=if a.any=true then b else if b.any=true then a else⟨false,zipWith (λx y=>x&&y) a.is b.is⟩
def tT(c:Cert)(rs:List Int):Bool:=rs.all λr=>c.is.getD r.toNat false
def Gy(R n:Nat)(w:List Int):(c7 R n w).length=n:=by simp[c7]
def vV{R n:Nat}{w:List Int}(h:i<n):(c7 R n w)[i]? =some (fy w (iD R i)):=by simp[c7,h]
def DX{R n:Nat}{w:List Int}(h:¬ i<n):(c7 R n w)[i]? =none:=by simp[c7];omega
def aiL{R j:Nat}(hR:R<=1200)(h:iD R i=iD R j):i=j:=by
 unfold iD at h;split at h<;>split at h<;>omega
variable{r:Nat}
def aiM{w:List Int}(h:w.length=20)(hr:¬ r<1280):fy w r=false:=by
 rw[fy,dF,getElem?_eq_none (by rw[h];omega)];simp
section
variable{R n:Nat}(hR:R<=1200)(hn:n<=R+60)
include hR hn
def ajF(h:i<n):iD R i<1280:=by unfold iD;split<;>omega
def Ve{w:List Int}(C:eU w)(h:i<n)(r:Nat):fy (iq w (iD R i:Nat)) r=(fy w r||decide (r=iD R i)):=by
 have:=ajF hR hn h;rw[iq,bi oG,eC,Ov C.all (by rw[C.len];omega)]
def JE{w:List Int}(C:eU w)(h:i<n):(c7 R n w).set i true=c7 R n (iq w (iD R i:Nat)):=by
 apply ext_getElem?;intro j;rw[getElem?_set];by_cases hj:j<n
 .rw[vV hj,vV hj,Ve hR hn C h];by_cases e:i=j
  .subst e;simp[Gy,h]
  .rw[ai e];have:¬ iD R j=iD R i:=λh=>e (aiL hR h).symm;simp[this]
 .rw[DX hj,DX hj];split
  .rw[Gy,ai oG]
  .rfl
def Jv{w:List Int}(C:eU w)(ho:oR R n w)(h:i<n):oR R n (iq w (iD R i:Nat)):=λr hr=>by
 rw[Ve hR hn C h,Bool.or_eq_true] at hr;rcases hr with hr|hr
 .exact ho r hr
 .exact⟨i,h,tn hr⟩
omit hR hn in
def ahw{w v:List Int}(C:eU w)(hv:eU v):zipWith (λx y=>x&&y) (c7 R n w) (c7 R n v)=c7 R n (jL w v):=by
 apply ext_getElem?;intro j;rw[getElem?_zipWith];by_cases hj:j<n
 .rw[vV hj,vV hj,vV hj,Ow C hv]
 .rw[DX hj,DX hj,DX hj]
omit hR hn in
def Vf{w v:List Int}(C:eU w)(hv:eU v)(ho:oR R n v):oR R n (jL w v):=λr hr=>by
 rw[Ow C hv,aH] at hr;exact ho r hr.2
omit hR hn in
def aiN{w v:List Int}(O:eU w)(hv:eU v)(J:oR R n w)(U:oR R n v)(h:c7 R n w=c7 R n v):w=v:=by
 refine Vg O.all hv.all (by rw[O.len,hv.len]) λr=>?_
 have hb:∀ i,i<n->fy w (iD R i)=fy v (iD R i):=λi hi=>by
  have:=congrArg (λl:List Bool=>l[i]?) h;simpa only[vV hi,aY] using this
 cases C:fy w r with
 |true=>
  obtain⟨i,hi,rfl⟩:=J r C;rw[<- hb i hi,C]
 |false=>
  cases e2:fy v r with
  |false=>rfl
  |true=>
   obtain⟨i,hi,rfl⟩:=U r e2;rw[hb i hi,e2] at C;cases C
end
def wo:List Int:=replicate 20 nh
def Oy:eU wo:=⟨by simp[wo],λu hu=>by rw[eq_of_mem_replicate hu];simp[fv,nh]⟩
def ahx(h:r<1280):fy wo r=true:=by
 have h1:wo.getD (r / 64) 0=nh:=by
  rw[wo,dF,getElem?_replicate,bi oG];rfl
 rw[fy,h1];have h2:r % 64<64:=Nat.mod_lt _ oC;have C:nh.toNat=2 ^ 64 - 1:=rfl;rw[C,Nat.testBit_two_pow_sub_one];simpa using h2
def afO{w:List Int}(C:eU w):jL wo w=w:=by
 refine Vg (Oy.RW C).all C.all (by rw[(Oy.RW C).len,C.len]) λr=>?_;rw[Ow Oy C];by_cases h:r<1280
 .rw[ahx h,Bool.true_and]
 .rw[aiM C.len h,Bool.and_false]
structure Ci(R n:Nat)(x:Ins):Prop where
 w:dt x= -1\/∃ i:Nat,i<R/\dt x=i
 s:x.op=18->∃ i:Nat,R+i<n/\x.n=i
def V9{R n:Nat}(hR:R<=1200)(hn:n<=R+60)(s6:R<=n){w:List Int}{x:Ins}(h:Ci R n x)(C:eU w)(ho:oR R n w):
 yv R ⟨false,c7 R n w⟩ x=⟨false,c7 R n (zP w x)⟩/\eU (zP w x)/\oR R n (zP w x):=by
 have U:∀ {v:List Int},iq v (-1)=v:=λ{v}=>by rw[iq,ai oG]
 have O:∀ {i:Nat},i<R->((i:Nat):Int)=(iD R i:Nat):=λ{i} hi=>by rw[iD,bi hi]
 unfold yv zP;by_cases J:x.op=18
 .let⟨i,hi,e⟩:=h.s J;have X:dt x= -1:=by simp[dt,aC,lk,mu,J]
  have hp:mO x.n=(iD R (R+i):Nat):=by rw[e];rw[mO,iD,ai oG];omega
  rw[bi J,bi J,X,hp];refine⟨?_,C.iq _,Jv hR hn C ho hi⟩;unfold lB;rw[bi rfl,ai oG,e, <- JE hR hn C hi];congr 2
 .rw[ai J,ai J];rcases h.w with e|⟨i,hi,e⟩
  .rw[e,U];exact⟨bi rfl,C,ho⟩
  .rw[e,O hi];refine⟨?_,C.iq _,Jv hR hn C ho oG⟩;rw[lB,ai oG, <- JE hR hn C oG, <- O hi,eC]
def Gz{R n:Nat}(hR:R<=1200)(hn:n<=R+60)(C:R<=n):∀ {l:List Ins} (_:∀ x∈l,Ci R n x) {w:List Int} {ok:Bool} (_:eU w) (_:oR R n w),
 gp R l ⟨false,c7 R n w⟩=⟨false,c7 R n (l.foldl mD (w,ok)).1⟩/\eU (l.foldl mD (w,ok)).1/\oR R n (l.foldl mD (w,ok)).1
 |[],_,w,ok,hw,ho=>⟨rfl,hw,ho⟩
 |x::l,h,w,ok,hw,ho=>by
  let⟨h1,h2,J⟩:=V9 hR hn C (h x oS) hw ho;rw[gp,foldl_cons,foldl_cons,h1];exact Gz hR hn C (λy hy=>h y (by simp[hy])) h2 J
def count_tail{l:List Int}{a b:Int}(h:a=b):((a::l).count b=1)↔l.any (·==b)=false:=by
 subst h;rw[count_cons_self,any_eq_false];constructor
 .intro h x hx;have h0:l.count a=0:=by omega
  rw[count_eq_zero] at h0;intro e;have:x=a:=tn e
  subst this;exact h0 hx
 .intro h;have:l.count a=0:=count_eq_zero.2 λhm=>h a hm oS;omega
variable{x:End}
def V'{R n:Nat}(hR:R<=1200)(hn:n<=R+60)(s6:R<=n)(he:fY x=dI x)(s4:fI x= -1\/∃ i:Nat,i<R/\fI x=i){to:Int}{w:List Int}(C:eU w)(ho:oR R n w):
 pz x to ⟨false,c7 R n w⟩=⟨false,c7 R n (jd x to w)⟩/\eU (jd x to w)/\oR R n (jd x to w):=by
 have X:∀ {v:List Int},iq v (-1)=v:=λ{v}=>by rw[iq,ai oG]
 have U:D7 x to=true↔¬ (x.to≠to\/(fY x).tail.any (·==to)=true\/x.kind=3\/x.kind=4):=by
  rw[D7,aH,jr,jr,he];unfold dI;by_cases J:x.kind=3\/x.kind=4
  .rw[bi (by simpa[aC] using J)];simp[J]
  .rw[ai (by simpa[aC] using J),tail_cons];generalize ((if aC [2,8] x.kind=true then [x.cz] else [])++(x.aA.map (·.to)++if jD x=true then [x.others] else []))=l;constructor
   .rintro⟨h1,h2⟩ h;rcases h with h|h|h|h
    .exact h h1
    .have:=(count_tail (l:=l) h1).1 oG;rw[this] at h;cases h
    .exact J (.inl h)
    .exact J (.inr h)
   .intro h;have h1:x.to=to:=Classical.byContradiction λe=>h (.inl e);refine⟨h1,?_⟩;have:=(count_tail (l:=l) h1).2 (Bool.eq_false_iff.2 λe=>h (.inr (.inl e)));omega
 unfold pz jd;by_cases ha:D7 x to=true
 .rw[bi ha,ai (U.1 ha)];rcases s4 with e|⟨i,hi,e⟩
  .rw[e,X];exact⟨bi rfl,C,ho⟩
  .have O:((i:Nat):Int)=(iD R i:Nat):=by rw[iD,bi hi]
   rw[e,O];refine⟨?_,C.iq _,Jv hR hn C ho oG⟩;rw[lB,ai oG, <- JE hR hn C oG, <- O,eC]
 .rw[ai ha,bi (Classical.byContradiction λh=>ha (U.2 h))];exact⟨rfl,C,ho⟩
structure sA(R n N:Nat)(s:CS):Prop where
 ok:ir N s
 yes:∀ k,k<N->s.re.getD k false=true->oR R n (s.a8.getD k [])
 no:∀ k,k<N->s.re.getD k false=false->s.a8.getD k []=wo
def c8(R n:Nat)(s:CS)(k:Nat):Cert:=if s.re.getD k false=true then⟨false,c7 R n (s.a8.getD k [])⟩ else⟨true,replicate n false⟩
def EW(x:End)(R n:Nat)(w:List Int)(s:CS)(t:Nat):Cert:=sx (c8 R n s t) (pz x t ⟨false,c7 R n w⟩)
def W7{R n N:Nat}(hR:R<=1200)(hn:n<=R+60)(s6:R<=n){s:CS}(hs:sA R n N s){x:End}(he:fY x=dI x)(s4:fI x= -1\/∃ i:Nat,i<R/\fI x=i){t:Nat}(ht:t<N)
 {w:List Int} (hw:eU w) (ho:oR R n w):
 sA R n N (dD x w s t)/\((EW x R n w s t=c8 R n s t/\dD x w s t=s)\/((EW x R n w s t).any≠(c8 R n s t).any\/(EW x R n w s t).is≠(c8 R n s t).is)/\(dD x w s t).ch=true/\
  ∀ k,c8 R n (dD x w s t) k=if k=t then EW x R n w s t else c8 R n s k):=by
 obtain⟨o1,o2,o3⟩:=V' hR hn s6 he s4 (to:=(t:Int)) hw ho;have hlw:s.a8.length=N:=hs.ok.lw;have hlr:s.re.length=N:=hs.ok.lr;have o8:=hs.ok.aaG ht;have J:=(Jb (x:=x) (w:=w) (t:=(t:Int)) hs.ok ⟨oG,oG⟩).1;unfold EW;rw[o1];generalize hv:jd x t w=v at o2 o3
 have key:∀ u:List Int,(s.re.getD t false=true->u≠s.a8.getD t [])->jL (s.a8.getD t []) v=u->oR R n u->sx (c8 R n s t) ⟨false,c7 R n v⟩=⟨false,c7 R n u⟩->(⟨false,c7 R n u⟩:Cert).any≠(c8 R n s t).any\/c7 R n u≠(c8 R n s t).is->
  sA R n N (dD x w s t)/\((sx (c8 R n s t) ⟨false,c7 R n v⟩=c8 R n s t/\dD x w s t=s)\/((sx (c8 R n s t) ⟨false,c7 R n v⟩).any≠(c8 R n s t).any\/(sx (c8 R n s t) ⟨false,c7 R n v⟩).is≠(c8 R n s t).is)/\(dD x w s t).ch=true/\
  ∀ k,c8 R n (dD x w s t) k=if k=t then sx (c8 R n s t) ⟨false,c7 R n v⟩ else c8 R n s k):=λu hu hm X hb bC=>by
  have rU:dD x w s t=⟨s.a8.set t u,s.re.set t true,true⟩:=by
   unfold dD;rw[eC,hv,hm,bi];cases e:s.re.getD t false with
   |false=>exact .inl rfl
   |true=>exact .inr (hu e)
  rw[rU] at J ⊢;have U:∀ k,(s.a8.set t u).getD k []=if k=t then u else s.a8.getD k []:=λk=>Ju oG
  have O:∀ k,(s.re.set t true).getD k false=if k=t then true else s.re.getD k false:=λk=>Ju oG
  refine⟨⟨J,λk hk h=>?_,λk hk h=>?_⟩,.inr ⟨?_,rfl,λk=>?_⟩⟩
  .rw[U];rw[O] at h;by_cases e:k=t
   .rw[bi e];exact X
   .rw[ai e] at h ⊢;exact hs.yes k hk h
  .rw[U];rw[O] at h;by_cases e:k=t
   .rw[bi e] at h;cases h
   .rw[ai e] at h ⊢;exact hs.no k hk h
  .rw[hb];exact bC
  .rw[hb];unfold c8;rw[U,O];by_cases e:k=t
   .rw[bi e,bi e,bi e,bi rfl]
   .rw[ai e,ai e,ai e]
 cases C:s.re.getD t false with
 |false=>
  have hc:c8 R n s t=⟨true,List.replicate n false⟩:=by unfold c8;rw[C];rfl
  refine key v (λh=>by rw[C] at h;cases h) (by rw[hs.no t ht C,afO o2]) o3 ?_ (.inl ?_)
  .rw[hc];rfl
  .rw[hc];simp
 |true=>
  have hc:c8 R n s t=⟨false,c7 R n (s.a8.getD t [])⟩:=by unfold c8;rw[C];rfl
  have hb:sx (c8 R n s t) ⟨false,c7 R n v⟩=⟨false,c7 R n (jL (s.a8.getD t []) v)⟩:=by
   rw[hc];unfold sx;rw[ai oS,ai oS,ahw o8 o2]
  by_cases hm:jL (s.a8.getD t []) v=s.a8.getD t []
  .have rU:dD x w s t=s:=by
    unfold dD;rw[eC,hv,hm,C,ai oS]
   rw[rU,hb,hm,hc];exact⟨hs,.inl ⟨rfl,rfl⟩⟩
  .refine key _ (λ_=>hm) rfl (Vf o8 o2 o3) hb (.inr λe=>hm ?_);rw[hc] at e;exact aiN (o8.RW o2) o8 (Vf o8 o2 o3) (hs.yes t ht C) e
def W6{R n N:Nat}{s:CS}(h:sA R n N s)(c:Bool):sA R n N ⟨s.a8,s.re,c⟩:=⟨⟨h.ok.lw,h.ok.lr,h.ok.mn,h.ok.rg⟩,h.yes,h.no⟩
def U3{R n N args:Nat}(hR:R<=1200)(hn:n<=R+60)(s6:R<=n)(U:0<N)(ha:args<=R):sA R n N (mr N args)/\c8 R n (mr N args) 0=⟨false,replicate args true++replicate (n - args) false⟩/\
 ∀ k,0<k->k<N->c8 R n (mr N args) k=⟨true,replicate n false⟩:=by
 have X:∀ k,k<=R->eU (kz k)/\oR R n (kz k)/\c7 R n (kz k)=replicate k true++replicate (n - k) false:=λk=>by
  induction k with
  |zero=>
   intro _;have hz:∀ r,fy (kz 0) r=false:=ahy 20;refine⟨⟨oS,Jc 0⟩,(λr hr=>by rw[hz r] at hr;cases hr),?_⟩;apply ext_getElem?;intro j;by_cases hj:j<n
   .rw[vV hj,hz];simp[hj]
   .rw[DX hj];simp;omega
  |succ k ih=>
   intro hk;let⟨h1,h2,J⟩:=ih oG;have jZ:((k:Nat):Int)=(iD R k:Nat):=by rw[iD,bi oG]
   have he:kz (k+1)=iq (kz k) (iD R k:Nat):=by rw[<- jZ];rfl
   rw[he];refine⟨h1.iq _,Jv hR hn h1 h2 oG,?_⟩;rw[<- JE hR hn h1 oG,J,O1 oG]
 let⟨h1,h2,J⟩:=X args ha;have C:∀ k,(mr N args).a8.getD k []=if k=0 then kz args else(replicate N wo).getD k []:=λk=>Ju (tn U)
 have gr:∀ k,(mr N args).re.getD k false=if k=0 then true else(replicate N false).getD k false:=λk=>Ju (tn U)
 have O:∀ k,k<N->(replicate N wo).getD k []=wo:=λk hk=>by rw[dF,getElem?_replicate,bi hk];rfl
 have rr:∀ k,(replicate N false).getD k false=false:=λk=>by
  rw[dF,getElem?_replicate];split<;>rfl
 refine⟨⟨Na (Jc args),λk hk h=>?_,λk hk h=>?_⟩,?_,λk h0 hk=>?_⟩
 .rw[gr] at h;rw[C];by_cases e:k=0
  .rw[bi e];exact h2
  .rw[ai e,rr] at h;cases h
 .rw[gr] at h;rw[C];by_cases e:k=0
  .rw[bi e] at h;cases h
  .rw[ai e];exact O k hk
 .rw[c8,gr,C,bi rfl,bi rfl,bi rfl,J]
 .rw[c8,gr,ai (show ¬ k=0 by omega),rr];rfl
end
end Go.Abs
section
open Go Go.Proofs List
namespace Go.Abs
open Go.Proofs.Tryz
def dc(c:Cert):List D:=[B c.any,nA c.is]
@[simp] theorem asY (c : Cert) : (dc c).length = 2 := rfl
def vX(c:Cert):∀ a∈dc c,Tr a:=.cons (.s _) (.cons (.sl (.map λ_=>.s _)) .nil)
def Jr(c:Cert)(r:Int):(lB c r).is.length=c.is.length:=by unfold lB;split<;>simp
def ag6(R:Nat)(c:Cert)(x:Ins):(yv R c x).is.length=c.is.length:=by unfold yv;split<;>simp[Jr]
def Gl(R:Nat):∀ (l:List Ins) (c:Cert),(gp R l c).is.length=c.is.length
 |[],_=>rfl
 |x::l,c=>by
  rw[gp,foldl_cons];exact(Gl R l _).trans (ag6 R c x)
def U0(x:End)(to:Int)(c:Cert):(pz x to c).is.length=c.is.length:=by unfold pz;split<;>simp[Jr]
def HX(n:Nat)(r:Int):Prop:=r= -1\/∃ i:Nat,i<n/\r=i
def vu{c:Cert}{rs:List Int}(O:∀ r∈rs,∃ i:Nat,i<c.is.length/\r=i):aE prog 66 [.agg (dc c),av rs] (B (tT c rs)):=by
 have C:∀ a∈[D.agg (dc c),av rs],Tr a:=.cons (.agg (vX c)) (.cons (cR _) .nil);refine qP (fo f66).he C λU=>?_;have hlen:=(U (av rs) oS).sl.1;unfold maxLen at hlen;refine bN (fo f66) C (Tr.s _) ?_;refine aF (af ?_);refine ab (bF (cE [(0,dc c,99)] eH (l:=[(1,av rs),(2,.pt (dc c))]) eH) (aM (aF ?_)));refine SS ?_
 refine ab (cJ (λs=>aL prog s ⟨ay [],λ_=>none,1⟩/\∀ (j:Nat) y,rs[j]? =some y->c.is.getD y.toNat false=true) (dS (α:=Nat) (λk=>⟨ay [(1,av rs),(2,.pt (dc c)),(5,I k)],λ_=>none,1⟩)
  (λk=>k<=rs.length/\∀ j y,j<k->rs[j]? =some y->c.is.getD y.toNat false=true) (λk=>rs.length - k) 0 (ao eH) ⟨oG,λj y hj=>by omega⟩ ?_) ?_)
 .rintro k ⟨hk,hinv⟩;refine aX ?_;refine ab ⟨_,rfl,λh=>?_,λh=>?_⟩
  .have al:k<rs.length:=tn h
   have hx:rs[k]? =some rs[k]:=aV al;let⟨i,hi,e⟩:=O _ (dG al);have hy:c.is[i]? =some c.is[i]:=aV hi;rw[e] at hx;clear e
   have hg:∀ y,rs[k]? =some y->c.is.getD y.toNat false=c.is[i]:=λy h=>by
    rw[hx] at h;cases h;rw[eC,getD_some hy]
   generalize c.is[i]=b at hy hg;refine eJ iB (bg ?_);refine bU bX (au rfl (λhp=>?_) λhp=>?_)
   .refine ws (SS ?_);refine ab (bD (dd (bc (aD (d:=B false) rfl ?_))));have:tT c rs=false:=all_eq_false.2 ⟨_,cL hx,by rw[hg _ hx];simpa using hp⟩;rw[this]
   .refine eQ (az ?_);refine ab (bA (k+1) (ao eH) ⟨oG,λj y hj hy=>?_⟩ oG);by_cases e:j=k
    .subst e;rw[hg y hy];simpa using hp
    .exact hinv j y oG hy
  .have X:¬ k<rs.length:=tn h
   exact⟨.forget _ _ _ _ λ_=>.inr rfl,λj y hy=>hinv j y (by have:=(bO.1 hy).1;omega) hy⟩
 .rintro s ⟨hg,J⟩;refine⟨_,hg,aj ?_⟩;refine SS ?_;refine ab (aD (d:=B true) rfl ?_)
  have:tT c rs=true:=cm.2 λx hx=>by
   let⟨j,hj⟩:=dW hx;exact J j x hj
  rw[this]
def mo{c:Cert}{r:Int}(hl:c.is.length<=100000)(hr:HX c.is.length r):aE prog 67 [.agg (dc c),I r] (.agg (dc (lB c r))):=by
 refine bN (fo f67) (.cons (.agg (vX c)) fl) (.agg (vX _)) ?_;refine ws (af ?_);refine ab (aM (aj ?_));rcases hr with rfl|⟨i,hi,rfl⟩
 .refine af ?_;refine ab (BU ?_);refine aM (aj (af ?_));refine ab (dX (jR (fT rfl rfl vw oe rfl t99 (aP rfl)) ?_));rfl
 .have kQ:((i:Int)== -1)=false:=by simp
  refine af ?_;refine ab (BT (dn (eJ (ij [(2,3),(2,4),(0,5),(1,5)]) ?_)));have J:(c.is.map B).length=c.is.length:=by simp
  have C:(c.is.map B).take (c.is.length*1)=c.is.map B:=cW oS
  refine SS ?_
  refine SS ?_
  refine SS ?_
  refine SS ?_
  refine SS ?_
  (first|refine gf (fW rfl rfl rfl CY c4 (jE C) rfl) aB ⟨Ch,rfl,(by first|omega|exact aP rfl|(simp;done)|(simp;omega)),oC,(by first|rfl|(simp;done)|(simp;omega)),(by unfold maxLen;first|omega|(simp;omega)),(by rw[b4];first|omega|(simp;omega)),(by first|(simp;done)|(simp;omega))⟩ ?_|refine gf (fW rfl rfl rfl CY c4 (gV rfl rfl) rfl) aB ⟨Ch,rfl,(by first|omega|exact aP rfl|(simp;done)|(simp;omega)),oC,(by first|rfl|(simp;done)|(simp;omega)),(by unfold maxLen;first|omega|(simp;omega)),(by rw[b4];first|omega|(simp;omega)),(by first|(simp;done)|(simp;omega))⟩ ?_|refine cY (lq rfl rfl CY c4 (jE C)) aB ⟨Ch,(by first|omega|exact aP rfl|(simp;done)|(simp;omega)),oC,(by unfold maxLen;first|omega|(simp;omega)),(by rw[b4];first|omega|(simp;omega))⟩ ?_|refine cY (lq rfl rfl CY c4 (gV rfl rfl)) aB ⟨Ch,(by first|omega|exact aP rfl|(simp;done)|(simp;omega)),oC,(by unfold maxLen;first|omega|(simp;omega)),(by rw[b4];first|omega|(simp;omega))⟩ ?_)
  refine ax (Gp u99 aaC Ta rfl rfl) aB ⟨t99,aaD⟩ (cY (Wj Ta) aB t99 (bT (eK rfl rfl rfl rfl) aB (bW t99 oe bk (by rfl)) (bU bX (aj ?_))));refine bG ?_;refine ab (aF ?_);refine af ?_
  have e:sub (cZ 3 ((c.is.set i true).map B) (prog.cellsOf 4)) (.rs 3 0 (0+c.is.length))=.sl ((c.is.set i true).map B) c.is.length:=by
   rw[c4,Nat.zero_add,oI,drop_zero,cW oS]
  refine ab (bF (cE [(3,(c.is.set i true).map B,4),(1,[B c.any,.sl ((c.is.set i true).map B) c.is.length],99)] ⟨?_,?_,aa⟩ (l:=[(4,.pt [B c.any,.sl ((c.is.set i true).map B) c.is.length])]) eH) (bD (jR (W2 rfl vw oe rfl t99 (bK _)) ?_)))
  .rw[map_set];rfl
  .exact congrArg (λd=>some (Row.cells [B c.any,d] 99)) e
  rw[lB,ai oG,eC];show _=D.agg [B c.any,.sl _ (c.is.set i true).length];rw[length_set];rfl
section
variable{P:Program}{m:Mem}{nx:Nat}
end
def NY{f:aO}{x:End}(h:jJ f x=true):fY x=dI x:=by
 rw[jJ,aH] at h;let⟨h,hb⟩:=h;have hb:=JW hb;let⟨kind,a,b,to,cz,name,ins,args,aA,others⟩:=x;simp only[gZ] at h hb;by_cases h1:kind=1
 .subst h1;simp only[Int.reduceEq,if_false,if_true] at hb;have C:aA=[]:=length_eq_zero_iff.1 hb.2.2.2.2.2.2.2;have ho:others= -1:=hb.2.2.2.2.2.1;subst C ho;simp[fY,lQ,rS,ik,dI,jD,aC]
 by_cases h2:kind=2
 .subst h2;simp only[Int.reduceEq,if_false,if_true] at hb;have C:aA=[]:=length_eq_zero_iff.1 hb.2.2.2.2.2.2.2;have ho:others= -1:=hb.2.2.2.2.2.1;subst C ho;simp[fY,lQ,rS,ik,dI,jD,aC]
 by_cases J:kind=3
 .subst J;simp only[Int.reduceEq,if_false,if_true] at hb;have C:aA=[]:=length_eq_zero_iff.1 hb.2.2.2.2.2.2.2;have ho:others= -1:=hb.2.2.2.2.2.1;subst C ho;simp[fY,lQ,rS,ik,dI,jD,aC]
 by_cases O:kind=4
 .subst O;simp only[Int.reduceEq,if_false,if_true] at hb;have C:aA=[]:=length_eq_zero_iff.1 hb.2.2.2.2.2.2.2;have ho:others= -1:=hb.2.2.2.2.2.1;subst C ho;simp[fY,lQ,rS,ik,dI,jD,aC]
 by_cases U:kind=5
 .subst U;by_cases ho:0<=others<;>simp[fY,lQ,rS,ik,dI,jD,aC,ho]
 by_cases X:kind=6
 .subst X;by_cases ho:0<=others<;>simp[fY,lQ,rS,ik,dI,jD,aC,ho]
 by_cases h7:kind=7
 .subst h7;simp only[Int.reduceEq,if_false,if_true] at hb;have C:aA=[]:=length_eq_zero_iff.1 hb.2.2.2.2.2.2.2;have ho:others= -1:=hb.2.2.2.2.2.1;subst C ho;simp[fY,lQ,rS,ik,dI,jD,aC]
 by_cases h8:kind=8
 .subst h8;by_cases ho:0<=others<;>simp[fY,lQ,rS,ik,dI,jD,aC,ho]
 by_cases h9:kind=9
 .subst h9;simp only[Int.reduceEq,if_false,if_true] at hb;have C:aA=[]:=length_eq_zero_iff.1 hb.2.2.2.2.2.2.2;have ho:others= -1:=hb.2.2.2.2.2.1;subst C ho;simp[fY,lQ,rS,ik,dI,jD,aC]
 .simp only[h1,h2,J,O,U,X,h7,h8,h9,if_false] at h;cases h
end Go.Abs
end
namespace Go.Abs
open List
open Go.Proofs.Tryz
open Go
structure LY(R n:Nat)(x:Ins):Prop where
 r:∀ r∈cN x,∃ i:Nat,i<R/\r=i
 s:x.op=17->∃ i:Nat,R+i<n/\x.n=i
 p:x.op=19->∀ r∈x.args,∃ i:Nat,i<R/\r=i
def nr{l:List Int}{r:Int}(h:iK l r):∃ i:Nat,i<l.length/\r=i:=⟨r.toNat,by unfold iK at h;omega,by unfold iK at h;omega⟩
def Xe{f:aO}{b ah:Int}{x:Ins}(hs:∀ k∈f.aU,k≠0)(h:eX f b ah x=true):Ci f.ag.length (f.ag.length+f.aU.length) x/\LY f.ag.length (f.ag.length+f.aU.length) x/\(x.op=19->(x.args.length:Int)=ah):=by
 have k1:∀ {r:Int},bQ f r 119=true->∃ i:Nat,i<f.ag.length/\r=i:=λ{r} h=>nr (ll λe=>by rw[wm,e] at h;simp[aZ] at h);have X:∀ {r:Int},bQ f r 114=true->∃ i:Nat,i<f.ag.length/\r=i:=λ{r} h=>nr (ll λe=>by rw[B0,e] at h;simp[aZ] at h);have k3:∀ {r:Int},bQ f r 105=true->∃ i:Nat,i<f.ag.length/\r=i:=λ{r} h=>nr (ll λe=>by rw[Hq,e] at h;simp[aZ] at h);have k4:∀ {r:Int},bQ f r 118=true->∃ i:Nat,i<f.ag.length/\r=i:=λ{r} h=>nr (om h)
 have k5:∀ {a b:Int},mB f a b=true->(∃ i:Nat,i<f.ag.length/\a=i)/\∃ i:Nat,i<f.ag.length/\b=i:=λ{a b} h=>by
  simp[mB,aH] at h;exact⟨nr (om h.1),nr (om h.2.1)⟩
 have k6:∀ {l:List Int},iX f.ag l=true->∀ r∈l,∃ i:Nat,i<f.ag.length/\r=i:=λ{l} h r hr=>nr (xC h r hr)
 have k7:∀ {r n:Int},oK f.ag f.aU r n=true->(∃ i:Nat,i<f.ag.length/\r=i)/\∃ i:Nat,f.ag.length+i<f.ag.length+f.aU.length/\n=i:=λ{r n} h=>by
  let⟨h1,h2,U⟩:=GG hs h;exact⟨nr h1,n.toNat,oG,oG⟩
 let⟨op,to,a,C,n,args⟩:=x;unfold eX at h;dsimp only at h
 have fin:∀ {W:Prop} {Rs:List Int},(dt ⟨op,to,a,C,n,args⟩= -1\/∃ i:Nat,i<f.ag.length/\dt ⟨op,to,a,C,n,args⟩=i)->cN ⟨op,to,a,C,n,args⟩=Rs->(∀ r∈Rs,∃ i:Nat,i<f.ag.length/\r=i)->
  op≠17->op≠18->op≠19->Ci f.ag.length (f.ag.length+f.aU.length) ⟨op,to,a,C,n,args⟩/\LY f.ag.length (f.ag.length+f.aU.length) ⟨op,to,a,C,n,args⟩/\(op=19->(args.length:Int)=ah):=λ{W Rs} h1 h2 U e1 e2 e3=>
  ⟨⟨h1,λe=>absurd e e2⟩,⟨by rw[h2];exact U,λe=>absurd e e1,λe=>absurd e e3⟩,λe=>absurd e e3⟩
 by_cases h1:op=1
 .subst h1;simp[aH] at h;exact fin (W:=True) (Rs:=[]) (.inr (k1 h.2.1)) rfl oS oC oC oC
 by_cases h2:op=2
 .subst h2;simp[aH] at h;exact fin (W:=True) (Rs:=[a]) (.inr (k5 h.2).1) rfl (by simpa using(k5 h.2).2) oC oC oC
 by_cases U:op=3\/op=4\/op=6\/op=7
 .have J:bQ f to 119=true/\bQ f a 119=true/\bQ f C 119=true:=by
   rcases U with rfl|rfl|rfl|rfl<;>(simp[aC,aH] at h;exact h.2)
  have hr:∀ r∈[a,C],∃ i:Nat,i<f.ag.length/\r=i:=by
   intro r hr;simp at hr;rcases hr with rfl|rfl
   .exact k1 J.2.1
   .exact k1 J.2.2
  rcases U with rfl|rfl|rfl|rfl<;>exact fin (W:=True) (Rs:=[a,C]) (.inr (k1 J.1)) rfl hr oC oC oC
 by_cases h5:op=5
 .subst h5;simp[aC,aH] at h;refine fin (W:=True) (Rs:=[a,C]) (.inr (k1 h.2.1)) rfl ?_ oC oC oC;intro r hr;simp at hr;rcases hr with rfl|rfl
  .exact(k5 h.2.2).1
  .exact(k5 h.2.2).2
 by_cases h8:op=8
 .subst h8;simp[aC,aH] at h;exact fin (W:=True) (Rs:=[a]) (.inr (k1 h.2.1)) rfl (tn (k1 h.2.2)) oC oC oC
 by_cases h9:op=9
 .subst h9;simp[aC,aH] at h;exact fin (W:=True) (Rs:=[]) (.inr (X h.2.1)) rfl oS oC oC oC
 by_cases pP:op=10
 .subst pP;simp[aC,aH] at h;exact fin (W:=True) (Rs:=args) (.inr (X h.2.1)) rfl (k6 h.2.2.2.2) oC oC oC
 by_cases vz:op=11
 .subst vz;simp[aC,aH] at h;exact fin (W:=True) (Rs:=[a]) (.inr (k4 h.2.1)) rfl (tn (X h.2.2.1)) oC oC oC
 by_cases xq:op=12
 .subst xq;simp[aC,aH] at h;refine fin (W:=True) (Rs:=[a,C]) (.inl rfl) rfl ?_ oC oC oC;intro r hr;simp at hr;rcases hr with rfl|rfl
  .exact X h.2.1
  .exact k4 h.2.2.1
 by_cases zm:op=13\/op=14
 .have J:bQ f to 119=true/\bQ f a 114=true:=by
   rcases zm with rfl|rfl<;>(simp[aC,aH] at h;exact h.2)
  rcases zm with rfl|rfl<;>exact fin (W:=True) (Rs:=[a]) (.inr (k1 J.1)) rfl (tn (X J.2)) oC oC oC
 by_cases O:op=15
 .subst O;simp[aC,aH] at h;exact fin (W:=True) (Rs:=[a]) (.inl rfl) rfl (tn (k1 h.2)) oC oC oC
 by_cases k9:op=16
 .subst k9;simp[aC,aH] at h;exact fin (W:=True) (Rs:=[a]) (.inl rfl) rfl (tn (k3 h.2)) oC oC oC
 by_cases gj:op=17
 .subst gj;simp[aC,aH] at h;exact⟨⟨.inr (k7 h.2).1,λe=>by simp at e⟩,⟨by simp[cN,aC,my,ow],λ_=>(k7 h.2).2,λe=>by simp at e⟩,λe=>by simp at e⟩
 by_cases ej:op=18
 .subst ej;simp[aC,aH] at h;exact⟨⟨.inl rfl,λ_=>(k7 h.2).2⟩,⟨by simpa[cN,aC,my] using(k7 h.2).1,λe=>by simp at e,λe=>by simp at e⟩,λe=>by simp at e⟩
 by_cases dm:op=19
 .subst dm;simp[aC,aH] at h;refine⟨⟨.inr (k4 h.2.2.1),λe=>by simp at e⟩,⟨by simp[cN,aC,my,ow],λe=>by simp at e,λ_ r hr=>(k5 (h.2.2.2.2 r hr)).2⟩,λ_=>?_⟩;simpa[aZ] using h.2.2.2.1
 .rw[ai h1,ai h2,ai (by simp[aC];omega),ai h5,ai h8,ai h9,ai pP,ai vz,ai xq,ai (by simp[aC];omega),ai O,ai k9,ai gj,ai ej,ai dm] at h;cases h
def Xf{f:aO}{x:Ins}(h:ni f x=true):(dt x= -1\/∃ i:Nat,i<f.ag.length/\dt x=i)/\∀ r∈cN x,∃ i:Nat,i<f.ag.length/\r=i:=by
 have k1:∀ {r:Int},bQ f r 119=true->∃ i:Nat,i<f.ag.length/\r=i:=λ{r} h=>nr (ll λe=>by rw[wm,e] at h;simp[aZ] at h);have J:∀ {r:Int},bQ f r 114=true->∃ i:Nat,i<f.ag.length/\r=i:=λ{r} h=>nr (ll λe=>by rw[B0,e] at h;simp[aZ] at h);have U:∀ {r:Int},bQ f r 118=true->∃ i:Nat,i<f.ag.length/\r=i:=λ{r} h=>nr (om h);have k6:∀ {l:List Int},iX f.ag l=true->∀ r∈l,∃ i:Nat,i<f.ag.length/\r=i:=λ{l} h r hr=>nr (xC h r hr);let⟨op,to,a,C,n,args⟩:=x;unfold ni at h;dsimp only at h;by_cases h0:op=30\/op=31\/op=32\/op=33\/op=34
 .have O:bQ f to 119=true/\bQ f a 119=true/\bQ f C 119=true:=by
   rcases h0 with rfl|rfl|rfl|rfl|rfl<;>(simp[aC,aH] at h;exact h.2)
  have hr:∀ r∈[a,C],∃ i:Nat,i<f.ag.length/\r=i:=by
   intro r hr;simp at hr;rcases hr with rfl|rfl
   .exact k1 O.2.1
   .exact k1 O.2.2
  rcases h0 with rfl|rfl|rfl|rfl|rfl<;>exact⟨.inr (k1 O.1),hr⟩
 by_cases X:op=35
 .subst X;simp[aC,aH] at h;refine⟨.inl rfl,?_⟩;show ∀ r∈[a,C],_;intro r hr;simp at hr;rcases hr with rfl|rfl
  .exact J h.2.1
  .exact U h.2.2
 by_cases h6:op=36
 .subst h6;simp[aC,aH] at h;refine⟨.inr (U h.2.1),?_⟩;show ∀ r∈[a],_;simpa using J h.2.2
 by_cases h7:op=37
 .subst h7;simp[aC,aH] at h;refine⟨.inr (U h.2.1),?_⟩;show ∀ r∈[a,C],_;intro r hr;simp at hr;rcases hr with rfl|rfl
  .exact J h.2.2.1
  .exact k1 h.2.2.2
 by_cases h8:op=38
 .subst h8;simp[aC,aH] at h;refine⟨.inl rfl,?_⟩;show ∀ r∈a::C::args,_;intro r hr;rcases mem_cons.1 hr with rfl|hr
  .exact J h.2.1
  .rcases mem_cons.1 hr with rfl|hr
   .exact k1 h.2.2.1
   .exact k6 h.2.2.2.2 r hr
 .exfalso;simp[aC,X,h6,h7,h8] at h;omega
def O4{f:aO}{x:End}(h:jj f x=true):(fI x= -1\/∃ i:Nat,i<f.ag.length/\fI x=i)/\(∀ r∈dB x,∃ i:Nat,i<f.ag.length/\r=i)/\(x.kind=7->∃ i:Nat,i<f.ag.length/\x.a=i):=by
 have k1:∀ {r:Int},bQ f r 119=true->∃ i:Nat,i<f.ag.length/\r=i:=λ{r} h=>nr (ll λe=>by rw[wm,e] at h;simp[aZ] at h);have k3:∀ {r:Int},bQ f r 105=true->∃ i:Nat,i<f.ag.length/\r=i:=λ{r} h=>nr (ll λe=>by rw[Hq,e] at h;simp[aZ] at h);have C:∀ {r:Int},bQ f r 118=true->∃ i:Nat,i<f.ag.length/\r=i:=λ{r} h=>nr (om h);have k6:∀ {l:List Int},iX f.ag l=true->∀ r∈l,∃ i:Nat,i<f.ag.length/\r=i:=λ{l} h r hr=>nr (xC h r hr);let⟨kind,a,b,to,cz,name,ins,args,aA,others⟩:=x;unfold jj at h;dsimp only at h;by_cases h1:kind=1
 .subst h1;exact⟨.inl rfl,by simp[dB,aC],λe=>by simp at e⟩
 by_cases h2:kind=2
 .subst h2;simp[aH] at h;refine⟨.inl rfl,?_,λe=>by simp at e⟩;show ∀ r∈[a],_;simpa using k1 h.2.1
 by_cases J:kind=3
 .subst J;rw[ai oC,ai oC,bi rfl] at h;refine⟨.inl rfl,?_,λe=>by simp at e⟩;intro r hr;simp[dB,aC] at hr;obtain⟨e,rfl⟩:=hr;by_cases hc:f.iter=true\/f.result=0
  .rw[bi hc,aH,jr] at h;exact absurd h.2 e
  .rw[ai hc,aH,aH] at h;exact C h.2.1
 by_cases O:kind=4
 .subst O;exact⟨.inl rfl,by simp[dB,aC],λe=>by simp at e⟩
 by_cases U:kind=5
 .subst U;simp[aH] at h;exact⟨(Xf h.2.1).1,(Xf h.2.1).2,λe=>by simp at e⟩
 by_cases X:kind=6
 .subst X;simp[aH] at h;refine⟨?_,k6 h.2.2.2.1,λe=>by simp at e⟩;show a= -1\/∃ i:Nat,_/\a=_;rcases h.2.2.2.2.1 with e|e
  .exact .inl (by simpa[aZ] using e)
  .exact .inr (C e)
 by_cases h7:kind=7
 .subst h7;simp[aH] at h;exact⟨.inr (k3 h.2.2.2.2.1),k6 h.2.2.2.1,λ_=>k3 h.2.2.2.2.1⟩
 by_cases h8:kind=8
 .subst h8;simp[aH] at h;refine⟨.inr (C h.2.2.1),?_,λe=>by simp at e⟩;show ∀ r∈[a],_;simpa using k3 h.2.1
 by_cases h9:kind=9
 .subst h9;simp[aH] at h;refine⟨.inl rfl,?_,λe=>by simp at e⟩;show ∀ r∈[a],_;simpa using C h.2.2.1
 .simp[h1,h2,J,O,U,X,h7,h8,h9] at h
def ir.o8{n:Nat}{s:CS}(h:ir n s){b:Nat}(hb:b<n):eU (s.a8.getD b []):=by
 have hl:b<s.a8.length:=by rw[h.lw];exact hb
 have hx:s.a8[b]? =some s.a8[b]:=aV hl;rw[getD_some hx];have hm:s.a8[b]∈s.a8:=dG _;exact⟨h.mn _ hm,h.rg _ hm⟩
def O6(l:List Int):Prop:=∀ (i j:Nat) x y,i<=j->l[i]? =some x->l[j]? =some y->x<=y
def aqs(l:List Int)(j k:Nat):Prop:=(∀ p q,p<q->q<=k->p≠j->q≠j->l.getD p 0<=l.getD q 0)/\∀ q,j<q->q<=k->l.getD j 0<=l.getD q 0
def aaO(l:List Int)(k:Nat):Prop:=∀ p q,p<=q->q<=k->l.getD p 0<=l.getD q 0
def Va{l:List Int}{j:Nat}(h:j+1<l.length)(i:Nat):(swapAt l j).getD i 0=if i=j then l.getD (j+1) 0 else if i=j+1 then l.getD j 0 else l.getD i 0:=by
 unfold swapAt;simp[dF,getElem?_set,length_set];by_cases e:j=i
 .subst e;rw[bi rfl,bi rfl,bi oG];rfl
 .rw[ai e,ai (show ¬ i=j from λh=>e h.symm)];by_cases e2:j+1=i
  .subst e2;rw[bi rfl,bi rfl,bi h];rfl
  .rw[ai e2,ai (show ¬ i=j+1 from λh=>e2 h.symm)]
def W9{k:Nat}:∀ {j:Nat} {l:List Int},j<=k->k<l.length->aqs l j k->aaO (rF l j) k
 |0,l,_,_,h=>λp q J hq=>by
  rw[rF];rcases Nat.lt_or_ge p q with g|g
  .by_cases hp:p=0
   .subst hp;exact h.2 q g hq
   .exact h.1 p q g hq hp oG
  .have:p=q:=by omega
   subst this;exact Int.le_refl _
 |j+1,l,hj,hk,h=>by
  rw[rF];split
  .rename_i al;have hs:=Va (l:=l) (j:=j) oG;refine W9 oG (tn hk) ⟨λp q J hq hp O=>?_,λq hq U=>?_⟩
   .rw[hs,hs,ai hp,ai O];by_cases C:p=j+1
    .rw[bi C,ai oG];exact h.1 j q oG hq oG oG
    .rw[ai C];by_cases e2:q=j+1
     .rw[bi e2];exact h.1 p j oG oG C oG
     .rw[ai e2];exact h.1 p q J hq C e2
   .rw[hs,hs,bi rfl,ai oG];by_cases e2:q=j+1
    .rw[bi e2];omega
    .rw[ai e2];exact h.2 q oG U
  .rename_i X;intro p q J hq;rcases Nat.lt_or_ge p q with g|g
   .by_cases C:p=j+1
    .subst C;exact h.2 q g hq
    .by_cases e2:q=j+1
     .subst e2;by_cases e3:p=j
      .subst e3;omega
      .have:=h.1 p j oG oG oG oG;omega
     .exact h.1 p q g hq C e2
   .have:p=q:=by omega
    subst this;exact Int.le_refl _
def V3{i:Nat}:∀ {j:Nat} {l:List Int},j<i->j<l.length->(rF l j).getD i 0=l.getD i 0
 |0,l,_,_=>rfl
 |j+1,l,h,hl=>by
  rw[rF];split
  .rw[V3 oG oP,Va oG,ai oG,ai oG]
  .rfl
def V4{l:List Int}:∀ k,k<l.length->aaO (py l k) k/\∀ i,k<i->(py l k).getD i 0=l.getD i 0
 |0,_=>⟨λp q C hq=>by
  have:p=q:=by omega
  subst this;exact Int.le_refl _,λ_ _=>rfl⟩
 |k+1,hk=>by
  let⟨h1,h2⟩:=V4 (l:=l) k oG;rw[py];refine⟨W9 (bK _) (tn hk) ⟨λp q C hq hp J=>h1 p q oG oG,λq hq J=>by omega⟩,λi hi=>?_⟩;rw[V3 hi oP];exact h2 i oG
def acT(l:List Int):O6 (qe l):=λi j x y C hx hy=>by
 let⟨hj,J⟩:=bO.1 hy;have hl:(qe l).length=l.length:=UP l;have h:=(V4 (l:=l) (l.length - 1) oG).1 i j C oG;have e:py l (l.length - 1)=qe l:=rfl;rw[e,dF,dF,hx,hy] at h;exact h
def Yn{d:List Int}(hs:O6 d):∀ t,t<=d.length->(gU d t).Pairwise (·<·)/\(0<t->∀ x∈gU d t,x<=d.getD (t - 1) 0)
 |0,_=>⟨by simp[gU],λh=>absurd h (Nat.lt_irrefl 0)⟩
 |t+1,ht=>by
  let⟨h1,h2⟩:=Yn hs t oG
  have hg:∀ i,i<d.length->d[i]? =some (d.getD i 0):=λi hi=>by
   have:=aV hi;rw[dF,this];rfl
  have C:∀ x∈gU d t,x<=d.getD t 0:=λx hx=>by
   have h0:0<t:=by
    cases t with
    |zero=>simp[gU] at hx
    |succ t=>omega
   have a:=h2 h0 x hx;have b:=hs (t - 1) t _ _ oG (hg _ oG) (hg _ oG);omega
  rw[gU];split
  .rw[append_nil];exact⟨h1,λ_ x hx=>by rw[Nat.add_sub_cancel];exact C x hx⟩
  .rename_i J;refine⟨?_,λ_ x hx=>?_⟩
   .rw[pairwise_append];refine⟨h1,oS,λx hx y hy=>?_⟩;rw[mem_singleton] at hy;subst hy
    have h0:0<t:=by
     cases t with
     |zero=>simp[gU] at hx
     |succ t=>omega
    have a:=h2 h0 x hx;have b:=hs (t - 1) t _ _ oG (hg _ oG) (hg _ oG);have c:d.getD t 0≠d.getD (t - 1) 0:=λe=>J ⟨oG,e⟩;omega
   .rw[Nat.add_sub_cancel];rw[mem_append,mem_singleton] at hx;rcases hx with hx|hx
    .exact C x hx
    .rw[hx];exact Int.le_refl _
def adh{d:List Int}(hs:O6 d):(pT d).Pairwise (·<·):=(Yn hs _ (bK _)).1
def Vb(x:End):(Go.Abs.nextR x).Pairwise (·<·):=adh (acT _)
def ad2{b:Nat}:∀ (l:List Int) (L:Nat->List Int),l.Pairwise (·<·)->(∀ t∈l,0<=t)->(∀ i,(L i).Pairwise (·<·)/\∀ x∈L i,x<(b:Int))->
 ∀ i,(l.foldl (gH b) L i).Pairwise (·<·)/\(∀ x∈l.foldl (gH b) L i,x<(b:Int)+1):=λl=>by
 have key:∀ (l:List Int) (L:Nat->List Int),l.Pairwise (·<·)->(∀ t∈l,0<=t)->∀ i,l.foldl (gH b) L i=L i++(if(i:Int)∈l then [(b:Int)] else []):=λl=>by
  induction l with
  |nil=>intro L _ _ i;simp
  |cons t l ih=>
   intro L hp h0 i;rw[pairwise_cons] at hp;have ht:=h0 t oS;obtain⟨C,rfl⟩:=fc ht;rw[foldl_cons,ih _ hp.2 (λt h=>h0 t (by simp[h]))];unfold gH;simp[eC,up];by_cases e:i=C
   .subst e;rw[bi rfl,ai (λh=>by have:=hp.1 _ h;omega),bi oS,append_nil]
   .rw[ai e];congr 1;have:¬ (i:Int)=C:=by omega
    simp[this]
 intro L hp h0 J i;rw[key l L hp h0 i];let⟨h1,h2⟩:=J i;split
 .refine⟨?_,λx hx=>?_⟩
  .rw[pairwise_append];exact⟨h1,oS,λx hx y hy=>by rw[mem_singleton] at hy;rw[hy];exact h2 x hx⟩
  .rw[mem_append,mem_singleton] at hx;rcases hx with hx|hx
   .have:=h2 x hx;omega
   .omega
 .rw[append_nil];exact⟨h1,λx hx=>by have:=h2 x hx;omega⟩
def Ja{bs:List bH}(h0:∀ b∈bs,∀ t∈Go.Abs.nextR b.fin,0<=t):∀ k i,(cA bs k i).Pairwise (·<·)/\∀ x∈cA bs k i,x<(k:Int)
 |0,i=>by simp[cA]
 |k+1,i=>by
  have ih:=Ja h0 k;have e:cA bs (k+1)=ui bs (cA bs k) k:=by rw[cA,range_succ,foldl_append];rfl
  rw[e];unfold ui;cases hx:bs[k]? with
  |none=>exact⟨(ih i).1,λx hx=>by have:=(ih i).2 x hx;omega⟩
  |some b=>
   let⟨h1,h2⟩:=ad2 (b:=k) (Go.Abs.nextR b.fin) (cA bs k) (Vb _) (h0 b (cL hx)) ih i;exact⟨h1,λx hx=>by have:=h2 x hx;omega⟩
end Go.Abs
section
open Go Go.Proofs List
namespace Go.Abs
open Go.Proofs.Tryz
def Wa{f:aO}{x:End}(h:jJ f x=true):rv x=nextR x:=by
 refine Xc (zv .nil).1 (Vb x) λt=>?_;rw[U1,NY h,nextR,Nd]
def NP{f:aO}{bs:List bH}(h:∀ b∈bs,jJ f b.fin=true)(k:Nat):mU bs k=cA bs k:=by
 induction k with
 |zero=>rfl
 |succ k ih=>
  unfold mU cA at ih ⊢;rw[range_succ,foldl_append,foldl_append,ih];show GH bs _ k=ui bs _ k;unfold GH ui;cases hx:bs[k]? with
  |none=>rfl
  |some x=>dsimp only;rw[Wa (h x (cL hx))]
end Go.Abs
end
namespace Go.Abs
open List
open Go.Proofs.Tryz
open Go
def tx(f:aO):Bool:=pq f&&(r9 f&&pZ f)
def JY(f:aO):Bool:=f.blocks.all λx=>(fY x.fin).all (cS f)
def yx(f:aO)(b:Nat)(l:List Ins)(j:Nat):Bool:=eX f b (mU f.blocks f.blocks.length b).length (l.getD j fM)&& !(cP (l.getD j fM)&&(decide (0<j)&& !cP (l.getD (j - 1) fM)))
def tJ(f:aO)(b:Nat):Bool:=
 let x:=f.blocks.getD b jx
 !decide ((200:Int)<x.ins.length)&&((range x.ins.length).all (yx f b x.ins)&&(jj f x.fin&& !(x.fin.kind==7&&(nG f.blocks b).any (·==x.fin.a))))
def xN(f:aO):Bool:=tx f&&(JY f&&(range f.blocks.length).all (tJ f))
def Jd(f:aO)(b:Int)(x:Ins)(p:Bool)(C:Int):ky f b x p C=(ky f b x true C&&(!cP x||p)):=by
 unfold ky cP;by_cases X:x.op=16
 .simp[X]
 .by_cases U:x.op=17
  .simp[U]
  .by_cases O:x.op=18
   .simp[O]
   .by_cases J:x.op=19
    .simp[J,Bool.and_comm]
    .simp[X,U,O,J]
def ahz(l:List Ins):(∀ j,j<l.length->cP (l.getD j fM)=true->0<j->cP (l.getD (j - 1) fM)=true)↔∀ j,j<l.length->cP (l.getD j fM)=true->(l.take (j+1)).all cP=true:=by
 have hg:∀ {j},j<l.length->∀ y,l[j]? =some y->l.getD j fM=y:=λ_ y hy=>getD_some hy;constructor
 .intro h j
  induction j with
  |zero=>
   intro hj hp;have hx:l[0]? =some l[0]:=aV hj;rw[getD_some hx] at hp;rw[take_add_one,hx];simpa using hp
  |succ j ih=>
   intro hj hp;have hx:l[j+1]? =some l[j+1]:=aV hj;have h1:=h (j+1) hj hp oG;have h2:=ih oG (tn h1);rw[take_add_one,all_append,h2,hx];rw[getD_some hx] at hp;simpa using hp
 .intro h j hj hp h0;have h1:=h j hj hp;have hx:l[j - 1]? =some l[j - 1]:=aV oG;rw[getD_some hx];refine cm.1 h1 _ (cL (i:=j - 1) ?_);rw[getElem?_take,bi oG,hx]
def aiO{n:Nat}{p q:Nat->Bool}:(range n).all (λj=>p j&&q j)=((range n).all p&&(range n).all q):=by
 rw[Bool.eq_iff_iff];simp[cm,aH,mem_range];exact⟨λh=>⟨λj hj=>(h j hj).1,λj hj=>(h j hj).2⟩,λh j hj=>⟨h.1 j hj,h.2 j hj⟩⟩
def Ui{f:aO}:xN f=ou f:=by
 have hH:ou f=(tx f&&((range f.blocks.length).all (lU f)&&(range f.blocks.length).all (tZ f))):=by
  unfold ou tx;simp[Bool.and_assoc]
 rw[hH];unfold xN;cases hh:tx f with
 |false=>rfl
 |true=>
  rw[Bool.true_and,Bool.true_and,Bool.eq_iff_iff,aH,aH,cm,cm,cm];unfold tx at hh;simp[aH] at hh;let⟨h1,h2,_⟩:=hh
  have pC:pU f=true:=by
   unfold pq at h1;simp[aH] at h1;exact h1.2.2.1
  have jZ:f.ag.length<=1200:=by
   unfold pq at h1;simp[aH,Bool.not_eq_true',decide_eq_false_iff_not] at h1;omega
  have kE:∀ k∈f.aU,k=1\/k=2:=λk hk=>by
   unfold r9 at h2;simp[aH] at h2;have C:=h2.2.2.1;simp[gm,Bool.not_eq_true',any_eq_false] at C;have:=C k hk;simp[pj] at this;omega
  have nS:∀ {k:Nat},k<f.blocks.length->∃ x,f.blocks[k]? =some x/\f.blocks.getD k jx=x/\x∈f.blocks:=λ{k} hk=>by
   have hx:f.blocks[k]? =some f.blocks[k]:=aV hk;exact⟨_,hx,getD_some hx,dG _⟩
  have ng:(∀ b∈f.blocks,jJ f b.fin=true)->∀ k,k<f.blocks.length->(tJ f k=true↔lU f k=true/\tZ f k=true):=λhe k hk=>by
   let⟨x,hx,hg,hm⟩:=nS hk;have hah:=NP he f.blocks.length;unfold tJ lU tZ yx xF;simp only[hg,O7 pC,he x hm,hah,Bool.true_and,aH,cm,mem_range];have C:∀ j,eX f k (cA f.blocks f.blocks.length k).length (x.ins.getD j fM)=ky f k (x.ins.getD j fM) true (cA f.blocks f.blocks.length k).length:=λj=>Xd kE;have O:=ahz x.ins;simp only[C];constructor
   .rintro⟨X,U,g3⟩;refine⟨⟨X,g3⟩,λj hj=>?_⟩;rw[Jd,aH];refine⟨(U j hj).1,?_⟩;have:=O.1 (λj hj hp h0=>by have:=(U j hj).2;rw[hp] at this;simpa[h0] using this) j hj;cases hp:cP (x.ins.getD j fM) with
    |false=>rfl
    |true=>rw[this hp];rfl
   .rintro⟨⟨X,g3⟩,U⟩;refine⟨X,λj hj=>?_,g3⟩
    have J:∀ j,j<x.ins.length->cP (x.ins.getD j fM)=true->(x.ins.take (j+1)).all cP=true:=λj hj hp=>by
     have:=U j hj;rw[Jd,aH,hp] at this;simpa using this.2
    have h5:=U j hj;rw[Jd,aH] at h5;refine⟨h5.1,?_⟩;have h6:=O.2 J j hj;cases hp:cP (x.ins.getD j fM) with
    |false=>rfl
    |true=>
     by_cases h0:0<j
     .rw[h6 hp h0];simp
     .simp[h0]
  constructor
  .rintro⟨C,J⟩
   have he:∀ b∈f.blocks,jJ f b.fin=true:=λb hb=>by
    let⟨k,hk⟩:=dW hb;have:=J k (by simpa using(bO.1 hk).1);unfold tJ at this;simp only[getD_some hk,aH,O7 pC] at this;exact this.2.2.1
   exact⟨λk hk=>((ng he k (tn hk)).1 (J k hk)).1,λk hk=>((ng he k (tn hk)).1 (J k hk)).2⟩
  .rintro⟨C,J⟩
   have he:∀ b∈f.blocks,jJ f b.fin=true:=λb hb=>by
    let⟨k,hk⟩:=dW hb;have:=C k (by simpa using(bO.1 hk).1);unfold lU at this;simp only[getD_some hk,aH] at this;exact this.1
   refine⟨cm.2 λx hx=>cm.2 λt ht=>?_,λk hk=>(ng he k (tn hk)).2 ⟨C k hk,J k hk⟩⟩;rw[NY (he x hx)] at ht;have:=(Oq jZ pC (he x hx)).to t ht;rw[cS,jF];omega
def opsV(R:Nat)(c:Cert)(x:Ins):Bool:=(x.op !=17||c.is.getD ((R:Int)+x.n).toNat false)&&tT c (cN x)
def sD(f:aO)(s:CS)(b:Nat)(x:Ins)(k:Nat):Bool:=
 let p:=((cA f.blocks f.blocks.length b).getD k 0).toNat
 let c:=c8 f.ag.length (f.ag.length+f.aU.length) s p
 c.any||(pz (f.blocks.getD p jx).fin b (gp f.ag.length (f.blocks.getD p jx).ins c)).is.getD (x.args.getD k 0).toNat false
def EX(f:aO)(s:CS)(b:Nat)(x:Ins):Bool:= !cP x||(range x.args.length).all (sD f s b x)
def Cj(f:aO)(s:CS)(b:Nat)(l:List Ins)(c:Cert)(j:Nat):Bool:=opsV f.ag.length (gp f.ag.length (l.take j) c) (l.getD j fM)&&EX f s b (l.getD j fM)
def sC(f:aO)(s:CS)(b:Nat):Bool:=
 let c:=c8 f.ag.length (f.ag.length+f.aU.length) s b
 let l:=(f.blocks.getD b jx).ins
 c.any||((range l.length).all (Cj f s b l c)&&tT (gp f.ag.length l c) (dB (f.blocks.getD b jx).fin))
def PJ(f:aO):Int:=if xN f=true then(if(range f.blocks.length).all (sC f (jU f.blocks f.args.toNat))=true then 0 else 81) else 80
def PN{R n:Nat}(J:R<=n){w:List Int}(C:eU w):∀ {rs:List Int} {ok:Bool},(∀ r∈rs,∃ i:Nat,i<R/\r=i)->jQ w ok rs=(ok&&tT ⟨false,c7 R n w⟩ rs)
 |[],ok,_=>by simp[jQ,tT]
 |r::rs,ok,h=>by
  let⟨i,hi,e⟩:=h r oS;have ih:=PN J C (rs:=rs) (ok:=ok&&mH w r.toNat) λr hr=>h r (by simp[hr])
  have h1:(c7 R n w).getD r.toNat false=mH w r.toNat:=by
   rw[e,eC,getD_some (vV oG),Bl C.all];rw[iD,bi hi]
  unfold jQ tT at ih ⊢;rw[foldl_cons,ih,all_cons,h1,Bool.and_assoc]
def Xg{R n:Nat}(hR:R<=1200)(hn:n<=R+60)(C:R<=n):∀ {l:List Ins} (_:∀ x∈l,Ci R n x/\LY R n x) {w:List Int} {ok:Bool} (_:eU w) (_:oR R n w),
 (l.foldl mD (w,ok)).2=(ok&&(range l.length).all λj=>opsV R (gp R (l.take j) ⟨false,c7 R n w⟩) (l.getD j fM))
 |[],_,w,ok,_,_=>by simp
 |x::l,h,w,ok,hw,ho=>by
  let⟨U,J⟩:=h x oS;let⟨h1,h2,h3⟩:=V9 hR hn C U hw ho;have ih:=Xg hR hn C (l:=l) (ok:=(mD (w,ok) x).2) (λy hy=>h y (by simp[hy])) h2 h3;rw[foldl_cons];show(l.foldl mD (zP w x,(mD (w,ok) x).2)).2=_;rw[ih,length_cons,range_succ_eq_map,all_cons,all_map]
  have h0:(mD (w,ok) x).2=(ok&&opsV R ⟨false,c7 R n w⟩ x):=by
   show(jQ w ok (cN x)&&_)=_;rw[PN C hw J.r,Bool.and_assoc];congr 1;rw[opsV,Bool.and_comm];congr 1;by_cases O:x.op=17
   .let⟨i,hi,e⟩:=J.s O;have X:((R:Int)+x.n).toNat=R+i:=by omega
    have e2:(mO x.n).toNat=iD R (R+i):=by rw[mO,iD,ai oG];omega
    rw[X,e2,getD_some (vV oG),Bl hw.all]
   .have:(x.op !=17)=true:=tn O
    rw[this];rfl
  rw[h0,Bool.and_assoc];congr 2;refine List.all_congr rfl λj=>?_;show _=opsV R (gp R ((x::l).take (j+1)) _) ((x::l).getD (j+1) fM);unfold gp;rw[List.take_succ_cons,List.foldl_cons,h1];rfl
def ahA{l:List Ins}{P:Ins->Bool}(h:∀ j,j<l.length->cP (l.getD j fM)=true->(l.take (j+1)).all cP=true):(range l.length).all (λj=> !cP (l.getD j fM)||P (l.getD j fM))=(l.takeWhile cP).all P:=by
 rw[Bool.eq_iff_iff,cm,cm];constructor
 .intro ha y hy;have C:y∈l:=takeWhile_sublist _ |>.subset hy;have hp:cP y=true:=cm.1 all_takeWhile y hy;let⟨j,hj⟩:=dW C;have:=ha j (by simpa using(bO.1 hj).1);rw[getD_some hj,hp] at this;simpa using this
 .intro ha j hj;have al:j<l.length:=tn hj
  have hx:l[j]? =some l[j]:=aV al;have h1:=h j al;rw[getD_some hx] at h1 ⊢;cases hp:cP l[j] with
  |false=>rfl
  |true=>
   have h2:=cm.1 (h1 hp)
   have J:l.takeWhile cP=l.take (j+1)++(l.drop (j+1)).takeWhile cP:=by
    conv=>lhs;rw[<- take_append_drop (j+1) l]
    exact takeWhile_append_of_pos h2
   have:P l[j]=true:=ha _ (by
    rw[J,mem_append];left
    exact cL (i:=j) (by rw[getElem?_take,bi oG,hx]))
   rw[this];rfl
structure Ew(f:aO):Prop where
 ok:D8 f
 sl:f.aU.length<=60
 ins:∀ b∈f.blocks,∀ x∈b.ins,Ci f.ag.length (f.ag.length+f.aU.length) x/\LY f.ag.length (f.ag.length+f.aU.length) x
 AZ:∀ (k:Nat) b,f.blocks[k]? =some b->∀ (j:Nat) x,b.ins[j]? =some x->cP x=true->x.args.length=(cA f.blocks f.blocks.length k).length/\(b.ins.take (j+1)).all cP=true
 wr:∀ b∈f.blocks,fI b.fin= -1\/∃ i:Nat,i<f.ag.length/\fI b.fin=i
 rd:∀ b∈f.blocks,∀ r∈dB b.fin,∃ i:Nat,i<f.ag.length/\r=i
 ed:∀ b∈f.blocks,fY b.fin=dI b.fin/\rv b.fin=nextR b.fin
 ar:∃ a:Nat,f.args=a/\a<=f.ag.length
def Qq{f:aO}(h:ou f=true):Ew f:=by
 have J:=KK h;have hd:=h;unfold ou at hd;simp only[aH] at hd;let⟨h1,h2,_,h4,_⟩:=hd
 have pC:pU f=true:=by
  unfold pq at h1;simp only[aH] at h1;exact h1.2.2.1
 have X:∃ a:Nat,f.args=a/\a<=f.ag.length:=by
  unfold pq at h1;simp only[aH,jF] at h1;have:=h1.2.1;refine⟨f.args.toNat,oG,?_⟩;have:=this.2;split at this<;>omega
 have kE:∀ k∈f.aU,k=1\/k=2:=λk hk=>by
  unfold r9 at h2;simp only[aH] at h2;have C:=h2.2.2.1;simp only[gm,Bool.not_eq_true',any_eq_false] at C;have:=C k hk;simp[pj] at this;omega
 have he:∀ b∈f.blocks,jJ f b.fin=true:=λb hb=>by
  let⟨k,hk⟩:=dW hb;have:=cm.1 h4 k (by simpa using(bO.1 hk).1);unfold lU at this;simp only[getD_some hk,aH] at this;exact this.1
 have O:∀ (k:Nat) b,f.blocks[k]? =some b->∀ (j:Nat) x,b.ins[j]? =some x->eX f k (cA f.blocks f.blocks.length k).length x=true/\(cP x=true->(b.ins.take (j+1)).all cP=true):=λk b hb j x hx=>by
  have:=J.right k b hb j x hx;rw[Jd,aH] at this;refine⟨by rw[Xd kE];exact this.1,λhp=>?_⟩;have C:=this.2;rw[hp] at C;simpa using C
 have U:∀ b∈f.blocks,jj f b.fin=true:=λb hb=>by rw[O7 pC];exact he b hb
 refine⟨J,J.aU.2,λb hb x hx=>?_,λk b hb j x hx hp=>?_,λb hb=>(O4 (U b hb)).1,λb hb=>(O4 (U b hb)).2.1,λb hb=>⟨NY (he b hb),Wa (he b hb)⟩,X⟩
 .let⟨k,hk⟩:=dW hb;let⟨j,hj⟩:=dW hx;have:=Xe J.aU.1 (O k b hk j x hj).1;exact⟨this.1,this.2.1⟩
 .have:=Xe J.aU.1 (O k b hb j x hx).1;have C:=this.2.2 (by simpa[cP] using hp);exact⟨oG,(O k b hb j x hx).2 hp⟩
def afP{f:aO}(h:Ew f):sA f.ag.length (f.ag.length+f.aU.length) f.blocks.length (jU f.blocks f.args.toNat):=by
 let⟨a,ha,uY⟩:=h.ar;have hR:=h.ok.ag;have hS:=h.sl;have hi:=U3 (R:=f.ag.length) (n:=f.ag.length+f.aU.length) (args:=a) hR oG oG h.ok.pos uY;rw[ha,eC];unfold jU;refine(V6 (J:=sA f.ag.length (f.ag.length+f.aU.length) f.blocks.length) h.ok.blk (λs hs hj=>ahv (J:=sA f.ag.length (f.ag.length+f.aU.length) f.blocks.length) h.ok.blk (λs h=>W6 h false) (λs k hs hj=>?_) hs hj) _ _ hi.1.ok hi.1 (Nat.lt_succ_self _)).2.2;refine aiI (J:=sA f.ag.length (f.ag.length+f.aU.length) f.blocks.length) h.ok.blk hs hj λx hx hr u hu U t ht=>?_;have hk:k<f.blocks.length:=(bO.1 hx).1;have C:=cL hx;have O:=(h.ok.blk x C).to t ht;obtain⟨t,rfl⟩:=fc O.1;let⟨_,X,p3⟩:=Gz hR oG oG (ok:=true) (λy hy=>(h.ins x C y hy).1) (hs.o8 hk) (hj.yes k hk hr);exact(W7 hR oG oG U (h.ed x C).1 (h.wr x C) oG X p3).1
def Wb{f:aO}(h:Ew f){b:Nat}(hb:b<f.blocks.length):sC f (jU f.blocks f.args.toNat) b=tY f.blocks (jU f.blocks f.args.toNat) b:=by
 have O:=afP h;have hR:=h.ok.ag;have hS:=h.sl;generalize jU f.blocks f.args.toNat=s at O ⊢;have hx:f.blocks[b]? =some f.blocks[b]:=aV hb;have J:f.blocks[b]∈f.blocks:=dG _;unfold sC tY;simp only[getD_some hx];have Cd:=h.AZ b _ hx;generalize f.blocks[b]=x at hx J Cd;cases rT:s.re.getD b false with
 |false=>
  have:c8 f.ag.length (f.ag.length+f.aU.length) s b=⟨true,replicate (f.ag.length+f.aU.length) false⟩:=by rw[c8,rT];rfl
  rw[this];rfl
 |true=>
  have hc:c8 f.ag.length (f.ag.length+f.aU.length) s b=⟨false,c7 f.ag.length (f.ag.length+f.aU.length) (s.a8.getD b [])⟩:=by rw[c8,rT];rfl
  have hw:=O.ok.o8 hb;have ho:=O.yes b hb rT;rw[hc];generalize s.a8.getD b []=w at hw ho;have h1:=Xg hR oG oG (h.ins x J) (ok:=true) hw ho;let⟨h2,h3,h4⟩:=Gz hR oG oG (ok:=true) (λy hy=>(h.ins x J y hy).1) hw ho;have h5:=PN (R:=f.ag.length) (n:=f.ag.length+f.aU.length) oG h3 (ok:=(x.ins.foldl mD (w,true)).2) (h.rd x J)
  have h6:∀ j,j<x.ins.length->cP (x.ins.getD j fM)=true->(x.ins.take (j+1)).all cP=true:=λj hj hp=>by
   have hy:x.ins[j]? =some x.ins[j]:=aV hj;rw[getD_some hy] at hp;exact(Cd j _ hy hp).2
  have h7:=ahA (l:=x.ins) (P:=λy=>(range y.args.length).all (sD f s b y)) h6
  have h8:(x.ins.takeWhile cP).all (λy=>(range y.args.length).all (sD f s b y))=(x.ins.takeWhile cP).all (yr f.blocks s b):=by
   rw[Bool.eq_iff_iff,cm,cm]
   have Fm:∀ y∈x.ins.takeWhile cP,(range y.args.length).all (sD f s b y)=yr f.blocks s b y:=λy hy=>by
    have ML:y∈x.ins:=takeWhile_sublist _ |>.subset hy;have hp:cP y=true:=cm.1 all_takeWhile y hy;let⟨j,hj⟩:=dW ML;have hlen:=(Cd j y hj hp).1;rw[yr,hlen,Bool.eq_iff_iff,cm,cm]
    have:∀ k∈range (cA f.blocks f.blocks.length b).length,sD f s b y k=vI f.blocks s b y k:=λk hk=>by
     have hk:k<(cA f.blocks f.blocks.length b).length:=tn hk
     have hpk:(cA f.blocks f.blocks.length b)[k]? =some (cA f.blocks f.blocks.length b)[k]:=aV hk;unfold sD vI;simp only[getD_some hpk]
     have U:(cA f.blocks f.blocks.length b)[k].toNat<f.blocks.length:=by
      have aqa:=(Ja (λb hb t ht=>((h.ok.blk b hb).to t ht).1) f.blocks.length b).2 _ (dG hk);have:=h.ok.pos;omega
     generalize (cA f.blocks f.blocks.length b)[k].toNat=p at U;have xh:f.blocks[p]? =some f.blocks[p]:=aV U;have X:f.blocks[p]∈f.blocks:=dG _;rw[getD_some xh];generalize f.blocks[p]=z at xh X;have hak:y.args[k]? =some y.args[k]:=aV oG;have FR:=(h.ins x J y ML).2.p (by simpa[cP] using hp) _ (dG (h:=by omega):y.args[k]∈y.args);rw[getD_some hak];let⟨i,hi,e⟩:=FR;rw[e,eC];cases Cw:s.re.getD p false with
     |false=>
      have:c8 f.ag.length (f.ag.length+f.aU.length) s p=⟨true,replicate (f.ag.length+f.aU.length) false⟩:=by rw[c8,Cw];rfl
      rw[this];rfl
     |true=>
      have Da:c8 f.ag.length (f.ag.length+f.aU.length) s p=⟨false,c7 f.ag.length (f.ag.length+f.aU.length) (s.a8.getD p [])⟩:=by rw[c8,Cw];rfl
      let⟨q2,q3,q4⟩:=Gz hR oG oG (ok:=true) (λy hy=>(h.ins z X y hy).1) (O.ok.o8 U) (O.yes p U Cw);let⟨r2,r3,r4⟩:=V' hR oG oG (h.ed z X).1 (h.wr z X) (to:=(b:Int)) q3 q4;rw[Da,q2,r2,getD_some (vV (show i<f.ag.length+f.aU.length by omega))];have jn:iD f.ag.length i=i:=by rw[iD,bi hi]
      rw[jn];show(false||fy _ i)=(!true||mH _ i)
      rw[<- Bl r3.all];rfl
    exact⟨λh k hk=>by rw[<- this k hk];exact h k hk,λh k hk=>by rw[this k hk];exact h k hk⟩
   exact⟨λh y hy=>by rw[<- Fm y hy];exact h y hy,λh y hy=>by rw[Fm y hy];exact h y hy⟩
  have h9:(range x.ins.length).all (Cj f s b x.ins ⟨false,c7 f.ag.length (f.ag.length+f.aU.length) w⟩)=((range x.ins.length).all (λj=>opsV f.ag.length (gp f.ag.length (x.ins.take j) ⟨false,c7 f.ag.length (f.ag.length+f.aU.length) w⟩) (x.ins.getD j fM))&&(range x.ins.length).all λj=> !cP (x.ins.getD j fM)||(range (x.ins.getD j fM).args.length).all (sD f s b (x.ins.getD j fM))):=by
   rw[<- aiO];rfl
  have pP:(lj x w).2=jQ (x.ins.foldl mD (w,true)).1 (x.ins.foldl mD (w,true)).2 (dB x.fin):=rfl;rw[h9,h7,h8,h2,pP,h5,h1];simp only[Bool.true_and,Bool.false_or,Bool.not_true];generalize (range x.ins.length).all _=A;generalize (x.ins.takeWhile cP).all _=B;generalize tT _ _=C;cases A<;>cases B<;>cases C<;>rfl
def afw(f:aO):PJ f=fL f:=by
 rw[PJ,fL,Ui];split
 .rename_i h;have hf:=Qq h
  have:(range f.blocks.length).all (sC f (jU f.blocks f.args.toNat))=zC f.blocks f.args.toNat:=by
   rw[zC,Bool.eq_iff_iff,cm,cm];exact⟨λh k hk=>by rw[<- Wb hf (tn hk)];exact h k hk,λh k hk=>by rw[Wb hf (tn hk)];exact h k hk⟩
  rw[this]
 .rfl
end Go.Abs
section
open Go Go.Proofs List
namespace Go.Abs
open Go.Proofs.Tryz
def Aa(f:aO):Bool:=nM f.name&&(!decide ((1200:Int)<f.ag.length)&&(!decide ((60:Int)<f.aU.length)&&(dz f.args 0 (if(f.ag.length:Int)<6 then(f.ag.length:Int) else 6)&&(!decide (2<f.result)&&(!(f.iter&&decide (f.result=0))&&(!decide ((6:Int)<f.signals.length)&&dz f.blocks.length 1 1200))))))
def vY(a:Int)(j:Nat)(x:Int):Bool:=pj 3 x||(decide ((j:Int)<a)&&decide (x=3))
def adf{f:aO}(h:Aa f=false):tx f=false:=by
 unfold Aa at h;unfold tx pq r9 pU;revert h;generalize nM f.name=a;generalize dz f.args 0 _=b;generalize dz f.blocks.length 1 1200=c;generalize pZ f=d;generalize gm f.ag 3=e;generalize gm (f.ag.take f.args.toNat) 2=g;generalize gm f.aU 2=i;generalize f.signals.any _=j;grind
def adO{f:aO}(h:Aa f=true)(hr:0<=f.result):pq f=true/\f.signals.length<=6/\f.ag.length<=1200/\f.aU.length<=60/\0<=f.args/\f.args<=f.ag.length:=by
 unfold Aa at h;simp[aH,Bool.not_eq_true',decide_eq_false_iff_not,jF] at h;let⟨h1,h2,O,C,X,J,h7,U⟩:=h;have ha:f.args<=f.ag.length:=by have:=C.2;split at this<;>omega
 refine⟨?_,oG,oG,oG,C.1,ha⟩;unfold pq pU;simp[aH,Bool.not_eq_true',decide_eq_false_iff_not,jF];refine⟨h1,C,?_,h2,O,U⟩;have:f.result=0\/f.result=1\/f.result=2:=by omega
 rcases this with e|e|e
 .simp[e] at J ⊢;exact J
 .simp[e]
 .simp[e]
def EU{f:aO}(hs:Et f):aE prog 148 [.agg (aG f)] (B (tx f)):=by
 have Cf:=Cf hs.nm;have gD:∀ {n a b:Int},aE prog 82 [I n,I a,I b] (B (dz n a b)):=λ{n a b}=>gD;refine bN (fo f148) (.cons (.agg (jG f)) .nil) (Tr.s _) ?_;refine aF (af ?_);refine ab (bF (cE [(0,aG f,26)] eH (l:=[(1,.pt (aG f))]) eH) (aM (aj ?_)));refine af ?_;refine cl Cf ?_;refine bg ?_;refine cF ?_;refine af ?_;refine cq rfl rfl (YA rfl rfl) (λhc=>⟨ak,rfl⟩) (gc gD ?_);refine bg ?_;refine bg ?_;refine cF ?_;refine gc gD ?_;refine af ?_;refine ab (cG rfl (λh=>?_) λh=>dn (aM (aF ?_)))
 .refine aM (aj (SS ?_));refine ab (dX (aD (d:=B false) rfl ?_))
  have:Aa f=false:=by
   revert h;unfold Aa;generalize nM f.name=a;generalize dz f.args 0 _=b;generalize dz f.blocks.length 1 1200=c;generalize f.iter=d;grind
  rw[adf this]
 have hA:Aa f=true:=by
  revert h;unfold Aa;generalize nM f.name=a;generalize dz f.args 0 _=b;generalize dz f.blocks.length 1 1200=c;generalize f.iter=d;grind
 let⟨h1,h6,hR,hS,U,haR⟩:=adO hA hs.res;clear h hA;let⟨a,ha⟩:=fc U
 have hV:tx f=(gm f.ag 3&&(gm (f.ag.take a) 2&&(gm f.aU 2&&((!f.signals.any λs=> !isName s)&&pZ f)))):=by
  rw[tx,h1,r9,ha,eC,show decide ((6:Int)<f.signals.length)=false from decide_eq_false oG];simp only[Bool.true_and,Bool.not_false,Bool.and_assoc]
 rw[hV];clear hV h1
 have Zx:∀ (j:Nat) x,f.ag[j]? =some x->vY a j x=true->(gm f.ag 3&&(gm (f.ag.take a) 2&&(gm f.aU 2&&((!f.signals.any λs=> !isName s)&&pZ f))))=false:=λj x hx hb=>by
  rw[vY,Bool.or_eq_true] at hb;rcases hb with hb|hb
  .have:gm f.ag 3=false:=by
    rw[gm,any_eq_true.2 ⟨x,cL hx,hb⟩];rfl
   rw[this];rfl
  .have hb:j<a/\x=3:=by simpa using hb
   have:gm (f.ag.take a) 2=false:=by
    rw[gm,any_eq_true.2 ⟨x,cL (i:=j) (by rw[getElem?_take,bi hb.1,hx]),by rw[hb.2];rfl⟩];rfl
   rw[this,Bool.false_and,Bool.and_false]
 have Yg:(∀ (j:Nat) x,f.ag[j]? =some x->vY a j x=false)->gm f.ag 3=true/\gm (f.ag.take a) 2=true:=λh=>by
  constructor
  .rw[gm,Bool.not_eq_true',any_eq_false];intro x hx;let⟨j,hj⟩:=dW hx;have:=h j x hj;rw[vY,Bool.or_eq_false_iff] at this;rw[this.1];simp
  .rw[gm,Bool.not_eq_true',any_eq_false];intro x hx;let⟨j,hj⟩:=dW hx;have xm:j<a:=by have:=(bO.1 hj).1;simp at this;omega
   rw[getElem?_take,bi xm] at hj;have:=h j x hj;unfold vY pj at this;simp[xm] at this;simp[pj];omega
 refine SS ?_
 refine ab (cJ (λs=>aL prog s ⟨ay [(1,.pt (aG f))],λ_=>none,1⟩/\gm f.ag 3=true/\gm (f.ag.take a) 2=true) (dS (α:=Nat) (λk=>⟨ay [(1,.pt (aG f)),(3,I k)],λ_=>none,1⟩)
  (λk=>k<=f.ag.length/\∀ j x,j<k->f.ag[j]? =some x->vY a j x=false) (λk=>f.ag.length - k) 0 (ao eH) ⟨oG,λj y hj=>by omega⟩ ?_) ?_)
 .rintro k ⟨hk,hinv⟩;refine bG ?_;refine ab ⟨_,rfl,λh=>?_,λh=>?_⟩
  .have al:k<f.ag.length:=by simpa using h
   have hx:f.ag[k]? =some f.ag[k]:=aV al;have nV:=Zx k _ hx
   have AT:vY a k f.ag[k]=false->∀ j y,j<k+1->f.ag[j]? =some y->vY a j y=false:=λh j y hj hy=>by
    by_cases e:j=k
    .subst e;rw[hx] at hy;cases hy;exact h
    .exact hinv j y oG hy
   generalize f.ag[k]=x at hx nV AT;refine ws (bg ?_);refine bg ?_;refine cF ?_;refine af ?_;refine ab (au rfl (λhp=>?_) λhp=>?_)
   .refine ws (SS ?_);refine ab (bD (dd (bc (aD (d:=B false) rfl ?_))));rw[nV (by revert hp;rw[vY,pj,ha];grind)]
   .refine eQ (az ?_);refine ab (bA (k+1) (ao eH) ⟨oG,AT (by revert hp;rw[vY,pj,ha];grind)⟩ oG)
  .have bJ:¬ k<f.ag.length:=by simpa using h
   exact⟨ao eH,Yg λj x hx=>hinv j x (by have:=(bO.1 hx).1;omega) hx⟩
 rintro s ⟨hg,e1,e2⟩;clear Zx Yg;rw[e1,e2,Bool.true_and,Bool.true_and];refine⟨_,hg,aM (aF ?_)⟩;refine SS ?_
 refine ab (cJ (λs=>aL prog s ⟨ay [(1,.pt (aG f))],λ_=>none,1⟩/\gm f.aU 2=true) (dS (α:=Nat) (λk=>⟨ay [(1,.pt (aG f)),(4,I k)],λ_=>none,1⟩)
  (λk=>k<=f.aU.length/\∀ (j:Nat) x,j<k->f.aU[j]? =some x->pj 2 x=false) (λk=>f.aU.length - k) 0 (ao eH) ⟨oG,λj y hj=>by omega⟩ ?_) ?_)
 .rintro k ⟨hk,hinv⟩;refine bG ?_;refine ab ⟨_,rfl,λh=>?_,λh=>?_⟩
  .have al:k<f.aU.length:=by simpa using h
   have hx:f.aU[k]? =some f.aU[k]:=aV al;generalize f.aU[k]=x at hx;refine ws (bg ?_);refine bG ?_;refine ab (au rfl (λhp=>?_) λhp=>?_)
   .refine ws (SS ?_);refine ab (bD (dd (bc (aD (d:=B false) rfl ?_))))
    have:gm f.aU 2=false:=by
     unfold gm;rw[any_eq_true.2 ⟨x,cL hx,by revert hp;unfold pj;grind⟩];rfl
    rw[this];rfl
   .refine eQ (az ?_);refine ab (bA (k+1) (ao eH) ⟨oG,λj y hj hy=>?_⟩ oG);by_cases e:j=k
    .subst e;rw[hx] at hy;cases hy;revert hp;unfold pj;grind
    .exact hinv j y oG hy
  .have bJ:¬ k<f.aU.length:=by simpa using h
   refine⟨ao eH,?_⟩;rw[gm,Bool.not_eq_true',any_eq_false];intro x hx;let⟨j,hj⟩:=dW hx;rw[hinv j x (by have:=(bO.1 hj).1;omega) hj];simp
 rintro s ⟨hg,e3⟩;rw[e3,Bool.true_and];clear e1 e2 e3;have att:∀ b:Bool,b=(!(f.signals.any λs=> !isName s)&&pZ f)->b=((!f.signals.any λs=> !isName s)&&pZ f):=λb h=>h
 have J:∀ (j:Nat) x,f.signals[j]? =some x->isName x=false->((!f.signals.any λs=> !isName s)&&pZ f)=false:=λj x hx hb=>by
  rw[any_eq_true.2 ⟨x,cL hx,by rw[hb];rfl⟩];rfl
 have O:∀ (j:Nat) x y,f.signals[j]? =some x->f.signals[j+1]? =some y->Op.bytesLess x.toList y.toList=false->((!f.signals.any λs=> !isName s)&&pZ f)=false:=λj x y hx hy hb=>by
  have:pZ f=false:=by
   unfold pZ;apply qN (k:=j) (by have:=(bO.1 hy).1;omega);rw[vJ,getD_some hx,getD_some hy,hb]
  rw[this,Bool.and_false]
 refine⟨_,hg,aM (aF ?_)⟩;refine SS ?_
 refine ab (cJ (λs=>aL prog s ⟨ay [],λ_=>none,1⟩/\((!f.signals.any λs=> !isName s)&&pZ f)=true) (dS (α:=Nat) (λk=>⟨ay [(1,.pt (aG f)),(5,I k)],λ_=>none,1⟩)
  (λk=>k<=f.signals.length/\(∀ (j:Nat) x,j<k->f.signals[j]? =some x->isName x=true)/\∀ (j:Nat) x y,j+1<k->f.signals[j]? =some x->f.signals[j+1]? =some y->Op.bytesLess x.toList y.toList=true) (λk=>f.signals.length - k) 0 (ao eH) ⟨oG,λj y hj=>by omega,λj x y hj=>by omega⟩ ?_) ?_)
 .rintro k ⟨hk,hinv,Zy⟩;refine bG ?_;refine ab ⟨_,rfl,λh=>?_,λh=>?_⟩
  .have al:k<f.signals.length:=by simpa using h
   have hx:f.signals[k]? =some f.signals[k]:=aV al;have qu:=qu (hs.sg _ (dG al));generalize f.signals[k]=x at hx qu
   have X:isName x=true->∀ (j:Nat) y,j<k+1->f.signals[j]? =some y->isName y=true:=λhq j y hj hy=>by
    by_cases e:j=k
    .subst e;rw[hx] at hy;cases hy;exact hq
    .exact hinv j y oG hy
   have C:=J k x hx;generalize isName x=nb at qu X C;apply eJ iB;cases nb with
   |false=>
    refine bG ?_;refine cl qu ?_;refine bg ?_;(iterate 2 refine z λ_ _=>?_);refine bG ?_;(iterate 2 refine z λ_ _=>?_);refine SS ?_;refine bU bX (au rfl (λhp=>?_) λhp=>(by cases hp));refine ws (SS ?_);refine ab (bD (dd (bc (aD (d:=B false) rfl ?_))));rw[C rfl]
   |true=>
    cases k with
    |zero=>
     have yE:decide ((0:Int)<((0:Nat):Int))=false:=rfl;refine bG ?_;refine cl qu ?_;refine bg ?_;(iterate 2 refine z λ_ _=>?_);refine bG ?_;refine z λ_ _=>?_;refine af ?_;refine bU bX (au rfl (λhp=>(by cases hp)) λhp=>eQ ?_);refine az ?_;refine ab (bA 1 (ao eH) ⟨oG,X rfl,λj x y hj=>by omega⟩ oG)
    |succ i=>
     have yE:decide ((0:Int)<((i+1:Nat):Int))=true:=decide_eq_true oG;have Ap:((i+1:Nat):Int) - 1=(i:Int)/\ -9223372036854775808<=(i:Int)/\(i:Int)<=9223372036854775807:=by omega
     have hy:f.signals[i]? =some f.signals[i]:=aV oG;generalize f.signals[i]=y at hy;have gS:=O i y x hy hx
     have AG:Op.bytesLess y.toList x.toList=true->∀ (j:Nat) x y,j+1<i+1+1->f.signals[j]? =some x->f.signals[j+1]? =some y->Op.bytesLess x.toList y.toList=true:=λhq j u v hj hu hv=>by
      by_cases e:j=i
      .subst e;rw[hy] at hu;cases hu;rw[hx] at hv;cases hv;exact hq
      .exact Zy j u v oG hu hv
     refine bG ?_;refine cl qu ?_;refine bg ?_;refine eD ?_;refine cq rfl rfl (Xm rfl rfl) (λhc=>⟨ak,aa⟩) (af ?_);refine bU bX (au rfl (λhp=>?_) λhp=>?_)
     .refine ws (SS ?_);refine ab (bD (dd (bc (aD (d:=B false) rfl ?_))));rw[gS (by revert hp;generalize Op.bytesLess y.toList x.toList=q;cases q<;>simp)]
     .refine eQ (az ?_);refine ab (bA (i+1+1) (ao eH) ⟨oG,X rfl,AG (by revert hp;generalize Op.bytesLess y.toList x.toList=q;cases q<;>simp)⟩ oG)
  .have bJ:¬ k<f.signals.length:=by simpa using h
   refine⟨.forget _ _ _ _ λ_=>.inr rfl,?_⟩;rw[aH];constructor
   .rw[Bool.not_eq_true',any_eq_false];intro x hx;let⟨j,hj⟩:=dW hx;rw[hinv j x (by have:=(bO.1 hj).1;omega) hj];simp
   .unfold pZ;refine cm.2 λj hj=>?_;have hj:j<f.signals.length - 1:=by simpa using hj
    have h1:f.signals[j]? =some f.signals[j]:=aV oG;have h2:f.signals[j+1]? =some f.signals[j+1]:=aV oG;rw[vJ,getD_some h1,getD_some h2];exact Zy j _ _ oG h1 h2
 rintro s ⟨hg,e4⟩;rw[e4];refine⟨_,hg,aj ?_⟩;refine SS ?_;exact ab (aD rfl rfl)
end Go.Abs
end
