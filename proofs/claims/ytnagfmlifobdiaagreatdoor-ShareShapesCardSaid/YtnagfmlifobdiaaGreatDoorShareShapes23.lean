/- Part 23. -/
import Derived.Test.YtnagfmlifobdiaaGreatDoorShareShapes17
import Derived.Test.YtnagfmlifobdiaaGreatDoorShareShapes18
import Derived.Test.YtnagfmlifobdiaaGreatDoorShareShapes20
import Derived.Test.YtnagfmlifobdiaaGreatDoorShareShapes22
set_option linter.all false
set_option maxHeartbeats 4000000
set_option maxRecDepth 10000
section
open Go Go.Abs Go.Proofs Go.Argus
namespace Go.Argus
theorem agr{a b:ByteArray}(h:(!(a.toList==b.toList))=false):a=b:=by
 have h:a.toList=b.toList:=by simpa using h
 rw[LA,LA] at h;exact wj h
theorem DB{α:Type}{p:α->Bool}{l:List α}{k:Nat}{x:α}(hx:l[k]? =some x)(h:(l.take k).all p=true)(hp:p x=true):(l.take (k+1)).all p=true:=by
 rw[List.take_add_one,hx,List.all_append,h];simp[hp]
theorem Zn:∀ a b c d e:Bool,(if(if(if(if a=true then true else b)=true then true else c)=true then true else d)=true then true else e)=(a||(b||(c||(d||e)))):=by decide
def Fj(f:aK):Bool:=decide (12<(f.blocks.length:Int))||(decide (20<(f.ag.length:Int))||(decide (10<(f.aN.length:Int))||(decide (8<(f.signals.length:Int))||decide (130<(f.name.size:Int)))))
def Cz(b:bB):Bool:=decide (8<(b.ins.length:Int))||(decide (8<(b.fin.aC.length:Int))||(decide (8<(b.fin.args.length:Int))||(decide (130<(b.fin.name.size:Int))||decide (8<(b.fin.ins.args.length:Int)))))
def CA(y:bK):Bool:=decide (14<(y.args.length:Int))
def Fk(w:jM):Bool:=decide (20<(w.name.size:Int))
def CB(s:ByteArray):Bool:=decide (20<(s.size:Int))
def yL(b:bB):Bool:= !Cz b&&(b.ins.all (fun y=> !CA y)&&b.fin.aC.all (fun w=> !Fk w))
def wN(f:aK):Bool:= !Fj f&&(f.signals.all (fun s=> !CB s)&&f.blocks.all yL)
def wO(l:List aK):Bool:=l.all wN&&(decide ((l.length:Int)<=10)||(decide (60<(l.length:Int))&&decide ((l.length:Int)<=63)))
theorem Ee{α:Type}{p:α->Bool}{l:List α}{x:α}(hx:x∈l)(h:p x=false):l.all p=false:=by
 rw[Bool.eq_false_iff];intro ht;rw[bT.1 ht x hx] at h;cases h
def sW(f:aK):D:=if fe f=0 then ez (dG f.blocks) else .z
def wk(f:aK):ByteArray:=if fe f=0 then Nj f else⟨#[]⟩
theorem SE(f:aK):Tr (sW f):=by
 unfold sW;split
 .exact oI _
 .exact .z
theorem aeU{f:aK}(h:s4 f):s4 (uK f):=by
 have h1:vz.size<=maxLen:=by unfold maxLen;decide
 refine⟨h.Gd,h1,h.sg,fun b hb=>?_⟩;obtain⟨c,hc,rfl⟩:=List.mem_map.1 hb;have:=h.en c hc;unfold dN;split
 .exact⟨h1,this.2⟩
 .exact this
theorem ags{f:aK}{n:Nat}(h:∀ b∈f.blocks,b.fin.aC.length<=n):∀ b∈(uK f).blocks,b.fin.aC.length<=n:=fun b hb=>by
 obtain⟨c,hc,rfl⟩:=List.mem_map.1 hb;have:=h c hc;unfold dN;split
 .exact this
 .exact this
theorem ahB{f:aK}(h:wO [f]=true):∀ b∈f.blocks,b.fin.aC.length<=9:=fun b hb=>by
 unfold wO at h;simp only[List.all_cons,List.all_nil,Bool.and_true,aB] at h;have:=h.1;unfold wN at this;simp only[aB,bT] at this;have:=this.2.2 b hb;unfold yL Cz at this;simp only[aB,Bool.not_eq_true',Bool.or_eq_false_iff,decide_eq_false_iff_not] at this;omega
end Go.Argus
namespace Go.Proofs.Tryz.K
set_option maxHeartbeats 1000000
theorem Dr{a b:List ByteArray}:az prog 27 [ez a,ez b] (B (decide (a=b))):=by
 have J:∀ x∈[ez a,ez b],Tr x:=.cons (oI _) (.cons (oI _) .nil);refine pr Yj.he J fun M=>?_;have hlen:=(M (ez a) oS).sl.1;unfold maxLen at hlen;refine bu Yj J (Tr.s _) ?_;rw[anx];refine ws ?_;refine SS ?_;refine ab (aI (aj ?_));refine bm ?_;refine ab (dZ rfl (fun h=>?_) fun h=>cX (aI (ay ?_)))
 .refine aI (aj ?_);refine SS ?_;refine ab (eb (aw (d:=B false) rfl ?_));have C:a≠b:=fun e=>by subst e;simp at h
  rw[decide_eq_false C]
 have X:a.length=b.length:=by
  have:¬ ((a.length:Int)≠(b.length:Int)):=by simpa using h
  omega
 clear h;refine SS ?_
 refine ab (cD (fun s=>aM prog s ⟨aF [],fun _=>none,0⟩/\a=b) (dD (α:=Nat) (fun k=>⟨aF [(0,ez a),(1,ez b),(5,I k)],fun _=>none,0⟩)
  (fun k=>k<=a.length/\∀ j,j<k->a[j]? =b[j]?) (fun k=>a.length - k) 0 (ao eH) ⟨oG,fun j hj=>by omega⟩ ?_) ?_)
 .rintro k ⟨hk,hinv⟩;refine aR ?_;refine ab ⟨_,rfl,fun h=>?_,fun h=>?_⟩
  .have al:k<a.length:=by simpa using h
   have hx:a[k]? =some a[k]:=bc al;have hy:b[k]? =some b[k]:=bc oG;generalize a[k]=x at hx;generalize b[k]=y at hy;refine ej aeS ?_;refine bj ?_;refine bN bO (ap rfl (fun hp=>?_) fun hp=>?_)
   .refine ws ?_;refine SS ?_;refine ab (bp (cZ (a6 (aw (d:=B false) rfl ?_))))
    have C:a≠b:=fun e=>by
     subst e;rw[hx] at hy;cases hy;have hp:(!(x.toList==x.toList))=true:=hp;simp at hp
    rw[decide_eq_false C]
   .refine dE ?_;refine av ?_;refine ab (bg (k+1) (ao eH) ⟨oG,fun j hj=>?_⟩ oG);by_cases e:j=k
    .subst e;rw[hx,hy];congr 1;exact agr hp
    .exact hinv j oG
  .have U:¬ k<a.length:=by simpa using h
   refine⟨iJ (l:=[]) trivial,List.ext_getElem? fun j=>?_⟩;by_cases hj:j<k
   .exact hinv j hj
   .rw[List.getElem?_eq_none oG,List.getElem?_eq_none oG]
 .rintro s ⟨hg,O⟩;refine⟨_,hg,aj ?_⟩;refine SS ?_;refine ab (aw (d:=B true) rfl ?_);rw[decide_eq_true O]
end Go.Proofs.Tryz.K
namespace Go.Proofs.Tryz.K
theorem Ds{l:List aK}:az prog 13 [pu l] (B (wO l)):=by
 refine pr Yk.he (.cons (TG l) .nil) fun gN=>?_;have hlen:=(gN (pu l) oS).sl.1;unfold maxLen at hlen;refine bu Yk (.cons (TG l) .nil) (Tr.s _) ?_;rw[anz];refine ws ?_;refine SS ?_;refine ab (aI (ay ?_));refine SS ?_
 refine ab (cD (fun s=>(∃ nx,aM prog s ⟨aF [(0,pu l)],fun _=>none,nx⟩)/\l.all wN=true) (dD (α:=Nat×Nat) (fun s=>⟨aF [(0,pu l),(3,I s.1)],fun _=>none,s.2⟩)
  (fun s=>s.1<=l.length/\(l.take s.1).all wN=true) (fun s=>l.length - s.1) (0,0) (ao eH) ⟨Nat.zero_le _,rfl⟩ ?_) ?_)
 .rintro⟨t,nx⟩ ⟨ht,J⟩;dsimp only at ht J ⊢;refine aR ?_;refine ab ⟨_,rfl,fun h=>?_,fun h=>?_⟩
  .have Qh:t<l.length:=by simpa using h
   clear h;obtain⟨f,hf⟩:∃ f,l[t]? =some f:=⟨_,bc Qh⟩
   have O:wN f=false->wO l=false:=fun hb=>by
    unfold wO;rw[Ee (cx hf) hb];rfl
   refine ay ?_;refine af ?_;refine anA ?_;refine af ?_;refine dA (jm (cs':=aH f) rfl rfl (an _ _ _) rfl) aG (ef t48 Dn oS rfl) ?_;refine ab (aX (kY (i:=nx) (l:=[(0,pu l),(3,I t),(4,.pt (aH f))]) (an _ _ _) ⟨rfl,rfl,mG,trivial⟩) (aI (aj ?_)));refine bj ?_;refine bj ?_;refine fB ?_;refine cq rfl rfl (MT rfl) (fun hc=>⟨ak,V.h⟩) ?_;refine af ?_;have hd:Fj f=_:=(Zn (decide (12<(f.blocks.length:Int))) (decide (20<(f.ag.length:Int))) (decide (10<(f.aN.length:Int))) (decide (8<(f.signals.length:Int))) (decide (130<(f.name.size:Int)))).symm;refine ab (dZ rfl (fun h=>?_) fun h=>cX (aI (ay ?_)))
   .have hb:Fj f=true:=hd.trans h;refine aI (aj ?_);refine SS ?_;refine ab (eb (cZ (a6 (aw (d:=B false) rfl ?_))));rw[O (by unfold wN;rw[hb];rfl)]
   have hH:Fj f=false:=hd.trans h;clear hd h
   have aqU:f.blocks.length<=100000/\f.signals.length<=100000:=by
    unfold Fj at hH;simp only[Bool.or_eq_false_iff,decide_eq_false_iff_not] at hH;omega
   refine SS ?_
   refine ab (cD (fun s=>aM prog s ⟨aF [(0,pu l),(3,I t),(4,.pt (aH f))],fun _=>none,nx+1⟩/\f.signals.all (fun s=> !CB s)=true) (dD (α:=Nat) (fun k=>⟨aF [(0,pu l),(3,I t),(4,.pt (aH f)),(5,I k)],fun _=>none,nx+1⟩)
    (fun k=>k<=f.signals.length/\(f.signals.take k).all (fun s=> !CB s)=true) (fun k=>f.signals.length - k) 0 (ao eH) ⟨Nat.zero_le _,rfl⟩ ?_) ?_)
   .rintro k ⟨hk,hinv⟩;refine bm ?_;refine ab ⟨_,rfl,fun h=>?_,fun h=>?_⟩
    .have al:k<f.signals.length:=by simpa using h
     obtain⟨x,hx⟩:∃ x,f.signals[k]? =some x:=⟨_,bc al⟩
     refine ws ?_;refine fB ?_;refine ab (ap rfl (fun hp=>aj ?_) fun hp=>dE ?_)
     .have hp:CB x=true:=hp;refine SS ?_;refine ab (bp (cZ (a6 (cZ (a6 (aw (d:=B false) rfl ?_))))));rw[O (by unfold wN;rw[Ee (p:=fun s=> !CB s) (cx hx) (by rw[hp];rfl)];simp)]
     .have hp:CB x=false:=hp;show ax _ _ _ _ _ _ _ _ _;refine av ?_;exact ab (bg (k+1) (ao eH) ⟨oG,DB hx hinv (by rw[hp];rfl)⟩ oG)
    .have M:¬ k<f.signals.length:=by simpa using h
     rw[cO oG] at hinv;exact⟨ao eH,hinv⟩
   rintro s ⟨hg,Yl⟩;refine⟨_,hg,ay ?_⟩;refine SS ?_
   refine ab (dD (α:=Nat×Nat) (fun s=>⟨aF [(0,pu l),(3,I t),(4,.pt (aH f)),(6,I s.1)],fun _=>none,s.2⟩)
    (fun s=>s.1<=f.blocks.length/\(f.blocks.take s.1).all yL=true) (fun s=>f.blocks.length - s.1) (0,nx+1) (ao eH) ⟨Nat.zero_le _,rfl⟩ ?_)
   rintro⟨k,ny⟩ ⟨hk,hinv⟩;dsimp only at hk hinv ⊢;refine bm ?_;refine ab ⟨_,rfl,fun h=>?_,fun h=>?_⟩
   .have al:k<f.blocks.length:=by simpa using h
    clear h;obtain⟨x,hx⟩:∃ x,f.blocks[k]? =some x:=⟨_,bc al⟩
    have U:yL x=false->wO l=false:=fun hb=>O (by unfold wN;rw[Ee (cx hx) hb];simp);refine ay ?_;refine fB ?_;refine ab (aX (kY (i:=ny) (l:=[(0,pu l),(3,I t),(4,.pt (aH f)),(6,I k),(7,.pt (cg x))]) (an _ _ _) ⟨rfl,rfl,rfl,rfl,mG,trivial⟩) (aI (aj ?_)));refine bj ?_;refine bj ?_;refine aR ?_;refine cq rfl rfl (MT rfl) (fun hc=>⟨ak,V.h⟩) ?_;refine cP ?_;refine af ?_;have hd:Cz x=_:=(Zn (decide (8<(x.ins.length:Int))) (decide (8<(x.fin.aC.length:Int))) (decide (8<(x.fin.args.length:Int))) (decide (130<(x.fin.name.size:Int))) (decide (8<(x.fin.ins.args.length:Int)))).symm;refine ab (dZ rfl (fun h=>?_) fun h=>cX (aI (ay ?_)))
    .have hb:Cz x=true:=hd.trans h;refine aI (aj ?_);refine SS ?_;refine ab (eb (cZ (cZ (a6 (aw (d:=B false) rfl ?_)))));rw[U (by unfold yL;rw[hb];rfl)]
    have hK:Cz x=false:=hd.trans h;clear hd h
    have lI:x.ins.length<=100000/\x.fin.aC.length<=100000:=by
     unfold Cz at hK;simp only[Bool.or_eq_false_iff,decide_eq_false_iff_not] at hK;omega
    refine SS ?_
    refine ab (cD (fun s=>aM prog s ⟨aF [(0,pu l),(3,I t),(4,.pt (aH f)),(6,I k),(7,.pt (cg x))],fun _=>none,ny+1⟩/\x.ins.all (fun y=> !CA y)=true) (dD (α:=Nat) (fun j=>⟨aF [(0,pu l),(3,I t),(4,.pt (aH f)),(6,I k),(7,.pt (cg x)),(8,I j)],fun _=>none,ny+1⟩)
     (fun j=>j<=x.ins.length/\(x.ins.take j).all (fun y=> !CA y)=true) (fun j=>x.ins.length - j) 0 (ao eH) ⟨Nat.zero_le _,rfl⟩ ?_) ?_)
    .rintro j ⟨hj,C⟩;refine bm ?_;refine ab ⟨_,rfl,fun h=>?_,fun h=>?_⟩
     .have X:j<x.ins.length:=by simpa using h
      obtain⟨y,hy⟩:∃ y,x.ins[j]? =some y:=⟨_,bc X⟩
      refine ws ?_;refine cP ?_;refine ab (ap rfl (fun hp=>aj ?_) fun hp=>dE ?_)
      .have hp:CA y=true:=hp;refine SS ?_;refine ab (bp (cZ (a6 (cZ (cZ (a6 (aw (d:=B false) rfl ?_)))))));rw[U (by unfold yL;rw[Ee (p:=fun y=> !CA y) (cx hy) (by rw[hp];rfl)];simp)]
      .have hp:CA y=false:=hp;show ax _ _ _ _ _ _ _ _ _;refine av ?_;exact ab (bg (j+1) (ao eH) ⟨oG,DB hy C (by rw[hp];rfl)⟩ oG)
     .have M:¬ j<x.ins.length:=by simpa using h
      rw[cO oG] at C;exact⟨ao eH,C⟩
    rintro s ⟨hg,yM⟩;refine⟨_,hg,ay ?_⟩;refine SS ?_
    refine ab (dD (α:=Nat) (fun j=>⟨aF [(0,pu l),(3,I t),(4,.pt (aH f)),(6,I k),(7,.pt (cg x)),(9,I j)],fun _=>none,ny+1⟩)
     (fun j=>j<=x.fin.aC.length/\(x.fin.aC.take j).all (fun y=> !Fk y)=true) (fun j=>x.fin.aC.length - j) 0 (ao eH) ⟨Nat.zero_le _,rfl⟩ ?_)
    rintro j ⟨hj,C⟩;refine cG ?_;refine ab ⟨_,rfl,fun h=>?_,fun h=>?_⟩
    .have X:j<x.fin.aC.length:=by simpa using h
     obtain⟨y,hy⟩:∃ y,x.fin.aC[j]? =some y:=⟨_,bc X⟩
     refine ws ?_;refine bj ?_;refine ab (ap rfl (fun hp=>aj ?_) fun hp=>dE ?_)
     .have hp:Fk y=true:=hp;refine SS ?_;refine ab (bp (cZ (cZ (cZ (a6 (aw (d:=B false) rfl ?_))))));rw[U (by unfold yL;rw[Ee (p:=fun w=> !Fk w) (cx hy) (by rw[hp];rfl)];simp)]
     .have hp:Fk y=false:=hp;show ax _ _ _ _ _ _ _ _ _;refine av ?_;exact ab (bg (j+1) (ao eH) ⟨oG,DB hy C (by rw[hp];rfl)⟩ oG)
    .have M:¬ j<x.fin.aC.length:=by simpa using h
     rw[cO oG] at C;show ax _ _ _ _ _ _ _ _ _;refine av ?_;refine ab (bg (k+1,ny+1) (ao eH) ⟨oM,DB hx hinv ?_⟩ oM);unfold yL;rw[hK,yM,C];rfl
   .have M:¬ k<f.blocks.length:=by simpa using h
    rw[cO oG] at hinv;show ax _ _ _ _ _ _ _ _ _;refine av ?_;refine ab (bg (t+1,ny) (ao eH) ⟨oM,DB hf J ?_⟩ oM);unfold wN;rw[hH,Yl,hinv];rfl
  .have M:¬ t<l.length:=by simpa using h
   rw[cO oG] at J;exact⟨⟨nx,ao eH⟩,J⟩
 .rintro s ⟨⟨nx,hg⟩,J⟩
  have hb:wO l=(decide ((l.length:Int)<=10)||(decide (60<(l.length:Int))&&decide ((l.length:Int)<=63))):=by
   unfold wO;rw[J,Bool.true_and]
  rw[hb];refine⟨_,hg,aj ?_⟩;refine bj ?_;refine bm ?_;refine ab (aw rfl ?_);show B _=B _;congr 1;cases decide ((l.length:Int)<=10)<;>cases decide ((60:Int)<l.length)<;>rfl
end Go.Proofs.Tryz.K
end
namespace Go.Proofs.Tryz.K
open Go.Abs
theorem sk9:uM=(S1 (G1 uM 0) (S1 (S1 (G1 uM 1) (C1 14 (S1 (G1 uM 2) .ret) K1)) (S1 (G1 uM 3) (S1 (G1 uM 4) (S1 (G1 uM 5) (S1 (G1 uM 6) (S1 (G1 uM 7) .ret))))))):=kr
end Go.Proofs.Tryz.K
section
open Go Go.Abs Go.Proofs Go.Argus
namespace Go.Abs
theorem aeT{P:Program}{f:FuncId}{args C:List D}{r:D}(hc:az P f C r)(hl:C.length=args.length)(h:∀ (k:Nat) (d d':D),args[k]? =some d->C[k]? =some d'->Wk d d')(ht:∀ a∈args,Tr a):az P f args r:=by
 refine⟨hc.1,ht,fun F w vs M hR=>hc.2.2 F w vs M ⟨by rw[hR.1,hl],fun k d' v J hv=>?_⟩⟩;have hk:k<args.length:=by have:=(bX.1 J).1;omega
 exact h k args[k] d' (bc hk) J F _ w v (hR.2 k args[k] v (bc hk) hv)
end Go.Abs
namespace Go.Proofs.Tryz.K
set_option maxHeartbeats 1000000
theorem Qx{f:aK}(hs:s4 f)(J:∀ b∈f.blocks,b.fin.aC.length<=9)(C:fe f=0):az prog 68 [.agg (aH f)] (.bd [S (wz f),I 0]):=by
 have om:=om hs J;rw[C] at om;have hf:=Argus.checked C;have O':=O' (agt hf) (xW hf).args;refine bu anB (.cons (.agg (gA f)) .nil) (.bd (.cons (.s _) (.cons (.s _) .nil))) ?_;rw[anC];refine ay ?_;refine av ?_;refine ab (aX (bZ [(0,aH f,48)] eH (l:=[(1,.pt (aH f))]) eH) (aj ?_));refine SS ?_;refine cl om ?_;refine SS ?_;refine ab (aI (aj ?_));refine af ?_;refine ab (mE (cX (aj ?_)));refine SS ?_;refine cl O' ?_;refine af ?_;exact ab (oO rfl rfl rfl)
theorem Dt{f:aK}:az prog 31 [.agg (aH f)] (.bd [sW f,I (fe f)]):=by
 have mg:=mg (f:=f);refine bu anD (.cons (.agg (gA f)) .nil) (.bd (.cons (SE f) (.cons (.s _) .nil))) ?_;rw[anE];refine ay ?_;refine av ?_;refine ab (aX (bZ [(0,aH f,48)] eH (l:=[(1,.pt (aH f)),(2,.z),(3,I 0)]) eH) (aI (aj ?_)));by_cases he:fe f=0
 .have Qf:=Qf (f:=f) (by have:=(xW (Argus.checked he)).oi;omega);have C:sW f=ez (dG f.blocks):=if_pos he;rw[C];rw[he] at mg ⊢;refine SS ?_;refine cl mg ?_;refine SS ?_;refine ab (aI (aj ?_));refine af ?_;refine ab (mE (cX (aj ?_)));refine SS ?_;refine cl Qf ?_;refine af ?_;exact ab (oO rfl rfl rfl)
 .have C:sW f=.z:=if_neg he;rw[C];generalize fe f=e at mg he;have pX:(e !=0)=true:=by simpa using he
  refine SS ?_;refine cl mg ?_;refine SS ?_;refine ab (aI (aj ?_));refine af ?_;refine ab (pP (aI (aj ?_)));refine av ?_;exact ab (eb (oO rfl rfl rfl))
theorem Du{f:aK}(hs:s4 f)(J:∀ b∈f.blocks,b.fin.aC.length<=9):az prog 32 [.agg (aH f)] (.bd [sW f,I (fe f)]):=by
 have om:=om hs J;refine bu anF (.cons (.agg (gA f)) .nil) (.bd (.cons (SE f) (.cons (.s _) .nil))) ?_;rw[anG];refine ay ?_;refine av ?_;refine ab (aX (bZ [(0,aH f,48)] eH (l:=[(1,.pt (aH f)),(2,.z),(3,I 0)]) eH) (aj ?_));by_cases he:fe f=0
 .have Dq:=Dq (f:=f) (by have:=(xW (Argus.checked he)).oi;omega);have C:sW f=ez (dG f.blocks):=if_pos he;rw[C];rw[he] at om ⊢;refine SS ?_;refine cl om ?_;refine SS ?_;refine ab (aI (aj ?_));refine af ?_;refine ab (mE (cX (aj ?_)));refine SS ?_;refine cl Dq ?_;refine af ?_;exact ab (oO rfl rfl rfl)
 .have C:sW f=.z:=if_neg he;rw[C];generalize fe f=e at om he;have pX:(e !=0)=true:=by simpa using he
  refine SS ?_;refine cl om ?_;refine SS ?_;refine ab (aI (aj ?_));refine af ?_;refine ab (pP (aI (aj ?_)));refine av ?_;exact ab (eb (oO rfl rfl rfl))
theorem Kp{f:aK}:az prog 33 [.agg (aH f)] (.bd [S (wk f),I (fe f)]):=by
 have mg:=mg (f:=f);refine bu anH (.cons (.agg (gA f)) .nil) (.bd (.cons (.s _) (.cons (.s _) .nil))) ?_;rw[anI];refine ay ?_;refine av ?_;refine ab (aX (bZ [(0,aH f,48)] eH (l:=[(1,.pt (aH f)),(2,S ⟨#[]⟩),(3,I 0)]) eH) (aI (aj ?_)));by_cases he:fe f=0
 .have Qt:=Qt he;have C:wk f=Nj f:=if_pos he;rw[C];rw[he] at mg ⊢;refine SS ?_;refine cl mg ?_;refine SS ?_;refine ab (aI (aj ?_));refine af ?_;refine ab (mE (cX (aj ?_)));refine SS ?_;refine cl Qt ?_;refine af ?_;exact ab (oO rfl rfl rfl)
 .have C:wk f=⟨#[]⟩:=if_neg he;rw[C];generalize fe f=e at mg he;have pX:(e !=0)=true:=by simpa using he
  refine SS ?_;refine cl mg ?_;refine SS ?_;refine ab (aI (aj ?_));refine af ?_;refine ab (pP (aI (aj ?_)));refine av ?_;exact ab (eb (oO rfl rfl rfl))
theorem Kq{f:aK}(hs:s4 f)(J:∀ b∈f.blocks,b.fin.aC.length<=9):az prog 34 [.agg (aH f)] (.bd [S (wk f),I (fe f)]):=by
 have om:=om hs J;refine bu anJ (.cons (.agg (gA f)) .nil) (.bd (.cons (.s _) (.cons (.s _) .nil))) ?_;rw[anK];refine ay ?_;refine av ?_;refine ab (aX (bZ [(0,aH f,48)] eH (l:=[(1,.pt (aH f)),(2,S ⟨#[]⟩),(3,I 0)]) eH) (aj ?_));by_cases he:fe f=0
 .have Qw:=Qw (f:=f) (by have:=(xW (Argus.checked he)).oi;omega);have Qx:=Qx (aeU hs) (ags J) (Ld he);have C:wk f=wz (uK f):=if_pos he;rw[C];rw[he] at om ⊢;refine SS ?_;refine cl om ?_;refine SS ?_;refine ab (aI (aj ?_));refine af ?_;refine ab (mE (cX (aj ?_)));refine SS ?_;refine cl Qw ?_;refine cl Qx ?_;refine aR ?_;exact ab (oO rfl rfl rfl)
 .have C:wk f=⟨#[]⟩:=if_neg he;rw[C];generalize fe f=e at om he;have pX:(e !=0)=true:=by simpa using he
  refine SS ?_;refine cl om ?_;refine SS ?_;refine ab (aI (aj ?_));refine af ?_;refine ab (pP (aI (aj ?_)));refine av ?_;exact ab (eb (oO rfl rfl rfl))
theorem anL:az prog 27 [.z,.z] (B true):=by
 have h:az prog 27 [ez [],ez []] (B true):=by
  have:=Dr (a:=[]) (b:=[])
  rwa[decide_eq_true rfl] at this
 refine aeT h rfl (fun k d d' h1 h2=>?_) (.cons .z (.cons .z .nil))
 match k with
 |0=>simp at h1 h2;subst h1 h2;exact Fi
 |1=>simp at h1 h2;subst h1 h2;exact Fi
theorem ajt(Gg:az prog 15 [] (B true)){f:aK}(hs:s4 f):az prog 9 [.agg (aH f)] (B true):=by
 refine bu ok9 (.cons (.agg (gA f)) .nil) (Tr.s _) ?_;rw[sk9];have Ds:=Ds (l:=[f])
 have M:∀ {m:Mem},m 1=some (.cells (aH f) 48)->jx prog [1] m [.rs 1 0 1] [pu [f]]:=fun hm=>
  ⟨uH hm oS (by rw[Dn];simp;rfl) (fun a h=>gA f a (by simpa using h)),trivial⟩
 refine ay ?_;refine af ?_;refine ab (aX (bZ [(0,aH f,48)] eH (l:=[(1,.pt (aH f))]) eH) (aI (aj ?_)));cases hb:wO [f] with
 |false=>
  rw[hb] at Ds;refine af ?_;refine z7 Ds rfl (M rfl) rfl ak ?_;refine SS ?_;refine ab (pP (aI (aj ?_)));refine cl Gg ?_;refine SS ?_;exact ab (eb (aw rfl rfl))
 |true=>
  rw[hb] at Ds;have O:=ahB hb;have Dt:=Dt (f:=f);have Du:=Du hs O;have Kp:=Kp (f:=f);have Kq:=Kq hs O;refine af ?_;refine z7 Ds rfl (M rfl) rfl ak ?_;refine SS ?_;refine ab (mE (cX (aj ?_)));have C:∀ c:Int,(c==c)=true:=fun c=>beq_self_eq_true _;have J:((wk f).toList==(wk f).toList)=true:=beq_self_eq_true _;generalize wk f=s at*
  have hz:sW f=ez (dG f.blocks)\/sW f=.z:=by
   unfold sW;split
   .exact .inl rfl
   .exact .inr rfl
  generalize fe f=c at*
  rcases hz with e|e
  .rw[e] at Dt Du
   have Dr:az prog 27 [ez (dG f.blocks),ez (dG f.blocks)] (B true):=by
    have:=Dr (a:=dG f.blocks) (b:=dG f.blocks)
    rwa[decide_eq_true rfl] at this
   refine SS ?_;refine cl Dt ?_;refine bm ?_;refine er ?_;refine SS ?_;refine cl Du ?_;refine bm ?_;refine er ?_;refine SS ?_;refine cl Kp ?_;refine bm ?_;refine er ?_;refine SS ?_;refine cl Kq ?_;refine bm ?_;refine er ?_;refine cl Gg ?_;refine av ?_;refine gc Dr ?_;refine bm ?_;rw[C];refine bm ?_;rw[J];refine bm ?_;rw[C];refine af ?_;exact ab (aw rfl rfl)
  .rw[e] at Dt Du;have Dr:=anL;refine SS ?_;refine cl Dt ?_;refine SS ?_;refine aq (sF (v:=.z) rfl rfl) ak (by first|decide|simp) ?_;refine av ?_;refine er ?_;refine SS ?_;refine cl Du ?_;refine SS ?_;refine aq (sF (v:=.z) rfl rfl) ak (by first|decide|simp) ?_;refine av ?_;refine er ?_;refine SS ?_;refine cl Kp ?_;refine bm ?_;refine er ?_;refine SS ?_;refine cl Kq ?_;refine bm ?_;refine er ?_;refine cl Gg ?_;refine SS ?_;refine cq rfl rfl (gX (v:=.z) rfl) (fun hc=>⟨ak,trivial⟩) ?_;refine cq rfl rfl (gX (v:=.z) rfl) (fun hc=>⟨ak,trivial⟩) ?_;refine gc Dr ?_;refine bm ?_;rw[C];refine bm ?_;rw[J];refine bm ?_;rw[C];refine af ?_;exact ab (aw rfl rfl)
end Go.Proofs.Tryz.K
end
section
open Go Go.Abs Go.Argus
namespace Go.Proofs.Tryz.K
theorem k9{f:aK}(hs:s4 f):az prog 9 [.agg (aH f)] (B true):=ajt Gg hs
end Go.Proofs.Tryz.K
end
