/- Part 21. -/
import Derived.Test.YtkogeiacmmckkaaGreatDoorFlowMemory4
import Derived.Test.YtkogeiacmmckkaaGreatDoorFlowMemory18
import Derived.Test.YtkogeiacmmckkaaGreatDoorFlowMemory19
import Derived.Test.YtkogeiacmmckkaaGreatDoorFlowMemory20
set_option linter.all false
set_option maxHeartbeats 8000000
set_option maxRecDepth 10000
open List(range)
section
open Go Go.Abs Go.Proofs Go.Argus
namespace Go.Argus
open Go.Proofs.Tryz.K (nextR)
def qg(f:aU):Bool:=decide (f.result=1)||(decide (f.result=2)||(decide (f.result=0)&& !f.iter))
def uX(f:aU):Bool:=
 tu f.name&&(gz f.args 0 (if(f.al.length:Int)<6 then(f.al.length:Int) else 6)&&(qg f&&(!decide ((1200:Int)<f.al.length)&&(!decide ((60:Int)<f.bz.length)&&gz f.blocks.length 1 1200))))
def uY(f:aU):Bool:=
 s7 f.al 3&&(s7 (f.al.take f.args.toNat) 2&&(s7 f.bz 2&&(!decide ((6:Int)<f.signals.length)&& !f.signals.any fun s=> !isName s)))
def uZ(l:List ByteArray)(i:Nat):Bool:=Op.bytesLess (l.getD i .empty).toList (l.getD (i+1) .empty).toList
def JP(f:aU):Bool:=(range (f.signals.length - 1)).all (uZ f.signals)
def u6(bs:List bp)(k:Nat):List Int:=((bs.take k).filter fun x=>x.fin.kind==7).map fun x=>x.fin.a
def lL(f:aU)(k:Nat):Bool:=
 let x:=f.blocks.getD k mL
 mG f x.fin&&(!decide ((200:Int)<x.ins.length)&& !(x.fin.kind==7&&(u6 f.blocks k).any (·==x.fin.a)))
def uM(f:aU)(b:Nat)(l:List bn)(j:Nat):Bool:=jD f b (l.getD j rL) ((l.take (j+1)).all jn) (dd f.blocks f.blocks.length b).length
def uN(f:aU)(b:Nat):Bool:=(range (f.blocks.getD b mL).ins.length).all (uM f b (f.blocks.getD b mL).ins)
def pA(f:aU):Bool:=
 uX f&&(uY f&&(JP f&&((range f.blocks.length).all (lL f)&&(range f.blocks.length).all (uN f))))
def gB(f:aU):Int:=if pA f=true then(if zB f.blocks f.args.toNat=true then 0 else 81) else 80
def fF(l:List Int)(r:Int):Prop:=0<=r/\r<l.length
theorem iR{l:List Int}{r:Int}(h:cQ l r≠0):fF l r:=Classical.byContradiction fun hn=>h (PE hn)
theorem qi{l:List Int}{r:Int}(h:mH l r=true):fF l r:=by
 refine iR fun e=>?_;simp[mH,e] at h
theorem ru{l rs:List Int}(h:qm l rs=true):∀ r∈rs,fF l r:=fun r hr=>qi (cv.1 h r hr)
theorem Ex{l:List Int}{r want of:Int}(h:oA l r want of=true)(C:want≠0):fF l r:=by
 unfold oA at h;rw[if_neg C] at h;split at h
 .refine iR fun e=>?_;simp[e] at h
 .split at h
  .refine iR fun e=>?_;simp[e] at h
  .split at h
   .exact qi h
   .refine iR fun e=>?_;simp[e] at h
structure oV(l:List Int)(x:bn)(s:Shape):Prop where
 to:s.to≠0->fF l x.to
 a:s.a≠0->fF l x.a
 b:s.b≠0->fF l x.b
 args:s.args=5\/s.args=6->x.args.length<=6/\∀ r∈x.args,fF l r
theorem BH{l:List Int}{x:bn}{s:Shape}(h:rz l x s=true):oV l x s:=by
 unfold rz at h;simp only[aw] at h;obtain⟨h1,h2,J,C,_⟩:=h;refine⟨Ex h1,Ex h2,Ex J,fun hs=>?_⟩;unfold uA at C;rcases hs with hs|hs
 .rw[if_pos hs,aw] at C;have:=iO.1 C.1;exact⟨oG,ru C.2⟩
 .rw[if_neg oG,if_pos hs,aw] at C;have:(x.args.length:Int)=1:=by simpa using C.1
  exact⟨oG,ru C.2⟩
theorem wR{l:List (Int×Shape)}{op:Int}{s:Shape}(h:cH l op=some s):(op,s)∈l:=by
 unfold cH at h;rw[cN] at h;obtain⟨⟨o,s'⟩,h1,rfl⟩:=h;have h2:=List.find?_some h1;have C:=List.mem_of_find?_eq_some h1;have:o=op:=by simpa using h2
 subst this;exact C
theorem Ih{l:List Int}{x:bn}{s:Shape}(hl:l.length<=1200)(hm:(x.op,s)∈dC\/(x.op,s)∈ek)(h:oV l x s):pK x:=by
 obtain⟨h1,h2,O,J⟩:=h;unfold fF at h1 h2 O J;have hr:∀ {r:Int},0<=r/\r<l.length->0<=r/\r<1200:=fun h=>by omega
 have U:∀ {r:Int},0<=r/\r<l.length-> -1000000<=r/\r<1200:=fun h=>by omega
 obtain⟨op,to,a,b,n,args⟩:=x;dsimp only at h1 h2 O J hm;simp only[dC,ek,List.mem_cons,bR,List.not_mem_nil,or_false] at hm;rcases hm with hm|hm
 .rcases hm with hm|hm|hm|hm|hm|hm|hm|hm|hm|hm|hm|hm|hm|hm|hm<;>obtain⟨rfl,rfl⟩:=hm<;>refine⟨fun r C=>?_,fun h=>?_,?_,fun h=>?_⟩<;>
   simp_all[cT,gj,aR,mD,ou,mz,oq]<;>first|omega|(rcases C with rfl|rfl<;>omega)|(have:=J.2 r C;omega)
 .rcases hm with hm|hm|hm|hm|hm|hm|hm|hm|hm<;>obtain⟨rfl,rfl⟩:=hm<;>refine⟨fun r C=>?_,fun h=>?_,?_,fun h=>?_⟩<;>
   simp_all[cT,gj,aR,mD,ou,mz,oq]<;>first|omega|(rcases C with rfl|rfl<;>omega)|(rcases C with rfl|rfl|C<;>first|omega|(have:=J.2 r C;omega))
theorem dZ{a b:Int}:cS a b=true↔a=b:=by simp[cS]
theorem zN{l bz:List Int}{r n:Int}(hs:∀ k∈bz,k≠0)(h:xY l bz r n=true):fF l r/\0<=n/\n<bz.length:=by
 unfold xY at h;rw[aw,iO] at h;obtain⟨⟨h1,h2⟩,C⟩:=h
 have J:cQ bz n≠0:=by
  obtain⟨k,rfl⟩:=gd h1;have hk:k<bz.length:=by omega
  rw[Jk (bx hk)];exact hs _ (eE hk)
 refine⟨iR ?_,h1,oG⟩;rw[show cQ l r=cQ bz n by simpa using C];exact J
theorem Ow{f:aU}{b ahead:Int}{x:bn}{phis:Bool}(hl:f.al.length<=1200)(hs:∀ k∈f.bz,k≠0)(pj:f.bz.length<=60)(h:jD f b x phis ahead=true):
 pK x/\(x.op=19->(x.args.length:Int)=ahead/\phis=true/\0<b/\fF f.al x.to/\∀ r∈x.args,cQ f.al r=cQ f.al x.to/\fF f.al r):=by
 unfold jD at h;split at h
 .rename_i O;simp only[aw,dZ] at h;have hr:=iR (l:=f.al) (r:=x.a) oG;unfold fF at hr;refine⟨⟨fun r h'=>?_,fun h'=>by omega,?_,fun h'=>by omega⟩,fun h'=>by omega⟩
  .simp[cT,aR,mD,O] at h';omega
  .simp[gj,aR,mz,oq,O]
 .rename_i O;split at h
  .rename_i J;simp only[aw,dZ] at h;obtain⟨h1,h2,h3⟩:=zN hs h.2.2.2;unfold fF at h1;refine⟨⟨fun r h'=>?_,fun h'=>by omega,?_,fun h'=>by omega⟩,fun h'=>by omega⟩
   .simp[cT,aR,mD,ou,J] at h'
   .simp[gj,aR,mz,J];omega
  .rename_i J;split at h
   .rename_i U;simp only[aw,dZ] at h;obtain⟨h1,h2,h3⟩:=zN hs h.2.2.2;unfold fF at h1;refine⟨⟨fun r h'=>?_,fun h'=>by omega,?_,fun h'=>by omega⟩,fun h'=>by omega⟩
    .simp[cT,aR,mD,U] at h';omega
    .simp[gj,aR,mz,oq,U]
   .rename_i U;split at h
    .rename_i C;simp only[aw,dZ,decide_eq_true_eq] at h;obtain⟨g1,g2,X,g4,g5,g6,g7,g8⟩:=h;have hr:=qi X;have hk:cQ f.al x.to≠0:=fun e=>by simp[mH,e] at X
     refine⟨⟨fun r h'=>?_,fun h'=>by omega,?_,fun h'=>by omega⟩,fun _=>⟨g7,g1,g2,hr,fun r eh=>?_⟩⟩
     .simp[cT,aR,mD,ou,C] at h'
     .unfold fF at hr;simp[gj,aR,mz,C];omega
     .have:cS (cQ f.al r) (cQ f.al x.to)=true:=by
       simp only[Bool.not_eq_true',List.any_eq_false] at g8;simpa using g8 r eh
      rw[dZ] at this;exact⟨this,iR (by rw[this];exact hk)⟩
    .rename_i C;rw[aw] at h;cases hs:cH dC x.op with
     |none=>rw[hs] at h;simp at h
     |some s=>
      rw[hs] at h;exact⟨Ih hl (.inl (wR hs)) (BH h.2),fun h'=>absurd h' C⟩
structure GA(f:aU)(x:End):Prop where
 fin:Cq x
 wh:x.aD.length<=7
 to:∀ t∈dW x,0<=t/\t<f.blocks.length
theorem D7{f:aU}{x:End}(h:qj f x=true):x.aD.length<=7/\(∀ w∈x.aD,0<=w.to/\w.to<f.blocks.length)/\(0<=x.others->x.others<f.blocks.length):=by
 unfold qj at h;rw[aw,aw] at h;obtain⟨h1,h2,C⟩:=h;have h2:(x.aD.length:Int)<=7:=by simpa using h2
 refine⟨oG,fun w J=>?_,fun h0=>?_⟩
 .obtain⟨i,hi⟩:=fI J;have hm:(w,i)∈x.aD.zipIdx:=List.mem_zipIdx_iff_getElem?.2 hi;have:=cv.1 h1 _ hm;simp only[rW,aw,eK,iO] at this;omega
 .rw[Bool.or_eq_true] at C;rcases C with C|C
  .have:x.others= -1:=by simpa using C
   omega
  .rw[eK,iO] at C;omega
theorem Rz{x:End}(h:vA x=true):x.kind=0/\x.a=0/\x.b=0/\x.to=0/\x.gX=0/\x.others= -1/\x.args.length=0/\x.aD.length=0:=by
 simp only[vA,aw,decide_eq_true_eq] at h;omega
theorem Qv{f:aU}{x:End}(hl:f.al.length<=1200)(hr:qg f=true)(h:mG f x=true):GA f x:=by
 have gP:∀ {r:Int},fF f.al r->0<=r/\r<1200:=fun h=>by unfold fF at h;omega
 unfold mG at h;rw[aw] at h;obtain⟨h,hb⟩:=h;have hb:=Rz hb;have U:∀ {t:Int},eK f t=true->0<=t/\t<f.blocks.length:=fun h=>by rw[eK,iO] at h;omega
 obtain⟨kind,a,b,to,gX,name,ins,args,aD,others⟩:=x;simp only[fy] at h hb;by_cases h1:kind=1
 .subst h1;simp only[if_true] at h hb;have J:=U h;have C:aD=[]:=List.length_eq_zero_iff.1 hb.2.2.2.2.2.2.2;subst C;refine⟨⟨fun r h'=>?_,?_,oS,oS,oS⟩,oS,fun t ht=>?_⟩
  .simp[dK,aR] at h'
  .simp[jA,aR]
  .simp[dW,mn,aR] at ht;subst ht;exact J
 by_cases h2:kind=2
 .subst h2;simp only[Int.reduceEq,if_false,if_true,aw,dZ] at h hb;have C:aD=[]:=List.length_eq_zero_iff.1 hb.2.2.2.2.2.2.2;subst C;have Bq:=gP (iR (l:=f.al) (r:=a) oG);have J:=U h.2.1;have DP:=U h.2.2;refine⟨⟨fun r h'=>?_,?_,oS,oS,oS⟩,oS,fun t ht=>?_⟩
  .simp[dK,aR] at h';subst h';exact Bq
  .simp[jA,aR]
  .simp[dW,mn,aR] at ht;rcases ht with rfl|rfl
   .exact J
   .exact DP
 by_cases h3:kind=3
 .subst h3;simp only[Int.reduceEq,if_false,if_true] at h hb;have C:aD=[]:=List.length_eq_zero_iff.1 hb.2.2.2.2.2.2.2;subst C;refine⟨⟨fun r h'=>?_,?_,oS,oS,oS⟩,oS,fun t ht=>?_⟩
  .simp[dK,aR] at h';obtain⟨h1,rfl⟩:=h';split at h
   .rename_i hc;rw[dZ] at h;exact gP (iR (by rw[h];exact hc.1))
   .rw[dZ] at h;exact absurd h h1
  .simp[jA,aR]
  .simp[dW,aR] at ht
 by_cases h4:kind=4
 .subst h4;simp only[Int.reduceEq,if_false,if_true] at h hb;have C:aD=[]:=List.length_eq_zero_iff.1 hb.2.2.2.2.2.2.2;subst C;refine⟨⟨fun r h'=>?_,?_,oS,oS,oS⟩,oS,fun t ht=>?_⟩
  .simp[dK,aR] at h'
  .simp[jA,aR]
  .simp[dW,aR] at ht
 by_cases h5:kind=5
 .subst h5;simp only[Int.reduceEq,if_false,if_true,aw] at h hb;obtain⟨g1,g2,X,O⟩:=h;obtain⟨wN,DQ,DR⟩:=D7 O;have J:=U X
  have hi:pK ins:=by
   cases hs:cH ek ins.op with
   |none=>rw[hs] at g1;simp at g1
   |some s=>rw[hs] at g2;exact Ih hl (.inr (wR hs)) (BH g2)
  refine⟨⟨fun r h'=>?_,?_,?_,fun _=>hi.ar,oS⟩,wN,fun t ht=>?_⟩
  .simp[dK,aR] at h';exact hi.rd r h'
  .simp only[jA,if_true];exact hi.wr
  .dsimp only at wN ⊢;omega
  .simp[dW,mn,aR] at ht;rcases ht with rfl|⟨w,C,rfl⟩|⟨h0,rfl⟩
   .exact J
   .exact DQ w C
   .exact⟨h0,DR h0⟩
 by_cases h6:kind=6
 .subst h6;simp only[Int.reduceEq,if_false,if_true,aw,Bool.or_eq_true,dZ,decide_eq_true_eq] at h hb;obtain⟨g1,g2,X,O,g5,g6⟩:=h;obtain⟨wN,DQ,DR⟩:=D7 g6;have J:=U g5;have hv:=ru X;refine⟨⟨fun r h'=>?_,?_,?_,oS,fun _=>?_⟩,wN,fun t ht=>?_⟩
  .simp[dK,aR] at h';exact gP (hv r h')
  .simp only[jA,aR];rcases O with O|O
   .simp[O]
   .have:=gP (qi O);simp;omega
  .dsimp only at wN ⊢;omega
  .dsimp only;omega
  .simp[dW,mn,aR] at ht;rcases ht with rfl|⟨w,C,rfl⟩|⟨h0,rfl⟩
   .exact J
   .exact DQ w C
   .exact⟨h0,DR h0⟩
 by_cases h7:kind=7
 .subst h7;simp only[Int.reduceEq,if_false,if_true,aw,dZ,decide_eq_true_eq] at h hb;obtain⟨g1,g2,X,O,g5⟩:=h;have C:aD=[]:=List.length_eq_zero_iff.1 hb.2.2.2.2.2.2.2;subst C;have J:=U g5;have hv:=ru X;have Bq:=gP (iR (l:=f.al) (r:=a) oG);refine⟨⟨fun r h'=>?_,?_,oS,oS,fun _=>?_⟩,oS,fun t ht=>?_⟩
  .simp[dK,aR] at h';exact gP (hv r h')
  .simp only[jA,aR];simp;omega
  .dsimp only;omega
  .simp[dW,mn,aR] at ht;subst ht;exact J
 by_cases h8:kind=8
 .subst h8;simp only[Int.reduceEq,if_false,if_true,aw,dZ] at h hb;obtain⟨g1,g2,X,O,g5⟩:=h;obtain⟨wN,DQ,DR⟩:=D7 g5;have J:=U X;have DP:=U O;have Bq:=gP (iR (l:=f.al) (r:=a) oG);have y8:=gP (qi g2);refine⟨⟨fun r h'=>?_,?_,?_,oS,oS⟩,wN,fun t ht=>?_⟩
  .simp[dK,aR] at h';subst h';exact Bq
  .simp[jA,aR];omega
  .dsimp only at wN ⊢;omega
  .simp[dW,mn,aR] at ht;rcases ht with rfl|rfl|⟨w,C,rfl⟩|⟨h0,rfl⟩
   .exact J
   .exact DP
   .exact DQ w C
   .exact⟨h0,DR h0⟩
 by_cases h9:kind=9
 .subst h9;simp only[Int.reduceEq,if_false,if_true,aw,dZ] at h hb;obtain⟨g1,g2,X⟩:=h;have C:aD=[]:=List.length_eq_zero_iff.1 hb.2.2.2.2.2.2.2;subst C;have J:=U X
  have Bq:=gP (iR (l:=f.al) (r:=a) (by
   rw[g2];intro e
   simp[qg,e,g1] at hr))
  refine⟨⟨fun r h'=>?_,?_,oS,oS,oS⟩,oS,fun t ht=>?_⟩
  .simp[dK,aR] at h';subst h';exact Bq
  .simp[jA,aR]
  .simp[dW,mn,aR] at ht;subst ht;exact J
 .simp[h1,h2,h3,h4,h5,h6,h7,h8,h9] at h
theorem abE(a b:Int):gm (HZ a b):=by
 unfold HZ la gm;simp only;rw[wrap_u64 (n:=(BitVec.ofInt IntKind.u64.bits a||| BitVec.ofInt IntKind.u64.bits b).toNat) (BitVec.isLt (w:=64) _)];have h:(BitVec.ofInt IntKind.u64.bits a||| BitVec.ofInt IntKind.u64.bits b).toNat<18446744073709551616:=BitVec.isLt (w:=64) _;exact⟨Int.natCast_nonneg _,Int.ofNat_lt.2 h⟩
theorem YE{w:List Int}{n:Int}(h:∀ u∈w,gm u):∀ u∈oI w n,gm u:=fun u hu=>by
 unfold oI at hu;split at hu
 .unfold Cm at hu;rcases List.mem_or_eq_of_mem_set hu with h1|h1
  .exact h u h1
  .rw[h1];exact abE _ _
 .exact h u hu
theorem OW:∀ k,∀ u∈lq k,gm u
 |0,u,hu=>by
  rw[List.eq_of_mem_replicate hu];simp[gm]
 |k+1,u,hu=>YE (OW k) u hu
theorem pK.rl{x:bn}(h:pK x):(cT x).length<=100000:=by
 unfold cT;split
 .simp
 .split
  .simp
  .split
   .rename_i J;have:=h.ar (.inl J);omega
   .split
    .rename_i C;have:=h.ar (.inr C);simp;omega
    .simp
theorem Cq.rf{x:End}(h:Cq x)(hi:x.kind=5->pK x.ins):(dK x).length<=100000:=by
 unfold dK;split
 .simp
 .split
  .split<;>simp
  .split
   .rename_i J;exact(hi J).rl
   .split
    .rename_i C;have:=h.a2 (by simpa[aR] using C);omega
    .simp
structure FX(f:aU):Prop where
 pos:0<f.blocks.length
 qZ:f.blocks.length<=1200
 al:f.al.length<=1200
 args:0<=f.args/\f.args<=6
 bA:∀ b∈f.blocks,xX f.blocks.length b
 ends:∀ b∈f.blocks,GA f b.fin
 right:∀ (b:Nat) x,f.blocks[b]? =some x->∀ (j:Nat) y,x.ins[j]? =some y->jD f b y ((x.ins.take (j+1)).all jn) (dd f.blocks f.blocks.length b).length=true
 bz:(∀ k∈f.bz,k≠0)/\f.bz.length<=60
 amx:∀ b∈f.blocks,b.fin.kind=5->pK b.fin.ins
theorem Qw{l:List Int}{m:Int}(h:s7 l m=true):∀ k∈l,k≠0:=fun k hk e=>by
 subst e;simp only[s7,Bool.not_eq_true',List.any_eq_false] at h;have:=h 0 hk;simp[BP] at this
theorem acW{f:aU}{x:End}(hl:f.al.length<=1200)(h:mG f x=true)(O:x.kind=5):pK x.ins:=by
 unfold mG at h;rw[aw] at h;have h:=h.1;unfold fy at h;simp only[O,Int.reduceEq,if_false,if_true,aw] at h;obtain⟨C,J,_⟩:=h;cases hs:cH ek x.ins.op with
 |none=>rw[hs] at C;simp at C
 |some s=>rw[hs] at J;exact Ih hl (.inr (wR hs)) (BH J)
theorem Kw{f:aU}(h:pA f=true):FX f:=by
 unfold pA at h;simp only[aw] at h;obtain⟨U,X,_,hE,hR⟩:=h;unfold uX at U;simp only[aw,iO,Bool.not_eq_true',decide_eq_false_iff_not] at U;obtain⟨_,ha,hr,wy,pj,dz⟩:=U;unfold uY at X;simp only[aw,Bool.not_eq_true',decide_eq_false_iff_not] at X;obtain⟨_,_,wq,_,_⟩:=X;have J:f.al.length<=1200:=by omega
 have um:∀ x∈f.blocks,mG f x.fin=true/\x.ins.length<=200:=fun x hx=>by
  obtain⟨k,hk⟩:=fI hx;have ag:k<f.blocks.length:=(bU.1 hk).1;have:=cv.1 hE k (by simpa using ag);rw[lL,getD_some hk] at this;simp only[aw,Bool.not_eq_true',decide_eq_false_iff_not] at this;exact⟨this.1,oG⟩
 have C:∀ x∈f.blocks,GA f x.fin:=fun x hx=>Qv J hr (um x hx).1
 have WU:∀ (b:Nat) x,f.blocks[b]? =some x->∀ (j:Nat) y,x.ins[j]? =some y->jD f b y ((x.ins.take (j+1)).all jn) (dd f.blocks f.blocks.length b).length=true:=fun b x hx j y hy=>by
  have ag:b<f.blocks.length:=(bU.1 hx).1;have:=cv.1 hR b (by simpa using ag);rw[uN,getD_some hx] at this;have:=cv.1 this j (by simpa using(bU.1 hy).1);rw[uM,getD_some hy] at this;exact this
 have O:∀ b∈f.blocks,b.fin.kind=5->pK b.fin.ins:=fun b hb O=>acW J (um b hb).1 O
 have Vs:∀ b∈f.blocks,∀ x∈b.ins,pK x:=fun b hb x hx=>by
  obtain⟨k,hk⟩:=fI hb;obtain⟨j,hj⟩:=fI hx;exact(Ow J (Qw wq) oG (WU k b hk j x hj)).1
 refine⟨oG,oG,J,⟨ha.1,by have:=ha.2;split at this<;>omega⟩,fun b hb=>⟨by have:=(um b hb).2;omega,Vs b hb,(C b hb).fin,fun x hx=>(Vs b hb x hx).rl,(C b hb).fin.rf (O b hb),fun t ht=>(C b hb).to t (Ox.1 ht)⟩,C,WU,⟨Qw wq,oG⟩,O⟩
theorem FX.Wm{f:aU}(h:FX f){b:Nat}{x:bp}(hx:f.blocks[b]? =some x){y:bn}(hy:y∈x.ins)(C:y.op=19):y.args.length=(dd f.blocks f.blocks.length b).length/\∀ r∈y.args,0<=r/\r<1280:=by
 obtain⟨j,hj⟩:=fI hy;obtain⟨h1,_,_,_,h2⟩:=(Ow h.al h.bz.1 h.bz.2 (h.right b x hx j y hj)).2 C;refine⟨oG,fun r hr=>?_⟩;have:=(h2 r hr).2;unfold fF at this;have:=h.al;omega
theorem Qm{f:aU}(h:gB f=0):pA f=true:=by
 unfold gB at h;split at h
 .assumption
 .cases h
end Go.Argus
namespace Go.Abs
section
variable{P:Program}{env:Env}{m:Mem}{nx:Nat}{x y:Operand}{t e:TypeId}{k:IntKind}
theorem abC{α:Type}{f:α->D}{l:List α}{b:Int}(hx:(opd env x).core=.sl (l.map f) l.length)(he:aq P t=e)(hs:P.cellsOf e=1)(hb:(opd env y).core=.s (.int .i64 b))(hc:aW P t=true)(C:0<=b/\b<=l.length):
 Ef P (.slice t x none (some y) none) env m nx ⟨True,.sl ((l.take b.toNat).map f) (l.take b.toNat).length,[],[],0⟩:=by
 have h:=QP (P:=P) (env:=env) (m:=m) (nx:=nx) (t:=t) (lo:=none) (hi:=some y) (a:=0) (b:=b) (es':=(l.take b.toNat).map f) hx he hs (by simp[eg]) (by simp[eg,hb,D.int?]) (by simp[List.map_take])
 have h2:(aW P t=true/\(0:Int)<=0/\(0:Int)<=b/\b<=(l.length:Int))=True:=by
  apply propext;constructor
  .exact fun _=>trivial
  .exact fun _=>⟨hc,oG,C.1,C.2⟩
 have J:(b - 0).toNat=(l.take b.toNat).length:=by rw[List.length_take];omega
 rw[h2,J] at h;exact h
theorem abD{i j sz:Nat}{C:List D}{r:Row}(J:j≠i)(hm:m j=some r)(h:Row.sub (c7 i C sz) r=r):(if j=i then none else(m j).map (Row.sub (c7 i C sz)))=some r:=by
 rw[if_neg J,hm];exact congrArg some h
theorem uC{i:Nat}{cs:List D}{l:List (Nat×D)}{ml:List (Nat×Row)}(hm:m i=some (.cells cs e))(hl:lj l fun t=>sub (c7 i cs (P.cellsOf e)) (env t))(C:Cb ml fun j=>if j=i then none else(m j).map (Row.sub (c7 i cs (P.cellsOf e)))):aC P ⟨env,m,nx⟩ ⟨ay l,cq ml,nx⟩:=
 (aC.freeze env m nx i cs e hm).trans (bY hl C)
end
def y5(i:Nat)(cs:List D)(sz:Nat)(m:Mem):Mem:=fun j=>if j=i then none else(m j).map (Row.sub (c7 i cs sz))
theorem Pq{P:Program}{env:Env}{m:Mem}{nx i:Nat}{cs:List D}{e:TypeId}{l:List (Nat×D)}(hm:m i=some (.cells cs e))(hl:lj l fun t=>sub (c7 i cs (P.cellsOf e)) (env t)):aC P ⟨env,m,nx⟩ ⟨ay l,y5 i cs (P.cellsOf e) m,nx⟩:=
 (aC.freeze env m nx i cs e hm).trans (ao hl)
theorem acG{i j sz:Nat}{cs:List D}{m:Mem}{r:Row}(h:m j=some r)(hj:j≠i)(hr:pE (fun k=>k=i) r):y5 i cs sz m j=some r:=by
 unfold y5;rw[if_neg hj,h];exact congrArg some (hr i cs sz rfl)
theorem kF{A C:List D}{p q j:Nat}{xs r:List D}{v:D}(J:A.length=p)(h:(xs++C).drop j=v::r)(hq:q=p+j:=by omega):(A++(xs++C)).drop q=v::r:=by
 subst hq J;rw[List.drop_append,List.drop_eq_nil_of_le oG,List.nil_append,show A.length+j - A.length=j by omega];exact h
theorem Sq{A C:List D}{p q j n:Nat}{xs r:List D}(J:A.length=p)(h:((xs++C).drop j).take n=r)(hq:q=p+j:=by omega):((A++(xs++C)).drop q).take n=r:=by
 subst hq J;rw[List.drop_append,List.drop_eq_nil_of_le oG,List.nil_append,show A.length+j - A.length=j by omega];exact h
theorem sg{A C:List D}{p q j:Nat}{xs ys:List D}{v:D}(J:A.length=p)(h:(xs++C).set j v=ys++C)(hq:q=p+j:=by omega):(A++(xs++C)).set q v=A++(ys++C):=by
 subst hq J;rw[List.set_append,if_neg oG,show A.length+j - A.length=j by omega,h]
theorem EP{A C:List D}{p q j:Nat}{xs ys vs:List D}(J:A.length=p)(hv:vs.length≠1)(h:(xs++C).take j++vs++(xs++C).drop (j+vs.length)=ys++C)(hq:q=p+j:=by omega):dL (A++(xs++C)) q vs=A++(ys++C):=by
 subst hq J
 have e:∀ (cs:List D) (off:Nat),dL cs off vs=cs.take off++vs++cs.drop (off+vs.length):=fun cs off=>by
  unfold dL;split
  .simp at hv
  .rfl
 rw[e, <- h,List.take_append,dR oG,List.drop_append,List.drop_eq_nil_of_le oG,show A.length+j - A.length=j by omega,show A.length+j+vs.length - A.length=j+vs.length by omega];simp
end Go.Abs
namespace Go.Argus
theorem WS:∀ b1 b2 b3 b4 b5 b6:Bool,(if(if(if(if(if(!b1)=true then true else !b2)=true then true else !b3)=true then true else b4)=true then true else b5)=true then true else !b6)= !(b1&&(b2&&(b3&&(!b4&&(!b5&&b6))))):=by decide
theorem WT:∀ b1 b2 b3 b4 b5:Bool,(if(if(if(if(!b1)=true then true else !b2)=true then true else !b3)=true then true else b4)=true then true else b5)= !(b1&&(b2&&(b3&&(!b4&& !b5)))):=by decide
theorem wC:∀ b1 b2 b3 b4:Bool,(if(if b1=true then true else b2)=true then true else if b3=true then !b4 else false)=(b1||(b2||(b3&& !b4))):=by decide
def mq(l:List Int):List (Value×D):=l.map fun a=>(.int .i64 a,B true)
theorem JQ(a:Int):∀ l:List Int,(eu (.int .i64 a) (mq l)).map (·.2)=if(l.any (·==a))=true then some (B true) else none
 |[]=>rfl
 |b::l=>by
  have ih:=JQ a l;unfold mq at ih ⊢;simp only[List.map_cons,eu,su,pN,List.any_cons,beq_self_eq_true,Bool.true_and] at ih ⊢;by_cases h:b=a
  .subst h;simp
  .have hb:(b==a)=false:=by simpa using h
   simp only[hb,Bool.false_eq_true,if_false,Option.map_map,Bool.false_or];exact ih
theorem adQ{P:Program}{t:TypeId}(hz:lO P (qE P t)=B false)(a:Int)(l:List Int):fV P t false (eu (.int .i64 a) (mq l))=B (l.any (·==a)):=by
 have h:=JQ a l;cases h1:eu (.int .i64 a) (mq l) with
 |none=>
  rw[h1] at h;cases h2:l.any (·==a) with
  |true=>rw[h2] at h;simp at h
  |false=>simp[fV,hz]
 |some x=>
  rw[h1] at h;cases h2:l.any (·==a) with
  |false=>rw[h2] at h;simp at h
  |true=>rw[h2] at h;simp at h;simp[fV,h]
theorem adR{a:Int}{l:List Int}(h:l.any (·==a)=false):lz (.int .i64 a) (B true) (mq l)=mq (l++[a]):=by
 have h1:=JQ a l;rw[h] at h1;unfold lz;cases h2:eu (.int .i64 a) (mq l) with
 |none=>simp[mq]
 |some x=>rw[h2] at h1;simp at h1
theorem RA{P:Program}{kt:TypeId}(hk:P.underlying kt=some (.int .i64))(l:List Int):(mq l).all (fun e=>df P kt e.1)=true:=by
 refine cv.2 fun x hx=>?_;obtain⟨y,_,rfl⟩:=List.mem_map.1 hx;simp[df,hk]
theorem SD{P:Program}{kt:TypeId}(hk:P.underlying kt=some (.int .i64))(a:Int):df P kt (.int .i64 a)=true:=by simp[df,hk]
theorem acV{i sz:Nat}{C:List D}(l:List Int):Row.sub (c7 i C sz) (.map (mq l))=.map (mq l):=by
 show Row.map ((mq l).map _)=_;unfold mq;rw[List.map_map];rfl
theorem Xz{bs:List bp}{k:Nat}{x:bp}(hx:bs[k]? =some x):u6 bs (k+1)=if(x.fin.kind==7)=true then u6 bs k++[x.fin.a] else u6 bs k:=by
 unfold u6;rw[List.take_add_one,hx];by_cases h:(x.fin.kind==7)=true
 .simp[h]
 .simp[h]
abbrev jK:List D:=[U8 0,I 0,I 0,I 0,I 0,.z]
def bO(to:List Int)(r:Int):Int:=to.getD r.toNat 0
def kL(x:bn):Shape:=
 let s:=(cH dC x.op).getD ((cH ek x.op).getD jh)
 if x.op=16\/x.op=18 then { s with a:=3 } else if x.op=17 then { s with to:=3 } else if x.op=19 then { s with to:=3,args:=5 } else s
def bZ(to:List Int)(x:bn):bn:={ x with to:=if(kL x).to≠0 then bO to x.to else x.to,a:=if(kL x).a≠0 then bO to x.a else x.a,b:=if(kL x).b≠0 then bO to x.b else x.b,args:=x.args.map (bO to) }
structure tC(n:Nat)(x:bn):Prop where
 to:(kL x).to≠0->0<=x.to/\x.to<n
 a:(kL x).a≠0->0<=x.a/\x.a<n
 b:(kL x).b≠0->0<=x.b/\x.b<n
 args:∀ r∈x.args,0<=r/\r<n
 len:x.args.length<=100000
theorem Rr{P:Program}{t:TypeId}{C:D}(hz:lO P (qE P t)=C)(op:Int)(l:List (Int×Shape))(J:C=.agg (dA jh)):fV P t false (eu (.int .u8 op) (kM l))=.agg (dA ((cH l op).getD jh)):=by
 have h:=JH op l;cases h1:eu (.int .u8 op) (kM l) with
 |none=>
  rw[h1] at h;have:cH l op=none:=by simpa using h.symm
  simp[fV,this,hz,J]
 |some x=>
  rw[h1] at h;cases h2:cH l op with
  |none=>rw[h2] at h;simp at h
  |some s=>
   rw[h2] at h;obtain⟨i,d⟩:=x;simp only[Option.map_some,aH] at h;subst h;simp[fV]
theorem tD{l:List Int}{i:Nat}{x:Int}(h:l[i]? =some x):l.getD i 0=x:=by simp[h]
theorem Sp{n i:Nat}{p:Nat->Bool}(hi:i<n)(h:p i=false):(range n).all p=false:=by
 rw[List.all_eq_false];exact⟨i,by simpa using hi,by simp[h]⟩
theorem acE{i:Nat}{p:Nat->Bool}(h:(range i).all p=true)(hp:p i=true):(range (i+1)).all p=true:=by
 rw[List.range_succ,List.all_append,h];simp[hp]
def rQ(to:List Int)(n fixed:Int)(i:Nat):Bool:=gz (to.getD i 0) 0 (n - 1)&&(!aR (to.take i) (to.getD i 0)&& !(decide ((i:Int)<fixed)&&to.getD i 0 !=i))
def nJ(to:List Int)(n fixed:Int):Bool:=(range to.length).all (rQ to n fixed)&&(to.length:Int)==n
def nQ(to:List Int)(k N:Nat):List Bool:=(range N).map fun(v:Nat)=>aR (to.take k) (v:Int)
theorem adA(to:List Int)(N:Nat):(nQ to 0 N).map B=dq N [B false]:=by
 rw[Rt];congr 1;refine List.ext_getElem (by simp[nQ]) fun i h1 h2=>?_;simp[nQ,aR]
theorem aa8(to:List Int)(k N:Nat):(nQ to k N).length=N:=by simp[nQ]
theorem aa9{to:List Int}{k N v:Nat}(h:v<N):(nQ to k N)[v]? =some (aR (to.take k) v):=by simp[nQ,h]
theorem aa'{to:List Int}{k N v:Nat}(hx:to[k]? =some (v:Int))(hv:v<N):(nQ to k N).set v true=nQ to (k+1) N:=by
 refine List.ext_getElem (by simp[nQ]) fun i h1 h2=>?_;have hi:i<N:=by simpa[nQ] using h2
 rw[List.getElem_set];simp only[nQ,List.getElem_map,List.getElem_range,List.take_add_one,hx,Option.toList_some];by_cases e:v=i
 .subst e;simp[aR]
 .rw[if_neg e];have:((i:Int)==(v:Int))=false:=by simp;omega
  simp[aR,this]
def ln:List D:=[S ⟨#[]⟩,B false,I 0,U8 0,.z,.z,.z,.z]
structure vQ(b:bp):Prop where
 ins:b.ins.length<=100000
 args:∀ x∈b.ins,x.args.length<=100000
 ea:b.fin.args.length<=100000
 ew:b.fin.aD.length<=100000
 ei:b.fin.ins.args.length<=100000
def headD(f:aU)(x r:D):List D:=[S f.name,B f.iter,I f.args,U8 f.result,r,ej f.bz,iz f.signals,x]
def oJ(f:aU)(i j:Nat):List D:=[S f.name,B f.iter,I f.args,U8 f.result,.rs i 0 f.al.length,ej f.bz,iz f.signals,.rs j 0 f.blocks.length]
theorem Dx:∀ a b c d e:Bool,(if(if(if(if a=true then true else b)=true then true else c)=true then true else d)=true then true else e)=(a||(b||(c||(d||e)))):=by decide
theorem hs7:∀ a b c d e f g:Bool,(if(if(if(if(if(if a=true then b else false)=true then true else c)=true then true else d)=true then true else e)=true then true else f)=true then true else g)=((a&&b)||(c||(d||(e||(f||g))))):=by decide
def yr(f:aU):Bool:=decide (40<(f.al.length:Int))||(decide (10<(f.bz.length:Int))||(decide (10<(f.signals.length:Int))||(decide (200<(f.name.size:Int))||decide (30<(f.blocks.length:Int)))))
def pD(b:bp):Bool:=(decide (12<(b.ins.length:Int))&&decide ((b.ins.length:Int)<=200))||(decide (210<(b.ins.length:Int))||(decide (10<(b.fin.args.length:Int))||(decide (10<(b.fin.aD.length:Int))||(decide (200<(b.fin.name.size:Int))||decide (10<(b.fin.ins.args.length:Int))))))
def ow(y:bn):Bool:=decide (40<(y.args.length:Int))
def jV(f:aU):Bool:= !(yr f)&&f.blocks.all (fun b=> !(pD b)&&b.ins.all fun y=> !(ow y))
theorem aba{f:aU}(h:jV f=true):∀ b∈f.blocks,b.fin.aD.length<=10:=fun b hb=>by
 unfold jV at h;rw[aw] at h;have:=cv.1 h.2 b hb;unfold pD at this;simp only[aw,Bool.not_eq_true',Bool.or_eq_false_iff,decide_eq_false_iff_not] at this;omega
def putAt(to l C:List Int)(k:Nat):List Int:=(range k).foldl (fun C i=>C.set (to.getD i 0).toNat (l.getD i 0)) C
theorem It(to l C:List Int)(k:Nat):putAt to l C (k+1)=(putAt to l C k).set (to.getD k 0).toNat (l.getD k 0):=by
 unfold putAt;rw[List.range_succ,List.foldl_append];rfl
theorem sQ(to l C:List Int):∀ k,(putAt to l C k).length=C.length
 |0=>rfl
 |k+1=>by rw[It,List.length_set,sQ to l C k]
def Kq(to:List Int)(x:End):End:={ x with a:=if aR [2,8,9,7] x.kind then bO to x.a else if aR [3,6] x.kind&&decide (0<=x.a) then bO to x.a else x.a,ins:=if x.kind=5 then bZ to x.ins else x.ins,b:=if x.kind=8 then bO to x.b else x.b,args:=x.args.map (bO to) }
def iq(to:List Int)(x:End):End:={ x with a:=if aR [2,8,9,7] x.kind then bO to x.a else if aR [3,6] x.kind&&decide (0<=x.a) then bO to x.a else x.a,ins:=if x.kind=5 then bZ to x.ins else x.ins }
theorem Sr{to:List Int}{x:End}(h:aR [2,8,9,7] x.kind=true):iq to x={ x with a:=bO to x.a }:=by
 have:¬ x.kind=5:=fun e=>by rw[e] at h;simp[aR] at h
 unfold iq;rw[if_pos h,if_neg this]
theorem Ss{to:List Int}{x:End}(h:aR [2,8,9,7] x.kind=false)(h2:aR [3,6] x.kind=true):iq to x={ x with a:=if 0<=x.a then bO to x.a else x.a }:=by
 have:¬ x.kind=5:=fun e=>by rw[e] at h2;simp[aR] at h2
 unfold iq;rw[h,h2,if_neg this];simp
theorem Su{to:List Int}{x:End}(h:aR [2,8,9,7] x.kind=false)(h2:aR [3,6] x.kind=false):iq to x={ x with ins:=if x.kind=5 then bZ to x.ins else x.ins }:=by
 unfold iq;rw[h,h2];simp
def cO(to:List Int)(b:bp):bp:=⟨b.ins.map (bZ to),Kq to b.fin⟩
def vS(f:aU)(to:List Int):aU:={ f with al:=putAt to f.al f.al f.al.length,blocks:=f.blocks.map (cO to) }
structure Sv(n:Nat)(x:End):Prop where
 a:aR [2,8,9,7] x.kind=true->0<=x.a/\x.a<n
 a2:aR [3,6] x.kind=true->0<=x.a->x.a<n
 b:x.kind=8->0<=x.b/\x.b<n
 ins:x.kind=5->tC n x.ins
 args:∀ r∈x.args,0<=r/\r<n
 len:x.args.length<=100000
structure JJ(f:aU)(n:Nat):Prop where
 l1:f.al.length<=100000
 l2:f.bz.length<=100000
 l3:f.signals.length<=100000
 l4:f.blocks.length<=100000
 l5:∀ b∈f.blocks,vQ b
 ins:∀ b∈f.blocks,∀ x∈b.ins,tC n x
 ends:∀ b∈f.blocks,Sv n b.fin
def pT(f:aU)(to:List Int):Int:=if gB f=0 then(if nJ to f.al.length f.args then 0 else 1) else gB f
structure RR(M:Mem)(i j g:Nat)(f:aU)(rs:List D)(bs:List D):Prop where
 r2:M 2=some (.cells ln 26)
 rg:M g=some (.cells (oJ f i j) 26)
 ri:M i=some (.cells rs 5)
 rj:M j=some (.cells bs 69)
theorem RR.Nv{M:Mem}{i j g:Nat}{f:aU}{rs C bs:List D}(h:RR M i j g f rs bs)(h1:2<i)(h2:i<j)(J:j<g):RR (up M i (some (.cells C 5))) i j g f C bs:=
 ⟨ah oG h.r2,ah oG h.rg,ai _ _ _,ah oG h.rj⟩
theorem RR.pw{M:Mem}{i j g:Nat}{f:aU}{rs C bs:List D}(h:RR M i j g f rs bs)(h1:2<i)(h2:i<j)(J:j<g):RR (up M j (some (.cells C 69))) i j g f rs C:=
 ⟨ah oG h.r2,ah oG h.rg,ah oG h.ri,ai _ _ _⟩
end Go.Argus
namespace Go.Proofs.Tryz.K
theorem HX:prog.underlying 3=some (.int .i64):=kr
theorem agA:lO prog (qE prog 193)=B false:=kr
theorem NN{f:aU}:aG prog 61 [.agg (aF f)] (B (pA f)):=by
 have bg:∀ a∈[D.agg (aF f)],Tr a:=.cons (.agg (nz f)) .nil;refine bK ai8 bg (.s _) ?_;rw[ai9];refine aI ?_;refine ab ?_;refine aa (ca (mv (i:=0) (l:=[(1,.pt (aF f))]) rfl eH) (aI ?_));have MA:=MA (f:=f);refine SS ?_;refine cl MA ?_;refine SS ?_;refine bD (eI (cs':=bd _ _ _) rfl rfl rfl rfl) ak (bN V.h V.h (by first|(simp;done)|exact⟨rfl,bf rfl⟩|(simp;omega)) (by rfl)) ?_;refine aa (ca (mv (i:=1) (l:=[(1,.pt (aF f)),(3,.pt (bd P0 Q0 f))]) rfl eH) (aI ?_));refine bI ?_;refine dc ?_;refine ab ?_;refine aa (ca (iP (l:=[(1,.pt (aF f)),(3,.pt (bd P0 Q0 f)),(4,B (qg f))]) ⟨rfl,rfl,congrArg B (wC (f.result==1) (f.result==2) (f.result==0) f.iter),trivial⟩) (aX (ap ?_)));have LK:pA f=(uX f&&(uY f&&(JP f&&((range f.blocks.length).all (lL f)&&(range f.blocks.length).all (uN f))))):=rfl;rw[LK];have O:uX f=(tu f.name&&(gz f.args 0 (if(f.al.length:Int)<6 then(f.al.length:Int) else 6)&&(qg f&&(!decide ((1200:Int)<f.al.length)&&(!decide ((60:Int)<f.bz.length)&&gz f.blocks.length 1 1200))))):=rfl;generalize rZ:qg f=res at O ⊢;refine ab ?_;refine cl qL ?_;refine jx ?_;refine bS rfl rfl (aeh rfl rfl) (fun hc=>⟨ak,rfl⟩) ?_;refine gc iI ?_;refine bI ?_;refine bI ?_;refine bj ?_;refine gc iI ?_;refine ab ?_;refine aa (dP rfl (fun h=>?_) fun h=>eF (aX (ap ?_)))
 .have h:=(WS _ _ _ _ _ _).symm.trans h;rw[<- O] at h;have h:uX f=false:=by simpa using h
  refine aX (ap ?_);refine SS ?_;refine aa (hZ (aN (d:=B false) rfl ?_));rw[h];rfl
 have h:=(WS _ _ _ _ _ _).symm.trans h;rw[<- O] at h;have hh:uX f=true:=by simpa using h
 rw[hh,Bool.true_and];rw[O] at hh;simp only[aw,iO,Bool.not_eq_true',decide_eq_false_iff_not] at hh;obtain⟨_,ha,hr,wy,U,dz⟩:=hh;subst hr;clear h O
 have yP:0<=f.args/\f.args<=f.al.length/\f.args<=6:=by
  split at ha<;>omega
 have hK:uY f=(s7 f.al 3&&(s7 (f.al.take f.args.toNat) 2&&(s7 f.bz 2&&(!decide ((6:Int)<f.signals.length)&& !f.signals.any fun s=> !isName s)))):=rfl;have GV:=GV (l:=f.signals) (g:=140) (fs:=[]) (cs:=[]) (p:=fun s=> !isName s) (.fn oS oS) (fun x _=>ai2);have HY:0<=f.args/\f.args<=f.al.length:=⟨yP.1,yP.2.1⟩
 refine ab ?_;refine cl My ?_;refine dV ?_;refine bS rfl rfl (abC rfl Nr c5 rfl CN HY) (fun hc=>⟨(by repeat' (first|exact trivial|exact hc|exact rfl|refine And.intro ?_ ?_)),trivial⟩) ?_;refine gc My ?_;refine bV ?_;refine gc My ?_;refine bI ?_;refine ab ?_;refine gc GV ?_;refine SS ?_;refine aa (dP rfl (fun h=>?_) fun h=>eF (aX (aI ?_)))
 .have h:=(WT _ _ _ _ _).symm.trans h;rw[<- hK] at h;have h:uY f=false:=by simpa using h
  refine aX (ap ?_);refine SS ?_;refine aa (hZ (aN (d:=B false) rfl ?_));rw[h];rfl
 have h:=(WT _ _ _ _ _).symm.trans h;rw[<- hK] at h;have hh:uY f=true:=by simpa using h
 rw[hh,Bool.true_and];rw[hK] at hh;simp only[aw,Bool.not_eq_true',decide_eq_false_iff_not] at hh;obtain⟨_,_,wq,hsg,_⟩:=hh;clear h hK GV;have hS:JP f=(range (f.signals.length - 1)).all (uZ f.signals):=rfl;rw[hS];have kN:f.signals.length<=6:=by omega
 refine SS ?_;refine aa (c6 (fun s=>aC prog s ⟨ay [(1,.pt (aF f)),(3,.pt (bd P0 Q0 f))],fun _=>none,2⟩/\(range (f.signals.length - 1)).all (uZ f.signals)=true) (rN (α:=Nat) (fun k=>⟨ay [(1,.pt (aF f)),(3,.pt (bd P0 Q0 f)),(5,I (k+1:Nat))],fun _=>none,2⟩) (fun k=>k<=f.signals.length - 1/\(range k).all (uZ f.signals)=true) (fun k=>f.signals.length - k) 0 (iP eH) ⟨Nat.zero_le _,rfl⟩ ?_) ?_)
 .rintro k ⟨hk,C⟩;refine bV ?_;refine aa ⟨_,rfl,fun h=>?_,fun h=>?_⟩
  .have ag:k+1<f.signals.length:=by have:((k+1:Nat):Int)<f.signals.length:=by simpa using h
                                    omega
   have h1:f.signals[k]? =some f.signals[k]:=bx oG;have h2:f.signals[k+1]? =some f.signals[k+1]:=bx oG;have U:uZ f.signals k=Op.bytesLess f.signals[k].toList f.signals[k+1].toList:=by rw[uZ,getD_some h1,getD_some h2]
   generalize f.signals[k]=s1 at h1 U;generalize f.signals[k+1]=s2 at h2 U;have AL:((k+1:Nat):Int) - 1=(k:Int)/\ -9223372036854775808<=(k:Int)/\(k:Int)<=9223372036854775807:=by omega
   refine gZ ZW ?_;refine bI ?_;refine ab ?_;refine au (adb rfl rfl) ak trivial ?_;refine cG cP (aE rfl (fun h=>?_) fun h=>ig ?_)
   .have hf:uZ f.signals k=false:=by rw[U];simpa using h
    refine ws ?_;refine SS ?_;refine aa (cM (fC (cw (aN (d:=B false) rfl ?_))));rw[uw oG hf];rfl
   .have ht:uZ f.signals k=true:=by rw[U];simpa using h
    refine aJ ?_;exact aa (bQ (k+1) (iP eH) ⟨oG,sM C ht⟩ oG)
  .have bC:¬ k+1<f.signals.length:=by intro hh;simp at h;omega
   have:k=f.signals.length - 1:=by omega
   subst this;exact⟨iP eH,C⟩
 rintro s ⟨hg,C⟩;rw[C,Bool.true_and];clear C hS;refine⟨_,hg,aI ?_⟩;refine ab ?_;refine aa (ca (bY (l:=[(1,.pt (aF f)),(3,.pt (bd P0 Q0 f)),(6,.mp 2)]) (ml:=[(2,.map (mq []))]) eH eH) (aX (aI ?_)));refine bj ?_;generalize hn:f.blocks.length=n at dz ⊢;refine aa (c6 (fun s=>∃ N,aC prog s ⟨ay [(1,.pt (aF f)),(3,.pt (bd P0 Q0 f))],fun _=>none,N⟩/\(range n).all (lL f)=true) (cZ (α:=Nat×Nat) (fun k=>⟨ay [(1,.pt (aF f)),(3,.pt (bd P0 Q0 f)),(6,.mp 2),(123,cF f.blocks),(124,I n),(125,I k.1)],cq [(2,.map (mq (u6 f.blocks k.1)))],k.2⟩) (fun k=>k.1<=n/\(range k.1).all (lL f)=true/\3<=k.2) (fun k=>n - k.1) (0,3) (bY eH eH) ⟨Nat.zero_le _,rfl,a6 _⟩ ?_) ?_)
 .rintro⟨k,N⟩ ⟨hk,C,hN⟩;dsimp only at hk C hN ⊢;refine SS ?_;refine aa ⟨_,rfl,fun h=>?_,fun h=>?_⟩
  .have ag:k<n:=by simpa using h
   have hx:f.blocks[k]? =some f.blocks[k]:=bx oG;generalize f.blocks[k]=x at hx;have J:lL f k=(mG f x.fin&&(!decide ((200:Int)<x.ins.length)&& !(x.fin.kind==7&&(u6 f.blocks k).any (·==x.fin.a)))):=by rw[lL,getD_some hx]
   have fL:=Xz hx;have G9:=G9 (f:=f) (x:=x.fin);generalize u6 f.blocks k=l at J fL;refine aI ?_;refine bj ?_;refine aa (ca (uC (i:=N) (l:=[(1,.pt (aF f)),(3,.pt (bd P0 Q0 f)),(6,.mp 2),(8,.pt (bi x)),(123,cF f.blocks),(124,I n),(125,I k)]) (ml:=[(2,.map (mq l))]) (ai _ _ _) ⟨rfl,rfl,rfl,pI,rfl,rfl,rfl,trivial⟩ ⟨abD oG (ah oG (ah oG rfl)) (acV l),trivial⟩) (aX (ap ?_)));generalize mG f x.fin=e at G9 J;refine aJ ?_;refine cl G9 ?_;refine jx ?_;refine aa (dP rfl (fun h=>?_) fun h=>eF (ap ?_))
   .have hf:lL f k=false:=by
     rw[J];cases e with
     |false=>rfl
     |true=>have:decide ((200:Int)<x.ins.length)=true:=by simpa using h
            rw[this];rfl
    refine aX (ap ?_);refine SS ?_;refine aa (hZ (fC (cw (aN (d:=B false) rfl ?_))));rw[uw ag hf];rfl
   have J:lL f k= !(x.fin.kind==7&&l.any (·==x.fin.a)):=by
    rw[J];cases e with
    |false=>simp at h
    |true=>have:decide ((200:Int)<x.ins.length)=false:=by simpa using h
           rw[this];rfl
   refine bj ?_;refine aa (aE rfl (fun h7=>?_) fun h7=>ig ?_)
   .rw[h7] at J fL;refine aX (ap ?_);refine bj ?_;refine au (aao rfl rfl rfl Lf (adQ agA _ _)) aO ⟨Lg,SD HX _,RA HX _⟩ ?_;refine aa (dP rfl (fun h=>?_) fun h=>eF (fv ?_))
    .have hf:lL f k=false:=by rw[J,h];rfl
     refine aX (ap ?_);refine SS ?_;refine aa (hZ (fC (cw (aN (d:=B false) rfl ?_))));rw[uw ag hf];rfl
    .have ht:lL f k=true:=by rw[J,h];rfl
     refine bj ?_;refine bD (adi rfl rfl rfl rfl Lf) aO ⟨Lg,SD HX _,RA HX _⟩ ?_;refine aa ?_;refine ab ?_;refine aa (bQ (k+1,_) (bY eH ⟨?_,trivial⟩) ⟨oM,sM C ht,oM⟩ oM);dsimp only;rw[fL,if_pos rfl, <- adR h];exact ai _ _ _
   .rw[h7] at J fL;refine ab ?_;refine aa (bQ (k+1,_) (bY eH ⟨?_,trivial⟩) ⟨oM,sM C J,oM⟩ oM);dsimp only;rw[fL,if_neg oS];rfl
  .have bC:¬ k<n:=by simpa using h
   have:k=n:=by omega
   subst this;exact⟨N,iP eH,C⟩
 rintro s ⟨N,hg,C⟩;rw[C,Bool.true_and]
 have hE:∀ x∈f.blocks,GA f x.fin:=fun x hx=>by
  obtain⟨k,hk⟩:=fI hx;have ag:k<n:=by rw[<- hn];exact(bU.1 hk).1
  have:=cv.1 C k (by simpa using ag);rw[lL,getD_some hk] at this;simp only[aw] at this;exact Qv oG rZ this.1
 have Bp:=Bp (f:=f) lv lx rfl rfl hn oG (fun b h=>by have:=(hE b h).wh;omega) (fun b h t ht=>hn▸(hE b h).to t (Ox.1 ht));refine⟨_,hg,ap ?_⟩;refine SS ?_;refine cl Bp ?_;refine SS ?_;refine aa (aX (aI ?_));refine bj ?_;refine aa (c6 (fun s=>(range n).all (uN f)=true) (cZ (α:=Nat×Nat) (fun k=>⟨ay [(1,.pt (aF f)),(3,.pt (bd P0 Q0 f)),(9,kx (kC f.blocks)),(157,cF f.blocks),(158,I n),(159,I k.1)],fun _=>none,k.2⟩) (fun k=>k.1<=n/\(range k.1).all (uN f)=true) (fun k=>n - k.1) (0,N) (iP ⟨rfl,rfl,rfl,rfl,congrArg (fun k:Nat=>I k) hn,rfl,trivial⟩) ⟨Nat.zero_le _,rfl⟩ ?_) ?_)
 .rintro⟨k,N⟩ ⟨hk,C⟩;dsimp only at hk C ⊢;refine SS ?_;refine aa ⟨_,rfl,fun h=>?_,fun h=>?_⟩
  .have ag:k<n:=by simpa using h
   have hx:f.blocks[k]? =some f.blocks[k]:=bx oG;have np:f.blocks[k]∈f.blocks:=eE _;generalize f.blocks[k]=x at hx np;have hA:=OV hn ag;have oa:uN f k=(range x.ins.length).all (uM f k x.ins):=by rw[uN,getD_some hx]
   have X:∀ j,uM f k x.ins j=jD f k (x.ins.getD j rL) ((x.ins.take (j+1)).all jn) (dd f.blocks n k).length:=fun j=>by rw[uM,hn]
   generalize dd f.blocks n k=A at hA X;refine aI ?_;refine dV ?_;refine aa (ca (mv (i:=N) (l:=[(1,.pt (aF f)),(3,.pt (bd P0 Q0 f)),(9,kx (kC f.blocks)),(10,I k),(11,.pt (bi x)),(157,cF f.blocks),(158,I n),(159,I k)]) (ai _ _ _) ⟨rfl,rfl,rfl,rfl,pI,rfl,rfl,rfl,trivial⟩) (ap ?_));refine SS ?_;refine aa (aI ?_);refine bj ?_
   have gH:x.ins.length<=200:=by
    have:=cv.1 ‹(range n).all (lL f)=true› k (by simpa using ag);rw[lL,getD_some hx] at this;simp only[aw,Bool.not_eq_true',decide_eq_false_iff_not] at this;omega
   refine aa (cZ (α:=Nat×Nat) (fun j=>⟨ay [(1,.pt (aF f)),(3,.pt (bd P0 Q0 f)),(9,kx (kC f.blocks)),(10,I k),(12,B ((x.ins.take j.1).all jn)),(157,cF f.blocks),(158,I n),(159,I k),(165,fg x.ins),(166,I x.ins.length),(167,I j.1)],fun _=>none,j.2⟩) (fun j=>j.1<=x.ins.length/\(range j.1).all (uM f k x.ins)=true) (fun j=>x.ins.length - j.1) (0,N+1) (iP eH) ⟨Nat.zero_le _,rfl⟩ ?_);rintro⟨j,N⟩ ⟨hj,Lh⟩;dsimp only at hj Lh ⊢;refine SS ?_;refine aa ⟨_,rfl,fun h=>?_,fun h=>?_⟩
   .have c8:j<x.ins.length:=by simpa using h
    have hy:x.ins[j]? =some x.ins[j]:=bx c8;generalize x.ins[j]=y at hy;have dO:(x.ins.take (j+1)).all jn=((x.ins.take j).all jn&&jn y):=by rw[List.take_add_one,hy,List.all_append];simp
    have X:=X j;rw[getD_some hy] at X;generalize (x.ins.take j).all jn=ph at dO;refine aI ?_;refine bj ?_;refine aa (ca (mv (i:=N) (l:=[(1,.pt (aF f)),(3,.pt (bd P0 Q0 f)),(9,kx (kC f.blocks)),(10,I k),(12,B ph),(14,.pt (bc y)),(157,cF f.blocks),(158,I n),(159,I k),(165,fg x.ins),(166,I x.ins.length),(167,I j)]) (ai _ _ _) ⟨rfl,rfl,rfl,rfl,rfl,pI,rfl,rfl,rfl,rfl,rfl,rfl,trivial⟩) (aI ?_));refine jx ?_;refine aa (ca (iP (l:=[(1,.pt (aF f)),(3,.pt (bd P0 Q0 f)),(9,kx (kC f.blocks)),(10,I k),(12,B ((x.ins.take (j+1)).all jn)),(14,.pt (bc y)),(157,cF f.blocks),(158,I n),(159,I k),(165,fg x.ins),(166,I x.ins.length),(167,I j)]) ⟨rfl,rfl,rfl,rfl,?_,rfl,rfl,rfl,rfl,rfl,rfl,rfl,trivial⟩) (gZ ZX ?_))
    .rw[dO];cases ph<;>rfl
    have G':=G' (f:=f) (b:=(k:Int)) (ahead:=(A.length:Int)) (x:=y) (phis:=(x.ins.take (j+1)).all jn);rw[<- X] at G';refine bI ?_;refine cl G' ?_;refine SS ?_;refine cG cP (aE rfl (fun h=>?_) fun h=>ig ?_)
    .have hf:uM f k x.ins j=false:=by simpa using h
     refine ws ?_;refine SS ?_;refine aa (cM (fC (fC (cw (aN (d:=B false) rfl ?_)))));rw[uw ag (by rw[oa];exact uw c8 hf)]
    .have ht:uM f k x.ins j=true:=by simpa using h
     refine ab ?_;exact aa (bQ (j+1,_) (iP eH) ⟨oM,sM Lh ht⟩ oM)
   .have bC:¬ j<x.ins.length:=by simpa using h
    have Di:j=x.ins.length:=by omega
    subst Di;show aj _ _ _ _ _ _ _ _ _;refine ab ?_;exact aa (bQ (k+1,_) (iP eH) ⟨oM,sM oN (oa.trans Lh)⟩ oM)
  .have bC:¬ k<n:=by simpa using h
   have:k=n:=by omega
   subst this;show(range k).all (uN f)=true
   assumption
 .rintro⟨env,m,nx⟩ C;refine⟨_,.refl _,ap ?_⟩;refine SS ?_;refine aa (aN (d:=B true) rfl ?_);rw[C]
theorem jz{f:aU}:aG prog 16 [.agg (aF f)] (I (gB f)):=by
 have O:∀ a∈[D.agg (aF f)],Tr a:=.cons (.agg (nz f)) .nil;refine bK ai' O (.s _) ?_;rw[aja];have NN:=NN (f:=f);refine aI ?_;refine ab ?_;refine aa (ca (mv (i:=0) (l:=[(1,.pt (aF f))]) rfl eH) (wW (ap ?_)));refine SS ?_;refine cl NN ?_;refine ab ?_;refine aa (aE rfl (fun h=>ap ?_) fun h=>ap ?_)
 .have hf:pA f=false:=by simpa using h
  refine SS ?_;refine aa (cM (gi (cw (aN (d:=I 80) rfl ?_))));rw[gB,if_neg (by simp[hf])]
 .have hf:pA f=true:=by simpa using h
  have C:=Kw hf;obtain⟨args,ha⟩:=gd C.args.1;have X:=C.args.2;have HW:=HW (p:=.s (.map none)) (q:=.s (.map none)) (f:=f) (.s _) (.s _) rfl rfl rfl C.pos (by have:=C.qZ;omega) ha oG (OW args) C.bA (fun b x hx y hy U=>C.Wm hx hy U);have J:gB f=if zB f.blocks args=true then 0 else 81:=by rw[gB,if_pos hf,ha,iv]
  generalize zB f.blocks args=r at HW J;refine SS ?_;refine au (I0 (cs:=bd _ _ _) V.h V.h V.h rfl rfl) ak ⟨V.h,V.h⟩ ?_;refine cl HW ?_;refine ab ?_;refine aa (aE rfl (fun h=>ap ?_) fun h=>vg (ap ?_))
  .have hr:r=false:=by simpa using h
   refine SS ?_;refine aa (cM (gi (cw (aN (d:=I 81) rfl ?_))));rw[J,hr];rfl
  .have hr:r=true:=by simpa using h
   refine SS ?_;refine aa (cM (aN (d:=I 0) rfl ?_));rw[J,hr];rfl
theorem UU{r:Int}{to:List Int}(h:0<=r/\r<to.length):aG prog 107 [I r,.pt [az to]] (I (bO to r)):=by
 obtain⟨k,rfl⟩:=gd h.1;obtain⟨v,hv⟩:∃ v,to[k]? =some v:=⟨_,bx oG⟩
 have e:bO to k=v:=by simp[bO,dN,hv]
 rw[e];refine bK ae8 (.cons (.s _) (.cons (.pt (.cons (cC _) .nil)) .nil)) (Tr.s _) ?_;rw[ae9];refine ws ?_;refine SS ?_;refine er ?_;refine bV ?_;exact aa (aN rfl rfl)
theorem UW{r:Int}{to:List Int}(h:0<=r/\r<to.length):aG prog 181 [I r,.pt [az to]] (I (bO to r)):=by
 obtain⟨k,rfl⟩:=gd h.1;obtain⟨v,hv⟩:∃ v,to[k]? =some v:=⟨_,bx oG⟩
 have e:bO to k=v:=by simp[bO,dN,hv]
 rw[e];refine bK ae' (.cons (.s _) (.cons (.pt (.cons (cC _) .nil)) .nil)) (Tr.s _) ?_;rw[afa];refine ws ?_;refine SS ?_;refine er ?_;refine bV ?_;exact aa (aN rfl rfl)
theorem tN{x:bn}{to:List Int}(hx:tC to.length x):aG prog 105 [.agg (bc x),az to] (.agg (bc (bZ to x))):=by
 have kT:∀ {r:Int},0<=r/\r<to.length->∃ k:Nat,∃ v,r=k/\to[k]? =some v/\bO to r=v:=fun {r} h=>by
  obtain⟨k,rfl⟩:=gd h.1;exact⟨k,_,rfl,bx oG,by simp[bO,dN,bx (show k<to.length by omega)]⟩
 refine bK TH (.cons (.agg (ky _)) (.cons (cC _) .nil)) (.agg (ky _)) ?_;rw[TI];refine aI ?_;refine aJ ?_;refine aa ⟨_,uC (i:=1) (cs:=[az to]) (e:=35) rfl (l:=[(2,.rp 0 0),(3,.pt [az to]),(4,.rp 2 0)]) eH (ml:=[(0,.cells (bc x) 45),(2,.cells jK 45)]) eH,ap ?_⟩;refine cl Mj ?_;refine bV ?_;refine er ?_;have kg:fV prog 91 true (eu (.int .u8 x.op) (kM dC))=.aT [.agg (dA ((cH dC x.op).getD jh)),.s (.bool (cH dC x.op).isSome)]:=FU rfl _ _ (by rw[yo];unfold lO;rw[yp,yq];rfl);have wF:=zK (P:=prog) (kt:=5) u5 dC;refine dc ?_;refine ab ?_;refine aa ?_;refine cL (fun s=>aC prog s ⟨ay [(2,.rp 0 0),(3,.pt [az to]),(4,.rp 2 0),(7,.rp 3 0)],cq [(0,.cells (bc x) 45),(2,.cells jK 45),(3,.cells (dA ((cH dC x.op).getD ((cH ek x.op).getD jh))) 235)],4⟩) ?_ ?_
 .refine ws ?_;refine ab ?_;refine aa (aE rfl (fun hp=>gq ?_) fun hp=>bJ ?_)
  .have hn:cH dC x.op=none:=by simpa using hp
   have kg:fV prog 91 false (eu (.int .u8 x.op) (kM ek))=.agg (dA ((cH ek x.op).getD jh)):=Rr rfl _ _ (by rw[yo];unfold lO;rw[yp,yq];rfl);have wF:=zK (P:=prog) (kt:=5) u5 ek;rw[hn];refine bV ?_;exact aa (bY eH eH)
  .obtain⟨s,hs⟩:∃ s,cH dC x.op=some s:=Option.isSome_iff_exists.1 (by simpa using hp);rw[hs];exact bY eH eH
 rintro s C;refine⟨_,C,?_⟩;clear C kg wF;refine cL (fun s=>aC prog s ⟨ay [(2,.rp 0 0),(3,.pt [az to]),(4,.rp 2 0),(7,.rp 3 0)],cq [(0,.cells (bc x) 45),(2,.cells jK 45),(3,.cells (dA (kL x)) 235)],4⟩) ?_ ?_
 .refine ws ?_;refine ab ?_;refine aa (ot (aX (ap ?_)));refine ab ?_;unfold kL;generalize (cH dC x.op).getD ((cH ek x.op).getD jh)=s;refine aa (dP rfl (fun U=>?_) fun U=>?_)
  .have U:x.op=16:=by simpa using U
   rw[if_pos (.inl U)];refine eF (aE rfl (fun _=>iQ ?_) fun h=>by simp[U] at h);refine ab ?_;exact aa (bY eH eH)
  have U:¬ x.op=16:=by simpa using U
  refine ws ?_;refine ab ?_;refine aa (aE rfl (fun kq=>iQ ?_) fun kq=>?_)
  .have kq:x.op=18:=by simpa using kq
   rw[if_pos (.inr kq)];refine ab ?_;exact aa (bY eH eH)
  have kq:¬ x.op=18:=by simpa using kq
  rw[if_neg oG];refine ws ?_;refine ab ?_;refine aa (aE rfl (fun O=>iQ ?_) fun O=>?_)
  .have O:x.op=17:=by simpa using O
   rw[if_pos O];refine ab ?_;exact aa (bY eH eH)
  have O:¬ x.op=17:=by simpa using O
  rw[if_neg O];refine ws ?_;refine ab ?_;refine aa (aE rfl (fun J=>iQ ?_) fun J=>sU ?_)
  .have J:x.op=19:=by simpa using J
   rw[if_pos J];refine bj ?_;exact aa (bY eH eH)
  have J:¬ x.op=19:=by simpa using J
  rw[if_neg J];exact bY eH eH
 rintro s C;refine⟨_,C,?_⟩;clear C;obtain⟨h1,h2,h3,h4,h5⟩:=hx;unfold bZ;generalize kL x=s at*
 obtain⟨op,uh,xa,xb,xn,X⟩:=x;dsimp only at h1 h2 h3 h4 h5 ⊢;refine cL (fun q=>aC prog q ⟨ay [(2,.rp 0 0),(3,.pt [az to]),(4,.rp 2 0),(7,.rp 3 0)],cq [(0,.cells (bc ⟨op,if s.to≠0 then bO to uh else uh,xa,xb,xn,X⟩) 45),(2,.cells jK 45),(3,.cells (dA s) 235)],4⟩) ?_ ?_
 .refine ws ?_;refine aJ ?_;refine aa (aE rfl (fun hp=>gq ?_) fun hp=>bJ ?_)
  .have hp:s.to≠0:=by simpa using hp
   obtain⟨k,v,rfl,hv,e⟩:=kT (h1 hp);rw[if_pos hp,e];refine jx ?_;exact aa (bY eH eH)
  .have hp:¬ s.to≠0:=by simpa using hp
   rw[if_neg hp];exact bY eH eH
 rintro q C;refine⟨_,C,?_⟩;clear C;generalize (if s.to≠0 then bO to uh else uh)=y1;refine cL (fun q=>aC prog q ⟨ay [(2,.rp 0 0),(3,.pt [az to]),(4,.rp 2 0),(7,.rp 3 0)],cq [(0,.cells (bc ⟨op,y1,if s.a≠0 then bO to xa else xa,xb,xn,X⟩) 45),(2,.cells jK 45),(3,.cells (dA s) 235)],4⟩) ?_ ?_
 .refine ws ?_;refine aJ ?_;refine aa (aE rfl (fun hp=>gq ?_) fun hp=>bJ ?_)
  .have hp:s.a≠0:=by simpa using hp
   obtain⟨k,v,rfl,hv,e⟩:=kT (h2 hp);rw[if_pos hp,e];refine jx ?_;exact aa (bY eH eH)
  .have hp:¬ s.a≠0:=by simpa using hp
   rw[if_neg hp];exact bY eH eH
 rintro q C;refine⟨_,C,?_⟩;clear C;generalize (if s.a≠0 then bO to xa else xa)=y2;refine cL (fun q=>aC prog q ⟨ay [(2,.rp 0 0),(3,.pt [az to]),(4,.rp 2 0),(7,.rp 3 0)],cq [(0,.cells (bc ⟨op,y1,y2,if s.b≠0 then bO to xb else xb,xn,X⟩) 45),(2,.cells jK 45),(3,.cells (dA s) 235)],4⟩) ?_ ?_
 .refine ws ?_;refine aJ ?_;refine aa (aE rfl (fun hp=>gq ?_) fun hp=>bJ ?_)
  .have hp:s.b≠0:=by simpa using hp
   obtain⟨k,v,rfl,hv,e⟩:=kT (h3 hp);rw[if_pos hp,e];refine jx ?_;exact aa (bY eH eH)
  .have hp:¬ s.b≠0:=by simpa using hp
   rw[if_neg hp];exact bY eH eH
 rintro q C;refine⟨_,C,?_⟩;clear C;generalize (if s.b≠0 then bO to xb else xb)=y3;have pS:=pS (l:=X) (g:=181) (fs:=[]) (cs:=[.pt [az to]]) (p:=bO to) oG (.fn oS (.cons (.pt (.cons (cC _) .nil)) .nil)) (fun r hr=>UW (h4 r hr));refine ws ?_;refine aJ ?_;refine cl pS ?_;refine ab ?_;refine er ?_;refine J74 ?_;refine SS ?_;exact aa (lh (iM (cs:=bc ⟨op,y1,y2,y3,xn,X.map (bO to)⟩) (vs:=bc ⟨op,y1,y2,y3,xn,X.map (bO to)⟩) rfl rfl ui jS rfl t45 (bf rfl)) rfl)
theorem aii{x:bn}{to:List Int}(hx:tC to.length x):aG prog 104 [.agg (bc x),.pt [az to]] (.agg (bc (bZ to x))):=by
 have tN:=tN hx;refine bK TJ (.cons (.agg (ky _)) (.cons (.pt (.cons (cC _) .nil)) .nil)) (.agg (ky _)) ?_;rw[TK];refine ws ?_;refine ab ?_;refine er ?_;refine ab ?_;refine cl tN ?_;refine UX ?_;exact aa (lh (iM (cs:=bc (bZ to x)) (vs:=bc (bZ to x)) rfl rfl ui jS rfl t45 (bf rfl)) rfl)
theorem vP{to:List Int}{N:Nat}{fixed:Int}(hN:N<=100000)(hl:to.length<=100000):aG prog 101 [az to,I N,I fixed] (B (nJ to N fixed)):=by
 refine bK afb (.cons (cC to) (.cons (.s _) (.cons (.s _) .nil))) (Tr.s _) ?_;rw[afc];refine ws ?_;refine SS ?_;refine er ?_;refine SS ?_;refine Wd ?_;refine SS ?_;refine aa (aX (aI ?_));refine aJ ?_;unfold nJ
 refine aa (c6 (fun s=>∃ m nx,aC prog s ⟨ay [(0,az to),(1,I N)],m,nx⟩/\(range to.length).all (rQ to N fixed)=true) (cZ (α:=Nat)
  (fun k=>⟨ay [(1,I N),(0,az to),(2,I fixed),(7,.rs 0 0 N),(12,az to),(13,I to.length),(14,I k)],cq [(0,.cells ((nQ to k N).map B) 4)],1⟩)
  (fun k=>k<=to.length/\(range k).all (rQ to N fixed)=true) (fun k=>to.length - k) 0
  (bY eH ⟨by rw[adA];rfl,trivial⟩) ⟨Nat.zero_le _,rfl⟩ ?_) ?_)
 .rintro k ⟨hk,O⟩;refine SS ?_;refine aa ⟨_,rfl,fun h=>?_,fun h=>?_⟩
  .have ag:k<to.length:=by simpa using h
   clear h;obtain⟨x,hx⟩:∃ x,to[k]? =some x:=⟨_,bx ag⟩
   have J:rQ to N fixed k=(gz x 0 (N - 1)&&(!aR (to.take k) x&& !(decide ((k:Int)<fixed)&&x !=k))):=by rw[rQ,tD hx]
   have iI:=iI (n:=x) (a:=0) (b:=N - 1);refine ws ?_;refine bV ?_;refine aa (aX (ap ?_));cases C:gz x 0 (N - 1) with
   |false=>
    rw[C] at iI;refine aJ ?_;refine cl iI ?_;refine ab ?_;(iterate 4 refine z fun _ _=>?_);refine dV ?_;(iterate 4 refine z fun _ _=>?_);refine SS ?_;refine aa (dP rfl (fun _=>?_) fun h=>by simp at h);rw[Sp ag (J.trans (by rw[C];rfl))];refine aX (ap ?_);refine SS ?_;exact aa (hZ (fC (cw (aN rfl rfl))))
   |true=>
    rw[C] at iI J;obtain⟨v,rfl⟩:=gd (iO.1 C).1;have hv:v<N:=by have:=(iO.1 C).2;omega
    have hg:=aa9 (to:=to) (k:=k) hv;have hlen:=aa8 to k N;have U:=aa' hx hv;generalize aR (to.take k) v=c at hg J;generalize nQ to k N=q at*
    have kd:=lI (f:=B) hg;refine aJ ?_;refine cl iI ?_;refine bj ?_;refine bS rfl rfl (nB rfl rfl rfl V.h V.h) (fun hc=>⟨ak,⟨V.h,oG⟩⟩) ?_;refine bS rfl rfl (fQ rfl rfl kd V.h) (fun hc=>⟨ak,(fR V.h V.h kd)⟩) ?_;refine bI ?_;refine ab ?_;refine aa (dP rfl (fun h=>?_) fun h=>eF ?_)
    .have h:(range to.length).all (rQ to N fixed)=false:=Sp ag (J.trans (by revert h;cases c<;>cases decide ((k:Int)<fixed)<;>simp));rw[h];refine aX (ap ?_);refine SS ?_;exact aa (hZ (fC (cw (aN rfl rfl))))
    .have h:rQ to N fixed k=true:=J.trans (by revert h;cases c<;>cases decide ((k:Int)<fixed)<;>simp);refine fv ?_;refine ab ?_;refine We ?_;refine Wf ?_;refine aa ?_;refine ab ?_;exact aa (bQ (k+1) (bY eH ⟨by rw[<- U,List.map_set];rfl,trivial⟩) ⟨oG,acE O h⟩ oG)
  .have bC:¬ k<to.length:=by simpa using h
   have:k=to.length:=by omega
   subst this;exact⟨_,_,ao eH,O⟩
 .rintro s ⟨m,nx,X,O⟩;rw[O];refine⟨_,X,ap ?_⟩;refine bV ?_;exact aa (aN rfl rfl)
theorem La{l:List Int}(hl:l.length<=100000):gC prog 174 [ej l] (l.map U8) l.length 5:=by
 have C:(l.map U8).length=l.length*1:=by simp
 refine sF afd (.cons (nv l) .nil) (.map fun _=>.s _) ?_;rw[afe];refine ws ?_;refine SS ?_;have J:(l.map U8).take (l.length*1)=l.map U8:=dR (Nat.le_of_eq C)
 have last:AW prog iu true (.seq (.region 3 (Z xg 3) false) .ret) (jH prog [.tmp 2] fun d st=>∃ i,d=.rs i 0 l.length/\st.mem i=some (.cells (l.map U8) 5)) ⟨ay [(0,ej l)],fun _=>none,0⟩:=by
  refine ws ?_;refine ab ?_;refine lZ (lN rfl rfl rfl Nr c5 (uF J) rfl) aO ⟨CN,rfl,Nat.le_of_eq C.symm,oC,rfl,by unfold maxLen;omega,by rw[b5];omega,oS⟩ ?_;refine SS ?_;exact aa (aN (d:=.rs 1 0 (0+l.length)) rfl ⟨1,by rw[Nat.zero_add],rfl⟩)
 refine aa ?_;refine cL (fun s=>aC prog s ⟨ay [(0,ej l)],fun _=>none,0⟩) (ap ?_) fun s hg=>⟨_,hg,last⟩
 cases l with
 |nil=>
  refine au (ie (v:=.sl [] 0) rfl) aO trivial ?_;refine au (FV rfl) aO CN ?_;refine aa (EO rfl (aI ?_) (bJ (ao eH)));refine SS ?_;exact aa ⟨_,.mE _ _ _ 2 5 rfl,cM (cw (aN rfl ⟨_,rfl,rfl⟩))⟩
 |cons a l=>
  have O:(a::l).length≠0:=by simp
  refine au (ie (v:=.sl _ _) rfl) aO trivial ?_;refine au (FW rfl O) aO CN ?_;exact aa (aE rfl (fun h=>oH) fun h=>bJ (ao eH))
theorem UY{l:List Int}(hl:l.length<=100000):aG prog 174 [ej l] (ej l):=by
 have e:(l.map U8).take (l.length*prog.cellsOf 5)=l.map U8:=by
  rw[c5];exact dR (Nat.le_of_eq oS)
 have h:=(La hl).FF (by rw[e];exact nv l)
 rwa[e] at h
theorem TL{l:List ByteArray}(hl:l.length<=100000):gC prog 175 [iz l] (l.map S) l.length 9:=by
 have C:(l.map S).length=l.length*1:=by simp
 refine sF aff (.cons (uU l) .nil) (.map fun _=>.s _) ?_;rw[afg];refine ws ?_;refine SS ?_;have J:(l.map S).take (l.length*1)=l.map S:=dR (Nat.le_of_eq C)
 have last:AW prog iu true (.seq (.region 3 (Z xh 3) false) .ret) (jH prog [.tmp 2] fun d st=>∃ i,d=.rs i 0 l.length/\st.mem i=some (.cells (l.map S) 9)) ⟨ay [(0,iz l)],fun _=>none,0⟩:=by
  refine ws ?_;refine ab ?_;refine lZ (lN rfl rfl rfl y4 c9 (uF J) rfl) aO ⟨CO,rfl,Nat.le_of_eq C.symm,oC,rfl,by unfold maxLen;omega,by rw[b9];omega,oS⟩ ?_;refine SS ?_;exact aa (aN (d:=.rs 1 0 (0+l.length)) rfl ⟨1,by rw[Nat.zero_add],rfl⟩)
 refine aa ?_;refine cL (fun s=>aC prog s ⟨ay [(0,iz l)],fun _=>none,0⟩) (ap ?_) fun s hg=>⟨_,hg,last⟩
 cases l with
 |nil=>
  refine au (ie (v:=.sl [] 0) rfl) aO trivial ?_;refine au (FV rfl) aO CO ?_;refine aa (EO rfl (aI ?_) (bJ (ao eH)));refine SS ?_;exact aa ⟨_,.mE _ _ _ 2 9 rfl,cM (cw (aN rfl ⟨_,rfl,rfl⟩))⟩
 |cons a l=>
  have O:(a::l).length≠0:=by simp
  refine au (ie (v:=.sl _ _) rfl) aO trivial ?_;refine au (FW rfl O) aO CO ?_;exact aa (aE rfl (fun h=>oH) fun h=>bJ (ao eH))
theorem Mk{l:List ByteArray}(hl:l.length<=100000):aG prog 175 [iz l] (iz l):=by
 have e:(l.map S).take (l.length*prog.cellsOf 9)=l.map S:=by
  rw[c9];exact dR (Nat.le_of_eq oS)
 have h:=(TL hl).FF (by rw[e];exact uU l)
 rwa[e] at h
theorem TM{l:List gr}(hl:l.length<=100000):gC prog 179 [jB l] (l.flatMap dQ) l.length 82:=by
 have C:(l.flatMap dQ).length=l.length*2:=ux (sz:=2) (fun _=>rfl) l;refine sF afh (.cons (iN l) .nil) (.flat BO) ?_;rw[afi];refine ws ?_;refine SS ?_;have J:(l.flatMap dQ).take (l.length*2)=l.flatMap dQ:=dR (Nat.le_of_eq C)
 have last:AW prog iu true (.seq (.region 3 (Z xj 3) false) .ret) (jH prog [.tmp 2] fun d st=>∃ i,d=.rs i 0 l.length/\st.mem i=some (.cells (l.flatMap dQ) 82)) ⟨ay [(0,jB l)],fun _=>none,0⟩:=by
  refine ws ?_;refine ab ?_;refine lZ (lN rfl rfl rfl Wg HH (uF J) rfl) aO ⟨GX,rfl,Nat.le_of_eq C.symm,oC,rfl,by unfold maxLen;omega,by rw[Wh];omega,oS⟩ ?_;refine SS ?_;exact aa (aN (d:=.rs 1 0 (0+l.length)) rfl ⟨1,by rw[Nat.zero_add],rfl⟩)
 refine aa ?_;refine cL (fun s=>aC prog s ⟨ay [(0,jB l)],fun _=>none,0⟩) (ap ?_) fun s hg=>⟨_,hg,last⟩
 cases l with
 |nil=>
  refine au (ie (v:=.sl [] 0) rfl) aO trivial ?_;refine au (FV rfl) aO GX ?_;refine aa (EO rfl (aI ?_) (bJ (ao eH)));refine SS ?_;exact aa ⟨_,.mE _ _ _ 2 82 rfl,cM (cw (aN rfl ⟨_,rfl,rfl⟩))⟩
 |cons a l=>
  have O:(a::l).length≠0:=by simp
  refine au (ie (v:=.sl _ _) rfl) aO trivial ?_;refine au (FW rfl O) aO GX ?_;exact aa (aE rfl (fun h=>oH) fun h=>bJ (ao eH))
theorem Ml{l:List gr}(hl:l.length<=100000):aG prog 179 [jB l] (jB l):=by
 have e:(l.flatMap dQ).take (l.length*prog.cellsOf 82)=l.flatMap dQ:=by
  rw[HH];exact dR (Nat.le_of_eq (ux (sz:=2) (fun _=>rfl) l))
 have h:=(TM hl).FF (by rw[e];exact iN l)
 rwa[e] at h
theorem UZ{x:bn}(hx:x.args.length<=100000):aG prog 178 [.agg (bc x)] (.agg (bc x)):=by
 have pv:=pv (l:=x.args) hx;refine bK afj (.cons (.agg (ky _)) .nil) (.agg (ky _)) ?_;rw[afk];refine ws ?_;refine ab ?_;refine er ?_;refine ab ?_;refine cl pv ?_;refine ab ?_;refine er ?_;refine SS ?_;refine UX ?_;exact aa (lh (iM (cs:=bc x) (vs:=bc x) rfl rfl ui jS rfl t45 (bf rfl)) rfl)
theorem aij{b:bp}(h:vQ b):aG prog 177 [.agg (bi b)] (.agg (bi b)):=by
 obtain⟨h1,h2,C,J,O⟩:=h;have oW:=oW (l:=b.ins) (g:=178) (fs:=[]) (cs:=[]) (p:=fun x=>x) oG (.fn oS oS) (fun x hx=>UZ (h2 x hx));rw[List.map_id'] at oW;have U:=pv (l:=b.fin.args) C;have X:=pv (l:=b.fin.ins.args) O;have Ml:=Ml (l:=b.fin.aD) J;refine bK TN (.cons (.agg (BF _)) .nil) (.agg (BF _)) ?_;rw[TO];refine ws ?_;refine ab ?_;refine er ?_;refine ab ?_;refine cl oW ?_;refine ab ?_;refine aa (gZ Po ?_);refine bj ?_;refine oF X rfl aO ?_;refine aJ ?_;refine oF U rfl aO ?_;refine aJ ?_;refine cl Ml ?_;refine dc ?_;refine ab ?_;refine cG cP (ap ?_);refine au (dI (vs:=bi _) rfl rfl V.h V.h rfl) ak (dJ V.h V.h (by first|(simp;done)|omega|exact bf rfl)) ?_;refine bD (eI (cs':=bi _) rfl rfl rfl rfl) ak (bN V.h V.h (by first|(simp;done)|exact⟨rfl,bf rfl⟩|(simp;omega)) (by rfl)) ?_;exact aa (lh (iM (cs:=bi b) (vs:=bi b) rfl rfl HI sG rfl t69 (bf rfl)) rfl)
theorem afl{l:List bp}{g:FuncId}{fs cs:List D}{p:bp->bp}(hl:l.length<=1000000)(ht:Tr (.fn (.func g) fs cs))(hg:∀ x∈l,aG prog g (fs++[.agg (bi x)]++cs) (.agg (bi (p x)))):gC prog 176 [cF l,.fn (.func g) fs cs] ((l.map p).flatMap bi) l.length 69:=by
 refine sF TP (.cons (IP _) (.cons ht .nil)) (.flat BF) ?_;rw[TQ];refine ws ?_;refine SS ?_;refine aa (aI ?_);refine SS ?_;refine aa ⟨_,.mE _ _ _ 5 69 rfl,aX (aI ?_)⟩;refine aJ ?_
 refine aa (c6 (fun s=>∃ r m nx,aC prog s ⟨ay [(5,.rs r 0 l.length)],m,nx⟩/\m r=some (.cells ((l.map p).flatMap bi) 69)) (cZ (α:=Nat×Nat×Mem×Nat)
  (fun s=>⟨ay [(1,.fn (.func g) fs cs),(5,.rs s.2.1 0 s.1),(8,cF l),(9,I l.length),(10,I s.1)],s.2.2.1,s.2.2.2⟩)
  (fun s=>s.1<=l.length/\s.2.1<s.2.2.2/\s.2.2.1 s.2.1=some (.cells (((l.take s.1).map p).flatMap bi) 69)) (fun s=>l.length - s.1) (0,_,_,_)
  (ao eH) ⟨Nat.zero_le _,Nat.lt_succ_self _,rfl⟩ ?_) ?_)
 .rintro⟨j,r,m,nx⟩ ⟨hj,hr,af⟩;dsimp only at hj hr af ⊢;refine SS ?_;refine aa ⟨_,rfl,fun h=>?_,fun h=>?_⟩
  .have U:j<l.length:=by simpa using h
   have hx:l[j]? =some l[j]:=by simp[U]
   have O:=hg l[j] (eE _)
   have C:((l.take (j+1)).map p).flatMap bi=((l.take j).map p).flatMap bi++bi (p l[j]):=by
    rw[List.take_add_one,hx,List.map_append,List.flatMap_append];simp
   have J:(((l.take j).map p).flatMap bi).length=j*16:=by
    rw[ux (sz:=16) (fun _=>rfl),List.length_map,List.length_take];congr 1;omega
   generalize l[j]=x at hx O C;generalize ((l.take j).map p).flatMap bi=ds at af C J;refine ws ?_;refine bj ?_;refine aa (fv ?_);refine aJ ?_;refine cl O ?_;refine SS ?_;refine lZ (lN rfl (ah oG (ah oG (ah oG af))) rfl Ns sG (sT (ai _ _ _) rfl) rfl) aO ⟨Mm,rfl,bf rfl,oC,by rw[J];omega,by unfold maxLen;omega,by rw[Nt];omega,by simp;omega⟩ ?_;refine SS ?_;refine aa ?_;refine ab ?_;refine aa (bQ (j+1,nx+1+1,_,_) (ao eH) ⟨oM,oM,?_⟩ oM);dsimp only;rw[C];exact ai _ _ _
  .have X:¬ j<l.length:=by simpa using h
   have:j=l.length:=by omega
   subst this;rw[List.take_length] at af;exact⟨r,m,nx,ao eH,af⟩
 .rintro s ⟨r,m,nx,hg,af⟩;refine⟨_,hg,ap ?_⟩;refine ab ?_;refine aa (aN rfl ⟨r,rfl,af⟩)
theorem aik{f:aU}{m:Mem}{nx:Nat}(h1:f.al.length<=100000)(h2:f.bz.length<=100000)(U:f.signals.length<=100000)(h4:f.blocks.length<=100000)(X:∀ b∈f.blocks,vQ b):
 dB prog 102 [.agg (aF f)] m nx fun r m' an=>∃ i j,nx<=i/\i<j/\j<an/\r=.agg (oJ f i j)/\m' i=some (.cells (f.al.map U8) 5)/\m' j=some (.cells (f.blocks.flatMap bi) 69)/\∀ k,k<nx->m' k=m k:=by
 have kR:=La (l:=f.al) h1;have kS:=UY (l:=f.bz) h2;have Mk:=Mk (l:=f.signals) U;have C:=afl (l:=f.blocks) (g:=177) (fs:=[]) (cs:=[]) (p:=fun x=>x) oG (.fn oS oS) (fun x hx=>aij (X x hx));rw[List.map_id'] at C;refine lF TS ?_;rw[TT];refine ws ?_;refine ab ?_;refine aa ?_;refine cL (fun s=>∃ M:Mem,M nx=some (.cells (headD f (cF f.blocks) (.rs (nx+1+1) 0 f.al.length)) 26)/\M (nx+1)=some (.cells ln 26)/\M (nx+1+1)=some (.cells (f.al.map U8) 5)/\(∀ k,k<nx->M k=m k)/\aC prog s ⟨ay [(1,.rp nx 0),(2,.rp (nx+1) 0)],M,nx+1+1+1⟩) (BV Pp ?_) ?_
 .have af:∀ {a},up (up m nx (some (.cells (aF f) 26))) (nx+1) a nx=some (.cells (aF f) 26):=ah oG (ai _ _ _);refine ab ?_;refine rP kR rfl aO ?_;have af:∀ {a b},up (up (up m nx (some (.cells (aF f) 26))) (nx+1) a) (nx+1+1) b nx=some (.cells (aF f) 26):=ah oG (ah oG (ai _ _ _));refine ab ?_;refine oF kS rfl aO ?_;refine ab ?_;refine cl Mk ?_;refine SS ?_;refine bD (di (d:=.rs _ _ _) (cs':=_) rfl rfl af rfl rfl) ak (bN V.h V.h (by first|(simp;done)|exact⟨rfl,bf rfl⟩|(simp;omega)) rfl) ?_;have af:∀ {M:Mem} {c},up M nx c nx=c:=ai _ _ _;refine SS ?_;refine bD (di (d:=.sl _ _) (cs':=_) rfl rfl af rfl rfl) ak (bN V.h V.h (by first|(simp;done)|exact⟨rfl,bf rfl⟩|(simp;omega)) rfl) ?_;refine SS ?_;refine bD (di (d:=.sl _ _) (cs':=_) rfl rfl af rfl rfl) ak (bN V.h V.h (by first|(simp;done)|exact⟨rfl,bf rfl⟩|(simp;omega)) rfl) ?_;refine cG (by simp[mF];omega) ⟨_,ai _ _ _,?_,?_,?_,ao eH⟩
  .repeat (first|exact ai _ _ _|refine ah oG ?_)
  .repeat (first|exact ai _ _ _|refine ah oG ?_)
  .intro k hk
   repeat (first|exact rfl|refine ah oG ?_)
 rintro s ⟨M,O,q2,q3,q4,J⟩;refine⟨_,J,ap ?_⟩;clear J;have af:=O;refine ab ?_;refine rP C rfl aO ?_;have af:∀ {a},up M (nx+1+1+1) a nx=_:=ah oG O;refine SS ?_;refine bD (di (d:=.rs _ _ _) (cs':=_) rfl rfl af rfl rfl) ak (bN V.h V.h (by first|(simp;done)|exact⟨rfl,bf rfl⟩|(simp;omega)) rfl) ?_;have af:∀ {M:Mem} {c},up M nx c nx=c:=ai _ _ _;have bM:∀ {a b},up (up M (nx+1+1+1) a) nx b (nx+1)=some (.cells ln 26):=ah oG (ah oG q2);refine er ?_;refine au (dI rfl af V.h V.h rfl) ak (dJ V.h V.h (by first|(simp;done)|omega|exact bf rfl)) ?_;refine bD (eI rfl rfl bM rfl) ak (bN V.h V.h (by first|(simp;done)|exact⟨rfl,bf rfl⟩|(simp;omega)) (by rfl)) ?_;refine aa (lh (iM (cs:=oJ f (nx+1+1) (nx+1+1+1)) (vs:=oJ f (nx+1+1) (nx+1+1+1)) rfl (ai _ _ _) sH jT rfl t26 (bf rfl)) ⟨nx+1+1,nx+1+1+1,oG,oG,Nat.lt_succ_self _,rfl,?_,?_,?_⟩)
 .dsimp only
  repeat (first|exact q3|refine ah oG ?_)
 .dsimp only
  repeat (first|exact ai _ _ _|refine ah oG ?_)
 .intro k hk;dsimp only
  repeat (first|exact q4 k hk|refine ah oG ?_)
theorem sJ{f:aU}:aG prog 14 [.agg (aF f)] (B (jV f)):=by
 have bg:∀ a∈[D.agg (aF f)],Tr a:=.cons (.agg (nz f)) .nil;refine bK ail bg (Tr.s _) ?_;rw[aim];refine aI ?_;refine ab ?_;refine aa (ca (dX [(0,aF f,26)] eH (l:=[(1,.pt (aF f))]) eH) (aX (aI ?_)));refine bI ?_;refine dc ?_;refine ab ?_;refine bS rfl rfl (J2 rfl) (fun hc=>⟨ak,V.h⟩) ?_;refine dc ?_;have hd:yr f=_:=(Dx (decide (40<(f.al.length:Int))) (decide (10<(f.bz.length:Int))) (decide (10<(f.signals.length:Int))) (decide (200<(f.name.size:Int))) (decide (30<(f.blocks.length:Int)))).symm;refine aa ⟨_,.refl _,dP rfl (fun h=>?_) fun h=>eF (aX (aI ?_))⟩
 .have h1:yr f=true:=hd.trans h;refine aX (ap ?_);refine SS ?_;refine aa (hZ (aN (d:=B false) rfl ?_));rw[jV,h1];rfl
 have h1:yr f=false:=hd.trans h;clear hd h
 have X:f.blocks.length<=100000:=by
  unfold yr at h1;simp only[Bool.or_eq_false_iff,decide_eq_false_iff_not] at h1;omega
 refine bj ?_
 refine aa (c6 (fun s=>(∃ nx,aC prog s ⟨ay [],fun _=>none,nx⟩)/\f.blocks.all (fun b=> !(pD b)&&b.ins.all fun y=> !(ow y))=true) (cZ (α:=Nat×Nat) (fun k=>⟨ay [(1,.pt (aF f)),(36,cF f.blocks),(37,I f.blocks.length),(38,I k.1)],fun _=>none,k.2⟩)
  (fun k=>k.1<=f.blocks.length/\(f.blocks.take k.1).all (fun b=> !(pD b)&&b.ins.all fun y=> !(ow y))=true) (fun k=>f.blocks.length - k.1) (0,1) (ao eH) ⟨Nat.zero_le _,rfl⟩ ?_) ?_)
 .rintro⟨k,nx⟩ ⟨hk,hinv⟩;dsimp only at hk hinv ⊢;refine SS ?_;refine aa ⟨_,rfl,fun h=>?_,fun h=>?_⟩
  .have ag:k<f.blocks.length:=by simpa using h
   have hx:f.blocks[k]? =some f.blocks[k]:=by simp[ag]
   have U:f.blocks[k]∈f.blocks:=eE _;generalize f.blocks[k]=x at hx U
   have C:(!(pD x)&&x.ins.all fun y=> !(ow y))=false->jV f=false:=fun hb=>by
    have:f.blocks.all (fun b=> !(pD b)&&b.ins.all fun y=> !(ow y))=false:=by
     refine Bool.eq_false_iff.2 fun ht=>?_;have:=cv.1 ht x U;rw[hb] at this;cases this
    rw[jV,this];simp
   refine aI ?_;refine bj ?_;refine aa (ca (mv (i:=nx) (l:=[(1,.pt (aF f)),(4,.pt (bi x)),(36,cF f.blocks),(37,I f.blocks.length),(38,I k)]) (ai _ _ _) ⟨rfl,pI,rfl,rfl,rfl,trivial⟩) (aX (ap ?_)));refine bI ?_;refine bI ?_;refine bI ?_;refine jx ?_;refine bS rfl rfl (J2 rfl) (fun hc=>⟨ak,V.h⟩) ?_;refine dc ?_;refine ab ?_;have hd:pD x=_:=(hs7 (decide (12<(x.ins.length:Int))) (decide ((x.ins.length:Int)<=200)) (decide (210<(x.ins.length:Int))) (decide (10<(x.fin.args.length:Int))) (decide (10<(x.fin.aD.length:Int))) (decide (200<(x.fin.name.size:Int))) (decide (10<(x.fin.ins.args.length:Int)))).symm;refine aa (dP rfl (fun h=>?_) fun h=>eF (aI ?_))
   .have hb:pD x=true:=hd.trans h;refine aX (ap ?_);refine SS ?_;refine aa (hZ (fC (cw (aN (d:=B false) rfl ?_))));rw[C (by rw[hb];rfl)]
   .have hb:pD x=false:=hd.trans h;clear hd h
    have jN:x.ins.length<=100000:=by
     unfold pD at hb;simp only[Bool.or_eq_false_iff,Bool.and_eq_false_iff,decide_eq_false_iff_not] at hb;omega
    refine bj ?_
    refine aa (cZ (α:=Nat×Nat) (fun j=>⟨ay [(1,.pt (aF f)),(36,cF f.blocks),(37,I f.blocks.length),(38,I k),(88,fg x.ins),(89,I x.ins.length),(90,I j.1)],fun _=>none,j.2⟩)
     (fun j=>j.1<=x.ins.length/\(x.ins.take j.1).all (fun y=> !(ow y))=true) (fun j=>x.ins.length - j.1) (0,nx+1) (ao eH) ⟨Nat.zero_le _,rfl⟩ ?_)
    rintro⟨j,ny⟩ ⟨hj,J⟩;dsimp only at hj J ⊢;refine SS ?_;refine aa ⟨_,rfl,fun h=>?_,fun h=>?_⟩
    .have c8:j<x.ins.length:=by simpa using h
     have hy:x.ins[j]? =some x.ins[j]:=by simp[c8]
     have O:x.ins[j]∈x.ins:=eE _;generalize x.ins[j]=y at hy O;refine aI ?_;refine bj ?_;refine aa (ca (mv (i:=ny) (l:=[(1,.pt (aF f)),(6,.pt (bc y)),(36,cF f.blocks),(37,I f.blocks.length),(38,I k),(88,fg x.ins),(89,I x.ins.length),(90,I j)]) (ai _ _ _) ⟨rfl,pI,rfl,rfl,rfl,rfl,rfl,rfl,trivial⟩) (ap ?_));refine bj ?_;refine aa (aE rfl (fun hp=>?_) fun hp=>?_)
     .have hp:ow y=true:=hp;refine ws ?_;refine SS ?_;refine aa (cM (fC (fC (cw (aN (d:=B false) rfl ?_)))));rw[C]
      have:x.ins.all (fun y=> !(ow y))=false:=by
       refine Bool.eq_false_iff.2 fun ht=>?_;have:=cv.1 ht y O;rw[hp] at this;cases this
      rw[this];simp
     .have hp:ow y=false:=hp;refine ig ?_;refine ab ?_;refine aa (bQ (j+1,ny+1) (ao eH) ⟨oM,?_⟩ oM);dsimp only;rw[List.take_add_one,hy,List.all_append,J];show(true&&(!(ow y)&&true))=true;rw[hp];rfl
    .have bC:¬ j<x.ins.length:=by simpa using h
     rw[dR oG] at J;show aj _ _ _ _ _ _ _ _ _;refine ab ?_;refine aa (bQ (k+1,ny) (ao eH) ⟨oM,?_⟩ oM);dsimp only;rw[List.take_add_one,hx,List.all_append,hinv];show(true&&((!(pD x)&&x.ins.all fun y=> !(ow y))&&true))=true;rw[hb,J];rfl
  .have bC:¬ k<f.blocks.length:=by simpa using h
   rw[dR oG] at hinv;exact⟨⟨nx,ao trivial⟩,hinv⟩
 rintro s ⟨⟨nx,hg⟩,ct⟩;refine⟨_,hg,ap ?_⟩;refine SS ?_;refine aa (aN (d:=B true) rfl ?_);rw[jV,h1,ct];rfl
theorem y6{f:aU}{to:List Int}(gW:to.length<=100000)(hf:gB f=0->JJ f f.al.length)(Bb:f.al.length<=100000\/gB f≠0):aG prog 50 [.agg (aF f),az to] (.aT [.agg (if pT f to=0 then aF (vS f to) else ln),I (pT f to)]):=by
 have jz:=jz (f:=f)
 have bg:∀ a∈(if pT f to=0 then aF (vS f to) else ln),Tr a:=by
  split
  .exact nz _
  .exact .cons (.s _) (.cons (.s _) (.cons (.s _) (.cons (.s _) (.cons .z (.cons .z (.cons .z (.cons .z .nil)))))))
 refine bK U1 (.cons (.agg (nz _)) (.cons (cC _) .nil)) (.aT (.cons (.agg bg) (.cons (.s _) .nil))) ?_;clear bg;rw[U2];refine aI ?_;refine bj ?_;refine aa ⟨_,(uC (i:=0) (cs:=aF f) (e:=26) rfl (l:=[(2,.pt (aF f)),(3,.rp 1 0),(4,.rp 2 0),(5,I 0)]) eH (ml:=[(1,.cells [az to] 35),(2,.cells ln 26)]) eH).trans (uC (i:=1) (cs:=[az to]) (e:=35) rfl (l:=[(2,.pt (aF f)),(3,.pt [az to]),(4,.rp 2 0),(5,I 0)]) eH (ml:=[(2,.cells ln 26)]) eH),aX (ap ?_)⟩;refine SS ?_;refine cl jz ?_;refine SS ?_;refine aa (aX (ap ?_));refine ab ?_;by_cases hc:gB f=0
 case neg=>
  have e:pT f to=gB f:=if_neg hc;rw[e,if_neg hc];generalize gB f=c at*
  refine aa (dP rfl (fun _=>aX (ap ?_)) fun h=>absurd (by simpa using h) hc);refine bj ?_;exact aa (hZ (Bx (iM (cs:=ln) (vs:=ln) rfl rfl sH jT rfl t26 (bf rfl)) rfl rfl))
 have X:=hf hc;have e:pT f to=if nJ to f.al.length f.args then 0 else 1:=if_pos hc
 rw[hc];rw[hc] at jz;refine aa (dP rfl (fun h=>by simp at h) fun _=>eF (aX (ap ?_)));have vP:=vP (to:=to) (N:=f.al.length) (fixed:=f.args) X.l1 gW;refine dV ?_;refine cl vP ?_;refine SS ?_;cases hp:nJ to f.al.length f.args with
 |false=>
  rw[hp] at e;rw[e];refine aa (dP rfl (fun _=>aX (ap ?_)) fun h=>by simp at h);refine aJ ?_;exact aa (hZ (Bx (iM (cs:=ln) (vs:=ln) rfl rfl sH jT rfl t26 (bf rfl)) rfl rfl))
 |true=>
 rw[hp] at e;rw[e,if_pos rfl,if_pos rfl];refine aa (dP rfl (fun h=>by simp at h) fun _=>eF ?_)
 have hlen:to.length=f.al.length:=by
  unfold nJ at hp;rw[aw] at hp;have:=hp.2;simp at this;omega
 have kT:∀ k,k<to.length->∃ v:Nat,v<to.length/\to[k]? =some (v:Int):=fun k hk=>by
  unfold nJ at hp;rw[aw,cv] at hp;have:=hp.1 k (List.mem_range.2 hk);unfold rQ at this;rw[aw,tD (bx hk),iO] at this;obtain⟨v,hv⟩:=gd this.1.1;exact⟨v,oG,by rw[bx hk,hv]⟩
 clear hp e hf jz vP hc;refine cL (fun s=>∃ M i j g,2<i/\i<j/\j<g/\RR M i j g f (f.al.map U8) (f.blocks.flatMap bi)/\aC prog s ⟨ay [(2,.pt (aF f)),(3,.pt [az to]),(4,.rp 2 0),(5,I 0),(7,.rp g 0)],M,g+1⟩) (gq ?_) ?_
 .refine SS ?_;refine fU (aik X.l1 X.l2 X.l3 X.l4 X.l5) rfl aO ?_;rintro r M g ⟨i,j,h1,h2,h3,rfl,h4,U,h6⟩;dsimp only[St.put];refine SS ?_;have af:∀ {M:Mem} {c},up M g c g=c:=ai _ _ _;refine bD (eI (cs':=oJ f i j) rfl rfl (ai _ _ _) rfl) aO (bN t26 jT ⟨rfl,bf rfl⟩ rfl) ?_;refine aa ⟨_,i,j,g,oG,h2,h3,⟨?_,ai _ _ _,?_,?_⟩,ao eH⟩
  .exact ah oG (ah oG (h6 2 oG))
  .exact ah oG (ah oG h4)
  .exact ah oG (ah oG U)
 rintro s ⟨M,i,j,g,h1,h2,h3,hR,J⟩;refine⟨_,J,aX (aI ?_)⟩;clear J;refine bj ?_
 refine aa (c6 (fun s=>∃ M,RR M i j g f ((putAt to f.al f.al f.al.length).map U8) (f.blocks.flatMap bi)/\aC prog s ⟨ay [(2,.pt (aF f)),(3,.pt [az to]),(4,.rp 2 0),(5,I 0),(7,.rp g 0)],M,g+1⟩) (cZ (α:=Nat×Mem)
  (fun s=>⟨ay [(2,.pt (aF f)),(3,.pt [az to]),(4,.rp 2 0),(5,I 0),(7,.rp g 0),(31,ej f.al),(32,I f.al.length),(33,I s.1)],s.2,g+1⟩)
  (fun s=>s.1<=f.al.length/\RR s.2 i j g f ((putAt to f.al f.al s.1).map U8) (f.blocks.flatMap bi)) (fun s=>f.al.length - s.1) (0,M)
  (ao eH) ⟨Nat.zero_le _,hR⟩ ?_) ?_)
 .rintro⟨k,M⟩ ⟨hk,hR⟩;dsimp only at hk hR ⊢;refine SS ?_;refine aa ⟨_,rfl,fun h=>?_,fun h=>?_⟩
  .have ag:k<f.al.length:=by simpa using h
   clear h;obtain⟨v,hv,hg⟩:=kT k oG;obtain⟨x,hx⟩:∃ x,f.al[k]? =some x:=⟨_,bx ag⟩
   have DF:=It to f.al f.al k;rw[tD hg,tD hx,iv] at DF;have ng:=sQ to f.al f.al k;generalize putAt to f.al f.al k=q at*
   refine ws ?_;refine bV ?_;refine aa (EM Pr ?_);have af:=hR.rg;have bM:=hR.ri;have kd:(oJ f i j).drop (0+4)=.rs i 0 f.al.length::[ej f.bz,iz f.signals,.rs j 0 f.blocks.length]:=rfl;refine dc ?_;refine bD (di (d:=.s (.int _ _)) (cs':=(q.set v x).map U8) rfl rfl bM rfl (by rw[List.map_set])) aO (bN t5 c5 ⟨rfl,by simp;omega⟩ rfl) ?_;refine cG cP ?_;refine ab ?_;exact aa (bQ (k+1,_) (ao eH) ⟨oM,by dsimp only;rw[DF];exact hR.Nv h1 h2 h3⟩ oM)
  .have bC:¬ k<f.al.length:=by simpa using h
   have:k=f.al.length:=by omega
   subst this;exact⟨M,hR,ao eH⟩
 rintro s ⟨M,hR,J⟩;refine⟨_,J,aX (aI ?_)⟩;clear J kT;have hl4:=X.l4;generalize y7:(putAt to f.al f.al f.al.length).map U8=rs at*
 have af:=hR.rg;have kd:(oJ f i j).drop (0+7)=.rs j 0 f.blocks.length::[]:=rfl;have bM:=hR.rj;refine bj ?_
 refine aa (c6 (fun s=>∃ M,RR M i j g f rs ((f.blocks.map (cO to)).flatMap bi)/\aC prog s ⟨ay [(4,.rp 2 0),(5,I 0),(7,.rp g 0)],M,g+1⟩) (cZ (α:=Nat×Mem)
  (fun s=>⟨ay [(3,.pt [az to]),(4,.rp 2 0),(5,I 0),(7,.rp g 0),(49,I f.blocks.length),(50,I s.1)],s.2,g+1⟩)
  (fun s=>s.1<=f.blocks.length/\RR s.2 i j g f rs (((f.blocks.take s.1).map (cO to)++f.blocks.drop s.1).flatMap bi)) (fun s=>f.blocks.length - s.1) (0,M)
  (ao eH) ⟨Nat.zero_le _,hR⟩ ?_) ?_)
 .clear af bM hR;rintro⟨k,M⟩ ⟨hk,hR⟩;dsimp only at hk hR ⊢;refine SS ?_;refine aa ⟨_,rfl,fun h=>?_,fun h=>?_⟩
  .have ag:k<f.blocks.length:=by simpa using h
   clear h;obtain⟨b,hb⟩:∃ b,f.blocks[k]? =some b:=⟨_,bx ag⟩
   have nZ:=cX hb;have hI:=X.ins b nZ;have hE:=X.ends b nZ;have hS:=X.l5 b nZ
   have HJ:((f.blocks.take k).map (cO to)++f.blocks.drop k).flatMap bi=((f.blocks.take k).map (cO to)).flatMap bi++(bi b++(f.blocks.drop (k+1)).flatMap bi):=by
    rw[List.flatMap_append,List.drop_eq_getElem_cons ag,List.flatMap_cons,(bU.1 hb).2]
   have dG:((f.blocks.take (k+1)).map (cO to)++f.blocks.drop (k+1)).flatMap bi=((f.blocks.take k).map (cO to)).flatMap bi++(bi (cO to b)++(f.blocks.drop (k+1)).flatMap bi):=by
    rw[List.take_add_one,hb,List.map_append,List.flatMap_append,List.flatMap_append];simp
   have O:(((f.blocks.take k).map (cO to)).flatMap bi).length=k*16:=by
    rw[ux (sz:=16) (fun _=>rfl),List.length_map,List.length_take,Nat.min_eq_left hk]
   rw[HJ] at hR;clear HJ;generalize ((f.blocks.take k).map (cO to)).flatMap bi=A at*
   generalize (f.blocks.drop (k+1)).flatMap bi=C at*
   have hL:∀ y:bp,(A++(bi y++C)).length=k*16+(16+C.length):=fun y=>by
    rw[List.length_append,List.length_append,O];rfl
   refine ws ?_;refine ab ?_;refine aa (aI ?_);have af:=hR.rg;have bM:=hR.rj;have kd:(oJ f i j).drop (0+7)=.rs j 0 f.blocks.length::[]:=rfl;refine bV ?_;refine aa ⟨_,ao (l:=[(3,.pt [az to]),(4,.rp 2 0),(5,I 0),(7,.rp g 0),(49,I f.blocks.length),(50,I k),(11,.rp j (k*16))]) eH,?_⟩;have ain:to.length=f.al.length:=hlen;rw[<- hlen] at hI hE
   have yu:∀ {r:Int},0<=r/\r<to.length->∃ k:Nat,∃ v,r=k/\to[k]? =some v/\bO to r=v:=fun {r} h=>by
    obtain⟨k,rfl⟩:=gd h.1;exact⟨k,_,rfl,bx oG,by simp[bO,dN,bx (show k<to.length by omega)]⟩
   have oW:=oW (l:=b.ins) (g:=104) (fs:=[]) (cs:=[.pt [az to]]) (p:=bZ to) (by have:=hS.ins;omega) (.fn oS (.cons (.pt (.cons (cC _) .nil)) .nil)) (fun x hx=>aii (hI x hx));have pS:=pS (l:=b.fin.args) (g:=107) (fs:=[]) (cs:=[.pt [az to]]) (p:=bO to) (by have:=hS.ea;omega) (.fn oS (.cons (.pt (.cons (cC _) .nil)) .nil)) (fun r hr=>UU (hE.args r hr));generalize hq:k*16=q at*
   refine cL (fun s=>∃ M,RR M i j g f rs (A++(bi ⟨b.ins.map (bZ to),b.fin⟩++C))/\aC prog s ⟨ay [(3,.pt [az to]),(4,.rp 2 0),(5,I 0),(7,.rp g 0),(49,I f.blocks.length),(50,I k),(11,.rp j q)],M,g+1⟩) (gq ?_) ?_
   .clear kd af;have af:=hR.rj;have kd:(A++(bi b++C)).drop (q+0)=fg b.ins::(bE b.fin++C):=kF (j:=0) O rfl;refine dV ?_;refine cl oW ?_;refine ab ?_;refine bD (di (d:=.sl _ _) (cs':=A++(bi ⟨b.ins.map (bZ to),b.fin⟩++C)) rfl rfl af rfl (sg (j:=0) O rfl)) aO (bN t67 wH ⟨rfl,by rw[hL];omega⟩ rfl) ?_;exact aa ⟨_,hR.pw h1 h2 h3,ao eH⟩
   clear hR af bM kd;rintro s ⟨M,hR,J⟩;refine⟨_,J,ap ?_⟩;clear J;have af:=hR.rj;refine bj ?_;refine aa (cL (fun s=>∃ M,RR M i j g f rs (A++(bi ⟨b.ins.map (bZ to),iq to b.fin⟩++C))/\aC prog s ⟨ay [(3,.pt [az to]),(4,.rp 2 0),(5,I 0),(7,.rp g 0),(49,I f.blocks.length),(50,I k),(12,.rp j (q+1))],M,g+1⟩) (ap ?_) ?_)
   .have kd:(A++(bi ⟨b.ins.map (bZ to),b.fin⟩++C)).drop (q+1+0)=U8 b.fin.kind::_:=kF (j:=1) O rfl;refine bj ?_;refine aa (ot ?_);clear kd;generalize jN:b.ins.map (bZ to)=il at*
    generalize b.fin=x at*
    have nk:∀ y:Argus.End,(A++(bi ⟨il,y⟩++C)).length=q+(16+C.length):=fun y=>hL ⟨il,y⟩;refine cL (fun s=>aC prog s ⟨ay [(3,.pt [az to]),(4,.rp 2 0),(5,I 0),(7,.rp g 0),(49,I f.blocks.length),(50,I k),(12,.rp j (q+1)),(72,U8 x.kind),(73,B (aR [2,8,9,7] x.kind))],M,g+1⟩) (ap ?_) fun s hg=>⟨_,hg,?_⟩
    .refine ab ?_;refine aa (aE rfl (fun h=>bJ ?_) fun e1=>ap ?_)
     .have h:x.kind=2:=by simpa using h
      refine ao ⟨rfl,rfl,rfl,rfl,rfl,rfl,rfl,rfl,?_,trivial⟩;show D.s (.bool (x.kind==2))=_;rw[h];rfl
     refine ab ?_;refine aa (aE rfl (fun h=>bJ ?_) fun e2=>ap ?_)
     .have h:x.kind=8:=by simpa using h
      refine ao ⟨rfl,rfl,rfl,rfl,rfl,rfl,rfl,rfl,?_,trivial⟩;show D.s (.bool (x.kind==8))=_;rw[h];rfl
     refine ab ?_;refine aa (aE rfl (fun h=>bJ ?_) fun e3=>gq ?_)
     .have h:x.kind=9:=by simpa using h
      refine ao ⟨rfl,rfl,rfl,rfl,rfl,rfl,rfl,rfl,?_,trivial⟩;show D.s (.bool (x.kind==9))=_;rw[h];rfl
     refine ab ?_;refine aa (ao ⟨rfl,rfl,rfl,rfl,rfl,rfl,rfl,rfl,?_,trivial⟩);show D.s (.bool (x.kind==7))=_;simp only[aR,List.any_cons,List.any_nil,e1,e2,e3,Bool.false_or,Bool.or_false]
    clear hg;refine aE rfl (fun qW=>uJ Ps ?_) fun qW=>?_
    .obtain⟨kk,v,ha,hv,e⟩:=yu (hE.a qW);have kd:(A++(bi ⟨il,x⟩++C)).drop (q+1+1)=I kk::_:=(kF (j:=2) O (r:=(bi ⟨il,x⟩++C).drop 3) rfl).trans (by rw[ha]);refine dc ?_;refine ab ?_;refine bD (di (d:=.s (.int _ _)) (cs':=A++(bi ⟨il,iq to x⟩++C)) rfl rfl af rfl (sg (j:=2) O (by rw[Sr qW,e];rfl))) aO (bN t3 c3 ⟨rfl,by rw[nk];omega⟩ rfl) ?_;exact cG cP ⟨_,hR.pw h1 h2 h3,ao eH⟩
    refine cL (fun s=>aC prog s ⟨ay [(3,.pt [az to]),(4,.rp 2 0),(5,I 0),(7,.rp g 0),(49,I f.blocks.length),(50,I k),(12,.rp j (q+1)),(72,U8 x.kind),(88,B (aR [3,6] x.kind))],M,g+1⟩) (ap ?_) fun s hg=>⟨_,hg,?_⟩
    .refine ab ?_;refine aa (aE rfl (fun h=>bJ ?_) fun e1=>gq ?_)
     .have h:x.kind=3:=by simpa using h
      refine ao ⟨rfl,rfl,rfl,rfl,rfl,rfl,rfl,rfl,?_,trivial⟩;show D.s (.bool (x.kind==3))=_;rw[h];rfl
     refine ab ?_;refine aa (ao ⟨rfl,rfl,rfl,rfl,rfl,rfl,rfl,rfl,?_,trivial⟩);show D.s (.bool (x.kind==6))=_;simp only[aR,List.any_cons,List.any_nil,e1,Bool.false_or,Bool.or_false]
    clear hg;refine aE rfl (fun uk=>ap ?_) fun uk=>ap ?_
    .have e0:=Ss (to:=to) qW uk;have kd:(A++(bi ⟨il,x⟩++C)).drop (q+1+1)=I x.a::_:=kF (j:=2) O rfl;refine bV ?_;refine aa (aE rfl (fun h0=>uJ Pt ?_) fun h0=>sU ?_)
     .have h0:0<=x.a:=by simpa using h0
      obtain⟨kk,v,ha,hv,e⟩:=yu ⟨h0,hE.a2 uk h0⟩;rw[if_pos h0,e] at e0;rw[ha] at kd;refine dc ?_;refine ab ?_;refine bD (di (d:=.s (.int _ _)) (cs':=A++(bi ⟨il,iq to x⟩++C)) rfl rfl af rfl (sg (j:=2) O (by rw[e0];rfl))) aO (bN t3 c3 ⟨rfl,by rw[nk];omega⟩ rfl) ?_;exact cG cP ⟨_,hR.pw h1 h2 h3,ao eH⟩
     .have h0:¬ 0<=x.a:=by simpa using h0
      rw[if_neg h0] at e0;exact⟨_,by rw[e0];exact hR,ao eH⟩
    .have e0:=Su (to:=to) qW uk;refine ab ?_;refine aa (aE rfl (fun U=>uJ Pu ?_) fun U=>sU ?_)
     .have U:x.kind=5:=by simpa using U
      rw[if_pos U] at e0;have tN:=tN (hE.ins U);refine bj ?_;refine au (dI (vs:=bc x.ins) rfl af ui jS (Sq (j:=7) O rfl)) aO (dJ t45 jS (by rw[nk];omega)) ?_;refine SS ?_;refine cl tN ?_;refine ab ?_;refine bD (eI (vs:=bc (bZ to x.ins)) (cs':=A++(bi ⟨il,iq to x⟩++C)) rfl rfl af (EP (j:=7) O (by simp[bc]) (by rw[e0];rfl))) aO (bN t45 jS ⟨rfl,by rw[nk];omega⟩ rfl) ?_;exact cG cP ⟨_,hR.pw h1 h2 h3,ao eH⟩
     .have U:¬ x.kind=5:=by simpa using U
      rw[if_neg U] at e0;exact⟨_,by rw[e0];exact hR,ao eH⟩
   clear hR af;rintro s ⟨M,hR,J⟩;refine⟨_,J,?_⟩;clear J;have af:=hR.rj;have y8:cO to b=⟨b.ins.map (bZ to),{ iq to b.fin with b:=if b.fin.kind=8 then bO to b.fin.b else b.fin.b,args:=b.fin.args.map (bO to) }⟩:=rfl;rw[y8] at dG;clear y8 oW;generalize b.ins.map (bZ to)=il at*
   have nk:∀ y:Argus.End,(A++(bi ⟨il,y⟩++C)).length=q+(16+C.length):=fun y=>hL ⟨il,y⟩;have um:=hE.b;have y1:(iq to b.fin).kind=b.fin.kind:=rfl;have y2:(iq to b.fin).b=b.fin.b:=rfl;have y3:(iq to b.fin).args=b.fin.args:=rfl;generalize iq to b.fin=y at*
   rw[<- y1, <- y2] at um dG;rw[<- y3] at pS dG;clear y1 y2 y3 hE hI hS nZ hL;refine cL (fun s=>∃ M,RR M i j g f rs (A++(bi ⟨il,{ y with b:=if y.kind=8 then bO to y.b else y.b }⟩++C))/\aC prog s ⟨ay [(3,.pt [az to]),(4,.rp 2 0),(5,I 0),(7,.rp g 0),(49,I f.blocks.length),(50,I k),(12,.rp j (q+1))],M,g+1⟩) (ap ?_) ?_
   .have kd:(A++(bi ⟨il,y⟩++C)).drop (q+1+0)=U8 y.kind::_:=kF (j:=1) O rfl;refine bV ?_;refine aa (aE rfl (fun h8=>BV Pv ?_) fun h8=>bJ ?_)
    .have h8:y.kind=8:=by simpa using h8
     obtain⟨kk,v,ha,hv,e⟩:=yu (um h8);rw[if_pos h8,e];have kd:(A++(bi ⟨il,y⟩++C)).drop (q+1+2)=I kk::_:=(kF (j:=3) O (r:=(bi ⟨il,y⟩++C).drop 4) rfl).trans (by rw[ha]);refine dc ?_;refine ab ?_;refine bD (di (d:=.s (.int _ _)) (cs':=A++(bi ⟨il,{ y with b:=v }⟩++C)) rfl rfl af rfl (sg (j:=3) O rfl)) aO (bN t3 c3 ⟨rfl,by rw[nk];omega⟩ rfl) ?_;exact cG cP ⟨_,hR.pw h1 h2 h3,ao eH⟩
    .have h8:¬ y.kind=8:=by simpa using h8
     rw[if_neg h8];exact⟨_,hR,ao eH⟩
   clear hR af;rintro s ⟨M,hR,J⟩;refine⟨_,J,fv ?_⟩;clear J;generalize (if y.kind=8 then bO to y.b else y.b)=yb at*
   have af:=hR.rj;have kd:(A++(bi ⟨il,{ y with b:=yb }⟩++C)).drop (q+1+12)=az y.args::_:=kF (j:=13) O rfl;refine dV ?_;refine cl pS ?_;refine ab ?_;refine bD (di (d:=.sl _ _) (cs':=A++(bi ⟨il,{ y with b:=yb,args:=y.args.map (bO to) }⟩++C)) rfl rfl af rfl (sg (j:=13) O rfl)) aO (bN t35 qX ⟨rfl,by rw[nk];omega⟩ rfl) ?_;refine aa ?_;refine ab ?_;exact aa (bQ (k+1,_) (ao eH) ⟨oM,by dsimp only;rw[dG];exact hR.pw h1 h2 h3⟩ oM)
  .have bC:¬ k<f.blocks.length:=by simpa using h
   have:k=f.blocks.length:=by omega
   subst this;rw[List.take_length,List.drop_length,List.append_nil] at hR;exact⟨M,hR,ao eH⟩
 .rintro s ⟨M,hR,J⟩;refine⟨_,J,aI ?_⟩;clear J af bM kd;have af:=hR.rg;refine au (dI (vs:=oJ f i j) rfl af sH jT rfl) aO (dJ t26 jT (bf rfl)) ?_;have bM:=hR.r2;refine bD (eI (cs':=oJ f i j) rfl rfl bM rfl) aO (bN t26 jT ⟨rfl,bf rfl⟩ rfl) ?_;refine SS ?_;have g1:up M 2 (some (Row.cells (oJ f i j) 26)) j=some (.cells ((f.blocks.map (cO to)).flatMap bi) 69):=ah oG hR.rj
  have g2:y5 j ((f.blocks.map (cO to)).flatMap bi) (prog.cellsOf 69) (up M 2 (some (Row.cells (oJ f i j) 26))) i=some (.cells rs 5):=acG (ah oG hR.ri) oG (pE.cells fun d hd=>by
   rw[<- y7] at hd;obtain⟨x,_,rfl⟩:=List.mem_map.1 hd
   exact .s _)
  have g3:y5 i rs (prog.cellsOf 5) (y5 j ((f.blocks.map (cO to)).flatMap bi) (prog.cellsOf 69) (up M 2 (some (Row.cells (oJ f i j) 26)))) 2=some (.cells (aF (vS f to)) 26):=by
   unfold y5;rw[if_neg oG,if_neg oG,ai];show some (Row.cells [S f.name,B f.iter,I f.args,U8 f.result,sub (c7 i rs _) (sub (c7 j _ _) (.rs i 0 f.al.length)),ej f.bz,iz f.signals,sub (c7 i rs _) (sub (c7 j _ _) (.rs j 0 f.blocks.length))] 26)=_;rw[Ql oG,Lb,Lb,c5,sG,List.drop_zero,List.drop_zero,Nat.mul_one,dR (l:=rs) (by rw[<- y7,List.length_map,sQ];exact a6 _),Eh (f:=bi) (sz:=16) (fun _=>rfl),dR oS, <- y7];show some (Row.cells [S f.name,B f.iter,I f.args,U8 f.result,.sl ((putAt to f.al f.al f.al.length).map U8) f.al.length,ej f.bz,iz f.signals,.sl ((f.blocks.map (cO to)).flatMap bi) f.blocks.length] 26)=some (Row.cells [S f.name,B f.iter,I f.args,U8 f.result,.sl ((putAt to f.al f.al f.al.length).map U8) (putAt to f.al f.al f.al.length).length,ej f.bz,iz f.signals,.sl ((f.blocks.map (cO to)).flatMap bi) (f.blocks.map (cO to)).length] 26);rw[sQ,List.length_map]
  refine aa ⟨_,(Pq (l:=[(4,.rp 2 0),(5,I 0)]) g1 ⟨zA oG,rfl,trivial⟩).trans (Pq (l:=[(4,.rp 2 0),(5,I 0)]) g2 ⟨zA oG,rfl,trivial⟩),?_⟩;exact Bx (iM (cs:=aF (vS f to)) (vs:=aF (vS f to)) rfl g3 sH jT rfl t26 (bf rfl)) rfl rfl
end Go.Proofs.Tryz.K
end
namespace Go.Argus
open Go Go.Abs
def JU(l:List Int):Prop:=∀ (i j:Nat) x y,i<=j->l[i]? =some x->l[j]? =some y->x<=y
def ajv(l:List Int)(j k:Nat):Prop:=(∀ p q,p<q->q<=k->p≠j->q≠j->l.getD p 0<=l.getD q 0)/\∀ q,j<q->q<=k->l.getD j 0<=l.getD q 0
def Vx(l:List Int)(k:Nat):Prop:=∀ p q,p<=q->q<=k->l.getD p 0<=l.getD q 0
theorem PO{l:List Int}{j:Nat}(h:j+1<l.length)(i:Nat):(swapAt l j).getD i 0=if i=j then l.getD (j+1) 0 else if i=j+1 then l.getD j 0 else l.getD i 0:=by
 unfold swapAt;simp only[dN,List.getElem?_set,List.length_set];by_cases e:j=i
 .subst e;rw[if_pos rfl,if_pos rfl,if_pos oG];rfl
 .rw[if_neg e,if_neg (show ¬ i=j from fun h=>e h.symm)];by_cases e2:j+1=i
  .subst e2;rw[if_pos rfl,if_pos rfl,if_pos h];rfl
  .rw[if_neg e2,if_neg (show ¬ i=j+1 from fun h=>e2 h.symm)]
theorem RB{k:Nat}:∀ {j:Nat} {l:List Int},j<=k->k<l.length->ajv l j k->Vx (nR l j) k
 |0,l,_,_,h=>fun p q J hq=>by
  rw[nR];rcases Nat.lt_or_ge p q with g|g
  .by_cases hp:p=0
   .subst hp;exact h.2 q g hq
   .exact h.1 p q g hq hp oG
  .have:p=q:=by omega
   subst this;exact Int.le_refl _
 |j+1,l,hj,hk,h=>by
  rw[nR];split
  .rename_i ag;have hs:=PO (l:=l) (j:=j) oG;refine RB oG (by simpa using hk) ⟨fun p q J hq hp O=>?_,fun q hq U=>?_⟩
   .rw[hs,hs,if_neg hp,if_neg O];by_cases C:p=j+1
    .rw[if_pos C,if_neg oG];exact h.1 j q oG hq oG oG
    .rw[if_neg C];by_cases e2:q=j+1
     .rw[if_pos e2];exact h.1 p j oG oG C oG
     .rw[if_neg e2];exact h.1 p q J hq C e2
   .rw[hs,hs,if_pos rfl,if_neg oG];by_cases e2:q=j+1
    .rw[if_pos e2];omega
    .rw[if_neg e2];exact h.2 q oG U
  .rename_i X;intro p q J hq;rcases Nat.lt_or_ge p q with g|g
   .by_cases C:p=j+1
    .subst C;exact h.2 q g hq
    .by_cases e2:q=j+1
     .subst e2;by_cases e3:p=j
      .subst e3;omega
      .have:=h.1 p j oG oG oG oG;omega
     .exact h.1 p q g hq C e2
   .have:p=q:=by omega
    subst this;exact Int.le_refl _
theorem Qz{i:Nat}:∀ {j:Nat} {l:List Int},j<i->j<l.length->(nR l j).getD i 0=l.getD i 0
 |0,l,_,_=>rfl
 |j+1,l,h,hl=>by
  rw[nR];split
  .rw[Qz oG oP,PO oG,if_neg oG,if_neg oG]
  .rfl
theorem QA{l:List Int}:∀ k,k<l.length->Vx (lS l k) k/\∀ i,k<i->(lS l k).getD i 0=l.getD i 0
 |0,_=>⟨fun p q C hq=>by
  have:p=q:=by omega
  subst this;exact Int.le_refl _,fun _ _=>rfl⟩
 |k+1,hk=>by
  obtain⟨h1,h2⟩:=QA (l:=l) k oG;rw[lS];refine⟨RB (a6 _) (by simpa using hk) ⟨fun p q C hq hp J=>h1 p q oG oG,fun q hq J=>by omega⟩,fun i hi=>?_⟩;rw[Qz hi oP];exact h2 i oG
theorem XF(l:List Int):JU (mN l):=fun i j x y C hx hy=>by
 obtain⟨hj,J⟩:=bU.1 hy;have hl:(mN l).length=l.length:=Py l;have h:=(QA (l:=l) (l.length - 1) oG).1 i j C oG;have e:lS l (l.length - 1)=mN l:=rfl;rw[e,dN,dN,hx,hy] at h;exact h
theorem SI{d:List Int}(hs:JU d):∀ t,t<=d.length->(fe d t).Pairwise (·<·)/\(0<t->∀ x∈fe d t,x<=d.getD (t - 1) 0)
 |0,_=>⟨by simp[fe],fun h=>absurd h (Nat.lt_irrefl 0)⟩
 |t+1,ht=>by
  obtain⟨h1,h2⟩:=SI hs t oG
  have hg:∀ i,i<d.length->d[i]? =some (d.getD i 0):=fun i hi=>by
   have:=bx hi;rw[dN,this];rfl
  have C:∀ x∈fe d t,x<=d.getD t 0:=fun x hx=>by
   have h0:0<t:=by
    cases t with
    |zero=>simp[fe] at hx
    |succ t=>omega
   have a:=h2 h0 x hx;have b:=hs (t - 1) t _ _ oG (hg _ oG) (hg _ oG);omega
  rw[fe];split
  .rw[List.append_nil];exact⟨h1,fun _ x hx=>by rw[Nat.add_sub_cancel];exact C x hx⟩
  .rename_i J;refine⟨?_,fun _ x hx=>?_⟩
   .rw[List.pairwise_append];refine⟨h1,oS,fun x hx y hy=>?_⟩;rw[List.mem_singleton] at hy;subst hy
    have h0:0<t:=by
     cases t with
     |zero=>simp[fe] at hx
     |succ t=>omega
    have a:=h2 h0 x hx;have b:=hs (t - 1) t _ _ oG (hg _ oG) (hg _ oG);have c:d.getD t 0≠d.getD (t - 1) 0:=fun e=>J ⟨oG,e⟩;omega
   .rw[Nat.add_sub_cancel];rw[List.mem_append,List.mem_singleton] at hx;rcases hx with hx|hx
    .exact C x hx
    .rw[hx];exact Int.le_refl _
theorem X2{d:List Int}(hs:JU d):(my d).Pairwise (·<·):=(SI hs _ (a6 _)).1
theorem aab(x:End):(Go.Proofs.Tryz.K.nextR x).Pairwise (·<·):=X2 (XF _)
theorem YJ{b:Nat}:∀ (l:List Int) (L:Nat->List Int),l.Pairwise (·<·)->(∀ t∈l,0<=t)->(∀ i,(L i).Pairwise (·<·)/\∀ x∈L i,x<(b:Int))->
 ∀ i,(l.foldl (jj b) L i).Pairwise (·<·)/\(∀ x∈l.foldl (jj b) L i,x<(b:Int)+1):=fun l=>by
 have key:∀ (l:List Int) (L:Nat->List Int),l.Pairwise (·<·)->(∀ t∈l,0<=t)->∀ i,l.foldl (jj b) L i=L i++(if(i:Int)∈l then [(b:Int)] else []):=fun l=>by
  induction l with
  |nil=>intro L _ _ i;simp
  |cons t l ih=>
   intro L hp h0 i;rw[List.pairwise_cons] at hp;have ht:=h0 t oS;obtain⟨C,rfl⟩:=gd ht;rw[List.foldl_cons,ih _ hp.2 (fun t h=>h0 t (by simp[h]))];unfold jj;simp only[iv,up];by_cases e:i=C
   .subst e;rw[if_pos rfl,if_neg (fun h=>by have:=hp.1 _ h;omega),if_pos oS,List.append_nil]
   .rw[if_neg e];congr 1;have:¬ (i:Int)=C:=by omega
    simp[this]
 intro L hp h0 J i;rw[key l L hp h0 i];obtain⟨h1,h2⟩:=J i;split
 .refine⟨?_,fun x hx=>?_⟩
  .rw[List.pairwise_append];exact⟨h1,oS,fun x hx y hy=>by rw[List.mem_singleton] at hy;rw[hy];exact h2 x hx⟩
  .rw[List.mem_append,List.mem_singleton] at hx;rcases hx with hx|hx
   .have:=h2 x hx;omega
   .omega
 .rw[List.append_nil];exact⟨h1,fun x hx=>by have:=h2 x hx;omega⟩
theorem OY{bs:List bp}(h0:∀ b∈bs,∀ t∈Go.Proofs.Tryz.K.nextR b.fin,0<=t):∀ k i,(dd bs k i).Pairwise (·<·)/\∀ x∈dd bs k i,x<(k:Int)
 |0,i=>by simp[dd]
 |k+1,i=>by
  have ih:=OY h0 k;have e:dd bs (k+1)=tq bs (dd bs k) k:=by rw[dd,List.range_succ,List.foldl_append];rfl
  rw[e];unfold tq;cases hx:bs[k]? with
  |none=>exact⟨(ih i).1,fun x hx=>by have:=(ih i).2 x hx;omega⟩
  |some b=>
   obtain⟨h1,h2⟩:=YJ (b:=k) (Go.Proofs.Tryz.K.nextR b.fin) (dd bs k) (aab _) (h0 b (cX hx)) ih i;exact⟨h1,fun x hx=>by have:=h2 x hx;omega⟩
theorem RC:∀ {l:List Int} {a k:Nat},l.Pairwise (·<·)->(∀ x∈l,(a:Int)<=x/\x<(k:Int))->l.length<=k - a
 |[],_,_,_,_=>Nat.zero_le _
 |x::l,a,k,hp,h=>by
  rw[List.pairwise_cons] at hp;have hx:=h x oS;obtain⟨C,rfl⟩:=gd (show 0<=x by omega)
  have:=RC (l:=l) (a:=C+1) (k:=k) hp.2 fun y hy=>by
   have:=hp.1 y hy;have:=h y (by simp[hy]);omega
  rw[List.length_cons];omega
end Go.Argus
namespace Go.Abs
section
variable{P:Program}{F F':Nat->Prop}{β β':av}{w w':World}
def oV(d:D)(d':Nat->D):Prop:=∀ (k:Nat) (F F':Nat->Prop) (β β':av) (w:World) (v:Value),(∀ i p,β i=some p->β' (i+k)=some p)->(∀ b,¬ F b->β.free b->¬ F' b/\β'.free b)->R F β w d v->R F' β' w (d' k) v
theorem oV.tr{d:D}(h:Tr d):oV d fun _=>d:=fun _ F F' β β' w v _ hf hr=>(h F β w v hr).lift fun b hb=>by
 obtain⟨h1,h2⟩:=uy hb;exact hf b h1 h2
theorem oV.rs{i o n:Nat}:oV (.rs i o n) fun k=>.rs (i+k) o n:=fun k F F' β β' w v hk _ hr=>by
 cases hr with
 |js _ _ _ _ h hv=>exact .js _ _ _ _ (hk _ _ h) hv
 |gu _ a h=>exact .gu _ a (hk _ _ h)
 |ir _ _ a b o len room sz h=>exact .ir _ _ a b o len room sz (hk _ _ h)
 |rs _ _ _ cap b o len room sz h h1 h2 C J=>exact .rs _ _ _ cap b o len room sz (hk _ _ h) h1 h2 C J
def AZ:List D->(Nat->List D)->Prop
 |[],f=>∀ k,f k=[]
 |d::ds,f=>∃ d' C,(∀ k,f k=d' k::C k)/\oV d d'/\AZ ds C
theorem Js:∀ {ds:List D} {f:Nat->List D},AZ ds f->∀ k,(f k).length=ds.length/\∀ (j:Nat) d',(f k)[j]? =some d'->∃ d e,ds[j]? =some d/\oV d e/\d'=e k
 |[],f,h,k=>by rw[h k];exact⟨rfl,fun j d' hd=>by simp at hd⟩
 |d::ds,f,⟨d1,f1,h1,h2,h3⟩,k=>by
  obtain⟨J,O⟩:=Js h3 k;rw[h1 k];refine⟨by simp[J],fun j d' hd=>?_⟩;cases j with
  |zero=>simp at hd;exact⟨d,d1,rfl,h2,hd.symm⟩
  |succ j=>simp at hd;obtain⟨e,C,U,X,q3⟩:=O j d' hd;exact⟨e,C,by simpa using U,X,q3⟩
theorem oV.agg{ds:List D}{f:Nat->List D}(h:AZ ds f):oV (.agg ds) fun k=>.agg (f k):=fun k F F' β β' w v hk hf hr=>by
 obtain⟨U,C⟩:=Js h k;cases hr with
 |agg _ vs hl hh=>
  refine .agg _ vs oG fun j d' u hd hu=>?_;obtain⟨d,e,J,O,rfl⟩:=C j d' hd;exact O k F F' β β' w u hk hf (hh j d u J hu)
def ShR(r:Row)(r':Nat->Row):Prop:=∃ cs e f,r=.cells cs e/\AZ cs f/\∀ k,r' k=.cells (f k) e
theorem YY{f:FuncId}{args:List D}{cB:D->Mem->Nat->Prop}{m:Mem}{nx:Nat}{Q:D->Mem->Nat->Prop}(hc:dB P f args (fun _=>none) 0 cB)(ht:∀ a∈args,Tr a)
 (hP:∀ d m0 n0,cB d m0 n0->∃ (d':Nat->D) (r':Nat->Option Row),oV d d'/\(∀ i,match m0 i with|none=>r' i=none|some r=>∃ q,ShR r q/\r' i=some (q nx))/\Q (d' nx) (fun i=>if i<nx then m i else r' (i - nx)) (nx+n0)):dB P f args m nx Q:=by
 refine⟨hc.1,fun F β w vs hm hn hR=>?_⟩;refine(hc.2 (owned F β) fw w vs ⟨fun _ _ h=>oH,fun _ _ _ _ _ h=>oH,fun _ _ _ h=>oH,fun _ _ _ h=>oH,IZ hm⟩ (fun _ _=>rfl) ⟨hR.1,fun k d v hd hv=>ht d (cX hd) F β w v (hR.2 k d v hd hv)⟩).mono ?_;rintro e w' ⟨v,d0,m0,n0,X,he,hp,gv,nU,hr,O,_,_⟩;obtain⟨d',r',iZ,eh,hQ⟩:=hP d0 m0 n0 hp;have oD:∀ b,b<w.heap.size->w'.heap[b]? =w.heap[b]? :=fun b hb=>(O.du b hb fun _ _ h=>oH).1;obtain⟨β',hβ⟩:∃ β':av,β'=fun i=>if i<nx then β i else X (i - nx):=⟨_,rfl⟩
 have fJ:∀ i,i<nx->β' i=β i:=fun i hi=>by rw[hβ];exact if_pos hi
 have jO:∀ i,β' (i+nx)=X i:=fun i=>by rw[hβ];show(if i+nx<nx then _ else _)=_;rw[if_neg oG,Nat.add_sub_cancel]
 have U:∀ i p,β' i=some p->(i<nx/\β i=some p)\/(nx<=i/\X (i - nx)=some p):=fun i p h=>by
  by_cases hi:i<nx
  .rw[fJ i hi] at h;exact .inl ⟨hi,h⟩
  .have:=jO (i - nx);rw[Nat.sub_add_cancel oG] at this;rw[this] at h;exact .inr ⟨oG,h⟩
 have aho:∀ i p,β i=some p->i<nx:=fun i p h=>by
  apply Classical.byContradiction;intro hi;rw[hn i oG] at h;cases h
 have gE:∀ i p,β i=some p->β' i=some p:=fun i p h=>by rw[fJ i (aho i p h)];exact h
 have LG:∀ i p b,X i=some p->p.bA=some b->¬ F b/\β.free b:=fun i p b h hb=>uy (gv.nf i p b h hb)
 have gD:∀ b,¬ owned F β b->X.free b->¬ F b/\β'.free b:=fun b h1 h2=>by
  obtain⟨g1,g2⟩:=uy h1;refine⟨g1,fun i p hp=>?_⟩;rcases U i p hp with⟨_,h⟩|⟨_,h⟩
  .exact g2 i p h
  .exact h2 _ p h
 have eS:Step β w β' w':=by
  refine⟨O.size,fun b hb hf=>⟨oD b hb,fun i p hp=>?_⟩,fun i p h=>.inl (gE i p h),O.out,fun i r h _=>BR (oD r)⟩;rcases U i p hp with⟨_,h⟩|⟨_,h⟩
  .exact hf i p h
  .exact(O.du b hb fun _ _ h=>oH).2 _ p h
 have LH:∀ i p,X i=some p->β' (i+nx)=some p:=fun i p h=>by rw[jO];exact h
 refine⟨v,d' nx,_,nx+n0,β',he,hQ,⟨fun i r hi=>?_,fun i j p q b dx J C e2=>?_,fun i p b dx C=>?_,fun i p b dx C=>?_,?_⟩,fun i hi=>?_,iZ nx _ _ _ _ _ _ LH gD hr,eS,Nat.le_add_right _ _,fun i hi h=>by rw[fJ i hi];exact h⟩
 .by_cases cE:i<nx
  .rw[if_pos cE] at hi;obtain⟨p,dx,J⟩:=hm.row i r hi;exact⟨p,gE i p dx,J.step eS fun b hb=>oD b (hm.lt i p b dx hb)⟩
  .rw[if_neg cE] at hi;have h1:=eh (i - nx);cases iH:m0 (i - nx) with
   |none=>rw[iH] at h1;rw[show r' (i - nx)=none from h1] at hi;cases hi
   |some r0=>
    rw[iH] at h1;obtain⟨q,⟨cs,e,f,rfl,hL,hq⟩,h2⟩:=h1;rw[h2] at hi;cases hi;obtain⟨p,dx,J⟩:=gv.row _ _ iH;refine⟨p,by rw[<- LH _ _ dx,Nat.sub_add_cancel oG],?_⟩;rw[hq];obtain⟨g1,g2⟩:=Js hL nx;generalize wu:cs=cs' at J;cases J with
    |nil e=>
     subst wu;have:f nx=[]:=List.length_eq_zero_iff.1 g1;rw[this];exact .nil e
    |cells _ _ b o room sz c a1 a2 a3 a4 a5=>
     subst wu;rw[<- g1];refine .cells _ _ b o room sz c a1 a2 oG a4 fun j d hd=>?_;obtain⟨d1,C,q1,q2,rfl⟩:=g2 j d hd;obtain⟨u,u1,u2,u3⟩:=a5 j d1 q1;exact⟨u,u1,q2 nx _ _ _ _ _ _ LH gD u2,u3⟩
 .rcases U i p dx with⟨a1,a2⟩|⟨a1,a2⟩<;>rcases U j q J with⟨b1,b2⟩|⟨b1,b2⟩
  .exact hm.inj i j p q b a2 b2 C e2
  .exact absurd C ((LG _ q b b2 e2).2 i p a2)
  .exact absurd e2 ((LG _ p b a2 C).2 j q b2)
  .have:=gv.inj _ _ p q b a2 b2 C e2;omega
 .rcases U i p dx with⟨a1,a2⟩|⟨a1,a2⟩
  .exact Nat.lt_of_lt_of_le (hm.lt i p b a2 C) O.size
  .exact gv.lt _ p b a2 C
 .rcases U i p dx with⟨a1,a2⟩|⟨a1,a2⟩
  .exact hm.nf i p b a2 C
  .exact(LG _ p b a2 C).1
 .exact hm.fb.next (fun b hb=>Nat.lt_of_lt_of_le (hm.fb.lt b hb) O.size) (fun _ h=>h) fun t ht _=>oD _ (hm.fb.lt _ (hm.fb.fH t ht).1)
 .rw[hβ];show(if i<nx then _ else _)=_;rw[if_neg oG];exact nU _ oG
end
end Go.Abs
section
open Go Go.Abs Go.Proofs Go.Argus
namespace Go.Argus
def fS(x:bn)(t n:Nat):List D:=[U8 x.op,I x.to,I x.a,I x.b,I x.n,.rs t 0 n]
theorem Jh(x:bn)(t n:Nat):AZ (fS x t n) fun k=>fS x (t+k) n:=
 ⟨fun _=>U8 x.op,fun k=>[I x.to,I x.a,I x.b,I x.n,.rs (t+k) 0 n],fun _=>rfl,.tr (.s _),fun _=>I x.to,fun k=>[I x.a,I x.b,I x.n,.rs (t+k) 0 n],fun _=>rfl,.tr (.s _),fun _=>I x.a,fun k=>[I x.b,I x.n,.rs (t+k) 0 n],fun _=>rfl,.tr (.s _),fun _=>I x.b,fun k=>[I x.n,.rs (t+k) 0 n],fun _=>rfl,.tr (.s _),fun _=>I x.n,fun k=>[.rs (t+k) 0 n],fun _=>rfl,.tr (.s _),fun k=>.rs (t+k) 0 n,fun _=>[],fun _=>rfl,.rs,fun _=>rfl⟩
theorem Kr:∀ {ds:List D},(∀ d∈ds,Tr d)->AZ ds fun _=>ds
 |[],_=>fun _=>rfl
 |d::ds,h=>⟨fun _=>d,fun _=>ds,fun _=>rfl,.tr (h d oS),Kr fun e he=>h e (by simp[he])⟩
def mV(l:List bn)(t:Nat->Nat)(k:Nat):List D:=(range k).flatMap fun j=>fS (l.getD j rL) (t j) (l.getD j rL).args.length
structure TR(M:Mem)(lo hi:Nat)(l:List bn)(t:Nat->Nat)(k:Nat):Prop where
 t1:∀ j,j<k->lo<=t j/\t j<hi
 t2:∀ i j,i<j->j<k->t i<t j
 mt:∀ (j:Nat) x,l[j]? =some x->j<k->M (t j)=some (.cells (x.args.map I) 3)
theorem TR.mono{M C:Mem}{lo hi J:Nat}{l:List bn}{t:Nat->Nat}{k:Nat}(h:TR M lo hi l t k)(hm:∀ j,lo<=j->j<hi->C j=M j)(hh:hi<=J):TR C lo J l t k:=
 ⟨fun j hj=>by have:=h.t1 j hj;omega,h.t2,fun j x hx hj=>by have:=h.t1 j hj;rw[hm _ oG oG];exact h.mt j x hx hj⟩
theorem TR.zero{M:Mem}{lo hi:Nat}{l:List bn}{t:Nat->Nat}:TR M lo hi l t 0:=⟨fun j h=>by omega,fun i j _ h=>by omega,fun j x _ h=>by omega⟩
theorem TR.snoc{M:Mem}{lo hi C p:Nat}{l:List bn}{t:Nat->Nat}{k:Nat}{x:bn}(h:TR M lo hi l t k)(hx:l[k]? =some x)(h0:lo<=hi)(h1:hi<=p)(h2:p<C)(hp:M p=some (.cells (x.args.map I) 3)):TR M lo C l (up t k p) (k+1):=by
 refine⟨fun j hj=>?_,fun i j J hj=>?_,fun j y hy hj=>?_⟩
 .by_cases e:j=k
  .subst e;rw[ai];omega
  .rw[aA _ _ e];have:=h.t1 j oG;omega
 .rw[aA t _ (by omega:i≠k)];have O:=h.t1 i oG;by_cases e:j=k
  .subst e;rw[ai];omega
  .rw[aA _ _ e];exact h.t2 i j J oG
 .by_cases e:j=k
  .subst e;rw[ai];rw[hx] at hy;cases hy;exact hp
  .rw[aA _ _ e];exact h.mt j y hy oG
theorem Ei{α β:Type}{f g:α->List β}:∀ {l:List α},(∀ x∈l,f x=g x)->l.flatMap f=l.flatMap g
 |[],_=>rfl
 |x::l,h=>by rw[List.flatMap_cons,List.flatMap_cons,h x oS,Ei fun y hy=>h y (by simp[hy])]
theorem Zx{l:List bn}{t:Nat->Nat}{k p:Nat}{x:bn}(hx:l[k]? =some x):mV l (up t k p) (k+1)=mV l t k++fS x p x.args.length:=by
 unfold mV;rw[List.range_succ,List.flatMap_append];congr 1
 .refine Ei fun i hi=>?_;have:i≠k:=by have:=List.mem_range.1 hi;omega
  rw[aA _ _ this]
 .simp[ai,hx,dN]
theorem abc(l:List bn)(t:Nat->Nat)(k:Nat):(mV l t k).length=k*6:=by
 unfold mV;rw[List.length_flatMap];simp[fS]
 induction k with
 |zero=>rfl
 |succ k ih=>rw[List.range_succ,List.map_append,List.sum_append,ih];simp;omega
def tO(to:List Int)(x:bn):bn:={ x with to:=if 0<=gj x then bO to x.to else x.to,a:=if x.op≠10/\0<(cT x).length then bO to x.a else x.a,b:=if x.op≠10/\1<(cT x).length then bO to x.b else x.b,args:=if aR [10,19,38] x.op then x.args.map (bO to) else x.args }
structure TV(n:Nat)(x:bn):Prop where
 to:0<=gj x->0<=x.to/\x.to<n
 a:x.op≠10/\0<(cT x).length->0<=x.a/\x.a<n
 b:x.op≠10/\1<(cT x).length->0<=x.b/\x.b<n
 args:aR [10,19,38] x.op=true->∀ r∈x.args,0<=r/\r<n
 len:x.args.length<=1000
def U4(to:List Int)(x:End):End:={ x with a:=if aR [2,7,8,9] x.kind then bO to x.a else if aR [3,6] x.kind&&decide (0<=x.a) then bO to x.a else x.a,ins:=if x.kind=5 then tO to x.ins else x.ins }
def Ks(to:List Int)(x:End):End:={ U4 to x with b:=if x.kind=8 then bO to x.b else x.b,args:=x.args.map (bO to) }
def Ji(to:List Int)(b:bp):bp:=⟨b.ins.map (tO to),Ks to b.fin⟩
def U5(f:aU)(to:List Int):aU:={ f with al:=putAt to f.al (List.replicate f.al.length 0) f.al.length,blocks:=f.blocks.map (Ji to) }
structure adC(n:Nat)(x:End):Prop where
 a:aR [2,7,8,9] x.kind=true->0<=x.a/\x.a<n
 a2:aR [3,6] x.kind=true->0<=x.a->x.a<n
 b:x.kind=8->0<=x.b/\x.b<n
 ins:x.kind=5->TV n x.ins
 args:∀ r∈x.args,0<=r/\r<n
 len:x.args.length<=100000
structure He(n:Nat)(x:bn):Prop where
 eZ:tC n x
 WX:TV n x
 eq:∀ to,bZ to x=tO to x
theorem Oy{l:List Int}{x:bn}{s:Shape}(h:rz l x s=true):s.args=5\/s.args=6\/x.args=[]:=by
 unfold rz at h;simp only[aw] at h;obtain⟨_,_,_,C,_⟩:=h;unfold uA at C;split at C
 .rename_i e;exact .inl e
 .split at C
  .rename_i e;exact .inr (.inl e)
  .refine .inr (.inr (List.length_eq_zero_iff.1 ?_));have:(x.args.length:Int)=0:=by simpa using C
   omega
theorem PL{l:List Int}{x:bn}{s:Shape}(hm:(x.op,s)∈dC\/(x.op,s)∈ek)(h:oV l x s)(ha:s.args=5\/s.args=6\/x.args=[]):He l.length x:=by
 obtain⟨h1,h2,C,J⟩:=h;unfold fF at h1 h2 C J;obtain⟨op,to,a,b,n,args⟩:=x;dsimp only at h1 h2 C J hm ha;simp only[dC,ek,List.mem_cons,bR,List.not_mem_nil,or_false] at hm;rcases hm with hm|hm
 .rcases hm with hm|hm|hm|hm|hm|hm|hm|hm|hm|hm|hm|hm|hm|hm|hm<;>obtain⟨rfl,rfl⟩:=hm<;>refine⟨⟨?_,?_,?_,?_,?_⟩,⟨?_,?_,?_,?_,?_⟩,fun q=>?_⟩<;>
   simp_all[bZ,tO,kL,cH,dC,ek,cT,gj,aR,mD,ou,mz,oq]<;>omega
 .rcases hm with hm|hm|hm|hm|hm|hm|hm|hm|hm<;>obtain⟨rfl,rfl⟩:=hm<;>refine⟨⟨?_,?_,?_,?_,?_⟩,⟨?_,?_,?_,?_,?_⟩,fun q=>?_⟩<;>
   simp_all[bZ,tO,kL,cH,dC,ek,cT,gj,aR,mD,ou,mz,oq]<;>omega
theorem Iw{x:bn}(h:qw x=true):x.args=[]:=by
 unfold qw at h;have:(x.args.length:Int)=0:=by simpa using h
 exact List.length_eq_zero_iff.1 oG
theorem Z7{f:aU}{b ahead:Int}{x:bn}{phis:Bool}(hs:∀ k∈f.bz,k≠0)(hl:x.args.length<=1000)(h:jD f b x phis ahead=true):He f.al.length x:=by
 unfold jD at h;obtain⟨op,to,a,b',n,args⟩:=x;dsimp only at h hl;split at h
 .rename_i jy;subst jy;simp only[aw,dZ] at h;have hr:=iR (l:=f.al) (r:=a) oG;have ha:=Iw h.2.2.2.2;unfold fF at hr;dsimp only at ha;subst ha;refine⟨⟨?_,?_,?_,?_,?_⟩,⟨?_,?_,?_,?_,?_⟩,fun q=>?_⟩<;>simp_all[bZ,tO,kL,cH,dC,ek,jh,cT,gj,aR,mD,ou,mz,oq]
 .split at h
  .rename_i X;subst X;simp only[aw,dZ] at h;obtain⟨h1,h2,h3⟩:=zN hs h.2.2.2;have ha:=Iw h.2.2.1;unfold fF at h1;dsimp only at ha;subst ha;clear h;refine⟨⟨?_,?_,?_,?_,?_⟩,⟨?_,?_,?_,?_,?_⟩,fun q=>?_⟩<;>simp_all[bZ,tO,kL,cH,dC,ek,jh,cT,gj,aR,mD,ou,mz,oq]
  .split at h
   .rename_i kq;subst kq;simp only[aw,dZ] at h;obtain⟨h1,h2,h3⟩:=zN hs h.2.2.2;have ha:=Iw h.2.2.1;unfold fF at h1;dsimp only at ha;subst ha;clear h;refine⟨⟨?_,?_,?_,?_,?_⟩,⟨?_,?_,?_,?_,?_⟩,fun q=>?_⟩<;>simp_all[bZ,tO,kL,cH,dC,ek,jh,cT,gj,aR,mD,ou,mz,oq]
   .split at h
    .rename_i U;subst U;simp only[aw,dZ,decide_eq_true_eq] at h;obtain⟨g1,g2,J,g4,g5,g6,g7,C⟩:=h;have hr:=qi J;have hk:cQ f.al to≠0:=fun e=>by simp[mH,e] at J
     have hA:∀ r∈args,0<=r/\r<f.al.length:=fun r O=>by
      have:cS (cQ f.al r) (cQ f.al to)=true:=by
       simp only[Bool.not_eq_true',List.any_eq_false] at C;simpa using C r O
      rw[dZ] at this;have:=iR (l:=f.al) (r:=r) (by rw[this];exact hk);unfold fF at this;exact this
     have hlen:args.length<=1000:=hl;unfold fF at hr;clear C;refine⟨⟨?_,?_,?_,?_,?_⟩,⟨?_,?_,?_,?_,?_⟩,fun q=>?_⟩<;>simp_all[bZ,tO,kL,cH,dC,ek,jh,cT,gj,aR,mD,ou,mz,oq]<;>omega
    .rw[aw] at h;cases hs:cH dC op with
     |none=>rw[hs] at h;simp at h
     |some s=>
      rw[hs] at h;exact PL (.inl (wR hs)) (BH h.2) (Oy h.2)
structure MG(n:Nat)(x:End):Prop where
 eZ:Sv n x
 WX:adC n x
 eq:∀ to,Kq to x=Ks to x
theorem PM(k:Int):aR [2,8,9,7] k=aR [2,7,8,9] k:=by
 simp only[aR,List.any_cons,List.any_nil];cases (k==2)<;>cases (k==7)<;>cases (k==8)<;>cases (k==9)<;>rfl
theorem ta{n:Nat}{x:End}(ha:aR [2,8,9,7] x.kind=true->0<=x.a/\x.a<n)(C:aR [3,6] x.kind=true->0<=x.a->x.a<n)(hb:x.kind=8->0<=x.b/\x.b<n)(hi:x.kind=5->He n x.ins)(hr:∀ r∈x.args,0<=r/\r<n)(hl:x.args.length<=100000):MG n x:=by
 refine⟨⟨ha,C,hb,fun h=>(hi h).eZ,hr,hl⟩,⟨by rw[<- PM];exact ha,C,hb,fun h=>(hi h).WX,hr,hl⟩,fun to=>?_⟩;unfold Kq Ks U4;rw[PM];by_cases h:x.kind=5
 .simp only[h,if_true];rw[(hi h).eq]
 .simp only[h,if_false]
theorem Z6{f:aU}{x:End}(hr:qg f=true)(h:mG f x=true):MG f.al.length x:=by
 unfold mG at h;rw[aw] at h;obtain⟨h,hb⟩:=h;have hb:=Rz hb;have U:∀ {r:Int},cQ f.al r≠0->0<=r/\r<f.al.length:=fun h=>iR h;obtain⟨kind,a,b,to,gX,name,ins,args,aD,others⟩:=x;simp only[fy] at h hb;by_cases h1:kind=1
 .subst h1;simp only[if_true] at h hb;have ha:args=[]:=List.length_eq_zero_iff.1 hb.2.2.2.2.2.2.1;subst ha;exact ta (by simp[aR]) (by simp[aR]) oS oS oS oS
 by_cases h2:kind=2
 .subst h2;simp only[Int.reduceEq,if_false,if_true,aw,dZ] at h hb;have ha:args=[]:=List.length_eq_zero_iff.1 hb.2.2.2.2.2.2.1;subst ha;exact ta (fun _=>U (r:=a) oG) (by simp[aR]) oS oS oS oS
 by_cases h3:kind=3
 .subst h3;simp only[Int.reduceEq,if_false,if_true] at h hb;have ha:args=[]:=List.length_eq_zero_iff.1 hb.2.2.2.2.2.2.1;subst ha;refine ta (by simp[aR]) (fun _ h0=>?_) oS oS oS oS;dsimp only at h0 ⊢;split at h
  .rename_i hc;rw[dZ] at h;exact(U (by rw[h];exact hc.1)).2
  .rw[dZ] at h;omega
 by_cases h4:kind=4
 .subst h4;simp only[Int.reduceEq,if_false,if_true] at h hb;have ha:args=[]:=List.length_eq_zero_iff.1 hb.2.2.2.2.2.2.1;subst ha;exact ta (by simp[aR]) (by simp[aR]) oS oS oS oS
 by_cases h5:kind=5
 .subst h5;simp only[Int.reduceEq,if_false,if_true,aw] at h hb;have ha:args=[]:=List.length_eq_zero_iff.1 hb.2.2.2.2.2.2.1;subst ha;refine ta (by simp[aR]) (by simp[aR]) oS (fun _=>?_) oS oS;obtain⟨J,C,_⟩:=h;dsimp only;cases hs:cH ek ins.op with
  |none=>rw[hs] at J;simp at J
  |some s=>rw[hs] at C;exact PL (.inr (wR hs)) (BH C) (Oy C)
 by_cases h6:kind=6
 .subst h6;simp only[Int.reduceEq,if_false,if_true,aw,Bool.or_eq_true,dZ,decide_eq_true_eq] at h hb;obtain⟨J,C,g3,O,g5,g6⟩:=h;refine ta (by simp[aR]) (fun _ h0=>?_) oS oS (fun r X=>ru g3 r X) oM;dsimp only at h0 ⊢;rcases O with O|O
  .omega
  .have:=qi O;unfold fF at this;omega
 by_cases h7:kind=7
 .subst h7;simp only[Int.reduceEq,if_false,if_true,aw,dZ,decide_eq_true_eq] at h hb;obtain⟨J,C,g3,O,g5⟩:=h;exact ta (fun _=>U (r:=a) oG) (by simp[aR]) oS oS (fun r X=>ru g3 r X) oM
 by_cases h8:kind=8
 .subst h8;simp only[Int.reduceEq,if_false,if_true,aw,dZ] at h hb;have ha:args=[]:=List.length_eq_zero_iff.1 hb.2.2.2.2.2.2.1;subst ha;exact ta (fun _=>U (r:=a) oG) (by simp[aR]) (fun _=>qi h.2.1) oS oS oS
 by_cases h9:kind=9
 .subst h9;simp only[Int.reduceEq,if_false,if_true,aw,dZ] at h hb;have ha:args=[]:=List.length_eq_zero_iff.1 hb.2.2.2.2.2.2.1;subst ha;refine ta (fun _=>U (r:=a) ?_) (by simp[aR]) oS oS oS oS;obtain⟨J,C,_⟩:=h;rw[C];intro e;simp[qg,e,J] at hr
 simp[h1,h2,h3,h4,h5,h6,h7,h8,h9] at h
theorem JK(s:ByteArray):∀ (n i:Nat) (r:List UInt8),s.size - i=n->ByteArray.toList.loop s i r=r.reverse++s.data.toList.drop i:=by
 intro n
 induction n with
 |zero=>
  intro i r h;unfold ByteArray.toList.loop;rw[if_neg oG,List.drop_eq_nil_of_le (by show s.data.size<=i;have:s.size=s.data.size:=rfl;omega)];simp
 |succ n ih=>
  intro i r h;unfold ByteArray.toList.loop;rw[if_pos oG,ih (i+1) _ oG];have hi:i<s.data.toList.length:=by show i<s.data.size;have:s.size=s.data.size:=rfl;omega
  have h2:i<s.data.size:=hi;rw[List.drop_eq_getElem_cons hi]
  have:s.get! i=s.data.toList[i]:=by
   show s.data[i]! =_;rw[getElem!_pos s.data i h2];rfl
  rw[this];simp
theorem Ej(s:ByteArray):s.toList=s.data.toList:=by
 unfold ByteArray.toList;rw[JK s _ 0 [] rfl];simp
theorem Sw{a b:ByteArray}(h:a.data.toList=b.data.toList):a=b:=by
 obtain⟨⟨l⟩⟩:=a;obtain⟨⟨m⟩⟩:=b;simp at h;simp[h]
theorem Wj(a b:Bool):(if a=true then true else b)=(a||b):=by cases a<;>rfl
theorem air(a b:Bool):(if a=true then b else false)=(a&&b):=by cases a<;>rfl
abbrev fZ(n:Int):Int:=IntKind.i64.wrap n
noncomputable def gF(x y:bn):Bool:= @decide (x=y) (Classical.propDecidable _)
theorem BG{x y:bn}:gF x y=true↔x=y:=by unfold gF;simp
def nK(f:aU):aU:={ f with al:=f.al.map fZ,bz:=f.bz.map fZ }
noncomputable def At(f g:aU):Bool:= @decide (nK f=nK g) (Classical.propDecidable _)
theorem IQ{f g:aU}:At f g=true↔nK f=nK g:=by unfold At;simp
theorem abf{f g:aU}(h:nK f=nK g->False):At f g=false:=by
 rw[Bool.eq_false_iff];intro e;exact h (IQ.1 e)
theorem JL{a b:ByteArray}(h:(!(a.toList==b.toList))=false):a=b:=by
 have h:a.toList=b.toList:=by simpa using h
 rw[Ej,Ej] at h;exact Sw h
theorem acH(x y:bn):gF x y=((x.op==y.op)&&((x.to==y.to)&&((x.a==y.a)&&((x.b==y.b)&&((x.n==y.n)&&decide (x.args=y.args)))))):=by
 cases x;cases y;rw[Bool.eq_iff_iff,BG];simp
theorem Pw{f:aU}(h:jV f=true):∀ b∈f.blocks,vQ b:=fun b hb=>by
 unfold jV at h;rw[aw] at h;have h:=cv.1 h.2 b hb;rw[aw] at h;obtain⟨h1,h2⟩:=h;unfold pD at h1;simp only[aw,Bool.not_eq_true',Bool.or_eq_false_iff,decide_eq_false_iff_not,Bool.and_eq_false_iff] at h1;refine⟨oG,fun x hx=>?_,oG,oG,oG⟩;have:=cv.1 h2 x hx;unfold ow at this;simp at this;omega
theorem Z5{f:aU}(h:jV f=true):∀ b∈f.blocks,∀ x∈b.ins,x.args.length<=40:=fun b hb x hx=>by
 unfold jV at h;rw[aw] at h;have h:=cv.1 h.2 b hb;rw[aw] at h;have:=cv.1 h.2 x hx;unfold ow at this;simp at this;omega
theorem XE{f:aU}(h:pA f=true):(∀ b∈f.blocks,mG f b.fin=true)/\qg f=true/\f.signals.length<=6:=by
 unfold pA at h;simp only[aw] at h;obtain⟨C,J,_,O,hR⟩:=h;unfold uX at C;simp only[aw] at C;unfold uY at J;simp only[aw,Bool.not_eq_true',decide_eq_false_iff_not] at J;refine⟨fun x hx=>?_,C.2.2.1,oG⟩;obtain⟨k,hk⟩:=fI hx;have ag:k<f.blocks.length:=(bU.1 hk).1;have:=cv.1 O k (by simpa using ag);rw[lL,getD_some hk] at this;simp only[aw] at this;exact this.1
structure Cu(f:aU):Prop where
 ok:FX f
 sig:f.signals.length<=6
 ins:∀ b∈f.blocks,∀ x∈b.ins,He f.al.length x
 ends:∀ b∈f.blocks,MG f.al.length b.fin
theorem T0{f:aU}(U:jV f=true)(h:gB f=0):Cu f:=by
 have hb:=Qm h;have J:=Kw hb;obtain⟨h1,h2,O⟩:=XE hb;refine⟨J,O,fun b C x hx=>?_,fun b C=>Z6 h2 (h1 b C)⟩;obtain⟨k,hk⟩:=fI C;obtain⟨j,hj⟩:=fI hx;refine Z7 J.bz.1 ?_ (J.right k b hk j x hj);have:=Z5 U b C x hx;omega
theorem Cu.eZ{f:aU}(h:Cu f)(hs:∀ b∈f.blocks,vQ b):JJ f f.al.length:=
 ⟨by have:=h.ok.al;omega,by have:=h.ok.bz.2;omega,by have:=h.sig;omega,by have:=h.ok.qZ;omega,hs,fun b hb x hx=>(h.ins b hb x hx).eZ,fun b hb=>(h.ends b hb).eZ⟩
def Ru(x:End)(h:D):List D:=[U8 x.kind,I x.a,I x.b,I x.to,I x.gX,S x.name,U8 x.ins.op,I x.ins.to,I x.ins.a,I x.ins.b,I x.ins.n,az x.ins.args,az x.args,h,I x.others]
def vm:List D:=[.z,U8 0,I 0,I 0,I 0,I 0,S ⟨#[]⟩,U8 0,I 0,I 0,I 0,I 0,.z,.z,.z,I 0]
end Go.Argus
namespace Go.Proofs.Tryz.K
theorem TU{l:List Int}{g:FuncId}{fs cs:List D}{p:Int->Int}(hl:l.length<=1000000)(ht:Tr (.fn (.func g) fs cs))(hg:∀ x∈l,aG prog g (fs++[I x]++cs) (I (p x))):gC prog 106 [az l,.fn (.func g) fs cs] ((l.map p).map I) l.length 3:=by
 refine sF TD (.cons (cC _) (.cons ht .nil)) (.map fun _=>.s _) ?_;rw[TE];refine ws ?_;refine SS ?_;refine aa (aI ?_);refine SS ?_;refine aa ⟨_,.mE _ _ _ 5 3 rfl,aX (aI ?_)⟩;refine aJ ?_
 refine aa (c6 (fun s=>∃ r m nx,aC prog s ⟨ay [(5,.rs r 0 l.length)],m,nx⟩/\m r=some (.cells ((l.map p).map I) 3)) (cZ (α:=Nat×Nat×Mem×Nat)
  (fun s=>⟨ay [(1,.fn (.func g) fs cs),(5,.rs s.2.1 0 s.1),(8,az l),(9,I l.length),(10,I s.1)],s.2.2.1,s.2.2.2⟩)
  (fun s=>s.1<=l.length/\s.2.1<s.2.2.2/\s.2.2.1 s.2.1=some (.cells (((l.take s.1).map p).map I) 3)) (fun s=>l.length - s.1) (0,_,_,_)
  (ao eH) ⟨Nat.zero_le _,Nat.lt_succ_self _,rfl⟩ ?_) ?_)
 .rintro⟨j,r,m,nx⟩ ⟨hj,hr,af⟩;dsimp only at hj hr af ⊢;refine SS ?_;refine aa ⟨_,rfl,fun h=>?_,fun h=>?_⟩
  .have O:j<l.length:=by simpa using h
   have hx:l[j]? =some l[j]:=by simp[O]
   have J:=hg l[j] (eE _)
   have C:((l.take (j+1)).map p).map I=((l.take j).map p).map I++[I (p l[j])]:=by
    rw[List.take_add_one,hx,List.map_append,List.map_append];rfl
   have U:(((l.take j).map p).map I).length=j:=by simp;omega
   generalize l[j]=x at hx J C;generalize ((l.take j).map p).map I=ds at af C U;refine ws ?_;refine aJ ?_;refine aa (fv ?_);refine J17 ?_;refine J47 ?_;refine SS ?_;refine cl J ?_;refine aJ ?_;refine aa ?_;refine ab ?_;refine aa (bQ (j+1,nx+1,_,_) (ao eH) ⟨oM,oM,?_⟩ oM);dsimp only;rw[C];exact ai _ _ _
  .have X:¬ j<l.length:=by simpa using h
   have:j=l.length:=by omega
   subst this;rw[List.take_length] at af;exact⟨r,m,nx,ao eH,af⟩
 .rintro s ⟨r,m,nx,hg,af⟩;refine⟨_,hg,ap ?_⟩;refine J17 ?_;refine SS ?_;refine aa (aN rfl ⟨r,rfl,af⟩)
theorem adB{x:bn}{to:List Int}(hx:tC to.length x):dB prog 105 [.agg (bc x),az to] (fun _=>none) 0 fun d m n=>∃ sh,d=.agg (fS (bZ to x) 4 x.args.length)/\m=up (cq [(0,.cells (fS (bZ to x) 4 x.args.length) 45),(2,.cells jK 45),(3,.cells (dA sh) 235),(4,.cells ((bZ to x).args.map I) 3)]) 2 (some (.cells (fS (bZ to x) 4 x.args.length) 45))/\n=5:=by
 have kT:∀ {r:Int},0<=r/\r<to.length->∃ k:Nat,∃ v,r=k/\to[k]? =some v/\bO to r=v:=fun {r} h=>by
  obtain⟨k,rfl⟩:=gd h.1;exact⟨k,_,rfl,bx oG,by simp[bO,dN,bx (show k<to.length by omega)]⟩
 refine lF TH ?_;rw[TI];refine aI ?_;refine ab ?_;refine J21 ?_;refine aa ⟨_,uC (i:=1) (cs:=[az to]) (e:=35) rfl (l:=[(2,.rp 0 0),(3,.pt [az to]),(4,.rp 2 0)]) eH (ml:=[(0,.cells (bc x) 45),(2,.cells jK 45)]) eH,ap ?_⟩;refine cl Mj ?_;refine bV ?_;refine er ?_;have kg:fV prog 91 true (eu (.int .u8 x.op) (kM dC))=.aT [.agg (dA ((cH dC x.op).getD jh)),.s (.bool (cH dC x.op).isSome)]:=FU rfl _ _ (by rw[yo];unfold lO;rw[yp,yq];rfl);have wF:=zK (P:=prog) (kt:=5) u5 dC;refine jx ?_;refine J21 ?_;refine ab ?_;refine aa ?_;refine cL (fun s=>aC prog s ⟨ay [(2,.rp 0 0),(3,.pt [az to]),(4,.rp 2 0),(7,.rp 3 0)],cq [(0,.cells (bc x) 45),(2,.cells jK 45),(3,.cells (dA ((cH dC x.op).getD ((cH ek x.op).getD jh))) 235)],4⟩) ?_ ?_
 .refine ws ?_;refine ab ?_;refine aa (aE rfl (fun hp=>gq ?_) fun hp=>bJ ?_)
  .have hn:cH dC x.op=none:=by simpa using hp
   have kg:fV prog 91 false (eu (.int .u8 x.op) (kM ek))=.agg (dA ((cH ek x.op).getD jh)):=Rr rfl _ _ (by rw[yo];unfold lO;rw[yp,yq];rfl);have wF:=zK (P:=prog) (kt:=5) u5 ek;rw[hn];refine bV ?_;exact aa (bY eH eH)
  .obtain⟨s,hs⟩:∃ s,cH dC x.op=some s:=Option.isSome_iff_exists.1 (by simpa using hp);rw[hs];exact bY eH eH
 rintro s J;refine⟨_,J,?_⟩;clear J kg wF;refine cL (fun s=>aC prog s ⟨ay [(2,.rp 0 0),(3,.pt [az to]),(4,.rp 2 0),(7,.rp 3 0)],cq [(0,.cells (bc x) 45),(2,.cells jK 45),(3,.cells (dA (kL x)) 235)],4⟩) ?_ ?_
 .refine ws ?_;refine ab ?_;refine aa (ot (aX (ap ?_)));refine ab ?_;unfold kL;generalize (cH dC x.op).getD ((cH ek x.op).getD jh)=s;refine aa (dP rfl (fun jy=>?_) fun jy=>?_)
  .have jy:x.op=16:=by simpa using jy
   rw[if_pos (.inl jy)];refine eF (aE rfl (fun _=>iQ ?_) fun h=>by simp[jy] at h);refine ab ?_;exact aa (bY eH eH)
  have jy:¬ x.op=16:=by simpa using jy
  refine ws ?_;refine ab ?_;refine aa (aE rfl (fun kq=>iQ ?_) fun kq=>?_)
  .have kq:x.op=18:=by simpa using kq
   rw[if_pos (.inr kq)];refine ab ?_;exact aa (bY eH eH)
  have kq:¬ x.op=18:=by simpa using kq
  rw[if_neg oG];refine ws ?_;refine ab ?_;refine aa (aE rfl (fun X=>iQ ?_) fun X=>?_)
  .have X:x.op=17:=by simpa using X
   rw[if_pos X];refine ab ?_;exact aa (bY eH eH)
  have X:¬ x.op=17:=by simpa using X
  rw[if_neg X];refine ws ?_;refine ab ?_;refine aa (aE rfl (fun U=>iQ ?_) fun U=>sU ?_)
  .have U:x.op=19:=by simpa using U
   rw[if_pos U];refine bj ?_;exact aa (bY eH eH)
  have U:¬ x.op=19:=by simpa using U
  rw[if_neg U];exact bY eH eH
 rintro s J;refine⟨_,J,?_⟩;clear J;obtain⟨h1,h2,h3,h4,h5⟩:=hx;unfold bZ;generalize kL x=s at*
 obtain⟨op,uh,xa,xb,O,C⟩:=x;dsimp only at h1 h2 h3 h4 h5 ⊢;refine cL (fun q=>aC prog q ⟨ay [(2,.rp 0 0),(3,.pt [az to]),(4,.rp 2 0),(7,.rp 3 0)],cq [(0,.cells (bc ⟨op,if s.to≠0 then bO to uh else uh,xa,xb,O,C⟩) 45),(2,.cells jK 45),(3,.cells (dA s) 235)],4⟩) ?_ ?_
 .refine ws ?_;refine aJ ?_;refine aa (aE rfl (fun hp=>gq ?_) fun hp=>bJ ?_)
  .have hp:s.to≠0:=by simpa using hp
   obtain⟨k,v,rfl,hv,e⟩:=kT (h1 hp);rw[if_pos hp,e];refine jx ?_;exact aa (bY eH eH)
  .have hp:¬ s.to≠0:=by simpa using hp
   rw[if_neg hp];exact bY eH eH
 rintro q J;refine⟨_,J,?_⟩;clear J;generalize (if s.to≠0 then bO to uh else uh)=y1;refine cL (fun q=>aC prog q ⟨ay [(2,.rp 0 0),(3,.pt [az to]),(4,.rp 2 0),(7,.rp 3 0)],cq [(0,.cells (bc ⟨op,y1,if s.a≠0 then bO to xa else xa,xb,O,C⟩) 45),(2,.cells jK 45),(3,.cells (dA s) 235)],4⟩) ?_ ?_
 .refine ws ?_;refine aJ ?_;refine aa (aE rfl (fun hp=>gq ?_) fun hp=>bJ ?_)
  .have hp:s.a≠0:=by simpa using hp
   obtain⟨k,v,rfl,hv,e⟩:=kT (h2 hp);rw[if_pos hp,e];refine jx ?_;exact aa (bY eH eH)
  .have hp:¬ s.a≠0:=by simpa using hp
   rw[if_neg hp];exact bY eH eH
 rintro q J;refine⟨_,J,?_⟩;clear J;generalize (if s.a≠0 then bO to xa else xa)=y2;refine cL (fun q=>aC prog q ⟨ay [(2,.rp 0 0),(3,.pt [az to]),(4,.rp 2 0),(7,.rp 3 0)],cq [(0,.cells (bc ⟨op,y1,y2,if s.b≠0 then bO to xb else xb,O,C⟩) 45),(2,.cells jK 45),(3,.cells (dA s) 235)],4⟩) ?_ ?_
 .refine ws ?_;refine aJ ?_;refine aa (aE rfl (fun hp=>gq ?_) fun hp=>bJ ?_)
  .have hp:s.b≠0:=by simpa using hp
   obtain⟨k,v,rfl,hv,e⟩:=kT (h3 hp);rw[if_pos hp,e];refine jx ?_;exact aa (bY eH eH)
  .have hp:¬ s.b≠0:=by simpa using hp
   rw[if_neg hp];exact bY eH eH
 rintro q J;refine⟨_,J,?_⟩;clear J;generalize (if s.b≠0 then bO to xb else xb)=y3;have pS:=TU (l:=C) (g:=181) (fs:=[]) (cs:=[.pt [az to]]) (p:=bO to) oG (.fn oS (.cons (.pt (.cons (cC _) .nil)) .nil)) (fun r hr=>UW (h4 r hr));refine aI ?_;refine aJ ?_;refine rP pS rfl aO ?_;refine SS ?_;refine bD (di (d:=.rs _ _ _) (cs':=fS ⟨op,y1,y2,y3,O,C.map (bO to)⟩ 4 C.length) rfl rfl rfl rfl rfl) aO (bN t35 qX ⟨rfl,bf rfl⟩ rfl) ?_;refine aa ⟨_,(bY (l:=[(2,.rp 0 0),(4,.rp 2 0)]) (ml:=[(0,.cells (fS ⟨op,y1,y2,y3,O,C.map (bO to)⟩ 4 C.length) 45),(2,.cells jK 45),(3,.cells (dA s) 235),(4,.cells ((C.map (bO to)).map I) 3)]) eH eH),ap ?_⟩;refine au (dI (vs:=fS ⟨op,y1,y2,y3,O,C.map (bO to)⟩ 4 C.length) rfl rfl ui jS rfl) aO (dJ t45 jS (bf rfl)) ?_;refine bD (eI (cs':=fS ⟨op,y1,y2,y3,O,C.map (bO to)⟩ 4 C.length) rfl rfl rfl rfl) aO (bN t45 jS ⟨rfl,bf rfl⟩ rfl) ?_;exact aa (lh (iM (cs:=fS ⟨op,y1,y2,y3,O,C.map (bO to)⟩ 4 C.length) (vs:=fS ⟨op,y1,y2,y3,O,C.map (bO to)⟩ 4 C.length) rfl rfl ui jS rfl t45 (bf rfl)) ⟨s,rfl,rfl,rfl⟩)
theorem abb(s:Shape):∀ d∈dA s,Tr d:=fun d hd=>by
 simp only[dA,List.mem_cons,List.not_mem_nil,or_false] at hd;rcases hd with rfl|rfl|rfl|rfl|rfl|rfl|rfl|rfl<;>exact .s _
theorem afm{x:bn}{to:List Int}{m:Mem}{nx:Nat}(hx:tC to.length x):dB prog 105 [.agg (bc x),az to] m nx fun d m' an=>d=.agg (fS (bZ to x) (4+nx) x.args.length)/\m' (4+nx)=some (.cells ((bZ to x).args.map I) 3)/\an=nx+5/\∀ k,k<nx->m' k=m k:=by
 refine YY (adB hx) (.cons (.agg (ky _)) (.cons (cC _) .nil)) ?_;rintro d J n0 ⟨C,rfl,rfl,rfl⟩;refine⟨fun k=>.agg (fS (bZ to x) (4+k) x.args.length),fun i=>match i with|0=>some (.cells (fS (bZ to x) (4+nx) x.args.length) 45)|2=>some (.cells (fS (bZ to x) (4+nx) x.args.length) 45)|3=>some (.cells (dA C) 235)|4=>some (.cells ((bZ to x).args.map I) 3)|_=>none,.agg (Jh _ _ _),fun i=>?_,rfl,?_,rfl,fun k hk=>if_pos hk⟩
 .match i with
  |0=>exact⟨_,⟨_,_,_,rfl,Jh _ _ _,fun _=>rfl⟩,rfl⟩
  |1=>exact rfl
  |2=>exact⟨_,⟨_,_,_,rfl,Jh _ _ _,fun _=>rfl⟩,rfl⟩
  |3=>exact⟨_,⟨_,_,_,rfl,Kr (abb _),fun _=>rfl⟩,rfl⟩
  |4=>exact⟨_,⟨_,_,_,rfl,Kr (fun d hd=>by obtain⟨_,_,rfl⟩:=List.mem_map.1 hd;exact .s _),fun _=>rfl⟩,rfl⟩
  |n+5=>exact rfl
 .show(if 4+nx<nx then _ else _)=_;rw[if_neg oG,Nat.add_sub_cancel];rfl
theorem afn{x:bn}{to:List Int}{m:Mem}{nx:Nat}(hx:tC to.length x):dB prog 104 [.agg (bc x),.pt [az to]] m nx fun d m' an=>∃ t,nx<=t/\t<an/\d=.agg (fS (bZ to x) t x.args.length)/\m' t=some (.cells ((bZ to x).args.map I) 3)/\∀ k,k<nx->m' k=m k:=by
 refine lF TJ ?_;rw[TK];refine ws ?_;refine SS ?_;refine J21 ?_;refine er ?_;have af:∀ {a},up (up m nx (some (.cells (bc x) 45))) (nx+1) a nx=some (.cells (bc x) 45):=ah oG (ai _ _ _);refine au (dI (vs:=bc _) rfl af V.h V.h rfl) ak (dJ V.h V.h (by first|(simp;done)|omega|exact bf rfl)) ?_;refine SS ?_;refine fU (afm hx) rfl aO ?_;rintro d M n' ⟨rfl,h1,rfl,h2⟩;dsimp only[St.put];refine bD (eI (cs':=fS (bZ to x) (4+(nx+1+1)) x.args.length) rfl rfl ((h2 (nx+1) oG).trans (ai _ _ _)) rfl) aO (bN t45 jS ⟨rfl,bf rfl⟩ rfl) ?_;exact aa (lh (iM (cs:=fS (bZ to x) (4+(nx+1+1)) x.args.length) (vs:=fS (bZ to x) (4+(nx+1+1)) x.args.length) rfl (ai _ _ _) ui jS rfl t45 (bf rfl)) ⟨4+(nx+1+1),oG,oM,rfl,ah oG h1,fun k hk=>ah oG ((h2 k oG).trans (ah oG (ah oG rfl)))⟩)
end Go.Proofs.Tryz.K
namespace Go.Proofs.Tryz.K
theorem afo{l:List bn}{to:List Int}{O:Mem}{C:Nat}(hl:l.length<=100000)(hg:∀ x∈l,tC to.length x):dB prog 103 [fg l,.fn (.func 104) [] [.pt [az to]]] O C fun d m' an=>∃ r t,C<=r/\r<an/\d=.rs r 0 l.length/\m' r=some (.cells (mV (l.map (bZ to)) t l.length) 45)/\TR m' C r (l.map (bZ to)) t l.length/\∀ k,k<C->m' k=O k:=by
 refine lF TF ?_;rw[TG];refine ws ?_;refine SS ?_;refine aa (aI ?_);refine SS ?_;refine aa ⟨_,.mE _ _ _ 5 45 rfl,aX (aI ?_)⟩;refine aJ ?_
 refine aa (c6 (fun st=>∃ r t m nx,C<=r/\r<nx/\m r=some (.cells (mV (l.map (bZ to)) t l.length) 45)/\TR m C r (l.map (bZ to)) t l.length/\(∀ k,k<C->m k=O k)/\aC prog st ⟨ay [(5,.rs r 0 l.length)],m,nx⟩) (cZ (α:=Nat×Nat×(Nat->Nat)×Mem×Nat)
  (fun s=>⟨ay [(1,.fn (.func 104) [] [.pt [az to]]),(5,.rs s.2.1 0 s.1),(8,fg l),(9,I l.length),(10,I s.1)],s.2.2.2.1,s.2.2.2.2⟩)
  (fun s=>s.1<=l.length/\C<=s.2.1/\s.2.1<s.2.2.2.2/\s.2.2.2.1 s.2.1=some (.cells (mV (l.map (bZ to)) s.2.2.1 s.1) 45)/\TR s.2.2.2.1 C s.2.1 (l.map (bZ to)) s.2.2.1 s.1/\∀ k,k<C->s.2.2.2.1 k=O k) (fun s=>l.length - s.1) (0,C,fun _=>0,_,_)
  (ao eH) ⟨Nat.zero_le _,a6 _,Nat.lt_succ_self _,ai _ _ _,TR.zero,fun k hk=>aA _ _ oG⟩ ?_) ?_)
 .rintro⟨j,r,t,m,nx⟩ ⟨hj,U,hr,af,J,hm⟩;dsimp only at hj U hr af J hm ⊢;refine SS ?_;refine aa ⟨_,rfl,fun h=>?_,fun h=>?_⟩
  .have c8:j<l.length:=by simpa using h
   clear h;obtain⟨x,hx⟩:∃ x,l[j]? =some x:=⟨_,bx c8⟩
   have hS:=hg x (cX hx);have kX:=abc (l.map (bZ to)) t j;have X:(l.map (bZ to))[j]? =some (bZ to x):=by rw[List.getElem?_map,hx];rfl
   have HK:(bZ to x).args.length=x.args.length:=by simp[bZ]
   refine ws ?_;refine J55 ?_;refine J35 ?_;refine J21 ?_;refine J88 ?_;refine aa (fv ?_);refine J17 ?_;refine J47 ?_;refine ajF ?_;refine fU (afn hS) rfl aO ?_;rintro d M an ⟨p,h1,h2,rfl,h4,h6⟩;dsimp only[St.put];refine SS ?_;have Nw:M r=some (.cells (mV (l.map (bZ to)) t j) 45):=(h6 r oG).trans (ah oG (ah oG af));have hM:∀ k,k<nx->M k=m k:=fun k hk=>(h6 k oG).trans ((aA _ _ oG).trans (aA _ _ oG));refine lZ (lN rfl (ah oG Nw) rfl Np jS (sT (ai _ _ _) rfl) rfl) aO ⟨Mi,rfl,bf rfl,oC,by rw[kX];omega,by unfold maxLen;omega,by rw[Nq];omega,by simp;omega⟩ ?_;refine SS ?_;refine aa ?_;refine ab ?_;refine aa (bQ (j+1,an+1,up t j p,_,_) (ao eH) ⟨oM,oM,Nat.lt_succ_self _,?_,?_,?_⟩ oM)
   .dsimp only;rw[Zx X,HK];exact ai _ _ _
   .dsimp only;refine TR.snoc (hi:=r) (J.mono (fun i h7 h8=>?_) (a6 _)) X oG oG oG ?_
    .exact(aA _ _ oG).trans ((aA _ _ oG).trans ((aA _ _ oG).trans (hM i oG)))
    .exact ah oG (ah oG (ah oG h4))
   .intro k hk;dsimp only;exact(aA _ _ oG).trans ((aA _ _ oG).trans ((aA _ _ oG).trans ((hM k oG).trans (hm k hk))))
  .have bC:¬ j<l.length:=by simpa using h
   have:j=l.length:=by omega
   subst this;exact⟨r,t,m,nx,U,hr,af,J,hm,ao eH⟩
 .rintro st ⟨r,t,m,nx,U,hr,af,J,hm,bh⟩;refine⟨_,bh,ap ?_⟩;refine J17 ?_;refine SS ?_;exact aa (aN rfl ⟨r,t,U,hr,rfl,af,J,hm⟩)
end Go.Proofs.Tryz.K
end
namespace Go.Proofs.Tryz.K
open Go.Abs
theorem abe:cb (Z pG 6)=some []:=kr
theorem aiq:pG=(S1 (G1 pG 0) (S1 (S1 (G1 pG 1) (C1 10 (S1 (G1 pG 2) .ret) K1)) (S1 (S1 (G1 pG 3) (B1 0 (.loop (S1 (S1 (G1 pG 4) (C1 14 K1 (X1 0))) (S1 (B1 1 (S1 (G2 pG 6) (C1 25 (S1 (G1 pG 7) .ret) K1))) (G1 pG 5)))))) (S1 (G1 pG 8) .ret)))):=kr
end Go.Proofs.Tryz.K
section
open Go Go.Abs Go.Proofs Go.Argus
namespace Go.Proofs.Tryz.K
theorem Bf{a b:List Int}:aG prog 87 [az a,az b] (B (decide (a=b))):=by
 have J:∀ x∈[az a,az b],Tr x:=.cons (cC _) (.cons (cC _) .nil);refine qb U6.he J fun O=>?_;have hlen:=(O (az a) oS).sl.1;unfold maxLen at hlen;refine bK U6 J (Tr.s _) ?_;rw[aiq];refine ws ?_;refine SS ?_;refine aa (aX (ap ?_));refine bV ?_;refine aa (dP rfl (fun h=>?_) fun h=>eF (aX (aI ?_)))
 .refine aX (ap ?_);refine SS ?_;refine aa (hZ (aN (d:=B false) rfl ?_));have C:a≠b:=fun e=>by subst e;simp at h
  rw[decide_eq_false C]
 have je:a.length=b.length:=by
  have:¬ ((a.length:Int)≠(b.length:Int)):=by simpa using h
  omega
 clear h;refine SS ?_
 refine aa (c6 (fun s=>aC prog s ⟨ay [],fun _=>none,0⟩/\a=b) (rN (α:=Nat) (fun k=>⟨ay [(0,az a),(1,az b),(5,I k)],fun _=>none,0⟩)
  (fun k=>k<=a.length/\∀ j,j<k->a[j]? =b[j]?) (fun k=>a.length - k) 0 (ao eH) ⟨oG,fun j hj=>by omega⟩ ?_) ?_)
 .rintro k ⟨hk,hinv⟩;refine bj ?_;refine aa ⟨_,rfl,fun h=>?_,fun h=>?_⟩
  .have ag:k<a.length:=by simpa using h
   have hx:a[k]? =some a[k]:=bx ag;have hy:b[k]? =some b[k]:=bx oG;generalize a[k]=x at hx;generalize b[k]=y at hy;refine gZ abe ?_;refine bI ?_;refine cG cP (aE rfl (fun hp=>?_) fun hp=>?_)
   .refine ws ?_;refine SS ?_;refine aa (cM (fC (cw (aN (d:=B false) rfl ?_))))
    have C:a≠b:=fun e=>by
     subst e;rw[hx] at hy;cases hy;simp at hp
    rw[decide_eq_false C]
   .refine ig ?_;refine aJ ?_;refine aa (bQ (k+1) (ao eH) ⟨oG,fun j hj=>?_⟩ oG);by_cases e:j=k
    .subst e;rw[hx,hy];congr 1;simpa using hp
    .exact hinv j oG
  .have X:¬ k<a.length:=by simpa using h
   refine⟨iP (l:=[]) trivial,List.ext_getElem? fun j=>?_⟩;by_cases hj:j<k
   .exact hinv j hj
   .rw[List.getElem?_eq_none oG,List.getElem?_eq_none oG]
 .rintro s ⟨hg,U⟩;refine⟨_,hg,ap ?_⟩;refine SS ?_;refine aa (aN (d:=B true) rfl ?_);rw[decide_eq_true U]
theorem GY{l:List Int}(hl:l.length<=1000000):aG prog 114 [ej l] (az (l.map fZ)):=by
 refine bK afr (.cons (nv l) .nil) (cC _) ?_;rw[afs];refine ws ?_;refine SS ?_;refine aa (aI ?_);refine SS ?_;refine aa ⟨_,.mE _ _ _ 3 3 rfl,aX (aI ?_)⟩;refine SS ?_
 refine aa (c6 (fun s=>∃ r nx,aC prog s ⟨ay [(3,.rs r 0 l.length)],cq [(r,.cells ((l.map fZ).map I) 3)],nx⟩) (rN (α:=Nat×Nat×Nat)
  (fun s=>⟨ay [(0,ej l),(3,.rs s.2.1 0 s.1),(4,I s.1)],cq [(s.2.1,.cells (((l.take s.1).map fZ).map I) 3)],s.2.2⟩)
  (fun s=>s.1<=l.length/\s.2.1<s.2.2) (fun s=>l.length - s.1) (0,0,1)
  (bY eH eH) ⟨Nat.zero_le _,oC⟩ ?_) ?_)
 .rintro⟨k,r,nx⟩ ⟨hk,hr⟩;dsimp only at hk hr ⊢;refine bj ?_;refine aa ⟨_,rfl,fun h=>?_,fun h=>?_⟩
  .have ag:k<l.length:=by simpa using h
   clear h;obtain⟨x,hx⟩:∃ x,l[k]? =some x:=⟨_,bx ag⟩
   have C:(l.take (k+1)).map fZ=(l.take k).map fZ++[fZ x]:=by rw[List.take_add_one,hx,List.map_append];rfl
   have J:((l.take k).map fZ).length=k:=by simp;omega
   generalize (l.take k).map fZ=cs at*
   have af:cq [(r,Row.cells (cs.map I) 3)] r=some (.cells (cs.map I) 3):=by simp[cq]
   refine lJ ?_;refine bI ?_;refine aa ?_;show aj _ _ _ _ _ _ _ _ _;refine aJ ?_;refine aa (bQ (k+1,nx+1,nx+1+1) ?_ ⟨oM,oM⟩ oM);dsimp only;rw[C];refine bY eH ⟨(ai _ _ _).trans ?_,trivial⟩;simp;rfl
  .have O:¬ k<l.length:=by simpa using h
   have:k=l.length:=by omega
   subst this;rw[List.take_length];exact⟨r,nx,ao eH⟩
 .rintro s ⟨r,nx,hg⟩;refine⟨_,hg,aI ?_⟩;refine ab ?_;refine aa (ca (mv (i:=r) (cs:=(l.map fZ).map I) (e:=3) (by simp[cq]) (l:=[(2,az (l.map fZ))]) ⟨?_,trivial⟩) (aN rfl rfl));exact(zq (by rw[c3];simp)).trans oS
theorem U7{x y:bn}:aG prog 115 [.agg (bc x),.agg (bc y)] (B (gF x y)):=by
 refine bK aft (.cons (.agg (ky x)) (.cons (.agg (ky y)) .nil)) (Tr.s _) ?_;rw[afu];refine aI ?_;refine aJ ?_;refine aa (ca (dX [(0,bc x,45),(1,bc y,45)] eH (l:=[(2,.pt (bc x)),(3,.pt (bc y))]) eH) (ap ?_));refine bI ?_;refine bI ?_;refine bI ?_;refine bI ?_;refine ab ?_;refine gc Bf ?_;refine ab ?_;refine aa (aN rfl ?_);show B _=B _;congr 1;rw[acH];simp only[air,Bool.and_assoc]
theorem acI(w v:gr):nN (dQ w) (dQ v)=some ([.string w.name,.int .i64 w.to],[.string v.name,.int .i64 v.to]):=rfl
theorem ais:xI prog 82=some [2,0]:=kr
theorem ait:prog.eqGuardType prog.depth 82=false:=kr
noncomputable def xU(w v:gr):Bool:= @decide (w=v) (Classical.propDecidable _)
theorem abg(w v:gr):gM [.string w.name,.int .i64 w.to] [.string v.name,.int .i64 v.to]=xU w v:=by
 rw[Bool.eq_iff_iff];unfold xU;cases w with|mk a b=>cases v with|mk c d=>
 simp only[gM,pN,Bool.and_true,aw,beq_iff_eq,decide_eq_true_eq,gr.mk.injEq,true_and,beq_self_eq_true];constructor
 .rintro⟨h,rfl⟩;exact⟨Sw h,rfl⟩
 .rintro⟨rfl,rfl⟩;exact⟨rfl,rfl⟩
theorem HL{f g:aU}(h1:f.al.length<=1000000)(h2:f.bz.length<=1000000)(h3:g.al.length<=1000000)(h4:g.bz.length<=1000000):aG prog 52 [.agg (aF f),.agg (aF g)] (B (At f g)):=by
 have ka:=GY h1;have kb:=GY h3;have kc:=GY h2;have Wl:=GY h4;have kab:=Bf (a:=f.al.map fZ) (b:=g.al.map fZ);have kcd:=Bf (a:=f.bz.map fZ) (b:=g.bz.map fZ);refine qb U9.he (.cons (.agg (nz f)) (.cons (.agg (nz g)) .nil)) fun gH=>?_;refine bK U9 (.cons (.agg (nz f)) (.cons (.agg (nz g)) .nil)) (Tr.s _) ?_;rw[aiu];have pY:=abf (f:=f) (g:=g);have U:nK f=nK g->At f g=true:=IQ.2
 have o7:f.name=g.name->f.iter=g.iter->f.args=g.args->f.result=g.result->f.al.map fZ=g.al.map fZ->f.bz.map fZ=g.bz.map fZ->f.signals=g.signals->f.blocks=g.blocks->nK f=nK g:=fun a b c d e x y zQ=>by
  unfold nK;rw[e,x];cases f;cases g;simp_all
 have pq:nK f=nK g->f.name=g.name/\f.iter=g.iter/\f.args=g.args/\f.result=g.result/\f.al.map fZ=g.al.map fZ/\f.bz.map fZ=g.bz.map fZ/\f.signals=g.signals/\f.blocks=g.blocks:=fun e=>by
  unfold nK at e;simp only[aU.mk.injEq] at e;exact e
 generalize At f g=sb at*
 refine aI ?_;refine aJ ?_;refine aa (ca (dX [(0,aF f,26),(1,aF g,26)] eH (l:=[(2,.pt (aF f)),(3,.pt (aF g))]) eH) (aX (gZ abh ?_)));refine dc ?_;refine ab ?_;refine bS rfl rfl (ade rfl rfl) (fun hc=>⟨ak,V.h⟩) ?_;refine bI ?_;refine bI ?_;refine xF rfl rfl rfl (fun hc=>⟨(by repeat' (first|exact trivial|exact hc|exact rfl|refine And.intro ?_ ?_)),ka⟩) ?_;refine ab ?_;refine xF rfl rfl rfl (fun hc=>⟨(by repeat' (first|exact trivial|exact hc|exact rfl|refine And.intro ?_ ?_)),kb⟩) ?_;refine gc Bf ?_;refine bV ?_;refine xF rfl rfl rfl (fun hc=>⟨(by repeat' (first|exact trivial|exact hc|exact rfl|refine And.intro ?_ ?_)),kc⟩) ?_;refine ab ?_;refine xF rfl rfl rfl (fun hc=>⟨(by repeat' (first|exact trivial|exact hc|exact rfl|refine And.intro ?_ ?_)),Wl⟩) ?_;refine gc Bf ?_;refine bI ?_;refine bI ?_;refine ab ?_;refine cG cP (dP rfl (fun h=>?_) fun h=>eF (aX (aI ?_)))
 .refine aX (ap ?_);refine SS ?_;refine aa (hZ (aN (d:=B false) rfl ?_));rw[pY fun e=>?_];obtain⟨e1,e2,e3,e4,e5,e6,e7,e8⟩:=pq e;revert h;rw[e1,e2,e3,e4,e5,e6,e7,e8];simp
 simp only[Wj,Bool.or_eq_false_iff] at h;obtain⟨⟨⟨⟨⟨⟨⟨n1,n2⟩,n3⟩,n4⟩,n5⟩,n6⟩,n7⟩,n8⟩:=h;have e1:=JL n1;have e2:f.iter=g.iter:=by simpa using n2
 have e3:f.args=g.args:=by simpa using n3
 have e4:f.result=g.result:=by simpa using n4
 have e5:f.al.map fZ=g.al.map fZ:=by simpa using n5
 have e6:f.bz.map fZ=g.bz.map fZ:=by simpa using n6
 have l7:f.signals.length=g.signals.length:=by
  have:¬ ((f.signals.length:Int)≠g.signals.length):=by simpa using n7
  omega
 have l8:f.blocks.length=g.blocks.length:=by
  have:¬ ((f.blocks.length:Int)≠g.blocks.length):=by simpa using n8
  omega
 clear n1 n2 n3 n4 n5 n6 n7 n8;have dT:=gH (.agg (aF f)) oS;have y7:=(dT.agg (iz f.signals) (by simp[aF])).sl.1;have y8:=(dT.agg (cF f.blocks) (by simp[aF])).sl;have X:=y8.1
 have aix:∀ x∈f.blocks,x.ins.length<=9223372036854775807/\x.fin.aD.length<=9223372036854775807:=fun x hx=>by
  have hm:∀ d∈bi x,Real d:=fun d hd=>y8.2 d (List.mem_flatMap.2 ⟨x,hx,hd⟩);have q1:=(hm (fg x.ins) (by simp[bi])).sl.1;have q2:=(hm (jB x.fin.aD) (by simp[bi,bE])).sl.1;unfold maxLen at q1 q2;omega
 unfold maxLen at y7 X;clear y8 dT gH ka kb kc Wl kab kcd;refine SS ?_
 refine aa (c6 (fun s=>aC prog s ⟨ay [(2,.pt (aF f)),(3,.pt (aF g))],fun _=>none,2⟩/\f.signals=g.signals) (rN (α:=Nat) (fun k=>⟨ay [(2,.pt (aF f)),(3,.pt (aF g)),(5,I k)],fun _=>none,2⟩)
  (fun k=>k<=f.signals.length/\∀ j,j<k->f.signals[j]? =g.signals[j]?) (fun k=>f.signals.length - k) 0 (ao eH) ⟨Nat.zero_le _,fun j hj=>by omega⟩ ?_) ?_)
 .rintro k ⟨hk,hinv⟩;refine bV ?_;refine aa ⟨_,rfl,fun h=>?_,fun h=>?_⟩
  .have ag:k<f.signals.length:=by simpa using h
   obtain⟨x,hx⟩:∃ x,f.signals[k]? =some x:=⟨_,bx ag⟩
   obtain⟨y,hy⟩:∃ y,g.signals[k]? =some y:=⟨_,bx oG⟩
   refine gZ abi ?_;refine bI ?_;refine ab ?_;refine cG cP (aE rfl (fun hp=>ap ?_) fun hp=>ig ?_)
   .refine SS ?_;refine aa (cM (fC (cw (aN (d:=B false) rfl ?_))));rw[pY fun e=>?_];obtain⟨_,_,_,_,_,_,e7,_⟩:=pq e;rw[e7,hy] at hx;cases hx;have hp:(!(x.toList==x.toList))=true:=hp;simp at hp
   .show aj _ _ _ _ _ _ _ _ _;refine aJ ?_;refine aa (bQ (k+1) (ao eH) ⟨oG,fun j hj=>?_⟩ oG);by_cases e:j=k
    .subst e;rw[hx,hy];congr 1;exact JL hp
    .exact hinv j oG
  .have bC:¬ k<f.signals.length:=by simpa using h
   refine⟨ao eH,List.ext_getElem? fun j=>?_⟩;by_cases hj:j<k
   .exact hinv j hj
   .rw[List.getElem?_eq_none oG,List.getElem?_eq_none oG]
 rintro s ⟨hg,e7⟩;refine⟨_,hg,aX (aI ?_)⟩;refine SS ?_
 refine aa (c6 (fun s=>(∃ nx,aC prog s ⟨ay [],fun _=>none,nx⟩)/\f.blocks=g.blocks) (rN (α:=Nat×Nat) (fun s=>⟨ay [(2,.pt (aF f)),(3,.pt (aF g)),(6,I s.1)],fun _=>none,s.2⟩)
  (fun s=>s.1<=f.blocks.length/\∀ j,j<s.1->f.blocks[j]? =g.blocks[j]?) (fun s=>f.blocks.length - s.1) (0,2) (ao eH) ⟨Nat.zero_le _,fun j hj=>by dsimp only at hj;omega⟩ ?_) ?_)
 .rintro⟨k,nx⟩ ⟨hk,hinv⟩;dsimp only at hk hinv ⊢;refine bV ?_;refine aa ⟨_,rfl,fun h=>?_,fun h=>?_⟩
  .have ag:k<f.blocks.length:=by simpa using h
   clear h;obtain⟨x,hx⟩:∃ x,f.blocks[k]? =some x:=⟨_,bx ag⟩
   obtain⟨y,hy⟩:∃ y,g.blocks[k]? =some y:=⟨_,bx oG⟩
   obtain⟨hxi,hxw⟩:=aix x (cX hx)
   have O:(x=y->False)->sb=false:=fun a8=>pY fun e=>by
    obtain⟨_,_,_,_,_,_,_,e8⟩:=pq e;rw[e8,hy] at hx;cases hx;exact a8 rfl
   refine ws ?_;refine jx ?_;refine er ?_;refine jx ?_;refine aa (aX (ap ?_));refine bV ?_;refine aa (dP rfl (fun h=>?_) fun h=>eF (aX (aI ?_)))
   .refine aX (ap ?_);refine SS ?_;refine aa (hZ (fC (cw (aN (d:=B false) rfl ?_))));rw[O fun e=>?_];subst e;simp at h
   have li:x.ins.length=y.ins.length:=by
    have:¬ ((x.ins.length:Int)≠y.ins.length):=by simpa using h
    omega
   clear h;refine SS ?_
   refine aa (c6 (fun s=>aC prog s ⟨ay [(2,.pt (aF f)),(3,.pt (aF g)),(6,I k)],fun _=>none,nx⟩/\x.ins=y.ins) (rN (α:=Nat) (fun j=>⟨ay [(2,.pt (aF f)),(3,.pt (aF g)),(6,I k),(7,fg x.ins),(8,fg y.ins),(9,I j)],fun _=>none,nx⟩)
    (fun j=>j<=x.ins.length/\∀ i,i<j->x.ins[i]? =y.ins[i]?) (fun j=>x.ins.length - j) 0 (ao eH) ⟨Nat.zero_le _,fun j hj=>by omega⟩ ?_) ?_)
   .rintro j ⟨hj,C⟩;refine bj ?_;refine aa ⟨_,rfl,fun h=>?_,fun h=>?_⟩
    .have c8:j<x.ins.length:=by simpa using h
     obtain⟨u,hu⟩:∃ u,x.ins[j]? =some u:=⟨_,bx c8⟩
     obtain⟨v,hv⟩:∃ v,y.ins[j]? =some v:=⟨_,bx oG⟩
     refine gZ Zy ?_;refine dc ?_;refine cl U7 ?_;refine SS ?_;refine cG cP (aE rfl (fun hp=>ap ?_) fun hp=>ig ?_)
     .refine SS ?_;refine aa (cM (fC (cw (fC (cw (aN (d:=B false) rfl ?_))))));rw[O fun e=>?_];subst e;rw[hv] at hu;cases hu;have hp:(!(gF u u))=true:=hp;rw[BG.2 rfl] at hp;cases hp
     .have hp:(!(gF u v))=false:=hp;show aj _ _ _ _ _ _ _ _ _;refine aJ ?_;refine aa (bQ (j+1) (ao eH) ⟨oG,fun i hi=>?_⟩ oG);by_cases e:i=j
      .subst e;rw[hu,hv];congr 1;exact BG.1 (by simpa using hp)
      .exact C i oG
    .have bC:¬ j<x.ins.length:=by simpa using h
     refine⟨ao eH,List.ext_getElem? fun i=>?_⟩;by_cases hi:i<j
     .exact C i hi
     .rw[List.getElem?_eq_none oG,List.getElem?_eq_none oG]
   rintro s ⟨hg,amu⟩;refine⟨_,hg,aI ?_⟩;refine dc ?_;refine aa (ca (mv (i:=nx) (l:=[(2,.pt (aF f)),(3,.pt (aF g)),(6,I k),(10,.pt (bE x.fin))]) (ai _ _ _) ⟨rfl,rfl,rfl,pI,trivial⟩) (aI ?_));refine dc ?_;refine aa (ca (mv (i:=nx+1) (l:=[(2,.pt (aF f)),(3,.pt (aF g)),(6,I k),(10,.pt (bE x.fin)),(11,.pt (bE y.fin))]) (ai _ _ _) ⟨rfl,rfl,rfl,rfl,pI,trivial⟩) (aX (ap ?_)));refine bI ?_;refine bI ?_;refine bI ?_;refine bI ?_;refine bI ?_;refine bS rfl rfl (RJ rfl rfl) (fun hc=>⟨ak,trivial⟩) ?_;refine dV ?_;refine gc U7 ?_;refine jx ?_;refine gc Bf ?_;refine bI ?_;refine ab ?_;refine aa (dP rfl (fun h=>?_) fun h=>eF (aI ?_))
   .refine aX (ap ?_);refine SS ?_;refine aa (hZ (fC (cw (aN (d:=B false) rfl ?_))));rw[O fun e=>?_];subst e;revert h;simp[BG.2]
   simp only[Wj,Bool.or_eq_false_iff] at h;obtain⟨⟨⟨⟨⟨⟨⟨⟨⟨m1,m2⟩,m3⟩,m4⟩,m5⟩,m6⟩,m7⟩,m8⟩,m9⟩,J⟩:=h
   have lw:x.fin.aD.length=y.fin.aD.length:=by
    have:¬ ((x.fin.aD.length:Int)≠y.fin.aD.length):=by simpa using J
    omega
   have CP:x.fin.aD=y.fin.aD->x=y:=fun hw=>by
    have q1:x.fin.kind=y.fin.kind:=by simpa using m1
    have q2:x.fin.a=y.fin.a:=by simpa using m2
    have q3:x.fin.b=y.fin.b:=by simpa using m3
    have q4:x.fin.to=y.fin.to:=by simpa using m4
    have q5:x.fin.gX=y.fin.gX:=by simpa using m5
    have q6:x.fin.others=y.fin.others:=by simpa using m6
    have q7:=JL m7;have q8:x.fin.ins=y.fin.ins:=BG.1 (by simpa using m8);have q9:x.fin.args=y.fin.args:=by simpa using m9
    rcases x with⟨xi,xf⟩
    rcases y with⟨yi,yf⟩
    cases xf;cases yf;simp_all
   clear m1 m2 m3 m4 m5 m6 m7 m8 m9 J;refine SS ?_
   refine aa (rN (α:=Nat) (fun j=>⟨ay [(2,.pt (aF f)),(3,.pt (aF g)),(6,I k),(10,.pt (bE x.fin)),(11,.pt (bE y.fin)),(12,I j)],fun _=>none,nx+1+1⟩)
    (fun j=>j<=x.fin.aD.length/\∀ i,i<j->x.fin.aD[i]? =y.fin.aD[i]?) (fun j=>x.fin.aD.length - j) 0 (ao eH) ⟨Nat.zero_le _,fun j hj=>by omega⟩ ?_)
   rintro j ⟨hj,C⟩;refine bV ?_;refine aa ⟨_,rfl,fun h=>?_,fun h=>?_⟩
   .have c8:j<x.fin.aD.length:=by simpa using h
    obtain⟨u,hu⟩:∃ u,x.fin.aD[j]? =some u:=⟨_,bx c8⟩
    obtain⟨v,hv⟩:∃ v,y.fin.aD[j]? =some v:=⟨_,bx oG⟩
    refine gZ Zz ?_;refine dc ?_;refine ab ?_;refine au (TW (c:= !(xU u v)) rfl rfl ais (acI u v) (by rw[abg])) aO ⟨rfl,ait⟩ ?_;refine cG cP (aE rfl (fun hp=>ap ?_) fun hp=>ig ?_)
    .refine SS ?_;refine aa (cM (fC (fC (cw (aN (d:=B false) rfl ?_)))));rw[O fun e=>?_];subst e;rw[hv] at hu;cases hu;have hp:(!(xU u u))=true:=hp;simp[xU] at hp
    .have hp:(!(xU u v))=false:=hp;show aj _ _ _ _ _ _ _ _ _;refine aJ ?_;refine aa (bQ (j+1) (ao eH) ⟨oG,fun i hi=>?_⟩ oG);by_cases e:i=j
     .subst e;rw[hu,hv];congr 1;simpa[xU] using hp
     .exact C i oG
   .have bC:¬ j<x.fin.aD.length:=by simpa using h
    have hxy:x=y:=CP (List.ext_getElem? fun i=>by
     by_cases hi:i<j
     .exact C i hi
     .rw[List.getElem?_eq_none oG,List.getElem?_eq_none oG])
    show aj _ _ _ _ _ _ _ _ _;refine aJ ?_;refine aa (bQ (k+1,nx+1+1) (ao eH) ⟨oM,fun i hi=>?_⟩ oM);dsimp only at hi;by_cases e:i=k
    .subst e;rw[hx,hy,hxy]
    .exact hinv i oG
  .have bC:¬ k<f.blocks.length:=by simpa using h
   refine⟨⟨nx,ao trivial⟩,List.ext_getElem? fun j=>?_⟩;by_cases hj:j<k
   .exact hinv j hj
   .rw[List.getElem?_eq_none oG,List.getElem?_eq_none oG]
 .rintro s ⟨⟨nx,hg⟩,e8⟩;refine⟨_,hg,ap ?_⟩;refine SS ?_;refine aa (aN (d:=B true) rfl ?_);rw[U (o7 e1 e2 e3 e4 e5 e6 e7 e8)]
end Go.Proofs.Tryz.K
end
