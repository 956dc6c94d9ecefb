/- Part 20. -/
import Derived.Test.YtnagfmlifobdiaaGreatDoorShareShapes4
import Derived.Test.YtnagfmlifobdiaaGreatDoorShareShapes10
import Derived.Test.YtnagfmlifobdiaaGreatDoorShareShapes18
import Derived.Test.YtnagfmlifobdiaaGreatDoorShareShapes19
import Derived.Lib.ItoaNum
import Derived.Lib.Join
set_option linter.all false
set_option maxHeartbeats 4000000
set_option maxRecDepth 10000
open List(range)
section
open Go Go.Abs Go.Proofs Go.Argus
namespace Go.Argus
open Go.Proofs.Tryz.K (nextR)
theorem iK{a b:Int}:aQ a b=true↔a=b:=by simp[aQ]
theorem Eh{l aN:List Int}{r n:Int}(hs:∀ k∈aN,k≠0)(h:nr l aN r n=true):js l r/\0<=n/\n<aN.length:=by
 unfold nr at h;rw[aB,iW] at h;obtain⟨⟨h1,h2⟩,C⟩:=h
 have J:cB aN n≠0:=by
  obtain⟨k,rfl⟩:=iG h1;have hk:k<aN.length:=by omega
  rw[ug (bc hk)];exact hs _ (di hk)
 refine⟨iY ?_,h1,oG⟩;rw[show cB l r=cB aN n by simpa using C];exact J
theorem RC{f:aK}{b ahead:Int}{x:bK}{phis:Bool}(hl:f.ag.length<=1200)(hs:∀ k∈f.aN,k≠0)(jj:f.aN.length<=60)(h:jb f b x phis ahead=true):
 rX x/\(x.op=19->(x.args.length:Int)=ahead/\phis=true/\0<b/\js f.ag x.to/\∀ r∈x.args,cB f.ag r=cB f.ag x.to/\js f.ag r):=by
 unfold jb at h;split at h
 .rename_i O;simp only[aB,iK] at h;have hr:=iY (l:=f.ag) (r:=x.a) oG;unfold js at hr;refine⟨⟨fun r h'=>?_,fun h'=>by omega,?_,fun h'=>by omega⟩,fun h'=>by omega⟩
  .simp[c6,aP,pA,O] at h';omega
  .simp[dV,aP,nN,pw,O]
 .rename_i O;split at h
  .rename_i M;simp only[aB,iK] at h;obtain⟨h1,h2,h3⟩:=Eh hs h.2.2.2;unfold js at h1;refine⟨⟨fun r h'=>?_,fun h'=>by omega,?_,fun h'=>by omega⟩,fun h'=>by omega⟩
   .simp[c6,aP,pA,sP,M] at h'
   .simp[dV,aP,nN,M];omega
  .rename_i M;split at h
   .rename_i J;simp only[aB,iK] at h;obtain⟨h1,h2,h3⟩:=Eh hs h.2.2.2;unfold js at h1;refine⟨⟨fun r h'=>?_,fun h'=>by omega,?_,fun h'=>by omega⟩,fun h'=>by omega⟩
    .simp[c6,aP,pA,J] at h';omega
    .simp[dV,aP,nN,pw,J]
   .rename_i J;split at h
    .rename_i C;simp only[aB,iK,decide_eq_true_eq] at h;obtain⟨g1,g2,U,g4,g5,g6,g7,X⟩:=h;have hr:=mZ U;have hk:cB f.ag x.to≠0:=fun e=>by simp[eU,e] at U
     refine⟨⟨fun r h'=>?_,fun h'=>by omega,?_,fun h'=>by omega⟩,fun _=>⟨g7,g1,g2,hr,fun r iD=>?_⟩⟩
     .simp[c6,aP,pA,sP,C] at h'
     .unfold js at hr;simp[dV,aP,nN,C];omega
     .have:aQ (cB f.ag r) (cB f.ag x.to)=true:=by
       simp only[Bool.not_eq_true',List.any_eq_false] at X;simpa using X r iD
      rw[iK] at this;exact⟨this,iY (by rw[this];exact hk)⟩
    .rename_i C;rw[aB] at h;cases hs:fk lB x.op with
     |none=>rw[hs] at h;simp at h
     |some s=>
      rw[hs] at h;exact⟨K2 hl (.inl (zq hs)) (LG h.2),fun h'=>absurd h' C⟩
structure Jd(f:aK)(x:End):Prop where
 fin:EL x
 wh:x.aC.length<=7
 to:∀ t∈dB x,0<=t/\t<f.blocks.length
theorem GS{f:aK}{x:End}(h:kz f x=true):x.aC.length<=7/\(∀ w∈x.aC,0<=w.to/\w.to<f.blocks.length)/\(0<=x.others->x.others<f.blocks.length):=by
 unfold kz at h;rw[aB,aB] at h;obtain⟨h1,h2,C⟩:=h;have h2:(x.aC.length:Int)<=7:=by simpa using h2
 refine⟨oG,fun w J=>?_,fun h0=>?_⟩
 .obtain⟨i,hi⟩:=dR J;have hm:(w,i)∈x.aC.zipIdx:=List.mem_zipIdx_iff_getElem?.2 hi;have:=bT.1 h1 _ hm;simp only[nX,aB,cv,iW] at this;omega
 .rw[Bool.or_eq_true] at C;rcases C with C|C
  .have:x.others= -1:=by simpa using C
   omega
  .rw[cv,iW] at C;omega
theorem UX{x:End}(h:s7 x=true):x.kind=0/\x.a=0/\x.b=0/\x.to=0/\x.fL=0/\x.others= -1/\x.args.length=0/\x.aC.length=0:=by
 simp only[s7,aB,decide_eq_true_eq] at h;omega
theorem L9{f:aK}{x:End}(hl:f.ag.length<=1200)(hr:oB f=true)(h:gB f x=true):Jd f x:=by
 have X:∀ {r:Int},js f.ag r->0<=r/\r<1200:=fun h=>by unfold js at h;omega
 unfold gB at h;rw[aB] at h;obtain⟨h,hb⟩:=h;have hb:=UX hb;have O:∀ {t:Int},cv f t=true->0<=t/\t<f.blocks.length:=fun h=>by rw[cv,iW] at h;omega
 obtain⟨kind,a,b,to,fL,name,ins,args,aC,others⟩:=x;simp only[fw] at h hb;by_cases h1:kind=1
 .subst h1;simp only[if_true] at h hb;have J:=O h;have C:aC=[]:=List.length_eq_zero_iff.1 hb.2.2.2.2.2.2.2;subst C;refine⟨⟨fun r h'=>?_,?_,oS,oS,oS⟩,oS,fun t ht=>?_⟩
  .simp[c8,aP] at h'
  .simp[fc,aP]
  .simp[dB,jk,aP] at ht;subst ht;exact J
 by_cases h2:kind=2
 .subst h2;simp only[Int.reduceEq,if_false,if_true,aB,iK] at h hb;have C:aC=[]:=List.length_eq_zero_iff.1 hb.2.2.2.2.2.2.2;subst C;have Dy:=X (iY (l:=f.ag) (r:=a) oG);have J:=O h.2.1;have Gq:=O h.2.2;refine⟨⟨fun r h'=>?_,?_,oS,oS,oS⟩,oS,fun t ht=>?_⟩
  .simp[c8,aP] at h';subst h';exact Dy
  .simp[fc,aP]
  .simp[dB,jk,aP] at ht;rcases ht with rfl|rfl
   .exact J
   .exact Gq
 by_cases h3:kind=3
 .subst h3;simp only[Int.reduceEq,if_false,if_true] at h hb;have C:aC=[]:=List.length_eq_zero_iff.1 hb.2.2.2.2.2.2.2;subst C;refine⟨⟨fun r h'=>?_,?_,oS,oS,oS⟩,oS,fun t ht=>?_⟩
  .simp[c8,aP] at h';obtain⟨h1,rfl⟩:=h';split at h
   .rename_i hc;rw[iK] at h;exact X (iY (by rw[h];exact hc.1))
   .rw[iK] at h;exact absurd h h1
  .simp[fc,aP]
  .simp[dB,aP] at ht
 by_cases h4:kind=4
 .subst h4;simp only[Int.reduceEq,if_false,if_true] at h hb;have C:aC=[]:=List.length_eq_zero_iff.1 hb.2.2.2.2.2.2.2;subst C;refine⟨⟨fun r h'=>?_,?_,oS,oS,oS⟩,oS,fun t ht=>?_⟩
  .simp[c8,aP] at h'
  .simp[fc,aP]
  .simp[dB,aP] at ht
 by_cases h5:kind=5
 .subst h5;simp only[Int.reduceEq,if_false,if_true,aB] at h hb;obtain⟨g1,g2,U,M⟩:=h;obtain⟨vB,Gr,Gs⟩:=GS M;have J:=O U
  have hi:rX ins:=by
   cases hs:fk iP ins.op with
   |none=>rw[hs] at g1;simp at g1
   |some s=>rw[hs] at g2;exact K2 hl (.inr (zq hs)) (LG g2)
  refine⟨⟨fun r h'=>?_,?_,?_,fun _=>hi.ar,oS⟩,vB,fun t ht=>?_⟩
  .simp[c8,aP] at h';exact hi.rd r h'
  .simp only[fc,if_true];exact hi.wr
  .dsimp only at vB ⊢;omega
  .simp[dB,jk,aP] at ht;rcases ht with rfl|⟨w,C,rfl⟩|⟨h0,rfl⟩
   .exact J
   .exact Gr w C
   .exact⟨h0,Gs h0⟩
 by_cases h6:kind=6
 .subst h6;simp only[Int.reduceEq,if_false,if_true,aB,Bool.or_eq_true,iK,decide_eq_true_eq] at h hb;obtain⟨g1,g2,U,M,g5,g6⟩:=h;obtain⟨vB,Gr,Gs⟩:=GS g6;have J:=O g5;have hv:=sH U;refine⟨⟨fun r h'=>?_,?_,?_,oS,fun _=>?_⟩,vB,fun t ht=>?_⟩
  .simp[c8,aP] at h';exact X (hv r h')
  .simp only[fc,aP];rcases M with M|M
   .simp[M]
   .have:=X (mZ M);simp;omega
  .dsimp only at vB ⊢;omega
  .dsimp only;omega
  .simp[dB,jk,aP] at ht;rcases ht with rfl|⟨w,C,rfl⟩|⟨h0,rfl⟩
   .exact J
   .exact Gr w C
   .exact⟨h0,Gs h0⟩
 by_cases h7:kind=7
 .subst h7;simp only[Int.reduceEq,if_false,if_true,aB,iK,decide_eq_true_eq] at h hb;obtain⟨g1,g2,U,M,g5⟩:=h;have C:aC=[]:=List.length_eq_zero_iff.1 hb.2.2.2.2.2.2.2;subst C;have J:=O g5;have hv:=sH U;have Dy:=X (iY (l:=f.ag) (r:=a) oG);refine⟨⟨fun r h'=>?_,?_,oS,oS,fun _=>?_⟩,oS,fun t ht=>?_⟩
  .simp[c8,aP] at h';exact X (hv r h')
  .simp only[fc,aP];simp;omega
  .dsimp only;omega
  .simp[dB,jk,aP] at ht;subst ht;exact J
 by_cases h8:kind=8
 .subst h8;simp only[Int.reduceEq,if_false,if_true,aB,iK] at h hb;obtain⟨g1,g2,U,M,g5⟩:=h;obtain⟨vB,Gr,Gs⟩:=GS g5;have J:=O U;have Gq:=O M;have Dy:=X (iY (l:=f.ag) (r:=a) oG);have hrb:=X (mZ g2);refine⟨⟨fun r h'=>?_,?_,?_,oS,oS⟩,vB,fun t ht=>?_⟩
  .simp[c8,aP] at h';subst h';exact Dy
  .simp[fc,aP];omega
  .dsimp only at vB ⊢;omega
  .simp[dB,jk,aP] at ht;rcases ht with rfl|rfl|⟨w,C,rfl⟩|⟨h0,rfl⟩
   .exact J
   .exact Gq
   .exact Gr w C
   .exact⟨h0,Gs h0⟩
 by_cases h9:kind=9
 .subst h9;simp only[Int.reduceEq,if_false,if_true,aB,iK] at h hb;obtain⟨g1,g2,U⟩:=h;have C:aC=[]:=List.length_eq_zero_iff.1 hb.2.2.2.2.2.2.2;subst C;have J:=O U
  have Dy:=X (iY (l:=f.ag) (r:=a) (by
   rw[g2];intro e
   simp[oB,e,g1] at hr))
  refine⟨⟨fun r h'=>?_,?_,oS,oS,oS⟩,oS,fun t ht=>?_⟩
  .simp[c8,aP] at h';subst h';exact Dy
  .simp[fc,aP]
  .simp[dB,jk,aP] at ht;subst ht;exact J
 .simp[h1,h2,h3,h4,h5,h6,h7,h8,h9] at h
theorem ae6(a b:Int):eF (AY a b):=by
 unfold AY mn eF;simp only;rw[wrap_u64 (n:=(BitVec.ofInt IntKind.u64.bits a||| BitVec.ofInt IntKind.u64.bits b).toNat) (BitVec.isLt (w:=64) _)];have h:(BitVec.ofInt IntKind.u64.bits a||| BitVec.ofInt IntKind.u64.bits b).toNat<18446744073709551616:=BitVec.isLt (w:=64) _;exact⟨Int.natCast_nonneg _,Int.ofNat_lt.2 h⟩
theorem R6{w:List Int}{n:Int}(h:∀ u∈w,eF u):∀ u∈gD w n,eF u:=fun u hu=>by
 unfold gD at hu;split at hu
 .unfold ym at hu;rcases List.mem_or_eq_of_mem_set hu with h1|h1
  .exact h u h1
  .rw[h1];exact ae6 _ _
 .exact h u hu
theorem GU:∀ k,∀ u∈jJ k,eF u
 |0,u,hu=>by
  rw[List.eq_of_mem_replicate hu];simp[eF]
 |k+1,u,hu=>R6 (GU k) u hu
theorem rX.rl{x:bK}(h:rX x):(c6 x).length<=100000:=by
 unfold c6;split
 .simp
 .split
  .simp
  .split
   .rename_i J;have:=h.ar (.inl J);omega
   .split
    .rename_i C;have:=h.ar (.inr C);simp;omega
    .simp
theorem EL.rf{x:End}(h:EL x)(hi:x.kind=5->rX x.ins):(c8 x).length<=100000:=by
 unfold c8;split
 .simp
 .split
  .split<;>simp
  .split
   .rename_i J;exact(hi J).rl
   .split
    .rename_i C;have:=h.a2 (by simpa[aP] using C);omega
    .simp
structure IK(f:aK):Prop where
 pos:0<f.blocks.length
 oi:f.blocks.length<=1200
 ag:f.ag.length<=1200
 args:0<=f.args/\f.args<=6
 bF:∀ b∈f.blocks,uL f.blocks.length b
 ends:∀ b∈f.blocks,Jd f b.fin
 right:∀ (b:Nat) x,f.blocks[b]? =some x->∀ (j:Nat) y,x.ins[j]? =some y->jb f b y ((x.ins.take (j+1)).all cA) (cw f.blocks f.blocks.length b).length=true
 aN:(∀ k∈f.aN,k≠0)/\f.aN.length<=60
 an7:∀ b∈f.blocks,b.fin.kind=5->rX b.fin.ins
theorem TQ{l:List Int}{m:Int}(h:fj l m=true):∀ k∈l,k≠0:=fun k hk e=>by
 subst e;simp only[fj,Bool.not_eq_true',List.any_eq_false] at h;have:=h 0 hk;simp[mY] at this
theorem agy{f:aK}{x:End}(hl:f.ag.length<=1200)(h:gB f x=true)(M:x.kind=5):rX x.ins:=by
 unfold gB at h;rw[aB] at h;have h:=h.1;unfold fw at h;simp only[M,Int.reduceEq,if_false,if_true,aB] at h;obtain⟨C,J,_⟩:=h;cases hs:fk iP x.ins.op with
 |none=>rw[hs] at C;simp at C
 |some s=>rw[hs] at J;exact K2 hl (.inr (zq hs)) (LG J)
theorem xW{f:aK}(h:kB f=true):IK f:=by
 unfold kB at h;simp only[aB] at h;obtain⟨U,X,_,hE,hR⟩:=h;unfold mu at U;simp only[aB,iW,Bool.not_eq_true',decide_eq_false_iff_not] at U;obtain⟨_,ha,hr,zc,jj,dz⟩:=U;unfold pz at X;simp only[aB,Bool.not_eq_true',decide_eq_false_iff_not] at X;obtain⟨_,_,y5,_,_⟩:=X;have C:f.ag.length<=1200:=by omega
 have O:∀ x∈f.blocks,gB f x.fin=true/\x.ins.length<=200:=fun x hx=>by
  obtain⟨k,hk⟩:=dR hx;have al:k<f.blocks.length:=(bX.1 hk).1;have:=bT.1 hE k (by simpa using al);rw[jU,getD_some hk] at this;simp only[aB,Bool.not_eq_true',decide_eq_false_iff_not] at this;exact⟨this.1,oG⟩
 have J:∀ x∈f.blocks,Jd f x.fin:=fun x hx=>L9 C hr (O x hx).1
 have Zx:∀ (b:Nat) x,f.blocks[b]? =some x->∀ (j:Nat) y,x.ins[j]? =some y->jb f b y ((x.ins.take (j+1)).all cA) (cw f.blocks f.blocks.length b).length=true:=fun b x hx j y hy=>by
  have al:b<f.blocks.length:=(bX.1 hx).1;have:=bT.1 hR b (by simpa using al);rw[rL,getD_some hx] at this;have:=bT.1 this j (by simpa using(bX.1 hy).1);rw[rK,getD_some hy] at this;exact this
 have M:∀ b∈f.blocks,b.fin.kind=5->rX b.fin.ins:=fun b hb M=>agy C (O b hb).1 M
 have yM:∀ b∈f.blocks,∀ x∈b.ins,rX x:=fun b hb x hx=>by
  obtain⟨k,hk⟩:=dR hb;obtain⟨j,hj⟩:=dR hx;exact(RC C (TQ y5) oG (Zx k b hk j x hj)).1
 refine⟨oG,oG,C,⟨ha.1,by have:=ha.2;split at this<;>omega⟩,fun b hb=>⟨by have:=(O b hb).2;omega,yM b hb,(J b hb).fin,fun x hx=>(yM b hb x hx).rl,(J b hb).fin.rf (M b hb),fun t ht=>(J b hb).to t (K3.1 ht)⟩,J,Zx,⟨TQ y5,oG⟩,M⟩
theorem IK.Kz{f:aK}(h:IK f){b:Nat}{x:bB}(hx:f.blocks[b]? =some x){y:bK}(hy:y∈x.ins)(C:y.op=19):y.args.length=(cw f.blocks f.blocks.length b).length/\∀ r∈y.args,0<=r/\r<1280:=by
 obtain⟨j,hj⟩:=dR hy;obtain⟨h1,_,_,_,h2⟩:=(RC h.ag h.aN.1 h.aN.2 (h.right b x hx j y hj)).2 C;refine⟨oG,fun r hr=>?_⟩;have:=(h2 r hr).2;unfold js at this;have:=h.ag;omega
end Go.Argus
namespace Go.Abs
section
variable{P:Program}{env:Env}{m:Mem}{nx:Nat}{x y:Operand}{t e:TypeId}{k:IntKind}
theorem ae5{α:Type}{f:α->D}{l:List α}{b:Int}(hx:(opd env x).core=.sl (l.map f) l.length)(he:aE P t=e)(hs:P.cellsOf e=1)(hb:(opd env y).core=.s (.int .i64 b))(hc:bh P t=true)(C:0<=b/\b<=l.length):
 Ef P (.slice t x none (some y) none) env m nx ⟨True,.sl ((l.take b.toNat).map f) (l.take b.toNat).length,[],[],0⟩:=by
 have h:=Bu (P:=P) (env:=env) (m:=m) (nx:=nx) (t:=t) (lo:=none) (hi:=some y) (a:=0) (b:=b) (es':=(l.take b.toNat).map f) hx he hs (by simp[fx]) (by simp[fx,hb,D.int?]) (by simp[List.map_take])
 have h2:(bh P t=true/\(0:Int)<=0/\(0:Int)<=b/\b<=(l.length:Int))=True:=by
  apply propext;constructor
  .exact fun _=>trivial
  .exact fun _=>⟨hc,oG,C.1,C.2⟩
 have J:(b - 0).toNat=(l.take b.toNat).length:=by rw[List.length_take];omega
 rw[h2,J] at h;exact h
theorem Bs{i j sz:Nat}{C:List D}{r:Row}(J:j≠i)(hm:m j=some r)(h:Row.sub (dh i C sz) r=r):(if j=i then none else(m j).map (Row.sub (dh i C sz)))=some r:=by
 rw[if_neg J,hm];exact congrArg some h
theorem ow{i:Nat}{cs:List D}{l:List (Nat×D)}{ml:List (Nat×Row)}(hm:m i=some (.cells cs e))(hl:nh l fun t=>sub (dh i cs (P.cellsOf e)) (env t))(C:Ez ml fun j=>if j=i then none else(m j).map (Row.sub (dh i cs (P.cellsOf e)))):aM P ⟨env,m,nx⟩ ⟨aF l,bJ ml,nx⟩:=
 (aM.freeze env m nx i cs e hm).trans (aY hl C)
end
section
variable{P:Program}{env:Env}{m:Mem}{nx:Nat}{x:Operand}{t:TypeId}{k:IntKind}{n:Int}
theorem ahz(hx:(opd env x).core=.s (.int k n)){r:Int}(hr:k.wrap (0 - n)=r):Ef P (.unOp .neg t x) env m nx ⟨True,.s (.int k r),[],[],0⟩:=by
 subst hr;exact⟨by simp only[aW,bn,hx,AE,Option.map_some],rfl,rfl⟩
end
end Go.Abs
namespace Go.Argus
theorem Zv:∀ b1 b2 b3 b4 b5 b6:Bool,(if(if(if(if(if(!b1)=true then true else !b2)=true then true else !b3)=true then true else b4)=true then true else b5)=true then true else !b6)= !(b1&&(b2&&(b3&&(!b4&&(!b5&&b6))))):=by decide
theorem Zw:∀ b1 b2 b3 b4 b5:Bool,(if(if(if(if(!b1)=true then true else !b2)=true then true else !b3)=true then true else b4)=true then true else b5)= !(b1&&(b2&&(b3&&(!b4&& !b5)))):=by decide
theorem Kb:∀ b1 b2 b3 b4:Bool,(if(if b1=true then true else b2)=true then true else if b3=true then !b4 else false)=(b1||(b2||(b3&& !b4))):=by decide
def ot(l:List Int):List (Value×D):=l.map fun a=>(.int .i64 a,B true)
theorem MF(a:Int):∀ l:List Int,(gZ (.int .i64 a) (ot l)).map (·.2)=if(l.any (·==a))=true then some (B true) else none
 |[]=>rfl
 |b::l=>by
  have ih:=MF a l;unfold ot at ih ⊢;simp only[List.map_cons,gZ,vt,uT,List.any_cons,beq_self_eq_true,Bool.true_and] at ih ⊢;by_cases h:b=a
  .subst h;simp
  .have hb:(b==a)=false:=by simpa using h
   simp only[hb,Bool.false_eq_true,if_false,Option.map_map,Bool.false_or];exact ih
theorem ahH{P:Program}{t:TypeId}(hz:sX P (uV P t)=B false)(a:Int)(l:List Int):lf P t false (gZ (.int .i64 a) (ot l))=B (l.any (·==a)):=by
 have h:=MF a l;cases h1:gZ (.int .i64 a) (ot l) with
 |none=>
  rw[h1] at h;cases h2:l.any (·==a) with
  |true=>rw[h2] at h;simp at h
  |false=>simp[lf,hz]
 |some x=>
  rw[h1] at h;cases h2:l.any (·==a) with
  |false=>rw[h2] at h;simp at h
  |true=>rw[h2] at h;simp at h;simp[lf,h]
theorem ahI{a:Int}{l:List Int}(h:l.any (·==a)=false):nz (.int .i64 a) (B true) (ot l)=ot (l++[a]):=by
 have h1:=MF a l;rw[h] at h1;unfold nz;cases h2:gZ (.int .i64 a) (ot l) with
 |none=>simp[ot]
 |some x=>rw[h2] at h1;simp at h1
theorem UY{P:Program}{kt:TypeId}(hk:P.underlying kt=some (.int .i64))(l:List Int):(ot l).all (fun e=>dY P kt e.1)=true:=by
 refine bT.2 fun x hx=>?_;obtain⟨y,_,rfl⟩:=List.mem_map.1 hx;simp[dY,hk]
theorem V5{P:Program}{kt:TypeId}(hk:P.underlying kt=some (.int .i64))(a:Int):dY P kt (.int .i64 a)=true:=by simp[dY,hk]
theorem agx{i sz:Nat}{C:List D}(l:List Int):Row.sub (dh i C sz) (.map (ot l))=.map (ot l):=by
 show Row.map ((ot l).map _)=_;unfold ot;rw[List.map_map];rfl
theorem aau{bs:List bB}{k:Nat}{x:bB}(hx:bs[k]? =some x):jT bs (k+1)=if(x.fin.kind==7)=true then jT bs k++[x.fin.a] else jT bs k:=by
 unfold jT;rw[List.take_add_one,hx];by_cases h:(x.fin.kind==7)=true
 .simp[h]
 .simp[h]
def dH(wsq:List ByteArray):ByteArray:=Go.Proofs.Tryz.K.jY wsq ⟨#[32]⟩++⟨#[10]⟩
def cr(n:Int):ByteArray:=⟨(Lib.itoa n).toArray⟩
def i64(n:Int):Prop:= -9223372036854775808<=n/\n<=9223372036854775807
abbrev eZ(n:Int):Int:=IntKind.i64.wrap n
theorem BA(n:Int):i64 (eZ n):=by unfold i64 eZ;rw[IntKind.wrap_i64];omega
def nB(x:bK):List Int:=eZ x.op::x.to::x.a::x.b::x.n::x.args
def Jw(x:bK):Prop:=∀ n∈nB x,i64 n
def Ak(word:ByteArray)(x:bK):ByteArray:=dH (word::(nB x).map cr)
end Go.Argus
namespace Go.Proofs.Tryz.K
theorem Kx:prog.underlying 3=some (.int .i64):=kr
theorem ake:sX prog (uV prog 194)=B false:=kr
theorem QJ{f:aK}:az prog 97 [.agg (aH f)] (B (kB f)):=by
 have bx:∀ a∈[D.agg (aH f)],Tr a:=.cons (.agg (gA f)) .nil;refine bu an5 bx (.s _) ?_;rw[an6];refine ay ?_;refine af ?_;refine ab (aX (kY (i:=0) (l:=[(1,.pt (aH f))]) rfl eH) (ay ?_));have Po:=Po (f:=f);refine SS ?_;refine cl Po ?_;refine SS ?_;refine dA (jm (cs':=bC _ _ _) rfl rfl rfl rfl) ak (ef V.h V.h (by first|(simp;done)|exact⟨rfl,bt rfl⟩|(simp;omega)) (by rfl)) ?_;refine ab (aX (kY (i:=1) (l:=[(1,.pt (aH f)),(3,.pt (bC P0 Q0 f))]) rfl eH) (ay ?_));refine bj ?_;refine cP ?_;refine af ?_;refine ab (aX (iJ (l:=[(1,.pt (aH f)),(3,.pt (bC P0 Q0 f)),(4,B (oB f))]) ⟨rfl,rfl,congrArg B (Kb (f.result==1) (f.result==2) (f.result==0) f.iter),trivial⟩) (aI (aj ?_)));have OH:kB f=(mu f&&(pz f&&(oJ f&&((range f.blocks.length).all (jU f)&&(range f.blocks.length).all (rL f))))):=rfl;rw[OH];have M:mu f=(jr f.name&&(dx f.args 0 (if(f.ag.length:Int)<6 then(f.ag.length:Int) else 6)&&(oB f&&(!decide ((1200:Int)<f.ag.length)&&(!decide ((60:Int)<f.aN.length)&&dx f.blocks.length 1 1200))))):=rfl;generalize n1:oB f=Gd at M ⊢;refine af ?_;refine cl tm ?_;refine fB ?_;refine cq rfl rfl (Wt rfl rfl) (fun hc=>⟨ak,rfl⟩) ?_;refine gc nI ?_;refine bj ?_;refine bj ?_;refine aR ?_;refine gc nI ?_;refine af ?_;refine ab (dZ rfl (fun h=>?_) fun h=>cX (aI (aj ?_)))
 .have h:=(Zv _ _ _ _ _ _).symm.trans h;rw[<- M] at h;have h:mu f=false:=by simpa using h
  refine aI (aj ?_);refine SS ?_;refine ab (eb (aw (d:=B false) rfl ?_));rw[h];rfl
 have h:=(Zv _ _ _ _ _ _).symm.trans h;rw[<- M] at h;have hh:mu f=true:=by simpa using h
 rw[hh,Bool.true_and];rw[M] at hh;simp only[aB,iW,Bool.not_eq_true',decide_eq_false_iff_not] at hh;obtain⟨_,ha,hr,zc,O,dz⟩:=hh;subst hr;clear h M
 have tF:0<=f.args/\f.args<=f.ag.length/\f.args<=6:=by
  split at ha<;>omega
 have X:pz f=(fj f.ag 3&&(fj (f.ag.take f.args.toNat) 2&&(fj f.aN 2&&(!decide ((6:Int)<f.signals.length)&& !f.signals.any fun s=> !isName s)))):=rfl;have Js:=Js (l:=f.signals) (g:=127) (fs:=[]) (cs:=[]) (p:=fun s=> !isName s) (.fn oS oS) (fun x _=>an0);have ha2:0<=f.args/\f.args<=f.ag.length:=⟨tF.1,tF.2.1⟩
 refine af ?_;refine cl Pm ?_;refine cG ?_;refine cq rfl rfl (ae5 rfl Kh c5 rfl Cx ha2) (fun hc=>⟨(by repeat' (first|exact trivial|exact hc|exact rfl|refine And.intro ?_ ?_)),trivial⟩) ?_;refine gc Pm ?_;refine bm ?_;refine gc Pm ?_;refine bj ?_;refine af ?_;refine gc Js ?_;refine SS ?_;refine ab (dZ rfl (fun h=>?_) fun h=>cX (aI (ay ?_)))
 .have h:=(Zw _ _ _ _ _).symm.trans h;rw[<- X] at h;have h:pz f=false:=by simpa using h
  refine aI (aj ?_);refine SS ?_;refine ab (eb (aw (d:=B false) rfl ?_));rw[h];rfl
 have h:=(Zw _ _ _ _ _).symm.trans h;rw[<- X] at h;have hh:pz f=true:=by simpa using h
 rw[hh,Bool.true_and];rw[X] at hh;simp only[aB,Bool.not_eq_true',decide_eq_false_iff_not] at hh;obtain⟨_,_,y5,hsg,_⟩:=hh;clear h X Js;have hS:oJ f=(range (f.signals.length - 1)).all (uh f.signals):=rfl;rw[hS];have iA:f.signals.length<=6:=by omega
 refine SS ?_;refine ab (cD (fun s=>aM prog s ⟨aF [(1,.pt (aH f)),(3,.pt (bC P0 Q0 f))],fun _=>none,2⟩/\(range (f.signals.length - 1)).all (uh f.signals)=true) (dD (α:=Nat) (fun k=>⟨aF [(1,.pt (aH f)),(3,.pt (bC P0 Q0 f)),(5,I (k+1:Nat))],fun _=>none,2⟩) (fun k=>k<=f.signals.length - 1/\(range k).all (uh f.signals)=true) (fun k=>f.signals.length - k) 0 (iJ eH) ⟨Nat.zero_le _,rfl⟩ ?_) ?_)
 .rintro k ⟨hk,C⟩;refine bm ?_;refine ab ⟨_,rfl,fun h=>?_,fun h=>?_⟩
  .have al:k+1<f.signals.length:=by have:((k+1:Nat):Int)<f.signals.length:=by simpa using h
                                    omega
   have h1:f.signals[k]? =some f.signals[k]:=bc oG;have h2:f.signals[k+1]? =some f.signals[k+1]:=bc oG;have O:uh f.signals k=Op.bytesLess f.signals[k].toList f.signals[k+1].toList:=by rw[uh,getD_some h1,getD_some h2]
   generalize f.signals[k]=s1 at h1 O;generalize f.signals[k+1]=s2 at h2 O;have yI:((k+1:Nat):Int) - 1=(k:Int)/\ -9223372036854775808<=(k:Int)/\(k:Int)<=9223372036854775807:=by omega
   refine ej ade ?_;refine bj ?_;refine af ?_;refine aq (Vo rfl rfl) ak trivial ?_;refine bN bO (ap rfl (fun h=>?_) fun h=>dE ?_)
   .have hf:uh f.signals k=false:=by rw[O];simpa using h
    refine ws ?_;refine SS ?_;refine ab (bp (cZ (a6 (aw (d:=B false) rfl ?_))));rw[po oG hf];rfl
   .have ht:uh f.signals k=true:=by rw[O];simpa using h
    refine av ?_;exact ab (bg (k+1) (iJ eH) ⟨oG,mh C ht⟩ oG)
  .have bG:¬ k+1<f.signals.length:=by intro hh;simp at h;omega
   have:k=f.signals.length - 1:=by omega
   subst this;exact⟨iJ eH,C⟩
 rintro s ⟨hg,C⟩;rw[C,Bool.true_and];clear C hS;refine⟨_,hg,ay ?_⟩;refine af ?_;refine ab (aX (aY (l:=[(1,.pt (aH f)),(3,.pt (bC P0 Q0 f)),(6,.mp 2)]) (ml:=[(2,.map (ot []))]) eH eH) (aI (ay ?_)));refine aR ?_;generalize hn:f.blocks.length=n at dz ⊢;refine ab (cD (fun s=>∃ N,aM prog s ⟨aF [(1,.pt (aH f)),(3,.pt (bC P0 Q0 f))],fun _=>none,N⟩/\(range n).all (jU f)=true) (gM (α:=Nat×Nat) (fun k=>⟨aF [(1,.pt (aH f)),(3,.pt (bC P0 Q0 f)),(6,.mp 2),(123,dQ f.blocks),(124,I n),(125,I k.1)],bJ [(2,.map (ot (jT f.blocks k.1)))],k.2⟩) (fun k=>k.1<=n/\(range k.1).all (jU f)=true/\3<=k.2) (fun k=>n - k.1) (0,3) (aY eH eH) ⟨Nat.zero_le _,rfl,bM _⟩ ?_) ?_)
 .rintro⟨k,N⟩ ⟨hk,C,hN⟩;dsimp only at hk C hN ⊢;refine SS ?_;refine ab ⟨_,rfl,fun h=>?_,fun h=>?_⟩
  .have al:k<n:=by simpa using h
   have hx:f.blocks[k]? =some f.blocks[k]:=bc oG;generalize f.blocks[k]=x at hx;have J:jU f k=(gB f x.fin&&(!decide ((200:Int)<x.ins.length)&& !(x.fin.kind==7&&(jT f.blocks k).any (·==x.fin.a)))):=by rw[jU,getD_some hx]
   have gv:=aau hx;have Jz:=Jz (f:=f) (x:=x.fin);generalize jT f.blocks k=l at J gv;refine ay ?_;refine aR ?_;refine ab (aX (ow (i:=N) (l:=[(1,.pt (aH f)),(3,.pt (bC P0 Q0 f)),(6,.mp 2),(8,.pt (cg x)),(123,dQ f.blocks),(124,I n),(125,I k)]) (ml:=[(2,.map (ot l))]) (an _ _ _) ⟨rfl,rfl,rfl,mG,rfl,rfl,rfl,trivial⟩ ⟨Bs oG (au oG (au oG rfl)) (agx l),trivial⟩) (aI (aj ?_)));generalize gB f x.fin=e at Jz J;refine av ?_;refine cl Jz ?_;refine fB ?_;refine ab (dZ rfl (fun h=>?_) fun h=>cX (aj ?_))
   .have hf:jU f k=false:=by
     rw[J];cases e with
     |false=>rfl
     |true=>have:decide ((200:Int)<x.ins.length)=true:=by simpa using h
            rw[this];rfl
    refine aI (aj ?_);refine SS ?_;refine ab (eb (cZ (a6 (aw (d:=B false) rfl ?_))));rw[po al hf];rfl
   have J:jU f k= !(x.fin.kind==7&&l.any (·==x.fin.a)):=by
    rw[J];cases e with
    |false=>simp at h
    |true=>have:decide ((200:Int)<x.ins.length)=false:=by simpa using h
           rw[this];rfl
   refine aR ?_;refine ab (ap rfl (fun h7=>?_) fun h7=>dE ?_)
   .rw[h7] at J gv;refine aI (aj ?_);refine aR ?_;refine aq (ad0 rfl rfl rfl N9 (ahH ake _ _)) aG ⟨Oa,V5 Kx _,UY Kx _⟩ ?_;refine ab (dZ rfl (fun h=>?_) fun h=>cX (jn ?_))
    .have hf:jU f k=false:=by rw[J,h];rfl
     refine aI (aj ?_);refine SS ?_;refine ab (eb (cZ (a6 (aw (d:=B false) rfl ?_))));rw[po al hf];rfl
    .have ht:jU f k=true:=by rw[J,h];rfl
     refine aR ?_;refine dA (ahg rfl rfl rfl rfl N9) aG ⟨Oa,V5 Kx _,UY Kx _⟩ ?_;refine ab ?_;refine af ?_;refine ab (bg (k+1,_) (aY eH ⟨?_,trivial⟩) ⟨oM,mh C ht,oM⟩ oM);dsimp only;rw[gv,if_pos rfl, <- ahI h];exact an _ _ _
   .rw[h7] at J gv;refine af ?_;refine ab (bg (k+1,_) (aY eH ⟨?_,trivial⟩) ⟨oM,mh C J,oM⟩ oM);dsimp only;rw[gv,if_neg oS];rfl
  .have bG:¬ k<n:=by simpa using h
   have:k=n:=by omega
   subst this;exact⟨N,iJ eH,C⟩
 rintro s ⟨N,hg,C⟩;rw[C,Bool.true_and]
 have hE:∀ x∈f.blocks,Jd f x.fin:=fun x hx=>by
  obtain⟨k,hk⟩:=dR hx;have al:k<n:=by rw[<- hn];exact(bX.1 hk).1
  have:=bT.1 C k (by simpa using al);rw[jU,getD_some hk] at this;simp only[aB] at this;exact L9 oG n1 this.1
 have CE:=CE (f:=f) ns nt rfl rfl hn oG (fun b h=>by have:=(hE b h).wh;omega) (fun b h t ht=>hn▸(hE b h).to t (K3.1 ht));refine⟨_,hg,aj ?_⟩;refine SS ?_;refine cl CE ?_;refine SS ?_;refine ab (aI (ay ?_));refine aR ?_;refine ab (cD (fun s=>(range n).all (rL f)=true) (gM (α:=Nat×Nat) (fun k=>⟨aF [(1,.pt (aH f)),(3,.pt (bC P0 Q0 f)),(9,dC (mA f.blocks)),(157,dQ f.blocks),(158,I n),(159,I k.1)],fun _=>none,k.2⟩) (fun k=>k.1<=n/\(range k.1).all (rL f)=true) (fun k=>n - k.1) (0,N) (iJ ⟨rfl,rfl,rfl,rfl,congrArg (fun k:Nat=>I k) hn,rfl,trivial⟩) ⟨Nat.zero_le _,rfl⟩ ?_) ?_)
 .rintro⟨k,N⟩ ⟨hk,C⟩;dsimp only at hk C ⊢;refine SS ?_;refine ab ⟨_,rfl,fun h=>?_,fun h=>?_⟩
  .have al:k<n:=by simpa using h
   have hx:f.blocks[k]? =some f.blocks[k]:=bc oG;have dp:f.blocks[k]∈f.blocks:=di _;generalize f.blocks[k]=x at hx dp;have hA:=R5 hn al;have qf:rL f k=(range x.ins.length).all (rK f k x.ins):=by rw[rL,getD_some hx]
   have U:∀ j,rK f k x.ins j=jb f k (x.ins.getD j dW) ((x.ins.take (j+1)).all cA) (cw f.blocks n k).length:=fun j=>by rw[rK,hn]
   generalize cw f.blocks n k=A at hA U;refine ay ?_;refine cG ?_;refine ab (aX (kY (i:=N) (l:=[(1,.pt (aH f)),(3,.pt (bC P0 Q0 f)),(9,dC (mA f.blocks)),(10,I k),(11,.pt (cg x)),(157,dQ f.blocks),(158,I n),(159,I k)]) (an _ _ _) ⟨rfl,rfl,rfl,rfl,mG,rfl,rfl,rfl,trivial⟩) (aj ?_));refine SS ?_;refine ab (ay ?_);refine aR ?_
   have gN:x.ins.length<=200:=by
    have:=bT.1 ‹(range n).all (jU f)=true› k (by simpa using al);rw[jU,getD_some hx] at this;simp only[aB,Bool.not_eq_true',decide_eq_false_iff_not] at this;omega
   refine ab (gM (α:=Nat×Nat) (fun j=>⟨aF [(1,.pt (aH f)),(3,.pt (bC P0 Q0 f)),(9,dC (mA f.blocks)),(10,I k),(12,B ((x.ins.take j.1).all cA)),(157,dQ f.blocks),(158,I n),(159,I k),(165,iX x.ins),(166,I x.ins.length),(167,I j.1)],fun _=>none,j.2⟩) (fun j=>j.1<=x.ins.length/\(range j.1).all (rK f k x.ins)=true) (fun j=>x.ins.length - j.1) (0,N+1) (iJ eH) ⟨Nat.zero_le _,rfl⟩ ?_);rintro⟨j,N⟩ ⟨hj,Ob⟩;dsimp only at hj Ob ⊢;refine SS ?_;refine ab ⟨_,rfl,fun h=>?_,fun h=>?_⟩
   .have dK:j<x.ins.length:=by simpa using h
    have hy:x.ins[j]? =some x.ins[j]:=bc dK;generalize x.ins[j]=y at hy;have fC:(x.ins.take (j+1)).all cA=((x.ins.take j).all cA&&cA y):=by rw[List.take_add_one,hy,List.all_append];simp
    have U:=U j;rw[getD_some hy] at U;generalize (x.ins.take j).all cA=ph at fC;refine ay ?_;refine aR ?_;refine ab (aX (kY (i:=N) (l:=[(1,.pt (aH f)),(3,.pt (bC P0 Q0 f)),(9,dC (mA f.blocks)),(10,I k),(12,B ph),(14,.pt (bA y)),(157,dQ f.blocks),(158,I n),(159,I k),(165,iX x.ins),(166,I x.ins.length),(167,I j)]) (an _ _ _) ⟨rfl,rfl,rfl,rfl,rfl,mG,rfl,rfl,rfl,rfl,rfl,rfl,trivial⟩) (ay ?_));refine fB ?_;refine ab (aX (iJ (l:=[(1,.pt (aH f)),(3,.pt (bC P0 Q0 f)),(9,dC (mA f.blocks)),(10,I k),(12,B ((x.ins.take (j+1)).all cA)),(14,.pt (bA y)),(157,dQ f.blocks),(158,I n),(159,I k),(165,iX x.ins),(166,I x.ins.length),(167,I j)]) ⟨rfl,rfl,rfl,rfl,?_,rfl,rfl,rfl,rfl,rfl,rfl,rfl,trivial⟩) (ej adf ?_))
    .rw[fC];cases ph<;>rfl
    have JA:=JA (f:=f) (b:=(k:Int)) (ahead:=(A.length:Int)) (x:=y) (phis:=(x.ins.take (j+1)).all cA);rw[<- U] at JA;refine bj ?_;refine cl JA ?_;refine SS ?_;refine bN bO (ap rfl (fun h=>?_) fun h=>dE ?_)
    .have hf:rK f k x.ins j=false:=by simpa using h
     refine ws ?_;refine SS ?_;refine ab (bp (cZ (cZ (a6 (aw (d:=B false) rfl ?_)))));rw[po al (by rw[qf];exact po dK hf)]
    .have ht:rK f k x.ins j=true:=by simpa using h
     refine af ?_;exact ab (bg (j+1,_) (iJ eH) ⟨oM,mh Ob ht⟩ oM)
   .have bG:¬ j<x.ins.length:=by simpa using h
    have FR:j=x.ins.length:=by omega
    subst FR;show ax _ _ _ _ _ _ _ _ _;refine af ?_;exact ab (bg (k+1,_) (iJ eH) ⟨oM,mh oN (qf.trans Ob)⟩ oM)
  .have bG:¬ k<n:=by simpa using h
   have:k=n:=by omega
   subst this;show(range k).all (rL f)=true
   assumption
 .rintro⟨env,m,nx⟩ C;refine⟨_,.refl _,aj ?_⟩;refine SS ?_;refine ab (aw (d:=B true) rfl ?_);rw[C]
theorem mg{f:aK}:az prog 63 [.agg (aH f)] (I (fe f)):=by
 have M:∀ a∈[D.agg (aH f)],Tr a:=.cons (.agg (gA f)) .nil;refine bu an8 M (.s _) ?_;rw[an9];have QJ:=QJ (f:=f);refine ay ?_;refine af ?_;refine ab (aX (kY (i:=0) (l:=[(1,.pt (aH f))]) rfl eH) (ou (aj ?_)));refine SS ?_;refine cl QJ ?_;refine af ?_;refine ab (ap rfl (fun h=>aj ?_) fun h=>aj ?_)
 .have hf:kB f=false:=by simpa using h
  refine SS ?_;refine ab (bp (bU (a6 (aw (d:=I 80) rfl ?_))));rw[fe,if_neg (by simp[hf])]
 .have hf:kB f=true:=by simpa using h
  have C:=xW hf;obtain⟨args,ha⟩:=iG C.args.1;have U:=C.args.2;have Kw:=Kw (p:=.s (.map none)) (q:=.s (.map none)) (f:=f) (.s _) (.s _) rfl rfl rfl C.pos (by have:=C.oi;omega) ha oG (GU args) C.bF (fun b x hx y hy O=>C.Kz hx hy O);have J:fe f=if sL f.blocks args=true then 0 else 81:=by rw[fe,if_pos hf,ha,eI]
  generalize sL f.blocks args=r at Kw J;refine SS ?_;refine aq (DZ (cs:=bC _ _ _) V.h V.h V.h rfl rfl) ak ⟨V.h,V.h⟩ ?_;refine cl Kw ?_;refine af ?_;refine ab (ap rfl (fun h=>aj ?_) fun h=>nS (aj ?_))
  .have hr:r=false:=by simpa using h
   refine SS ?_;refine ab (bp (bU (a6 (aw (d:=I 81) rfl ?_))));rw[J,hr];rfl
  .have hr:r=true:=by simpa using h
   refine SS ?_;refine ab (bp (aw (d:=I 0) rfl ?_));rw[J,hr];rfl
theorem Ja{P:Program}{t e:TypeId}(h1:bh P t=true)(h2:aE P t=e)(C:P.underlying e=some (.int .u8))(J:P.cellsOf e=1):p0 P t:=⟨h1,by rw[h2];exact C,by rw[h2];exact J⟩
theorem aaQ(a b:ByteArray):gf (a++b)=gf a++gf b:=by simp[gf]
def xh(m:Mem)(x:D)(a:ByteArray):Option Nat->Prop
 |none=>x=.z/\a=ByteArray.empty
 |some i=>x=.rs i 0 a.size/\m i=some (.cells (gf a) 5)
def clr(m:Mem):Option Nat->Mem
 |none=>m
 |some i=>up m i none
def Dj(m:Mem)(nx j:Nat)(T:TypeId)(a:ByteArray)(o:Option Nat):Mem:=up (up (clr m o) nx (some (.cells (gf a) 5))) j (some (.bs true (.rs nx 0 a.size) T))
theorem aiP{m:Mem}{nx j:Nat}{r r':Row}{c:Row}:up (up (up m j (some r)) nx (some c)) j (some r')=up (up m nx (some c)) j (some r'):=by
 funext k;simp only[Bk];by_cases hj:k=j<;>simp[hj]
theorem aiQ{m:Mem}{nx i j:Nat}{r r':Row}{c:Row}:up (up (up (up m j (some r)) i none) nx (some c)) j (some r')=up (up (up m i none) nx (some c)) j (some r'):=by
 funext k;simp only[Bk];by_cases hj:k=j<;>simp[hj]
theorem O7{m:Mem}{nx j:Nat}{u:Bool}{x:D}{T:TypeId}{a s:ByteArray}{o:Option Nat}(hj:m j=some (.bs u x T))(hl:liesAt prog prog.depth T (2 / prog.cellsOf T) 0 183 1=true)
 (hb:xh m x a o) (ho:∀ i,o=some i->i≠j/\i<nx) (O:j<nx) (C:a.size+s.size<=140737488355328):
 gW prog 119 [.rp j 0,S s] m nx fun d m' aD=>d=.bd [I s.size,.s .nilIface]/\m'=Dj m nx j T (a++s) o/\aD=nx+1:=by
 refine xj aiR ?_;rw[aiS];refine ws ?_;refine af ?_;refine er ?_;refine aq (gX (v:=.rp _ _) rfl) aG trivial ?_;refine lD (X6 hj hl) rfl aG fun d m' aD h=>?_;obtain⟨rfl,rfl,rfl⟩:=h;refine ab ?_;dsimp only[St.put];refine ws ?_;have aA:up m j (some (Row.bs true x T)) j=some (.bs true x T):=an _ _ _;cases o with
 |none=>
  obtain⟨rfl,rfl⟩:=hb;replace C:s.size<=140737488355328:=by simpa using C
  refine aR ?_;refine gE (Hy rfl aA V.h V.h) ak ?_;refine SS ?_;refine XL (ab9 rfl rfl V.h (Ja V.h V.h V.h V.h) V.h C V.h) ak ?_;refine aq (It rfl (au oG aA)) ak trivial ?_;refine aq (mX rfl (au oG aA) V.h) ak (je V.h) ?_;refine XM (Tk rfl (au oG aA) V.h V.h rfl rfl) ak ?_;refine er ?_;refine aR ?_;refine ab (oO (d:=I s.size) (e:=.s .nilIface) rfl rfl ⟨rfl,?_,rfl⟩);show up (up (up m j (some (.bs true .z T))) _ (some (.cells (gf s) 5))) j (some (.bs true (.rs _ 0 s.size) T))=Dj m _ j T (ByteArray.empty++s) none;rw[aiP,ByteArray.empty_append];rfl
 |some i=>
  obtain⟨rfl,hi⟩:=hb;have J:=(ho i rfl).1;have M:=(ho i rfl).2;have mF:up m j (some (Row.bs true (.rs i 0 a.size) T)) i=some (.cells (gf a) 5):=au J hi;have hlen:(gf a).length=a.size:=by simp[gf]
  refine aR ?_;refine gE (Hy rfl aA V.h V.h) ak ?_;refine SS ?_;refine amc (ad1 rfl rfl mF V.h (Ja V.h V.h V.h V.h) V.h (by first|rfl|omega|(simp;done)|(simp;omega)) C V.h) ak ?_;refine aq (It rfl (au oG (au oG aA))) ak trivial ?_;refine aq (mX rfl (au oG (au oG aA)) V.h) ak (je V.h) ?_;refine XM (Tk rfl (au oG (au oG aA)) V.h V.h rfl rfl) ak ?_;refine er ?_;refine aR ?_;refine ab (oO (d:=I s.size) (e:=.s .nilIface) rfl rfl ⟨rfl,?_,rfl⟩);show up (up (up (up m j (some (.bs true (.rs i 0 a.size) T))) i none) _ (some (.cells ((gf a).drop 0++gf s) 5))) j (some (.bs true (.rs _ 0 (a.size+s.size)) T))=Dj m _ j T (a++s) (some i);rw[aiQ,List.drop_zero, <- aaQ,Dj,ByteArray.size_append];rfl
end Go.Proofs.Tryz.K
end
namespace Go.Abs
section
variable{P:Program}
end
section
variable{P:Program}{F F':Nat->Prop}{m:Mem}{nx:Nat}{β β':aJ}{w w':World}
theorem aeB(hm:aL P F m β w)(hn:β nx=none){f:FuncId}{args es:List D}{n:Nat}{t:TypeId}{vs:Array Value}{fm:List D}{br:List Nat}(iA:jx P br m args fm)(hc:nj P f fm es n t)(mf:∀ d∈es,d.jt=true)(hR:Rs F β w args vs):
 Calls P f vs w fun e w'=>∃ v β',e=.returned v/\R F β' w' (.rs nx 0 n) v/\aL P F (up m nx (some (.cells es t))) β' w'/\Step β w β' w'/\∀ i,i≠nx->β' i=β i:=by
 obtain⟨g1,g2⟩:=IU (P:=P) (F:=F) (β:=β) (w:=w) (fun i hi r hr=>by
  obtain⟨p,hp,aA⟩:=hm.row i r hr
  exact⟨p,hp,aA,fun b hb=>hm.nf i p b hp hb⟩) iA
 refine(hc.2.2 F w vs hm.fb ⟨by rw[hR.1,g1],fun k d v hd hv=>?_⟩).mono ?_
 .have al:k<args.length:=by rw[g1];exact(bX.1 hd).1
  exact g2 k args[k] d (by simp[al]) hd v (hR.2 k args[k] v (by simp[al]) hv)
 rintro e w' ⟨v,p,he,Nu,C,aA,hv,hk⟩;have iB:=hm.kept hk
 have hs:Step β w (up β nx (some p)) w':=by
  refine⟨hk.1,fun b hb hf=>⟨hk.2.1 b hb,fun i q hq=>?_⟩,fun i q hq=>.inl ?_,hk.2.2,fun _ r _ _=>Ht (hk.2.1 r)⟩
  .by_cases hi:i=nx
   .subst hi;rw[an] at hq;cases hq;intro e;have:=(C b e).1;omega
   .rw[aZ _ _ hi] at hq;exact hf i q hq
  .rw[aZ _ _ (fun e=>by rw[e,hn] at hq;cases hq)];exact hq
 have M:∀ i q b,up β nx (some p) i=some q->q.bF=some b->(i=nx/\q=p)\/(i≠nx/\β i=some q):=fun i q b hq _=>by
  by_cases hi:i=nx
  .subst hi;rw[an] at hq;cases hq;exact .inl ⟨rfl,rfl⟩
  .rw[aZ _ _ hi] at hq;exact .inr ⟨hi,hq⟩
 have Nv:c7 P F (up β nx (some p)) w' (.cells es t) p:=by
  cases aA with
  |nil _=>exact .nil _
  |cells _ _ b o room sz c h1 h2 U X h5=>
   refine .cells es t b o room sz c h1 h2 U X fun k d hd=>?_;obtain⟨u,o6,qY,qZ⟩:=h5 k d hd;exact⟨u,o6,MP (mf d (cx hd)) qY,qZ⟩
 refine⟨v,up β nx (some p),he,?_,?_,hs,fun i hi=>aZ _ _ hi⟩
 .cases hv with
  |l9 _ _ _ _ h _=>rw[an] at h;cases h;exact absurd rfl Nu
  |jO _ a h=>rw[an] at h;cases h;exact .jO nx a (an _ _ _)
  |kO _ _ a b o len room sz h=>rw[an] at h;cases h;exact .kO nx 0 a b o len room sz (an _ _ _)
  |rs _ _ _ cap b o len room sz h h1 h2 U X=>rw[an] at h;cases h;exact .rs nx 0 n cap b o len room sz (an _ _ _) h1 h2 U X
 .refine⟨fun i r hi=>?_,fun i j q q' b hq jN e J=>?_,fun i q b hq e=>?_,fun i q b hq e=>?_,iB.fb⟩
  .by_cases O:i=nx
   .subst O;rw[an] at hi;cases hi;exact⟨p,an _ _ _,Nv⟩
   .rw[aZ _ _ O] at hi;obtain⟨q,hq,PB⟩:=hm.row i r hi;exact⟨q,by rw[aZ _ _ O];exact hq,PB.step hs fun b hb=>hk.2.1 b (hm.lt i q b hq hb)⟩
  .rcases M i q b hq e with⟨rfl,rfl⟩|⟨hi,h1⟩<;>rcases M j q' b jN J with⟨rfl,rfl⟩|⟨hj,h2⟩
   .rfl
   .have:=(C b e).1;have:=hm.lt j q' b h2 J;omega
   .have:=(C b J).1;have:=hm.lt i q b h1 e;omega
   .exact hm.inj i j q q' b h1 h2 e J
  .rcases M i q b hq e with⟨_,rfl⟩|⟨_,h1⟩
   .exact(C b e).2
   .exact iB.lt i q b h1 e
  .rcases M i q b hq e with⟨_,rfl⟩|⟨_,h1⟩
   .intro hF;have:=hm.fb.lt b hF;have:=(C b e).1;omega
   .exact hm.nf i q b h1 e
theorem nj.snap{f:FuncId}{args C es:List D}{n:Nat}{t:TypeId}{br:List Nat}(U:jx P br m args C)(h:nj P f C es n t)(X:∀ d∈es,d.jt=true):
 gW P f args m nx fun d m' aD=>d=.rs nx 0 n/\m'=up m nx (some (.cells es t))/\aD=nx+1:=
 ⟨h.1,fun F β w vs hm hn hR=>(aeB hm (hn nx (bM _)) U h X hR).mono fun e w' ⟨v,β',h1,h2,M,O,J⟩=>
  ⟨v,_,_,_,β',h1,⟨rfl,rfl,rfl⟩,M,fun i hi=>by rw[J i oG];exact hn i oG,h2,O,oG,fun i hi hb=>by rw[J i oG];exact hb⟩⟩
end
end Go.Abs
section
open Go Go.Abs Go.Proofs Go.Argus
namespace Go.Proofs.Tryz.K
theorem N5{l:List Int}{g:FuncId}{fs cs:List D}{p:Int->ByteArray}(hl:l.length<=1000000)(ht:Tr (.fn (.func g) fs cs))(hg:∀ x∈l,az prog g (fs++[I x]++cs) (S (p x))):nj prog 201 [aT l,.fn (.func g) fs cs] ((l.map p).map S) l.length 9:=by
 refine aa5 W5.he (.cons (dU _) (.cons ht .nil)) fun O=>?_;have hlen:=(O (aT l) oS).sl.1;unfold maxLen at hlen;refine Kf W5 (.cons (dU _) (.cons ht .nil)) (.map fun _=>.s _) ?_;rw[aiT];refine ws ?_;refine SS ?_;refine ab (ay ?_);refine SS ?_;refine ab ⟨_,.sU _ _ _ 5 9 rfl,aI (ay ?_)⟩;refine av ?_
 refine ab (cD (fun s=>∃ r m nx,aM prog s ⟨aF [(5,.rs r 0 l.length)],m,nx⟩/\m r=some (.cells ((l.map p).map S) 9)) (gM (α:=Nat×Nat×Mem×Nat)
  (fun s=>⟨aF [(1,.fn (.func g) fs cs),(5,.rs s.2.1 0 s.1),(8,aT l),(9,I l.length),(10,I s.1)],s.2.2.1,s.2.2.2⟩)
  (fun s=>s.1<=l.length/\s.2.1<s.2.2.2/\s.2.2.1 s.2.1=some (.cells (((l.take s.1).map p).map S) 9)) (fun s=>l.length - s.1) (0,_,_,_)
  (ao eH) ⟨Nat.zero_le _,Nat.lt_succ_self _,rfl⟩ ?_) ?_)
 .rintro⟨j,r,m,nx⟩ ⟨hj,hr,aA⟩;dsimp only at hj hr aA ⊢;refine SS ?_;refine ab ⟨_,rfl,fun h=>?_,fun h=>?_⟩
  .have M:j<l.length:=by simpa using h
   have hx:l[j]? =some l[j]:=by simp[M]
   have J:=hg l[j] (di _)
   have C:((l.take (j+1)).map p).map S=((l.take j).map p).map S++[S (p l[j])]:=by
    rw[List.take_add_one,hx,List.map_append,List.map_append];rfl
   have U:(((l.take j).map p).map S).length=j:=by simp;omega
   generalize l[j]=x at hx J C;generalize ((l.take j).map p).map S=ds at aA C U;refine ws ?_;refine av ?_;refine ab (jn ?_);refine av ?_;refine cl J ?_;refine av ?_;refine ab ?_;refine af ?_;refine ab (bg (j+1,nx+1,_,_) (ao eH) ⟨oM,oM,?_⟩ oM);dsimp only;rw[C];exact an _ _ _
  .have X:¬ j<l.length:=by simpa using h
   have:j=l.length:=by omega
   subst this;rw[List.take_length] at aA;exact⟨r,m,nx,ao eH,aA⟩
 .rintro s ⟨r,m,nx,hg,aA⟩;refine⟨_,hg,aj ?_⟩;refine af ?_;refine ab (aw rfl ⟨r,rfl,aA⟩)
theorem O8{l:List Int}{g:FuncId}{fs cs:List D}{p:Int->Int}(hl:l.length<=1000000)(ht:Tr (.fn (.func g) fs cs))(hg:∀ x∈l,az prog g (fs++[U8 x]++cs) (I (p x))):az prog 202 [iI l,.fn (.func g) fs cs] (aT (l.map p)):=by
 refine pr W6.he (.cons (nM _) (.cons ht .nil)) fun O=>?_;have hlen:=(O (iI l) oS).sl.1;unfold maxLen at hlen;refine bu W6 (.cons (nM _) (.cons ht .nil)) (dU _) ?_;rw[aiU];refine ws ?_;refine SS ?_;refine ab (ay ?_);refine SS ?_;refine ab ⟨_,.sU _ _ _ 5 3 rfl,aI (ay ?_)⟩;refine av ?_
 refine ab (cD (fun s=>∃ r m nx,aM prog s ⟨aF [(5,.rs r 0 l.length)],m,nx⟩/\m r=some (.cells ((l.map p).map I) 3)) (gM (α:=Nat×Nat×Mem×Nat)
  (fun s=>⟨aF [(1,.fn (.func g) fs cs),(5,.rs s.2.1 0 s.1),(8,iI l),(9,I l.length),(10,I s.1)],s.2.2.1,s.2.2.2⟩)
  (fun s=>s.1<=l.length/\s.2.1<s.2.2.2/\s.2.2.1 s.2.1=some (.cells (((l.take s.1).map p).map I) 3)) (fun s=>l.length - s.1) (0,_,_,_)
  (ao eH) ⟨Nat.zero_le _,Nat.lt_succ_self _,rfl⟩ ?_) ?_)
 .rintro⟨j,r,m,nx⟩ ⟨hj,hr,aA⟩;dsimp only at hj hr aA ⊢;refine SS ?_;refine ab ⟨_,rfl,fun h=>?_,fun h=>?_⟩
  .have M:j<l.length:=by simpa using h
   have hx:l[j]? =some l[j]:=by simp[M]
   have J:=hg l[j] (di _)
   have C:((l.take (j+1)).map p).map I=((l.take j).map p).map I++[I (p l[j])]:=by
    rw[List.take_add_one,hx,List.map_append,List.map_append];rfl
   have U:(((l.take j).map p).map I).length=j:=by simp;omega
   generalize l[j]=x at hx J C;generalize ((l.take j).map p).map I=ds at aA C U;refine ws ?_;refine av ?_;refine ab (jn ?_);refine av ?_;refine cl J ?_;refine av ?_;refine ab ?_;refine af ?_;refine ab (bg (j+1,nx+1,_,_) (ao eH) ⟨oM,oM,?_⟩ oM);dsimp only;rw[C];exact an _ _ _
  .have X:¬ j<l.length:=by simpa using h
   have:j=l.length:=by omega
   subst this;rw[List.take_length] at aA;exact⟨r,m,nx,ao eH,aA⟩
 .rintro s ⟨r,m,nx,hg,aA⟩;refine⟨_,hg,ay ?_⟩;refine af ?_;refine ab (aX (kY aA (l:=[(4,aT (l.map p))]) ⟨?_,trivial⟩) (aw rfl rfl));exact(mW (by rw[c3];simp)).trans oS
theorem am2{n:Int}:az prog 203 [U8 n] (I (eZ n)):=by
 refine bu aiV (by simp[Tr.s]) (Tr.s _) ?_;rw[aiW];refine ws ?_;refine SS ?_;refine er ?_;refine av ?_;exact ab (aw rfl rfl)
theorem X'{l:List Int}(hl:l.length<=1000000):az prog 147 [iI l] (aT (l.map eZ)):=by
 have O8:=O8 (l:=l) (g:=203) (fs:=[]) (cs:=[]) (p:=eZ) hl (.fn oS oS) fun x _=>am2;refine bu aiX (.cons (nM _) .nil) (dU _) ?_;rw[aiY];refine ws ?_;refine SS ?_;refine er ?_;refine SS ?_;refine cl O8 ?_;refine SS ?_;exact ab (aw rfl rfl)
theorem Ya{m:Mem}{nx j k n:Nat}{u:Bool}{x:D}{a:ByteArray}{o:Option Nat}{wsq:List ByteArray}(hj:m j=some (.bs u x 213))(hk:m k=some (.cells (wsq.map S) 9))(hb:xh m x a o)(hn:n=wsq.length)
 (ho:∀ i,o=some i->i≠j/\i<nx) (M:j<nx) (O:wsq.length<=1000000) (hs:a.size+(dH wsq).size<=140737488355328):
 gW prog 144 [.rp j 0,.rs k 0 n] m nx fun d m' aD=>d=.bd []/\m'=Dj m nx j 213 (a++dH wsq) o/\aD=nx+1:=by
 subst hn;have bS:(dH wsq).size=(jY wsq ⟨#[32]⟩).size+1:=by rw[dH,ByteArray.size_append];rfl
 have Ju:=Ju (l:=wsq) (sep:=⟨#[32]⟩) oG (by
  have:(jY wsq ⟨#[32]⟩).size=(Lib.join (wsq.map (·.data.toList)) [32]).length:=rfl;show(Lib.join (wsq.map (·.data.toList)) [32]).length<=_
  omega)
 have C:(0:Nat)=0->jx prog [k] m [.rs k 0 wsq.length,S ⟨#[32]⟩] [ez wsq,S ⟨#[32]⟩]:=fun _=>⟨uH hk oS (by rw[c9,List.drop_zero,cO oS]) (.map fun _=>.s _),cT (.s _),trivial⟩
 have O7:=O7 (s:=dH wsq) hj UK hb ho M hs;refine xj ai0 ?_;rw[ai1];have aA:=hj;refine Mw acQ kr ?_
 have J:(jY wsq ⟨#[32]⟩).size+(⟨#[10]⟩:ByteArray).size<=maxLen:=by
  show(jY wsq ⟨#[32]⟩).size+1<=_;unfold maxLen;omega
 refine aR ?_;refine z7 Ju rfl (C rfl) rfl ak ?_;refine gE (jG rfl rfl J) ak ?_;refine bN bO ?_;refine lD O7 rfl aG fun d m' aD h=>?_;obtain⟨rfl,rfl,rfl⟩:=h;exact ab (zH ⟨rfl,rfl,rfl⟩)
def EI(m:Mem)(nx j:Nat)(a:ByteArray)(o:Option Nat)(d:D)(m':Mem)(aD:Nat):Prop:=
 d=.bd []/\∃ q,q≠j/\nx<=q/\q<aD/\m' j=some (.bs true (.rs q 0 a.size) 213)/\m' q=some (.cells (gf a) 5)/\∀ i,i<nx->i≠j->o≠some i->m' i=m i
theorem TF{m C:Mem}{nx n0 j:Nat}{a:ByteArray}{o:Option Nat}(hj:j<n0)(hn:n0<=nx)(hm:∀ i,i<n0->m i=C i):EI C n0 j a o (.bd []) (Dj m nx j 213 a o) (nx+1):=by
 refine⟨rfl,nx,oG,hn,oG,an _ _ _,(aZ _ _ oG).trans (an _ _ _),fun i hi h1 h2=>?_⟩;refine((aZ _ _ h1).trans (aZ _ _ oG)).trans ?_;cases o with
 |none=>exact hm i hi
 |some k=>exact(aZ _ _ (fun e=>h2 (by rw[e]))).trans (hm i hi)
theorem xh.mono{m m':Mem}{x:D}{a:ByteArray}{o:Option Nat}(h:xh m x a o)(hm:∀ i,o=some i->m' i=m i):xh m' x a o:=by
 cases o with
 |none=>exact h
 |some i=>exact⟨h.1,(hm i rfl).trans h.2⟩
theorem Jv{m:Mem}{nx j:Nat}{u:Bool}{x y:D}{a word:ByteArray}{o:Option Nat}{l:List Int}(hj:m j=some (.bs u x 213))(hb:xh m x a o)
 (ho:∀ i,o=some i->i≠j/\i<nx) (X:j<nx) (hy:y=aT l\/∃ k,k<nx/\y=.rs k 0 l.length/\m k=some (.cells (l.map I) 3)) (hi:∀ n∈l,i64 n) (hl:l.length<=100000)
 (hs:a.size+(dH (word::l.map cr)).size<=140737488355328):
 gW prog 146 [.rp j 0,S word,y] m nx (EI m nx j (a++dH (word::l.map cr)) o):=by
 have N5:=N5 (l:=l) (g:=145) (fs:=[]) (cs:=[]) (p:=cr) oG (.fn oS oS) fun n hn=>O9 (hi n hn).1 (hi n hn).2;have M:Tr (.fn (.func 145) [] []):=.fn oS oS
 have key:∃ br,jx prog br (up m nx (some (.cells [S word] 9))) [y,.fn (.func 145) [] []] [aT l,.fn (.func 145) [] []]:=by
  rcases hy with rfl|⟨k,hk,rfl,tx⟩
  .exact⟨[],cT (dU l),cT M,trivial⟩
  .exact⟨[k],uH (au oG tx) oS (by rw[c3,List.drop_zero,cO oS]) (.map fun _=>.s _),cT M,trivial⟩
 obtain⟨br,O⟩:=key;have U:=N5.snap (nx:=nx+1) O (by simp[D.jt]);have C:y.core=y:=by rcases hy with rfl|⟨k,_,rfl,_⟩<;>rfl
 have J:y.ask:=by rcases hy with rfl|⟨k,_,rfl,_⟩<;>trivial
 refine xj ai2 ?_;rw[ai3];refine iV ?_;refine av ?_;refine aq (gX (v:=y) C) (by repeat' (first|exact trivial|exact J|refine And.intro ?_ ?_)) trivial ?_;refine lD U (by show some (201,[y.core,D.fn (Fn.func 145) [] []])=_;rw[C]) (by repeat' (first|exact trivial|exact C|exact J|exact rfl|refine And.intro ?_ ?_)) fun d m' aD h=>?_;obtain⟨rfl,rfl,rfl⟩:=h;dsimp only[St.put];refine eE (eC rfl (au oG (an _ _ _)) rfl V.h V.h (gL (an _ _ _) rfl) rfl) ak ⟨V.h,rfl,(by first|omega|exact bt rfl|(simp;done)|(simp;omega)),oC,(by first|rfl|(simp;done)|(simp;omega)),(by unfold maxLen;first|omega|(simp;omega)),(by rw[b9];first|omega|(simp;omega)),(by first|(simp;done)|(simp;omega))⟩ ?_;refine lD (Ya (k:=nx+1+1) (wsq:=word::l.map cr) (au oG (au oG (au oG (au oG hj)))) ((an _ _ _).trans (by rw[List.drop_zero,List.drop_zero,cO oS];rfl)) (hb.mono fun i hi=>?_) oP (fun i hi=>⟨(ho i hi).1,by have:=(ho i hi).2;omega⟩) oG oP hs) rfl aG fun d m' aD h=>?_
 .have:=(ho i hi).2;exact au oG (au oG (au oG (au oG rfl)))
 obtain⟨rfl,rfl,rfl⟩:=h;refine ab (zH (TF X oG fun i hi=>?_));exact au oG (au oG (au oG (au oG rfl)))
theorem Yb{m:Mem}{nx j:Nat}{u:Bool}{y:D}{a word:ByteArray}{o:Option Nat}{x:bK}(hj:m j=some (.bs u y 213))(hb:xh m y a o)
 (ho:∀ i,o=some i->i≠j/\i<nx) (ko:j<nx) (hi:Jw x) (hl:x.args.length<=10000) (hs:a.size+(Ak word x).size<=140737488355328):
 gW prog 148 [.rp j 0,S word,.agg (bA x)] m nx (EI m nx j (a++Ak word x) o):=by
 refine xj ai4 ?_;rw[ai5];refine ws ?_;refine SS ?_;refine ab (iV ?_);have aA:up m nx (some (Row.cells (bA x) 54)) nx=some (.cells [U8 x.op,I x.to,I x.a,I x.b,I x.n,aT x.args] 54):=an _ _ _;have C:(x.args.map I).take (x.args.length*1)=x.args.map I:=cO oS;refine bj ?_;refine bm ?_;refine aq (mX rfl (au oG aA) V.h) ak (je V.h) ?_;refine aq (eR rfl (au oG aA) rfl V.h) ak (eS V.h V.h rfl) ?_;refine eE (eC rfl (an _ _ _) rfl dm c3 (fN C) rfl) aG ⟨df,rfl,oS,oC,rfl,by unfold maxLen;omega,by rw[b3];omega,oS⟩ ?_;refine lD (Jv (y:=.rs (nx+1+1) 0 (5+x.args.length)) (l:=nB x) (word:=word) (au oG (au oG (au oG (au oG hj)))) (hb.mono fun i hi=>?_) (fun i hi=>⟨(ho i hi).1,by have:=(ho i hi).2;omega⟩) oG (.inr ⟨nx+1+1,oG,congrArg (D.rs _ 0) (by simp[nB];omega),an _ _ _⟩) hi (by simp[nB];omega) hs) rfl aG fun d m' aD h=>?_
 .have:=(ho i hi).2;exact au oG (au oG (au oG (au oG rfl)))
 refine ab (zH ?_);obtain⟨rfl,q,h1,h2,J,M,O,U⟩:=h;exact⟨rfl,q,h1,oG,J,M,O,fun i hi X h8=>(U i oG X h8).trans (au oG (au oG (au oG (au oG rfl))))⟩
end Go.Proofs.Tryz.K
end
namespace Go.Argus
abbrev W8:=List UInt8
def yw:List W8->W8
 |[]=>[]
 |[w]=>w
 |w::v::l=>w++32::yw (v::l)
def Oo(wsq:List W8):W8:=yw wsq++[10]
def Nq(w:W8):Prop:=(32:UInt8)∉w/\(10:UInt8)∉w
end Go.Argus
namespace Go.Argus
open Go
theorem Te:∀ (u:Nat),∀ c∈Lib.decDigits u,48<=c.toNat/\c.toNat<=57:=fun u=>by
 induction u using Nat.strongRecOn with
 |_ u ih=>
  intro c hc;rw[Lib.decDigits] at hc;split at hc
  .simp only[List.mem_cons,List.not_mem_nil,or_false] at hc;subst hc;rw[UInt8.toNat_ofNat_of_lt' (by simp[UInt8.size];omega)];omega
  .rw[List.mem_append] at hc;rcases hc with hc|hc
   .exact ih (u / 10) oG c hc
   .simp only[List.mem_cons,List.not_mem_nil,or_false] at hc;subst hc;rw[UInt8.toNat_ofNat_of_lt' (by simp[UInt8.size];omega)];omega
theorem ab0(n:Int):∀ c∈Lib.itoa n,c.toNat=45\/(48<=c.toNat/\c.toNat<=57):=fun c hc=>by
 unfold Lib.itoa at hc;split at hc
 .rcases List.mem_cons.1 hc with rfl|hc
  .exact .inl rfl
  .exact .inr (Te _ c hc)
 .exact .inr (Te _ c hc)
theorem ab1{u:Nat}:∀ (k:Nat),u<10 ^ (k+1)->Lib.nDigits u<=k+1:=fun k h=>by
 refine Classical.byContradiction fun hn=>?_
 have h1:∀ (j v:Nat),j+1<Lib.nDigits v->10 ^ (j+1)<=v:=by
  intro j
  induction j with
  |zero=>
   intro v hv;refine Classical.byContradiction fun hc=>?_;rw[Lib.nDigits_small oG] at hv;omega
  |succ j ih=>
   intro v hv;by_cases C:v<10
   .rw[Lib.nDigits_small C] at hv;omega
   .rw[Lib.nDigits_big C] at hv;have:=ih (v / 10) oG;rw[Nat.pow_succ];omega
 have:=h1 k u oG;omega
theorem aaY(n:Int):Nq (Lib.itoa n):=by
 constructor<;>intro h<;>have:=ab0 n _ h<;>revert this<;>decide
theorem join_eq:∀ l:List W8,Lib.join l [32]=yw l
 |[]=>rfl
 |[w]=>by rw[Lib.join_one];rfl
 |w::v::l=>by
  have ih:=join_eq (v::l);rw[Lib.join_cons] at ih ⊢;rw[yw, <- ih];simp[Lib.joinTail]
theorem Tf:∀ l:List W8,(yw l).length<=(l.map fun w=>w.length+1).sum
 |[]=>by simp[yw]
 |[w]=>by simp[yw]
 |w::v::l=>by
  have ih:=Tf (v::l);simp only[yw,List.length_append,List.length_cons,List.map_cons,List.sum_cons] at ih ⊢;omega
end Go.Argus
section
open Go Go.Abs Go.Proofs Go.Argus
namespace Go.Argus
def ew(n:Int):Prop:= -1000000000<=n/\n<=1000000000
theorem ew.i{n:Int}(h:ew n):i64 n:=by unfold ew at h;unfold i64;omega
structure xV(x:bK):Prop where
 to:ew x.to
 a:ew x.a
 b:ew x.b
 n:ew x.n
 args:∀ r∈x.args,ew r
 len:x.args.length<=1200
theorem vW{l:List Int}{r:Int}(hl:l.length<=1200)(h:js l r):ew r:=by unfold js at h;unfold ew;omega
theorem fH:ew 0:=by unfold ew;omega
theorem ng{l:List Int}(h:l.length=0):(∀ r∈l,ew r)/\l.length<=1200:=by
 cases l with
 |nil=>exact⟨oS,oS⟩
 |cons a l=>simp at h
theorem LN{l:List Int}{r want of:Int}(hl:l.length<=1200)(h:lQ l r want of=true):ew r:=by
 by_cases C:want=0
 .unfold lQ at h;rw[if_pos C] at h;have:r=0:=by simpa using h
  rw[this];exact fH
 .exact vW hl (Ho h C)
theorem ab2:(lB++iP).all (fun x=>decide (-1000000000<=x.2.low)&&decide (x.2.high<=1000000000))=true:=by decide
theorem Sa{l:List Int}{x:bK}{s:Shape}(hl:l.length<=1200)(hm:(x.op,s)∈lB\/(x.op,s)∈iP)(h:oK l x s=true):xV x:=by
 have hs:=bT.1 ab2 (x.op,s) (List.mem_append.2 hm);simp only[aB,decide_eq_true_eq] at hs;unfold oK at h;simp only[aB] at h;obtain⟨h1,h2,M,C,O⟩:=h;have hn:ew x.n:=by have:=iW.1 O;unfold ew;omega
 have J:(∀ r∈x.args,ew r)/\x.args.length<=1200:=by
  unfold ql at C;split at C
  .rw[aB] at C;have:=iW.1 C.1;exact⟨fun r hr=>vW hl (sH C.2 r hr),oG⟩
  .split at C
   .rw[aB] at C;have:(x.args.length:Int)=1:=by simpa using C.1
    exact⟨fun r hr=>vW hl (sH C.2 r hr),oG⟩
   .exact ng (by have:(x.args.length:Int)=0:=by simpa using C
                 omega)
 exact⟨LN hl h1,LN hl h2,LN hl M,hn,J.1,J.2⟩
theorem adP{f:aK}{b:Int}{ahead:Nat}{x:bK}{phis:Bool}(hl:f.ag.length<=1200)(hs:∀ k∈f.aN,k≠0)(jj:f.aN.length<=60)(ha:ahead<=1200)(h:jb f b x phis ahead=true):xV x:=by
 unfold jb at h;have J:jW x=true->(∀ r∈x.args,ew r)/\x.args.length<=1200:=fun h=>ng (by unfold jW at h;simp at h;simp[h]);split at h
 .simp only[aB,iK] at h;obtain⟨h1,h2,C,M,h5⟩:=h;exact⟨by rw[h1];exact fH,vW hl (iY oG),by rw[C];exact fH,by rw[M];exact fH,(J h5).1,(J h5).2⟩
 split at h
 .simp only[aB,iK] at h;obtain⟨h1,h2,C,M⟩:=h;obtain⟨U,g2,O⟩:=Eh hs M;exact⟨vW hl U,by rw[h1];exact fH,by rw[h2];exact fH,by unfold ew;omega,(J C).1,(J C).2⟩
 split at h
 .simp only[aB,iK] at h;obtain⟨h1,h2,C,M⟩:=h;obtain⟨U,g2,O⟩:=Eh hs M;exact⟨by rw[h1];exact fH,vW hl U,by rw[h2];exact fH,by unfold ew;omega,(J C).1,(J C).2⟩
 split at h
 .simp only[aB,iK] at h;obtain⟨_,_,O,g4,g5,g6,g7,g8⟩:=h;have hk:cB f.ag x.to≠0:=fun e=>by simp[eU,e] at O
  refine⟨vW hl (mZ O),by rw[g4];exact fH,by rw[g5];exact fH,by rw[g6];exact fH,fun r hr=>?_,oG⟩
  have:aQ (cB f.ag r) (cB f.ag x.to)=true:=by
   simp only[Bool.not_eq_true',List.any_eq_false] at g8;simpa using g8 r hr
  rw[iK] at this;exact vW hl (iY (by rw[this];exact hk))
 .rw[aB] at h;cases X:fk lB x.op with
  |none=>rw[X] at h;simp at h
  |some s=>rw[X] at h;exact Sa hl (.inl (zq X)) h.2
abbrev bW(w:ByteArray):W8:=w.data.toList
theorem agY(s:ByteArray):∀ (n i:Nat) (r:List UInt8),s.size - i=n->ByteArray.toList.loop s i r=r.reverse++s.data.toList.drop i:=by
 intro n
 induction n with
 |zero=>
  intro i r h;unfold ByteArray.toList.loop;rw[if_neg oG,List.drop_eq_nil_of_le (by show s.data.size<=i;have:s.size=s.data.size:=rfl;omega)];simp
 |succ n ih=>
  intro i r h;unfold ByteArray.toList.loop;rw[if_pos oG,ih (i+1) _ oG];have hi:i<s.data.toList.length:=by show i<s.data.size;have:s.size=s.data.size:=rfl;omega
  have h2:i<s.data.size:=hi;rw[List.drop_eq_getElem_cons hi]
  have:s.get! i=s.data.toList[i]:=by
   show s.data[i]! =_;rw[getElem!_pos s.data i h2];rfl
  rw[this];simp
theorem LA(s:ByteArray):s.toList=s.data.toList:=by
 unfold ByteArray.toList;rw[agY s _ 0 [] rfl];simp
theorem wj{a b:ByteArray}(h:bW a=bW b):a=b:=by
 obtain⟨⟨l⟩⟩:=a;obtain⟨⟨m⟩⟩:=b;simp at h;simp[h]
def kx(w:ByteArray):Prop:=w.size<=120/\Nq (bW w)
theorem GJ{s:ByteArray}{c:UInt8}(h:c∈bW s):(c.toNat:Int)∈dd s:=List.mem_map_of_mem (f:=fun c=>(c.toNat:Int)) h
theorem MN{s:ByteArray}(h:jr s=true):kx s:=by
 unfold jr at h;simp only[aB,Bool.not_eq_true',List.any_eq_false] at h;have h1:=iW.1 h.1;refine⟨oG,fun hc=>?_,fun hc=>?_⟩
 .exact absurd (h.2 _ (GJ hc)) oC
 .exact absurd (h.2 _ (GJ hc)) oC
theorem MO{s:ByteArray}(h:isName s=true):kx s:=by
 unfold isName at h;simp only[aB,Bool.not_eq_true',List.any_eq_false] at h;have h1:=iW.1 h.1;refine⟨oG,fun hc=>?_,fun hc=>?_⟩
 .exact absurd (h.2 _ (GJ hc)) oC
 .exact absurd (h.2 _ (GJ hc)) oC
theorem B0{s:ByteArray}(h:s.toList=[]):kx s:=by
 rw[LA] at h;refine⟨?_,?_⟩
 .have:s.size=(bW s).length:=rfl;rw[this];unfold bW;rw[h];simp
 .unfold bW;rw[h];simp[Nq]
structure IH(x:End):Prop where
 kind:1<=x.kind/\x.kind<=9
 a:ew x.a
 b:ew x.b
 to:ew x.to
 fL:ew x.fL
 others:ew x.others
 args:∀ r∈x.args,ew r
 len:x.args.length<=1200
 ins:xV x.ins
 aC:x.aC.length<=7
 wh:∀ w∈x.aC,ew w.to/\isName w.name=true
 name:kx x.name
theorem afG{x:End}(h:s7 x=true):(x.kind=0/\x.a=0/\x.b=0/\x.to=0/\x.fL=0/\x.others= -1)/\x.args.length=0/\x.aC.length=0/\x.name.toList=[]/\xV x.ins:=by
 simp only[s7,aB,decide_eq_true_eq,xY,beq_iff_eq] at h;obtain⟨h1,h2,J,M,O,U,X,h8,h9,nJ,rD,sD,tW,C,Q8⟩:=h;have:=ng (l:=x.ins.args) oG;exact⟨⟨h1,h2,J,M,O,X⟩,oG,oG,U,by rw[rD];exact fH,by rw[sD];exact fH,by rw[tW];exact fH,by rw[C];exact fH,this.1,this.2⟩
theorem aaZ{f:aK}{x:End}(hb:f.blocks.length<=1200)(h:kz f x=true):x.aC.length<=7/\(∀ w∈x.aC,ew w.to/\isName w.name=true)/\ew x.others:=by
 obtain⟨h1,h2,J⟩:=GS h;refine⟨h1,fun w C=>⟨by have:=h2 w C;unfold ew;omega,?_⟩,?_⟩
 .unfold kz at h;rw[aB] at h;obtain⟨i,hi⟩:=dR C;have:=bT.1 h.1 (w,i) (List.mem_zipIdx_iff_getElem?.2 hi);simp only[nX,aB] at this;exact this.1
 .by_cases h0:0<=x.others
  .have:=J h0;unfold ew;omega
  .unfold kz at h;rw[aB,aB,Bool.or_eq_true] at h;rcases h.2.2 with h|h
   .have:x.others= -1:=by simpa using h
    unfold ew;omega
   .rw[cv,iW] at h;unfold ew;omega
theorem adQ{f:aK}{x:End}(hl:f.ag.length<=1200)(oq:f.blocks.length<=1200)(hr:oB f=true)(h:gB f x=true):IH x:=by
 have U:∀ {r:Int},js f.ag r->ew r:=fun h=>vW hl h;unfold gB at h;rw[aB] at h;obtain⟨h,hb⟩:=h;have hb:=afG hb;have O:∀ {t:Int},cv f t=true->ew t:=fun h=>by rw[cv,iW] at h;unfold ew;omega
 have zn:ew (-1):=by unfold ew;omega
 have hh:=aaZ (x:=x) oq;obtain⟨kind,a,b,to,fL,name,ins,args,aC,others⟩:=x;simp only[fw] at h hb;by_cases h1:kind=1
 .subst h1;simp only[if_true] at h hb;obtain⟨⟨b1,b2,b3,b4,b5,b6⟩,b7,b8,b9,mU⟩:=hb;have M:aC=[]:=List.length_eq_zero_iff.1 b8;subst M b2 b3 b5 b6;exact⟨(⟨oC,oC⟩:(1:Int)<=1/\(1:Int)<=9),fH,fH,O h,fH,zn,(ng b7).1,(ng b7).2,mU,oS,oS,B0 b9⟩
 by_cases h2:kind=2
 .subst h2;simp only[Int.reduceEq,if_false,if_true,aB,iK] at h hb;obtain⟨⟨b1,b2,b3,b4,b5,b6⟩,b7,b8,b9,mU⟩:=hb;have M:aC=[]:=List.length_eq_zero_iff.1 b8;subst M b3 b6;exact⟨(⟨oC,oC⟩:(1:Int)<=2/\(2:Int)<=9),U (iY (l:=f.ag) (r:=a) oG),fH,O h.2.1,O h.2.2,zn,(ng b7).1,(ng b7).2,mU,oS,oS,B0 b9⟩
 by_cases C:kind=3
 .subst C;simp only[Int.reduceEq,if_false,if_true] at h hb;obtain⟨⟨b1,b2,b3,b4,b5,b6⟩,b7,b8,b9,mU⟩:=hb;have M:aC=[]:=List.length_eq_zero_iff.1 b8;subst M b3 b4 b5 b6;refine⟨(⟨oC,oC⟩:(1:Int)<=3/\(3:Int)<=9),?_,fH,fH,fH,zn,(ng b7).1,(ng b7).2,mU,oS,oS,B0 b9⟩;split at h
  .rename_i hc;rw[iK] at h;exact U (iY (by rw[h];exact hc.1))
  .rw[iK] at h;show ew a;rw[h];exact zn
 by_cases J:kind=4
 .subst J;simp only[Int.reduceEq,if_false,if_true] at h hb;obtain⟨⟨b1,b2,b3,b4,b5,b6⟩,b7,b8,b9,mU⟩:=hb;have M:aC=[]:=List.length_eq_zero_iff.1 b8;subst M b2 b3 b4 b5 b6;exact⟨(⟨oC,oC⟩:(1:Int)<=4/\(4:Int)<=9),fH,fH,fH,fH,zn,(ng b7).1,(ng b7).2,mU,oS,oS,MO h⟩
 by_cases X:kind=5
 .subst X;simp only[Int.reduceEq,if_false,if_true,aB] at h hb;obtain⟨⟨b1,b2,b3,b4,b5,b6⟩,b7,b8,b9,mU⟩:=hb;obtain⟨h1,h2,C,J⟩:=h;obtain⟨g1,g2,g3⟩:=hh J;subst b2 b3 b5;refine⟨(⟨oC,oC⟩:(1:Int)<=5/\(5:Int)<=9),fH,fH,O C,fH,g3,(ng b7).1,(ng b7).2,?_,g1,g2,B0 b9⟩;cases p8:fk iP ins.op with
  |none=>rw[p8] at h1;simp at h1
  |some s=>rw[p8] at h2;exact Sa hl (.inr (zq p8)) h2
 by_cases h6:kind=6
 .subst h6;simp only[Int.reduceEq,if_false,if_true,aB,decide_eq_true_eq,Bool.or_eq_true,iK] at h hb;obtain⟨⟨b1,b2,b3,b4,b5,b6⟩,b7,b8,b9,mU⟩:=hb;obtain⟨h1,h2,C,J,X,h6⟩:=h;obtain⟨g1,g2,g3⟩:=hh h6;subst b3 b5;refine⟨(⟨oC,oC⟩:(1:Int)<=6/\(6:Int)<=9),?_,fH,O X,fH,g3,fun r hr=>U (sH C r hr),?_,mU,g1,g2,MN h1⟩
  .show ew a;rcases J with rfl|J
   .exact zn
   .exact U (mZ J)
  .show args.length<=1200;omega
 by_cases h7:kind=7
 .subst h7;simp only[Int.reduceEq,if_false,if_true,aB,decide_eq_true_eq,iK] at h hb;obtain⟨⟨b1,b2,b3,b4,b5,b6⟩,b7,b8,b9,mU⟩:=hb;obtain⟨h1,h2,C,J,X⟩:=h;have M:aC=[]:=List.length_eq_zero_iff.1 b8;subst M b3 b5 b6;refine⟨(⟨oC,oC⟩:(1:Int)<=7/\(7:Int)<=9),U (iY (l:=f.ag) (r:=a) oG),fH,O X,fH,zn,fun r hr=>U (sH C r hr),?_,mU,oS,oS,MN h1⟩;show args.length<=1200;omega
 by_cases h8:kind=8
 .subst h8;simp only[Int.reduceEq,if_false,if_true,aB,iK] at h hb;obtain⟨⟨b1,b2,b3,b4,b5,b6⟩,b7,b8,b9,mU⟩:=hb;obtain⟨h1,h2,C,J,X⟩:=h;obtain⟨g1,g2,g3⟩:=hh X;exact⟨(⟨oC,oC⟩:(1:Int)<=8/\(8:Int)<=9),U (iY (l:=f.ag) (r:=a) oG),U (mZ h2),O C,O J,g3,(ng b7).1,(ng b7).2,mU,g1,g2,B0 b9⟩
 by_cases h9:kind=9
 .subst h9;simp only[Int.reduceEq,if_false,if_true,aB,iK] at h hb;obtain⟨⟨b1,b2,b3,b4,b5,b6⟩,b7,b8,b9,mU⟩:=hb;obtain⟨h1,h2,C⟩:=h;have M:aC=[]:=List.length_eq_zero_iff.1 b8;subst M b3 b5 b6;refine⟨(⟨oC,oC⟩:(1:Int)<=9/\(9:Int)<=9),U (iY (l:=f.ag) (r:=a) ?_),fH,O C,fH,zn,(ng b7).1,(ng b7).2,mU,oS,oS,B0 b9⟩;rw[h2];intro e;simp[oB,e,h1] at hr
 .simp only[h1,h2,C,J,X,h6,h7,h8,h9,if_false] at h;cases h
def yJ(a:ByteArray):List Int:=a.data.toList.map fun c=>(c.toNat:Int)
theorem ahx(a:ByteArray):gf a=la (yJ a):=by simp[gf,la,yJ]
theorem agm(a:ByteArray):mkStr (yJ a)=a:=by
 unfold mkStr yJ;rw[List.map_map];have:(fun n:Int=>UInt8.ofNat n.toNat) ∘ (fun c:UInt8=>(c.toNat:Int))=id:=by funext c;simp
 rw[this,List.map_id]
theorem aeJ(a:ByteArray):(yJ a).length=a.size:=by simp[yJ]
theorem aeK(a:ByteArray):∀ x∈yJ a,0<=x/\x<256:=by
 intro x hx;obtain⟨c,_,rfl⟩:=List.mem_map.1 hx;have:=c.toNat_lt;omega
def nV:ByteArray:=⟨#[102,108,111,119]⟩
def Xx:ByteArray:=⟨#[112,114,111,99]⟩
def Xy:ByteArray:=⟨#[105,116,101,114]⟩
def qE:ByteArray:=⟨#[114,101,103,115]⟩
def uz:ByteArray:=⟨#[115,108,111,116,115]⟩
def qu:ByteArray:=⟨#[115,105,103,110,97,108,115]⟩
def fQ:ByteArray:=⟨#[98,108,111,99,107]⟩
def kN:ByteArray:=⟨#[105,110,115]⟩
def Cw:ByteArray:=⟨#[101,110,100]⟩
def yp:ByteArray:=⟨#[110,97,109,101]⟩
def tk:ByteArray:=⟨#[116,114,121]⟩
def Aa:ByteArray:=⟨#[119,104,101,110]⟩
def cn:List (List ByteArray)->ByteArray
 |[]=>ByteArray.empty
 |l::ls=>dH l++cn ls
theorem Lj:∀ a b:List (List ByteArray),cn (a++b)=cn a++cn b
 |[],b=>by simp[cn]
 |l::a,b=>by simp only[List.cons_append,cn,Lj a b,ByteArray.append_assoc]
theorem vK(a:List (List ByteArray))(l:List ByteArray):cn (a++[l])=cn a++dH l:=by rw[Lj];simp[cn]
theorem ahW{a b:List (List ByteArray)}(h:a<+:b):(cn a).size<=(cn b).size:=by
 obtain⟨c,rfl⟩:=h;rw[Lj,ByteArray.size_append];omega
def jh(word:ByteArray)(x:bK):List ByteArray:=word::(nB x).map cr
def mM(x:End):List Int:=eZ x.kind::x.a::x.b::x.to::x.fL::x.others::x.args
def n6(x:End):List ByteArray:=Cw::(mM x).map cr
def eX(x:End):List (List ByteArray):=if x.name.toList=[] then [] else [[yp,x.name]]
def gu(x:End):List (List ByteArray):=if x.kind=5 then [jh tk x.ins] else []
def io(w:jM):List ByteArray:=[Aa,w.name,cr w.to]
def ld(b:bB):List (List ByteArray):=b.ins.map (jh kN)
def ni(b:bB):List (List ByteArray):=[fQ]::(ld b++(n6 b.fin::(eX b.fin++(gu b.fin++b.fin.aC.map io))))
def jZ(f:aK):ByteArray:=if f.iter then Xy else Xx
def wy(f:aK):List (List ByteArray):=[[nV,f.name,jZ f,cr f.args,cr (eZ f.result)],qE::(f.ag.map eZ).map cr,uz::(f.aN.map eZ).map cr,qu::f.signals]
def j9(f:aK):List (List ByteArray):=wy f++f.blocks.flatMap ni
def wz(f:aK):ByteArray:=cn (j9 f)
structure EA(f:aK):Prop where
 args:i64 f.args
 ag:f.ag.length<=100000
 aN:f.aN.length<=100000
 sigs:f.signals.length<=100000
 Yc:f.blocks.length<=100000
 anl:∀ b∈f.blocks,b.ins.length<=100000
 ins:∀ b∈f.blocks,∀ x∈b.ins,Jw x/\x.args.length<=10000
 fin:∀ b∈f.blocks,(∀ n∈mM b.fin,i64 n)/\b.fin.args.length<=10000/\Jw b.fin.ins/\b.fin.ins.args.length<=10000/\b.fin.aC.length<=100000/\∀ w∈b.fin.aC,i64 w.to
 size:(wz f).size<=140737488355328
def dT(f:aK)(k:Nat):List (List ByteArray):=wy f++(f.blocks.take k).flatMap ni
theorem L6{f:aK}{k:Nat}{b:bB}(h:f.blocks[k]? =some b):dT f (k+1)=dT f k++ni b:=by
 unfold dT;rw[List.take_add_one,h];simp[List.flatMap_append]
theorem Bi{f:aK}{k:Nat}{b:bB}(h:f.blocks[k]? =some b){p:List (List ByteArray)}(hp:p<+:ni b):dT f k++p<+:j9 f:=by
 have h1:dT f k++p<+:dT f (k+1):=by rw[L6 h];exact(List.prefix_append_right_inj _).2 hp
 refine h1.trans ?_;refine⟨(f.blocks.drop (k+1)).flatMap ni,?_⟩;unfold dT j9;rw[List.append_assoc, <- List.flatMap_append,List.take_append_drop]
theorem EA.le{f:aK}(h:EA f){p:List (List ByteArray)}{l:List ByteArray}(hp:p++[l]<+:j9 f):(cn p).size+(dH l).size<=140737488355328:=by
 have h1:=ahW hp;rw[vK,ByteArray.size_append] at h1;have:=h.size;unfold wz at this;omega
def ja(b:bB):Bool:=decide (b.fin.kind=6)||decide (b.fin.kind=7)
def dG(bs:List bB):List ByteArray:=(bs.filter ja).map (·.fin.name)
theorem KP(bs:List bB)(b:bB):dG (bs++[b])=dG bs++if ja b then [b.fin.name] else []:=by
 unfold dG;rw[List.filter_append,List.map_append];cases h:ja b<;>simp[h]
theorem GM(bs:List bB):(dG bs).length<=bs.length:=by
 unfold dG;rw[List.length_map];exact List.length_filter_le _ _
end Go.Argus
end
namespace Go.Argus
open Go Go.Abs
def MK(l:List Int):Prop:=∀ (i j:Nat) x y,i<=j->l[i]? =some x->l[j]? =some y->x<=y
def aoo(l:List Int)(j k:Nat):Prop:=(∀ p q,p<q->q<=k->p≠j->q≠j->l.getD p 0<=l.getD q 0)/\∀ q,j<q->q<=k->l.getD j 0<=l.getD q 0
def YA(l:List Int)(k:Nat):Prop:=∀ p q,p<=q->q<=k->l.getD p 0<=l.getD q 0
theorem S5{l:List Int}{j:Nat}(h:j+1<l.length)(i:Nat):(swapAt l j).getD i 0=if i=j then l.getD (j+1) 0 else if i=j+1 then l.getD j 0 else l.getD i 0:=by
 unfold swapAt;simp only[eh,List.getElem?_set,List.length_set];by_cases e:j=i
 .subst e;rw[if_pos rfl,if_pos rfl,if_pos oG];rfl
 .rw[if_neg e,if_neg (show ¬ i=j from fun h=>e h.symm)];by_cases e2:j+1=i
  .subst e2;rw[if_pos rfl,if_pos rfl,if_pos h];rfl
  .rw[if_neg e2,if_neg (show ¬ i=j+1 from fun h=>e2 h.symm)]
theorem U7{k:Nat}:∀ {j:Nat} {l:List Int},j<=k->k<l.length->aoo l j k->YA (pZ l j) k
 |0,l,_,_,h=>fun p q J hq=>by
  rw[pZ];rcases Nat.lt_or_ge p q with g|g
  .by_cases hp:p=0
   .subst hp;exact h.2 q g hq
   .exact h.1 p q g hq hp oG
  .have:p=q:=by omega
   subst this;exact Int.le_refl _
 |j+1,l,hj,hk,h=>by
  rw[pZ];split
  .rename_i al;have hs:=S5 (l:=l) (j:=j) oG;refine U7 oG (by simpa using hk) ⟨fun p q J hq hp O=>?_,fun q hq M=>?_⟩
   .rw[hs,hs,if_neg hp,if_neg O];by_cases C:p=j+1
    .rw[if_pos C,if_neg oG];exact h.1 j q oG hq oG oG
    .rw[if_neg C];by_cases e2:q=j+1
     .rw[if_pos e2];exact h.1 p j oG oG C oG
     .rw[if_neg e2];exact h.1 p q J hq C e2
   .rw[hs,hs,if_pos rfl,if_neg oG];by_cases e2:q=j+1
    .rw[if_pos e2];omega
    .rw[if_neg e2];exact h.2 q oG M
  .rename_i U;intro p q J hq;rcases Nat.lt_or_ge p q with g|g
   .by_cases C:p=j+1
    .subst C;exact h.2 q g hq
    .by_cases e2:q=j+1
     .subst e2;by_cases e3:p=j
      .subst e3;omega
      .have:=h.1 p j oG oG oG oG;omega
     .exact h.1 p q g hq C e2
   .have:p=q:=by omega
    subst this;exact Int.le_refl _
theorem TU{i:Nat}:∀ {j:Nat} {l:List Int},j<i->j<l.length->(pZ l j).getD i 0=l.getD i 0
 |0,l,_,_=>rfl
 |j+1,l,h,hl=>by
  rw[pZ];split
  .rw[TU oG oP,S5 oG,if_neg oG,if_neg oG]
  .rfl
theorem TV{l:List Int}:∀ k,k<l.length->YA (nW l k) k/\∀ i,k<i->(nW l k).getD i 0=l.getD i 0
 |0,_=>⟨fun p q C hq=>by
  have:p=q:=by omega
  subst this;exact Int.le_refl _,fun _ _=>rfl⟩
 |k+1,hk=>by
  obtain⟨h1,h2⟩:=TV (l:=l) k oG;rw[nW];refine⟨U7 (bM _) (by simpa using hk) ⟨fun p q C hq hp J=>h1 p q oG oG,fun q hq J=>by omega⟩,fun i hi=>?_⟩;rw[TU hi oP];exact h2 i oG
theorem aax(l:List Int):MK (oV l):=fun i j x y C hx hy=>by
 obtain⟨hj,J⟩:=bX.1 hy;have hl:(oV l).length=l.length:=SG l;have h:=(TV (l:=l) (l.length - 1) oG).1 i j C oG;have e:nW l (l.length - 1)=oV l:=rfl;rw[e,eh,eh,hx,hy] at h;exact h
theorem Wd{d:List Int}(hs:MK d):∀ t,t<=d.length->(gl d t).Pairwise (·<·)/\(0<t->∀ x∈gl d t,x<=d.getD (t - 1) 0)
 |0,_=>⟨by simp[gl],fun h=>absurd h (Nat.lt_irrefl 0)⟩
 |t+1,ht=>by
  obtain⟨h1,h2⟩:=Wd hs t oG
  have hg:∀ i,i<d.length->d[i]? =some (d.getD i 0):=fun i hi=>by
   have:=bc hi;rw[eh,this];rfl
  have C:∀ x∈gl d t,x<=d.getD t 0:=fun x hx=>by
   have h0:0<t:=by
    cases t with
    |zero=>simp[gl] at hx
    |succ t=>omega
   have a:=h2 h0 x hx;have b:=hs (t - 1) t _ _ oG (hg _ oG) (hg _ oG);omega
  rw[gl];split
  .rw[List.append_nil];exact⟨h1,fun _ x hx=>by rw[Nat.add_sub_cancel];exact C x hx⟩
  .rename_i J;refine⟨?_,fun _ x hx=>?_⟩
   .rw[List.pairwise_append];refine⟨h1,oS,fun x hx y hy=>?_⟩;rw[List.mem_singleton] at hy;subst hy
    have h0:0<t:=by
     cases t with
     |zero=>simp[gl] at hx
     |succ t=>omega
    have a:=h2 h0 x hx;have b:=hs (t - 1) t _ _ oG (hg _ oG) (hg _ oG);have c:d.getD t 0≠d.getD (t - 1) 0:=fun e=>J ⟨oG,e⟩;omega
   .rw[Nat.add_sub_cancel];rw[List.mem_append,List.mem_singleton] at hx;rcases hx with hx|hx
    .exact C x hx
    .rw[hx];exact Int.le_refl _
theorem aaX{d:List Int}(hs:MK d):(oA d).Pairwise (·<·):=(Wd hs _ (bM _)).1
theorem S6(x:End):(Go.Proofs.Tryz.K.nextR x).Pairwise (·<·):=aaX (aax _)
theorem abV{b:Nat}:∀ (l:List Int) (L:Nat->List Int),l.Pairwise (·<·)->(∀ t∈l,0<=t)->(∀ i,(L i).Pairwise (·<·)/\∀ x∈L i,x<(b:Int))->
 ∀ i,(l.foldl (fY b) L i).Pairwise (·<·)/\(∀ x∈l.foldl (fY b) L i,x<(b:Int)+1):=fun l=>by
 have key:∀ (l:List Int) (L:Nat->List Int),l.Pairwise (·<·)->(∀ t∈l,0<=t)->∀ i,l.foldl (fY b) L i=L i++(if(i:Int)∈l then [(b:Int)] else []):=fun l=>by
  induction l with
  |nil=>intro L _ _ i;simp
  |cons t l ih=>
   intro L hp h0 i;rw[List.pairwise_cons] at hp;have ht:=h0 t oS;obtain⟨C,rfl⟩:=iG ht;rw[List.foldl_cons,ih _ hp.2 (fun t h=>h0 t (by simp[h]))];unfold fY;simp only[eI,up];by_cases e:i=C
   .subst e;rw[if_pos rfl,if_neg (fun h=>by have:=hp.1 _ h;omega),if_pos oS,List.append_nil]
   .rw[if_neg e];congr 1;have:¬ (i:Int)=C:=by omega
    simp[this]
 intro L hp h0 J i;rw[key l L hp h0 i];obtain⟨h1,h2⟩:=J i;split
 .refine⟨?_,fun x hx=>?_⟩
  .rw[List.pairwise_append];exact⟨h1,oS,fun x hx y hy=>by rw[List.mem_singleton] at hy;rw[hy];exact h2 x hx⟩
  .rw[List.mem_append,List.mem_singleton] at hx;rcases hx with hx|hx
   .have:=h2 x hx;omega
   .omega
 .rw[List.append_nil];exact⟨h1,fun x hx=>by have:=h2 x hx;omega⟩
theorem GV{bs:List bB}(h0:∀ b∈bs,∀ t∈Go.Proofs.Tryz.K.nextR b.fin,0<=t):∀ k i,(cw bs k i).Pairwise (·<·)/\∀ x∈cw bs k i,x<(k:Int)
 |0,i=>by simp[cw]
 |k+1,i=>by
  have ih:=GV h0 k;have e:cw bs (k+1)=pK bs (cw bs k) k:=by rw[cw,List.range_succ,List.foldl_append];rfl
  rw[e];unfold pK;cases hx:bs[k]? with
  |none=>exact⟨(ih i).1,fun x hx=>by have:=(ih i).2 x hx;omega⟩
  |some b=>
   obtain⟨h1,h2⟩:=abV (b:=k) (Go.Proofs.Tryz.K.nextR b.fin) (cw bs k) (S6 _) (h0 b (cx hx)) ih i;exact⟨h1,fun x hx=>by have:=h2 x hx;omega⟩
theorem U9:∀ {l:List Int} {a k:Nat},l.Pairwise (·<·)->(∀ x∈l,(a:Int)<=x/\x<(k:Int))->l.length<=k - a
 |[],_,_,_,_=>Nat.zero_le _
 |x::l,a,k,hp,h=>by
  rw[List.pairwise_cons] at hp;have hx:=h x oS;obtain⟨C,rfl⟩:=iG (show 0<=x by omega)
  have:=U9 (l:=l) (a:=C+1) (k:=k) hp.2 fun y hy=>by
   have:=hp.1 y hy;have:=h y (by simp[hy]);omega
  rw[List.length_cons];omega
end Go.Argus
section
open Go Go.Abs Go.Proofs Go.Argus
namespace Go.Proofs.Tryz.K
theorem am3{m:Mem}{nx j i:Nat}{u:Bool}{a:ByteArray}{T:TypeId}(hj:m j=some (.bs u (.rs i 0 a.size) T))(hi:m i=some (.cells (gf a) 5))(h0:0<a.size)(hs:a.size<=140737488355328):
 gW prog 120 [.rp j 0] m nx fun d m' aD=>d=S a/\m'=up m i none/\aD=nx:=by
 refine xj ai6 ?_;rw[ai7];refine ws ?_;refine SS ?_;refine ab (ej acR ?_);have aA:=hj;have mF:=hi;have X:=aeJ a;have U:((gf a).drop 0).take a.size=la (yJ a):=by rw[List.drop_zero,cO (by simp[gf]),ahx]
 have J:=h0;have M:(prog).underlying 229=some (.pointer 5):=kr;have O:a.size<=maxLen:=by unfold maxLen;omega
 have C:=aeK a;refine av ?_;refine gE (Hy rfl aA V.h V.h) ak ?_;refine gE (afV rfl mF (by first|assumption|omega)) ak ?_;refine av ?_;refine gE (Hy rfl aA V.h V.h) ak ?_;refine aq (Iu rfl mF) ak V.h ?_;refine amd (ahh (s:=.tmp 0) rfl rfl X mF U J M c5 O C) aG ?_;refine SS ?_;refine bN bO (aw rfl ⟨?_,rfl,rfl⟩);exact congrArg (fun s=>D.s (.string s)) (agm a)
end Go.Proofs.Tryz.K
namespace Go.Proofs.Tryz.K
def n7(q:Nat)(a:ByteArray):Mem:=bJ [(1,.bs true (.rs q 0 a.size) 213),(q,.cells (gf a) 5)]
theorem tT{q:Nat}{a:ByteArray}:n7 q a 1=some (.bs true (.rs q 0 a.size) 213):=by simp[n7,bJ]
theorem Qs{q:Nat}{a:ByteArray}(h:q≠1):n7 q a q=some (.cells (gf a) 5):=by simp[n7,bJ,h]
theorem wA{q:Nat}{a:ByteArray}(h:q≠1):xh (n7 q a) (.rs q 0 a.size) a (some q):=⟨rfl,Qs h⟩
theorem uJ{m m':Mem}{nx aD:Nat}{ls:List (List ByteArray)}{w:List ByteArray}{o:Option Nat}{d:D}(h:EI m nx 1 (cn ls++dH w) o d m' aD)(h1:1<nx):
 ∃ q,1<q/\nx<=q/\q<aD/\∀ (env:Env) (l:List (Nat×D)),nh l env->aM prog ⟨env,m',aD⟩ ⟨aF l,n7 q (cn (ls++[w])),aD⟩:=by
 obtain⟨_,q,h2,M,O,C,J,_⟩:=h;rw[<- vK] at C J;exact⟨q,oG,M,O,fun env l hl=>aY hl ⟨C,J,trivial⟩⟩
theorem EJ{m:Mem}{nx j k n:Nat}{u:Bool}{x:D}{a:ByteArray}{o:Option Nat}{wsq:List ByteArray}(hj:m j=some (.bs u x 213))(hk:m k=some (.cells (wsq.map S) 9))(hb:xh m x a o)(hn:n=wsq.length)
 (ho:∀ i,o=some i->i≠j/\i<nx) (C:j<nx) (J:wsq.length<=1000000) (hs:a.size+(dH wsq).size<=140737488355328):
 gW prog 144 [.rp j 0,.rs k 0 n] m nx (EI m nx j (a++dH wsq) o):=
 (Ya hj hk hb hn ho C J hs).mono fun d m' aD h=>by
  obtain⟨rfl,rfl,rfl⟩:=h;exact TF C (bM _) fun _ _=>rfl
theorem afz{σ:D->D}(h:∀ n,sub σ (.s n)=.s n)(a:ByteArray):(gf a).map (sub σ)=gf a:=by
 unfold gf;rw[List.map_map];exact List.map_congr_left fun c _=>h _
theorem Jb{P:Program}{env:Env}{m:Mem}{nx n' q:Nat}{a:ByteArray}{cs:List D}{e:TypeId}{l:List (Nat×D)}(hm:m nx=some (.cells cs e))(h1:m 1=n7 q a 1)(h2:m q=n7 q a q)(cb:1<q)(C:q<nx)
 (hl:nh l fun t=>sub (dh nx cs (P.cellsOf e)) (env t)):aM P ⟨env,m,n'⟩ ⟨aF l,n7 q a,n'⟩:=by
 refine ow hm hl ⟨?_,?_,trivial⟩
 .show(if 1=nx then none else(m 1).map _)=_;rw[if_neg oG,h1,tT];show some (Row.bs true (sub (dh nx cs (P.cellsOf e)) (.rs q 0 a.size)) 213)=_;rw[xK oG]
 .show(if q=nx then none else(m q).map _)=_;rw[if_neg oG,h2,Qs oG];show some (Row.cells ((gf a).map (sub (dh nx cs (P.cellsOf e)))) 5)=_;rw[afz fun _=>rfl]
theorem BB{i sz:Nat}{cs:List D}:sub (dh i cs sz) (.rp i 0)=.pt cs:=mG.trans (by rw[List.drop_zero])
section
theorem UL{m:Mem}{nx j sz:Nat}{r:Row}{cs:List D}(hj:j≠nx)(h1:m j=some r)(hr:Row.sub (dh nx cs sz) r=r):(fun j=>if j=nx then none else(m j).map (Row.sub (dh nx cs sz))) j=some r:=by
 show(if j=nx then none else(m j).map _)=_;rw[if_neg hj,h1];exact congrArg some hr
theorem aeL{σ:D->D}(h:∀ n,sub σ (.s n)=.s n)(l:List ByteArray):(l.map S).map (sub σ)=l.map S:=by
 rw[List.map_map];exact List.map_congr_left fun c _=>h _
theorem Qf{f:aK}(X:f.blocks.length<=1000000):az prog 65 [.agg (aH f)] (ez (dG f.blocks)):=by
 refine bu am7 (.cons (.agg (gA f)) .nil) (oI _) ?_;rw[am8];refine ay ?_;refine af ?_;refine ab (aX (bZ [(0,aH f,48)] eH (l:=[(1,.pt (aH f))]) eH) (ay ?_));refine SS ?_;refine ab ⟨_,.sU _ _ _ 3 9 rfl,aI (ay ?_)⟩;refine aR ?_
 refine ab (cD (fun s=>∃ r nx,aM prog s ⟨aF [(3,.rs r 0 (dG f.blocks).length)],bJ [(r,.cells ((dG f.blocks).map S) 9)],nx⟩) (gM (α:=Nat×Nat×Nat)
  (fun s=>⟨aF [(3,.rs s.2.1 0 (dG (f.blocks.take s.1)).length),(7,dQ f.blocks),(8,I f.blocks.length),(9,I s.1)],bJ [(s.2.1,.cells ((dG (f.blocks.take s.1)).map S) 9)],s.2.2⟩)
  (fun s=>s.1<=f.blocks.length/\s.2.1<s.2.2) (fun s=>f.blocks.length - s.1) (0,1,2)
  (aY eH eH) ⟨Nat.zero_le _,oC⟩ ?_) ?_)
 .rintro⟨k,r,nx⟩ ⟨hk,hr⟩;dsimp only at hk hr ⊢;refine SS ?_;refine ab ⟨_,rfl,fun h=>?_,fun h=>?_⟩
  .have al:k<f.blocks.length:=by simpa using h
   clear h;obtain⟨b,hb⟩:∃ b,f.blocks[k]? =some b:=⟨_,bc al⟩
   have C:dG (f.blocks.take (k+1))=dG (f.blocks.take k)++if ja b then [b.fin.name] else []:=by
    rw[List.take_add_one,hb, <- KP];rfl
   have sx:(dG (f.blocks.take k)).length<=1000000:=by
    have:=GM (f.blocks.take k);have:(f.blocks.take k).length<=f.blocks.length:=List.length_take_le' _ _;omega
   have J:ja b=(decide (b.fin.kind=6)||decide (b.fin.kind=7)):=rfl;generalize dG (f.blocks.take k)=cs at*
   have M:bJ [(r,Row.cells (cs.map S) 9)] r=some (.cells (cs.map S) 9):=by simp[bJ]
   refine ay ?_;refine aR ?_;refine ab ⟨_,ow (i:=nx) (cs:=cg b) (e:=59) (an _ _ _) (l:=[(3,.rs r 0 cs.length),(7,dQ f.blocks),(8,I f.blocks.length),(9,I k),(5,.pt (cg b))]) ⟨xK oG,rfl,rfl,rfl,BB,trivial⟩ (ml:=[(r,.cells (cs.map S) 9)]) ⟨UL oG (au oG (au oG M)) (congrArg (Row.cells · 9) (aeL (fun _=>rfl) cs)),trivial⟩,aj ?_⟩;refine cP ?_;refine af ?_;have aA:=M;refine ab (ap rfl (fun hp=>?_) fun hp=>?_)
   .have hc:ja b=true:=by
     rw[J];revert hp;cases O:(b.fin.kind==6)<;>simp_all
    rw[if_pos hc] at C;refine iV ?_;refine fB ?_;refine ab ?_;show ax prog kT (Z qA 7) false [] _ (Z qA 7).toList _ [];refine af ?_;refine ab (bg (k+1,nx+1+1,nx+1+1+1) ?_ ⟨oM,?_⟩ oM)
    .dsimp only;rw[C];refine aY ⟨?_,rfl,rfl,rfl,trivial⟩ ⟨(an _ _ _).trans (by simp;rfl),trivial⟩;rw[List.length_append];rfl
    .dsimp only;omega
   .have hc:ja b=false:=by
     rw[J];revert hp;cases O:(b.fin.kind==6)<;>simp_all
    rw[hc,if_neg oS,List.append_nil] at C;refine dE ?_;refine af ?_;refine ab (bg (k+1,r,nx+1) ?_ ⟨oM,?_⟩ oM)
    .dsimp only;rw[C];exact ao eH
    .dsimp only;omega
  .have U:¬ k<f.blocks.length:=by simpa using h
   have:k=f.blocks.length:=by omega
   subst this;rw[List.take_length];exact⟨r,nx,ao eH⟩
 .rintro s ⟨r,nx,hg⟩;refine⟨_,hg,ay ?_⟩;refine af ?_;refine ab (aX (kY (i:=r) (cs:=(dG f.blocks).map S) (e:=9) (by simp[bJ]) (l:=[(2,ez (dG f.blocks))]) ⟨?_,trivial⟩) (aw rfl rfl));exact(mW (by rw[c9];simp)).trans oS
end
end Go.Proofs.Tryz.K
namespace Go.Argus
structure IS(b:bB):Prop where
 len:b.ins.length<=200
 ins:∀ x∈b.ins,xV x
 fin:IH b.fin
structure BJ(f:aK):Prop where
 name:kx f.name
 args:i64 f.args
 ag:f.ag.length<=1200
 aN:f.aN.length<=60
 sigs:f.signals.length<=6
 sig:∀ s∈f.signals,isName s=true
 oi:f.blocks.length<=1200
 bF:∀ b∈f.blocks,IS b
theorem Mz{f:aK}(h:kB f=true):BJ f:=by
 have C:=xW h;unfold kB at h;simp only[aB] at h;obtain⟨h1,h2,X,O,h5⟩:=h;unfold mu at h1;simp only[aB] at h1;unfold pz at h2;simp only[aB,Bool.not_eq_true',decide_eq_false_iff_not,List.any_eq_false] at h2;refine⟨MN h1.1,by have:=C.args;unfold i64;omega,C.ag,C.aN.2,oG,fun s hs=>by simpa using h2.2.2.2.2 s hs,C.oi,fun b hb=>?_⟩;obtain⟨k,hk⟩:=dR hb;have U:k<f.blocks.length:=(bX.1 hk).1;have he:=bT.1 O k (List.mem_range.2 U);unfold jU at he;rw[getD_some hk] at he;simp only[aB,Bool.not_eq_true',decide_eq_false_iff_not] at he;refine⟨oG,fun x hx=>?_,adQ C.ag C.oi h1.2.2.1 he.1⟩;obtain⟨j,hj⟩:=dR hx;have hr:=C.right k b hk j x hj;refine adP C.ag C.aN.1 C.aN.2 ?_ hr;obtain⟨J,M⟩:=GV (bs:=f.blocks) (fun b hb t ht=>((C.bF b hb).to t ht).1) f.blocks.length k;have:=U9 (a:=0) J fun x hx=>⟨by obtain⟨b,rfl,_⟩:=GR.1 hx;omega,M x hx⟩
 have:=C.oi;omega
theorem ab3(wsq:List ByteArray):bW (dH wsq)=Oo (wsq.map bW):=by
 unfold dH Oo bW;rw[ByteArray.data_append,Array.toList_append, <- join_eq];rfl
def LB(l:List ByteArray):Prop:=l≠[]/\l.length<=1210/\∀ w∈l,kx w
theorem R0{n:Int}(h:i64 n):(Lib.itoa n).length<=20:=by
 have:∀ u:Nat,u<10 ^ 19->(Lib.decDigits u).length<=19:=fun u hu=>by
  rw[Lib.decDigits_length];exact ab1 18 hu
 unfold i64 at h;unfold Lib.itoa;split
 .have:=this n.natAbs oG;simp;omega
 .have:=this n.toNat oG;omega
theorem IT{n:Int}(h:i64 n):kx (cr n):=by
 refine⟨?_,by unfold bW cr;simpa using aaY n⟩;have:(cr n).size=(Lib.itoa n).length:=by unfold cr;rfl
 have:=R0 h;omega
theorem Im{l:List Int}(h:∀ n∈l,i64 n):∀ w∈l.map cr,kx w:=fun w C=>by
 obtain⟨n,hn,rfl⟩:=List.mem_map.1 C;exact IT (h n hn)
theorem YG(l:List Int):∀ n∈l.map eZ,i64 n:=fun n hn=>by
 obtain⟨m,_,rfl⟩:=List.mem_map.1 hn;exact BA m
theorem rW{w:ByteArray}(h:(Nat.ble w.size 120&&(!(bW w).contains 32&& !(bW w).contains 10))=true):kx w:=by
 simp only[aB,Bool.not_eq_true',List.contains_eq_mem,decide_eq_false_iff_not] at h;exact⟨bt h.1,h.2.1,h.2.2⟩
theorem Vh:kx nV/\kx Xx/\kx Xy/\kx qE/\kx uz/\kx qu/\kx fQ/\kx kN/\kx Cw/\kx yp/\kx tk/\kx Aa:=by
 exact⟨rW oC,rW oC,rW oC,rW oC,rW oC,rW oC,rW oC,rW oC,rW oC,rW oC,rW oC,rW oC⟩
theorem Mi{x:bK}(h:xV x):Jw x:=fun n hn=>by
 unfold nB at hn;simp only[List.mem_cons] at hn;rcases hn with rfl|rfl|rfl|rfl|rfl|hn
 .exact BA _
 .exact h.to.i
 .exact h.a.i
 .exact h.b.i
 .exact h.n.i
 .exact(h.args n hn).i
theorem Wl{word:ByteArray}{x:bK}(C:kx word)(h:xV x):LB (jh word x):=by
 refine⟨by simp[jh],?_,fun w hm=>?_⟩
 .have:=h.len;simp[jh,nB];omega
 .rcases List.mem_cons.1 hm with rfl|hm
  .exact C
  .exact Im (Mi h) w hm
theorem T8{x:End}(h:IH x):∀ n∈mM x,i64 n:=fun n hn=>by
 unfold mM at hn;simp only[List.mem_cons] at hn;rcases hn with rfl|rfl|rfl|rfl|rfl|rfl|hn
 .exact BA _
 .exact h.a.i
 .exact h.b.i
 .exact h.to.i
 .exact h.fL.i
 .exact h.others.i
 .exact(h.args n hn).i
theorem afH{b:bB}(h:IS b):∀ l∈ni b,LB l:=fun l hl=>by
 obtain⟨wf,wp,wi,wr,wsq,ZW,U,J,X,wn,wt,ww⟩:=Vh;unfold ni at hl;simp only[List.mem_cons,List.mem_append] at hl;rcases hl with rfl|hl|rfl|hl|hl|hl
 .exact⟨oS,oS,fun w C=>by simp at C;subst C;exact U⟩
 .obtain⟨x,hx,rfl⟩:=List.mem_map.1 hl;exact Wl J (h.ins x hx)
 .refine⟨by simp[n6],?_,fun w hm=>?_⟩
  .have:=h.fin.len;simp[n6,mM];omega
  .rcases List.mem_cons.1 hm with rfl|hm
   .exact X
   .exact Im (T8 h.fin) w hm
 .unfold eX at hl;split at hl
  .simp at hl
  .simp only[List.mem_cons,List.not_mem_nil,or_false] at hl;subst hl
   exact⟨oS,oS,fun w C=>by
    simp only[List.mem_cons,List.not_mem_nil,or_false] at C;rcases C with rfl|rfl
    .exact wn
    .exact h.fin.name⟩
 .unfold gu at hl;split at hl
  .simp only[List.mem_cons,List.not_mem_nil,or_false] at hl;subst hl;exact Wl wt h.fin.ins
  .simp at hl
 .obtain⟨x,hx,rfl⟩:=List.mem_map.1 hl;obtain⟨M,O⟩:=h.fin.wh x hx
  exact⟨by simp[io],by simp[io],fun w C=>by
   simp only[io,List.mem_cons,List.not_mem_nil,or_false] at C;rcases C with rfl|rfl|rfl
   .exact ww
   .exact MO O
   .exact IT M.i⟩
theorem UQ{f:aK}(h:BJ f):∀ l∈j9 f,LB l:=fun l hl=>by
 obtain⟨M,U,O,wr,wsq,J,wb,X,we,wn,wt,ww⟩:=Vh;unfold j9 wy at hl;rw[List.mem_append] at hl;rcases hl with hl|hl
 .simp only[List.mem_cons,List.not_mem_nil,or_false] at hl;rcases hl with rfl|rfl|rfl|rfl
  .refine⟨oS,oS,fun w C=>?_⟩;simp only[List.mem_cons,List.not_mem_nil,or_false] at C;rcases C with rfl|rfl|rfl|rfl|rfl
   .exact M
   .exact h.name
   .unfold jZ;split
    .exact O
    .exact U
   .exact IT h.args
   .exact IT (BA _)
  .refine⟨oS,by have:=h.ag;simp;omega,fun w C=>?_⟩;rcases List.mem_cons.1 C with rfl|C
   .exact wr
   .exact Im (YG _) w C
  .refine⟨oS,by have:=h.aN;simp;omega,fun w C=>?_⟩;rcases List.mem_cons.1 C with rfl|C
   .exact wsq
   .exact Im (YG _) w C
  .refine⟨oS,by have:=h.sigs;simp;omega,fun w C=>?_⟩;rcases List.mem_cons.1 C with rfl|C
   .exact J
   .exact MO (h.sig w C)
 .obtain⟨b,hb,hl⟩:=List.mem_flatMap.1 hl;exact afH (h.bF b hb) l hl
theorem adR{l:List ByteArray}(h:LB l):(dH l).size<=150000:=by
 have h1:(dH l).size=(bW (dH l)).length:=rfl;rw[h1,ab3];unfold Oo;rw[List.length_append,List.length_singleton];have h2:=Tf (l.map bW)
 have C:∀ l:List ByteArray,(∀ w∈l,kx w)->((l.map bW).map fun w=>w.length+1).sum<=l.length*121:=fun l=>by
  induction l with
  |nil=>simp
  |cons a l ih=>
   intro h;have:=ih fun w J=>h w (List.mem_cons_of_mem _ J);have ha:(bW a).length<=120:=(h a oS).1;simp only[List.map_cons,List.sum_cons,List.length_cons];omega
 have:=C l h.2.2;have:=h.2.1;omega
theorem L5:∀ {ls:List (List ByteArray)},(∀ l∈ls,LB l)->(cn ls).size<=ls.length*150000
 |[],_=>by simp[cn]
 |l::ls,h=>by
  have:=L5 fun x hx=>h x (List.mem_cons_of_mem _ hx);have:=adR (h l oS);simp only[cn,ByteArray.size_append,List.length_cons];omega
theorem adS{b:bB}(h:IS b):(ni b).length<=220:=by
 have h1:=h.len;have h2:=h.fin.aC;have C:(eX b.fin).length<=1:=by unfold eX;split<;>simp
 have J:(gu b.fin).length<=1:=by unfold gu;split<;>simp
 simp only[ni,ld,List.length_cons,List.length_append,List.length_map];omega
theorem afI{f:aK}(h:BJ f):(j9 f).length<=300000:=by
 have:∀ bs:List bB,(∀ b∈bs,IS b)->(bs.flatMap ni).length<=bs.length*220:=fun bs=>by
  induction bs with
  |nil=>simp
  |cons b bs ih=>
   intro h;have:=ih fun x hx=>h x (List.mem_cons_of_mem _ hx);have:=adS (h b oS);simp only[List.flatMap_cons,List.length_append,List.length_cons];omega
 have:=this f.blocks h.bF;have:=h.oi;simp only[j9,wy,List.length_append,List.length_cons,List.length_nil];omega
theorem VX{f:aK}(h:BJ f):EA f:=by
 refine⟨h.args,by have:=h.ag;omega,by have:=h.aN;omega,by have:=h.sigs;omega,by have:=h.oi;omega,fun b hb=>by have:=(h.bF b hb).len;omega,fun b hb x hx=>?_,fun b hb=>?_,?_⟩
 .have:=(h.bF b hb).ins x hx;exact⟨Mi this,by have:=this.len;omega⟩
 .have:=(h.bF b hb).fin;exact⟨T8 this,by have:=this.len;omega,Mi this.ins,by have:=this.ins.len;omega,by have:=this.aC;omega,fun w C=>(this.wh w C).1.i⟩
 .have h1:=L5 (UQ h);have h2:=afI h;unfold wz;omega
abbrev nC(n:Int):Int:=IntKind.i64.wrap n
abbrev kp:ByteArray:=⟨#[32]⟩
abbrev tQ:ByteArray:=⟨#[10]⟩
theorem RZ{wsq:List ByteArray}(h:wsq≠[])(w s:ByteArray):Go.Proofs.Tryz.K.jY (wsq++[w]) s=Go.Proofs.Tryz.K.jY wsq s++s++w:=by
 cases wsq with
 |nil=>exact absurd rfl h
 |cons x r=>
  apply wj;simp[bW,Go.Proofs.Tryz.K.jY,Lib.join_cons,Lib.joinTail,ByteArray.data_append]
theorem acS{u:Nat}(h:u<10):cr (u:Int)=mkStr [48+(u:Int)]:=by
 unfold cr mkStr;rw[Lib.itoa_nonneg,Lib.decDigits,dif_pos h];have:((48:Int)+u).toNat=48+u:=by omega
 simp[this]
theorem agn{u:Nat}(h:¬ u<10):cr (u:Int)=cr ((u / 10:Nat):Int)++mkStr [48+((u % 10:Nat):Int)]:=by
 unfold cr mkStr;rw[Lib.itoa_nonneg,Lib.itoa_nonneg,Lib.decDigits,dif_neg h];have:((48:Int)+((u % 10:Nat):Int)).toNat=48+u % 10:=by omega
 simp only[List.map_cons,List.map_nil,this];apply wj;simp[bW,ByteArray.data_append]
theorem ago{u:Nat}(h:0<u):cr (-(u:Int))=⟨#[45]⟩++cr (u:Int):=by
 unfold cr;rw[Lib.itoa_nonneg]
 have:Lib.itoa (-(u:Int))=45::Lib.decDigits u:=by
  unfold Lib.itoa;rw[if_pos oG];simp
 rw[this];apply wj;simp[bW,ByteArray.data_append]
theorem Zc{n:Int}(h:0<=n/\n<=255):IntKind.u8.wrap n=n:=by
 simp only[IntKind.wrap,IntKind.bits,IntKind.signed];simp;omega
theorem IG{n:Int}(h:i64 n):(cr n).size<=20:=by
 have:(cr n).size=(Lib.itoa n).length:=by unfold cr;rfl
 rw[this];exact R0 h
theorem ai8{u:Nat}(h:u<=1000000000000000000):IntKind.i64.wrap ((u:Int).tdiv 10)=((u / 10:Nat):Int):=by
 have e:(u:Int).tdiv 10=((u / 10:Nat):Int):=by
  rw[Int.tdiv_eq_ediv_of_nonneg oG];omega
 rw[e];exact wrap_i64 oG
theorem ai9(u:Nat):(u:Int).tmod 10=((u % 10:Nat):Int):=by
 rw[Int.tmod_eq_emod_of_nonneg oG];omega
def oU(n:Int):Prop:= -1000000000000000000<=n/\n<=1000000000000000000
theorem oU.i{n:Int}(h:oU n):i64 n:=by unfold oU at h;unfold i64;omega
theorem vH(w s:ByteArray):Go.Proofs.Tryz.K.jY [w] s=w:=by
 apply wj;simp[bW,Go.Proofs.Tryz.K.jY,Lib.join_one]
def qT(wsq:List ByteArray)(l:List Int)(k:Nat):ByteArray:=Go.Proofs.Tryz.K.jY (wsq++(l.take k).map cr) kp
theorem Sy{wsq:List ByteArray}{l:List Int}{k:Nat}{n:Int}(C:wsq≠[])(h:l[k]? =some n):qT wsq l (k+1)=qT wsq l k++kp++cr n:=by
 unfold qT;rw[List.take_add_one,h,Option.toList_some,List.map_append, <- List.append_assoc];exact RZ (by simp[C]) _ _
theorem UM{wsq:List ByteArray}{l:List Int}(C:wsq≠[])(hl:∀ n∈l,oU n):∀ k,k<=l.length->(qT wsq l k).size<=(Go.Proofs.Tryz.K.jY wsq kp).size+21*k
 |0,_=>by simp[qT]
 |k+1,hk=>by
  have hx:l[k]? =some l[k]:=bc oG;have ih:=UM C hl k oG;have:=IG (hl _ (di (h:=(by omega:k<l.length)))).i;rw[Sy C hx,ByteArray.size_append,ByteArray.size_append];have:kp.size=1:=rfl;omega
section
theorem agZ{α:Type}{l:List α}{i:Nat}{d:α}(h:i<l.length):l[i]? =some (l.getD i d):=by simp[eh,h]
open Go.Proofs.Tryz.K (nextR)
section
variable{to:ByteArray->ByteArray}
def dN(to:ByteArray->ByteArray)(b:bB):bB:=if ja b then { b with fin:={ b.fin with name:=to b.fin.name } } else b
def jF(f:aK)(name:ByteArray)(to:ByteArray->ByteArray):aK:={ f with name:=name,blocks:=f.blocks.map (dN to) }
theorem Ns(b:bB):(dN to b).ins=b.ins:=by unfold dN;split<;>rfl
theorem Vi(b:bB):(dN to b).fin.kind=b.fin.kind:=by unfold dN;split<;>rfl
theorem Vj(b:bB):nextR (dN to b).fin=nextR b.fin:=by unfold dN;split<;>rfl
theorem ag0(b:bB):gO (dN to b).fin=gO b.fin:=by unfold dN;split<;>rfl
theorem Lk(b:bB):jE (dN to b)=jE b:=by unfold dN;split<;>rfl
theorem ahZ(b:bB):cY (dN to b).fin=cY b.fin:=by unfold dN;split<;>rfl
theorem Io(bs:List bB)(i:Nat):(bs.map (dN to)).getD i jg=dN to (bs.getD i jg):=by
 rw[eh,eh,List.getElem?_map];cases bs[i]? <;>rfl
theorem afJ(bs:List bB):pK (bs.map (dN to))=pK bs:=by
 funext L b;unfold pK;rw[List.getElem?_map];cases bs[b]? with
 |none=>rfl
 |some x=>simp only[Option.map_some,Vj]
theorem T9(bs:List bB)(k:Nat):cw (bs.map (dN to)) k=cw bs k:=by unfold cw;rw[afJ]
theorem ag1(bs:List bB):dP (bs.map (dN to))=dP bs:=by
 funext s k;unfold dP;rw[List.getElem?_map];cases bs[k]? with
 |none=>rfl
 |some x=>simp only[Option.map_some,Vj,ahZ,Lk]
theorem ab4(bs:List bB):jS (bs.map (dN to))=jS bs:=by funext s;unfold jS;rw[ag1,List.length_map]
theorem ab5(bs:List bB)(n:Nat):lM (bs.map (dN to)) n=lM bs n:=by
 induction n with
 |zero=>rfl
 |succ n ih=>funext s;simp only[lM];rw[ab4,ih]
theorem ag2(bs:List bB)(a:Nat):iq (bs.map (dN to)) a=iq bs a:=by unfold iq;rw[ab5,List.length_map]
theorem ag3(bs:List bB)(s:CS)(b:Nat)(y:bK):rY (bs.map (dN to)) s b y=rY bs s b y:=by
 unfold rY sO;simp only[List.length_map,T9,Io,ag0,Lk]
theorem ag4(bs:List bB)(a:Nat):sL (bs.map (dN to)) a=sL bs a:=by
 unfold sL rJ;simp only[List.length_map,ag2,Io,Lk,Ns];congr 1;funext b;congr 2;congr 1;funext y;exact ag3 bs _ b y
theorem ag5(bs:List bB)(k:Nat):jT (bs.map (dN to)) k=jT bs k:=by
 unfold jT;rw[<- List.map_take];generalize bs.take k=l
 induction l with
 |nil=>rfl
 |cons b l ih=>
  simp only[List.map_cons,List.filter_cons,Vi];split
  .simp only[List.map_cons,ih,List.cons.injEq,and_true];unfold dN;split<;>rfl
  .exact ih
theorem ag6{f:aK}{nm:ByteArray}{b:bB}(h:gB f b.fin=true)(hn:ja b=true->jr (to b.fin.name)=true):gB (jF f nm to) (dN to b).fin=true:=by
 have hb:∀ n,cv (jF f nm to) n=cv f n:=fun n=>by simp[cv,jF]
 have hh:∀ x,kz (jF f nm to) x=kz f x:=fun x=>by
  unfold kz EB nX;simp only[hb]
 have he:∀ x,gB (jF f nm to) x=gB f x:=fun x=>by
  unfold gB fw;simp only[hb,hh];rfl
 rw[he];unfold dN;split
 .rename_i hc;have C:=hn hc;unfold ja at hc;simp only[Bool.or_eq_true,decide_eq_true_eq] at hc;unfold gB at h ⊢;rcases hc with hc|hc
  .simp only[fw,hc,Int.reduceEq,if_false,if_true,aB] at h ⊢;exact⟨⟨C,h.1.2⟩,h.2⟩
  .simp only[fw,hc,Int.reduceEq,if_false,if_true,aB] at h ⊢;exact⟨⟨C,h.1.2⟩,h.2⟩
 .exact h
theorem afK{f:aK}{nm:ByteArray}(h:kB f=true)(h1:jr nm=true)(hn:∀ b∈f.blocks,ja b=true->jr (to b.fin.name)=true):kB (jF f nm to)=true:=by
 unfold kB at h ⊢;simp only[aB] at h ⊢;obtain⟨C,J,M,O,U⟩:=h;refine⟨?_,J,M,bT.2 fun k hk=>?_,bT.2 fun k hk=>?_⟩
 .unfold mu at C ⊢;simp only[aB] at C ⊢;refine⟨h1,C.2.1,C.2.2.1,C.2.2.2.1,C.2.2.2.2.1,?_⟩;have:=C.2.2.2.2.2;simpa[jF] using this
 .have hk:k<f.blocks.length:=by simpa[jF] using hk
  have:=bT.1 O k (List.mem_range.2 hk);unfold jU at this ⊢;have e:(jF f nm to).blocks.getD k jg=dN to (f.blocks.getD k jg):=Io _ _;have e2:jT (jF f nm to).blocks k=jT f.blocks k:=ag5 _ _;have hm:f.blocks.getD k jg∈f.blocks:=cx (agZ hk);simp only[e,e2,Ns,Vi];simp only[aB] at this ⊢;refine⟨ag6 this.1 (hn _ hm),this.2.1,?_⟩;have e3:(dN to (f.blocks.getD k jg)).fin.a=(f.blocks.getD k jg).fin.a:=by unfold dN;split<;>rfl
  rw[e3];exact this.2.2
 .have hk:k<f.blocks.length:=by simpa[jF] using hk
  have:=bT.1 U k (List.mem_range.2 hk);unfold rL at this ⊢;have e:(jF f nm to).blocks.getD k jg=dN to (f.blocks.getD k jg):=Io _ _
  have e2:rK (jF f nm to)=rK f:=by
   funext b l j;unfold rK jF;simp only[T9,List.length_map];rfl
  simp only[e,Ns];rw[e2];exact this
theorem ag7{f:aK}{nm:ByteArray}(h:fe f=0)(h1:jr nm=true)(hn:∀ b∈f.blocks,ja b=true->jr (to b.fin.name)=true):fe (jF f nm to)=0:=by
 unfold fe at h ⊢;split at h
 .rename_i hf;rw[if_pos (afK hf h1 hn)];split at h
  .rename_i hr;rw[if_pos (by rw[show(jF f nm to).blocks=f.blocks.map (dN to) from rfl,ag4];exact hr)]
  .cases h
 .cases h
theorem checked{f:aK}(h:fe f=0):kB f=true:=by
 unfold fe at h;split at h
 .assumption
 .cases h
end
def vz:ByteArray:=⟨#[95]⟩
def uK(f:aK):aK:=jF f vz fun _=>vz
def Nj(f:aK):ByteArray:=wz (uK f)
theorem Ld{f:aK}(h:fe f=0):fe (uK f)=0:=ag7 h oC fun _ _ _=>by decide
theorem aeP{f:aK}(h:fe f=0):BJ (uK f):=Mz (checked (Ld h))
end
theorem ahA{n:Int}(h0:0<=n)(h:n<=255):eZ n=n:=by
 unfold eZ;simp only[IntKind.wrap,IntKind.bits,IntKind.signed];simp;omega
structure Ni(x:bK):Prop where
 op:0<=x.op/\x.op<=255
structure ahY(b:bB):Prop where
 ins:∀ x∈b.ins,Ni x
 kind:1<=b.fin.kind/\b.fin.kind<=9
 fin:Ni b.fin.ins
 no:b.fin.kind≠5->b.fin.ins=dW
structure UP(f:aK):Prop where
 su:BJ f
 Gd:0<=f.result/\f.result<=255
 ag:∀ r∈f.ag,0<=r/\r<=255
 aN:∀ r∈f.aN,0<=r/\r<=255
 bF:∀ b∈f.blocks,ahY b
theorem afB{op:Int}(h:(fk lB op).isSome=true):0<=op/\op<=255:=by
 cases hs:fk lB op with
 |none=>rw[hs] at h;cases h
 |some s=>
  have:=zq hs;have C:lB.all (fun x=>decide (0<=x.1)&&decide (x.1<=255))=true:=by decide
  have:=bT.1 C _ this;simp only[aB,decide_eq_true_eq] at this;exact this
theorem afC{op:Int}(h:(fk iP op).isSome=true):0<=op/\op<=255:=by
 cases hs:fk iP op with
 |none=>rw[hs] at h;cases h
 |some s=>
  have:=zq hs;have C:iP.all (fun x=>decide (0<=x.1)&&decide (x.1<=255))=true:=by decide
  have:=bT.1 C _ this;simp only[aB,decide_eq_true_eq] at this;exact this
theorem afD{f:aK}{b ahead:Int}{x:bK}{phis:Bool}(h:jb f b x phis ahead=true):0<=x.op/\x.op<=255:=by
 unfold jb at h;split at h
 .omega
 split at h
 .omega
 split at h
 .omega
 split at h
 .omega
 .rw[aB] at h;exact afB h.1
theorem afE{x:bK}(h:xY x=true):x=dW:=by
 unfold xY at h;simp only[aB,decide_eq_true_eq] at h;obtain⟨h1,h2,J,M,O,C⟩:=h;have C:x.args=[]:=List.length_eq_zero_iff.1 oG;cases x;simp_all[dW]
theorem afF{x:Argus.End}(h:s7 x=true):x.ins=dW:=by
 unfold s7 at h;simp only[aB] at h;exact afE h.2.2.2.2.2.2.2.2.2
theorem adO{f:aK}{x:Argus.End}(h:gB f x=true):(x.kind≠5->x.ins=dW)/\0<=x.ins.op/\x.ins.op<=255:=by
 unfold gB at h;rw[aB] at h;obtain⟨h1,h2⟩:=h;have hz:x.ins=dW->(x.kind≠5->x.ins=dW)/\0<=x.ins.op/\x.ins.op<=255:=fun e=>⟨fun _=>e,by rw[e];decide⟩
 by_cases C:x.kind=5
 .refine⟨fun h=>absurd C h,?_⟩;unfold fw at h1;simp only[C] at h1;simp at h1;exact afC h1.1
 .refine hz ?_;have:=afF h2;unfold fw at this;simp only[C,if_false] at this
  repeat' split at this
  all_goals exact this
theorem agt{f:aK}(h:kB f=true):UP f:=by
 have M:=xW h;have J:=Mz h;unfold kB at h;simp only[aB] at h;obtain⟨h1,h2,h3,X,h5⟩:=h;unfold mu at h1;simp only[aB] at h1;unfold pz at h2;simp only[aB] at h2
 have hk:∀ {l:List Int} {m:Int},m<=255->fj l m=true->∀ r∈l,0<=r/\r<=255:=fun {l m} hm h r hr=>by
  unfold fj at h;simp only[Bool.not_eq_true',List.any_eq_false] at h;have:=h r hr;unfold mY at this;simp at this;omega
 refine⟨J,?_,hk oC h2.1,hk oC h2.2.2.1,fun b hb=>?_⟩
 .have:=h1.2.2.1;unfold oB at this;simp at this;omega
 .obtain⟨k,C⟩:=dR hb;have oe:k<f.blocks.length:=(bX.1 C).1;have he:=bT.1 X k (List.mem_range.2 oe);unfold jU at he;rw[getD_some C] at he;simp only[aB] at he;obtain⟨O,U⟩:=adO he.1;refine⟨fun x hx=>?_,(J.bF b hb).fin.kind,⟨U⟩,O⟩;obtain⟨j,hj⟩:=dR hx;exact⟨afD (M.right k b C j x hj)⟩
theorem Am{n:Nat}(h:n<=140737488355328):n<=maxLen:=by unfold maxLen;omega
theorem rR{n:Int}(h:ew n):oU n:=by unfold ew at h;unfold oU;omega
theorem D5{n:Int}(h:0<=n/\n<=255):oU (eZ n):=by rw[ahA h.1 h.2];unfold oU;omega
theorem UN{x:bK}(h:xV x)(hc:Ni x):∀ n∈nB x,oU n:=fun n hn=>by
 unfold nB at hn;simp only[List.mem_cons] at hn;rcases hn with rfl|rfl|rfl|rfl|rfl|hn
 .exact D5 hc.op
 .exact rR h.to
 .exact rR h.a
 .exact rR h.b
 .exact rR h.n
 .exact rR (h.args n hn)
theorem agp{x:End}(h:IH x):∀ n∈mM x,oU n:=fun n hn=>by
 unfold mM at hn;simp only[List.mem_cons] at hn;have hk:=h.kind;rcases hn with rfl|rfl|rfl|rfl|rfl|rfl|hn
 .exact D5 ⟨oG,oG⟩
 .exact rR h.a
 .exact rR h.b
 .exact rR h.to
 .exact rR h.fL
 .exact rR h.others
 .exact rR (h.args n hn)
theorem Sz(n w:ByteArray):(((⟨#[102,108,111,119,32]⟩:ByteArray)++n)++kp)++w=Go.Proofs.Tryz.K.jY [nV,n,w] kp:=by
 apply wj;simp[bW,Go.Proofs.Tryz.K.jY,Lib.join_cons,Lib.joinTail,nV,ByteArray.data_append]
theorem SA(n:ByteArray):((⟨#[110,97,109,101,32]⟩:ByteArray)++n)++tQ=dH [yp,n]:=by
 apply wj;simp[bW,dH,Go.Proofs.Tryz.K.jY,Lib.join_cons,Lib.joinTail,yp,ByteArray.data_append]
theorem SB(n:ByteArray):(⟨#[119,104,101,110,32]⟩:ByteArray)++n=Go.Proofs.Tryz.K.jY [Aa,n] kp:=by
 apply wj;simp[bW,Go.Proofs.Tryz.K.jY,Lib.join_cons,Lib.joinTail,Aa,ByteArray.data_append]
theorem R1:dH [fQ]=⟨#[98,108,111,99,107,10]⟩:=by rw[dH,vH];rfl
def mN(f:aK)(k:Nat):ByteArray:=Go.Proofs.Tryz.K.jY (qu::f.signals.take k) kp
theorem SC(f:aK):mN f 0=qu:=by unfold mN;rw[List.take_zero,vH]
theorem SD{f:aK}{k:Nat}{s:ByteArray}(h:f.signals[k]? =some s):mN f (k+1)=mN f k++kp++s:=by
 unfold mN;rw[List.take_add_one,h,Option.toList_some, <- List.cons_append];exact RZ oS _ _
theorem KY{s:ByteArray}(h:isName s=true):s.size<=12:=by
 unfold isName at h;rw[aB] at h;have:=iW.1 h.1;omega
theorem UO{f:aK}(h:∀ s∈f.signals,isName s=true):∀ k,k<=f.signals.length->(mN f k).size<=8+13*k
 |0,_=>by rw[SC];decide
 |k+1,hk=>by
  have hx:f.signals[k]? =some f.signals[k]:=bc oG;have ih:=UO h k oG;have:=KY (h _ (di (h:=(by omega:k<f.signals.length))));rw[SD hx,ByteArray.size_append,ByteArray.size_append];have:kp.size=1:=rfl;omega
def pQ(f:aK):List (List ByteArray):=[[nV,f.name,jZ f,cr f.args,cr (eZ f.result)],qE::(f.ag.map eZ).map cr,uz::(f.aN.map eZ).map cr]
theorem acU(f:aK):(cn (pQ f)++mN f f.signals.length)++tQ=cn (wy f):=by
 have:wy f=pQ f++[qu::f.signals]:=rfl;rw[this,vK,ByteArray.append_assoc];unfold mN;rw[List.take_length];rfl
theorem aeM(f:aK):dT f 0=wy f:=by simp[dT]
end Go.Argus
namespace Go.Proofs.Tryz.K
theorem AP{l:List Int}(hl:l.length<=1000000):az prog 95 [iI l] (aT (l.map nC)):=by
 refine bu am9 (.cons (nM l) .nil) (dU _) ?_;rw[am'];refine ws ?_;refine SS ?_;refine ab (ay ?_);refine SS ?_;refine ab ⟨_,.sU _ _ _ 3 3 rfl,aI (ay ?_)⟩;refine SS ?_
 refine ab (cD (fun s=>∃ r nx,aM prog s ⟨aF [(3,.rs r 0 l.length)],bJ [(r,.cells ((l.map nC).map I) 3)],nx⟩) (dD (α:=Nat×Nat×Nat)
  (fun s=>⟨aF [(0,iI l),(3,.rs s.2.1 0 s.1),(4,I s.1)],bJ [(s.2.1,.cells (((l.take s.1).map nC).map I) 3)],s.2.2⟩)
  (fun s=>s.1<=l.length/\s.2.1<s.2.2) (fun s=>l.length - s.1) (0,0,1)
  (aY eH eH) ⟨Nat.zero_le _,oC⟩ ?_) ?_)
 .rintro⟨k,r,nx⟩ ⟨hk,hr⟩;dsimp only at hk hr ⊢;refine aR ?_;refine ab ⟨_,rfl,fun h=>?_,fun h=>?_⟩
  .have al:k<l.length:=by simpa using h
   clear h;obtain⟨x,hx⟩:∃ x,l[k]? =some x:=⟨_,bc al⟩
   have C:(l.take (k+1)).map nC=(l.take k).map nC++[nC x]:=by rw[List.take_add_one,hx,List.map_append];rfl
   have J:((l.take k).map nC).length=k:=by simp;omega
   generalize (l.take k).map nC=cs at*
   have aA:bJ [(r,Row.cells (cs.map I) 3)] r=some (.cells (cs.map I) 3):=by simp[bJ]
   refine iV ?_;refine bj ?_;refine ab ?_;show ax _ _ _ _ _ _ _ _ _;refine av ?_;refine ab (bg (k+1,nx+1,nx+1+1) ?_ ⟨oM,oM⟩ oM);dsimp only;rw[C];refine aY eH ⟨(an _ _ _).trans ?_,trivial⟩;simp;rfl
  .have M:¬ k<l.length:=by simpa using h
   have:k=l.length:=by omega
   subst this;rw[List.take_length];exact⟨r,nx,ao eH⟩
 .rintro s ⟨r,nx,hg⟩;refine⟨_,hg,ay ?_⟩;refine af ?_;refine ab (aX (kY (i:=r) (cs:=(l.map nC).map I) (e:=3) (by simp[bJ]) (l:=[(2,aT (l.map nC))]) ⟨?_,trivial⟩) (aw rfl rfl));exact(mW (by rw[c3];simp)).trans oS
end Go.Proofs.Tryz.K
namespace Go.Proofs.Tryz.K
set_option maxHeartbeats 1000000
theorem N6:∀ (n u:Nat),u<n->u<=1000000000000000000->az prog 204 [I u] (S (cr u))
 |0,_,h,_=>absurd h (Nat.not_lt_zero _)
 |n+1,u,h,hu=>by
  refine bu W9 (.cons (.s _) .nil) (Tr.s _) ?_;rw[Xa];refine ws ?_;refine SS ?_;refine ab (aI (aj ?_));have qS:decide ((u:Int)<0)=false:=by simp
  refine af ?_;refine ab (mE (cX (aI (aj ?_))));by_cases hd:u<10
  .have qS:decide ((u:Int)<10)=true:=by simp;omega
   refine af ?_;refine ab (pP (aI (aj ?_)));have J:[IntKind.u8.wrap (48+(u:Int))].length=1:=rfl;have C:(([U8 (IntKind.u8.wrap (48+(u:Int)))]:List D).drop 0).take 1=la [IntKind.u8.wrap (48+(u:Int))]:=rfl;refine aR ?_;refine gE (Ue rfl rfl J C (Ja V.h V.h V.h V.h) V.h) ak ?_;refine SS ?_;refine ab (eb (aw rfl ?_));rw[acS hd,Zc oG];rfl
  .have qS:decide ((u:Int)<10)=false:=by simp;omega
   refine af ?_;refine ab (mE (cX (ej acT ?_)));have Al:=N6 n (u / 10) oG oG;have O0:=ai8 hu;have O1:=ai9 u;have hq:=IG (n:=((u / 10:Nat):Int)) (by unfold i64;omega);have C:(([U8 (IntKind.u8.wrap (48+((u % 10:Nat):Int)))]:List D).drop 0).take 1=la [IntKind.u8.wrap (48+((u % 10:Nat):Int))]:=rfl;have J:[IntKind.u8.wrap (48+((u % 10:Nat):Int))].length=1:=rfl
   have M:(cr ((u / 10:Nat):Int)).size+(mkStr [IntKind.u8.wrap (48+((u % 10:Nat):Int))]).size<=maxLen:=by
    have:(mkStr [IntKind.u8.wrap (48+((u % 10:Nat):Int))]).size=1:=rfl;unfold maxLen;omega
   refine af ?_;refine cl Al ?_;refine bm ?_;refine gE (Ue rfl rfl J C (Ja V.h V.h V.h V.h) V.h) ak ?_;refine gE (jG rfl rfl M) ak ?_;refine SS ?_;refine bN bO (aw rfl ?_);rw[agn hd,Zc oG];rfl
theorem Al{n:Int}(h:oU n):az prog 204 [I n] (S (cr n)):=by
 unfold oU at h;by_cases h0:0<=n
 .obtain⟨u,rfl⟩:=iG h0;exact N6 (u+1) u oG oG
 .obtain⟨u,rfl,hu,J⟩:∃ u:Nat,n= -(u:Int)/\0<u/\u<=1000000000000000000:=⟨(-n).toNat,oG,oG,oG⟩
  have Al:=N6 (u+1) u oG J;refine bu W9 (.cons (.s _) .nil) (Tr.s _) ?_;rw[Xa];refine ws ?_;refine SS ?_;refine ab (aI (aj ?_));have qS:decide (-(u:Int)<0)=true:=by simp;omega
  refine af ?_;refine ab (pP (aI (aj ?_)));have hq:=IG (n:=(u:Int)) (by unfold i64;omega)
  have C:(⟨#[45]⟩:ByteArray).size+(cr (u:Int)).size<=maxLen:=by
   have:(⟨#[45]⟩:ByteArray).size=1:=rfl;unfold maxLen;omega
  refine SS ?_;refine aq (ahz rfl (show IntKind.i64.wrap (0 - -(u:Int))=(u:Int) by rw[show(0:Int) - -(u:Int)=(u:Int) by omega];exact wrap_i64 oG)) aG trivial ?_;refine cl Al ?_;refine gE (jG rfl rfl C) ak ?_;refine SS ?_;refine ab (eb (aw rfl ?_));rw[ago hu];rfl
theorem pY{wsq:List ByteArray}{l:List Int}(O:wsq≠[])(hi:∀ n∈l,oU n)(hl:l.length<=1000000)(hw:(jY wsq kp).size<=1000000000):az prog 149 [S (jY wsq kp),aT l] (S (dH (wsq++l.map cr))):=by
 refine bu ai' (.cons (.s _) (.cons (dU _) .nil)) (Tr.s _) ?_;rw[aja];have C:=UM (wsq:=wsq) O hi;refine ws ?_;refine SS ?_;refine er ?_;refine af ?_;refine ab (aI (ay ?_));refine SS ?_;have h0:qT wsq l 0=jY wsq kp:=by simp[qT]
 refine ab (cD (fun s=>aM prog s ⟨aF [(5,S (qT wsq l l.length))],fun _=>none,0⟩) (dD (α:=Nat) (fun k=>⟨aF [(1,aT l),(5,S (qT wsq l k)),(6,I k)],fun _=>none,0⟩)
  (fun k=>k<=l.length) (fun k=>l.length - k) 0 (ao ⟨rfl,congrArg S h0.symm,rfl,trivial⟩) (Nat.zero_le _) ?_) ?_)
 .rintro k hk;have hb:=C k hk;refine aR ?_;refine ab ⟨_,rfl,fun h=>?_,fun h=>?_⟩
  .have al:k<l.length:=by simpa using h
   have hx:l[k]? =some l[k]:=bc al;have hd:=hi _ (di al);have M:=Sy (wsq:=wsq) O hx;generalize l[k]=n at hx hd M;have Al:=Al hd;have hq:=IG hd.i;generalize qT wsq l k=A at hb M;have h1:kp.size=1:=rfl;have J:A.size+kp.size<=maxLen:=by unfold maxLen;omega
   have U:(A++kp).size+(cr n).size<=maxLen:=by rw[ByteArray.size_append];unfold maxLen;omega
   refine iV ?_;refine SS ?_;refine gE (jG rfl rfl J) ak ?_;refine aR ?_;refine cl Al ?_;refine gE (jG rfl rfl U) ak ?_;refine SS ?_;refine ab (show ax _ _ _ _ _ _ _ _ _ from ?_);refine av ?_;exact ab (bg (k+1) (ao ⟨rfl,congrArg S M.symm,rfl,trivial⟩) (show k+1<=_ by omega) oG)
  .have X:¬ k<l.length:=by simpa using h
   have:k=l.length:=by omega
   subst this;exact ao eH
 .rintro s hg;have hb:=C _ (bM _);have hf:dH (wsq++l.map cr)=qT wsq l l.length++tQ:=by unfold dH qT;rw[List.take_length]
  rw[hf];generalize qT wsq l l.length=A at hb hg
  have J:A.size+tQ.size<=maxLen:=by
   have:tQ.size=1:=rfl;unfold maxLen;omega
  refine⟨_,hg,aj ?_⟩;refine SS ?_;refine gE (jG rfl rfl J) ak ?_;refine SS ?_;exact ab (aw rfl rfl)
theorem Cv{word:ByteArray}{x:bK}(hi:∀ n∈nB x,oU n)(hl:x.args.length<=10000)(M:word.size<=1000):az prog 150 [S word,.agg (bA x)] (S (Ak word x)):=by
 have pY:=pY (wsq:=[word]) (l:=nB x) oS hi (by simp[nB];omega) (by rw[vH];omega);rw[vH] at pY;refine bu ajb (.cons (.s _) (.cons (.agg (rQ x)) .nil)) (Tr.s _) ?_;rw[ajc];refine ay ?_;refine af ?_;refine ab (aX (bZ [(0,bA x,54)] eH (l:=[(0,S word),(3,.pt (bA x))]) eH) (aj ?_));have hn:5+x.args.length=(nB x).length:=by simp[nB];omega
 have J:∀ {m:Mem},m 2=some (.cells ((nB x).map I) 3)->jx prog [2] m [S word,.rs 2 0 (5+x.args.length)] [S word,aT (nB x)]:=fun hm=>by
  rw[hn];exact⟨cT (.s _),uH hm oS (by rw[c3,List.drop_zero,cO oS]) (.map fun _=>.s _),trivial⟩
 have C:(x.args.map I).take (x.args.length*1)=x.args.map I:=cO oS;refine bj ?_;refine cG ?_;refine eE (eC rfl (an _ _ _) rfl dm c3 (fN C) rfl) aG ⟨df,rfl,oS,oC,rfl,by unfold maxLen;omega,by rw[b3];omega,oS⟩ ?_;refine z7 pY rfl (J (an _ _ _)) rfl aG ?_;refine SS ?_;exact ab (aw rfl rfl)
end Go.Proofs.Tryz.K
namespace Go.Proofs.Tryz.K
theorem O'{f:aK}(hc:UP f)(ha:0<=f.args/\f.args<=6):az prog 113 [.agg (aH f)] (S (wz f)):=by
 have M:=hc.su;have ht:=VX M;have Gb:(cn (pQ f)).size+(dH (qu::f.signals)).size<=140737488355328:=ht.le ⟨_,rfl⟩;have Gc:(cn ([[nV,f.name,jZ f,cr f.args,cr (eZ f.result)],qE::(f.ag.map eZ).map cr])).size+(dH (uz::(f.aN.map eZ).map cr)).size<=140737488355328:=ht.le ⟨_,rfl⟩;have y9:(cn [[nV,f.name,jZ f,cr f.args,cr (eZ f.result)]]).size+(dH (qE::(f.ag.map eZ).map cr)).size<=140737488355328:=ht.le ⟨_,rfl⟩;have Qi:f.name.size<=120:=M.name.1;have hit:(jZ f).size<=4:=by unfold jZ;split<;>decide
 have kA:=pY (wsq:=[nV,f.name,jZ f]) (l:=[f.args,eZ f.result]) oS (fun n hn=>by
  simp only[List.mem_cons,List.not_mem_nil,or_false] at hn;rcases hn with rfl|rfl
  .unfold oU;omega
  .exact D5 hc.Gd) oS (by
  rw[<- Sz];simp only[ByteArray.size_append];have h1:(⟨#[102,108,111,119,32]⟩:ByteArray).size=5:=rfl;have h2:kp.size=1:=rfl
  omega)
 rw[<- Sz] at kA
 have kR:=pY (wsq:=[qE]) (l:=f.ag.map nC) oS (fun n hn=>by
  obtain⟨r,hr,rfl⟩:=List.mem_map.1 hn
  exact D5 (hc.ag r hr)) (by have:=M.ag;simp;omega) (by rw[vH];decide)
 have kS:=pY (wsq:=[uz]) (l:=f.aN.map nC) oS (fun n hn=>by
  obtain⟨r,hr,rfl⟩:=List.mem_map.1 hn
  exact D5 (hc.aN r hr)) (by have:=M.aN;simp;omega) (by rw[vH];decide)
 rw[vH] at kR kS;have Zd:=AP (l:=f.ag) (by have:=M.ag;omega);have Ze:=AP (l:=f.aN) (by have:=M.aN;omega);refine bu ajd (.cons (.agg (gA f)) .nil) (Tr.s _) ?_;rw[aje];refine ay ?_;refine af ?_;refine ab (aX (bZ [(0,aH f,48)] eH (l:=[(1,.pt (aH f))]) eH) (aj ?_));refine SS ?_;refine ab (eT (fun s=>aM prog s ⟨aF [(1,.pt (aH f)),(3,S (jZ f))],fun _=>none,1⟩) (aj ?_) fun s hs=>⟨_,hs,ua acV ?_⟩)
 .refine af ?_;refine ab (ap rfl (fun hi=>?_) fun hi=>?_)
  .refine iV ?_;refine SS ?_;refine ab (ao ⟨rfl,?_,trivial⟩);rw[jZ,hi];rfl
  .refine dE (ao ⟨rfl,?_,trivial⟩);rw[jZ,hi];rfl
 have g1:(⟨#[102,108,111,119,32]⟩:ByteArray).size=5:=rfl;have g2:kp.size=1:=rfl;have C:(⟨#[102,108,111,119,32]⟩:ByteArray).size+f.name.size<=maxLen:=by unfold maxLen;omega
 have U:((⟨#[102,108,111,119,32]⟩:ByteArray)++f.name).size+kp.size<=maxLen:=by rw[ByteArray.size_append];unfold maxLen;omega
 refine af ?_;refine gE (jG rfl rfl C) ak ?_;refine gE (jG rfl rfl U) ak ?_;refine SS ?_;have C:(((⟨#[102,108,111,119,32]⟩:ByteArray)++f.name)++kp).size+(jZ f).size<=maxLen:=by rw[ByteArray.size_append,ByteArray.size_append];unfold maxLen;omega
 refine gE (jG rfl rfl C) ak ?_;refine cG ?_
 have X:∀ {m:Mem} {w:ByteArray},m 1=some (.cells [I f.args,I (eZ f.result)] 3)->jx prog [1] m [S w,.rs 1 0 2] [S w,aT [f.args,eZ f.result]]:=fun hm=>
  ⟨cT (.s _),uH hm oS (by rw[c3];rfl) (.map fun _=>.s _),trivial⟩
 refine z7 kA rfl (X (an _ _ _)) rfl aG ?_;have AP:=Zd;have pY:=kR
 have C:(dH ([nV,f.name,jZ f]++[f.args,eZ f.result].map cr)).size+(dH ([qE]++(f.ag.map nC).map cr)).size<=maxLen:=by
  have:=y9;simp only[cn,ByteArray.size_append] at this;exact Am (Nat.le_trans (Nat.add_le_add_right (Nat.le_add_right _ _) _) this)
 refine af ?_;refine cl AP ?_;refine cl pY ?_;refine gE (jG rfl rfl C) ak ?_;have AP:=Ze;have pY:=kS
 have C:(dH ([nV,f.name,jZ f]++[f.args,eZ f.result].map cr)++dH ([qE]++(f.ag.map nC).map cr)).size+(dH ([uz]++(f.aN.map nC).map cr)).size<=maxLen:=by
  have:=Gc;simp only[cn,ByteArray.size_append] at this ⊢;exact Am (Nat.le_trans (Nat.add_le_add_right (Nat.add_le_add_left (Nat.le_add_right _ _) _) _) this)
 have e3:(dH ([nV,f.name,jZ f]++[f.args,eZ f.result].map cr)++dH ([qE]++(f.ag.map nC).map cr))++dH ([uz]++(f.aN.map nC).map cr)=cn (pQ f):=by
  have hem:∀ a:ByteArray,a++ByteArray.empty=a:=fun a=>by apply wj;simp[bW]
  unfold pQ cn cn cn cn;rw[hem,ByteArray.append_assoc];rfl
 refine af ?_;refine cl AP ?_;refine cl pY ?_;refine gE (jG rfl rfl C) ak ?_;rw[e3]
 have hw0:(dH (qu::f.signals)).size=(mN f f.signals.length).size+1:=by
  unfold mN dH;rw[ByteArray.size_append,List.take_length];rfl
 have jj:=UO M.sig;have hs6:=M.sigs
 have hH:(cn (pQ f)).size<=1000000:=by
  have:=L5 (ls:=pQ f) (fun l hl=>UQ M l (by
   show l∈wy f++_
   exact List.mem_append_left _ (by
    have:wy f=pQ f++[qu::f.signals]:=rfl
    rw[this];exact List.mem_append_left _ hl)))
  have h3:(pQ f).length=3:=rfl;omega
 have C:(cn (pQ f)).size+qu.size<=maxLen:=by
  have:qu.size=7:=rfl;unfold maxLen;omega
 refine gE (jG rfl rfl C) ak ?_;refine SS ?_;have e4:cn (pQ f)++qu=cn (pQ f)++mN f 0:=by rw[SC]
 refine bN bO (aX (aY (l:=[(1,.pt (aH f)),(4,S (cn (pQ f)++mN f 0))]) (ml:=[]) ⟨rfl,congrArg S e4,trivial⟩ trivial) (aI (ay ?_)));clear X kA kR kS Zd Ze AP pY C U e3 e4;refine SS ?_;generalize hh:cn (pQ f)=H at hH Gb
 refine ab (cD (fun s=>aM prog s ⟨aF [(1,.pt (aH f)),(4,S (H++mN f f.signals.length))],fun _=>none,2⟩) (dD (α:=Nat) (fun k=>⟨aF [(1,.pt (aH f)),(4,S (H++mN f k)),(5,I k)],fun _=>none,2⟩)
  (fun k=>k<=f.signals.length) (fun k=>f.signals.length - k) 0 (ao eH) (Nat.zero_le _) ?_) ?_)
 .rintro k hk;have hb:=jj k hk;refine bm ?_;refine ab ⟨_,rfl,fun h=>?_,fun h=>?_⟩
  .have al:k<f.signals.length:=by simpa using h
   have hx:f.signals[k]? =some f.signals[k]:=bc al;have hd:=KY (M.sig _ (di al));have xm:=SD hx;generalize f.signals[k]=n at hx hd xm;generalize mN f k=A at hb xm;have C:(H++A).size+kp.size<=maxLen:=by rw[ByteArray.size_append];unfold maxLen;omega
   have U:((H++A)++kp).size+n.size<=maxLen:=by rw[ByteArray.size_append,ByteArray.size_append];unfold maxLen;omega
   refine iV ?_;refine SS ?_;refine gE (jG rfl rfl C) ak ?_;refine bm ?_;refine gE (jG rfl rfl U) ak ?_;refine SS ?_;refine ab (show ax _ _ _ _ _ _ _ _ _ from ?_);refine av ?_;exact ab (bg (k+1) (ao ⟨rfl,congrArg S (show((H++A)++kp)++n=H++mN f (k+1) by rw[xm,ByteArray.append_assoc,ByteArray.append_assoc,ByteArray.append_assoc]),rfl,trivial⟩) (show k+1<=_ by omega) oG)
  .have bG:¬ k<f.signals.length:=by simpa using h
   have:k=f.signals.length:=by omega
   subst this;exact ao eH
 rintro s hg;have hb:=jj _ (bM _);refine⟨_,hg,aj ?_⟩;have e5:(H++mN f f.signals.length)++tQ=cn (dT f 0):=by rw[<- hh,acU,aeM]
 generalize mN f f.signals.length=A at hb e5
 have C:(H++A).size+tQ.size<=maxLen:=by
  have:tQ.size=1:=rfl;rw[ByteArray.size_append];unfold maxLen;omega
 refine SS ?_;refine gE (jG rfl rfl C) ak ?_;refine SS ?_;refine ab (aI (ay ?_));refine SS ?_;clear Gb Gc y9 hg jj hb C;have tg:dT f f.blocks.length=j9 f:=by rw[dT,List.take_length];rfl
 have dz:=ht.Yc
 refine ab (cD (fun s=>∃ nx,aM prog s ⟨aF [(4,S (cn (j9 f)))],fun _=>none,nx⟩) (dD (α:=Nat×Nat) (fun s=>⟨aF [(1,.pt (aH f)),(4,S (cn (dT f s.1))),(6,I s.1)],fun _=>none,s.2⟩)
  (fun s=>s.1<=f.blocks.length) (fun s=>f.blocks.length - s.1) (0,2) (ao ⟨rfl,congrArg S e5,rfl,trivial⟩) (Nat.zero_le _) ?_) ?_)
 .clear e5;rintro⟨k,nx⟩ hk;dsimp only at hk ⊢;refine bm ?_;refine ab ⟨_,rfl,fun h=>?_,fun h=>?_⟩
  .have oe:k<f.blocks.length:=by simpa using h
   clear h;obtain⟨b,hb⟩:∃ b,f.blocks[k]? =some b:=⟨_,bc oe⟩
   have n4:=cx hb;have Kg:=M.bF b n4;have Zf:=hc.bF b n4;have hib:=Kg.len;have ajf:dT f k++[[fQ]]<+:j9 f:=Bi hb ⟨_,rfl⟩
   have C:(cn (dT f k)).size+(⟨#[98,108,111,99,107,10]⟩:ByteArray).size<=maxLen:=by
    have:=ht.le ajf;rw[R1] at this;exact Am this
   refine ws ?_;refine SS ?_;refine gE (jG rfl rfl C) ak ?_;refine SS ?_;refine ab (aI (ay ?_));refine SS ?_
   refine ab (cD (fun s=>aM prog s ⟨aF [(1,.pt (aH f)),(4,S (cn (dT f k++([fQ]::ld b)))),(6,I k)],fun _=>none,nx⟩) (dD (α:=Nat)
    (fun j=>⟨aF [(1,.pt (aH f)),(4,S (cn (dT f k++([fQ]::(b.ins.take j).map (jh kN))))),(6,I k),(7,I j)],fun _=>none,nx⟩)
    (fun j=>j<=b.ins.length) (fun j=>b.ins.length - j) 0 (ao ⟨rfl,congrArg S (show cn (dT f k)++⟨#[98,108,111,99,107,10]⟩=cn (dT f k++[[fQ]]) by rw[vK,R1]),rfl,rfl,trivial⟩) (Nat.zero_le _) ?_) ?_)
   .rintro j hj;refine bj ?_;refine ab ⟨_,rfl,fun h=>?_,fun h=>?_⟩
    .have lI:j<b.ins.length:=by simpa using h
     clear h;obtain⟨x,hx⟩:∃ x,b.ins[j]? =some x:=⟨_,bc lI⟩
     have dp:=cx hx;have he:dT f k++([fQ]::(b.ins.take (j+1)).map (jh kN))=(dT f k++([fQ]::(b.ins.take j).map (jh kN)))++[jh kN x]:=by rw[List.take_add_one,hx];simp
     have Aj:(dT f k++([fQ]::(b.ins.take j).map (jh kN)))++[jh kN x]<+:j9 f:=by
      rw[<- he];refine Bi hb ?_;unfold ni ld;refine(List.cons_prefix_cons).2 ⟨rfl,?_⟩;exact((List.take_prefix _ _).map _).trans (List.prefix_append _ _)
     have Cv:=Cv (word:=kN) (UN (Kg.ins x dp) (Zf.ins x dp)) (by have:=(Kg.ins x dp).len;omega) oC;have J:=ht.le Aj;have e6:cn (dT f k++([fQ]::(b.ins.take j).map (jh kN)))++Ak kN x=cn (dT f k++([fQ]::(b.ins.take (j+1)).map (jh kN))):=by rw[he,vK];rfl
     generalize cn (dT f k++([fQ]::(b.ins.take j).map (jh kN)))=A at J e6;have C:A.size+(Ak kN x).size<=maxLen:=Am J;refine iV ?_;refine cP ?_;refine af ?_;refine cl Cv ?_;refine gE (jG rfl rfl C) ak ?_;refine SS ?_;refine ab (show ax _ _ _ _ _ _ _ _ _ from ?_);refine av ?_;exact ab (bg (j+1) (ao ⟨rfl,congrArg S e6,rfl,rfl,trivial⟩) (show j+1<=_ by omega) oG)
    .have bG:¬ j<b.ins.length:=by simpa using h
     have:j=b.ins.length:=by omega
     subst this;rw[List.take_length];exact ao eH
   rintro s hg;refine⟨_,hg,ay ?_⟩;clear hg C;refine cP ?_;refine ab (aX (kY (i:=nx) (l:=[(1,.pt (aH f)),(4,S (cn (dT f k++([fQ]::ld b)))),(6,I k),(8,.pt (a8 b.fin))]) (an _ _ _) ⟨rfl,rfl,rfl,mG,trivial⟩) (ay ?_));have Qj:ni b=[fQ]::(ld b++(n6 b.fin::(eX b.fin++(gu b.fin++b.fin.aC.map io)))):=rfl
   have hT:∀ A,A<+:eX b.fin++(gu b.fin++b.fin.aC.map io)->((dT f k++([fQ]::ld b))++[n6 b.fin])++A<+:j9 f:=fun A hA=>by
    have:=Bi hb (p:=[fQ]::(ld b++(n6 b.fin::A))) (by
     rw[Qj]
     exact(List.cons_prefix_cons).2 ⟨rfl,(List.prefix_append_right_inj _).2 ((List.cons_prefix_cons).2 ⟨rfl,hA⟩)⟩)
    simpa[List.append_assoc] using this
   have hF:=Kg.fin;have hfC:=Zf.fin;generalize b.fin=x at*
   have cU:(x.args.map I).take (x.args.length*1)=x.args.map I:=cO oS;have xq:=hF.len;have kE:=Go.Proofs.Tryz.K.pY (wsq:=[Cw]) (l:=mM x) oS (agp hF) (by simp[mM];omega) (by rw[vH];decide);rw[vH] at kE;have hn:6+x.args.length=(mM x).length:=by simp[mM];omega
   have X:∀ {m:Mem} {q:Nat} {w:ByteArray},m q=some (.cells ((mM x).map I) 3)->jx prog [q] m [S w,.rs q 0 (6+x.args.length)] [S w,aT (mM x)]:=fun hm=>by
    rw[hn];exact⟨cT (.s _),uH hm oS (by rw[c3,List.drop_zero,cO oS]) (.map fun _=>.s _),trivial⟩
   have fT:(dT f k++([fQ]::ld b))++[n6 x]<+:j9 f:=by simpa using hT [] (List.nil_prefix)
   have J:=ht.le fT;have e7:cn (dT f k++([fQ]::ld b))++dH ([Cw]++(mM x).map cr)=cn ((dT f k++([fQ]::ld b))++[n6 x]):=by rw[vK];rfl
   have hAB:dT f k++ni b=(((dT f k++([fQ]::ld b))++[n6 x])++eX x)++gu x++x.aC.map io:=by rw[Qj];simp[List.append_assoc]
   clear Qj;generalize Ge:(dT f k++([fQ]::ld b))++[n6 x]=T1 at*
   generalize cn (dT f k++([fQ]::ld b))=A at J e7;have C:A.size+(dH ([Cw]++(mM x).map cr)).size<=maxLen:=Am J;refine bj ?_;refine cP ?_;refine eE (eC rfl (an _ _ _) rfl dm c3 (fN cU) rfl) aG ⟨df,rfl,oS,oC,rfl,by unfold maxLen;omega,by rw[b3];omega,oS⟩ ?_;refine z7 kE rfl (X (an _ _ _)) rfl aG ?_;refine gE (jG rfl rfl C) ak ?_;refine SS ?_;refine ab (aX (aY (l:=[(1,.pt (aH f)),(4,S (cn T1)),(6,I k),(8,.pt (a8 x))]) (ml:=[]) ⟨rfl,congrArg S e7,rfl,rfl,trivial⟩ trivial) ?_);clear X kE C J e7 cU;refine eT (fun s=>∃ nx,aM prog s ⟨aF [(1,.pt (aH f)),(4,S (cn (T1++eX x))),(6,I k),(8,.pt (a8 x))],fun _=>none,nx⟩) (aj ?_) fun s hs=>?_
   .refine av ?_;refine ab (ap rfl (fun hn=>?_) fun hn=>?_)
    .have O:eX x=[[yp,x.name]]:=by
      unfold eX;rw[if_neg];intro he;simp[he] at hn
     have J:=ht.le (hT [[yp,x.name]] (by rw[O];exact List.prefix_append _ _));have Yd:=J;rw[<- SA,ByteArray.size_append,ByteArray.size_append] at Yd;have h5:(⟨#[110,97,109,101,32]⟩:ByteArray).size=5:=rfl;have h1:tQ.size=1:=rfl;have e8:((cn T1++⟨#[110,97,109,101,32]⟩)++x.name)++tQ=cn (T1++eX x):=by rw[O,vK, <- SA];simp only[ByteArray.append_assoc]
     generalize cn T1=A at Yd e8;have C:A.size+(⟨#[110,97,109,101,32]⟩:ByteArray).size<=maxLen:=by unfold maxLen;omega
     have U:(A++⟨#[110,97,109,101,32]⟩).size+x.name.size<=maxLen:=by rw[ByteArray.size_append];unfold maxLen;omega
     refine iV ?_;refine SS ?_;refine gE (jG rfl rfl C) ak ?_;refine af ?_;refine gE (jG rfl rfl U) ak ?_;have C:((A++⟨#[110,97,109,101,32]⟩)++x.name).size+tQ.size<=maxLen:=by rw[ByteArray.size_append,ByteArray.size_append];unfold maxLen;omega
     refine gE (jG rfl rfl C) ak ?_;refine SS ?_;exact ab ⟨_,ao ⟨rfl,congrArg S e8,rfl,rfl,trivial⟩⟩
    .have O:eX x=[]:=by
      unfold eX;rw[if_pos];by_cases he:x.name.toList=[]
      .exact he
      .simp[he] at hn
     rw[O,List.append_nil];exact dE ⟨_,ao eH⟩
   obtain⟨nx,hg⟩:=hs;refine⟨_,hg,eT (fun s=>∃ nx,aM prog s ⟨aF [(1,.pt (aH f)),(4,S (cn ((T1++eX x)++gu x))),(6,I k),(8,.pt (a8 x))],fun _=>none,nx⟩) (aj ?_) fun s hs=>?_⟩
   .clear hg;refine av ?_;refine ab (ap rfl (fun hn=>?_) fun hn=>?_)
    .have O:gu x=[jh tk x.ins]:=by
      unfold gu;rw[if_pos];simpa using hn
     have AQ:(T1++eX x)++[jh tk x.ins]<+:j9 f:=by
      rw[List.append_assoc];refine hT _ ((List.prefix_append_right_inj _).2 ?_);rw[O];exact List.prefix_append _ _
     have Cv:=Cv (word:=tk) (UN hF.ins hfC) (by have:=hF.ins.len;omega) oC;have J:=ht.le AQ;have e9:cn (T1++eX x)++Ak tk x.ins=cn ((T1++eX x)++gu x):=by rw[O,vK];rfl
     generalize cn (T1++eX x)=A at J e9;have C:A.size+(Ak tk x.ins).size<=maxLen:=Am J;refine iV ?_;refine av ?_;refine cl Cv ?_;refine gE (jG rfl rfl C) ak ?_;refine SS ?_;exact ab ⟨_,ao ⟨rfl,congrArg S e9,rfl,rfl,trivial⟩⟩
    .have O:gu x=[]:=by
      unfold gu;rw[if_neg];simpa using hn
     rw[O,List.append_nil];exact dE ⟨_,ao eH⟩
   clear hg;obtain⟨nx,hg⟩:=hs;refine⟨_,hg,ay ?_⟩;clear hg;refine SS ?_;have hwl:=hF.aC;have hww:=hF.wh
   refine ab (dD (α:=Nat×Nat)
    (fun s=>⟨aF [(1,.pt (aH f)),(4,S (cn (((T1++eX x)++gu x)++(x.aC.take s.1).map io))),(6,I k),(8,.pt (a8 x)),(9,I s.1)],fun _=>none,s.2⟩)
    (fun s=>s.1<=x.aC.length) (fun s=>x.aC.length - s.1) (0,nx)
    (by dsimp only;rw[List.take_zero,List.map_nil,List.append_nil];exact ao eH) (Nat.zero_le _) ?_)
   rintro⟨i,nx⟩ hi;dsimp only at hi ⊢;refine bm ?_;refine ab ⟨_,rfl,fun h=>?_,fun h=>?_⟩
   .have lI:i<x.aC.length:=by simpa using h
    clear h;obtain⟨w,hw⟩:∃ w,x.aC[i]? =some w:=⟨_,bc lI⟩
    have CW:=hww w (cx hw);have he:((T1++eX x)++gu x)++(x.aC.take (i+1)).map io=(((T1++eX x)++gu x)++(x.aC.take i).map io)++[io w]:=by rw[List.take_add_one,hw];simp
    have AQ:(((T1++eX x)++gu x)++(x.aC.take i).map io)++[io w]<+:j9 f:=by
     rw[<- he,List.append_assoc,List.append_assoc];exact hT _ ((List.prefix_append_right_inj _).2 ((List.prefix_append_right_inj _).2 ((List.take_prefix _ _).map _)))
    have AR:=KY CW.2
    have kW:=Go.Proofs.Tryz.K.pY (wsq:=[Aa,w.name]) (l:=[w.to]) oS (fun n hn=>by
     simp only[List.mem_cons,List.not_mem_nil,or_false] at hn;subst hn
     exact rR CW.1) oS (by
     rw[<- SB,ByteArray.size_append];have:(⟨#[119,104,101,110,32]⟩:ByteArray).size=5:=rfl
     omega)
    rw[<- SB] at kW
    have X:∀ {m:Mem} {q:Nat} {u:ByteArray},m q=some (.cells [I w.to] 3)->jx prog [q] m [S u,.rs q 0 1] [S u,aT [w.to]]:=fun hm=>
     ⟨cT (.s _),uH hm oS (by rw[c3];rfl) (.map fun _=>.s _),trivial⟩
    have J:=ht.le AQ;have Dk:cn (((T1++eX x)++gu x)++(x.aC.take i).map io)++dH ([Aa,w.name]++[w.to].map cr)=cn (((T1++eX x)++gu x)++(x.aC.take (i+1)).map io):=by rw[he,vK];rfl
    generalize cn (((T1++eX x)++gu x)++(x.aC.take i).map io)=A at J Dk
    have C:(⟨#[119,104,101,110,32]⟩:ByteArray).size+w.name.size<=maxLen:=by
     have:(⟨#[119,104,101,110,32]⟩:ByteArray).size=5:=rfl;unfold maxLen;omega
    have U:A.size+(dH ([Aa,w.name]++[w.to].map cr)).size<=maxLen:=Am J;refine BU abm ?_;refine fB ?_;refine gE (jG rfl rfl C) ak ?_;refine fB ?_;refine z7 kW rfl (X (an _ _ _)) rfl aG ?_;refine gE (jG rfl rfl U) ak ?_;refine SS ?_;refine bN bO (show ax _ _ _ _ _ _ _ _ _ from ?_);refine av ?_;exact ab (bg (i+1,nx+1) (aY (ml:=[]) ⟨rfl,congrArg S Dk,rfl,rfl,rfl,trivial⟩ trivial) (show i+1<=_ by omega) oM)
   .have bG:¬ i<x.aC.length:=by simpa using h
    have:i=x.aC.length:=by omega
    subst this;rw[List.take_length];show ax _ _ _ _ _ _ _ _ _;refine av ?_;refine ab (bg (k+1,nx) ?_ (show k+1<=_ by omega) oM);dsimp only;rw[L6 hb,hAB];exact ao eH
  .have bG:¬ k<f.blocks.length:=by simpa using h
   have:k=f.blocks.length:=by omega
   subst this;rw[tg];exact⟨nx,ao eH⟩
 .rintro s ⟨nx,hg⟩;refine⟨_,hg,aj ?_⟩;refine af ?_;exact ab (aw rfl rfl)
end Go.Proofs.Tryz.K
namespace Go.Argus
def Xw(a b:Int):Int:=mn .andNot .u64 a b
def Jg(w:List Int)(m:Nat):List Int:=w.set (m / 64) (Xw (w.getD (m / 64) 0) (IntKind.u64.wrap (1*2 ^ (min (m % 64) 64))))
def ET(w:List Int)(n:Int):List Int:=if 0<=n then Jg w n.toNat else w
def yv(w v:List Int):Nat->List Int
 |0=>w
 |k+1=>(yv w v k).set k (AY ((yv w v k).getD k 0) (v.getD k 0))
def al0(w v:List Int):List Int:=yv w v 19
@[simp] theorem aqK (w : List Int) (m : Nat) : (Jg w m).length = w.length := by simp [Jg]
@[simp] theorem aqL (w : List Int) (n : Int) : (ET w n).length = w.length := by unfold ET; split <;> simp
@[simp] theorem Tb (w v : List Int) : ∀ k, (yv w v k).length = w.length
 |0=>rfl
 |k+1=>by simp[yv,Tb w v k]
@[simp] theorem aqM (w v : List Int) : (al0 w v).length = w.length := Tb w v 19
def kX(x:End):List Int:=if x.kind≠3/\x.kind≠4 then [x.to] else []
def qg(x:End):List Int:=if x.kind=2\/x.kind=8 then kX x++[x.fL] else kX x
def gz(x:End)(k:Nat):List Int:=qg x++(x.aC.take k).map (·.to)
def fv(x:End):List Int:=if 0<=x.others then gz x x.aC.length++[x.others] else gz x x.aC.length
theorem ae'{x:End}{k:Nat}{w:jM}(h:x.aC[k]? =some w):gz x (k+1)=gz x k++[w.to]:=by
 unfold gz;rw[List.take_add_one,h,List.map_append,List.append_assoc];rfl
theorem MG(x:End):(qg x).length<=2:=by unfold qg kX;repeat' split<;>simp
theorem Ha(x:End):(fv x).length<=x.aC.length+3:=by
 have:=MG x;unfold fv gz;split<;>simp<;>omega
end Go.Argus
end
namespace Go.Argus
open Go Go.Abs
theorem ZU(v:BitVec 64)(i:Nat):(IntKind.u64.wrap (v.toNat:Int)).toNat.testBit i=v.getLsbD i:=by
 rw[wrap_u64 v.isLt,eI,BitVec.testBit_toNat]
theorem KK{a:Int}(ha:eF a)(i:Nat):(BitVec.ofInt 64 a).getLsbD i=a.toNat.testBit i:=by
 obtain⟨n,rfl⟩:=iG ha.1;have h:=ha.2;rw[<- BitVec.testBit_toNat,BitVec.toNat_ofInt];congr 1;omega
theorem alZ{a b:Int}(ha:eF a)(hb:eF b)(i:Nat):(AY a b).toNat.testBit i=(a.toNat.testBit i||b.toNat.testBit i):=by
 have:AY a b=IntKind.u64.wrap (((BitVec.ofInt 64 a||| BitVec.ofInt 64 b).toNat:Nat):Int):=rfl;rw[this,ZU,BitVec.getLsbD_or,KK ha,KK hb]
theorem We{a b:Int}(ha:eF a)(hb:eF b)(i:Nat):(qU a b).toNat.testBit i=(a.toNat.testBit i&&b.toNat.testBit i):=by
 have:qU a b=IntKind.u64.wrap (((BitVec.ofInt 64 a&&& BitVec.ofInt 64 b).toNat:Nat):Int):=rfl;rw[this,ZU,BitVec.getLsbD_and,KK ha,KK hb]
theorem LL(v:BitVec 64):eF (IntKind.u64.wrap (v.toNat:Int)):=by
 rw[wrap_u64 v.isLt];have:=v.isLt;unfold eF;omega
theorem abX(a b:Int):eF (Xw a b):=LL (BitVec.ofInt 64 a&&& ~~~ BitVec.ofInt 64 b)
theorem adL(a b:Int):eF (AY a b):=LL (BitVec.ofInt 64 a||| BitVec.ofInt 64 b)
theorem agW{k:Nat}(hk:k<64):IntKind.u64.wrap (1*2 ^ (min k 64))=((2 ^ k:Nat):Int):=by
 have h1:min k 64=k:=by omega
 have h2:(2:Nat) ^ k<2 ^ 64:=Nat.pow_lt_pow_right oG hk;rw[h1,Int.one_mul, <- wrap_u64 h2]
 norm_cast
def eM(w:List Int)(r:Nat):Bool:=(w.getD (r / 64) 0).toNat.testBit (r % 64)
def hP(w:List Int):Prop:=∀ u∈w,eF u
theorem hP.get{w:List Int}(h:hP w)(i:Nat):eF (w.getD i 0):=by
 rw[eh];cases hx:w[i]? with
 |none=>exact⟨oS,oS⟩
 |some u=>exact h u (cx hx)
theorem afy{k:Nat}(hk:k<64):eF ((2 ^ k:Nat):Int):=by
 have h2:(2:Nat) ^ k<2 ^ 64:=Nat.pow_lt_pow_right oG hk;generalize (2:Nat) ^ k=z at h2;unfold eF;omega
theorem zx{w:List Int}(h:hP w)(m:Nat):lF w m=eM w m:=by
 have hu:=h.get (m / 64);unfold lF eM;generalize w.getD (m / 64) 0=u at hu;have hk:min (m % 64) 64=m % 64:=by omega
 rw[hk];obtain⟨n,rfl⟩:=iG hu.1
 have e:((n:Int).fdiv (2 ^ (m % 64)))=((n / 2 ^ (m % 64):Nat):Int):=by
  rw[Int.fdiv_eq_ediv_of_nonneg _ (Int.le_of_lt (Int.pow_pos oG)),Int.natCast_ediv,Int.natCast_pow];rfl
 rw[e];have hd:n / 2 ^ (m % 64)<=n:=Nat.div_le_self _ _
 have hq:eF ((n / 2 ^ (m % 64):Nat):Int):=by
  have:=hu.2;revert hd;generalize n / 2 ^ (m % 64)=z;intro hd;unfold eF;omega
 have h1:eF 1:=by unfold eF;omega
 have hb:∀ i,(qU ((n / 2 ^ (m % 64):Nat):Int) 1).toNat.testBit i=(n.testBit (m % 64)&&decide (i=0)):=fun i=>by
  rw[We hq h1,eI];by_cases hi:i=0
  .subst hi;simp[Nat.testBit_eq_decide_div_mod_eq]
  .have:(1:Int).toNat.testBit i=false:=by
    show Nat.testBit 1 i=false;cases i with
    |zero=>omega
    |succ j=>simp[Nat.testBit_succ]
   rw[this];simp[hi]
 have hp:eF (qU ((n / 2 ^ (m % 64):Nat):Int) 1):=LL (BitVec.ofInt 64 _&&& BitVec.ofInt 64 1);generalize qU ((n / 2 ^ (m % 64):Nat):Int) 1=z at hb hp;obtain⟨q,rfl⟩:=iG hp.1;simp only[eI] at hb ⊢;cases hn:n.testBit (m % 64) with
 |false=>
  have:q=0:=Nat.eq_of_testBit_eq fun i=>by rw[hb i,hn];simp
  subst this;rfl
 |true=>
  have:q=1:=Nat.eq_of_testBit_eq fun i=>by
   rw[hb i,hn];cases i with
   |zero=>simp
   |succ j=>simp[Nat.testBit_succ]
  subst this;rfl
theorem U'{w:List Int}{i:Nat}{u:Int}(hi:i<w.length)(r:Nat):eM (w.set i u) r=if r / 64=i then u.toNat.testBit (r % 64) else eM w r:=by
 unfold eM;simp only[eh,List.getElem?_set];split
 .rename_i h;subst h;simp[hi]
 .rename_i h;rw[if_neg fun e=>h e.symm]
theorem Mc{w:List Int}(h:hP w){m:Nat}(hm:m / 64<w.length)(r:Nat):eM (ym w m) r=(eM w r||decide (r=m)):=by
 have hk:m % 64<64:=by omega
 unfold ym;rw[agW hk,U' hm];split
 .rename_i e;rw[alZ (h.get _) (afy hk),eI,Nat.testBit_two_pow,eM,e];congr 1;apply decide_eq_decide.2;omega
 .rename_i e;have:¬ r=m:=fun h=>e (by rw[h]);simp[this]
theorem hP.set{w:List Int}(h:hP w){i:Nat}{u:Int}(hu:eF u):hP (w.set i u):=fun x hx=>by
 rcases List.mem_or_eq_of_mem_set hx with h1|h1
 .exact h x h1
 .subst h1;exact hu
theorem hP.less{w:List Int}(h:hP w)(m:Nat):hP (Jg w m):=h.set (abX _ _)
theorem hP.ET{w:List Int}(h:hP w)(n:Int):hP (ET w n):=by
 unfold Argus.ET;split
 .exact h.less _
 .exact h
theorem hP.yv{w v:List Int}(h:hP w):∀ k,hP (yv w v k)
 |0=>h
 |k+1=>(hP.yv h k).set (adL _ _)
theorem Ta{w v:List Int}(h:hP w)(hv:hP v)(hl:w.length=v.length)(he:∀ r,eM w r=eM v r):w=v:=by
 apply List.ext_getElem hl;intro i h1 h2;have C:w.getD i 0=w[i]:=by simp[eh,bc h1]
 have e2:v.getD i 0=v[i]:=by simp[eh,bc h2]
 have a:=h w[i] oS;have b:=hv v[i] oS
 have:w[i].toNat=v[i].toNat:=Nat.eq_of_testBit_eq fun k=>by
  by_cases hk:k<64
  .have:=he (i*64+k);unfold eM at this;rw[show(i*64+k) / 64=i by omega,show(i*64+k) % 64=k by omega,C,e2] at this;exact this
  .have h2:2 ^ 64<=2 ^ k:=Nat.pow_le_pow_right oG oG;unfold eF at a b;rw[Nat.testBit_lt_two_pow oG,Nat.testBit_lt_two_pow oG]
 unfold eF at a b;omega
theorem afv(n r:Nat):eM (List.replicate n 0) r=false:=by
 unfold eM;rw[eh,List.getElem?_replicate];split<;>simp
end Go.Argus
section
open Go Go.Abs Go.Proofs Go.Argus
namespace Go.Argus
def cu(f:aK)(h:D):List D:=[S f.name,B f.iter,I f.args,U8 f.result,iI f.ag,iI f.aN,ez f.signals,dQ f.blocks,h]
@[simp] theorem aqO (f : aK) (h : D) : (cu f h).length = 9 := rfl
theorem wC{h:D}(ht:Tr h)(f:aK):∀ d∈cu f h,Tr d:=.cons (.s _) (.cons (.s _) (.cons (.s _) (.cons (.s _) (.cons (nM _) (.cons (nM _) (.cons (oI _) (.cons (LI _) (.cons ht .nil))))))))
def bD(f:aK)(r k:Int):Bool:=if k=119 then cB f.ag r==1 else if k=114 then cB f.ag r==2 else if k=105 then cB f.ag r==3 else eU f.ag r
theorem HK{s:ByteArray}{k:Nat}(h:k<s.size):((s.data.toList.getD (k:Int).toNat 0).toNat:Int)∈dd s/\(dd s)[k]? =some ((s.data.toList.getD (k:Int).toNat 0).toNat:Int):=by
 have h1:k<s.data.toList.length:=by simpa using h
 have h2:(dd s)[k]? =some ((s.data.toList.getD (k:Int).toNat 0).toNat:Int):=by
  simp[dd,bc h1,eh]
 exact⟨cx h2,h2⟩
def lC(f:aK)(a b:Int):Bool:=eU f.ag a&&(eU f.ag b&&cB f.ag a==cB f.ag b)
end Go.Argus
namespace Go.Proofs.Tryz.K
theorem ix{n a b:Int}:az prog 188 [I n,I a,I b] (B (dx n a b)):=by
 refine bu akC (.cons (.s _) (.cons (.s _) (.cons (.s _) .nil))) (Tr.s _) ?_;rw[akD];refine ws ?_;refine SS ?_;refine er ?_;refine bj ?_;refine ab (aw (d:=.s (.bool _)) rfl ?_);unfold dx;by_cases h:a<=n<;>simp[h]
theorem Ar{s:ByteArray}(hs:s.size<=maxLen):az prog 187 [S s] (B (jr s)):=by
 unfold maxLen at hs;refine bu akE (.cons (.s _) .nil) (Tr.s _) ?_;rw[akF];refine ws ?_;refine SS ?_;refine ab (aI (ay ?_));refine SS ?_
 refine ab (cD (fun st=>aM prog st ⟨aF [(0,S s)],fun _=>none,0⟩/\∀ (j:Nat) y,(dd s)[j]? =some y->ue y=false) (dD (α:=Nat) (fun k=>⟨aF [(0,S s),(3,I k)],fun _=>none,0⟩)
  (fun k=>k<=s.size/\∀ j y,j<k->(dd s)[j]? =some y->ue y=false) (fun k=>s.size - k) 0 (ao eH) ⟨oG,fun j y hj=>by omega⟩ ?_) ?_)
 .rintro k ⟨hk,hinv⟩;refine aR ?_;refine ab ⟨_,rfl,fun h=>?_,fun h=>?_⟩
  .have al:k<s.size:=by simpa using h
   obtain⟨hm,hx⟩:=HK al;generalize hz:s.data.toList.getD (k:Int).toNat 0=z at hm hx;refine ws ?_;refine cP ?_;refine af ?_;refine ab (ap rfl (fun hp=>?_) fun hp=>?_)
   .refine ws ?_;refine SS ?_;refine ab (bp (cZ (a6 (aw (d:=B false) rfl ?_))));have h1:(dd s).any ue=true:=List.any_eq_true.2 ⟨_,hm,by rw[hz] at hp;revert hp;simp[ue]⟩;unfold jr;rw[h1];simp
   .refine dE ?_;refine av ?_;refine ab (bg (k+1) (ao eH) ⟨oG,fun j y hj hy=>?_⟩ oG);by_cases e:j=k
    .subst e;rw[hx] at hy;cases hy;rw[hz] at hp;revert hp;simp[ue]
    .exact hinv j y oG hy
  .have J:¬ k<s.size:=by simpa using h
   exact⟨ao eH,fun j y hy=>hinv j y (by have:=(bX.1 hy).1;simp[dd] at this;omega) hy⟩
 .rintro st ⟨hg,C⟩;refine⟨_,hg,aj ?_⟩;have ix:=ix (n:=s.size) (a:=1) (b:=120);refine af ?_;refine cl ix ?_;refine SS ?_;refine ab (aw (d:=.s (.bool _)) rfl ?_)
  have h1:(dd s).any ue=false:=List.any_eq_false.2 fun x hx=>by
   obtain⟨j,hj⟩:=dR hx;rw[C j x hj];simp
  unfold jr;rw[h1];simp
theorem o5{s:ByteArray}(hs:s.size<=maxLen):az prog 189 [S s] (B (isName s)):=by
 unfold maxLen at hs;refine bu akG (.cons (.s _) .nil) (Tr.s _) ?_;rw[akH];refine ws ?_;refine SS ?_;refine ab (aI (ay ?_));refine SS ?_
 refine ab (cD (fun st=>aM prog st ⟨aF [(0,S s)],fun _=>none,0⟩/\∀ (j:Nat) y,(dd s)[j]? =some y->uf y=false) (dD (α:=Nat) (fun k=>⟨aF [(0,S s),(3,I k)],fun _=>none,0⟩)
  (fun k=>k<=s.size/\∀ j y,j<k->(dd s)[j]? =some y->uf y=false) (fun k=>s.size - k) 0 (ao eH) ⟨oG,fun j y hj=>by omega⟩ ?_) ?_)
 .rintro k ⟨hk,hinv⟩;refine aR ?_;refine ab ⟨_,rfl,fun h=>?_,fun h=>?_⟩
  .have al:k<s.size:=by simpa using h
   obtain⟨hm,hx⟩:=HK al;generalize hz:s.data.toList.getD (k:Int).toNat 0=z at hm hx;refine ws ?_;refine bj ?_;refine bj ?_;refine aR ?_;refine ab (ap rfl (fun hp=>?_) fun hp=>?_)
   .refine ws ?_;refine SS ?_;refine ab (bp (cZ (a6 (aw (d:=B false) rfl ?_))));have h1:(dd s).any uf=true:=List.any_eq_true.2 ⟨_,hm,by rw[hz] at hp;revert hp;simp[uf]⟩;unfold isName;rw[h1];simp
   .refine dE ?_;refine av ?_;refine ab (bg (k+1) (ao eH) ⟨oG,fun j y hj hy=>?_⟩ oG);by_cases e:j=k
    .subst e;rw[hx] at hy;cases hy;rw[hz] at hp;revert hp;simp[uf]
    .exact hinv j y oG hy
  .have J:¬ k<s.size:=by simpa using h
   exact⟨ao eH,fun j y hy=>hinv j y (by have:=(bX.1 hy).1;simp[dd] at this;omega) hy⟩
 .rintro st ⟨hg,C⟩;refine⟨_,hg,aj ?_⟩;have ix:=ix (n:=s.size) (a:=1) (b:=12);refine af ?_;refine cl ix ?_;refine SS ?_;refine ab (aw (d:=.s (.bool _)) rfl ?_)
  have h1:(dd s).any uf=false:=List.any_eq_false.2 fun x hx=>by
   obtain⟨j,hj⟩:=dR hx;rw[C j x hj];simp
  unfold isName;rw[h1];simp
theorem wx{f:aK}{hd:D}(h:hd.one=true):(cu f hd).all D.one=true:=by
 simp only[cu,List.all_cons,List.all_nil,h,Bool.and_true];rfl
section
variable{f:aK}{hd:D}(ht:Tr hd)(dc:hd.one=true)
include ht dc
theorem iT{b:Int}(hn:f.blocks.length<=1200):az prog 138 [.agg (cu f hd),I b] (B (cv f b)):=by
 refine bu akI (.cons (.agg (wC ht f)) (.cons (.s _) .nil)) (Tr.s _) ?_;rw[akJ];refine ay ?_;refine af ?_;refine ab (aX (bZ [(0,cu f hd,206)] eH (l:=[(1,I b),(2,.pt (cu f hd))]) eH) (aj ?_));have ix:=ix (n:=b) (a:=0) (b:=(f.blocks.length:Int) - 1);refine cG ?_;refine cl ix ?_;refine SS ?_;exact ab (aw rfl rfl)
theorem cm{r k:Int}:az prog 191 [.agg (cu f hd),I r,U8 k] (B (bD f r k)):=by
 refine bu akK (.cons (.agg (wC ht f)) (.cons (.s _) (.cons (.s _) .nil))) (Tr.s _) ?_;rw[akL];refine ay ?_;refine af ?_;refine ab (aX (bZ [(0,cu f hd,206)] eH (l:=[(1,I r),(2,U8 k),(3,.pt (cu f hd))]) eH) (aI (aj ?_)));refine cP ?_;refine cq rfl rfl (NE rfl rfl) (fun hc=>⟨ak,rfl⟩) ?_;refine SS ?_;refine ab (dZ rfl (fun h=>?_) fun h=>cX (aj ?_))
 .refine aI (aj ?_);refine SS ?_;refine ab (eb (aw (d:=.s (.bool _)) rfl ?_))
  have h0:cB f.ag r=0:=LF fun hh=>by
   by_cases h1:r<0<;>simp[h1] at h<;>omega
  simp[bD,eU,h0]
 .have hr:0<=r/\r<f.ag.length:=by
   by_cases h1:r<0<;>simp[h1] at h;omega
  obtain⟨n,rfl⟩:=iG hr.1;have hx:f.ag[n]? =some f.ag[n]:=bc oG;have hk:=ug hx;have hi:bD f n k=if k=119 then f.ag[n]==1 else if k=114 then f.ag[n]==2 else if k=105 then f.ag[n]==3 else f.ag[n]==1||f.ag[n]==2:=by simp only[bD,eU,hk]
  rw[hi];generalize f.ag[n]=v at hx;clear h hi hk;refine fB ?_;refine ab (aI (aj ?_));refine SS ?_;refine ab (ou (aj ?_));refine af ?_;refine ab (ap rfl (fun h0=>?_) fun h0=>?_)
  .have h0:k=119:=by simpa using h0
   refine ws ?_;refine av ?_;refine ab (bp (bU (a6 (aw (d:=.s (.bool _)) rfl ?_))));simp[h0]
  have h0:¬ k=119:=by simpa using h0
  refine ws ?_;refine af ?_;refine ab (ap rfl (fun h1=>?_) fun h1=>?_)
  .have h1:k=114:=by simpa using h1
   refine ws ?_;refine av ?_;refine ab (bp (bU (a6 (aw (d:=.s (.bool _)) rfl ?_))));simp[h1]
  have h1:¬ k=114:=by simpa using h1
  refine ws ?_;refine af ?_;refine ab (ap rfl (fun h2=>?_) fun h2=>?_)
  .have h2:k=105:=by simpa using h2
   refine ws ?_;refine av ?_;refine ab (bp (bU (a6 (aw (d:=.s (.bool _)) rfl ?_))));simp[h2]
  have h2:¬ k=105:=by simpa using h2
  refine nS (aj ?_);refine fB ?_;refine ab (aw (d:=.s (.bool _)) rfl ?_);rw[if_neg h0,if_neg h1,if_neg h2];by_cases C:v=1<;>simp[C]
end
section
variable{f:aK}{hd:D}(ht:Tr hd)(dc:hd.one=true)
include ht dc
theorem As{a b:Int}:az prog 192 [.agg (cu f hd),I a,I b] (B (lC f a b)):=by
 have hi:∀ r,bD f r 118=eU f.ag r:=fun r=>rfl;have C:=cm (f:=f) ht dc (r:=a) (k:=118);have J:=cm (f:=f) ht dc (r:=b) (k:=118);rw[hi] at C J;refine bu akM (.cons (.agg (wC ht f)) (.cons (.s _) (.cons (.s _) .nil))) (Tr.s _) ?_;rw[akN];refine ay ?_;refine af ?_;refine ab (aX (bZ [(0,cu f hd,206)] eH (l:=[(1,I a),(2,I b),(3,.pt (cu f hd))]) eH) (ej adh ?_))
 have U:∀ r,eU f.ag r=true->∃ (n:Nat) (x:Int),r=n/\f.ag[n]? =some x/\cB f.ag r=x:=fun r h=>by
  obtain⟨h1,h2⟩:=mZ h;obtain⟨n,rfl⟩:=iG h1;have hx:f.ag[n]? =some f.ag[n]:=bc oG;exact⟨n,_,rfl,hx,ug hx⟩
 unfold lC;cases M:eU f.ag a with
 |false=>
  rw[M] at C;have cm:=C;refine af ?_;refine cl cm ?_;refine SS ?_;refine z fun _ _=>?_;have cm:=J
  (iterate 2 refine z fun _ _=>?_);refine af ?_;(iterate 13 refine z fun _ _=>?_);refine af ?_
  exact bN bO (aw rfl rfl)
 |true=>
  rw[M] at C;cases O:eU f.ag b with
  |false=>
   rw[O] at J;have cm:=C;refine af ?_;refine cl cm ?_;refine af ?_;have cm:=J;refine SS ?_;refine gc cm ?_;refine af ?_;(iterate 13 refine z fun _ _=>?_);refine af ?_;exact bN bO (aw rfl rfl)
  |true=>
   rw[O] at J;obtain⟨n,x,rfl,hx,X⟩:=U a M;obtain⟨m,y,rfl,hy,e2⟩:=U b O;rw[X,e2];have cm:=C;refine af ?_;refine cl cm ?_;refine af ?_;have cm:=J;refine SS ?_;refine gc cm ?_;refine bj ?_;refine cP ?_;exact bN bO (aw rfl rfl)
theorem vf{l:List Int}:az prog 193 [.agg (cu f hd),aT l] (B (ie f.ag l)):=by
 have C:∀ a∈[D.agg (cu f hd),aT l],Tr a:=.cons (.agg (wC ht f)) (.cons (dU _) .nil);refine pr Xh.he C fun M=>?_;have hlen:=(M (aT l) oS).sl.1;unfold maxLen at hlen;refine bu Xh C (Tr.s _) ?_;rw[akO];refine ay ?_;refine af ?_;refine ab (aX (bZ [(0,cu f hd,206)] eH (l:=[(1,aT l),(2,.pt (cu f hd))]) eH) (aI (ay ?_)));refine SS ?_
 refine ab (cD (fun s=>aM prog s ⟨aF [],fun _=>none,1⟩/\∀ (j:Nat) y,l[j]? =some y->eU f.ag y=true) (dD (α:=Nat) (fun k=>⟨aF [(1,aT l),(2,.pt (cu f hd)),(5,I k)],fun _=>none,1⟩)
  (fun k=>k<=l.length/\∀ j y,j<k->l[j]? =some y->eU f.ag y=true) (fun k=>l.length - k) 0 (ao eH) ⟨oG,fun j y hj=>by omega⟩ ?_) ?_)
 .rintro k ⟨hk,hinv⟩;refine aR ?_;refine ab ⟨_,rfl,fun h=>?_,fun h=>?_⟩
  .have al:k<l.length:=by simpa using h
   have hx:l[k]? =some l[k]:=by simp[al]
   generalize l[k]=x at hx;have cm:az prog 191 [.agg (cu f hd),I x,U8 118] (B (eU f.ag x)):=cm (f:=f) ht dc (r:=x) (k:=118);refine ej adi ?_;refine bm ?_;refine cl cm ?_;refine SS ?_;refine bN bO (aj ?_);refine af ?_;refine ab (ap rfl (fun hp=>?_) fun hp=>?_)
   .refine ws ?_;refine SS ?_;refine ab (bp (cZ (a6 (aw (d:=B false) rfl ?_))));have:ie f.ag l=false:=List.all_eq_false.2 ⟨x,cx hx,by simpa using hp⟩;rw[this]
   .refine dE ?_;refine av ?_;refine ab (bg (k+1) (ao eH) ⟨oG,fun j y hj hy=>?_⟩ oG);by_cases e:j=k
    .subst e;rw[hx] at hy;cases hy;simpa using hp
    .exact hinv j y oG hy
  .have O:¬ k<l.length:=by simpa using h
   exact⟨.forget _ _ _ _ fun _=>.inr rfl,fun j y hy=>hinv j y (by have:=(bX.1 hy).1;omega) hy⟩
 .rintro s ⟨hg,J⟩;refine⟨_,hg,aj ?_⟩;refine SS ?_;refine ab (aw (d:=B true) rfl ?_)
  have:ie f.ag l=true:=bT.2 fun x hx=>by
   obtain⟨j,hj⟩:=dR hx;exact J j x hj
  rw[this]
theorem JD{n r:Int}(hl:f.aN.length<=60)(hs:∀ k∈f.aN,k=1\/k=2):az prog 194 [.agg (cu f hd),I n,I r] (B (nr f.ag f.aN r n)):=by
 have ix:=ix (n:=n) (a:=0) (b:=(f.aN.length:Int) - 1);have U:az prog 191 [.agg (cu f hd),I r,U8 118] (B (eU f.ag r)):=cm (f:=f) ht dc (r:=r) (k:=118);refine bu akP (.cons (.agg (wC ht f)) (.cons (.s _) (.cons (.s _) .nil))) (Tr.s _) ?_;rw[akQ];refine ay ?_;refine af ?_;refine ab (aX (bZ [(0,cu f hd,206)] eH (l:=[(1,I n),(2,I r),(3,.pt (cu f hd))]) eH) (ej adj ?_));unfold nr;have cm:=U;cases C:dx n 0 (f.aN.length - 1) with
 |false=>
  rw[C] at ix;refine cG ?_;refine cl ix ?_;refine SS ?_;(iterate 3 refine z fun _ _=>?_);refine af ?_;(iterate 13 refine z fun _ _=>?_);refine af ?_;exact bN bO (aw rfl rfl)
 |true=>
  rw[C] at ix;have h0:=iW.1 C;obtain⟨m,rfl⟩:=iG h0.1;have hx:f.aN[m]? =some f.aN[m]:=bc oG;have O:=ug hx;have M:=hs _ (cx hx);rw[O];generalize f.aN[m]=x at hx M;cases hv:eU f.ag r with
  |false=>
   rw[hv] at cm;refine cG ?_;refine cl ix ?_;refine av ?_;refine gc cm ?_;refine af ?_;(iterate 13 refine z fun _ _=>?_);refine af ?_;refine bN bO (aw (d:=.s (.bool _)) rfl ?_)
   have:(cB f.ag r==x)=false:=by
    unfold eU at hv;rcases M with rfl|rfl<;>simp at hv ⊢<;>simp[hv]
   rw[this];rfl
  |true=>
   rw[hv] at cm;obtain⟨h1,h2⟩:=mZ hv;obtain⟨i,rfl⟩:=iG h1;have hy:f.ag[i]? =some f.ag[i]:=bc oG;have J:=ug hy;rw[J];generalize f.ag[i]=y at hy;refine cG ?_;refine cl ix ?_;refine av ?_;refine gc cm ?_;refine bj ?_;refine cP ?_;refine bN bO (aw (d:=.s (.bool _)) rfl ?_);show B (x==y)=B (y==x);rw[Bool.beq_comm]
end
end Go.Proofs.Tryz.K
end
