/- Part 12. -/
import Derived.Test.YtnagfmlifobdiaaGreatDoorShareApart7
import Derived.Test.YtnagfmlifobdiaaGreatDoorShareApart11
import Derived.Lib.ItoaNum
import Derived.Lib.Join
set_option linter.all false
set_option maxHeartbeats 0
set_option maxRecDepth 10000
section
open Go Go.Proofs List
namespace Go.Abs
open Go.Proofs.Tryz
def amj(a b:Int):fH (EI a b):=by
 unfold EI oR fH;simp only;rw[wrap_u64 (n:=(BitVec.ofInt IntKind.u64.bits a||| BitVec.ofInt IntKind.u64.bits b).toNat) (BitVec.isLt (w:=64) _)];have h:(BitVec.ofInt IntKind.u64.bits a||| BitVec.ofInt IntKind.u64.bits b).toNat<18446744073709551616:=BitVec.isLt (w:=64) _;exact⟨Int.natCast_nonneg _,Int.ofNat_lt.2 h⟩
def XK{w:List Int}{n:Int}(h:∀ u∈w,fH u):∀ u∈iS w n,fH u:=λu hu=>by
 unfold iS at hu;split at hu
 .unfold BK at hu;rcases mem_or_eq_of_mem_set hu with h1|h1
  .exact h u h1
  .rw[h1];exact amj _ _
 .exact h u hu
def K0:∀ k,∀ u∈lI k,fH u
 |0,u,hu=>by
  rw[eq_of_mem_replicate hu];simp[fH]
 |k+1,u,hu=>XK (K0 k) u hu
def vK.rl{x:cq}(h:vK x):(dE x).length<=100000:=by
 unfold dE;split
 .simp
 .split
  .simp
  .split
   .rename_i J;have:=h.ar (.inl J);omega
   .split
    .rename_i C;have:=h.ar (.inr C);simp;omega
    .simp
def Jd.rf{x:End}(h:Jd x)(hi:x.kind=5->vK x.ins):(dM x).length<=100000:=by
 unfold dM;split
 .simp
 .split
  .split<;>simp
  .split
   .rename_i J;exact(hi J).rl
   .split
    .rename_i C;have:=h.a2 (by simpa[bf] using C);omega
    .simp
structure M1(f:az):Prop where
 pos:0<f.blocks.length
 mh:f.blocks.length<=1200
 aj:f.aj.length<=1200
 args:0<=f.args/\f.args<=6
 cn:∀ b∈f.blocks,y9 f.blocks.length b
 ends:∀ b∈f.blocks,NA f b.fin
 right:∀ (b:Nat) x,f.blocks[b]? =some x->∀ (j:Nat) y,x.ins[j]? =some y->kG f b y ((x.ins.take (j+1)).all c8) (cY f.blocks f.blocks.length b).length=true
 a6:(∀ k∈f.a6,k≠0)/\f.a6.length<=60
 awB:∀ b∈f.blocks,b.fin.kind=5->vK b.fin.ins
def ZG{l:List Int}{m:Int}(h:gk l m=true):∀ k∈l,k≠0:=λk hk e=>by
 subst e;simp[gk,Bool.not_eq_true',any_eq_false] at h;have:=h 0 hk;simp[pC] at this
def anY{f:az}{x:End}(hl:f.aj.length<=1200)(h:gD f x=true)(M:x.kind=5):vK x.ins:=by
 rw[gD,aJ] at h;have h:=h.1;unfold fL at h;simp[M,Int.reduceEq,if_false,if_true,aJ] at h;let⟨C,J,_⟩:=h;cases hs:gl ko x.ins.op with
 |none=>rw[hs] at C;simp at C
 |some s=>rw[hs] at J;exact PR hl (.inr (CH hs)) (QD J)
def yR{f:az}(h:iX f=true):M1 f:=by
 unfold iX at h;simp only[aJ] at h;let⟨hH,hK,_,hE,hR⟩:=h;unfold od at hH;simp only[aJ,kC,Bool.not_eq_true',decide_eq_false_iff_not] at hH;let⟨_,ha,hr,uH,lx,dd⟩:=hH;unfold sC at hK;simp only[aJ,Bool.not_eq_true',decide_eq_false_iff_not] at hK;let⟨_,_,rZ,_,_⟩:=hK;have J:f.aj.length<=1200:=by omega
 have X:∀ x∈f.blocks,gD f x.fin=true/\x.ins.length<=200:=λx hx=>by
  let⟨k,hk⟩:=cV hx;have ao:k<f.blocks.length:=(bQ.1 hk).1;have:=bK.1 hE k (s0 ao);rw[kD,getD_some hk] at this;simp only[aJ,Bool.not_eq_true',decide_eq_false_iff_not] at this;exact⟨this.1,oG⟩
 have M:∀ x∈f.blocks,NA f x.fin:=λx hx=>Rc J hr (X x hx).1
 have C:∀ (b:Nat) x,f.blocks[b]? =some x->∀ (j:Nat) y,x.ins[j]? =some y->kG f b y ((x.ins.take (j+1)).all c8) (cY f.blocks f.blocks.length b).length=true:=λb x hx j y hy=>by
  have ao:b<f.blocks.length:=(bQ.1 hx).1;have:=bK.1 hR b (s0 ao);rw[vq,getD_some hx] at this;have:=bK.1 this j (by simpa using(bQ.1 hy).1);rw[vo,getD_some hy] at this;exact this
 have U:∀ b∈f.blocks,b.fin.kind=5->vK b.fin.ins:=λb hb U=>anY J (X b hb).1 U
 have B7:∀ b∈f.blocks,∀ x∈b.ins,vK x:=λb hb x hx=>by
  let⟨k,hk⟩:=cV hb;let⟨j,hj⟩:=cV hx;exact(Xg J (ZG rZ) oG (C k b hk j x hj)).1
 refine⟨oG,oG,J,⟨ha.1,by have:=ha.2;split at this<;>omega⟩,λb hb=>⟨by have:=(X b hb).2;omega,B7 b hb,(M b hb).fin,λx hx=>(B7 b hb x hx).rl,(M b hb).fin.rf (U b hb),λt ht=>(M b hb).to t (PS.1 ht)⟩,M,C,⟨ZG rZ,oG⟩,U⟩
def M1.Pq{f:az}(h:M1 f){b:Nat}{x:bI}(hx:f.blocks[b]? =some x){y:cq}(hy:y∈x.ins)(C:y.op=19):y.args.length=(cY f.blocks f.blocks.length b).length/\∀ r∈y.args,0<=r/\r<1280:=by
 let⟨j,hj⟩:=cV hy;let⟨h1,_,_,_,h2⟩:=(Xg h.aj h.a6.1 h.a6.2 (h.right b x hx j y hj)).2 C;refine⟨oG,λr hr=>?_⟩;have:=(h2 r hr).2;unfold lb at this;have:=h.aj;omega
def wx{f:az}:aH prog 63 [.agg (aL f)] (I (eF f)):=by
 have M:∀ a∈[D.agg (aL f)],Tr a:=.cons (.agg (gS f)) .nil;refine bx (fo f63) M (.s _) ?_;have Wf:=Wf (f:=f);refine aA (ag ?_);refine af (br (gd (i:=0) (l:=[(1,.pt (aL f))]) rfl eH) (rj (al ?_)));refine aQ ?_;refine af (aB rfl (λh=>al ?_) λh=>al ?_)
 .have hf:iX f=false:=s0 h
  refine SS ?_;refine af (bj (cA (aY (aC (d:=I 80) rfl ?_))));rw[eF,ai (by simp[hf])]
 .have hf:iX f=true:=s0 h
  have C:=yR hf;let⟨args,ha⟩:=jy C.args.1;have X:=C.args.2;have Pn:=Pn (p:=.s (.map none)) (q:=.s (.map none)) (f:=f) (.s _) (.s _) rfl rfl rfl C.pos (by have:=C.mh;omega) ha oG (K0 args) C.cn (λb x hx y hy U=>C.Pq hx hy U);have J:eF f=if wJ f.blocks args=true then 0 else 81:=by rw[eF,bi hf,ha,eU]
  generalize wJ f.blocks args=r at Pn J;refine bh ?_;refine af (aB rfl (λh=>al ?_) λh=>qw (al ?_))
  .have hr:r=false:=s0 h
   refine SS ?_;refine af (bj (cA (aY (aC (d:=I 81) rfl ?_))));rw[J,hr];rfl
  .have hr:r=true:=s0 h
   refine SS ?_;refine af (bj (aC (d:=I 0) rfl ?_));rw[J,hr];rfl
def acW{P:Program}{t e:TypeId}(h1:bH P t=true)(h2:aT P t=e)(C:P.underlying e=some (.int .u8))(J:P.cellsOf e=1):Ee P t:=⟨h1,by rw[h2];exact C,by rw[h2];exact J⟩
def ahe(a b:ByteArray):gY (a++b)=gY a++gY b:=by simp[gY]
def zy(m:Mem)(x:D)(a:ByteArray):Option Nat->Prop
 |none=>x=.z/\a=ByteArray.empty
 |some i=>x=.rs i 0 a.size/\m i=some (.cells (gY a) 5)
def clr(m:Mem):Option Nat->Mem
 |none=>m
 |some i=>up m i none
def Ex(m:Mem)(nx j:Nat)(T:TypeId)(a:ByteArray)(o:Option Nat):Mem:=up (up (clr m o) nx (some (.cells (gY a) 5))) j (some (.bs true (.rs nx 0 a.size) T))
def aqh{m:Mem}{nx j:Nat}{r r':Row}{c:Row}:up (up (up m j (some r)) nx (some c)) j (some r')=up (up m nx (some c)) j (some r'):=by
 funext k;simp[CM];by_cases hj:k=j<;>simp[hj]
def aqi{m:Mem}{nx i j:Nat}{r r':Row}{c:Row}:up (up (up (up m j (some r)) i none) nx (some c)) j (some r')=up (up (up m i none) nx (some c)) j (some r'):=by
 funext k;simp[CM];by_cases hj:k=j<;>simp[hj]
def NR{m:Mem}{nx j:Nat}{u:Bool}{x:D}{T:TypeId}{a s:ByteArray}{o:Option Nat}(hj:m j=some (.bs u x T))(hl:liesAt prog prog.depth T (2 / prog.cellsOf T) 0 183 1=true)
 (hb:zy m x a o) (J:∀ i,o=some i->i≠j/\i<nx) (X:j<nx) (C:a.size+s.size<=140737488355328):
 js prog 119 [.rp j 0,S s] m nx λd m' nx'=>d=.bu [I s.size,.s .nilIface]/\m'=Ex m nx j T (a++s) o/\nx'=nx+1:=by
 refine AQ (fo f119) ?_;refine ws (ag ?_);refine er (aI (ki (v:=.rp _ _) rfl) aM aa (mD (adV hj hl) rfl aM λd m' nx' h=>?_));obtain⟨rfl,rfl,rfl⟩:=h;apply af;dsimp[St.put];apply ws;have aF:up m j (some (Row.bs true x T)) j=some (.bs true x T):=aw _ _ _;cases o with
 |none=>
  obtain⟨rfl,rfl⟩:=hb;replace C:s.size<=140737488355328:=s0 C
  refine aQ ?_;refine zh (LO rfl aF V.h V.h) ak (SS ?_);refine TY (aiJ rfl rfl V.h (acW V.h V.h V.h V.h) V.h C V.h) ak (aI (ML rfl (ay oG aF)) ak aa (aI (pA rfl (ay oG aF) V.h) ak (kK V.h) (adE (Y1 rfl (ay oG aF) V.h V.h rfl rfl) ak (er (aQ ?_)))));refine af (fB (d:=I s.size) (e:=.s .nilIface) rfl rfl ⟨rfl,?_,rfl⟩);show up (up (up m j (some (.bs true .z T))) _ (some (.cells (gY s) 5))) j (some (.bs true (.rs _ 0 s.size) T))=Ex m _ j T (ByteArray.empty++s) none;rw[aqh,ByteArray.empty_append];rfl
 |some i=>
  obtain⟨rfl,hi⟩:=hb;have M:=(J i rfl).1;have U:=(J i rfl).2;have fJ:up m j (some (Row.bs true (.rs i 0 a.size) T)) i=some (.cells (gY a) 5):=ay M hi;have hlen:(gY a).length=a.size:=by simp[gY]
  refine aQ ?_;refine zh (LO rfl aF V.h V.h) ak (SS ?_);refine atS (akS rfl rfl fJ V.h (acW V.h V.h V.h V.h) V.h (by first|rfl|omega|(simp;done)|(simp;omega)) C V.h) ak (aI (ML rfl (ay oG (ay oG aF))) ak aa (aI (pA rfl (ay oG (ay oG aF)) V.h) ak (kK V.h) (adE (Y1 rfl (ay oG (ay oG aF)) V.h V.h rfl rfl) ak (er (aQ ?_)))));refine af (fB (d:=I s.size) (e:=.s .nilIface) rfl rfl ⟨rfl,?_,rfl⟩);show up (up (up (up m j (some (.bs true (.rs i 0 a.size) T))) i none) _ (some (.cells ((gY a).drop 0++gY s) 5))) j (some (.bs true (.rs _ 0 (a.size+s.size)) T))=Ex m _ j T (a++s) (some i);rw[aqi,drop_zero, <- ahe,Ex,ByteArray.size_append];rfl
end Go.Abs
end
namespace Go.Abs
open List
section
variable{P:Program}
end
section
variable{f:FuncId}{n:Nat}{t:TypeId}{bR:List Nat}
section
variable{P:Program}{F F':Nat->Prop}{m:Mem}{nx:Nat}{β β':aZ}{w w':World}
def alu(hm:bc P F m β w)(hn:β nx=none){args es:List D}{vs:Array Value}{gf:List D}(nQ:nP P bR m args gf)(hc:pL P f gf es n t)(oJ:∀ d∈es,d.ld=true)(hR:Rs F β w args vs):
 Calls P f vs w λe w'=>∃ v β',e=.returned v/\R F β' w' (.rs nx 0 n) v/\bc P F (up m nx (some (.cells es t))) β' w'/\Step β w β' w'/\∀ i,i≠nx->β' i=β i:=by
 let⟨g1,g2⟩:=Nc (P:=P) (F:=F) (β:=β) (w:=w) (λi hi r hr=>by
  let⟨p,hp,aF⟩:=hm.row i r hr
  exact⟨p,hp,aF,λb hb=>hm.nf i p b hp hb⟩) nQ
 refine(hc.2.2 F w vs hm.fb ⟨by rw[hR.1,g1],λk d v hd hv=>?_⟩).mono ?_
 .have ao:k<args.length:=by rw[g1];exact(bQ.1 hd).1
  exact g2 k args[k] d (by simp[ao]) hd v (hR.2 k args[k] v (by simp[ao]) hv)
 rintro e w' ⟨v,p,he,SN,C,aF,hv,hk⟩;have kO:=hm.kept hk
 have hs:Step β w (up β nx (some p)) w':=by
  refine⟨hk.1,λb hb hf=>⟨hk.2.1 b hb,λi q hq=>?_⟩,λi q hq=>.inl ?_,hk.2.2,λ_ r _ _=>LI (hk.2.1 r)⟩
  .by_cases hi:i=nx
   .subst hi;rw[aw] at hq;cases hq;intro e;have:=(C b e).1;omega
   .rw[aV _ _ hi] at hq;exact hf i q hq
  .rw[aV _ _ (λe=>by rw[e,hn] at hq;cases hq)];exact hq
 have M:∀ i q b,up β nx (some p) i=some q->q.cn=some b->(i=nx/\q=p)\/(i≠nx/\β i=some q):=λi q b hq _=>by
  by_cases hi:i=nx
  .subst hi;rw[aw] at hq;cases hq;exact .inl ⟨rfl,rfl⟩
  .rw[aV _ _ hi] at hq;exact .inr ⟨hi,hq⟩
 have SP:dG P F (up β nx (some p)) w' (.cells es t) p:=by
  cases aF with
  |nil _=>exact .nil _
  |cells _ _ b o room sz c h1 h2 X h4 h5=>
   refine .cells es t b o room sz c h1 h2 X h4 λk d hd=>?_;let⟨u,ux,uy,uz⟩:=h5 k d hd;exact⟨u,ux,R4 (oJ d (bD hd)) uy,uz⟩
 refine⟨v,up β nx (some p),he,?_,?_,hs,λi hi=>aV _ _ hi⟩
 .cases hv with
  |oE _ _ _ _ h _=>rw[aw] at h;cases h;exact absurd rfl SN
  |lN _ a h=>rw[aw] at h;cases h;exact .lN nx a r9
  |mJ _ _ a b o len room sz h=>rw[aw] at h;cases h;exact .mJ nx 0 a b o len room sz r9
  |rs _ _ _ cap b o len room sz h h1 h2 X h4=>rw[aw] at h;cases h;exact .rs nx 0 n cap b o len room sz r9 h1 h2 X h4
 .refine⟨λi r hi=>?_,λi j q q' b hq lM e J=>?_,λi q b hq e=>?_,λi q b hq e=>?_,kO.fb⟩
  .by_cases U:i=nx
   .subst U;rw[aw] at hi;cases hi;exact⟨p,aw _ _ _,SP⟩
   .rw[aV _ _ U] at hi;let⟨q,hq,UU⟩:=hm.row i r hi;exact⟨q,by rw[aV _ _ U];exact hq,UU.step hs λb hb=>hk.2.1 b (hm.lt i q b hq hb)⟩
  .rcases M i q b hq e with⟨rfl,rfl⟩|⟨hi,h1⟩<;>rcases M j q' b lM J with⟨rfl,rfl⟩|⟨hj,h2⟩
   .rfl
   .have:=(C b e).1;have:=hm.lt j q' b h2 J;omega
   .have:=(C b J).1;have:=hm.lt i q b h1 e;omega
   .exact hm.inj i j q q' b h1 h2 e J
  .rcases M i q b hq e with⟨_,rfl⟩|⟨_,h1⟩
   .exact(C b e).2
   .exact kO.lt i q b h1 e
  .rcases M i q b hq e with⟨_,rfl⟩|⟨_,h1⟩
   .intro hF;have:=hm.fb.lt b hF;have:=(C b e).1;omega
   .exact hm.nf i q b h1 e
def pL.snap{args C es:List D}(X:nP P bR m args C)(h:pL P f C es n t)(oJ:∀ d∈es,d.ld=true):
 js P f args m nx λd m' nx'=>d=.rs nx 0 n/\m'=up m nx (some (.cells es t))/\nx'=nx+1:=
 ⟨h.1,λF β w vs hm hn hR=>(alu hm (hn nx (bY _)) X h oJ hR).mono λe w' ⟨v,β',h1,h2,M,U,J⟩=>
  ⟨v,_,_,_,β',h1,⟨rfl,rfl,rfl⟩,M,λi hi=>by rw[J i oG];exact hn i oG,h2,U,oG,λi hi hb=>by rw[J i oG];exact hb⟩⟩
end
end
abbrev W8:=List UInt8
def pY:List W8->W8
 |[]=>[]
 |[w]=>w
 |w::v::l=>w++32::pY (v::l)
def DL(wsq:List W8):W8:=pY wsq++[10]
def DM(ls:List (List W8)):W8:=ls.flatMap DL
def Dp(w:W8):Prop:=(32:UInt8)∉w/\(10:UInt8)∉w
def SE{α:Type}{c:α}:∀ {x y s t:List α},c∉x->c∉y->x++c::s=y++c::t->x=y/\s=t
 |[],[],s,t,_,_,h=>⟨rfl,s0 h⟩
 |[],b::y,s,t,_,hy,h=>by
  simp[nil_append,cons_append,cons.injEq] at h;exact absurd (by rw[h.1];exact mem_cons_self) hy
 |a::x,[],s,t,hx,_,h=>by
  simp[nil_append,cons_append,cons.injEq] at h;exact absurd (by rw[<- h.1];exact mem_cons_self) hx
 |a::x,b::y,s,t,hx,hy,h=>by
  simp[cons_append,cons.injEq] at h;let⟨h1,h2⟩:=SE (λh=>hx (mem_cons_of_mem _ h)) (λh=>hy (mem_cons_of_mem _ h)) h.2;exact⟨by rw[h.1,h1],h2⟩
def Rk:∀ {a:List W8},(∀ w∈a,Dp w)->(10:UInt8)∉pY a
 |[],_=>by simp[pY]
 |[w],h=>(h w oS).2
 |w::v::l,h=>by
  have ih:=Rk (a:=v::l) λu hu=>h u (mem_cons_of_mem _ hu);simp only[pY,mem_append,mem_cons,not_or];exact⟨(h w oS).2,oC,ih⟩
def YN:∀ {a b:List W8},a≠[]->b≠[]->(∀ w∈a,Dp w)->(∀ w∈b,Dp w)->pY a=pY b->a=b
 |[],_,h,_,_,_,_=>absurd rfl h
 |_::_,[],_,h,_,_,_=>absurd rfl h
 |[w],[v],_,_,_,_,h=>by simpa[pY] using h
 |[w],v::u::l,_,_,ha,_,h=>by
  have h1:=(ha w oS).1;simp[pY] at h;exact absurd (by rw[h];simp) h1
 |w::u::l,[v],_,_,_,hb,h=>by
  have h1:=(hb v oS).1;simp[pY] at h;exact absurd (by rw[<- h];simp) h1
 |w::u::l,v::x::m,_,_,ha,hb,h=>by
  simp[pY] at h;let⟨h1,h2⟩:=SE (ha w oS).1 (hb v oS).1 h;have ih:=YN (a:=u::l) (b:=x::m) oS oS (λy hy=>ha y (mem_cons_of_mem _ hy)) (λy hy=>hb y (mem_cons_of_mem _ hy)) h2;rw[h1,ih]
def RZ(ls:List (List W8)):Prop:=∀ l∈ls,l≠[]/\∀ w∈l,Dp w
def YO:∀ {a b:List (List W8)},RZ a->RZ b->DM a=DM b->a=b
 |[],[],_,_,_=>rfl
 |[],y::b,_,_,h=>by simp[DM,DL] at h
 |x::a,[],_,_,h=>by simp[DM,DL] at h
 |x::a,y::b,ha,hb,h=>by
  simp[DM,flatMap_cons,DL,append_assoc,cons_append,nil_append] at h;have hx:=ha x oS;have hy:=hb y oS;let⟨h1,h2⟩:=SE (Rk hx.2) (Rk hy.2) h;have e:=YN hx.1 hy.1 hx.2 hy.2 h1;have ih:=YO (λl hl=>ha l (mem_cons_of_mem _ hl)) (λl hl=>hb l (mem_cons_of_mem _ hl)) h2;rw[e,ih]
end Go.Abs
section
open Go Go.Proofs List
namespace Go.Abs
open Go.Proofs.Tryz
def To{l:List Int}{g:FuncId}{fs cs:List D}{p:Int->ByteArray}(hl:l.length<=1000000)(ht:Tr (.fn (.func g) fs cs))(hg:∀ x∈l,aH prog g (fs++[I x]++cs) (S (p x))):pL prog 201 [aU l,.fn (.func g) fs cs] ((l.map p).map S) l.length 9:=by
 refine ahv (fo f201).he (.cons (dP _) (.cons ht .nil)) λU=>?_;have hlen:=(U (aU l) oS).sl.1;unfold maxLen at hlen;refine OQ (fo f201) (.cons (dP _) (.cons ht .nil)) (.map λ_=>.s _) ?_;refine ws (SS ?_);refine af (aA (SS ?_));refine af ⟨_,.oY _ _ _ 5 9 rfl,aG (aA ?_)⟩;refine ax ?_
 refine af (cw (λs=>∃ r m nx,aP prog s ⟨aD [(5,.rs r 0 l.length)],m,nx⟩/\m r=some (.cells ((l.map p).map S) 9)) (eB (α:=Nat×Nat×Mem×Nat)
  (λs=>⟨aD [(1,.fn (.func g) fs cs),(5,.rs s.2.1 0 s.1),(8,aU l),(9,I l.length),(10,I s.1)],s.2.2.1,s.2.2.2⟩)
  (λs=>s.1<=l.length/\s.2.1<s.2.2.2/\s.2.2.1 s.2.1=some (.cells (((l.take s.1).map p).map S) 9)) (λs=>l.length - s.1) (0,_,_,_)
  (au eH) ⟨Nat.zero_le _,Nat.lt_succ_self _,rfl⟩ ?_) ?_)
 .rintro⟨j,r,m,nx⟩ ⟨hj,hr,aF⟩;dsimp only at hj hr aF ⊢;refine SS ?_;refine af ⟨_,rfl,λh=>?_,λh=>?_⟩
  .have M:j<l.length:=s0 h
   have hx:l[j]? =some l[j]:=by simp[M]
   have J:=hg l[j] (eh _)
   have C:((l.take (j+1)).map p).map S=((l.take j).map p).map S++[S (p l[j])]:=by
    rw[take_add_one,hx,map_append,map_append];rfl
   have X:(((l.take j).map p).map S).length=j:=by simp;omega
   generalize l[j]=x at hx J C;generalize ((l.take j).map p).map S=ds at aF C X;refine ws (ax ?_);refine af (gj (ek ?_));refine af (ag ?_);refine af (aW (j+1,nx+1,_,_) (au eH) ⟨oM,oM,?_⟩ oM);dsimp only;rw[C];exact aw _ _ _
  .have bt:¬ j<l.length:=s0 h
   have:j=l.length:=by omega
   subst this;rw[take_length] at aF;exact⟨r,m,nx,au eH,aF⟩
 .rintro s ⟨r,m,nx,hg,aF⟩;refine⟨_,hg,al ?_⟩;refine ag ?_;refine af (aC rfl ⟨r,rfl,aF⟩)
def Ur{l:List Int}{g:FuncId}{fs cs:List D}{p:Int->Int}(hl:l.length<=1000000)(ht:Tr (.fn (.func g) fs cs))(hg:∀ x∈l,aH prog g (fs++[U8 x]++cs) (I (p x))):aH prog 202 [jW l,.fn (.func g) fs cs] (aU (l.map p)):=by
 refine nB (fo f202).he (.cons (qq _) (.cons ht .nil)) λU=>?_;have hlen:=(U (jW l) oS).sl.1;unfold maxLen at hlen;refine bx (fo f202) (.cons (qq _) (.cons ht .nil)) (dP _) ?_;refine ws (SS ?_);refine af (aA (SS ?_));refine af ⟨_,.oY _ _ _ 5 3 rfl,aG (aA ?_)⟩;refine ax ?_
 refine af (cw (λs=>∃ r m nx,aP prog s ⟨aD [(5,.rs r 0 l.length)],m,nx⟩/\m r=some (.cells ((l.map p).map I) 3)) (eB (α:=Nat×Nat×Mem×Nat)
  (λs=>⟨aD [(1,.fn (.func g) fs cs),(5,.rs s.2.1 0 s.1),(8,jW l),(9,I l.length),(10,I s.1)],s.2.2.1,s.2.2.2⟩)
  (λs=>s.1<=l.length/\s.2.1<s.2.2.2/\s.2.2.1 s.2.1=some (.cells (((l.take s.1).map p).map I) 3)) (λs=>l.length - s.1) (0,_,_,_)
  (au eH) ⟨Nat.zero_le _,Nat.lt_succ_self _,rfl⟩ ?_) ?_)
 .rintro⟨j,r,m,nx⟩ ⟨hj,hr,aF⟩;dsimp only at hj hr aF ⊢;refine SS ?_;refine af ⟨_,rfl,λh=>?_,λh=>?_⟩
  .have M:j<l.length:=s0 h
   have hx:l[j]? =some l[j]:=by simp[M]
   have J:=hg l[j] (eh _)
   have C:((l.take (j+1)).map p).map I=((l.take j).map p).map I++[I (p l[j])]:=by
    rw[take_add_one,hx,map_append,map_append];rfl
   have X:(((l.take j).map p).map I).length=j:=by simp;omega
   generalize l[j]=x at hx J C;generalize ((l.take j).map p).map I=ds at aF C X;refine ws (ax ?_);refine af (gj (ek ?_));refine af (ag ?_);refine af (aW (j+1,nx+1,_,_) (au eH) ⟨oM,oM,?_⟩ oM);dsimp only;rw[C];exact aw _ _ _
  .have bt:¬ j<l.length:=s0 h
   have:j=l.length:=by omega
   subst this;rw[take_length] at aF;exact⟨r,m,nx,au eH,aF⟩
 .rintro s ⟨r,m,nx,hg,aF⟩;refine⟨_,hg,aA ?_⟩;refine ag ?_;refine af (br (gd aF (l:=[(4,aU (l.map p))]) ⟨?_,aa⟩) (aC rfl rfl));exact(lS (by rw[c3];simp)).trans oS
def la(wsq:List ByteArray):ByteArray:=Go.Abs.DE wsq ⟨#[32]⟩++⟨#[10]⟩
def gv(n:Int):ByteArray:=⟨(Lib.itoa n).toArray⟩
def i64(n:Int):Prop:= -9223372036854775808<=n/\n<=9223372036854775807
abbrev ky(n:Int):Int:=IntKind.i64.wrap n
def Fw(n:Int):i64 (ky n):=by rw[i64,ky,IntKind.wrap_i64];omega
section
def auK{n:Int}:aH prog 203 [U8 n] (I (ky n)):=by
 refine bx (fo f203) (by simp[Tr.s]) (Tr.s _) ?_;refine ws (SS ?_);refine er (ax ?_);exact af (aC rfl rfl)
def adZ{l:List Int}(hl:l.length<=1000000):aH prog 147 [jW l] (aU (l.map ky)):=by
 have Ur:=Ur (l:=l) (g:=203) (fs:=[]) (cs:=[]) (p:=ky) hl (.fn oS oS) λx _=>auK;refine bx (fo f147) (.cons (qq _) .nil) (dP _) ?_;refine ws (SS ?_);refine er (ax ?_);exact af (aC rfl rfl)
variable{m:Mem}{u:Bool}{x:D}{a:ByteArray}{o:Option Nat}
def ad0{nx j k n:Nat}{wsq:List ByteArray}(hj:m j=some (.bs u x 213))(hk:m k=some (.cells (wsq.map S) 9))(hb:zy m x a o)(hn:n=wsq.length)
 (M:∀ i,o=some i->i≠j/\i<nx) (U:j<nx) (X:wsq.length<=1000000) (hs:a.size+(la wsq).size<=140737488355328):
 js prog 144 [.rp j 0,.rs k 0 n] m nx λd m' nx'=>d=.bu []/\m'=Ex m nx j 213 (a++la wsq) o/\nx'=nx+1:=by
 subst hn;have cC:(la wsq).size=(DE wsq ⟨#[32]⟩).size+1:=by rw[la,ByteArray.size_append];rfl
 have NS:=NS (l:=wsq) (sep:=⟨#[32]⟩) oG (by
  have:(DE wsq ⟨#[32]⟩).size=(Lib.join (wsq.map (·.data.toList)) [32]).length:=rfl;show(Lib.join (wsq.map (·.data.toList)) [32]).length<=_
  omega)
 have C:(0:Nat)=0->nP prog [k] m [.rs k 0 wsq.length,S ⟨#[32]⟩] [fT wsq,S ⟨#[32]⟩]:=λ_=>⟨I3 hk oS (by rw[c9,drop_zero,cX oS]) (.map λ_=>.s _),dR (.s _),aa⟩
 have NR:=NR (s:=la wsq) hj aaE hb M U hs;refine AQ (fo f144) ?_;have aF:=hj;apply RE (hD [(1,4),(2,4)]) kr
 have J:(DE wsq ⟨#[32]⟩).size+(⟨#[10]⟩:ByteArray).size<=maxLen:=by
  show(DE wsq ⟨#[32]⟩).size+1<=_;unfold maxLen;omega
 refine aQ ?_;refine apZ NS rfl (C rfl) rfl ak (zh (apF rfl rfl J) ak (bJ bM (mD NR rfl aM λd m' nx' h=>?_)));obtain⟨rfl,rfl,rfl⟩:=h;exact af (Df ⟨rfl,rfl,rfl⟩)
def I4(m:Mem)(nx j:Nat)(a:ByteArray)(o:Option Nat)(d:D)(m':Mem)(nx':Nat):Prop:=
 d=.bu []/\∃ q,q≠j/\nx<=q/\q<nx'/\m' j=some (.bs true (.rs q 0 a.size) 213)/\m' q=some (.cells (gY a) 5)/\∀ i,i<nx->i≠j->o≠some i->m' i=m i
def Zm{C:Mem}{nx n0 j:Nat}(hj:j<n0)(hn:n0<=nx)(hm:∀ i,i<n0->m i=C i):I4 C n0 j a o (.bu []) (Ex m nx j 213 a o) (nx+1):=by
 refine⟨rfl,nx,oG,hn,oG,aw _ _ _,(aV _ _ oG).trans r9,λi hi h1 h2=>?_⟩;refine((aV _ _ h1).trans (aV _ _ oG)).trans ?_;cases o with
 |none=>exact hm i hi
 |some k=>exact(aV _ _ (λe=>h2 (by rw[e]))).trans (hm i hi)
def zy.mono{m':Mem}(h:zy m x a o)(hm:∀ i,o=some i->m' i=m i):zy m' x a o:=by
 cases o with
 |none=>exact h
 |some i=>exact⟨h.1,(hm i rfl).trans h.2⟩
def NT{nx j:Nat}{y:D}{word:ByteArray}{l:List Int}(hj:m j=some (.bs u x 213))(hb:zy m x a o)
 (M:∀ i,o=some i->i≠j/\i<nx) (X:j<nx) (hy:y=aU l\/∃ k,k<nx/\y=.rs k 0 l.length/\m k=some (.cells (l.map I) 3)) (hi:∀ n∈l,i64 n) (hl:l.length<=100000)
 (hs:a.size+(la (word::l.map gv)).size<=140737488355328):
 js prog 146 [.rp j 0,S word,y] m nx (I4 m nx j (a++la (word::l.map gv)) o):=by
 have To:=To (l:=l) (g:=145) (fs:=[]) (cs:=[]) (p:=gv) oG (.fn oS oS) λn hn=>Us (hi n hn).1 (hi n hn).2;have U:Tr (.fn (.func 145) [] []):=.fn oS oS
 have key:∃ bR,nP prog bR (up m nx (some (.cells [S word] 9))) [y,.fn (.func 145) [] []] [aU l,.fn (.func 145) [] []]:=by
  rcases hy with rfl|⟨k,hk,rfl,uB⟩
  .exact⟨[],dR (dP l),dR U,aa⟩
  .exact⟨[k],I3 (ay oG uB) oS (by rw[c3,drop_zero,cX oS]) (.map λ_=>.s _),dR U,aa⟩
 let⟨bR,nQ⟩:=key;have lX:=To.snap (nx:=nx+1) nQ (by simp[D.ld]);have J:y.core=y:=by rcases hy with rfl|⟨k,_,rfl,_⟩<;>rfl
 have C:y.ask:=by rcases hy with rfl|⟨k,_,rfl,_⟩<;>trivial
 refine AQ (fo f146) ?_;refine kU (ax ?_);refine aI (ki (v:=y) J) (by repeat' (first|exact trivial|exact C|refine And.intro ?_ ?_)) aa ?_;refine mD lX (by show some (201,[y.core,D.fn (Fn.func 145) [] []])=_;rw[J]) (by repeat' (first|exact trivial|exact J|exact C|exact rfl|refine And.intro ?_ ?_)) λd m' nx' h=>?_;obtain⟨rfl,rfl,rfl⟩:=h;dsimp[St.put];refine eT (eQ rfl (ay oG r9) rfl V.h V.h (fZ r9 rfl) rfl) ak ⟨V.h,rfl,cg,oC,db,da,(by rw[b9];first|omega|(simp;omega)),ey⟩ (mD (ad0 (k:=nx+1+1) (wsq:=word::l.map gv) (ay oG (ay oG (ay oG (ay oG hj)))) (r9.trans (by rw[drop_zero,drop_zero,cX oS];rfl)) (hb.mono λi hi=>?_) oP (λi hi=>⟨(M i hi).1,by have:=(M i hi).2;omega⟩) oG oP hs) rfl aM λd m' nx' h=>?_)
 .have:=(M i hi).2;exact ay oG (ay oG (ay oG (ay oG rfl)))
 obtain⟨rfl,rfl,rfl⟩:=h;refine af (Df (Zm X oG λi hi=>?_));exact ay oG (ay oG (ay oG (ay oG rfl)))
end
def AA(x:cq):List Int:=ky x.op::x.to::x.a::x.b::x.n::x.args
def NU(x:cq):Prop:=∀ n∈AA x,i64 n
def ad1(word:ByteArray)(x:cq):ByteArray:=la (word::(AA x).map gv)
def ad2{m:Mem}{nx j:Nat}{u:Bool}{y:D}{a word:ByteArray}{o:Option Nat}{x:cq}(hj:m j=some (.bs u y 213))(hb:zy m y a o)
 (C:∀ i,o=some i->i≠j/\i<nx) (l9:j<nx) (hi:NU x) (hl:x.args.length<=10000) (hs:a.size+(ad1 word x).size<=140737488355328):
 js prog 148 [.rp j 0,S word,.agg (bU x)] m nx (I4 m nx j (a++ad1 word x) o):=by
 refine AQ (fo f148) ?_;refine ws (SS ?_);refine af (kU ?_);have aF:up m nx (some (Row.cells (bU x) 54)) nx=some (.cells [U8 x.op,I x.to,I x.a,I x.b,I x.n,aU x.args] 54):=aw _ _ _;have J:(x.args.map I).take (x.args.length*1)=x.args.map I:=cX oS;refine aX ?_;refine bh ?_;refine aI (pA rfl (ay oG aF) V.h) ak (kK V.h) (aI (fh rfl (ay oG aF) rfl V.h) ak (fj V.h V.h rfl) (eT (eQ rfl r9 rfl dJ c3 (iH J) rfl) aM ⟨dI,rfl,oS,oC,rfl,by unfold maxLen;omega,by rw[b3];omega,oS⟩ (mD (NT (y:=.rs (nx+1+1) 0 (5+x.args.length)) (l:=AA x) (word:=word) (ay oG (ay oG (ay oG (ay oG hj)))) (hb.mono λi hi=>?_) (λi hi=>⟨(C i hi).1,by have:=(C i hi).2;omega⟩) oG (.inr ⟨nx+1+1,oG,congrArg (D.rs _ 0) (by simp[AA];omega),aw _ _ _⟩) hi (by simp[AA];omega) hs) rfl aM λd m' nx' h=>?_)))
 .have:=(C i hi).2;exact ay oG (ay oG (ay oG (ay oG rfl)))
 refine af (Df ?_);obtain⟨rfl,q,h1,h2,M,U,X,h6⟩:=h;exact⟨rfl,q,h1,oG,M,U,X,λi hi h7 h8=>(h6 i oG h7 h8).trans (ay oG (ay oG (ay oG (ay oG rfl))))⟩
def B3(a:ByteArray):List Int:=a.data.toList.map λc=>(c.toNat:Int)
def aoW(a:ByteArray):gY a=tT (B3 a):=by simp[gY,tT,B3]
def anG(a:ByteArray):mkStr (B3 a)=a:=by
 rw[mkStr,B3,map_map];have:(λn:Int=>UInt8.ofNat n.toNat) ∘ (λc:UInt8=>(c.toNat:Int))=id:=by funext c;simp
 rw[this,map_id]
def alC(a:ByteArray):(B3 a).length=a.size:=by simp[B3]
def alD(a:ByteArray):∀ x∈B3 a,0<=x/\x<256:=by
 intro x hx;obtain⟨c,_,rfl⟩:=mem_map.1 hx;have:=c.toNat_lt;omega
def ad3{m:Mem}{nx j i:Nat}{u:Bool}{a:ByteArray}{T:TypeId}(hj:m j=some (.bs u (.rs i 0 a.size) T))(hi:m i=some (.cells (gY a) 5))(h0:0<a.size)(hs:a.size<=140737488355328):
 js prog 120 [.rp j 0] m nx λd m' nx'=>d=S a/\m'=up m i none/\nx'=nx:=by
 refine AQ (fo f120) ?_;refine ws (SS ?_);refine af (c6 (hD [(4,6),(4,7),(4,8),(4,9)]) ?_);have aF:=hj;have fJ:=hi;have kn:=alC a;have X:((gY a).drop 0).take a.size=tT (B3 a):=by rw[drop_zero,cX (by simp[gY]),aoW]
 have J:=h0;have M:(prog).underlying 229=some (.pointer 5):=kr;have U:a.size<=maxLen:=by unfold maxLen;omega
 have C:=alD a;refine ax ?_;refine zh (LO rfl aF V.h V.h) ak (zh (anc rfl fJ (by first|assumption|omega)) ak (ax ?_));refine zh (LO rfl aF V.h V.h) ak (aI (MN rfl fJ) ak V.h (atT (aoI (s:=.tmp 0) rfl rfl kn fJ X J M c5 U C) aM (SS ?_)));refine bJ bM (aC rfl ⟨?_,rfl,rfl⟩);exact congrArg (λs=>D.s (.string s)) (anG a)
section
def DF:ByteArray:=⟨#[102,108,111,119]⟩
def TK:ByteArray:=⟨#[112,114,111,99]⟩
def TL:ByteArray:=⟨#[105,116,101,114]⟩
def Gh:ByteArray:=⟨#[114,101,103,115]⟩
def IQ:ByteArray:=⟨#[115,108,111,116,115]⟩
def Lt:ByteArray:=⟨#[115,105,103,110,97,108,115]⟩
def qz:ByteArray:=⟨#[98,108,111,99,107]⟩
def ta:ByteArray:=⟨#[105,110,115]⟩
def GB:ByteArray:=⟨#[101,110,100]⟩
def y7:ByteArray:=⟨#[110,97,109,101]⟩
def DU:ByteArray:=⟨#[116,114,121]⟩
def Gp:ByteArray:=⟨#[119,104,101,110]⟩
def gP:List (List ByteArray)->ByteArray
 |[]=>ByteArray.empty
 |l::ls=>la l++gP ls
def Qc:∀ a b:List (List ByteArray),gP (a++b)=gP a++gP b
 |[],b=>by simp[gP]
 |l::a,b=>by simp[cons_append,gP,Qc a b,ByteArray.append_assoc]
def ZU(a:List (List ByteArray))(l:List ByteArray):gP (a++[l])=gP a++la l:=by rw[Qc];simp[gP]
def apl{a b:List (List ByteArray)}(h:a<+:b):(gP a).size<=(gP b).size:=by
 obtain⟨c,rfl⟩:=h;rw[Qc,ByteArray.size_append];omega
def nN(word:ByteArray)(x:cq):List ByteArray:=word::(AA x).map gv
def zm(x:End):List Int:=ky x.kind::x.a::x.b::x.to::x.ei::x.others::x.args
def tc(x:End):List ByteArray:=GB::(zm x).map gv
def lZ(x:End):List (List ByteArray):=if x.name.toList=[] then [] else [[y7,x.name]]
def nj(x:End):List (List ByteArray):=if x.kind=5 then [nN DU x.ins] else []
def lG(w:jf):List ByteArray:=[Gp,w.name,gv w.to]
def ud(b:bI):List (List ByteArray):=b.ins.map (nN ta)
def kF(b:bI):List (List ByteArray):=[qz]::(ud b++(tc b.fin::(lZ b.fin++(nj b.fin++b.fin.aK.map lG))))
def wZ(f:az):ByteArray:=if f.iter then TL else TK
def Gq(f:az):List (List ByteArray):=[[DF,f.name,wZ f,gv f.args,gv (ky f.result)],Gh::(f.aj.map ky).map gv,IQ::(f.a6.map ky).map gv,Lt::f.signals]
def lY(f:az):List (List ByteArray):=Gq f++f.blocks.flatMap kF
def rH(f:az):ByteArray:=gP (lY f)
structure IP(f:az):Prop where
 args:i64 f.args
 aj:f.aj.length<=100000
 a6:f.a6.length<=100000
 sigs:f.signals.length<=100000
 NV:f.blocks.length<=100000
 auO:∀ b∈f.blocks,b.ins.length<=100000
 ins:∀ b∈f.blocks,∀ x∈b.ins,NU x/\x.args.length<=10000
 fin:∀ b∈f.blocks,(∀ n∈zm b.fin,i64 n)/\b.fin.args.length<=10000/\NU b.fin.ins/\b.fin.ins.args.length<=10000/\b.fin.aK.length<=100000/\∀ w∈b.fin.aK,i64 w.to
 size:(rH f).size<=140737488355328
def oK(f:az)(k:Nat):List (List ByteArray):=Gq f++(f.blocks.take k).flatMap kF
variable{f:az}{k:Nat}{b:bI}
def Zn{f:az}{k:Nat}{b:bI}(h:f.blocks[k]? =some b):oK f (k+1)=oK f k++kF b:=by
 unfold oK;rw[List.take_add_one,h];simp[List.flatMap_append]
def Qr(h:f.blocks[k]? =some b){p:List (List ByteArray)}(hp:p<+:kF b):oK f k++p<+:lY f:=by
 have h1:oK f k++p<+:oK f (k+1):=by rw[Zn h];exact(prefix_append_right_inj _).2 hp
 apply h1.trans;refine⟨(f.blocks.drop (k+1)).flatMap kF,?_⟩;rw[oK,lY,append_assoc, <- flatMap_append,take_append_drop]
def IP.le(h:IP f){p:List (List ByteArray)}{l:List ByteArray}(hp:p++[l]<+:lY f):(gP p).size+(la l).size<=140737488355328:=by
 have h1:=apl hp;rw[ZU,ByteArray.size_append] at h1;have:=h.size;unfold rH at this;omega
end
section
def qO(q:Nat)(a:ByteArray):Mem:=bA [(1,.bs true (.rs q 0 a.size) 213),(q,.cells (gY a) 5)]
variable{q:Nat}{a:ByteArray}
def xU:qO q a 1=some (.bs true (.rs q 0 a.size) 213):=by simp[qO,bA]
def Vs(h:q≠1):qO q a q=some (.cells (gY a) 5):=by simp[qO,bA,h]
def Am(h:q≠1):zy (qO q a) (.rs q 0 a.size) a (some q):=⟨rfl,Vs h⟩
variable{m:Mem}
def y6{m':Mem}{nx nx':Nat}{ls:List (List ByteArray)}{w:List ByteArray}{o:Option Nat}{d:D}(h:I4 m nx 1 (gP ls++la w) o d m' nx')(h1:1<nx):
 ∃ q,1<q/\nx<=q/\q<nx'/\∀ (env:Env) (l:List (Nat×D)),pG l env->aP prog ⟨env,m',nx'⟩ ⟨aD l,qO q (gP (ls++[w])),nx'⟩:=by
 let⟨_,q,h2,M,U,C,J,_⟩:=h;rw[<- ZU] at C J;exact⟨q,oG,M,U,λenv l hl=>bp hl ⟨C,J,aa⟩⟩
def I5{nx j k n:Nat}{u:Bool}{x:D}{a:ByteArray}{o:Option Nat}{wsq:List ByteArray}(hj:m j=some (.bs u x 213))(hk:m k=some (.cells (wsq.map S) 9))(hb:zy m x a o)(hn:n=wsq.length)
 (J:∀ i,o=some i->i≠j/\i<nx) (C:j<nx) (M:wsq.length<=1000000) (hs:a.size+(la wsq).size<=140737488355328):
 js prog 144 [.rp j 0,.rs k 0 n] m nx (I4 m nx j (a++la wsq) o):=
 (ad0 hj hk hb hn J C M hs).mono λd m' nx' h=>by
  obtain⟨rfl,rfl,rfl⟩:=h;exact Zm C (bY _) λ_ _=>rfl
def amM{σ:D->D}(h:∀ n,sub σ (.s n)=.s n)(a:ByteArray):(gY a).map (sub σ)=gY a:=by
 rw[gY,map_map];exact map_congr_left λc _=>h _
def Nu{P:Program}{env:Env}{nx n':Nat}{cs:List D}{e:TypeId}{l:List (Nat×D)}(hm:m nx=some (.cells cs e))(h1:m 1=qO q a 1)(h2:m q=qO q a q)(cK:1<q)(C:q<nx)
 (hl:pG l λt=>sub (dq nx cs (P.cellsOf e)) (env t)):aP P ⟨env,m,n'⟩ ⟨aD l,qO q a,n'⟩:=by
 refine mq hm hl ⟨?_,?_,aa⟩
 .show(if 1=nx then none else(m 1).map _)=_;rw[ai oG,h1,xU];show some (Row.bs true (sub (dq nx cs (P.cellsOf e)) (.rs q 0 a.size)) 213)=_;rw[yp oG]
 .show(if q=nx then none else(m q).map _)=_;rw[ai oG,h2,Vs oG];show some (Row.cells ((gY a).map (sub (dq nx cs (P.cellsOf e)))) 5)=_;rw[amM λ_=>rfl]
def mV{i sz:Nat}{cs:List D}:sub (dq i cs sz) (.rp i 0)=.pt cs:=nh.trans (by rw[drop_zero])
end
def Tp{n:Int}(h:i64 n):aH prog 145 [I n] (S (gv n)):=Us h.1 h.2
def anH{f:az}(mf:eF f=0)(ht:IP f):aH prog 111 [.agg (aL f)] (.bu [S (rH f),I 0]):=by
 have wx:=wx (f:=f);rw[mf] at wx;have kR:=adZ (l:=f.aj) (by have:=ht.aj;omega);have kS:=adZ (l:=f.a6) (by have:=ht.a6;omega);have hsg:=ht.sigs
 have U:∀ l:List Int,∀ n∈l.map ky,i64 n:=λl n hn=>by
  obtain⟨x,_,rfl⟩:=mem_map.1 hn;exact Fw x
 have Kf:(gP []).size+(la [DF,f.name,wZ f,gv f.args,gv (ky f.result)]).size<=140737488355328:=ht.le ⟨_,rfl⟩;have X:(gP [[DF,f.name,wZ f,gv f.args,gv (ky f.result)]]).size+(la (Gh::(f.aj.map ky).map gv)).size<=140737488355328:=ht.le ⟨_,rfl⟩;have hz3:(gP [[DF,f.name,wZ f,gv f.args,gv (ky f.result)],Gh::(f.aj.map ky).map gv]).size+(la (IQ::(f.a6.map ky).map gv)).size<=140737488355328:=ht.le ⟨_,rfl⟩;have hz4:(gP [[DF,f.name,wZ f,gv f.args,gv (ky f.result)],Gh::(f.aj.map ky).map gv,IQ::(f.a6.map ky).map gv]).size+(la (Lt::f.signals)).size<=140737488355328:=ht.le ⟨_,rfl⟩;refine bx (fo f111) (.cons (.agg (gS f)) .nil) (.bu (.cons (.s _) fp)) ?_;refine aA (ax ?_);refine af (br (cH [(0,aL f,48)] eH (l:=[(1,.pt (aL f))]) eH) (aG (al ?_)));refine ax ?_;refine af (aG (al (ag ?_)));refine af (sT (cI (al ?_)));refine SS ?_;refine TY (aoJ rfl rfl rfl V.h) ak (aI (fR (v:=.rp _ _) rfl) ak aa (er (SS ?_)));refine af (fS (λs=>aP prog s ⟨aD [(1,.pt (aL f)),(5,.rp 1 0),(6,S (wZ f))],bA [(1,.bs false .z 213)],2⟩) (al ?_) λs hs=>⟨_,hs,agH (hD [(1,6),(2,6),(6,7),(6,8),(6,9),(1,10),(2,10)]) kr ?_⟩)
 .refine ag ?_;refine af (aB rfl (λhi=>?_) λhi=>?_)
  .refine kU (SS ?_);refine af (bp ⟨rfl,rfl,?_,aa⟩ eH);rw[wZ,hi];rfl
  .refine cB (bp ⟨rfl,rfl,?_,aa⟩ eH);rw[wZ,hi];rfl
 refine cz ?_;refine wX (Tp ht.args) rfl aM (ax ?_);refine wX (Tp (Fw f.result)) rfl aM (SS ?_);refine bJ bM (mD (I5 (wsq:=[DF,f.name,wZ f,gv f.args,gv (ky f.result)]) (a:=gP []) (o:=none) rfl rfl ⟨rfl,rfl⟩ rfl (λi hi=>by cases hi) oG oS Kf) rfl aM λd m nx h=>?_);apply af;dsimp[St.put];let⟨q,cK,_,C,hg⟩:=y6 h oG;refine⟨_,hg _ [(1,.pt (aL f)),(5,.rp 1 0)] ⟨rfl,rfl,aa⟩,aA ?_⟩;clear hg h;refine ax ?_;refine wX kR rfl aM (mD (NT (word:=Gh) xU (Am oG) (λi hi=>by cases hi;omega) oG (.inl rfl) (U _) (by simp;have:=ht.aj;omega) X) rfl aM λd m nx h=>?_);apply af;dsimp[St.put];let⟨q,cK,_,C,hg⟩:=y6 h oG;refine⟨_,hg _ [(1,.pt (aL f)),(5,.rp 1 0)] ⟨rfl,rfl,aa⟩,aA ?_⟩;clear hg h;refine ax ?_;refine wX kS rfl aM (mD (NT (word:=IQ) xU (Am oG) (λi hi=>by cases hi;omega) oG (.inl rfl) (U _) (by simp;have:=ht.a6;omega) hz3) rfl aM λd m nx h=>?_);apply af;dsimp[St.put];let⟨q,cK,_,C,hg⟩:=y6 h oG;refine⟨_,hg _ [(1,.pt (aL f)),(5,.rp 1 0)] ⟨rfl,rfl,aa⟩,aA ?_⟩;clear hg h;have dZ:(f.signals.map S).take (f.signals.length*1)=f.signals.map S:=cX oS;refine aQ ?_;refine eT (eQ rfl r9 rfl uP c9 (iH dZ) rfl) aM ⟨DT,rfl,oS,oC,rfl,by unfold maxLen;omega,by rw[b9];omega,oS⟩ (mD (I5 (wsq:=Lt::f.signals) (ay oG (ay oG (ay oG xU))) r9 ((Am oG).mono λi hi=>?_) oP (λi hi=>by cases hi;omega) oG oP hz4) rfl aM λd m nx h=>?_)
 .cases hi;exact ay oG (ay oG (ay oG rfl))
 apply af;dsimp[St.put];let⟨q,cK,_,C,hg⟩:=y6 h oG;refine⟨_,hg _ [(1,.pt (aL f)),(5,.rp 1 0)] ⟨rfl,rfl,aa⟩,aG (aA ?_)⟩;clear hg h;refine aQ ?_;have xA:oK f f.blocks.length=lY f:=by rw[oK,take_length];rfl
 have dd:=ht.NV
 refine af (cw (λs=>∃ q nx,1<q/\q<nx/\aP prog s ⟨aD [(5,.rp 1 0)],qO q (gP (lY f)),nx⟩) (eB (α:=Nat×Nat×Nat)
  (λs=>⟨aD [(5,.rp 1 0),(53,dz f.blocks),(54,I f.blocks.length),(55,I s.1)],qO s.2.1 (gP (oK f s.1)),s.2.2⟩)
  (λs=>s.1<=f.blocks.length/\1<s.2.1/\s.2.1<s.2.2) (λs=>f.blocks.length - s.1) (0,q,nx)
  (au eH) ⟨Nat.zero_le _,cK,C⟩ ?_) ?_)
 .clear Kf X hz3 hz4 kR kS cK C dZ;rintro⟨k,q,nx⟩ ⟨hk,cK,C⟩;dsimp only at hk cK C ⊢;refine SS ?_;refine af ⟨_,rfl,λh=>?_,λh=>?_⟩
  .have iD:k<f.blocks.length:=s0 h
   clear h;let⟨b,hb⟩:=s3 f.blocks k iD
   have lJ:=bD hb;have uN:=ht.auO b lJ;have uL:=ht.ins b lJ;have M:=ht.fin b lJ;refine aA (aQ ?_);refine af ⟨_,Nu (cs:=cE b) (e:=59) r9 (ay oG (ay oG rfl)) (ay oG (ay oG rfl)) cK C (l:=[(5,.rp 1 0),(53,dz f.blocks),(54,I f.blocks.length),(55,I k),(8,.pt (cE b))]) ⟨lz oG,rfl,rfl,rfl,mV,aa⟩,aA ?_⟩;refine ag ?_;refine mD (I5 (wsq:=[qz]) (ay oG xU) r9 ((Am oG).mono λi hi=>by cases hi;exact(ay oG rfl)) rfl (λi hi=>by cases hi;omega) oG oS (ht.le (Qr hb ⟨_,rfl⟩))) rfl aM λd m nx h=>?_;apply af;dsimp[St.put];let⟨q,cK,_,C,hg⟩:=y6 h oG;refine⟨_,hg _ [(5,.rp 1 0),(53,dz f.blocks),(54,I f.blocks.length),(55,I k),(8,.pt (cE b))] ⟨rfl,rfl,rfl,rfl,rfl,aa⟩,aG (aA ?_)⟩;clear hg h;refine aQ ?_
   refine af (cw (λs=>∃ q nx,1<q/\q<nx/\aP prog s ⟨aD [(5,.rp 1 0),(53,dz f.blocks),(54,I f.blocks.length),(55,I k),(8,.pt (cE b))],qO q (gP (oK f k++([qz]::ud b))),nx⟩) (eB (α:=Nat×Nat×Nat)
    (λs=>⟨aD [(5,.rp 1 0),(53,dz f.blocks),(54,I f.blocks.length),(55,I k),(8,.pt (cE b)),(63,jo b.ins),(64,I b.ins.length),(65,I s.1)],qO s.2.1 (gP (oK f k++([qz]::(b.ins.take s.1).map (nN ta)))),s.2.2⟩)
    (λs=>s.1<=b.ins.length/\1<s.2.1/\s.2.1<s.2.2) (λs=>b.ins.length - s.1) (0,q,nx)
    (au eH) ⟨Nat.zero_le _,cK,C⟩ ?_) ?_)
   .clear cK C;rintro⟨i,q,nx⟩ ⟨hi,cK,C⟩;dsimp only at hi cK C ⊢;refine SS ?_;refine af ⟨_,rfl,λh=>?_,λh=>?_⟩
    .have gh:i<b.ins.length:=s0 h
     clear h;let⟨x,hx⟩:=s3 b.ins i gh
     have dW:=uL x (bD hx);have he:oK f k++([qz]::(b.ins.take (i+1)).map (nN ta))=(oK f k++([qz]::(b.ins.take i).map (nN ta)))++[nN ta x]:=by rw[take_add_one,hx];simp
     have Jp:(oK f k++([qz]::(b.ins.take i).map (nN ta)))++[nN ta x]<+:lY f:=by
      rw[<- he];apply Qr hb;unfold kF ud;refine(cons_prefix_cons).2 ⟨rfl,?_⟩;exact((take_prefix _ _).map _).trans (prefix_append _ _)
     refine aA (aQ ?_);refine af ⟨_,Nu (cs:=bU x) (e:=54) r9 (ay oG (ay oG rfl)) (ay oG (ay oG rfl)) cK C (l:=[(5,.rp 1 0),(53,dz f.blocks),(54,I f.blocks.length),(55,I k),(63,jo b.ins),(64,I b.ins.length),(65,I i),(8,.pt (cE b)),(10,.pt (bU x))]) ⟨lz oG,rfl,rfl,rfl,rfl,rfl,rfl,rfl,mV,aa⟩,gj ?_⟩;refine ag ?_;refine mD (ad2 (x:=x) (word:=ta) xU (Am oG) (λi hi=>by cases hi;omega) oG dW.1 dW.2 (ht.le Jp)) rfl aM λd m nx h=>?_;apply af;dsimp[St.put];let⟨q,cK,_,C,hg⟩:=y6 (w:=nN ta x) h oG;refine ag ?_;refine af (aW (i+1,q,nx) ?_ ⟨oM,cK,C⟩ oM);dsimp only;rw[he];exact hg _ _ ⟨rfl,rfl,rfl,rfl,rfl,rfl,rfl,rfl,aa⟩
    .have bt:¬ i<b.ins.length:=s0 h
     have:i=b.ins.length:=by omega
     subst this;rw[take_length];exact⟨q,nx,cK,C,au eH⟩
   clear cK C;rintro s ⟨q,nx,cK,C,hg⟩;refine⟨_,hg,aA ?_⟩;clear hg;refine aQ ?_;refine af ⟨_,Nu (cs:=bq b.fin) (e:=57) r9 (ay oG (ay oG rfl)) (ay oG (ay oG rfl)) cK C (l:=[(5,.rp 1 0),(53,dz f.blocks),(54,I f.blocks.length),(55,I k),(11,.pt (bq b.fin))]) ⟨lz oG,rfl,rfl,rfl,mV,aa⟩,aA ?_⟩;generalize hfx:b.fin=x at*
   have dZ:(x.args.map I).take (x.args.length*1)=x.args.map I:=cX oS;have jl:=M.2.1;have hwl:=M.2.2.2.2.1;have hB:kF b=[qz]::(ud b++(tc x::(lZ x++(nj x++x.aK.map lG)))):=by rw[kF,hfx]
   have hT:∀ A,A<+:lZ x++(nj x++x.aK.map lG)->((oK f k++([qz]::ud b))++[tc x])++A<+:lY f:=λA hA=>by
    have:=Qr hb (p:=[qz]::(ud b++(tc x::A))) (by
     rw[hB]
     exact(cons_prefix_cons).2 ⟨rfl,(prefix_append_right_inj _).2 ((cons_prefix_cons).2 ⟨rfl,hA⟩)⟩)
    simpa[append_assoc] using this
   refine aX ?_;refine cJ ?_;refine eT (eQ rfl r9 rfl dJ c3 (iH dZ) rfl) aM ⟨dI,rfl,oS,oC,rfl,by unfold maxLen;omega,by rw[b3];omega,oS⟩ (mD (NT (y:=.rs (nx+1+1) 0 (6+x.args.length)) (l:=zm x) (word:=GB) (ay oG (ay oG (ay oG xU))) ((Am oG).mono λi hi=>by cases hi;exact(ay oG (ay oG (ay oG rfl)))) (λi hi=>by cases hi;omega) oG (.inr ⟨nx+1+1,oG,congrArg (D.rs _ 0) (by simp[zm];omega),aw _ _ _⟩) M.1 (by simp[zm];omega) (ht.le (p:=oK f k++([qz]::ud b)) (l:=tc x) (s0 (hT [] nil_prefix)))) rfl aM λd m nx h=>?_);apply af;dsimp[St.put];let⟨q,cK,_,C,hg⟩:=y6 (w:=tc x) h oG;generalize OR:(oK f k++([qz]::ud b))++[tc x]=T1 at*
   refine⟨_,hg _ [(5,.rp 1 0),(53,dz f.blocks),(54,I f.blocks.length),(55,I k),(11,.pt (bq x))] ⟨rfl,rfl,rfl,rfl,rfl,aa⟩,fS (λs=>∃ q nx,1<q/\q<nx/\aP prog s ⟨aD [(5,.rp 1 0),(53,dz f.blocks),(54,I f.blocks.length),(55,I k),(11,.pt (bq x))],qO q (gP (T1++lZ x)),nx⟩) (al ?_) λs hs=>?_⟩
   .refine ax ?_;refine af (aB rfl (λhn=>?_) λhn=>?_)
    .have J:lZ x=[[y7,x.name]]:=by
      rw[lZ,ai];intro he;simp[he] at hn
     refine kU (aQ ?_);refine mD (I5 (wsq:=[y7,x.name]) (ay oG xU) r9 ((Am oG).mono λi hi=>by cases hi;exact(ay oG rfl)) rfl (λi hi=>by cases hi;omega) oG oS (ht.le (hT _ (by rw[J];exact prefix_append _ _)))) rfl aM λd m nx h=>?_;apply af;dsimp[St.put];let⟨q,cK,_,C,hg⟩:=y6 h oG;rw[J];exact⟨q,nx,cK,C,hg _ _ ⟨rfl,rfl,rfl,rfl,rfl,aa⟩⟩
    .have J:lZ x=[]:=by
      rw[lZ,bi];by_cases he:x.name.toList=[]
      .exact he
      .simp[he] at hn
     rw[J,append_nil];exact cB ⟨q,nx,cK,C,au eH⟩
   clear hg h cK C;let⟨q,nx,cK,C,hg⟩:=hs;refine⟨_,hg,fS (λs=>∃ q nx,1<q/\q<nx/\aP prog s ⟨aD [(5,.rp 1 0),(53,dz f.blocks),(54,I f.blocks.length),(55,I k),(11,.pt (bq x))],qO q (gP ((T1++lZ x)++nj x)),nx⟩) (al ?_) λs hs=>?_⟩
   .refine ax ?_;refine af (aB rfl (λhn=>?_) λhn=>?_)
    .have J:nj x=[nN DU x.ins]:=by
      rw[nj,bi];simpa using hn
     have Vr:(T1++lZ x)++[nN DU x.ins]<+:lY f:=by
      rw[append_assoc];refine hT _ ((prefix_append_right_inj _).2 ?_);rw[J];exact prefix_append _ _
     refine kU (ax ?_);refine mD (ad2 (x:=x.ins) (word:=DU) xU (Am oG) (λi hi=>by cases hi;omega) oG M.2.2.1 M.2.2.2.1 (ht.le Vr)) rfl aM λd m nx h=>?_;apply af;dsimp[St.put];let⟨q,cK,_,C,hg⟩:=y6 (w:=nN DU x.ins) h oG;rw[J];exact⟨q,nx,cK,C,hg _ _ ⟨rfl,rfl,rfl,rfl,rfl,aa⟩⟩
    .have J:nj x=[]:=by
      rw[nj,ai];simpa using hn
     rw[J,append_nil];exact cB ⟨q,nx,cK,C,au eH⟩
   clear hg cK C;let⟨q,nx,cK,C,hg⟩:=hs;refine⟨_,hg,aA ?_⟩;clear hg;refine aQ ?_
   refine af (eB (α:=Nat×Nat×Nat)
    (λs=>⟨aD [(5,.rp 1 0),(53,dz f.blocks),(54,I f.blocks.length),(55,I k),(110,nX x.aK),(111,I x.aK.length),(112,I s.1)],qO s.2.1 (gP (((T1++lZ x)++nj x)++(x.aK.take s.1).map lG)),s.2.2⟩)
    (λs=>s.1<=x.aK.length/\1<s.2.1/\s.2.1<s.2.2) (λs=>x.aK.length - s.1) (0,q,nx)
    (by dsimp only;rw[take_zero,map_nil,append_nil];exact au eH) ⟨Nat.zero_le _,cK,C⟩ ?_)
   clear cK C;rintro⟨i,q,nx⟩ ⟨hi,cK,C⟩;dsimp only at hi cK C ⊢;refine SS ?_;refine af ⟨_,rfl,λh=>?_,λh=>?_⟩
   .have gh:i<x.aK.length:=s0 h
    clear h;let⟨w,hw⟩:=s3 x.aK i gh
    have U3:=M.2.2.2.2.2 w (bD hw);have he:((T1++lZ x)++nj x)++(x.aK.take (i+1)).map lG=(((T1++lZ x)++nj x)++(x.aK.take i).map lG)++[lG w]:=by rw[take_add_one,hw];simp
    have Vr:(((T1++lZ x)++nj x)++(x.aK.take i).map lG)++[lG w]<+:lY f:=by
     rw[<- he,append_assoc,append_assoc];exact hT _ ((prefix_append_right_inj _).2 ((prefix_append_right_inj _).2 ((take_prefix _ _).map _)))
    refine aA (aQ ?_);refine af ⟨_,Nu (cs:=jX w) (e:=79) r9 (ay oG (ay oG rfl)) (ay oG (ay oG rfl)) cK C (l:=[(5,.rp 1 0),(53,dz f.blocks),(54,I f.blocks.length),(55,I k),(110,nX x.aK),(111,I x.aK.length),(112,I i),(13,.pt (jX w))]) ⟨lz oG,rfl,rfl,rfl,rfl,rfl,rfl,mV,aa⟩,RE (hD [(1,5),(2,5)]) kr ?_⟩;refine bh ?_;refine wX (Tp U3) rfl aM (SS ?_);refine bJ bM (mD (I5 (wsq:=lG w) (ay oG xU) r9 ((Am oG).mono λi hi=>by cases hi;exact(ay oG rfl)) rfl (λi hi=>by cases hi;omega) oG (by simp[lG]) (ht.le Vr)) rfl aM λd m nx h=>?_);apply af;dsimp[St.put];let⟨q,cK,_,C,hg⟩:=y6 (w:=lG w) h oG;show aE prog iV (Z fk 31) false [] _ (Z fk 31).toList _ [];refine ag ?_;refine af (aW (i+1,q,nx) ?_ ⟨oM,cK,C⟩ oM);dsimp only;rw[he];exact hg _ _ ⟨rfl,rfl,rfl,rfl,rfl,rfl,rfl,aa⟩
   .have bt:¬ i<x.aK.length:=s0 h
    have:i=x.aK.length:=by omega
    subst this;rw[take_length];show aE prog iV (Z fk 32) false [] _ (Z fk 32).toList _ [];refine ag ?_;refine af (aW (k+1,q,nx) ?_ ⟨oM,cK,C⟩ oM);dsimp only;rw[Zn hb,show oK f k++kF b=((T1++lZ x)++nj x)++x.aK.map lG by rw[hB, <- OR];simp[append_assoc]];exact au eH
  .have bt:¬ k<f.blocks.length:=s0 h
   have:k=f.blocks.length:=by omega
   subst this;rw[xA];exact⟨q,nx,cK,C,au eH⟩
 .rintro s ⟨q,nx,cK,C,hg⟩;refine⟨_,hg,al ?_⟩
  have h0:0<(gP (lY f)).size:=by
   show 0<(la _++gP _).size;rw[ByteArray.size_append,la,ByteArray.size_append];have:(⟨#[10]⟩:ByteArray).size=1:=rfl;omega
  refine SS ?_;refine aI (ML rfl rfl) ak aa (SS ?_);refine mD (ad3 xU (Vs oG) h0 ht.size) rfl aM λd m nx h=>?_;obtain⟨rfl,rfl,rfl⟩:=h;dsimp[St.put];refine ag ?_;exact af (fB rfl rfl rfl)
def NW{f:az}(ht:eF f=0->IP f):aH prog 111 [.agg (aL f)] (.bu [S (if eF f=0 then rH f else⟨#[]⟩),I (eF f)]):=by
 by_cases C:eF f=0
 .have h:=anH C (ht C);rw[bi C,C];exact h
 rw[ai C];have wx:=wx (f:=f);refine bx (fo f111) (.cons (.agg (gS f)) .nil) (.bu (.cons (.s _) fp)) ?_;generalize eF f=e at*
 have xx:(e !=0)=true:=s0 C
 refine aA (ax ?_);refine af (br (cH [(0,aL f,48)] eH (l:=[(1,.pt (aL f))]) eH) (aG (al ?_)));refine ax ?_;refine af (aG (al (ag ?_)));refine af (wY (aG (al ?_)));refine ax ?_;exact af (de (fB rfl rfl rfl))
abbrev bS(l:List az):D:=.sl (l.flatMap aL) l.length
def kV(l:List az):Tr (bS l):=.sl (.flat gS)
def ja:List D:=[S ⟨#[]⟩,B false,I 0,U8 0,.z,.z,.z,.z]
def named(l:List az)(name:ByteArray):Int:=rQ (λg=>g.name.toList==name.toList) l
def findF(l:List az)(name:ByteArray):Option az:=l.find? λg=>g.name.toList==name.toList
def IS:Option az->D
 |some g=>.bu [.agg (aL g),B true]
 |none=>.bu [.agg ja,B false]
def auP{f:az}{name:ByteArray}:aH prog 116 [.agg (aL f),.pt [S name]] (B (f.name.toList==name.toList)):=by
 refine bx (fo f116) (.cons (.agg (gS f)) (.cons (.pt fp) .nil)) (Tr.s _) ?_;refine aA (ag ?_);refine af (br (cH [(0,aL f,48)] eH (l:=[(1,.pt [S name]),(2,.pt (aL f))]) eH) (al ?_));refine bh ?_;exact af (aC rfl rfl)
def NX{l:List az}{g:FuncId}{fs cs:List D}{p:az->Bool}(hl:l.length<=1000000)(ht:Tr (.fn (.func g) fs cs))(hg:∀ x∈l,aH prog g (fs++[.agg (aL x)]++cs) (B (p x))):aH prog 115 [bS l,.fn (.func g) fs cs] (I (rQ p l)):=by
 refine bx (fo f115) (.cons (kV _) (.cons ht .nil)) (Tr.s _) ?_;refine ws (SS ?_);refine af (aG (aA (ax ?_)))
 refine af (cw (λs=>aP prog s ⟨aD [],λ_=>none,0⟩/\∀ (j:Nat) y,l[j]? =some y->p y=false) (eB (α:=Nat) (λk=>⟨aD [(0,bS l),(1,.fn (.func g) fs cs),(7,I l.length),(8,I k)],λ_=>none,0⟩)
  (λk=>k<=l.length/\∀ j y,j<k->l[j]? =some y->p y=false) (λk=>l.length - k) 0 (au eH) ⟨oG,λj y hj=>by omega⟩ ?_) ?_)
 .rintro k ⟨hk,hinv⟩;refine SS ?_;refine af ⟨_,rfl,λh=>?_,λh=>?_⟩
  .have ao:k<l.length:=s0 h
   let⟨x,hx⟩:=s3 l k ao
   have C:=hg x (bD hx);refine ws (ag ?_);refine er (cz ?_);refine af (aB rfl (λhp=>?_) λhp=>?_)
   .refine ws (ag ?_);refine af (bj (bP (aY (aC rfl ?_))));rw[yj hx hp hinv];rfl
   .refine cB (ag ?_);refine af (aW (k+1) (au eH) ⟨oG,λj y hj hy=>?_⟩ oG);by_cases e:j=k
    .subst e;rw[hx] at hy;cases hy;exact hp
    .exact hinv j y oG hy
  .have M:¬ k<l.length:=s0 h
   exact⟨.forget _ _ _ _ λ_=>.inr rfl,λj y hy=>hinv j y (by have:=(bQ.1 hy).1;omega) hy⟩
 .rintro s ⟨hg,J⟩;refine⟨_,hg,al ?_⟩;refine SS ?_;refine af (aC rfl ?_);rw[Bf J];rfl
def Xb(l:List az)(name:ByteArray):(named l name= -1/\findF l name=none)\/∃ (i:Nat) (g:az),named l name=i/\l[i]? =some g/\findF l name=some g:=by
 unfold named rQ findF;cases h:l.findIdx? (λg=>g.name.toList==name.toList) with
 |none=>
  left;refine⟨rfl,?_⟩;rw[findIdx?_eq_none_iff] at h;rw[find?_eq_none];intro x hx;simpa using h x hx
 |some i=>
  right;let⟨hi,h1,h2⟩:=findIdx?_eq_some_iff_getElem.1 h;refine⟨i,l[i],rfl,aO hi,?_⟩;rw[find?_eq_some_iff_getElem];exact⟨h1,i,hi,rfl,λj hj=>s0 (h2 j hj)⟩
def uQ{l:List az}{name:ByteArray}(hl:l.length<=1000000):aH prog 74 [bS l,S name] (IS (findF l name)):=by
 have NX:=NX (l:=l) (g:=116) (fs:=[]) (cs:=[.pt [S name]]) (p:=λg=>g.name.toList==name.toList) hl (.fn oS (.cons (.pt fp) .nil)) λx _=>auP
 change aH _ _ _ (I (named l name)) at NX
 have C:Tr (IS (findF l name)):=by
  cases findF l name with
  |none=>exact .bu (.cons (.agg (.cons (.s _) (.cons (.s _) (.cons (.s _) (.cons (.s _) (.cons .z (.cons .z (.cons .z (.cons .z .nil))))))))) fp)
  |some g=>exact .bu (.cons (.agg (gS g)) fp)
 refine bx (fo f74) (.cons (kV _) fp) C ?_;refine aA (di (MK (d:=.s (.string _)) rfl rfl) ak rfl (ag ?_));refine af ⟨_,mq (i:=0) (cs:=[S name]) (e:=9) rfl (l:=[(0,bS l),(3,.pt [S name]),(4,.rp 1 0)]) eH (ml:=[(1,.cells ja 48)]) eH,al ?_⟩;refine aQ ?_;refine af (aG (al ?_));rcases Xb l name with⟨hn,hf⟩|⟨i,g,hn,hg,hf⟩
 .rw[hn,hf];refine ag ?_;refine af (wY (aG (al ?_)));refine ax ?_;exact af (de (Bb (kz rfl rfl AR zz rfl t48 oC) rfl rfl))
 .rw[hn,hf];have ao:=(bQ.1 hg).1;refine ag ?_;refine af (cM rfl (λh=>?_) λ_=>cI (al ?_))
  .simp at h;omega
  refine cz ?_;exact af (Bb (kz rfl rfl AR zz rfl t48 (bY 8)) rfl rfl)
abbrev eZ:D:=.s (.map none)
def lE(l:List Int)(i:Int):Int:=l.getD i.toNat 0
def ue(c g:az)(args:List Int)(i:Nat):Bool:=lE c.aj (args.getD i 0)==g.aj.getD i 0
def pP(c g:az)(args:List Int):Bool:=decide ((args.length:Int)=g.args)&&(range args.length).all (ue c g args)
def AS{c g:az}{args:List Int}(ha:∀ r∈args,0<=r/\r<c.aj.length)(hg:g.args<=g.aj.length)(hl:args.length<=1000000):
 aH prog 99 [.agg (bG eZ eZ c),.agg (aL g),aU args] (B (pP c g args)):=by
 have M:∀ a∈[D.agg (bG eZ eZ c),.agg (aL g),aU args],Tr a:=.cons (oa (.s _) (.s _) c) (.cons (.agg (gS g)) (.cons (dP _) .nil));refine bx (fo f99) M (Tr.s _) ?_;refine aA (ax ?_);refine af (br (cH [(0,bG eZ eZ c,113),(1,aL g,48)] eH (l:=[(2,aU args),(3,.pt (bG eZ eZ c)),(4,.pt (aL g))]) eH) (aG (al ?_)));refine bh ?_;refine af (cM rfl (λh=>aG (al ?_)) λh=>cI (aG (aA ?_)))
 .have:¬ (args.length:Int)=g.args:=s0 h
  have hf:pP c g args=false:=by simp[pP,this]
  rw[hf];refine SS ?_;exact af (de (aC rfl rfl))
 have hlen:(args.length:Int)=g.args:=s0 h
 refine ax ?_
 refine af (cw (λs=>aP prog s ⟨aD [],λ_=>none,2⟩/\∀ j,j<args.length->ue c g args j=true) (eB (α:=Nat) (λk=>⟨aD [(3,.pt (bG eZ eZ c)),(4,.pt (aL g)),(14,aU args),(15,I args.length),(16,I k)],λ_=>none,2⟩)
  (λk=>k<=args.length/\∀ j,j<k->ue c g args j=true) (λk=>args.length - k) 0 (au eH) ⟨oG,λj hj=>by omega⟩ ?_) ?_)
 .rintro k ⟨hk,hinv⟩;refine SS ?_;refine af ⟨_,rfl,λh=>?_,λh=>?_⟩
  .have ao:k<args.length:=s0 h
   let⟨x,hx⟩:=s3 args k ao
   let⟨xV,X⟩:=ha x (bD hx);refine ws (bh ?_);obtain⟨C,rfl⟩:∃ C:Nat,x=C:=⟨x.toNat,oG⟩
   let⟨u,hu⟩:=s3 c.aj C oG
   let⟨v,hv⟩:=s3 g.aj k oG
   refine af (c6 iO ?_);refine aX ?_;refine ax ?_;have J:ue c g args k=(u==v):=by simp[ue,lE,dU,hx,hu,hv]
   refine bJ bM (aB rfl (λhp=>?_) λhp=>?_)
   .have hf:pP c g args=false:=by
     have:(range args.length).all (ue c g args)=false:=by
      rw[all_eq_false];refine⟨k,mem_range.2 ao,?_⟩;rw[J];simpa using hp
     simp[pP,this]
    rw[hf];refine ws (SS ?_);exact af (bj (bP (aY (aC rfl rfl))))
   .refine cB (ag ?_);refine af (aW (k+1) (au eH) ⟨oG,λj hj=>?_⟩ oG);by_cases e:j=k
    .subst e;rw[J];simpa using hp
    .exact hinv j oG
  .have bt:¬ k<args.length:=s0 h
   exact⟨.forget _ _ _ _ λ_=>.inr rfl,λj hj=>hinv j oG⟩
 .rintro s ⟨hg,U⟩;refine⟨_,hg,al ?_⟩
  have:(range args.length).all (ue c g args)=true:=by
   rw[bK];intro j hj;exact U j (mem_range.1 hj)
  have hf:pP c g args=true:=by simp[pP,hlen,this]
  rw[hf];refine SS ?_;exact af (aC rfl rfl)
def vJ(r:Int)(b:bI):Bool:=decide (b.fin.kind=7)&&decide (b.fin.a=r)
def vU(c:az)(l:List az)(r:Int):Option az:=match c.blocks.find? (vJ r) with
 |some b=>findF l b.fin.name
 |none=>none
def alF(o:Option az):Tr (IS o):=by
 cases o with
 |none=>exact .bu (.cons (.agg (.cons (.s _) (.cons (.s _) (.cons (.s _) (.cons (.s _) (.cons .z (.cons .z (.cons .z (.cons .z .nil))))))))) fp)
 |some g=>exact .bu (.cons (.agg (gS g)) fp)
def RH{m:Mem}{nx j sz:Nat}{r:Row}{cs:List D}(hj:j≠nx)(h1:m j=some r)(hr:Row.sub (dq nx cs sz) r=r):(λj=>if j=nx then none else(m j).map (Row.sub (dq nx cs sz))) j=some r:=by
 show(if j=nx then none else(m j).map _)=_;rw[ai hj,h1];exact congrArg some hr
def vV{c:az}{l:List az}{r:Int}(hl:l.length<=1000000)(dd:c.blocks.length<=1000000):aH prog 100 [.agg (bG eZ eZ c),bS l,I r] (IS (vU c l r)):=by
 have M:∀ a∈[D.agg (bG eZ eZ c),bS l,I r],Tr a:=.cons (oa (.s _) (.s _) c) (.cons (kV l) fp);have uQ:∀ {name:ByteArray},aH prog 74 [bS l,S name] (IS (findF l name)):=λ{name}=>uQ hl;refine bx (fo f100) M (alF _) ?_;refine aA (ax ?_);refine af ⟨_,mq (i:=0) (cs:=bG eZ eZ c) (e:=113) rfl (l:=[(1,bS l),(2,I r),(3,.pt (bG eZ eZ c)),(6,.rp 1 0)]) eH (ml:=[(1,.cells ja 48)]) eH,aG (aA ?_)⟩;refine bh ?_
 refine af (cw (λs=>(∃ nx,2<=nx/\aP prog s ⟨aD [(6,.rp 1 0)],bA [(1,.cells ja 48)],nx⟩)/\∀ (j:Nat) y,c.blocks[j]? =some y->vJ r y=false) (eB (α:=Nat×Nat) (λs=>⟨aD [(1,bS l),(2,I r),(6,.rp 1 0),(12,dz c.blocks),(13,I c.blocks.length),(14,I s.1)],bA [(1,.cells ja 48)],s.2⟩)
  (λs=>s.1<=c.blocks.length/\2<=s.2/\∀ j y,j<s.1->c.blocks[j]? =some y->vJ r y=false) (λs=>c.blocks.length - s.1) (0,2) (au eH) ⟨Nat.zero_le _,bY _,λj y hj=>by omega⟩ ?_) ?_)
 .rintro⟨k,nx⟩ ⟨hk,C,hinv⟩;dsimp only at hk C hinv ⊢;refine SS ?_;refine af ⟨_,rfl,λh=>?_,λh=>?_⟩
  .have ao:k<c.blocks.length:=s0 h
   let⟨b,hb⟩:=s3 c.blocks k ao
   refine aA (aQ ?_);refine af ⟨_,mq (i:=nx) (cs:=cE b) (e:=59) r9 (l:=[(1,bS l),(2,I r),(6,.rp 1 0),(12,dz c.blocks),(13,I c.blocks.length),(14,I k),(9,.pt (cE b))]) ⟨rfl,rfl,lz oG,rfl,rfl,rfl,mV,aa⟩ (ml:=[(1,.cells ja 48)]) ⟨RH oG (ay oG (ay oG rfl)) rfl,aa⟩,al ?_⟩;have J:vJ r b=(decide (b.fin.kind=7)&&decide (b.fin.a=r)):=rfl;refine aX ?_;refine ag ?_;refine af (aB rfl (λhp=>?_) λhp=>?_)
   .have hf:vU c l r=findF l b.fin.name:=by
     unfold vU
     have:c.blocks.find? (vJ r)=some b:=by
      rw[find?_eq_some_iff_getElem];refine⟨by rw[J];simpa using hp,k,ao,(bQ.1 hb).2,λj hj=>?_⟩;have:=hinv j c.blocks[j] hj (aO oG);simp[this]
     rw[this]
    rw[hf];have uQ:= @uQ b.fin.name;generalize findF l b.fin.name=o at uQ;cases o with
    |none=>
     refine ws (aX ?_);refine af (bj (bP (aY (Bb (kz rfl rfl AR zz rfl t48 (bY 8)) rfl rfl))))
    |some g=>
     refine ws (aX ?_);refine af (bj (bP (aY (Bb (kz rfl rfl AR zz rfl t48 (bY 8)) rfl rfl))))
   .refine cB (ag ?_);refine af (aW (k+1,nx+1) (au eH) ⟨oM,oM,λj y hj hy=>?_⟩ oM);by_cases e:j=k
    .subst e;rw[hb] at hy;cases hy;rw[J];simpa using hp
    .exact hinv j y (by dsimp only at hj;omega) hy
  .have X:¬ k<c.blocks.length:=s0 h
   exact⟨⟨nx,C,au eH⟩,λj y hy=>hinv j y (by have:=(bQ.1 hy).1;omega) hy⟩
 .rintro s ⟨⟨nx,C,hg⟩,U⟩
  have hf:vU c l r=none:=by
   unfold vU
   have:c.blocks.find? (vJ r)=none:=by
    rw[find?_eq_none];intro y hy;let⟨j,hj⟩:=cV hy;simp[U j y hj]
   rw[this]
  rw[hf];refine⟨_,hg,al ?_⟩;refine ax ?_;exact af (Bb (kz rfl rfl AR zz rfl t48 (bY 8)) rfl rfl)
def An(c:az)(l:List az)(y:End):Bool:=match findF l y.name with
 |none=>false
 |some g=> !g.iter&&(pP c g y.args&& !(decide (0<=y.a)&&(lE c.aj y.a !=g.result)))
def Ao(c:az)(l:List az)(y:End):Bool:=match findF l y.name with
 |none=>false
 |some g=>g.iter&&pP c g y.args
def y8(c:az)(l:List az)(y:End):Bool:=match vU c l y.a with
 |none=>true
 |some g=> !(lE c.aj y.b !=g.result)
def kY(c:az)(l:List az)(b:bI):Bool:=
 if b.fin.kind=6 then An c l b.fin else if b.fin.kind=7 then Ao c l b.fin else if b.fin.kind=8 then y8 c l b.fin else true
def tU(c:az)(l:List az):Bool:=c.blocks.all (kY c l)
structure L1(c:az)(l:List az):Prop where
 len:l.length<=1000000
 NV:c.blocks.length<=1000000
 args:∀ b∈c.blocks,b.fin.kind=6\/b.fin.kind=7->(∀ r∈b.fin.args,0<=r/\r<c.aj.length)/\b.fin.args.length<=1000000
 a:∀ b∈c.blocks,b.fin.kind=6->b.fin.a<c.aj.length
 b:∀ b∈c.blocks,b.fin.kind=8->0<=b.fin.b/\b.fin.b<c.aj.length
 fl:∀ g∈l,g.args<=g.aj.length
def ajl{l:List az}{name:ByteArray}{g:az}(h:findF l name=some g):g∈l:=mem_of_find?_eq_some h
def OS{c:az}{l:List az}(hc:L1 c l):aH prog 64 [.agg (bG eZ eZ c),bS l] (B (tU c l)):=by
 have bE:∀ a∈[D.agg (bG eZ eZ c),bS l],Tr a:=.cons (oa (.s _) (.s _) c) (.cons (kV l) .nil);have hl:=hc.len;have dd:=hc.NV;refine bx (fo f64) bE (.s _) ?_;refine aA (ag ?_);refine af (br (cH [(0,bG eZ eZ c,113)] eH (l:=[(1,bS l),(2,.pt (bG eZ eZ c))]) eH) (aG (aA ?_)));refine bh ?_
 refine af (cw (λs=>∃ nx,aP prog s ⟨aD [],λ_=>none,nx⟩/\∀ (j:Nat) y,c.blocks[j]? =some y->kY c l y=true) (eB (α:=Nat×Nat) (λs=>⟨aD [(1,bS l),(2,.pt (bG eZ eZ c)),(14,dz c.blocks),(15,I c.blocks.length),(16,I s.1)],λ_=>none,s.2⟩)
  (λs=>s.1<=c.blocks.length/\∀ j y,j<s.1->c.blocks[j]? =some y->kY c l y=true) (λs=>c.blocks.length - s.1) (0,1) (au eH) ⟨Nat.zero_le _,λj y hj=>by omega⟩ ?_) ?_)
 .rintro⟨k,nx⟩ ⟨hk,hinv⟩;dsimp only at hk hinv ⊢;refine SS ?_;refine af ⟨_,rfl,λh=>?_,λh=>?_⟩
  .have ao:k<c.blocks.length:=s0 h
   clear h;let⟨b,hb⟩:=s3 c.blocks k ao
   have lJ:=bD hb;have fI:=hc.args b lJ;have OT:=hc.a b lJ;have ad5:=hc.b b lJ;have C:kY c l b=if b.fin.kind=6 then An c l b.fin else if b.fin.kind=7 then Ao c l b.fin else if b.fin.kind=8 then y8 c l b.fin else true:=rfl
   have eD:kY c l b=false->tU c l=false:=λh=>by
    rw[tU,all_eq_false];exact⟨b,lJ,by simp[h]⟩
   have gZ:kY c l b=true->∀ j y,j<k+1->c.blocks[j]? =some y->kY c l y=true:=λh j y hj hy=>by
    by_cases e:j=k
    .subst e;rw[hb] at hy;cases hy;exact h
    .exact hinv j y oG hy
   refine aA (aQ ?_);refine af ⟨_,gd (i:=nx) (cs:=cE b) (e:=59) r9 (l:=[(1,bS l),(2,.pt (bG eZ eZ c)),(14,dz c.blocks),(15,I c.blocks.length),(16,I k),(6,.pt (cE b))]) ⟨rfl,rfl,rfl,rfl,rfl,mV,aa⟩,aA ?_⟩;refine aQ ?_;refine af ⟨_,gd (i:=nx+1) (cs:=bq b.fin) (e:=57) r9 (l:=[(1,bS l),(2,.pt (bG eZ eZ c)),(14,dz c.blocks),(15,I c.blocks.length),(16,I k),(7,.pt (bq b.fin))]) ⟨rfl,rfl,rfl,rfl,rfl,mV,aa⟩,aA ?_⟩;generalize b.fin=x at*
   have uQ:=uQ (l:=l) (name:=x.name) hl;cases ho:findF l x.name with
   |none=>
    rw[ho] at uQ;refine aX ?_;refine SS ?_;refine af ⟨_,gd (i:=nx+1+1) (cs:=ja) (e:=48) r9 (l:=[(1,bS l),(2,.pt (bG eZ eZ c)),(14,dz c.blocks),(15,I c.blocks.length),(16,I k),(7,.pt (bq x)),(8,.pt ja),(9,B false)]) ⟨rfl,rfl,rfl,rfl,rfl,rfl,mV,rfl,aa⟩,al ?_⟩;refine ag ?_;refine af (tN (al (ag ?_)));refine af (aB rfl (λJ=>?_) λJ=>?_)
    .have J:x.kind=6:=s0 J
     rw[bi J] at C;have zA:An c l x=false:=by rw[An,ho]
     rw[eD (C.trans zA)];refine c6 iO (cJ ?_);refine z λ_ _=>?_;refine ag ?_;(iterate 2 refine z λ_ _=>?_);refine aX ?_;refine ag ?_;(iterate 2 refine z λ_ _=>?_);refine ag ?_;(iterate 2 refine z λ_ _=>?_);refine SS ?_;refine bJ bM (DC (al ?_));refine SS ?_;exact af (bj (cA (bP (aY (aC rfl rfl)))))
    .have J:¬ x.kind=6:=s0 J
     rw[ai J] at C;refine ws (ag ?_);refine af (aB rfl (λU=>?_) λU=>?_)
     .have U:x.kind=7:=s0 U
      rw[bi U] at C;have Ct:Ao c l x=false:=by rw[Ao,ho]
      rw[eD (C.trans Ct)];refine ws (aX ?_);refine z λ_ _=>?_;refine ag ?_;(iterate 2 refine z λ_ _=>?_);refine SS ?_;refine af (DC (al ?_));refine SS ?_;exact af (bj (cA (bP (aY (aC rfl rfl)))))
     have U:¬ x.kind=7:=s0 U
     rw[ai U] at C;refine ws (ag ?_);refine af (aB rfl (λX=>?_) λX=>?_)
     .have X:x.kind=8:=s0 X
      rw[bi X] at C;let⟨Co,uN⟩:=ad5 X;have vV:=vV (c:=c) (l:=l) (r:=x.a) hl dd;cases fv:vU c l x.a with
      |none=>
       rw[fv] at vV;have M:kY c l b=true:=by rw[C];rw[y8,fv]
       refine aA (aQ ?_);refine cl vV ?_;refine cz ?_;refine af ⟨_,gd (i:=nx+1+1+1) (cs:=ja) (e:=48) r9 (l:=[(1,bS l),(2,.pt (bG eZ eZ c)),(14,dz c.blocks),(15,I c.blocks.length),(16,I k),(7,.pt (bq x)),(10,.pt ja),(11,B false)]) ⟨rfl,rfl,rfl,rfl,rfl,rfl,mV,rfl,aa⟩,c6 iO ?_⟩;refine ek ?_;(iterate 2 refine z λ_ _=>?_);refine ag ?_;refine z λ_ _=>?_;refine SS ?_;refine bJ bM (Gf (cB ?_));show aE prog iV (Z fC 17) false [] _ (Z fC 17).toList _ [];refine ag ?_;refine af (aW (k+1,_) (au eH) ⟨oM,gZ M⟩ oM)
      |some g'=>
       rw[fv] at vV;have mQ:y8 c l x= !(lE c.aj x.b !=g'.result):=by rw[y8,fv]
       obtain⟨bn,Vt⟩:∃ bn:Nat,x.b=bn:=⟨x.b.toNat,oG⟩
       let⟨u,hu⟩:=s3 c.aj bn oG
       let⟨kd,a,bb,to,ei,nm,ins,args,aK,uR⟩:=x;dsimp only at*
       subst Vt;have AT:lE c.aj (bn:Int)=u:=by simp[lE,dU,hu]
       refine aA (aX ?_);refine ag ?_;refine af ⟨_,gd (i:=nx+1+1+1) (cs:=aL g') (e:=48) r9 (l:=[(1,bS l),(2,.pt (bG eZ eZ c)),(14,dz c.blocks),(15,I c.blocks.length),(16,I k),(7,.pt (bq ⟨kd,a,(bn:Int),to,ei,nm,ins,args,aK,uR⟩)),(10,.pt (aL g')),(11,B true)]) ⟨rfl,rfl,rfl,rfl,rfl,rfl,mV,rfl,aa⟩,c6 iO ?_⟩;refine aX ?_;refine aQ ?_;refine bJ bM (aB rfl (λhp=>al ?_) λhp=>cB ?_)
       .have ns:kY c l b=false:=by
         rw[C,mQ,AT];simpa using hp
        rw[eD ns];refine SS ?_;exact af (bj (cA (bP (aY (aC rfl rfl)))))
       .have M:kY c l b=true:=by
         rw[C,mQ,AT];simpa using hp
        show aE prog iV (Z fC 17) false [] _ (Z fC 17).toList _ [];refine ag ?_;refine af (aW (k+1,_) (au eH) ⟨oM,gZ M⟩ oM)
     .have X:¬ x.kind=8:=s0 X
      have M:kY c l b=true:=by rw[C,ai X]
      apply cB;show aE prog iV (Z fC 17) false [] _ (Z fC 17).toList _ [];refine ag ?_;refine af (aW (k+1,_) (au eH) ⟨oM,gZ M⟩ oM)
   |some g=>
    rw[ho] at uQ;have OU:=ajl ho;refine aX ?_;refine SS ?_;refine af ⟨_,gd (i:=nx+1+1) (cs:=(aL g)) (e:=48) r9 (l:=[(1,bS l),(2,.pt (bG eZ eZ c)),(14,dz c.blocks),(15,I c.blocks.length),(16,I k),(7,.pt (bq x)),(8,.pt (aL g)),(9,B true)]) ⟨rfl,rfl,rfl,rfl,rfl,rfl,mV,rfl,aa⟩,al ?_⟩;refine ag ?_;refine af (tN (al (ag ?_)));refine af (aB rfl (λJ=>?_) λJ=>?_)
    .have J:x.kind=6:=s0 J
     rw[bi J] at C;have zA:An c l x=(!g.iter&&(pP c g x.args&& !(decide (0<=x.a)&&(lE c.aj x.a !=g.result)))):=by rw[An,ho]
     have AS:=AS (c:=c) (g:=g) (args:=x.args) (fI (.inl J)).1 (hc.fl g OU) (fI (.inl J)).2;generalize pP c g x.args=fb at AS zA;by_cases ha:0<=x.a
     .have Ey:=OT J;obtain⟨an,Kh⟩:∃ an:Nat,x.a=an:=⟨x.a.toNat,oG⟩
      let⟨u,hu⟩:=s3 c.aj an oG
      let⟨kd,a,bb,to,ei,nm,ins,args,aK,uR⟩:=x;dsimp only at*
      subst Kh;have xy:decide ((0:Int)<=(an:Int))=true:=s0 ha
      refine c6 iO (aX ?_);refine cJ ?_;refine aeR ?_;refine aX ?_;refine aQ ?_;refine bJ bM (aB rfl (λhp=>al ?_) λhp=>cB ?_)
      .have ns:kY c l b=false:=by
        rw[C,zA];revert hp;cases g.iter<;>cases fb<;>simp[lE,dU,hu]
       rw[eD ns];refine SS ?_;exact af (bj (cA (bP (aY (aC rfl rfl)))))
      .have M:kY c l b=true:=by
        rw[C,zA];revert hp;cases g.iter<;>cases fb<;>simp[lE,dU,hu]
       show aE prog iV (Z fC 17) false [] _ (Z fC 17).toList _ [];refine ag ?_;refine af (aW (k+1,_) (au eH) ⟨oM,gZ M⟩ oM)
     .have xy:decide (0<=x.a)=false:=s0 ha
      refine c6 iO (aX ?_);refine cJ ?_;refine aeR ?_;refine SS ?_;refine pH rfl gx λ_ _=>?_;refine pH rfl gx λ_ _=>?_;refine pH rfl gx λ_ _=>?_;refine pH rfl gx λ_ _=>?_;refine pH rfl gx λ_ _=>?_;refine pH rfl gx λ_ _=>?_;refine pH rfl gx λ_ _=>?_;refine pH rfl gx λ_ _=>?_;refine pH rfl gx λ_ _=>?_;refine pH rfl gx λ_ _=>?_;refine ag ?_;refine bJ bM (aB rfl (λhp=>al ?_) λhp=>cB ?_)
      .have ns:kY c l b=false:=by
        rw[C,zA];revert hp;cases g.iter<;>cases fb<;>simp[ha]
       rw[eD ns];refine SS ?_;exact af (bj (cA (bP (aY (aC rfl rfl)))))
      .have M:kY c l b=true:=by
        rw[C,zA];revert hp;cases g.iter<;>cases fb<;>simp[ha]
       show aE prog iV (Z fC 17) false [] _ (Z fC 17).toList _ [];refine ag ?_;refine af (aW (k+1,_) (au eH) ⟨oM,gZ M⟩ oM)
    .have J:¬ x.kind=6:=s0 J
     rw[ai J] at C;refine ws (ag ?_);refine af (aB rfl (λU=>?_) λU=>?_)
     .have U:x.kind=7:=s0 U
      rw[bi U] at C;have Ct:Ao c l x=(g.iter&&pP c g x.args):=by rw[Ao,ho]
      have AS:=AS (c:=c) (g:=g) (args:=x.args) (fI (.inr U)).1 (hc.fl g OU) (fI (.inr U)).2;generalize pP c g x.args=fb at AS Ct;refine ws (aX ?_);refine cz ?_;refine af (aB rfl (λhp=>al ?_) λhp=>cB ?_)
      .have ns:kY c l b=false:=by
        rw[C,Ct];revert hp;cases g.iter<;>cases fb<;>simp
       rw[eD ns];refine SS ?_;exact af (bj (cA (bP (aY (aC rfl rfl)))))
      .have M:kY c l b=true:=by
        rw[C,Ct];revert hp;cases g.iter<;>cases fb<;>simp
       show aE prog iV (Z fC 17) false [] _ (Z fC 17).toList _ [];refine ag ?_;refine af (aW (k+1,_) (au eH) ⟨oM,gZ M⟩ oM)
     have U:¬ x.kind=7:=s0 U
     rw[ai U] at C;refine ws (ag ?_);refine af (aB rfl (λX=>?_) λX=>?_)
     .have X:x.kind=8:=s0 X
      rw[bi X] at C;let⟨Co,uN⟩:=ad5 X;have vV:=vV (c:=c) (l:=l) (r:=x.a) hl dd;cases fv:vU c l x.a with
      |none=>
       rw[fv] at vV;have M:kY c l b=true:=by rw[C];rw[y8,fv]
       refine aA (aQ ?_);refine cl vV ?_;refine cz ?_;refine af ⟨_,gd (i:=nx+1+1+1) (cs:=ja) (e:=48) r9 (l:=[(1,bS l),(2,.pt (bG eZ eZ c)),(14,dz c.blocks),(15,I c.blocks.length),(16,I k),(7,.pt (bq x)),(10,.pt ja),(11,B false)]) ⟨rfl,rfl,rfl,rfl,rfl,rfl,mV,rfl,aa⟩,c6 iO ?_⟩;refine ek ?_;(iterate 2 refine z λ_ _=>?_);refine ag ?_;refine z λ_ _=>?_;refine SS ?_;refine bJ bM (Gf (cB ?_));show aE prog iV (Z fC 17) false [] _ (Z fC 17).toList _ [];refine ag ?_;refine af (aW (k+1,_) (au eH) ⟨oM,gZ M⟩ oM)
      |some g'=>
       rw[fv] at vV;have mQ:y8 c l x= !(lE c.aj x.b !=g'.result):=by rw[y8,fv]
       obtain⟨bn,Vt⟩:∃ bn:Nat,x.b=bn:=⟨x.b.toNat,oG⟩
       let⟨u,hu⟩:=s3 c.aj bn oG
       let⟨kd,a,bb,to,ei,nm,ins,args,aK,uR⟩:=x;dsimp only at*
       subst Vt;have AT:lE c.aj (bn:Int)=u:=by simp[lE,dU,hu]
       refine aA (aX ?_);refine ag ?_;refine af ⟨_,gd (i:=nx+1+1+1) (cs:=aL g') (e:=48) r9 (l:=[(1,bS l),(2,.pt (bG eZ eZ c)),(14,dz c.blocks),(15,I c.blocks.length),(16,I k),(7,.pt (bq ⟨kd,a,(bn:Int),to,ei,nm,ins,args,aK,uR⟩)),(10,.pt (aL g')),(11,B true)]) ⟨rfl,rfl,rfl,rfl,rfl,rfl,mV,rfl,aa⟩,c6 iO ?_⟩;refine aX ?_;refine aQ ?_;refine bJ bM (aB rfl (λhp=>al ?_) λhp=>cB ?_)
       .have ns:kY c l b=false:=by
         rw[C,mQ,AT];simpa using hp
        rw[eD ns];refine SS ?_;exact af (bj (cA (bP (aY (aC rfl rfl)))))
       .have M:kY c l b=true:=by
         rw[C,mQ,AT];simpa using hp
        show aE prog iV (Z fC 17) false [] _ (Z fC 17).toList _ [];refine ag ?_;refine af (aW (k+1,_) (au eH) ⟨oM,gZ M⟩ oM)
     .have X:¬ x.kind=8:=s0 X
      have M:kY c l b=true:=by rw[C,ai X]
      apply cB;show aE prog iV (Z fC 17) false [] _ (Z fC 17).toList _ [];refine ag ?_;refine af (aW (k+1,_) (au eH) ⟨oM,gZ M⟩ oM)
  .have bt:¬ k<c.blocks.length:=s0 h
   exact⟨nx,au aa,λj y hy=>hinv j y (by have:=(bQ.1 hy).1;omega) hy⟩
 .rintro s ⟨nx,hg,bd⟩
  have hf:tU c l=true:=by
   rw[tU,bK];intro y hy;let⟨j,hj⟩:=cV hy;exact bd j y hj
  rw[hf];refine⟨_,hg,al ?_⟩;refine SS ?_;exact af (aC rfl rfl)
def AD(a b:ByteArray):Bool:= !(Op.bytesLess a.toList b.toList)
def qm(l:List az)(i:Nat):ByteArray:=match l[i]? with
 |some f=>f.name
 |none=>⟨#[]⟩
def iQ(l:List az)(i:Nat):Int:=match l[i]? with
 |none=>0
 |some f=>if eF f=0 then(if decide (0<i)&&AD (qm l (i - 1)) f.name then 1 else 0) else eF f
def sA(l:List az)(i:Nat):Bool:=match l[i]? with
 |none=>false
 |some f=> !tU f l
def dK(l:List az):Int×Int:=
 if 60<l.length then(0,2) else match (range l.length).find? λi=>iQ l i !=0 with
 |some i=>(i,iQ l i)
 |none=>match (range l.length).find? (sA l) with
  |some i=>(i,82)
  |none=>(0,0)
def KV{p:Nat->Bool}{n k:Nat}(hk:k<n)(hp:p k=true)(h:∀ j,j<k->p j=false):(range n).find? p=some k:=by
 rw[find?_eq_some_iff_getElem];refine⟨hp,k,s0 hk,oS,λj hj=>?_⟩;simp[h j hj]
def KW{p:Nat->Bool}{n:Nat}(h:∀ j,j<n->p j=false):(range n).find? p=none:=by
 rw[find?_eq_none];intro x hx;simp[h x (mem_range.1 hx)]
def OW{l:List az}(hc:(∀ f∈l,eF f=0)->∀ f∈l,L1 f l)(hlen:l.length<=1000000):aH prog 30 [bS l] (.bu [I (dK l).1,I (dK l).2]):=by
 refine bx (fo f30) (.cons (kV l) .nil) (.bu (.cons (.s _) fp)) ?_;refine ws (ag ?_);refine af (aG (al (ax ?_)));refine af (cM rfl (λh=>aG (al ?_)) λh=>cI (aG (aA ?_)))
 .have h:60<l.length:=by
   have:(60:Int)<l.length:=s0 h
   omega
  have he:dK l=(0,2):=by rw[dK,bi h]
  rw[he];refine ag ?_;exact af (de (fB rfl rfl rfl))
 have U:¬ 60<l.length:=by
  have:¬ (60:Int)<l.length:=s0 h
  omega
 clear h;refine ax ?_
 refine af (cw (λs=>(∃ nx,aP prog s ⟨aD [(0,bS l)],λ_=>none,nx⟩)/\∀ j,j<l.length->iQ l j=0) (eB (α:=Nat×Nat) (λs=>⟨aD [(0,bS l),(12,bS l),(13,I l.length),(14,I s.1)],λ_=>none,s.2⟩)
  (λs=>s.1<=l.length/\∀ j,j<s.1->iQ l j=0) (λs=>l.length - s.1) (0,0) (au eH) ⟨Nat.zero_le _,λj hj=>by omega⟩ ?_) ?_)
 .rintro⟨k,nx⟩ ⟨hk,hinv⟩;dsimp only at hk hinv ⊢;refine SS ?_;refine af ⟨_,rfl,λh=>?_,λh=>?_⟩
  .have ao:k<l.length:=s0 h
   clear h;let⟨f,hf⟩:=s3 l k ao
   have wx:=wx (f:=f);have C:iQ l k=if eF f=0 then(if decide (0<k)&&AD (qm l (k - 1)) f.name then 1 else 0) else eF f:=by rw[iQ,hf]
   have gM:iQ l k≠0->dK l=(↑k,iQ l k):=λh=>by
    rw[dK,ai U,KV ao (s0 h) λj hj=>by simp[hinv j hj]]
   refine aA (cz ?_);refine af ⟨_,gd (i:=nx) (cs:=aL f) (e:=48) r9 (l:=[(0,bS l),(12,bS l),(13,I l.length),(14,I k),(4,I k),(5,.pt (aL f))]) ⟨rfl,rfl,rfl,rfl,rfl,mV,aa⟩,aG (al ?_)⟩;generalize eF f=e at wx C;refine ax ?_;refine af (aG (al (ag ?_)));refine af (cM rfl (λh=>aG (al ?_)) λh=>cI (c6 iO ?_))
   .have h:e≠0:=s0 h
    rw[ai h] at C;rw[gM (by rw[C];exact h),C];refine aQ ?_;exact af (de (bP (aY (fB rfl rfl rfl))))
   have h:e=0:=s0 h
   rw[bi h] at C;clear h wx
   have gZ:iQ l k=0->∀ j,j<k+1->iQ l j=0:=λh j hj=>by
    by_cases e:j=k
    .subst e;exact h
    .exact hinv j oG
   cases k with
   |zero=>
    have hz:iQ l 0=0:=by rw[C];simp
    refine cz ?_;(iterate 3 refine z λ_ _=>?_);refine ag ?_;refine z λ_ _=>?_;refine SS ?_;refine bJ bM (Gf (cB ?_));refine ag ?_;exact af (aW (0+1,_) (au eH) ⟨oM,gZ hz⟩ oM)
   |succ k'=>
    let⟨M,Vv⟩:=s3 l k' oG
    have Kh:qm l (k'+1 - 1)=M.name:=by rw[qm,Nat.add_sub_cancel,Vv]
    rw[Kh] at C;have uu:(((k'+1:Nat):Int) - 1=(k':Int))/\ -9223372036854775808<=(k':Int)/\(k':Int)<=9223372036854775807:=by omega
    have rP:decide ((0:Int)<((k'+1:Nat):Int))=true:=by simp
    refine aX ?_;refine aQ ?_;refine bJ bM (aB rfl (λhp=>al ?_) λhp=>cB ?_)
    .have h1:iQ l (k'+1)=1:=by
      rw[C,bi];simpa[AD] using hp
     rw[gM (by rw[h1];decide),h1];refine ax ?_;exact af (bj (bP (aY (fB rfl rfl rfl))))
    .have hz:iQ l (k'+1)=0:=by
      rw[C,ai];simpa[AD] using hp
     refine ag ?_;exact af (aW (k'+1+1,_) (au eH) ⟨oM,gZ hz⟩ oM)
  .have bt:¬ k<l.length:=s0 h
   exact⟨⟨nx,au eH⟩,λj hj=>hinv j oG⟩
 .rintro s ⟨⟨nx,hg⟩,X⟩
  have mf:∀ f∈l,eF f=0:=λf hf=>by
   let⟨j,hj⟩:=cV hf;have cW:=(bQ.1 hj).1;have h1:=X j cW;rw[iQ,hj] at h1;dsimp only at h1;by_cases h2:eF f=0
   .exact h2
   .rw[ai h2] at h1;exact absurd h1 h2
  have hc:=hc mf;have r8:(range l.length).find? (λi=>iQ l i !=0)=none:=KW λj hj=>by simp[X j hj]
  refine⟨_,hg,aG (aA ?_)⟩;clear hg;refine ax ?_
  refine af (cw (λs=>(∃ nx,aP prog s ⟨aD [],λ_=>none,nx⟩)/\∀ j,j<l.length->sA l j=false) (eB (α:=Nat×Nat) (λs=>⟨aD [(0,bS l),(40,bS l),(41,I l.length),(42,I s.1)],λ_=>none,s.2⟩)
   (λs=>s.1<=l.length/\∀ j,j<s.1->sA l j=false) (λs=>l.length - s.1) (0,nx) (au eH) ⟨Nat.zero_le _,λj hj=>by omega⟩ ?_) ?_)
  .rintro⟨k,nx⟩ ⟨hk,hinv⟩;dsimp only at hk hinv ⊢;refine SS ?_;refine af ⟨_,rfl,λh=>?_,λh=>?_⟩
   .have ao:k<l.length:=s0 h
    clear h;let⟨f,hf⟩:=s3 l k ao
    have OS:=OS (hc f (bD hf));have J:sA l k= !tU f l:=by rw[sA,hf]
    refine aA (cz ?_);refine af ⟨_,gd (i:=nx) (cs:=aL f) (e:=48) r9 (l:=[(0,bS l),(40,bS l),(41,I l.length),(42,I k),(7,I k),(8,.pt (aL f))]) ⟨rfl,rfl,rfl,rfl,rfl,mV,aa⟩,al ?_⟩;generalize tU f l=cb at OS J;refine bh ?_;refine af (aB rfl (λhp=>al ?_) λhp=>cB ?_)
    .have J:sA l k=true:=by rw[J];simpa using hp
     have hr:dK l=(↑k,82):=by
      rw[dK,ai U,r8,KV ao J hinv]
     rw[hr];refine ax ?_;exact af (bj (bP (aY (fB rfl rfl rfl))))
    .have J:sA l k=false:=by rw[J];simpa using hp
     refine ag ?_;refine af (aW (k+1,_) (au eH) ⟨oM,λj hj=>?_⟩ oM);by_cases e:j=k
     .subst e;exact J
     .exact hinv j (by dsimp only at hj;omega)
   .have bt:¬ k<l.length:=s0 h
    exact⟨⟨nx,au aa⟩,λj hj=>hinv j oG⟩
  .rintro s ⟨⟨nx,hg⟩,Tq⟩
   have hr:dK l=(0,0):=by
    rw[dK,ai U,r8,KW Tq]
   rw[hr];refine⟨_,hg,al ?_⟩;refine ag ?_;exact af (fB rfl rfl rfl)
section
def fQ(n:Int):Prop:= -1000000000<=n/\n<=1000000000
def fQ.i{n:Int}(h:fQ n):i64 n:=by unfold fQ at h;unfold i64;omega
structure Dr(x:cq):Prop where
 to:fQ x.to
 a:fQ x.a
 b:fQ x.b
 n:fQ x.n
 args:∀ r∈x.args,fQ r
 len:x.args.length<=1200
variable{l:List Int}
def z1{r:Int}(hl:l.length<=1200)(h:lb l r):fQ r:=by unfold lb at h;unfold fQ;omega
def gN:fQ 0:=by unfold fQ;omega
def pF{l:List Int}(h:l.length=0):(∀ r∈l,fQ r)/\l.length<=1200:=by
 cases l with
 |nil=>exact⟨oS,oS⟩
 |cons a l=>simp at h
def QM{r want of:Int}(hl:l.length<=1200)(h:og l r want of=true):fQ r:=by
 by_cases C:want=0
 .rw[og,bi C] at h;have:r=0:=s0 h
  rw[this];exact gN
 .exact z1 hl (LA h C)
def aiB:(nI++ko).all (λx=>decide (-1000000000<=x.2.low)&&decide (x.2.high<=1000000000))=true:=by decide
def XT{x:cq}{s:Shape}(hl:l.length<=1200)(hm:(x.op,s)∈nI\/(x.op,s)∈ko)(h:rC l x s=true):Dr x:=by
 have hs:=bK.1 aiB (x.op,s) (mem_append.2 hm);simp[aJ,decide_eq_true_eq] at hs;unfold rC at h;simp[aJ] at h;let⟨h1,h2,M,C,U⟩:=h;have hn:fQ x.n:=by have:=kC.1 U;unfold fQ;omega
 have J:(∀ r∈x.args,fQ r)/\x.args.length<=1200:=by
  unfold tK at C;split at C
  .rw[aJ] at C;have:=kC.1 C.1;exact⟨λr hr=>z1 hl (vg C.2 r hr),oG⟩
  .split at C
   .rw[aJ] at C;have:(x.args.length:Int)=1:=s0 C.1
    exact⟨λr hr=>z1 hl (vg C.2 r hr),oG⟩
   .exact pF (by have:(x.args.length:Int)=0:=s0 C
                 omega)
 exact⟨QM hl h1,QM hl h2,QM hl M,hn,J.1,J.2⟩
variable{f:az}
def akH{b:Int}{ahead:Nat}{x:cq}{phis:Bool}(hl:f.aj.length<=1200)(hs:∀ k∈f.a6,k≠0)(lx:f.a6.length<=60)(ha:ahead<=1200)(h:kG f b x phis ahead=true):Dr x:=by
 unfold kG at h;have J:lW x=true->(∀ r∈x.args,fQ r)/\x.args.length<=1200:=λh=>pF (by unfold lW at h;simp at h;simp[h]);split at h
 .simp only[aJ,eb] at h;let⟨h1,h2,C,M,h5⟩:=h;exact⟨by rw[h1];exact gN,z1 hl (kE oG),by rw[C];exact gN,by rw[M];exact gN,(J h5).1,(J h5).2⟩
 split at h
 .simp only[aJ,eb] at h;let⟨h1,h2,C,M⟩:=h;let⟨X,g2,U⟩:=It hs M;exact⟨z1 hl X,by rw[h1];exact gN,by rw[h2];exact gN,by unfold fQ;omega,(J C).1,(J C).2⟩
 split at h
 .simp only[aJ,eb] at h;let⟨h1,h2,C,M⟩:=h;let⟨X,g2,U⟩:=It hs M;exact⟨by rw[h1];exact gN,z1 hl X,by rw[h2];exact gN,by unfold fQ;omega,(J C).1,(J C).2⟩
 split at h
 .simp only[aJ,eb] at h;let⟨_,_,U,g4,g5,g6,g7,g8⟩:=h;have hk:dc f.aj x.to≠0:=λe=>by simp[fU,e] at U
  refine⟨z1 hl (nE U),by rw[g4];exact gN,by rw[g5];exact gN,by rw[g6];exact gN,λr hr=>?_,oG⟩
  have:bm (dc f.aj r) (dc f.aj x.to)=true:=by
   simp only[Bool.not_eq_true',any_eq_false] at g8;simpa using g8 r hr
  rw[eb] at this;exact z1 hl (kE (by rw[this];exact hk))
 .rw[aJ] at h;cases tu:gl nI x.op with
  |none=>rw[tu] at h;simp at h
  |some s=>rw[tu] at h;exact XT hl (.inl (CH tu)) h.2
abbrev bW(w:ByteArray):W8:=w.data.toList
def aoo(s:ByteArray):∀ (n i:Nat) (r:List UInt8),s.size - i=n->ByteArray.toList.loop s i r=r.reverse++s.data.toList.drop i:=by
 intro n
 induction n with
 |zero=>
  intro i r h;unfold ByteArray.toList.loop;rw[ai oG,drop_eq_nil_of_le (by show s.data.size<=i;have:s.size=s.data.size:=rfl;omega)];simp
 |succ n ih=>
  intro i r h;rw[ByteArray.toList.loop,bi oG,ih (i+1) _ oG];have hi:i<s.data.toList.length:=by show i<s.data.size;have:s.size=s.data.size:=rfl;omega
  have h2:i<s.data.size:=hi;rw[drop_eq_getElem_cons hi]
  have:s.get! i=s.data.toList[i]:=by
   show s.data[i]! =_;rw[getElem!_pos s.data i h2];rfl
  rw[this];simp
def ym(s:ByteArray):s.toList=s.data.toList:=by
 rw[ByteArray.toList,aoo s _ 0 [] rfl];simp
def Ab{a b:ByteArray}(h:bW a=bW b):a=b:=by
 let⟨⟨l⟩⟩:=a;let⟨⟨m⟩⟩:=b;simp at h;simp[h]
def mj(w:ByteArray):Prop:=w.size<=120/\Dp (bW w)
variable{s:ByteArray}
def KQ{c:UInt8}(h:c∈bW s):(c.toNat:Int)∈dO s:=mem_map_of_mem (f:=λc=>(c.toNat:Int)) h
def R1(h:kZ s=true):mj s:=by
 unfold kZ at h;simp[aJ,Bool.not_eq_true',any_eq_false] at h;have h1:=kC.1 h.1;refine⟨oG,λhc=>?_,λhc=>?_⟩
 .exact absurd (h.2 _ (KQ hc)) oC
 .exact absurd (h.2 _ (KQ hc)) oC
def R2(h:isName s=true):mj s:=by
 unfold isName at h;simp[aJ,Bool.not_eq_true',any_eq_false] at h;have h1:=kC.1 h.1;refine⟨oG,λhc=>?_,λhc=>?_⟩
 .exact absurd (h.2 _ (KQ hc)) oC
 .exact absurd (h.2 _ (KQ hc)) oC
def FZ(h:s.toList=[]):mj s:=by
 rw[ym] at h;refine⟨?_,?_⟩
 .have:s.size=(bW s).length:=rfl;rw[this];rw[bW,h];simp
 .rw[bW,h];simp[Dp]
structure SK(x:End):Prop where
 kind:1<=x.kind/\x.kind<=9
 a:fQ x.a
 b:fQ x.b
 to:fQ x.to
 ei:fQ x.ei
 others:fQ x.others
 args:∀ r∈x.args,fQ r
 len:x.args.length<=1200
 ins:Dr x.ins
 aK:x.aK.length<=7
 wh:∀ w∈x.aK,fQ w.to/\isName w.name=true
 name:mj x.name
variable{x:End}
def amY(h:xc x=true):(x.kind=0/\x.a=0/\x.b=0/\x.to=0/\x.ei=0/\x.others= -1)/\x.args.length=0/\x.aK.length=0/\x.name.toList=[]/\Dr x.ins:=by
 simp only[xc,aJ,decide_eq_true_eq,BB,beq_iff_eq] at h;let⟨h1,h2,J,M,U,X,h7,h8,h9,qk,uY,wC,yd,C,WB⟩:=h;have:=pF (l:=x.ins.args) oG;exact⟨⟨h1,h2,J,M,U,h7⟩,oG,oG,X,by rw[uY];exact gN,by rw[wC];exact gN,by rw[yd];exact gN,by rw[C];exact gN,this.1,this.2⟩
def ahp{x:End}(hb:f.blocks.length<=1200)(h:mu f x=true):x.aK.length<=7/\(∀ w∈x.aK,fQ w.to/\isName w.name=true)/\fQ x.others:=by
 let⟨h1,h2,J⟩:=KZ h;refine⟨h1,λw C=>⟨by have:=h2 w C;unfold fQ;omega,?_⟩,?_⟩
 .rw[mu,aJ] at h;let⟨i,hi⟩:=cV C;have:=bK.1 h.1 (w,i) (mem_zipIdx_iff_getElem?.2 hi);simp[qG,aJ] at this;exact this.1
 .by_cases h0:0<=x.others
  .have:=J h0;unfold fQ;omega
  .rw[mu,aJ,aJ,Bool.or_eq_true] at h;rcases h.2.2 with h|h
   .have:x.others= -1:=s0 h
    unfold fQ;omega
   .rw[cS,kC] at h;unfold fQ;omega
def akI(hl:f.aj.length<=1200)(qZ:f.blocks.length<=1200)(hr:se f=true)(h:gD f x=true):SK x:=by
 have X:∀ {r:Int},lb f.aj r->fQ r:=λh=>z1 hl h;rw[gD,aJ] at h;let⟨h,hb⟩:=h;have hb:=amY hb;have U:∀ {t:Int},cS f t=true->fQ t:=λh=>by rw[cS,kC] at h;unfold fQ;omega
 have CE:fQ (-1):=by unfold fQ;omega
 have hh:=ahp (x:=x) qZ;let⟨kind,a,b,to,ei,name,ins,args,aK,others⟩:=x;simp only[fL] at h hb;by_cases h1:kind=1
 .subst h1;simp only[if_true] at h hb;let⟨⟨b1,b2,b3,b4,b5,b6⟩,b7,b8,b9,px⟩:=hb;have M:aK=[]:=length_eq_zero_iff.1 b8;subst M b2 b3 b5 b6;exact⟨(⟨oC,oC⟩:(1:Int)<=1/\(1:Int)<=9),gN,gN,U h,gN,CE,(pF b7).1,(pF b7).2,px,oS,oS,FZ b9⟩
 by_cases h2:kind=2
 .subst h2;simp only[Int.reduceEq,if_false,if_true,aJ,eb] at h hb;let⟨⟨b1,b2,b3,b4,b5,b6⟩,b7,b8,b9,px⟩:=hb;have M:aK=[]:=length_eq_zero_iff.1 b8;subst M b3 b6;exact⟨(⟨oC,oC⟩:(1:Int)<=2/\(2:Int)<=9),X (kE (l:=f.aj) (r:=a) oG),gN,U h.2.1,U h.2.2,CE,(pF b7).1,(pF b7).2,px,oS,oS,FZ b9⟩
 by_cases C:kind=3
 .subst C;simp only[Int.reduceEq,if_false,if_true] at h hb;let⟨⟨b1,b2,b3,b4,b5,b6⟩,b7,b8,b9,px⟩:=hb;have M:aK=[]:=length_eq_zero_iff.1 b8;subst M b3 b4 b5 b6;refine⟨(⟨oC,oC⟩:(1:Int)<=3/\(3:Int)<=9),?_,gN,gN,gN,CE,(pF b7).1,(pF b7).2,px,oS,oS,FZ b9⟩;split at h
  .rename_i hc;rw[eb] at h;exact X (kE (by rw[h];exact hc.1))
  .rw[eb] at h;show fQ a;rw[h];exact CE
 by_cases J:kind=4
 .subst J;simp only[Int.reduceEq,if_false,if_true] at h hb;let⟨⟨b1,b2,b3,b4,b5,b6⟩,b7,b8,b9,px⟩:=hb;have M:aK=[]:=length_eq_zero_iff.1 b8;subst M b2 b3 b4 b5 b6;exact⟨(⟨oC,oC⟩:(1:Int)<=4/\(4:Int)<=9),gN,gN,gN,gN,CE,(pF b7).1,(pF b7).2,px,oS,oS,R2 h⟩
 by_cases h5:kind=5
 .subst h5;simp only[Int.reduceEq,if_false,if_true,aJ] at h hb;let⟨⟨b1,b2,b3,b4,b5,b6⟩,b7,b8,b9,px⟩:=hb;let⟨h1,h2,C,J⟩:=h;let⟨g1,g2,g3⟩:=hh J;subst b2 b3 b5;refine⟨(⟨oC,oC⟩:(1:Int)<=5/\(5:Int)<=9),gN,gN,U C,gN,g3,(pF b7).1,(pF b7).2,?_,g1,g2,FZ b9⟩;cases tu:gl ko ins.op with
  |none=>rw[tu] at h1;simp at h1
  |some s=>rw[tu] at h2;exact XT hl (.inr (CH tu)) h2
 by_cases h6:kind=6
 .subst h6;simp only[Int.reduceEq,if_false,if_true,aJ,decide_eq_true_eq,Bool.or_eq_true,eb] at h hb;let⟨⟨b1,b2,b3,b4,b5,b6⟩,b7,b8,b9,px⟩:=hb;let⟨h1,h2,C,J,h5,h6⟩:=h;let⟨g1,g2,g3⟩:=hh h6;subst b3 b5;refine⟨(⟨oC,oC⟩:(1:Int)<=6/\(6:Int)<=9),?_,gN,U h5,gN,g3,λr hr=>X (vg C r hr),?_,px,g1,g2,R1 h1⟩
  .show fQ a;rcases J with rfl|J
   .exact CE
   .exact X (nE J)
  .show args.length<=1200;omega
 by_cases h7:kind=7
 .subst h7;simp only[Int.reduceEq,if_false,if_true,aJ,decide_eq_true_eq,eb] at h hb;let⟨⟨b1,b2,b3,b4,b5,b6⟩,b7,b8,b9,px⟩:=hb;let⟨h1,h2,C,J,h5⟩:=h;have M:aK=[]:=length_eq_zero_iff.1 b8;subst M b3 b5 b6;refine⟨(⟨oC,oC⟩:(1:Int)<=7/\(7:Int)<=9),X (kE (l:=f.aj) (r:=a) oG),gN,U h5,gN,CE,λr hr=>X (vg C r hr),?_,px,oS,oS,R1 h1⟩;show args.length<=1200;omega
 by_cases h8:kind=8
 .subst h8;simp only[Int.reduceEq,if_false,if_true,aJ,eb] at h hb;let⟨⟨b1,b2,b3,b4,b5,b6⟩,b7,b8,b9,px⟩:=hb;let⟨h1,h2,C,J,h5⟩:=h;let⟨g1,g2,g3⟩:=hh h5;exact⟨(⟨oC,oC⟩:(1:Int)<=8/\(8:Int)<=9),X (kE (l:=f.aj) (r:=a) oG),X (nE h2),U C,U J,g3,(pF b7).1,(pF b7).2,px,g1,g2,FZ b9⟩
 by_cases h9:kind=9
 .subst h9;simp only[Int.reduceEq,if_false,if_true,aJ,eb] at h hb;let⟨⟨b1,b2,b3,b4,b5,b6⟩,b7,b8,b9,px⟩:=hb;let⟨h1,h2,C⟩:=h;have M:aK=[]:=length_eq_zero_iff.1 b8;subst M b3 b5 b6;refine⟨(⟨oC,oC⟩:(1:Int)<=9/\(9:Int)<=9),X (kE (l:=f.aj) (r:=a) ?_),gN,U C,gN,CE,(pF b7).1,(pF b7).2,px,oS,oS,FZ b9⟩;rw[h2];intro e;simp[se,e,h1] at hr
 .simp only[h1,h2,C,J,h5,h6,h7,h8,h9,if_false] at h;cases h
end
def iq(b:bI):Bool:=decide (b.fin.kind=6)||decide (b.fin.kind=7)
def cU(bs:List bI):List ByteArray:=(bs.filter iq).map (·.fin.name)
def PG(bs:List bI)(b:bI):cU (bs++[b])=cU bs++if iq b then [b.fin.name] else []:=by
 unfold cU;rw[List.filter_append,List.map_append];cases h:iq b<;>simp[h]
def zL(bs:List bI):(cU bs).length<=bs.length:=by
 rw[cU,length_map];exact length_filter_le _ _
def Zo{σ:D->D}(h:∀ n,sub σ (.s n)=.s n)(l:List ByteArray):(l.map S).map (sub σ)=l.map S:=by
 rw[map_map];exact map_congr_left λc _=>h _
def Vw{f:az}(dd:f.blocks.length<=1000000):aH prog 65 [.agg (aL f)] (fT (cU f.blocks)):=by
 refine bx (fo f65) (.cons (.agg (gS f)) .nil) (rA _) ?_;refine aA (ag ?_);refine af (br (cH [(0,aL f,48)] eH (l:=[(1,.pt (aL f))]) eH) (aA ?_));refine SS ?_;refine af ⟨_,.oY _ _ _ 3 9 rfl,aG (aA ?_)⟩;refine aQ ?_
 refine af (cw (λs=>∃ r nx,aP prog s ⟨aD [(3,.rs r 0 (cU f.blocks).length)],bA [(r,.cells ((cU f.blocks).map S) 9)],nx⟩) (eB (α:=Nat×Nat×Nat)
  (λs=>⟨aD [(3,.rs s.2.1 0 (cU (f.blocks.take s.1)).length),(7,dz f.blocks),(8,I f.blocks.length),(9,I s.1)],bA [(s.2.1,.cells ((cU (f.blocks.take s.1)).map S) 9)],s.2.2⟩)
  (λs=>s.1<=f.blocks.length/\s.2.1<s.2.2) (λs=>f.blocks.length - s.1) (0,1,2)
  (bp eH eH) ⟨Nat.zero_le _,oC⟩ ?_) ?_)
 .rintro⟨k,r,nx⟩ ⟨hk,hr⟩;dsimp only at hk hr ⊢;refine SS ?_;refine af ⟨_,rfl,λh=>?_,λh=>?_⟩
  .have ao:k<f.blocks.length:=s0 h
   clear h;let⟨b,hb⟩:=s3 f.blocks k ao
   have C:cU (f.blocks.take (k+1))=cU (f.blocks.take k)++if iq b then [b.fin.name] else []:=by
    rw[take_add_one,hb, <- PG];rfl
   have nv:(cU (f.blocks.take k)).length<=1000000:=by
    have:=zL (f.blocks.take k);have:(f.blocks.take k).length<=f.blocks.length:=length_take_le' _ _;omega
   have M:iq b=(decide (b.fin.kind=6)||decide (b.fin.kind=7)):=rfl;generalize cU (f.blocks.take k)=cs at*
   have J:bA [(r,Row.cells (cs.map S) 9)] r=some (.cells (cs.map S) 9):=by simp[bA]
   refine aA (aQ ?_);refine af ⟨_,mq (i:=nx) (cs:=cE b) (e:=59) r9 (l:=[(3,.rs r 0 cs.length),(7,dz f.blocks),(8,I f.blocks.length),(9,I k),(5,.pt (cE b))]) ⟨yp oG,rfl,rfl,rfl,mV,aa⟩ (ml:=[(r,.cells (cs.map S) 9)]) ⟨RH oG (ay oG (ay oG J)) (congrArg (Row.cells · 9) (Zo (λ_=>rfl) cs)),aa⟩,al ?_⟩;refine cJ ?_;refine ag ?_;have aF:=J;refine af (aB rfl (λhp=>?_) λhp=>?_)
   .have hc:iq b=true:=by
     rw[M];revert hp;cases U:(b.fin.kind==6)<;>simp_all
    rw[bi hc] at C;refine kU (ek ?_);apply af;show aE prog iV (Z tV 7) false [] _ (Z tV 7).toList _ [];refine ag ?_;refine af (aW (k+1,nx+1+1,nx+1+1+1) ?_ ⟨oM,?_⟩ oM)
    .dsimp only;rw[C];refine bp ⟨?_,rfl,rfl,rfl,aa⟩ ⟨r9.trans (by simp;rfl),aa⟩;rw[length_append];rfl
    .dsimp only;omega
   .have hc:iq b=false:=by
     rw[M];revert hp;cases U:(b.fin.kind==6)<;>simp_all
    rw[hc,ai oS,append_nil] at C;refine cB (ag ?_);refine af (aW (k+1,r,nx+1) ?_ ⟨oM,?_⟩ oM)
    .dsimp only;rw[C];exact au eH
    .dsimp only;omega
  .have X:¬ k<f.blocks.length:=s0 h
   have:k=f.blocks.length:=by omega
   subst this;rw[take_length];exact⟨r,nx,au eH⟩
 .rintro s ⟨r,nx,hg⟩;refine⟨_,hg,aA ?_⟩;refine ag ?_;refine af (br (gd (i:=r) (cs:=(cU f.blocks).map S) (e:=9) (by simp[bA]) (l:=[(2,fT (cU f.blocks))]) ⟨?_,aa⟩) (aC rfl rfl));exact(lS (by rw[c9];simp)).trans oS
def PO{P:Program}{Y:iu}{rf:Bool}{Q:Exit->St->Prop}{st:St}{b:Code}{c:Operand}{x y:Code}(hc:opd st.env c=.ub)(ht:AW P Y rf (.seq x b) Q st)(hf:AW P Y rf (.seq y b) Q st):AW P Y rf (.seq (.cond c x y) b) Q st:=aaC hc ht hf
def k91{l:List Int}(hl:l.length<=1000000):aH prog 91 [jW l] (jW l):=by
 refine bx (fo f91) (.cons (qq l) .nil) (qq l) ?_;refine ws (SS ?_);cases l with
 |nil=>
  refine af (aG (al (aI (ki (v:=.sl [] 0) rfl) aM aa (aI (MY rfl) aM GC (af (PO rfl (aG (aA ?_)) (cI (aA ?_))))))))
  .refine SS ?_;exact af (br (yk (n0:=2) rfl) (de (aC rfl rfl)))
  .have C:(([]:List Int).map U8).take (0*1)=[]:=rfl;refine ag ?_;refine eT (eQ rfl rfl rfl OX c5 (iH C) rfl) aM ⟨GC,rfl,oS,oC,rfl,oC,oC,oS⟩ (SS ?_);refine af (br (gd (i:=1) rfl (l:=[(2,jW [])]) ⟨?_,aa⟩) (aC rfl rfl));exact(lS (by simp[c5])).trans oS
 |cons x J=>
  have M:(x::J).length≠0:=by simp
  generalize x::J=l at*
  have C:(l.map U8).take (l.length*1)=l.map U8:=cX oS;refine af (aG (al (aI (ki (v:=.sl _ _) rfl) aM aa (aI (MZ rfl M) aM GC (af (sT (cI (aA ?_))))))));refine ag ?_;refine eT (eQ rfl rfl rfl OX c5 (iH C) rfl) aM ⟨GC,rfl,oS,oC,rfl,by unfold maxLen;omega,by rw[b5];omega,oS⟩ (SS ?_);refine af (br (gd (i:=1) rfl (l:=[(2,jW l)]) ⟨?_,aa⟩) (aC rfl rfl));exact(lS (by simp[c5])).trans oS
def Vy{l:List ByteArray}(hl:l.length<=1000000):aH prog 92 [fT l] (fT l):=by
 refine bx (fo f92) (.cons (rA l) .nil) (rA l) ?_;refine ws (SS ?_);cases l with
 |nil=>
  refine af (aG (al (aI (ki (v:=.sl [] 0) rfl) aM aa (aI (MY rfl) aM DT (af (PO rfl (aG (aA ?_)) (cI (aA ?_))))))))
  .refine SS ?_;exact af (br (yk (n0:=2) rfl) (de (aC rfl rfl)))
  .have C:(([]:List ByteArray).map S).take (0*1)=[]:=rfl;refine ag ?_;refine eT (eQ rfl rfl rfl uP c9 (iH C) rfl) aM ⟨DT,rfl,oS,oC,rfl,oC,oC,oS⟩ (SS ?_);refine af (br (gd (i:=1) rfl (l:=[(2,fT [])]) ⟨?_,aa⟩) (aC rfl rfl));exact(lS (by simp[c9])).trans oS
 |cons x J=>
  have M:(x::J).length≠0:=by simp
  generalize x::J=l at*
  have C:(l.map S).take (l.length*1)=l.map S:=cX oS;refine af (aG (al (aI (ki (v:=.sl _ _) rfl) aM aa (aI (MZ rfl M) aM DT (af (sT (cI (aA ?_))))))));refine ag ?_;refine eT (eQ rfl rfl rfl uP c9 (iH C) rfl) aM ⟨DT,rfl,oS,oC,rfl,by unfold maxLen;omega,by rw[b9];omega,oS⟩ (SS ?_);refine af (br (gd (i:=1) rfl (l:=[(2,fT l)]) ⟨?_,aa⟩) (aC rfl rfl));exact(lS (by simp[c9])).trans oS
def Vz{l:List jf}(hl:l.length<=1000000):aH prog 94 [nX l] (nX l):=by
 refine bx (fo f94) (.cons (mr l) .nil) (mr l) ?_;refine ws (SS ?_);cases l with
 |nil=>
  refine af (aG (al (aI (ki (v:=.sl [] 0) rfl) aM aa (aI (MY rfl) aM JB (af (PO rfl (aG (aA ?_)) (cI (aA ?_))))))))
  .refine SS ?_;exact af (br (yk (n0:=2) rfl) (de (aC rfl rfl)))
  .have C:(([]:List jf).flatMap jX).take (0*2)=[]:=rfl;refine ag ?_;refine eT (eQ rfl rfl rfl VA OY (iH C) rfl) aM ⟨JB,rfl,oS,oC,rfl,oC,oC,oS⟩ (SS ?_);refine af (br (gd (i:=1) (cs:=[]) rfl (l:=[(2,nX [])]) ⟨?_,aa⟩) (aC rfl rfl));exact lS (sz:=2) rfl
 |cons x U=>
  have M:(x::U).length≠0:=by simp
  generalize x::U=l at*
  have C:(l.flatMap jX).take (l.length*2)=l.flatMap jX:=by rw[HV (f:=jX) (sz:=2) (λ_=>rfl),take_length]
  have J:(l.flatMap jX).length=l.length*2:=by clear C M;induction l with|nil=>rfl|cons x l ih=>rw[flatMap_cons,length_append,ih (by simp at hl;omega),length_cons];show 2+l.length*2=_;omega
  refine af (aG (al (aI (ki (v:=.sl _ _) rfl) aM aa (aI (MZ rfl M) aM JB (af (sT (cI (aA ?_))))))));refine ag ?_;refine eT (eQ rfl rfl rfl VA OY (iH C) rfl) aM ⟨JB,rfl,Nat.le_of_eq J.symm,oC,rfl,by unfold maxLen;omega,by rw[b79];omega,oS⟩ (SS ?_);refine af (br (gd (i:=1) (cs:=l.flatMap jX) rfl (l:=[(2,nX l)]) ⟨?_,aa⟩) (aC rfl rfl));exact(lS (by rw[OY,Nat.zero_add];exact J)).trans (by rw[Nat.zero_add];rfl)
end Go.Abs
end
namespace Go.Abs
open List
open Go
def QL:∀ (u:Nat),∀ c∈Lib.decDigits u,48<=c.toNat/\c.toNat<=57:=λu=>by
 induction u using Nat.strongRecOn with
 |_ u ih=>
  intro c hc;rw[Lib.decDigits] at hc;split at hc
  .simp only[mem_cons,not_mem_nil,or_false] at hc;subst hc;rw[UInt8.toNat_ofNat_of_lt' (by simp[UInt8.size];omega)];omega
  .rw[mem_append] at hc;rcases hc with hc|hc
   .exact ih (u / 10) oG c hc
   .simp only[mem_cons,not_mem_nil,or_false] at hc;subst hc;rw[UInt8.toNat_ofNat_of_lt' (by simp[UInt8.size];omega)];omega
def SJ(l:List UInt8):Nat:=l.foldl (λn c=>10*n+(c.toNat - 48)) 0
def XS(u:Nat):SJ (Lib.decDigits u)=u:=by
 induction u using Nat.strongRecOn with
 |_ u ih=>
  rw[Lib.decDigits];split
  .rename_i h;simp only[SJ,foldl_cons,foldl_nil];rw[UInt8.toNat_ofNat_of_lt' (by simp[UInt8.size];omega)];omega
  .rename_i h;have:=ih (u / 10) oG;unfold SJ at this ⊢;rw[foldl_append,this];simp only[foldl_cons,foldl_nil];rw[UInt8.toNat_ofNat_of_lt' (by simp[UInt8.size];omega)];omega
def abb{u v:Nat}(h:Lib.decDigits u=Lib.decDigits v):u=v:=by rw[<- XS u,h,XS]
def aiz(n:Int):∀ c∈Lib.itoa n,c.toNat=45\/(48<=c.toNat/\c.toNat<=57):=λc hc=>by
 unfold Lib.itoa at hc;split at hc
 .rcases mem_cons.1 hc with rfl|hc
  .exact .inl rfl
  .exact .inr (QL _ c hc)
 .exact .inr (QL _ c hc)
def Z1{m n:Int}(h:Lib.itoa m=Lib.itoa n):m=n:=by
 have key:∀ a b:Nat,Lib.decDigits a≠45::Lib.decDigits b:=λa b e=>by
  have:=QL a 45 (by rw[e];simp);revert this;decide
 unfold Lib.itoa at h;split at h<;>split at h
 .have:=abb (cons.inj h).2;omega
 .exact absurd h.symm (key _ _)
 .exact absurd h (key _ _)
 .have:=abb h;omega
def aiA{u:Nat}:∀ (k:Nat),u<10 ^ (k+1)->Lib.nDigits u<=k+1:=λk h=>by
 refine Classical.byContradiction λhn=>?_
 have h1:∀ (j v:Nat),j+1<Lib.nDigits v->10 ^ (j+1)<=v:=by
  intro j
  induction j with
  |zero=>
   intro v hv;refine Classical.byContradiction λhc=>?_;rw[Lib.nDigits_small oG] at hv;omega
  |succ j ih=>
   intro v hv;by_cases C:v<10
   .rw[Lib.nDigits_small C] at hv;omega
   .rw[Lib.nDigits_big C] at hv;have:=ih (v / 10) oG;rw[Nat.pow_succ];omega
 have:=h1 k u oG;omega
def aho(n:Int):Dp (Lib.itoa n):=by
 constructor<;>intro h<;>have:=aiz n _ h<;>revert this<;>decide
def join_eq:∀ l:List W8,Lib.join l [32]=pY l
 |[]=>rfl
 |[w]=>by rw[Lib.join_one];rfl
 |w::v::l=>by
  have ih:=join_eq (v::l);rw[Lib.join_cons] at ih ⊢;rw[pY, <- ih];simp[Lib.joinTail]
def YW:∀ l:List W8,(pY l).length<=(l.map λw=>w.length+1).sum
 |[]=>by simp[pY]
 |[w]=>by simp[pY]
 |w::v::l=>by
  have ih:=YW (v::l);simp[pY,length_append,length_cons,map_cons,sum_cons] at ih ⊢;omega
end Go.Abs
namespace Go.Abs
open List
open Go.Proofs.Tryz
open Go
def RX(l:List Int):Prop:=∀ (i j:Nat) x y,i<=j->l[i]? =some x->l[j]? =some y->x<=y
def awT(l:List Int)(j k:Nat):Prop:=(∀ p q,p<q->q<=k->p≠j->q≠j->l.getD p 0<=l.getD q 0)/\∀ q,j<q->q<=k->l.getD j 0<=l.getD q 0
def aeF(l:List Int)(k:Nat):Prop:=∀ p q,p<=q->q<=k->l.getD p 0<=l.getD q 0
def YG{l:List Int}{j:Nat}(h:j+1<l.length)(i:Nat):(swapAt l j).getD i 0=if i=j then l.getD (j+1) 0 else if i=j+1 then l.getD j 0 else l.getD i 0:=by
 unfold swapAt;simp[dU,getElem?_set,length_set];by_cases e:j=i
 .subst e;rw[bi rfl,bi rfl,bi oG];rfl
 .rw[ai e,ai (show ¬ i=j from λh=>e h.symm)];by_cases e2:j+1=i
  .subst e2;rw[bi rfl,bi rfl,bi h];rfl
  .rw[ai e2,ai (show ¬ i=j+1 from λh=>e2 h.symm)]
def aaY{k:Nat}:∀ {j:Nat} {l:List Int},j<=k->k<l.length->awT l j k->aeF (td l j) k
 |0,l,_,_,h=>λp q J hq=>by
  rw[td];rcases Nat.lt_or_ge p q with g|g
  .by_cases hp:p=0
   .subst hp;exact h.2 q g hq
   .exact h.1 p q g hq hp oG
  .have:p=q:=by omega
   subst this;exact Int.le_refl _
 |j+1,l,hj,hk,h=>by
  rw[td];split
  .rename_i ao;have hs:=YG (l:=l) (j:=j) oG;refine aaY oG (s0 hk) ⟨λp q J hq hp M=>?_,λq hq U=>?_⟩
   .rw[hs,hs,ai hp,ai M];by_cases C:p=j+1
    .rw[bi C,ai oG];exact h.1 j q oG hq oG oG
    .rw[ai C];by_cases e2:q=j+1
     .rw[bi e2];exact h.1 p j oG oG C oG
     .rw[ai e2];exact h.1 p q J hq C e2
   .rw[hs,hs,bi rfl,ai oG];by_cases e2:q=j+1
    .rw[bi e2];omega
    .rw[ai e2];exact h.2 q oG U
  .rename_i X;intro p q J hq;rcases Nat.lt_or_ge p q with g|g
   .by_cases C:p=j+1
    .subst C;exact h.2 q g hq
    .by_cases e2:q=j+1
     .subst e2;by_cases e3:p=j
      .subst e3;omega
      .have:=h.1 p j oG oG oG oG;omega
     .exact h.1 p q g hq C e2
   .have:p=q:=by omega
    subst this;exact Int.le_refl _
def ZK{i:Nat}:∀ {j:Nat} {l:List Int},j<i->j<l.length->(td l j).getD i 0=l.getD i 0
 |0,l,_,_=>rfl
 |j+1,l,h,hl=>by
  rw[td];split
  .rw[ZK oG oP,YG oG,ai oG,ai oG]
  .rfl
def ZL{l:List Int}:∀ k,k<l.length->aeF (qD l k) k/\∀ i,k<i->(qD l k).getD i 0=l.getD i 0
 |0,_=>⟨λp q C hq=>by
  have:p=q:=by omega
  subst this;exact Int.le_refl _,λ_ _=>rfl⟩
 |k+1,hk=>by
  let⟨h1,h2⟩:=ZL (l:=l) k oG;rw[qD];refine⟨aaY (bY _) (s0 hk) ⟨λp q C hq hp J=>h1 p q oG oG,λq hq J=>by omega⟩,λi hi=>?_⟩;rw[ZK hi oP];exact h2 i oG
def agT(l:List Int):RX (rJ l):=λi j x y C hx hy=>by
 let⟨hj,J⟩:=bQ.1 hy;have hl:(rJ l).length=l.length:=Ym l;have h:=(ZL (l:=l) (l.length - 1) oG).1 i j C oG;have e:qD l (l.length - 1)=rJ l:=rfl;rw[e,dU,dU,hx,hy] at h;exact h
def ab8{d:List Int}(hs:RX d):∀ t,t<=d.length->(iF d t).Pairwise (·<·)/\(0<t->∀ x∈iF d t,x<=d.getD (t - 1) 0)
 |0,_=>⟨by simp[iF],λh=>absurd h (Nat.lt_irrefl 0)⟩
 |t+1,ht=>by
  let⟨h1,h2⟩:=ab8 hs t oG
  have hg:∀ i,i<d.length->d[i]? =some (d.getD i 0):=λi hi=>by
   have:=aO hi;rw[dU,this];rfl
  have C:∀ x∈iF d t,x<=d.getD t 0:=λx hx=>by
   have h0:0<t:=by
    cases t with
    |zero=>simp[iF] at hx
    |succ t=>omega
   have a:=h2 h0 x hx;have b:=hs (t - 1) t _ _ oG (hg _ oG) (hg _ oG);omega
  rw[iF];split
  .rw[append_nil];exact⟨h1,λ_ x hx=>by rw[Nat.add_sub_cancel];exact C x hx⟩
  .rename_i J;refine⟨?_,λ_ x hx=>?_⟩
   .rw[pairwise_append];refine⟨h1,oS,λx hx y hy=>?_⟩;rw[mem_singleton] at hy;subst hy
    have h0:0<t:=by
     cases t with
     |zero=>simp[iF] at hx
     |succ t=>omega
    have a:=h2 h0 x hx;have b:=hs (t - 1) t _ _ oG (hg _ oG) (hg _ oG);have c:d.getD t 0≠d.getD (t - 1) 0:=λe=>J ⟨oG,e⟩;omega
   .rw[Nat.add_sub_cancel];rw[mem_append,mem_singleton] at hx;rcases hx with hx|hx
    .exact C x hx
    .rw[hx];exact Int.le_refl _
def ahm{d:List Int}(hs:RX d):(ru d).Pairwise (·<·):=(ab8 hs _ (bY _)).1
def YH(x:End):(Go.Abs.nextR x).Pairwise (·<·):=ahm (agT _)
def aiq{b:Nat}:∀ (l:List Int) (L:Nat->List Int),l.Pairwise (·<·)->(∀ t∈l,0<=t)->(∀ i,(L i).Pairwise (·<·)/\∀ x∈L i,x<(b:Int))->
 ∀ i,(l.foldl (ir b) L i).Pairwise (·<·)/\(∀ x∈l.foldl (ir b) L i,x<(b:Int)+1):=λl=>by
 have key:∀ (l:List Int) (L:Nat->List Int),l.Pairwise (·<·)->(∀ t∈l,0<=t)->∀ i,l.foldl (ir b) L i=L i++(if(i:Int)∈l then [(b:Int)] else []):=λl=>by
  induction l with
  |nil=>intro L _ _ i;simp
  |cons t l ih=>
   intro L hp h0 i;rw[pairwise_cons] at hp;have ht:=h0 t oS;obtain⟨C,rfl⟩:=jy ht;rw[foldl_cons,ih _ hp.2 (λt h=>h0 t (by simp[h]))];unfold ir;simp[eU,up];by_cases e:i=C
   .subst e;rw[bi rfl,ai (λh=>by have:=hp.1 _ h;omega),bi oS,append_nil]
   .rw[ai e];congr 1;have:¬ (i:Int)=C:=by omega
    simp[this]
 intro L hp h0 J i;rw[key l L hp h0 i];let⟨h1,h2⟩:=J i;split
 .refine⟨?_,λx hx=>?_⟩
  .rw[pairwise_append];exact⟨h1,oS,λx hx y hy=>by rw[mem_singleton] at hy;rw[hy];exact h2 x hx⟩
  .rw[mem_append,mem_singleton] at hx;rcases hx with hx|hx
   .have:=h2 x hx;omega
   .omega
 .rw[append_nil];exact⟨h1,λx hx=>by have:=h2 x hx;omega⟩
def K2{bs:List bI}(h0:∀ b∈bs,∀ t∈Go.Abs.nextR b.fin,0<=t):∀ k i,(cY bs k i).Pairwise (·<·)/\∀ x∈cY bs k i,x<(k:Int)
 |0,i=>by simp[cY]
 |k+1,i=>by
  have ih:=K2 h0 k;have e:cY bs (k+1)=sQ bs (cY bs k) k:=by rw[cY,range_succ,foldl_append];rfl
  rw[e];unfold sQ;cases hx:bs[k]? with
  |none=>exact⟨(ih i).1,λx hx=>by have:=(ih i).2 x hx;omega⟩
  |some b=>
   let⟨h1,h2⟩:=aiq (b:=k) (Go.Abs.nextR b.fin) (cY bs k) (YH _) (h0 b (bD hx)) ih i;exact⟨h1,λx hx=>by have:=h2 x hx;omega⟩
def aaZ:∀ {l:List Int} {a k:Nat},l.Pairwise (·<·)->(∀ x∈l,(a:Int)<=x/\x<(k:Int))->l.length<=k - a
 |[],_,_,_,_=>Nat.zero_le _
 |x::l,a,k,hp,h=>by
  rw[pairwise_cons] at hp;have hx:=h x oS;obtain⟨C,rfl⟩:=jy (show 0<=x by omega)
  have:=aaZ (l:=l) (a:=C+1) (k:=k) hp.2 λy hy=>by
   have:=hp.1 y hy;have:=h y (by simp[hy]);omega
  rw[length_cons];omega
end Go.Abs
section
open Go Go.Proofs List
namespace Go.Abs
open Go.Proofs.Tryz
section
structure F0(b:bI):Prop where
 len:b.ins.length<=200
 ins:∀ x∈b.ins,Dr x
 fin:SK b.fin
structure sL(f:az):Prop where
 name:mj f.name
 args:i64 f.args
 aj:f.aj.length<=1200
 a6:f.a6.length<=60
 sigs:f.signals.length<=6
 sig:∀ s∈f.signals,isName s=true
 mh:f.blocks.length<=1200
 cn:∀ b∈f.blocks,F0 b
theorem Fx{f:az}(h:iX f=true):sL f:=by
 have C:=yR h;unfold iX at h;simp only[aJ] at h;let⟨h1,h2,h3,U,h5⟩:=h;unfold od at h1;simp only[aJ] at h1;unfold sC at h2;simp only[aJ,Bool.not_eq_true',decide_eq_false_iff_not,any_eq_false] at h2;refine⟨R1 h1.1,by have:=C.args;unfold i64;omega,C.aj,C.a6.2,oG,λs hs=>s0 (h2.2.2.2.2 s hs),C.mh,λb hb=>?_⟩;let⟨k,hk⟩:=cV hb;have X:k<f.blocks.length:=(bQ.1 hk).1;have he:=bK.1 U k (mem_range.2 X);rw[kD,getD_some hk] at he;simp only[aJ,Bool.not_eq_true',decide_eq_false_iff_not] at he;refine⟨oG,λx hx=>?_,akI C.aj C.mh h1.2.2.1 he.1⟩;let⟨j,hj⟩:=cV hx;have hr:=C.right k b hk j x hj;refine akH C.aj C.a6.1 C.a6.2 ?_ hr;let⟨J,M⟩:=K2 (bs:=f.blocks) (λb hb t ht=>((C.cn b hb).to t ht).1) f.blocks.length k;have:=aaZ (a:=0) J λx hx=>⟨by obtain⟨b,rfl,_⟩:=KY.1 hx;omega,M x hx⟩
 have:=C.mh;omega
def XU(wsq:List ByteArray):bW (la wsq)=DL (wsq.map bW):=by
 rw[la,DL,bW,ByteArray.data_append,Array.toList_append, <- join_eq];rfl
def Rq:∀ ls:List (List ByteArray),bW (gP ls)=DM (ls.map λl=>l.map bW)
 |[]=>rfl
 |l::ls=>by
  have ih:=Rq ls;unfold bW at ih;simp only[gP,DM,List.map_cons,List.flatMap_cons,bW,ByteArray.data_append,Array.toList_append];rw[ih];have:=XU l;unfold bW at this;rw[this];rfl
def LB(l:List ByteArray):Prop:=l≠[]/\l.length<=1210/\∀ w∈l,mj w
variable{n:Int}
def aiC(h:i64 n):(Lib.itoa n).length<=20:=by
 have:∀ u:Nat,u<10 ^ 19->(Lib.decDigits u).length<=19:=λu hu=>by
  rw[Lib.decDigits_length];exact aiA 18 hu
 unfold i64 at h;unfold Lib.itoa;split
 .have:=this n.natAbs oG;simp;omega
 .have:=this n.toNat oG;omega
def Nb(h:i64 n):mj (gv n):=by
 refine⟨?_,by unfold bW gv;simpa using aho n⟩;have:(gv n).size=(Lib.itoa n).length:=by unfold gv;rfl
 have:=aiC h;omega
def MF{l:List Int}(h:∀ n∈l,i64 n):∀ w∈l.map gv,mj w:=λw C=>by
 obtain⟨n,hn,rfl⟩:=mem_map.1 C;exact Nb (h n hn)
def aeL(l:List Int):∀ n∈l.map ky,i64 n:=λn hn=>by
 obtain⟨m,_,rfl⟩:=mem_map.1 hn;exact Fw m
def vH{w:ByteArray}(h:(Nat.ble w.size 120&&(!(bW w).contains 32&& !(bW w).contains 10))=true):mj w:=by
 simp only[aJ,Bool.not_eq_true',contains_eq_mem,decide_eq_false_iff_not] at h;exact⟨bL h.1,h.2.1,h.2.2⟩
def abc:mj DF/\mj TK/\mj TL/\mj Gh/\mj IQ/\mj Lt/\mj qz/\mj ta/\mj GB/\mj y7/\mj DU/\mj Gp:=by
 exact⟨vH oC,vH oC,vH oC,vH oC,vH oC,vH oC,vH oC,vH oC,vH oC,vH oC,vH oC,vH oC⟩
variable{x:cq}
def Rr(h:Dr x):NU x:=λn hn=>by
 unfold AA at hn;simp[mem_cons] at hn;rcases hn with rfl|rfl|rfl|rfl|rfl|hn
 .exact Fw _
 .exact h.to.i
 .exact h.a.i
 .exact h.b.i
 .exact h.n.i
 .exact(h.args n hn).i
def ace{word:ByteArray}(C:mj word)(h:Dr x):LB (nN word x):=by
 refine⟨by simp[nN],?_,λw hm=>?_⟩
 .have:=h.len;simp[nN,AA];omega
 .rcases mem_cons.1 hm with rfl|hm
  .exact C
  .exact MF (Rr h) w hm
def Z4{x:End}(h:SK x):∀ n∈zm x,i64 n:=λn hn=>by
 unfold zm at hn;simp[mem_cons] at hn;rcases hn with rfl|rfl|rfl|rfl|rfl|rfl|hn
 .exact Fw _
 .exact h.a.i
 .exact h.b.i
 .exact h.to.i
 .exact h.ei.i
 .exact h.others.i
 .exact(h.args n hn).i
variable{b:bI}
def amZ(h:F0 b):∀ l∈kF b,LB l:=λl hl=>by
 let⟨wf,wp,wi,wr,wsq,wsg,X,J,we,wn,wt,ww⟩:=abc;unfold kF at hl;simp only[mem_cons,mem_append] at hl;rcases hl with rfl|hl|rfl|hl|hl|hl
 .exact⟨oS,oS,λw C=>by simp at C;subst C;exact X⟩
 .obtain⟨x,hx,rfl⟩:=mem_map.1 hl;exact ace J (h.ins x hx)
 .refine⟨by simp[tc],?_,λw hm=>?_⟩
  .have:=h.fin.len;simp[tc,zm];omega
  .rcases mem_cons.1 hm with rfl|hm
   .exact we
   .exact MF (Z4 h.fin) w hm
 .unfold lZ at hl;split at hl
  .simp at hl
  .simp only[mem_cons,not_mem_nil,or_false] at hl;subst hl
   exact⟨oS,oS,λw C=>by
    simp only[mem_cons,not_mem_nil,or_false] at C;rcases C with rfl|rfl
    .exact wn
    .exact h.fin.name⟩
 .unfold nj at hl;split at hl
  .simp only[mem_cons,not_mem_nil,or_false] at hl;subst hl;exact ace wt h.fin.ins
  .simp at hl
 .obtain⟨x,hx,rfl⟩:=mem_map.1 hl;let⟨M,U⟩:=h.fin.wh x hx
  exact⟨by simp[lG],by simp[lG],λw C=>by
   simp only[lG,mem_cons,not_mem_nil,or_false] at C;rcases C with rfl|rfl|rfl
   .exact ww
   .exact R2 U
   .exact Nb M.i⟩
variable{f:az}
def abd(h:sL f):∀ l∈lY f,LB l:=λl hl=>by
 let⟨M,wp,U,wr,wsq,J,wb,X,we,wn,wt,ww⟩:=abc;rw[lY,Gq,mem_append] at hl;rcases hl with hl|hl
 .simp only[mem_cons,not_mem_nil,or_false] at hl;rcases hl with rfl|rfl|rfl|rfl
  .refine⟨oS,oS,λw C=>?_⟩;simp only[mem_cons,not_mem_nil,or_false] at C;rcases C with rfl|rfl|rfl|rfl|rfl
   .exact M
   .exact h.name
   .unfold wZ;split
    .exact U
    .exact wp
   .exact Nb h.args
   .exact Nb (Fw _)
  .refine⟨oS,by have:=h.aj;simp;omega,λw C=>?_⟩;rcases mem_cons.1 C with rfl|C
   .exact wr
   .exact MF (aeL _) w C
  .refine⟨oS,by have:=h.a6;simp;omega,λw C=>?_⟩;rcases mem_cons.1 C with rfl|C
   .exact wsq
   .exact MF (aeL _) w C
  .refine⟨oS,by have:=h.sigs;simp;omega,λw C=>?_⟩;rcases mem_cons.1 C with rfl|C
   .exact J
   .exact R2 (h.sig w C)
 .let⟨b,hb,hl⟩:=mem_flatMap.1 hl;exact amZ (h.cn b hb) l hl
def akJ{l:List ByteArray}(h:LB l):(la l).size<=150000:=by
 have h1:(la l).size=(bW (la l)).length:=rfl;rw[h1,XU];rw[DL,length_append,length_singleton];have h2:=YW (l.map bW)
 have C:∀ l:List ByteArray,(∀ w∈l,mj w)->((l.map bW).map λw=>w.length+1).sum<=l.length*121:=λl=>by
  induction l with
  |nil=>simp
  |cons a l ih=>
   intro h;have:=ih λw J=>h w (mem_cons_of_mem _ J);have ha:(bW a).length<=120:=(h a oS).1;simp only[map_cons,sum_cons,length_cons];omega
 have:=C l h.2.2;have:=h.2.1;omega
def Z5:∀ {ls:List (List ByteArray)},(∀ l∈ls,LB l)->(gP ls).size<=ls.length*150000
 |[],_=>by simp[gP]
 |l::ls,h=>by
  have:=Z5 λx hx=>h x (mem_cons_of_mem _ hx);have:=akJ (h l oS);simp[gP,ByteArray.size_append,length_cons];omega
def akK(h:F0 b):(kF b).length<=220:=by
 have h1:=h.len;have h2:=h.fin.aK;have C:(lZ b.fin).length<=1:=by unfold lZ;split<;>simp
 have J:(nj b.fin).length<=1:=by unfold nj;split<;>simp
 simp[kF,ud,length_cons,length_append,length_map];omega
def am0(h:sL f):(lY f).length<=300000:=by
 have:∀ bs:List bI,(∀ b∈bs,F0 b)->(bs.flatMap kF).length<=bs.length*220:=λbs=>by
  induction bs with
  |nil=>simp
  |cons b bs ih=>
   intro h;have:=ih λx hx=>h x (mem_cons_of_mem _ hx);have:=akK (h b oS);simp only[flatMap_cons,length_append,length_cons];omega
 have:=this f.blocks h.cn;have:=h.mh;simp only[lY,Gq,length_append,length_cons,length_nil];omega
def aoY(h:sL f):IP f:=by
 refine⟨h.args,by have:=h.aj;omega,by have:=h.a6;omega,by have:=h.sigs;omega,by have:=h.mh;omega,λb hb=>by have:=(h.cn b hb).len;omega,λb hb x hx=>?_,λb hb=>?_,?_⟩
 .have:=(h.cn b hb).ins x hx;exact⟨Rr this,by have:=this.len;omega⟩
 .have:=(h.cn b hb).fin;exact⟨Z4 this,by have:=this.len;omega,Rr this.ins,by have:=this.ins.len;omega,by have:=this.aK;omega,λw C=>(this.wh w C).1.i⟩
 .have h1:=Z5 (abd h);have h2:=am0 h;unfold rH;omega
def D9:List W8->Bool
 |w::k::_=>w==bW GB&&(k==Lib.itoa 6||k==Lib.itoa 7)
 |_=>false
def Fb{w:W8}{l:List W8}(h:(w==bW GB)=false):D9 (w::l)=false:=by
 cases l with
 |nil=>rfl
 |cons k l=>simp only[D9];rw[h];rfl
def SH(n:Int):bW (gv n)=Lib.itoa n:=by simp[bW,gv]
def HQ{α:Type}{p:α->Bool}{l:List α}(h:∀ x∈l,p x=false):l.countP p=0:=by
 rw[countP_eq_zero];intro x hx;rw[h x hx];simp
def ahq(h:F0 b):((kF b).map λl=>l.map bW).countP D9=if iq b then 1 else 0:=by
 have hk:=h.fin.kind
 have e:D9 ((tc b.fin).map bW)=iq b:=by
  simp only[tc,zm,map_cons,D9];rw[SH];have J:ky b.fin.kind=b.fin.kind:=by unfold ky IntKind.wrap;simp[IntKind.signed,IntKind.bits];omega
  rw[J]
  have C:∀ n:Int,(Lib.itoa b.fin.kind==Lib.itoa n)=decide (b.fin.kind=n):=λn=>by
   by_cases e:b.fin.kind=n
   .rw[e];simp
   .rw[decide_eq_false e];exact beq_eq_false_iff_ne.2 λh=>e (Z1 h)
  rw[C,C];simp[iq]
 simp only[kF,map_cons,map_append,countP_cons,countP_append];rw[e,Fb oC,HQ (l:=(ud b).map _),HQ (l:=(lZ b.fin).map _),HQ (l:=(nj b.fin).map _),HQ (l:=(b.fin.aK.map lG).map _)]
 .simp
 .intro l hl;simp only[mem_map] at hl;obtain⟨_,⟨w,_,rfl⟩,rfl⟩:=hl;exact Fb oC
 .intro l hl;obtain⟨x,hx,rfl⟩:=mem_map.1 hl;unfold nj at hx;split at hx
  .simp only[mem_cons,not_mem_nil,or_false] at hx;subst hx;exact Fb oC
  .simp at hx
 .intro l hl;obtain⟨x,hx,rfl⟩:=mem_map.1 hl;unfold lZ at hx;split at hx
  .simp at hx
  .simp only[mem_cons,not_mem_nil,or_false] at hx;subst hx;exact Fb oC
 .intro l hl;simp only[ud,mem_map] at hl;obtain⟨_,⟨x,_,rfl⟩,rfl⟩:=hl;exact Fb oC
def XV(h:sL f):((lY f).map λl=>l.map bW).countP D9=(cU f.blocks).length:=by
 have hb:∀ bs:List bI,(∀ b∈bs,F0 b)->((bs.flatMap kF).map λl=>l.map bW).countP D9=(cU bs).length:=λbs=>by
  induction bs with
  |nil=>intro _;rfl
  |cons b bs ih=>
   intro h;have ih:=ih λx hx=>h x (List.mem_cons_of_mem _ hx);have e:=ahq (h b oS);simp only[List.flatMap_cons,List.map_append,List.countP_append];rw[ih,e];unfold cU;rw[List.filter_cons];split<;>simp;omega
 rw[lY,map_append,countP_append,hb f.blocks h.cn,HQ,Nat.zero_add];intro l hl;unfold Gq at hl;simp only[map_cons,map_nil,mem_cons,not_mem_nil,or_false] at hl;rcases hl with rfl|rfl|rfl|rfl<;>exact Fb oC
def Z6(h:sL f):RZ ((lY f).map λl=>l.map bW):=λl hl=>by
 obtain⟨x,hx,rfl⟩:=mem_map.1 hl;let⟨h1,_,h2⟩:=abd h x hx;refine⟨s0 h1,λw C=>?_⟩;obtain⟨y,hy,rfl⟩:=mem_map.1 C;exact(h2 y hy).2
def XQ{g:az}(hf:sL f)(hg:sL g)(h:rH f=rH g):(lY f).map (λl=>l.map bW)=(lY g).map λl=>l.map bW:=by
 apply YO (Z6 hf) (Z6 hg);rw[<- Rq, <- Rq];exact congrArg bW h
def aiD{g:az}(hf:sL f)(hg:sL g)(h:rH f=rH g):(cU f.blocks).length=(cU g.blocks).length:=by
 rw[<- XV hf, <- XV hg,XQ hf hg h]
end
section
variable{f:az}{nm:ByteArray}
section
variable{to:ByteArray->ByteArray}
def eu(to:ByteArray->ByteArray)(b:bI):bI:=if iq b then { b with fin:={ b.fin with name:=to b.fin.name } } else b
def lC(f:az)(name:ByteArray)(to:ByteArray->ByteArray):az:={ f with name:=name,blocks:=f.blocks.map (eu to) }
def SL(b:bI):(eu to b).ins=b.ins:=by unfold eu;split<;>rfl
def R3(b:bI):(eu to b).fin.kind=b.fin.kind:=by unfold eu;split<;>rfl
def abe(b:bI):nextR (eu to b).fin=nextR b.fin:=by unfold eu;split<;>rfl
def aoq(b:bI):jb (eu to b).fin=jb b.fin:=by unfold eu;split<;>rfl
def Qe(b:bI):lB (eu to b)=lB b:=by unfold eu;split<;>rfl
def aps(b:bI):dD (eu to b).fin=dD b.fin:=by unfold eu;split<;>rfl
def aor(b:bI):iq (eu to b)=iq b:=by unfold iq;rw[R3]
def MG(bs:List bI)(i:Nat):(bs.map (eu to)).getD i kM=eu to (bs.getD i kM):=by
 rw[dU,dU,getElem?_map];cases bs[i]? <;>rfl
def am1(bs:List bI):sQ (bs.map (eu to))=sQ bs:=by
 funext L b;unfold sQ;rw[List.getElem?_map];cases bs[b]? with
 |none=>rfl
 |some x=>simp only[Option.map_some,abe]
def Z7(bs:List bI)(k:Nat):cY (bs.map (eu to)) k=cY bs k:=by unfold cY;rw[am1]
def aos(bs:List bI):eK (bs.map (eu to))=eK bs:=by
 funext s k;unfold eK;rw[List.getElem?_map];cases bs[k]? with
 |none=>rfl
 |some x=>simp only[Option.map_some,abe,aps,Qe]
def aiE(bs:List bI):lU (bs.map (eu to))=lU bs:=by funext s;unfold lU;rw[aos,List.length_map]
def aiF(bs:List bI)(n:Nat):nY (bs.map (eu to)) n=nY bs n:=by
 induction n with
 |zero=>rfl
 |succ n ih=>funext s;simp[nY];rw[aiE,ih]
def aot(bs:List bI)(a:Nat):jH (bs.map (eu to)) a=jH bs a:=by unfold jH;rw[aiF,List.length_map]
def aou(bs:List bI)(s:CS)(b:Nat)(y:cq):vL (bs.map (eu to)) s b y=vL bs s b y:=by
 unfold vL wN;simp only[length_map,Z7,MG,aoq,Qe]
def aov(bs:List bI)(a:Nat):wJ (bs.map (eu to)) a=wJ bs a:=by
 unfold wJ vm;simp only[length_map,aot,MG,Qe,SL];congr 1;funext b;congr 2;congr 1;funext y;exact aou bs _ b y
def aow(bs:List bI)(k:Nat):lD (bs.map (eu to)) k=lD bs k:=by
 unfold lD;rw[<- map_take];generalize bs.take k=l
 induction l with
 |nil=>rfl
 |cons b l ih=>
  simp[map_cons,filter_cons,R3];split
  .simp[map_cons,ih,cons.injEq,and_true];unfold eu;split<;>rfl
  .exact ih
def aox{b:bI}(h:gD f b.fin=true)(hn:iq b=true->kZ (to b.fin.name)=true):gD (lC f nm to) (eu to b).fin=true:=by
 have hb:∀ n,cS (lC f nm to) n=cS f n:=λn=>by simp[cS,lC]
 have hh:∀ x,mu (lC f nm to) x=mu f x:=λx=>by
  unfold mu IT qG;simp[hb]
 have he:∀ x,gD (lC f nm to) x=gD f x:=λx=>by
  unfold gD fL;simp[hb,hh];rfl
 rw[he];unfold eu;split
 .rename_i hc;have C:=hn hc;unfold iq at hc;simp[Bool.or_eq_true,decide_eq_true_eq] at hc;unfold gD at h ⊢;rcases hc with hc|hc
  .simp[fL,hc,Int.reduceEq,if_false,if_true,aJ] at h ⊢;exact⟨⟨C,h.1.2⟩,h.2⟩
  .simp[fL,hc,Int.reduceEq,if_false,if_true,aJ] at h ⊢;exact⟨⟨C,h.1.2⟩,h.2⟩
 .exact h
def am2(h:iX f=true)(h1:kZ nm=true)(hn:∀ b∈f.blocks,iq b=true->kZ (to b.fin.name)=true):iX (lC f nm to)=true:=by
 unfold iX at h ⊢;simp only[aJ] at h ⊢;let⟨C,J,M,U,X⟩:=h;refine⟨?_,J,M,bK.2 λk hk=>?_,bK.2 λk hk=>?_⟩
 .unfold od at C ⊢;simp only[aJ] at C ⊢;refine⟨h1,C.2.1,C.2.2.1,C.2.2.2.1,C.2.2.2.2.1,?_⟩;have:=C.2.2.2.2.2;simpa[lC] using this
 .have hk:k<f.blocks.length:=by simpa[lC] using hk
  have:=bK.1 U k (mem_range.2 hk);unfold kD at this ⊢;have e:(lC f nm to).blocks.getD k kM=eu to (f.blocks.getD k kM):=MG _ _;have e2:lD (lC f nm to).blocks k=lD f.blocks k:=aow _ _;have hm:f.blocks.getD k kM∈f.blocks:=bD (fx hk);simp only[e,e2,SL,R3];simp only[aJ] at this ⊢;refine⟨aox this.1 (hn _ hm),this.2.1,?_⟩;have e3:(eu to (f.blocks.getD k kM)).fin.a=(f.blocks.getD k kM).fin.a:=by unfold eu;split<;>rfl
  rw[e3];exact this.2.2
 .have hk:k<f.blocks.length:=by simpa[lC] using hk
  have:=bK.1 X k (mem_range.2 hk);unfold vq at this ⊢;have e:(lC f nm to).blocks.getD k kM=eu to (f.blocks.getD k kM):=MG _ _
  have e2:vo (lC f nm to)=vo f:=by
   funext b l j;unfold vo lC;simp only[Z7,length_map];rfl
  simp only[e,SL];rw[e2];exact this
def aoy(h:eF f=0)(h1:kZ nm=true)(hn:∀ b∈f.blocks,iq b=true->kZ (to b.fin.name)=true):eF (lC f nm to)=0:=by
 unfold eF at h ⊢;split at h
 .rename_i hf;rw[bi (am2 hf h1 hn)];split at h
  .rename_i hr;rw[bi (by rw[show(lC f nm to).blocks=f.blocks.map (eu to) from rfl,aov];exact hr)]
  .cases h
 .cases h
def checked{f:az}(h:eF f=0):iX f=true:=by
 unfold eF at h;split at h
 .assumption
 .cases h
def agW(bs:List bI):cU (bs.map (eu to))=(cU bs).map to:=by
 unfold cU
 induction bs with
 |nil=>rfl
 |cons b bs ih=>
  simp only[map_cons,filter_cons,aor];split
  .rename_i h;simp only[map_cons,ih,cons.injEq,and_true];rw[eu,bi h]
  .exact ih
end
def AU:ByteArray:=⟨#[95]⟩
def o7(f:az):az:=lC f AU λ_=>AU
def tW(f:az):ByteArray:=rH (o7 f)
def P6(h:eF f=0):eF (o7 f)=0:=aoy h oC λ_ _ _=>by decide
def Q9(h:eF f=0):sL (o7 f):=Fx (checked (P6 h))
def ahn{g:az}(hf:eF f=0)(hg:eF g=0)(h:tW f=tW g):(cU f.blocks).length=(cU g.blocks).length:=by
 have:=aiD (Q9 hf) (Q9 hg) h
 have e:∀ f:az,(cU (o7 f).blocks).length=(cU f.blocks).length:=λf=>by
  show(cU (f.blocks.map (eu _))).length=_;rw[agW,length_map]
 rw[e,e] at this;exact this
end
def jq(l:List az)(sh:List ByteArray)(ca:List (List Int)):List D:=[bS l,fT sh,cr ca]
@[simp] theorem azb (l : List az) (sh : List ByteArray) (ca : List (List Int)) : (jq l sh ca).length = 3 := rfl
def Q6(l:List az)(sh:List ByteArray)(ca:List (List Int)):∀ a∈jq l sh ca,Tr a:=.cons (kV l) (.cons (rA sh) (.cons (nC ca) .nil))
section
variable{κ:Type}[DecidableEq κ]
def mH(fs:List κ)(k:κ):Nat:=fs.idxOf k
def hZ(fs:List κ)(k:κ):Bool:=decide (k∈fs)
def Qt(a s:κ)(fs:List κ):hZ (a::fs) s=(decide (a=s)||hZ fs s):=by
 unfold hZ;by_cases h:a=s
 .subst h;simp
 .have:s∈a::fs↔s∈fs:=by
   constructor
   .intro hm;rcases mem_cons.1 hm with e|e
    .exact absurd e.symm h
    .exact e
   .exact mem_cons_of_mem _
  rw[decide_eq_false h,Bool.false_or];exact decide_eq_decide.2 this
def Qu(a s:κ)(fs:List κ):mH (a::fs) s=if a=s then 0 else mH fs s+1:=by
 rw[mH,idxOf_cons];by_cases h:a=s
 .subst h;simp
 .rw[ai h,beq_eq_false_iff_ne.2 h];rfl
end
def ia(fs:List ByteArray):List (Value×D):=fs.zipIdx.map λx=>(.string x.1,I (x.2:Nat))
def Zu(s:ByteArray):∀ (fs:List ByteArray) (j:Nat),fF (.string s) ((fs.zipIdx j).map λx=>(Value.string x.1,I (x.2:Nat)))=if hZ fs s then some (mH fs s,I ((mH fs s+j:Nat):Int)) else none
 |[],j=>rfl
 |a::fs,j=>by
  have ih:=Zu s fs (j+1);simp only[zipIdx_cons,map_cons,fF];rw[Qt,Qu];by_cases h:a=s
  .subst h;have hv:tk (Value.string a) (.string a)=true:=by show(a.data.toList==a.data.toList)=true;simp
   simp[hv]
  .have hv:tk (Value.string a) (.string s)=false:=beq_eq_false_iff_ne.2 λe=>h (Ab e);simp only[hv,h,decide_false,Bool.false_or,Bool.false_eq_true,if_false];rw[ih];cases hZ fs s with
   |false=>rfl
   |true=>
    simp only[if_true,Option.map_some];rw[show mH fs s+(j+1)=mH fs s+1+j by omega]
def Q7(s:ByteArray)(fs:List ByteArray):fF (.string s) (ia fs)=if hZ fs s then some (mH fs s,I (mH fs s:Nat)) else none:=Zu s fs 0
def ajp(fs:List ByteArray)(s:ByteArray):ia (fs++[s])=ia fs++[(.string s,I (fs.length:Nat))]:=by
 unfold ia;rw[List.zipIdx_append,List.map_append];simp
def aaF{s:ByteArray}{fs:List ByteArray}(h:hZ fs s=false):mG (.string s) (I (fs.length:Nat)) (ia fs)=ia (fs++[s]):=by
 rw[mG,Q7,h,ajp];rfl
def au6{s:ByteArray}:aH prog 112 [S s] (S AU):=by
 refine bx (fo f112) fp (Tr.s _) ?_;refine ws (SS ?_);refine er (SS ?_);exact af (aC rfl rfl)
def Cv{l:List az}{sh:List ByteArray}{ca:List (List Int)}:aH prog 48 [.agg (jq l sh ca)] (I l.length):=by
 refine bx (fo f48) (.cons (.agg (Q6 l sh ca)) .nil) (Tr.s _) ?_;refine aA (ag ?_);refine af (br (cH [(0,jq l sh ca,82)] eH (l:=[(1,.pt (jq l sh ca))]) eH) (al ?_));refine aQ ?_;exact af (aC rfl rfl)
def u9:prog.underlying 9=some .string:=kr
def I6(s:ByteArray):ew prog 9 (.string s)=true:=by simp[ew,u9]
def Nw(fs:List ByteArray):(ia fs).all (λe=>ew prog 9 e.1)=true:=by
 refine bK.2 λe he=>?_;obtain⟨x,_,rfl⟩:=mem_map.1 he;exact I6 _
def ac1:rF prog (qL prog 144)=I 0:=kr
def nU(i:Nat)(cs:List D)(sz:Nat)(m:Mem):Mem:=λj=>if j=i then none else(m j).map (Row.sub (dq i cs sz))
def E'{P:Program}{env:Env}{m:Mem}{nx i:Nat}{cs:List D}{e:TypeId}{l:List (Nat×D)}(hm:m i=some (.cells cs e))(hl:pG l λt=>sub (dq i cs (P.cellsOf e)) (env t)):aP P ⟨env,m,nx⟩ ⟨aD l,nU i cs (P.cellsOf e) m,nx⟩:=
 (aP.freeze env m nx i cs e hm).trans (au hl)
def vw{i j sz:Nat}{cs:List D}{m:Mem}{r:Row}(h:m j=some r)(hj:j≠i)(hr:sP (λk=>k=i) r):nU i cs sz m j=some r:=by
 rw[nU,ai hj,h];exact congrArg some (hr i cs sz rfl)
section
def ahN{X:Nat->Prop}{α:Type}{f:α->List D}(h:∀ x,∀ d∈f x,jG X d)(l:List α){e:TypeId}:sP X (.cells (l.flatMap f) e):=sP.cells λd hd=>by
 let⟨x,_,hx⟩:=mem_flatMap.1 hd;exact h x d hx
variable{X:Nat->Prop}
def azi(x:cq):∀ d∈bU x,jG X d:=λd hd=>by
 simp[bU,mem_cons,not_mem_nil,or_false] at hd;rcases hd with rfl|rfl|rfl|rfl|rfl|rfl<;>first|exact .s _|exact .sl _ _
def ajq(x:End):∀ d∈bq x,jG X d:=λd hd=>by
 simp[bq,mem_cons,not_mem_nil,or_false] at hd;rcases hd with rfl|rfl|rfl|rfl|rfl|rfl|rfl|rfl|rfl|rfl|rfl|rfl|rfl|rfl|rfl<;>first|exact .s _|exact .sl _ _
def ahf(b:bI):∀ d∈cE b,jG X d:=λd hd=>by
 rcases mem_cons.1 hd with rfl|hd
 .exact .sl _ _
 .exact ajq _ d hd
def headD(f:az)(x:D):List D:=[S f.name,B f.iter,I f.args,U8 f.result,jW f.aj,jW f.a6,fT f.signals,x]
variable{f:az}{x:D}
def ahO(h:jG X x):∀ d∈headD f x,jG X d:=λd hd=>by
 simp[headD,mem_cons,not_mem_nil,or_false] at hd;rcases hd with rfl|rfl|rfl|rfl|rfl|rfl|rfl|rfl<;>first|exact .s _|exact .sl _ _|exact h
def Xd:∀ d∈ja,jG X d:=λd hd=>by
 simp[ja,mem_cons,not_mem_nil,or_false] at hd;rcases hd with rfl|rfl|rfl|rfl|rfl|rfl|rfl|rfl<;>first|exact .s _|exact .z
def Grow(m:Mem)(lo hi:Nat)(x:D)(n:Nat)(cs:List D)(e:TypeId):Prop:=(n=0/\cs=[]/\x=.z)\/∃ r,lo<=r/\r<hi/\x=.rs r 0 n/\m r=some (.cells cs e)
variable{m:Mem}{n:Nat}{cs:List D}{e:TypeId}
def Grow.mono{m':Mem}{lo hi C:Nat}(h:Grow m lo hi x n cs e)(hm:∀ j,lo<=j->j<hi->m' j=m j)(hh:hi<=C):Grow m' lo C x n cs e:=by
 rcases h with h|⟨r,h1,h2,J,M⟩
 .exact .inl h
 .exact .inr ⟨r,h1,oG,J,by rw[hm r h1 h2,M]⟩
def Grow.Ho{lo hi C i sz:Nat}{cs':List D}(h:Grow m lo hi x n cs e)(U:hi<=i)(hh:hi<=C)(hr:sP (λk=>k=i) (.cells cs e)):Grow (nU i cs' sz m) lo C x n cs e:=by
 rcases h with h|⟨r,h1,h2,J,M⟩
 .exact .inl h
 .exact .inr ⟨r,h1,oG,J,vw M oG hr⟩
def Grow.aqM{lo hi i:Nat}(h:Grow m lo hi x n cs e)(J:hi<=i):jG (λk=>k=i) x:=by
 rcases h with⟨_,_,rfl⟩|⟨r,h1,h2,rfl,C⟩
 .exact .z
 .exact .rs oG
structure TB(m:Mem)(nx:Nat)(f:az)(x:D)(bs:List bI):Prop where
 r1:m 1=some (.cells ja 48)
 r2:m 2=some (.cells (headD f x) 48)
 lt:2<nx
 gr:Grow m 3 nx x bs.length (bs.flatMap cE) 59
variable{bs:List bI}
def TB.mono{m':Mem}{nx nx':Nat}(h:TB m nx f x bs)(hm:∀ j,j<nx->m' j=m j)(hn:nx<=nx'):TB m' nx' f x bs:=
 ⟨by rw[hm 1 (by have:=h.lt;omega)];exact h.r1,by rw[hm 2 h.lt];exact h.r2,by have:=h.lt;omega,h.gr.mono (λj _ hj=>hm j hj) hn⟩
def TB.Ho{nx nx' i sz:Nat}(h:TB m nx f x bs)(hi:nx<=i)(hn:nx<=nx'):TB (nU i cs sz m) nx' f x bs:=
 ⟨vw h.r1 (by have:=h.lt;omega) (.cells Xd),vw h.r2 (by have:=h.lt;omega) (.cells (ahO (h.gr.aqM hi))),by have:=h.lt;omega,h.gr.Ho hi hn (ahN ahf _)⟩
end
def VC{f:az}{name:ByteArray}{g:FuncId}{fs cs:List D}{to:ByteArray->ByteArray}(ht:Tr (.fn (.func g) fs cs))(uA:∀ X:Nat->Prop,jG X (.fn (.func g) fs cs))(hg:∀ b∈f.blocks,iq b=true->aH prog g (fs++[S b.fin.name]++cs) (S (to b.fin.name)))
 (h1:f.aj.length<=100000) (h2:f.a6.length<=100000) (h3:f.signals.length<=100000) (h4:f.blocks.length<=100000) (h5:∀ b∈f.blocks,b.ins.length<=100000/\(∀ x∈b.ins,x.args.length<=100000)/\b.fin.args.length<=100000/\b.fin.aK.length<=100000/\b.fin.ins.args.length<=100000):
 aH prog 57 [.agg (aL f),S name,.fn (.func g) fs cs] (.agg (aL (lC f name to))):=by
 have kr:=k91 (l:=f.aj) oG;have ks:=k91 (l:=f.a6) oG;have Vy:=Vy (l:=f.signals) oG;refine bx (fo f57) (.cons (.agg (gS f)) (.cons (.s _) (.cons ht .nil))) (.agg (gS _)) ?_;refine aA (ag ?_);refine af ⟨_,mq (i:=0) (cs:=aL f) (e:=48) rfl (l:=[(1,S name),(2,.fn (.func g) fs cs),(3,.pt (aL f)),(6,.rp 1 0)]) ⟨rfl,uA _ _ _ _ rfl,nh,rfl,aa⟩ (ml:=[(1,.cells ja 48)]) eH,al ?_⟩;refine ax ?_;refine er (ax ?_);refine af (c6 (hD [(2,3),(2,4),(2,6),(5,6),(2,7),(5,7),(5,9),(8,9)]) ?_);refine ag ?_;refine wX kr rfl aM (ag ?_);refine wX ks rfl aM (aX ?_);refine bJ bM (aA ?_);refine ag ?_;have tq:∀ i (mg:List D) sz,sub (dq i mg sz) (.fn (.func g) fs cs)=.fn (.func g) fs cs:=λi mg sz=>uA (λk=>k=i) i mg sz rfl;generalize hF:lC f name to=F at*
 have hn:F.name=name:=by rw[<- hF];rfl
 refine af ⟨_,bp (l:=[(2,.fn (.func g) fs cs),(3,.pt (aL f)),(6,.rp 1 0),(7,.rp 2 0)]) eH (ml:=[(1,.cells ja 48),(2,.cells (headD F .z) 48)]) ⟨rfl,by subst hF;rfl,aa⟩,aG (aA ?_)⟩;refine aQ ?_;have He:∀ k,(F.blocks.take k)=(f.blocks.take k).map (eu to):=λk=>by rw[<- hF];exact map_take.symm
 have UX:F.blocks.length=f.blocks.length:=by rw[<- hF];simp[lC]
 refine af (cw (λs=>∃ x m nx,TB m nx F x F.blocks/\aP prog s ⟨aD [(6,.rp 1 0),(7,.rp 2 0)],m,nx⟩) (eB (α:=Nat×D×Mem×Nat)
  (λs=>⟨aD [(2,.fn (.func g) fs cs),(6,.rp 1 0),(7,.rp 2 0),(30,dz f.blocks),(31,I f.blocks.length),(32,I s.1)],s.2.2.1,s.2.2.2⟩)
  (λs=>s.1<=f.blocks.length/\TB s.2.2.1 s.2.2.2 F s.2.1 (F.blocks.take s.1)) (λs=>f.blocks.length - s.1) (0,.z,_,_)
  (au eH) ⟨Nat.zero_le _,rfl,rfl,oM,.inl ⟨rfl,rfl,rfl⟩⟩ ?_) ?_)
 .rintro⟨k,x7,m,nx⟩ ⟨hk,J⟩;dsimp only at hk J ⊢;refine SS ?_;refine af ⟨_,rfl,λh=>?_,λh=>?_⟩
  .have ao:k<f.blocks.length:=s0 h
   clear h;let⟨b,hb⟩:=s3 f.blocks k ao
   have OZ:b∈f.blocks:=bD hb;let⟨uN,uL,jS,G3,Ke⟩:=h5 b OZ;have hgb:=hg b OZ;have eV:F.blocks.take (k+1)=F.blocks.take k++[eu to b]:=by rw[He,He,take_add_one,hb,map_append];rfl
   refine aA (aQ ?_);refine af ⟨_,E' (i:=nx) (cs:=cE b) (e:=59) r9 (l:=[(2,.fn (.func g) fs cs),(6,.rp 1 0),(7,.rp 2 0),(30,dz f.blocks),(31,I f.blocks.length),(32,I k),(9,.pt (cE b))]) ⟨tq _ _ _,lz (by have:=J.lt;omega),lz (by have:=J.lt;omega),rfl,rfl,rfl,mV,aa⟩,al ?_⟩;have OR:TB (nU nx (cE b) (prog.cellsOf 59) _) (nx+1) F x7 (F.blocks.take k):=(J.mono (m':=up (up m nx (some (.cells (bN prog 59) 59))) nx (some (.cells (cE b) 59))) (λj hj=>(aV _ _ oG).trans (aV _ _ oG)) (bY _)).Ho (bY _) oG;have dA:=J.lt;have ave:bN prog 59=_:=z59;rw[ave] at OR;generalize nU nx (cE b) (prog.cellsOf 59) _=m1 at*
   clear J;refine ax ?_;apply er;have aF:∀ {r},up (up m1 (nx+1) r) (nx+1) (some (.cells (cE b) 59)) (nx+1)=some (.cells (jo b.ins::bq b.fin) 59):=aw _ _ _;refine SS ?_;refine dH (lT (d:=.z) (cs':=_) rfl rfl aF rfl rfl) ak (eO V.h V.h bk rfl) (af (aG (aA (aQ ?_))))
   refine af (cw (λs=>∃ m' nx',TB m' (nx+1) F x7 (F.blocks.take k)/\m' (nx+1)=some (.cells (cE b) 59)/\nx+2<=nx'/\aP prog s ⟨aD [(2,.fn (.func g) fs cs),(6,.rp 1 0),(7,.rp 2 0),(9,.pt (cE b)),(10,.rp (nx+1) 0),(30,dz f.blocks),(31,I f.blocks.length),(32,I k)],m',nx'⟩) (eB (α:=Nat×D×Mem×Nat)
    (λs=>⟨aD [(2,.fn (.func g) fs cs),(6,.rp 1 0),(7,.rp 2 0),(9,.pt (cE b)),(10,.rp (nx+1) 0),(30,dz f.blocks),(31,I f.blocks.length),(32,I k),(39,jo b.ins),(40,I b.ins.length),(41,I s.1)],s.2.2.1,s.2.2.2⟩)
    (λs=>s.1<=b.ins.length/\TB s.2.2.1 (nx+1) F x7 (F.blocks.take k)/\s.2.2.1 (nx+1)=some (.cells (s.2.1::bq b.fin) 59)/\Grow s.2.2.1 (nx+2) s.2.2.2 s.2.1 s.1 ((b.ins.take s.1).flatMap bU) 54/\nx+2<=s.2.2.2) (λs=>b.ins.length - s.1) (0,.z,_,_)
    (au eH) ⟨Nat.zero_le _,OR.mono (λj hj=>(aV _ _ oG).trans ((aV _ _ oG).trans (aV _ _ oG))) (bY _),aw _ _ _,.inl ⟨rfl,rfl,rfl⟩,oM⟩ ?_) ?_)
   .rintro⟨j,y0,m',nx'⟩ ⟨hj,Cw,hq,hG,JC⟩;dsimp only at hj Cw hq hG JC ⊢;refine SS ?_;refine af ⟨_,rfl,λh=>?_,λh=>?_⟩
    .have cW:j<b.ins.length:=s0 h
     clear h;let⟨y,hy⟩:=s3 b.ins j cW
     have xW:=xW (l:=y.args) (uL y (bD hy));have ad7:b.ins.take (j+1)=b.ins.take j++[y]:=by rw[take_add_one,hy];rfl
     have tC:((b.ins.take j).flatMap bU).length=j*6:=by
      rw[CG (sz:=6) (λ_=>rfl),length_take];congr 1;omega
     generalize b.ins.take j=l0 at*
     refine ws (aQ ?_);refine er (SS ?_);refine aI (fh rfl r9 rfl V.h) ak (fj V.h V.h rfl) (ag ?_);refine dH (lT (d:=.sl _ _) (cs':=_) rfl rfl r9 rfl rfl) ak (eO V.h V.h bk rfl) (af (gj ?_));have aF:∀ {a C c},up (up (up m' nx' a) nx' C) nx' c (nx+1)=some (.cells (y0::bq b.fin) 59):=ay oG (ay oG (ay oG hq));have kd:(y0::bq b.fin).drop 0=y0::bq b.fin:=rfl;refine aQ ?_;rcases hG with⟨rfl,Kj,rfl⟩|⟨r,qW,AV,rfl,p8⟩
     .apply di (kX rfl rfl V.h V.h (fZ r9 rfl)) ak ⟨V.h,cg,oC,da,(by rw[VD];first|omega|(simp;omega))⟩;have aF:∀ {a C c d e2},up (up (up (up (up m' nx' a) nx' C) nx' c) (nx'+1) d) (nx'+1+1) e2 (nx+1)=some (.cells (.z::bq b.fin) 59):=ay oG (ay oG (ay oG (ay oG (ay oG hq))));refine ag ?_;refine af (ag ?_);refine af (aW (0+1,.rs (nx'+1+1) 0 1,_,nx'+1+1+1) (au eH) ?_ oM);dsimp only;refine⟨oG,Cw.mono (λi hi=>(aV _ _ oG).trans ((aV _ _ oG).trans ((aV _ _ oG).trans ((aV _ _ oG).trans ((aV _ _ oG).trans (aV _ _ oG)))))) (bY _),aw _ _ _,.inr ⟨nx'+1+1,oG,oG,rfl,(aV _ _ oG).trans (r9.trans ?_)⟩,oG⟩;rw[ad7,flatMap_append,Kj];simp;rfl
     .have fJ:∀ {a C c d},up (up (up (up m' nx' a) nx' C) nx' c) (nx'+1) d r=some (.cells (l0.flatMap bU) 54):=ay oG (ay oG (ay oG (ay oG p8)));apply eT (eQ rfl fJ rfl e52 VE (fZ r9 rfl) rfl) aM ⟨ad8,rfl,bL rfl,oC,by rw[tC];omega,by unfold maxLen;omega,by rw[VD];omega,by simp;omega⟩;have aF:∀ {a C c d e1 e2},up (up (up (up (up (up m' nx' a) nx' C) nx' c) (nx'+1) d) r e1) (nx'+1+1) e2 (nx+1)=some (.cells (.rs r 0 j::bq b.fin) 59):=ay oG (ay oG (ay oG (ay oG (ay oG (ay oG hq)))));refine ag ?_;refine af (ag ?_);refine af (aW (j+1,.rs (nx'+1+1) 0 (j+1),_,nx'+1+1+1) (au eH) ?_ oM);dsimp only;refine⟨oG,Cw.mono (λi hi=>(aV _ _ oG).trans ((aV _ _ oG).trans ((aV _ _ oG).trans ((aV _ _ oG).trans ((aV _ _ oG).trans ((aV _ _ oG).trans (aV _ _ oG))))))) (bY _),aw _ _ _,.inr ⟨nx'+1+1,oG,oG,rfl,(aV _ _ oG).trans (r9.trans ?_)⟩,oG⟩;rw[ad7,flatMap_append];simp;rfl
    .have bt:¬ j<b.ins.length:=s0 h
     have:j=b.ins.length:=by omega
     subst this;rw[take_length] at hG;rcases hG with⟨h0,Kj,rfl⟩|⟨r,qW,AV,rfl,p8⟩
     .have lK:b.ins=[]:=length_eq_zero_iff.1 h0;refine⟨up m' (nx+1) (some (.cells (cE b) 59)),nx',Cw.mono (λj hj=>aV _ _ oG) (bY _),aw _ _ _,JC,?_⟩;refine(au (l:=[(2,.fn (.func g) fs cs),(6,.rp 1 0),(7,.rp 2 0),(9,.pt (cE b)),(10,.rp (nx+1) 0),(30,dz f.blocks),(31,I f.blocks.length),(32,I k)]) eH).trans (aP.xq _ _ _ _ _ (λt=>zT _) λi=>?_);by_cases hi:i=nx+1
      .subst hi;refine .inr ⟨_,cE b,59,hq,aw _ _ _,rfl,λk d d' hd jg=>?_⟩;cases k with
       |zero=>
        simp[getElem?_cons_zero,bg,cE] at hd jg;subst hd jg;rw[lK];exact DV
       |succ k=>
        simp[getElem?_cons_succ,cE] at hd jg;rw[hd] at jg;cases jg;exact zT _
      .exact .inl (aV _ _ hi)
     .refine⟨nU r _ (prog.cellsOf 54) m',nx',Cw.Ho oG (bY _),?_,JC,E' p8 ⟨tq _ _ _,lz oG,lz oG,rfl,lz oG,rfl,rfl,rfl,aa⟩⟩;rw[nU,ai oG,hq];show some (Row.cells (sub (dq r (b.ins.flatMap bU) (prog.cellsOf 54)) (.rs r 0 b.ins.length)::bq b.fin) 59)=_;rw[w8,VE,drop_zero,HV (f:=bU) (sz:=6) (λ_=>rfl),take_length];rfl
   .rintro s ⟨m',nx',Cw,hq,JC,U⟩;refine⟨_,U,?_⟩;clear U;have kA:=xW (l:=b.fin.args) jS;have Vz:=Vz (l:=b.fin.aK) oG;have kI:=xW (l:=b.fin.ins.args) Ke;apply c6 (hD [(3,4),(3,5),(3,6),(3,8),(7,8),(3,9),(7,9),(3,10),(7,10),(3,11),(7,11),(7,13),(12,13),(7,14),(12,14)]);have aF:=hq;refine ax ?_;refine wX kA rfl aM (cJ ?_);refine wX kI rfl aM (ax ?_);have aF:∀ {a},up m' (nx+1) a (nx+1)=a:=aw _ _ _;refine ax ?_;have aF:∀ {a C},up (up m' (nx+1) a) (nx+1) C (nx+1)=C:=aw _ _ _;refine aQ ?_;refine bJ bM (fS (λs=>∃ M,TB M (nx+1) F x7 (F.blocks.take k)/\M (nx+1)=some (.cells (cE (eu to b)) 59)/\aP prog s ⟨aD [(2,.fn (.func g) fs cs),(6,.rp 1 0),(7,.rp 2 0),(9,.pt (cE b)),(10,.rp (nx+1) 0),(30,dz f.blocks),(31,I f.blocks.length),(32,I k)],M,nx'⟩) ?_ ?_)
    .refine ws (cJ ?_);refine ag ?_;refine af (aB rfl (λhp=>nH ?_) λhp=>bV ?_)
     .have hc:iq b=true:=by
       show(decide (b.fin.kind=6)||decide (b.fin.kind=7))=true;revert hp;cases h6:(b.fin.kind==6)<;>simp_all
      have kc:=hgb hc;have aF:∀ {a C c},up (up (up m' (nx+1) a) (nx+1) C) (nx+1) c (nx+1)=c:=aw _ _ _;refine ek ?_;refine dH (lT (d:=.s (.string _)) (cs':=_) rfl rfl aF rfl rfl) ak (eO V.h V.h bk rfl) (af ⟨_,Cw.mono (λi hi=>(aV _ _ oG).trans ((aV _ _ oG).trans ((aV _ _ oG).trans (aV _ _ oG)))) (bY _),?_,au eH⟩);rw[eu,bi hc];exact aw _ _ _
     .have hc:¬ iq b=true:=by
       show ¬ (decide (b.fin.kind=6)||decide (b.fin.kind=7))=true;revert hp;cases h6:(b.fin.kind==6)<;>simp_all
      refine⟨_,Cw.mono (λi hi=>(aV _ _ oG).trans ((aV _ _ oG).trans (aV _ _ oG))) (bY _),?_,au eH⟩;rw[eu,ai hc];exact aw _ _ _
    .rintro s ⟨M,Hp,Ol,U⟩;refine⟨_,U,gj ?_⟩;clear U;have lk:(F.blocks.take k).length=k:=by rw[length_take];omega
     have lc:((F.blocks.take k).flatMap cE).length=k*16:=by rw[CG (sz:=16) (λ_=>rfl),lk]
     have aF:=Hp.r2;have kd:(headD F x7).drop (0+7)=x7::[]:=rfl;refine ag ?_;have aF:=Ol;refine aI (gA (vs:=cE _) rfl aF V.h V.h rfl) ak (gB V.h V.h c0) (SS ?_);rcases Hp.gr with⟨h0,Kj,rfl⟩|⟨r,qW,AV,rfl,p8⟩
     .apply di (kX rfl rfl V.h V.h (fZ r9 rfl)) ak ⟨V.h,cg,oC,da,(by rw[O0];first|omega|(simp;omega))⟩;have aF:∀ {a C},up (up M nx' a) (nx'+1) C 2=some (.cells (headD F .z) 48):=ay oG (ay oG Hp.r2);refine ag ?_;refine af (ag ?_);refine af (aW (k+1,.rs (nx'+1) 0 1,_,nx'+1+1) (au eH) ?_ oM);dsimp only;have zw:k=0:=by omega
      subst zw;refine⟨oG,(aV _ _ oG).trans ((aV _ _ oG).trans Hp.r1),rfl,oG,.inr ⟨nx'+1,oG,oG,?_,(aV _ _ oG).trans (r9.trans ?_)⟩⟩
      .rw[eV];rfl
      .rw[eV,flatMap_append,Kj];simp;rfl
     .have fJ:∀ {a},up M nx' a r=some (.cells ((F.blocks.take k).flatMap cE) 59):=ay oG p8;apply eT (eQ rfl fJ rfl e46 O1 (fZ r9 rfl) rfl) aM ⟨ad9,rfl,bL rfl,oC,by rw[lc,lk];omega,by unfold maxLen;omega,by rw[O0];omega,by simp;omega⟩;have aF:∀ {a C c},up (up (up M nx' a) r C) (nx'+1) c 2=some (.cells (headD F (.rs r 0 (F.blocks.take k).length)) 48):=ay oG (ay oG (ay oG Hp.r2));refine ag ?_;refine af (ag ?_);refine af (aW (k+1,.rs (nx'+1) 0 ((F.blocks.take k).length+1),_,nx'+1+1) (au eH) ?_ oM);dsimp only;refine⟨oG,(aV _ _ oG).trans ((aV _ _ oG).trans ((aV _ _ oG).trans Hp.r1)),rfl,oG,.inr ⟨nx'+1,oG,oG,?_,(aV _ _ oG).trans (r9.trans ?_)⟩⟩
      .rw[eV,length_append];rfl
      .rw[eV,flatMap_append];simp;rfl
  .have bt:¬ k<f.blocks.length:=s0 h
   have:k=f.blocks.length:=by omega
   subst this;rw[cX oG] at J;exact⟨x7,m,nx,J,au eH⟩
 .rintro s ⟨x,m,nx,J,U⟩
  have ED:∃ M iK,aP prog s ⟨aD [(6,.rp 1 0),(7,.rp 2 0)],M,iK⟩/\M 1=some (.cells ja 48)/\M 2=some (.cells (aL F) 48):=by
   rcases J.gr with⟨h0,Kj,rfl⟩|⟨r,qW,AV,rfl,p8⟩
   .have lK:F.blocks=[]:=length_eq_zero_iff.1 h0;refine⟨up m 2 (some (.cells (aL F) 48)),nx,U.trans (aP.xq _ _ _ _ _ (λt=>zT _) λi=>?_),(aV _ _ oG).trans J.r1,aw _ _ _⟩;by_cases hi:i=2
    .subst hi;refine .inr ⟨_,aL F,48,J.r2,aw _ _ _,rfl,λk d d' hd jg=>?_⟩
     match k with
     |0|1|2|3|4|5|6=>cases (show some d=some d' from hd.symm.trans jg);exact zT _
     |7=>
      have e1:(headD F .z)[7]? =some .z:=rfl;have e2:(aL F)[7]? =some (dz F.blocks):=rfl;rw[e1] at hd;rw[e2] at jg;cases hd;cases jg;rw[lK];exact DV
     |k+8=>simp[headD] at hd
    .exact .inl (aV _ _ hi)
   .refine⟨nU r _ (prog.cellsOf 59) m,nx,U.trans (E' p8 ⟨lz oG,lz oG,aa⟩),vw J.r1 oG (.cells Xd),?_⟩;rw[nU,ai oG,J.r2];show some (Row.cells (headD F (sub (dq r (F.blocks.flatMap cE) (prog.cellsOf 59)) (.rs r 0 F.blocks.length))) 48)=_;rw[w8,O1,drop_zero,HV (f:=cE) (sz:=16) (λ_=>rfl),take_length];rfl
  let⟨M,iK,Cx,q1,q2⟩:=ED;refine⟨_,Cx,al ?_⟩;clear Cx U;have aF:=q2;refine SS ?_;have aF:=q1;exact dH (jV (cs':=aL _) rfl rfl aF rfl) ak (eO V.h V.h bk (by rfl)) (af (nG (kz (cs:=aL F) (vs:=aL F) rfl rfl AR zz rfl t48 (bL rfl)) rfl))
section
variable{f:az}{l:List az}
def aaG(hl:l.length<=1000000)(h:∀ g∈l,eF g=0)(hf:f∈l):L1 f l:=by
 have C:=checked (h f hf);have M:=yR C
 have J:∀ b∈f.blocks,gD f b.fin=true:=fun b hb=>by
  unfold iX at C;simp only[aJ] at C;let⟨k,hk⟩:=cV hb;have:=bK.1 C.2.2.2.1 k (mem_range.2 (bQ.1 hk).1);rw[kD,getD_some hk] at this;simp only[aJ] at this;exact this.1
 refine⟨hl,by have:=M.mh;omega,λb hb hk=>?_,λb hb hk=>?_,λb hb hk=>?_,λg hg=>?_⟩
 .have:=J b hb;unfold gD at this;rcases hk with hk|hk<;>simp[fL,hk,Int.reduceEq,if_false,if_true,aJ,decide_eq_true_eq] at this<;>exact⟨λr hr=>vg this.1.2.2.1 r hr,by have:=this.1.2.1;omega⟩
 .have:=J b hb;unfold gD at this;simp[fL,hk,Int.reduceEq,if_false,if_true,aJ,decide_eq_true_eq,Bool.or_eq_true,eb] at this;rcases this.1.2.2.2.1 with h1|h1
  .omega
  .exact(nE h1).2
 .have:=J b hb;unfold gD at this;simp[fL,hk,Int.reduceEq,if_false,if_true,aJ,decide_eq_true_eq] at this;exact nE this.1.2.1
 .have:=checked (h g hg);unfold iX od at this;simp[aJ] at this;have:=kC.1 this.1.2.1;split at this<;>omega
structure lF(l:List az):Prop where
 len:l.length<=60
 sd:∀ f∈l,eF f=0
 BL:∀ i,i+1<l.length->Op.bytesLess (qm l i).toList (qm l (i+1)).toList=true
 calls:∀ f∈l,tU f l=true
def FQ{l:List az}(h:(dK l).2=0):lF l:=by
 unfold dK at h;split at h
 .cases h
 .rename_i J;split at h
  .rename_i i hi;have:=find?_some hi;simp only[bne_iff_ne,ne_eq] at this;exact absurd h this
  .rename_i hn;split at h
   .cases h
   .rename_i hc;rw[find?_eq_none] at hn hc
    have h1:∀ i,i<l.length->iQ l i=0:=λi hi=>by
     have:=hn i (mem_range.2 hi);simpa using this
    have C:∀ f∈l,eF f=0:=λf hf=>by
     let⟨i,hi⟩:=cV hf;have:=h1 i (bQ.1 hi).1;rw[iQ,hi] at this;simp only at this;split at this
     .assumption
     .exact this
    refine⟨oG,C,λi hi=>?_,λf hf=>?_⟩
    .have:=h1 (i+1) hi;let⟨f,hf⟩:=s3 l (i+1) hi
     rw[iQ,hf] at this;simp only[C f (bD hf),if_true] at this;have e:qm l (i+1)=f.name:=by rw[qm,hf]
     rw[e];cases hs:AD (qm l i) f.name with
     |false=>unfold AD at hs;simpa using hs
     |true=>
      rw[show i+1 - 1=i by omega,hs] at this;simp at this
    .let⟨i,hi⟩:=cV hf;have:=hc i (mem_range.2 (bQ.1 hi).1);rw[sA,hi] at this;simpa using this
def ZY:∀ a:List UInt8,Op.bytesLess a a=false
 |[]=>rfl
 |x::a=>by
  have:=ZY a;unfold Op.bytesLess;simp[this]
def XP:∀ {a b c:List UInt8},Op.bytesLess a b=true->Op.bytesLess b c=true->Op.bytesLess a c=true
 |[],[],_,h,_=>by simp[Op.bytesLess] at h
 |_::_,[],_,h,_=>by simp[Op.bytesLess] at h
 |_,_::_,[],_,h=>by simp[Op.bytesLess] at h
 |[],_::_,_::_,_,_=>by simp[Op.bytesLess]
 |x::a,y::b,z::c,h1,h2=>by
  simp[Op.bytesLess,Bool.or_eq_true,aJ,decide_eq_true_eq,beq_iff_eq] at h1 h2 ⊢;rcases h1 with h1|⟨rfl,h1⟩
  .rcases h2 with h2|⟨rfl,h2⟩
   .exact .inl (UInt8.lt_trans h1 h2)
   .exact .inl h1
  .rcases h2 with h2|⟨rfl,h2⟩
   .exact .inl h2
   .exact .inr ⟨rfl,XP h1 h2⟩
section
variable{κ:Type}[DecidableEq κ]
def ZZ{fs:List κ}{k:κ}:hZ fs k=true↔k∈fs:=by rw[hZ,decide_eq_true_eq]
def amP{fs:List κ}{k:κ}:hZ fs k=false↔k∉fs:=by rw[hZ,decide_eq_false_iff_not]
def ac4{fs:List κ}{k:κ}(h:hZ fs k=true):mH fs k<fs.length:=idxOf_lt_length_of_mem (ZZ.1 h)
def amN{fs:List κ}{k:κ}(h:hZ fs k=true):fs[mH fs k]? =some k:=by
 have h1:=ac4 h;rw[aO h1];exact congrArg some (getElem_idxOf h1)
end
abbrev lV(l:List az):List ByteArray:=l.map (·.name)
variable{i:Nat}
def WN(h:l[i]? =some f):qm l i=f.name:=by rw[qm,h]
def lF.less(h:lF l):∀ {i j:Nat},i<j->j<l.length->Op.bytesLess (qm l i).toList (qm l j).toList=true
 |i,0,ma,_=>absurd ma (Nat.not_lt_zero i)
 |i,j+1,ma,hj=>by
  have h1:=h.BL j hj;by_cases e:i=j
  .subst e;exact h1
  .exact XP (h.less (show i<j by omega) oG) h1
def lF.nodup(h:lF l):(lV l).Nodup:=by
 rw[nodup_iff_pairwise_ne,pairwise_iff_getElem];intro i j hi hj M e;have J:i<l.length:=s0 hi
 have C:j<l.length:=s0 hj
 have h1:=h.less M C;rw[WN (aO J),WN (aO C)] at h1;simp[getElem_map] at e;rw[e,ZY] at h1;cases h1
def lF.fresh(h:lF l){k:Nat}(hf:l[k]? =some f):hZ ((lV l).take k) f.name=false:=by
 rw[amP];intro hm;let⟨i,hi⟩:=cV hm;have C:i<k:=by have:=(bQ.1 hi).1;simp at this;omega
 rw[getElem?_take,bi C] at hi;have hk:(lV l)[k]? =some f.name:=by simp[hf]
 have:=(getElem?_inj (bQ.1 hi).1 h.nodup).1 (hi.trans hk.symm);omega
def eN(l:List az)(s:ByteArray):Nat:=if hZ (lV l) s then mH (lV l) s else 0
def bC(l:List az):List (List Nat):=l.map λf=>(cU f.blocks).map (eN l)
def dL(l:List az):List ByteArray:=l.map tW
def dS(l:List az):List Nat:=bT (dL l)
@[simp] theorem Z0 (l : List az) : (bC l).length = l.length := by simp [bC]
@[simp] theorem azr (l : List az) : (dS l).length = l.length := by simp [dS, dL]
def lF.known(h:lF l)(hf:f∈l){s:ByteArray}(hs:s∈cU f.blocks):hZ (lV l) s=true:=by
 unfold cU at hs;obtain⟨b,hb,rfl⟩:=mem_map.1 hs;rw[mem_filter] at hb;have hc:=bK.1 (h.calls f hf) b hb.1;have hk:=hb.2;unfold iq at hk;simp[Bool.or_eq_true,decide_eq_true_eq] at hk
 have C:∃ g,findF l b.fin.name=some g:=by
  unfold kY at hc;rcases hk with hk|hk
  .rw[bi hk] at hc;unfold An at hc;split at hc
   .cases hc
   .rename_i g hg;exact⟨g,hg⟩
  .rw[ai oG,bi hk] at hc;unfold Ao at hc;split at hc
   .cases hc
   .rename_i g hg;exact⟨g,hg⟩
 let⟨g,hg⟩:=C;have h1:=mem_of_find?_eq_some hg;have h2:=find?_some hg
 have:g.name=b.fin.name:=by
  simp[beq_iff_eq] at h2;rw[ym,ym] at h2;exact Ab h2
 rw[ZZ, <- this];exact mem_map_of_mem h1
def Sx{s:ByteArray}(h:hZ (lV l) s=true):eN l s<l.length:=by
 rw[eN,bi h];have:=ac4 h;simpa using this
def Ly(h:l[i]? =some f):(bC l).getD i []=(cU f.blocks).map (eN l):=getD_some (by simp[bC,h])
def lF.B6(h:lF l):JD (bC l):=λi t ht=>by
 cases hf:l[i]? with
 |none=>
  have:(bC l)[i]? =none:=by simp[bC,hf]
  rw[dU,this] at ht;cases ht
 |some f=>
  rw[Ly hf] at ht;obtain⟨s,hs,rfl⟩:=mem_map.1 ht;rw[Z0];exact Sx (h.known (bD hf) hs)
def lF.Ny(h:lF l):adw (dS l) (bC l):=λa b ha hb e=>by
 rw[Z0] at ha hb;obtain⟨f,hf⟩:∃ f,l[a]? =some f:=⟨_,aO ha⟩
 obtain⟨g,hg⟩:∃ g,l[b]? =some g:=⟨_,aO hb⟩
 rw[Ly hf,Ly hg,length_map,length_map];have h1:(dL l)[a]? =some (tW f):=by simp[dL,hf]
 have h2:(dL l)[b]? =some (tW g):=by simp[dL,hg]
 refine ahn (h.sd f (bD hf)) (h.sd g (bD hg)) ((Lw h1 h2).1 ?_);have C:(dS l)[a]? =some ((dS l).getD a 0):=fx (by simpa using ha);have e2:(dS l)[b]? =some ((dS l).getD b 0):=fx (by simpa using hb);unfold dS at C e2 e;rw[C,e2,e]
end
end Go.Abs
end
