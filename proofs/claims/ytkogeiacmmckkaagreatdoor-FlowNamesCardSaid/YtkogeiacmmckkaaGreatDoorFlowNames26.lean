/- Part 26. -/
import Derived.Test.YtkogeiacmmckkaaGreatDoorFlowNames23
import Derived.Test.YtkogeiacmmckkaaGreatDoorFlowNames24
import Derived.Test.YtkogeiacmmckkaaGreatDoorFlowNames25
set_option linter.all false
set_option maxHeartbeats 0
set_option maxRecDepth 10000
section
open Go Go.Proofs List
open Go.Shelf Go.RowKit
namespace Go.Abs
open Go.Proofs.Tryz
def rV{N:Nat}(x:Fin (N+1)):Value:=.int .i64 (x.val:Int)
def De{N:Nat}(to:List Int)(a b:Fin (N+1)):Int:=bf to a.val - bf to b.val
def sFO{N:Nat}(to:List Int):Go.Sort.SWO (Go.Proofs.ltOf (De (N:=N) to)):=by
 refine⟨λx=>?_,λx y z=>?_,λx y z=>?_⟩<;>simp[Go.Proofs.ltOf,decide_eq_true_eq,decide_eq_false_iff_not]<;>unfold De<;>omega
def DH{to:List Int}{k:Nat}{v:Int}(h:to[k]? =some v):bf to k=v:=by
 simp[bf,dF,h]
def Yk{m:Mem}{i:Nat}{r:Row}(h:m i=some r):up m i (some r)=m:=by
 funext j;by_cases hj:j=i
 .subst hj;rw[ap,h]
 .rw[aW _ _ hj]
def Nw{N:Nat}{w:World}{blk off n:Nat}{C:Array (Fin (N+1))}{os:Array Obj}{a:Addr}(h1:a.block≠blk)(h2:a.block<w.heap.size):(sortWorld rV w blk off n C os).cell? a=w.cell? a:=by
 rw[sortWorld,Sort.cell?_grow _ _ _ (by simpa[Sort.putRow,Sort.mapBlock,Sort.ahead] using h2),Sort.cell?_putRow_other _ _ _ _ _ _ (.inl h1)];rfl
def wrap_small{a:Int}(h: -100000<=a/\a<=100000):IntKind.i64.wrap a=a:=by
 simp[IntKind.wrap,IntKind.bits,IntKind.signed];omega
def ajD{N:Nat}{to:List Int}{w:World}{J op C O n cap blk off size:Nat}(U:w.cell? ⟨J,op,none⟩=some (.slice (some ⟨C,O,none⟩) n cap))(X:∀ (k:Nat) v,to[k]? =some v->w.cell? ⟨C,O+k,none⟩=some (.int .i64 v))
 (h1:J≠blk) (h2:C≠blk) (h3:J<w.heap.size) (h4:C<w.heap.size) (hN:to.length=N+1) (hn:to.length<=n) (hb:∀ v∈to,0<=v/\v<=100000):CmpReads prog 121 #[.pointer (some ⟨J,op,none⟩)] (rV (N:=N)) (De to) blk off size w:=by
 intro m os dk _ x y;have hx:to[x.val]? =some to[x.val]:=aV oG;have hy:to[y.val]? =some to[y.val]:=aV oG;have bx:=hb _ (cL hx);have bY:=hb _ (cL hy);have e:De to x y=to[x.val] - to[y.val]:=by rw[De,DH hx,DH hy]
 have hr: -100000<=to[x.val] - to[y.val]/\to[x.val] - to[y.val]<=100000:=by omega
 rw[e];refine(anq (W:=sortWorld rV w blk off m dk os) (x:=x.val) (y:=y.val) ((Nw h1 h3).trans U) ((Nw (a:=⟨C,O+x.val,none⟩) h2 h4).trans (X _ _ hx)) ((Nw (a:=⟨C,O+y.val,none⟩) h2 h4).trans (X _ _ hy)) oG oG hr).mono λe' w' h=>⟨?_,h.2⟩
 rw[h.1,wrap_small hr]
set_option maxRecDepth 10000 in
def ao5{l to:List Int}{m:Mem}{nx o:Nat}(hl:l.length<=100000)(hp:∀ p∈l,0<=p/\p<to.length)(hb:∀ v∈to,0<=v/\v<=100000)(hm:m o=some (.cells (l.map I) 3)):
 iZ prog 120 [.rs o 0 l.length,.fn (.func 121) [] [.pt [av to]]] m nx λd m' aw=>d=.bu []/\aw=nx/\∃ s:List Int,s.Perm l/\s.Pairwise (λp q=>bf to p<=bf to q)/\m'=up m o (some (.cells (s.map I) 3)):=by
 refine⟨by kernel_rfl,λF β w vs O eh hR=>?_⟩;let⟨hs,hr⟩:=hR;have hs:vs.size=2:=hs
 obtain⟨x,y,rfl⟩:∃ x y,vs= #[x,y]:=⟨vs[0],vs[1],by
  apply Array.ext
  .exact hs
  .intro i hi _;have:i=0\/i=1:=by omega
   rcases this with rfl|rfl<;>rfl⟩
 have h1:=hr 0 _ x rfl rfl;have h2:=hr 1 _ y rfl rfl
 have Yl:l.length=0->∀ a,x=.slice a 0 0->Calls prog 120 #[x,y] w λe w'=>∃ v d m' aw β',e=.returned v/\(d=.bu []/\aw=nx/\∃ s:List Int,s.Perm l/\s.Pairwise (λp q=>bf to p<=bf to q)/\m'=up m o (some (.cells (s.map I) 3)))/\aQ prog F m' β' w'/\(∀ i,aw<=i->β' i=none)/\R F β' w' d v/\Step β w β' w'/\nx<=aw/\∀ i,i<nx->β i=none->β' i=none:=λh0 a ha=>by
  have mL:l=[]:=length_eq_zero_iff.1 h0;subst mL ha;have hN:=AnyF.slices_SortFunc_none (P:=prog) (ρ:= Tryz.NV) { Tryz.QI with } a 0 y w;refine Calls.mono (show Calls prog 120 _ _ _ from hN) λe w' h=>?_;obtain⟨rfl,rfl⟩:=h;exact⟨_,_,_,_,β,rfl,⟨rfl,rfl,[],.nil,.nil,(Yk hm).symm⟩,O,eh,.bu [] [] rfl oS,Step.refl _ _,bK _,λ_ _ h=>h⟩
 rcases h1.xX O hm with⟨_,_,h0,_,a,ha⟩|⟨b,oo,room,hβ,an,⟨h0,a,ha⟩|⟨cap,ha,qg,_,_,_⟩⟩
 .exact Yl h0 a ha
 .exact Yl h0 a ha
 have jS:∀ b',β.free b'->b'≠b:=λb' hf e=>hf o _ hβ (by rw[e];rfl);have hblk:b<w.heap.size:=O.lt o _ b hβ rfl;subst ha;cases h2 with
 |fn _ fs cs us vs' xc vd hf hc=>
 have Fh:us=[]:=length_eq_zero_iff.1 xc;obtain⟨pv,FY⟩:∃ pv,vs'=[pv]:=length_eq_one_iff.1 vd;subst Fh FY;obtain⟨bp,op,rfl,_,f2,f3,us,f4,f5⟩:=(hc 0 _ pv rfl rfl).GW;have g1:=(f4 0 oS).1;have g2:=f5 0 (av to) rfl;by_cases mL:l.length=0
 .have e0:l=[]:=length_eq_zero_iff.1 mL;subst e0;have hN:=AnyF.slices_SortFunc_none (P:=prog) (ρ:= Tryz.NV) { Tryz.QI with } (some ⟨b,oo+0,none⟩) cap (.func (.func 121) #[] #[.pointer (some ⟨bp,op,none⟩)]) w;refine Calls.mono (show Calls prog 120 _ _ _ from hN) λe w' h=>?_;obtain⟨rfl,rfl⟩:=h;exact⟨_,_,_,_,β,rfl,⟨rfl,rfl,[],.nil,.nil,(Yk hm).symm⟩,O,eh,.bu [] [] rfl oS,Step.refl _ _,bK _,λ_ _ h=>h⟩
 have lF:∃ N,to.length=N+1:=by
  let⟨p,jn⟩:=tS l 0 oG
  have:=hp p (cL jn);exact⟨to.length - 1,oG⟩
 let⟨N,hN⟩:=lF;rcases g2.vW with⟨k1,_⟩|⟨ba,oa,ca,k1,_,_,_,k5,k6,us',k7,k8⟩
 .have:to.length=0:=tn (congrArg length k1)
  omega
 generalize CA:l.map I=iR at an;cases an with
 |cells _ _ _ _ _ _ c mg fR hlen bZ h=>
 subst CA;rw[k1] at g1
 have hlv:∀ (j:Nat) p,l[j]? =some p->c[oo+j]? =some (.int .i64 p):=λj p hj=>by
  let⟨v,e1,e2,_⟩:=h j (I p) (by simp[hj]);rw[e1,e2.cX.1]
 have U:=ajD (N:=N) (blk:=b) (off:=oo+0) (size:=l.length) g1 (λk v hk=>by
  have lM:k<to.length:=(bO.1 hk).1
  rw[(k7 k (tn lM)).1,(k8 k (I v) (by simp[hk])).cX.1]) (jS bp f2) (jS ba k5) f3 k6 hN (bK _) hb
 let C:Array (Fin (N+1)):=(l.map λp=>(⟨p.toNat % (N+1),Nat.mod_lt _ (Nat.succ_pos N)⟩:Fin (N+1))).toArray
 have hD:C.size=l.length:=by simp[C]
 have hDv:∀ (j:Nat) p,l[j]? =some p->(C[j]!.val:Int)=p:=λj p hj=>by
  have dx:j<l.length:=(bO.1 hj).1;have:=hp p (cL hj);have e:l[j]=p:=(bO.1 hj).2;rw[getElem!_pos C j oG];simp only[C,List.getElem_toArray,getElem_map,e];rw[Nat.mod_eq_of_lt oG];omega
 have hH:Sort.Holds rV w b (oo+0) C:=λj hj=>by
  let⟨p,hpj⟩:=tS l j oG
  refine⟨?_,by simp[World.frozen?,mg]⟩;have:=hlv j p hpj;rw[Nat.add_zero];simp only[World.cell?,mg,rV,hDv j p hpj];exact this
 rw[<- hD] at U;have X:=Any.slices_SortFunc Tryz.QI rV (λ_=>rfl) (De to) (sFO to) 121 #[.pointer (some ⟨bp,op,none⟩)] b (oo+0) cap C w (enters_of func121 kr rfl) U.lays hH hblk oG;rw[hD] at X;refine Calls.mono (show Calls prog 120 _ _ _ from X) λe w' h'=>?_;obtain⟨rfl,d',n,os,hP,hS,rfl⟩:=h';have kU:d'.size=l.length:=hP.1.trans hD
 have anr:(d'.toList.map λx=>(x.val:Int)).Perm l:=by
  have J:=hP.2.2;rw[show d'.extract 0 l.length=d' by rw[<- kU];simp,show C.extract 0 l.length=C by rw[<- hD];simp] at J;have h4:=J.map λx:Fin (N+1)=>(x.val:Int)
  have e:C.toList.map (λx=>(x.val:Int))=l:=by
   refine ext_getElem? λj=>?_;cases hj:l[j]? with
   |none=>
    have:=List.getElem?_eq_none_iff.1 hj;rw[getElem?_eq_none (by rw[length_map,Array.length_toList];omega)]
   |some p=>
    have dx:j<l.length:=(bO.1 hj).1;have:=hDv j p hj;rw[getElem!_pos C j oG] at this;rw[getElem?_map,Array.getElem?_toList,Array.getElem?_eq_getElem oG];exact congrArg some this
  rwa[e] at h4
 have kE:(d'.toList.map λx=>(x.val:Int)).length=l.length:=by rw[length_map,Array.length_toList,kU]
 have hpw:(d'.toList.map λx=>(x.val:Int)).Pairwise (λp q=>bf to p<=bf to q):=by
  refine List.pairwise_map.2 (List.pairwise_iff_getElem.2 λi j hi hj kp=>?_);rw[Array.length_toList] at hi hj;have J:=hS i j (Nat.zero_le _) kp oG;rw[getElem!_pos d' i hi,getElem!_pos d' j hj] at J;simp only[ltOf,decide_eq_false_iff_not] at J;unfold De at J;rw[Array.getElem_toList,Array.getElem_toList];omega
 have Sg:(Sort.putRow rV (Sort.ahead w n) b (oo+0) d').heap[b]? =some (.cells (Sort.putCells rV (oo+0) d' c) 3 (0,0)):=by simp[Sort.putRow,Sort.mapBlock,Sort.ahead,Array.getElem?_modify,mg,Sort.onCells]
 have ho:∀ k,k≠b->(Sort.putRow rV (Sort.ahead w n) b (oo+0) d').heap[k]? =w.heap[k]? :=λk hk=>by simp[Sort.putRow,Sort.mapBlock,Sort.ahead,Array.getElem?_modify,Ne.symm hk]
 have dY:(Sort.putRow rV (Sort.ahead w n) b (oo+0) d').heap.size=w.heap.size:=by simp[Sort.putRow,Sort.mapBlock,Sort.ahead]
 have bL:=Dk O hβ rfl oG ho
 have PS:dA prog F β (Sort.putRow rV (Sort.ahead w n) b (oo+0) d') (.cells ((d'.toList.map λx=>(x.val:Int)).map I) 3) (.cells b oo (l.map I).length room (prog.cellsOf 3)):=by
  have e:(l.map I).length=((d'.toList.map λx=>(x.val:Int)).map I).length:=by rw[length_map,length_map,kE]
  rw[e];refine .cells _ _ b oo room _ _ Sg (by simp[Sort.putCells];omega) (by rw[<- e];exact hlen) rfl λk d hk=>?_
  have lM:k<l.length:=by
   have:=(bO.1 hk).1;rw[length_map,kE] at this;exact this
  have e2:d=I (d'[k]'oG).val:=by
   rw[getElem?_map,getElem?_map,Array.getElem?_toList,Array.getElem?_eq_getElem oG] at hk;exact(Option.some.inj hk).symm
  subst e2;refine⟨rV (d'[k]'oG),?_,.s _ rfl,rfl⟩;have hc:oo+k<c.size:=by rw[length_map] at hlen;omega
  simp only[Sort.putCells,Array.getElem?_mapIdx,Array.getElem?_eq_getElem hc,Option.map_some];rw[bi ⟨oG,oG⟩,show oo+k - (oo+0)=k by omega,getElem!_pos d' k oG]
 have zb:=O.write hβ rfl dY ho (.cells ((d'.toList.map λx=>(x.val:Int)).map I) 3) PS;have hk:Kept (Sort.putRow rV (Sort.ahead w n) b (oo+0) d') (sortWorld rV w b (oo+0) n d' os):=⟨by show _<=(_++os).size;rw[Array.size_append];omega,λk hk=>by show(_++os)[k]? =_;rw[Array.getElem?_append_left hk],rfl,rfl⟩
 exact⟨_,.bu [],_,nx,β,rfl,⟨rfl,rfl,_,anr,hpw,rfl⟩,zb.kept hk,eh,.bu [] [] rfl oS,bL.trans (Ny hk),bK _,λ_ _ h=>h⟩
end Go.Abs
end
