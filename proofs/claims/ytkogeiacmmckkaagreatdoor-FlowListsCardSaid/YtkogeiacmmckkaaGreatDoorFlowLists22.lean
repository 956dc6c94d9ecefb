/- Part 22. -/
import Derived.Test.YtkogeiacmmckkaaGreatDoorFlowLists19
import Derived.Test.YtkogeiacmmckkaaGreatDoorFlowLists21
set_option linter.all false
set_option maxHeartbeats 2000000
set_option maxRecDepth 10000
open List(range)
open List(replicate)
namespace Go.Argus
open Go Go.Abs
open Go.Proofs.Tryz.K (nextR)
structure Hx(R n:Nat)(x:bS):Prop where
 r:∀ r∈cL x,∃ i:Nat,i<R/\r=i
 s:x.op=17->∃ i:Nat,R+i<n/\x.n=i
 p:x.op=19->∀ r∈x.args,∃ i:Nat,i<R/\r=i
theorem la{l:List Int}{r:Int}(h:js l r):∃ i:Nat,i<l.length/\r=i:=⟨r.toNat,by unfold js at h;omega,by unfold js at h;omega⟩
theorem RU{f:bd}{b ah:Int}{x:bS}(hs:∀ k∈f.aU,k≠0)(h:dM f b ah x=true):yX f.ag.length (f.ag.length+f.aU.length) x/\Hx f.ag.length (f.ag.length+f.aU.length) x/\(x.op=19->(x.args.length:Int)=ah):=by
 have k1:∀ {r:Int},bw f r 119=true->∃ i:Nat,i<f.ag.length/\r=i:=fun {r} h=>la (kI fun e=>by rw[sQ,e] at h;simp[aL] at h);have O:∀ {r:Int},bw f r 114=true->∃ i:Nat,i<f.ag.length/\r=i:=fun {r} h=>la (kI fun e=>by rw[yD,e] at h;simp[aL] at h);have k3:∀ {r:Int},bw f r 105=true->∃ i:Nat,i<f.ag.length/\r=i:=fun {r} h=>la (kI fun e=>by rw[Dg,e] at h;simp[aL] at h);have k4:∀ {r:Int},bw f r 118=true->∃ i:Nat,i<f.ag.length/\r=i:=fun {r} h=>la (nW h)
 have U:∀ {a b:Int},kx f a b=true->(∃ i:Nat,i<f.ag.length/\a=i)/\∃ i:Nat,i<f.ag.length/\b=i:=fun {a b} h=>by
  simp only[kx,ay] at h;exact⟨la (nW h.1),la (nW h.2.1)⟩
 have k6:∀ {l:List Int},gz f.ag l=true->∀ r∈l,∃ i:Nat,i<f.ag.length/\r=i:=fun {l} h r hr=>la (xE h r hr)
 have X:∀ {r n:Int},lT f.ag f.aU r n=true->(∃ i:Nat,i<f.ag.length/\r=i)/\∃ i:Nat,f.ag.length+i<f.ag.length+f.aU.length/\n=i:=fun {r n} h=>by
  obtain⟨h1,h2,M⟩:=Kg hs h;exact⟨la h1,n.toNat,oG,oG⟩
 obtain⟨op,to,a,C,n,args⟩:=x;unfold dM at h;dsimp only at h
 have fin:∀ {W:Prop} {Rs:List Int},(dB ⟨op,to,a,C,n,args⟩= -1\/∃ i:Nat,i<f.ag.length/\dB ⟨op,to,a,C,n,args⟩=i)->cL ⟨op,to,a,C,n,args⟩=Rs->(∀ r∈Rs,∃ i:Nat,i<f.ag.length/\r=i)->
  op≠17->op≠18->op≠19->yX f.ag.length (f.ag.length+f.aU.length) ⟨op,to,a,C,n,args⟩/\Hx f.ag.length (f.ag.length+f.aU.length) ⟨op,to,a,C,n,args⟩/\(op=19->(args.length:Int)=ah):=fun {W Rs} h1 h2 M e1 e2 e3=>
  ⟨⟨h1,fun e=>absurd e e2⟩,⟨by rw[h2];exact M,fun e=>absurd e e1,fun e=>absurd e e3⟩,fun e=>absurd e e3⟩
 by_cases h1:op=1
 .subst h1;simp[ay] at h;exact fin (W:=True) (Rs:=[]) (.inr (k1 h.2.1)) rfl oS oC oC oC
 by_cases h2:op=2
 .subst h2;simp[ay] at h;exact fin (W:=True) (Rs:=[a]) (.inr (U h.2).1) rfl (by simpa using(U h.2).2) oC oC oC
 by_cases M:op=3\/op=4\/op=6\/op=7
 .have J:bw f to 119=true/\bw f a 119=true/\bw f C 119=true:=by
   rcases M with rfl|rfl|rfl|rfl<;>(simp[aI,ay] at h;exact h.2)
  have hr:∀ r∈[a,C],∃ i:Nat,i<f.ag.length/\r=i:=by
   intro r hr;simp at hr;rcases hr with rfl|rfl
   .exact k1 J.2.1
   .exact k1 J.2.2
  rcases M with rfl|rfl|rfl|rfl<;>exact fin (W:=True) (Rs:=[a,C]) (.inr (k1 J.1)) rfl hr oC oC oC
 by_cases h5:op=5
 .subst h5;simp[aI,ay] at h;refine fin (W:=True) (Rs:=[a,C]) (.inr (k1 h.2.1)) rfl ?_ oC oC oC;intro r hr;simp at hr;rcases hr with rfl|rfl
  .exact(U h.2.2).1
  .exact(U h.2.2).2
 by_cases h8:op=8
 .subst h8;simp[aI,ay] at h;exact fin (W:=True) (Rs:=[a]) (.inr (k1 h.2.1)) rfl (by simpa using k1 h.2.2) oC oC oC
 by_cases h9:op=9
 .subst h9;simp[aI,ay] at h;exact fin (W:=True) (Rs:=[]) (.inr (O h.2.1)) rfl oS oC oC oC
 by_cases mU:op=10
 .subst mU;simp[aI,ay] at h;exact fin (W:=True) (Rs:=args) (.inr (O h.2.1)) rfl (k6 h.2.2.2.2) oC oC oC
 by_cases r7:op=11
 .subst r7;simp[aI,ay] at h;exact fin (W:=True) (Rs:=[a]) (.inr (k4 h.2.1)) rfl (by simpa using O h.2.2.1) oC oC oC
 by_cases tE:op=12
 .subst tE;simp[aI,ay] at h;refine fin (W:=True) (Rs:=[a,C]) (.inl rfl) rfl ?_ oC oC oC;intro r hr;simp at hr;rcases hr with rfl|rfl
  .exact O h.2.1
  .exact k4 h.2.2.1
 by_cases vt:op=13\/op=14
 .have J:bw f to 119=true/\bw f a 114=true:=by
   rcases vt with rfl|rfl<;>(simp[aI,ay] at h;exact h.2)
  rcases vt with rfl|rfl<;>exact fin (W:=True) (Rs:=[a]) (.inr (k1 J.1)) rfl (by simpa using O J.2) oC oC oC
 by_cases Wa:op=15
 .subst Wa;simp[aI,ay] at h;exact fin (W:=True) (Rs:=[a]) (.inl rfl) rfl (by simpa using k1 h.2) oC oC oC
 by_cases pN:op=16
 .subst pN;simp[aI,ay] at h;exact fin (W:=True) (Rs:=[a]) (.inl rfl) rfl (by simpa using k3 h.2) oC oC oC
 by_cases ij:op=17
 .subst ij;simp[aI,ay] at h;exact⟨⟨.inr (X h.2).1,fun e=>by simp at e⟩,⟨by simp[cL,aI,n1,qQ],fun _=>(X h.2).2,fun e=>by simp at e⟩,fun e=>by simp at e⟩
 by_cases eh:op=18
 .subst eh;simp[aI,ay] at h;exact⟨⟨.inl rfl,fun _=>(X h.2).2⟩,⟨by simpa[cL,aI,n1] using(X h.2).1,fun e=>by simp at e,fun e=>by simp at e⟩,fun e=>by simp at e⟩
 by_cases fe:op=19
 .subst fe;simp[aI,ay] at h;refine⟨⟨.inr (k4 h.2.2.1),fun e=>by simp at e⟩,⟨by simp[cL,aI,n1,qQ],fun e=>by simp at e,fun _ r hr=>(U (h.2.2.2.2 r hr)).2⟩,fun _=>?_⟩;simpa[aL] using h.2.2.2.1
 .rw[if_neg h1,if_neg h2,if_neg (by simp[aI];omega),if_neg h5,if_neg h8,if_neg h9,if_neg mU,if_neg r7,if_neg tE,if_neg (by simp[aI];omega),if_neg Wa,if_neg pN,if_neg ij,if_neg eh,if_neg fe] at h;cases h
theorem RV{f:bd}{x:bS}(h:kW f x=true):(dB x= -1\/∃ i:Nat,i<f.ag.length/\dB x=i)/\∀ r∈cL x,∃ i:Nat,i<f.ag.length/\r=i:=by
 have k1:∀ {r:Int},bw f r 119=true->∃ i:Nat,i<f.ag.length/\r=i:=fun {r} h=>la (kI fun e=>by rw[sQ,e] at h;simp[aL] at h);have J:∀ {r:Int},bw f r 114=true->∃ i:Nat,i<f.ag.length/\r=i:=fun {r} h=>la (kI fun e=>by rw[yD,e] at h;simp[aL] at h);have k4:∀ {r:Int},bw f r 118=true->∃ i:Nat,i<f.ag.length/\r=i:=fun {r} h=>la (nW h);have k6:∀ {l:List Int},gz f.ag l=true->∀ r∈l,∃ i:Nat,i<f.ag.length/\r=i:=fun {l} h r hr=>la (xE h r hr);obtain⟨op,to,a,C,n,args⟩:=x;unfold kW at h;dsimp only at h;by_cases h0:op=30\/op=31\/op=32\/op=33\/op=34
 .have M:bw f to 119=true/\bw f a 119=true/\bw f C 119=true:=by
   rcases h0 with rfl|rfl|rfl|rfl|rfl<;>(simp[aI,ay] at h;exact h.2)
  have hr:∀ r∈[a,C],∃ i:Nat,i<f.ag.length/\r=i:=by
   intro r hr;simp at hr;rcases hr with rfl|rfl
   .exact k1 M.2.1
   .exact k1 M.2.2
  rcases h0 with rfl|rfl|rfl|rfl|rfl<;>exact⟨.inr (k1 M.1),hr⟩
 by_cases O:op=35
 .subst O;simp[aI,ay] at h;refine⟨.inl rfl,?_⟩;show ∀ r∈[a,C],_;intro r hr;simp at hr;rcases hr with rfl|rfl
  .exact J h.2.1
  .exact k4 h.2.2
 by_cases U:op=36
 .subst U;simp[aI,ay] at h;refine⟨.inr (k4 h.2.1),?_⟩;show ∀ r∈[a],_;simpa using J h.2.2
 by_cases X:op=37
 .subst X;simp[aI,ay] at h;refine⟨.inr (k4 h.2.1),?_⟩;show ∀ r∈[a,C],_;intro r hr;simp at hr;rcases hr with rfl|rfl
  .exact J h.2.2.1
  .exact k1 h.2.2.2
 by_cases h8:op=38
 .subst h8;simp[aI,ay] at h;refine⟨.inl rfl,?_⟩;show ∀ r∈a::C::args,_;intro r hr;rcases List.mem_cons.1 hr with rfl|hr
  .exact J h.2.1
  .rcases List.mem_cons.1 hr with rfl|hr
   .exact k1 h.2.2.1
   .exact k6 h.2.2.2.2 r hr
 .exfalso;simp[aI,O,U,X,h8] at h;omega
theorem Kj{f:bd}{x:End}(h:gJ f x=true):(eu x= -1\/∃ i:Nat,i<f.ag.length/\eu x=i)/\(∀ r∈cN x,∃ i:Nat,i<f.ag.length/\r=i)/\(x.kind=7->∃ i:Nat,i<f.ag.length/\x.a=i):=by
 have k1:∀ {r:Int},bw f r 119=true->∃ i:Nat,i<f.ag.length/\r=i:=fun {r} h=>la (kI fun e=>by rw[sQ,e] at h;simp[aL] at h);have k3:∀ {r:Int},bw f r 105=true->∃ i:Nat,i<f.ag.length/\r=i:=fun {r} h=>la (kI fun e=>by rw[Dg,e] at h;simp[aL] at h);have k4:∀ {r:Int},bw f r 118=true->∃ i:Nat,i<f.ag.length/\r=i:=fun {r} h=>la (nW h);have k6:∀ {l:List Int},gz f.ag l=true->∀ r∈l,∃ i:Nat,i<f.ag.length/\r=i:=fun {l} h r hr=>la (xE h r hr);obtain⟨kind,a,b,to,gP,name,ins,args,aJ,others⟩:=x;unfold gJ at h;dsimp only at h;by_cases h1:kind=1
 .subst h1;exact⟨.inl rfl,by simp[cN,aI],fun e=>by simp at e⟩
 by_cases h2:kind=2
 .subst h2;simp[ay] at h;refine⟨.inl rfl,?_,fun e=>by simp at e⟩;show ∀ r∈[a],_;simpa using k1 h.2.1
 by_cases C:kind=3
 .subst C;rw[if_neg oC,if_neg oC,if_pos rfl] at h;refine⟨.inl rfl,?_,fun e=>by simp at e⟩;intro r hr;simp[cN,aI] at hr;obtain⟨e,rfl⟩:=hr;by_cases hc:f.iter=true\/f.result=0
  .rw[if_pos hc,ay,na] at h;exact absurd h.2 e
  .rw[if_neg hc,ay,ay] at h;exact k4 h.2.1
 by_cases J:kind=4
 .subst J;exact⟨.inl rfl,by simp[cN,aI],fun e=>by simp at e⟩
 by_cases M:kind=5
 .subst M;simp[ay] at h;exact⟨(RV h.2.1).1,(RV h.2.1).2,fun e=>by simp at e⟩
 by_cases O:kind=6
 .subst O;simp[ay] at h;refine⟨?_,k6 h.2.2.2.1,fun e=>by simp at e⟩;show a= -1\/∃ i:Nat,_/\a=_;rcases h.2.2.2.2.1 with e|e
  .exact .inl (by simpa[aL] using e)
  .exact .inr (k4 e)
 by_cases U:kind=7
 .subst U;simp[ay] at h;exact⟨.inr (k3 h.2.2.2.2.1),k6 h.2.2.2.1,fun _=>k3 h.2.2.2.2.1⟩
 by_cases X:kind=8
 .subst X;simp[ay] at h;refine⟨.inr (k4 h.2.2.1),?_,fun e=>by simp at e⟩;show ∀ r∈[a],_;simpa using k3 h.2.1
 by_cases h9:kind=9
 .subst h9;simp[ay] at h;refine⟨.inl rfl,?_,fun e=>by simp at e⟩;show ∀ r∈[a],_;simpa using k4 h.2.2.1
 .simp[h1,h2,C,J,M,O,U,X,h9] at h
end Go.Argus
namespace Go.Argus
open Go Go.Abs
theorem fX.mh{n:Nat}{s:CS}(h:fX n s){b:Nat}(hb:b<n):eE (s.aP.getD b []):=by
 have hl:b<s.aP.length:=by rw[h.lw];exact hb
 have hx:s.aP[b]? =some s.aP[b]:=bB hl;rw[getD_some hx];have hm:s.aP[b]∈s.aP:=df _;exact⟨h.jX _ hm,h.rg _ hm⟩
def Kl(l:List Int):Prop:=∀ (i j:Nat) x y,i<=j->l[i]? =some x->l[j]? =some y->x<=y
def aij(l:List Int)(j k:Nat):Prop:=(∀ p q,p<q->q<=k->p≠j->q≠j->l.getD p 0<=l.getD q 0)/\∀ q,j<q->q<=k->l.getD j 0<=l.getD q 0
def U1(l:List Int)(k:Nat):Prop:=∀ p q,p<=q->q<=k->l.getD p 0<=l.getD q 0
theorem PR{l:List Int}{j:Nat}(h:j+1<l.length)(i:Nat):(swapAt l j).getD i 0=if i=j then l.getD (j+1) 0 else if i=j+1 then l.getD j 0 else l.getD i 0:=by
 unfold swapAt;simp only[eg,List.getElem?_set,List.length_set];by_cases e:j=i
 .subst e;rw[if_pos rfl,if_pos rfl,if_pos oG];rfl
 .rw[if_neg e,if_neg (show ¬ i=j from fun h=>e h.symm)];by_cases e2:j+1=i
  .subst e2;rw[if_pos rfl,if_pos rfl,if_pos h];rfl
  .rw[if_neg e2,if_neg (show ¬ i=j+1 from fun h=>e2 h.symm)]
theorem RO{k:Nat}:∀ {j:Nat} {l:List Int},j<=k->k<l.length->aij l j k->U1 (oD l j) k
 |0,l,_,_,h=>fun p q J hq=>by
  rw[oD];rcases Nat.lt_or_ge p q with g|g
  .by_cases hp:p=0
   .subst hp;exact h.2 q g hq
   .exact h.1 p q g hq hp oG
  .have:p=q:=by omega
   subst this;exact Int.le_refl _
 |j+1,l,hj,hk,h=>by
  rw[oD];split
  .rename_i aj;have hs:=PR (l:=l) (j:=j) oG;refine RO oG (by simpa using hk) ⟨fun p q J hq hp M=>?_,fun q hq O=>?_⟩
   .rw[hs,hs,if_neg hp,if_neg M];by_cases C:p=j+1
    .rw[if_pos C,if_neg oG];exact h.1 j q oG hq oG oG
    .rw[if_neg C];by_cases e2:q=j+1
     .rw[if_pos e2];exact h.1 p j oG oG C oG
     .rw[if_neg e2];exact h.1 p q J hq C e2
   .rw[hs,hs,if_pos rfl,if_neg oG];by_cases e2:q=j+1
    .rw[if_pos e2];omega
    .rw[if_neg e2];exact h.2 q oG O
  .rename_i U;intro p q J hq;rcases Nat.lt_or_ge p q with g|g
   .by_cases C:p=j+1
    .subst C;exact h.2 q g hq
    .by_cases e2:q=j+1
     .subst e2;by_cases e3:p=j
      .subst e3;omega
      .have:=h.1 p j oG oG oG oG;omega
     .exact h.1 p q g hq C e2
   .have:p=q:=by omega
    subst this;exact Int.le_refl _
theorem QI{i:Nat}:∀ {j:Nat} {l:List Int},j<i->j<l.length->(oD l j).getD i 0=l.getD i 0
 |0,l,_,_=>rfl
 |j+1,l,h,hl=>by
  rw[oD];split
  .rw[QI oG oP,PR oG,if_neg oG,if_neg oG]
  .rfl
theorem QJ{l:List Int}:∀ k,k<l.length->U1 (mE l k) k/\∀ i,k<i->(mE l k).getD i 0=l.getD i 0
 |0,_=>⟨fun p q C hq=>by
  have:p=q:=by omega
  subst this;exact Int.le_refl _,fun _ _=>rfl⟩
 |k+1,hk=>by
  obtain⟨h1,h2⟩:=QJ (l:=l) k oG;rw[mE];refine⟨RO (bO _) (by simpa using hk) ⟨fun p q C hq hp J=>h1 p q oG oG,fun q hq J=>by omega⟩,fun i hi=>?_⟩;rw[QI hi oP];exact h2 i oG
theorem WM(l:List Int):Kl (nv l):=fun i j x y C hx hy=>by
 obtain⟨hj,J⟩:=bZ.1 hy;have hl:(nv l).length=l.length:=Pv l;have h:=(QJ (l:=l) (l.length - 1) oG).1 i j C oG;have e:mE l (l.length - 1)=nv l:=rfl;rw[e,eg,eg,hx,hy] at h;exact h
theorem SZ{d:List Int}(hs:Kl d):∀ t,t<=d.length->(fL d t).Pairwise (·<·)/\(0<t->∀ x∈fL d t,x<=d.getD (t - 1) 0)
 |0,_=>⟨by simp[fL],fun h=>absurd h (Nat.lt_irrefl 0)⟩
 |t+1,ht=>by
  obtain⟨h1,h2⟩:=SZ hs t oG
  have hg:∀ i,i<d.length->d[i]? =some (d.getD i 0):=fun i hi=>by
   have:=bB hi;rw[eg,this];rfl
  have C:∀ x∈fL d t,x<=d.getD t 0:=fun x hx=>by
   have h0:0<t:=by
    cases t with
    |zero=>simp[fL] at hx
    |succ t=>omega
   have a:=h2 h0 x hx;have b:=hs (t - 1) t _ _ oG (hg _ oG) (hg _ oG);omega
  rw[fL];split
  .rw[List.append_nil];exact⟨h1,fun _ x hx=>by rw[Nat.add_sub_cancel];exact C x hx⟩
  .rename_i J;refine⟨?_,fun _ x hx=>?_⟩
   .rw[List.pairwise_append];refine⟨h1,oS,fun x hx y hy=>?_⟩;rw[List.mem_singleton] at hy;subst hy
    have h0:0<t:=by
     cases t with
     |zero=>simp[fL] at hx
     |succ t=>omega
    have a:=h2 h0 x hx;have b:=hs (t - 1) t _ _ oG (hg _ oG) (hg _ oG);have c:d.getD t 0≠d.getD (t - 1) 0:=fun e=>J ⟨oG,e⟩;omega
   .rw[Nat.add_sub_cancel];rw[List.mem_append,List.mem_singleton] at hx;rcases hx with hx|hx
    .exact C x hx
    .rw[hx];exact Int.le_refl _
theorem Xb{d:List Int}(hs:Kl d):(mZ d).Pairwise (·<·):=(SZ hs _ (bO _)).1
theorem PS(x:End):(Go.Proofs.Tryz.K.nextR x).Pairwise (·<·):=Xb (WM _)
theorem XT{b:Nat}:∀ (l:List Int) (L:Nat->List Int),l.Pairwise (·<·)->(∀ t∈l,0<=t)->(∀ i,(L i).Pairwise (·<·)/\∀ x∈L i,x<(b:Int))->
 ∀ i,(l.foldl (fw b) L i).Pairwise (·<·)/\(∀ x∈l.foldl (fw b) L i,x<(b:Int)+1):=fun l=>by
 have key:∀ (l:List Int) (L:Nat->List Int),l.Pairwise (·<·)->(∀ t∈l,0<=t)->∀ i,l.foldl (fw b) L i=L i++(if(i:Int)∈l then [(b:Int)] else []):=fun l=>by
  induction l with
  |nil=>intro L _ _ i;simp
  |cons t l ih=>
   intro L hp h0 i;rw[List.pairwise_cons] at hp;have ht:=h0 t oS;obtain⟨C,rfl⟩:=ic ht;rw[List.foldl_cons,ih _ hp.2 (fun t h=>h0 t (by simp[h]))];unfold fw;simp only[dX,up];by_cases e:i=C
   .subst e;rw[if_pos rfl,if_neg (fun h=>by have:=hp.1 _ h;omega),if_pos oS,List.append_nil]
   .rw[if_neg e];congr 1;have:¬ (i:Int)=C:=by omega
    simp[this]
 intro L hp h0 J i;rw[key l L hp h0 i];obtain⟨h1,h2⟩:=J i;split
 .refine⟨?_,fun x hx=>?_⟩
  .rw[List.pairwise_append];exact⟨h1,oS,fun x hx y hy=>by rw[List.mem_singleton] at hy;rw[hy];exact h2 x hx⟩
  .rw[List.mem_append,List.mem_singleton] at hx;rcases hx with hx|hx
   .have:=h2 x hx;omega
   .omega
 .rw[List.append_nil];exact⟨h1,fun x hx=>by have:=h2 x hx;omega⟩
theorem IZ{bs:List cE}(h0:∀ b∈bs,∀ t∈Go.Proofs.Tryz.K.nextR b.fin,0<=t):∀ k i,(cw bs k i).Pairwise (·<·)/\∀ x∈cw bs k i,x<(k:Int)
 |0,i=>by simp[cw]
 |k+1,i=>by
  have ih:=IZ h0 k;have e:cw bs (k+1)=qX bs (cw bs k) k:=by rw[cw,List.range_succ,List.foldl_append];rfl
  rw[e];unfold qX;cases hx:bs[k]? with
  |none=>exact⟨(ih i).1,fun x hx=>by have:=(ih i).2 x hx;omega⟩
  |some b=>
   obtain⟨h1,h2⟩:=XT (b:=k) (Go.Proofs.Tryz.K.nextR b.fin) (cw bs k) (PS _) (h0 b (cX hx)) ih i;exact⟨h1,fun x hx=>by have:=h2 x hx;omega⟩
end Go.Argus
section
open Go Go.Abs Go.Proofs Go.Argus
namespace Go.Abs
section
variable{P:Program}{m:Mem}{nx:Nat}
end
end Go.Abs
namespace Go.Argus
open Go.Proofs.Tryz.K (nextR)
theorem Jm{f:bd}{x:End}(h:jG f x=true):eO x=dh x:=by
 unfold jG at h;rw[ay] at h;obtain⟨h,hb⟩:=h;have hb:=RE hb;obtain⟨kind,a,b,to,gP,name,ins,args,aJ,others⟩:=x;simp only[gf] at h hb;by_cases h1:kind=1
 .subst h1;simp only[Int.reduceEq,if_false,if_true] at hb;have C:aJ=[]:=List.length_eq_zero_iff.1 hb.2.2.2.2.2.2.2;have ho:others= -1:=hb.2.2.2.2.2.1;subst C ho;simp[eO,jC,oQ,fU,dh,ig,aI]
 by_cases h2:kind=2
 .subst h2;simp only[Int.reduceEq,if_false,if_true] at hb;have C:aJ=[]:=List.length_eq_zero_iff.1 hb.2.2.2.2.2.2.2;have ho:others= -1:=hb.2.2.2.2.2.1;subst C ho;simp[eO,jC,oQ,fU,dh,ig,aI]
 by_cases J:kind=3
 .subst J;simp only[Int.reduceEq,if_false,if_true] at hb;have C:aJ=[]:=List.length_eq_zero_iff.1 hb.2.2.2.2.2.2.2;have ho:others= -1:=hb.2.2.2.2.2.1;subst C ho;simp[eO,jC,oQ,fU,dh,ig,aI]
 by_cases M:kind=4
 .subst M;simp only[Int.reduceEq,if_false,if_true] at hb;have C:aJ=[]:=List.length_eq_zero_iff.1 hb.2.2.2.2.2.2.2;have ho:others= -1:=hb.2.2.2.2.2.1;subst C ho;simp[eO,jC,oQ,fU,dh,ig,aI]
 by_cases O:kind=5
 .subst O;by_cases ho:0<=others<;>simp[eO,jC,oQ,fU,dh,ig,aI,ho]
 by_cases U:kind=6
 .subst U;by_cases ho:0<=others<;>simp[eO,jC,oQ,fU,dh,ig,aI,ho]
 by_cases X:kind=7
 .subst X;simp only[Int.reduceEq,if_false,if_true] at hb;have C:aJ=[]:=List.length_eq_zero_iff.1 hb.2.2.2.2.2.2.2;have ho:others= -1:=hb.2.2.2.2.2.1;subst C ho;simp[eO,jC,oQ,fU,dh,ig,aI]
 by_cases h8:kind=8
 .subst h8;by_cases ho:0<=others<;>simp[eO,jC,oQ,fU,dh,ig,aI,ho]
 by_cases h9:kind=9
 .subst h9;simp only[Int.reduceEq,if_false,if_true] at hb;have C:aJ=[]:=List.length_eq_zero_iff.1 hb.2.2.2.2.2.2.2;have ho:others= -1:=hb.2.2.2.2.2.1;subst C ho;simp[eO,jC,oQ,fU,dh,ig,aI]
 .simp only[h1,h2,J,M,O,U,X,h8,h9,if_false] at h;cases h
theorem QQ{f:bd}{x:End}(h:jG f x=true):o9 x=nextR x:=by
 refine RQ (Ca .nil).1 (PS x) fun t=>?_;rw[PH,Jm h,nextR,IG]
theorem PK{f:bd}{bs:List cE}(h:∀ b∈bs,jG f b.fin=true)(k:Nat):lx bs k=cw bs k:=by
 induction k with
 |zero=>rfl
 |succ k ih=>
  unfold lx cw at ih ⊢;rw[List.range_succ,List.foldl_append,List.foldl_append,ih];show Cs bs _ k=qX bs _ k;unfold Cs qX;cases hx:bs[k]? with
  |none=>rfl
  |some x=>dsimp only;rw[QQ (h x (cX hx))]
end Go.Argus
end
namespace Go.Argus
open Go Go.Abs
open Go.Proofs.Tryz.K (nextR)
def qg(f:bd):Bool:=ni f&&(p8 f&&nj f)
def FM(f:bd):Bool:=f.blocks.all fun x=>(eO x.fin).all (ct f)
def uz(f:bd)(b:Nat)(l:List bS)(j:Nat):Bool:=dM f b (lx f.blocks f.blocks.length b).length (l.getD j ez)&& !(cx (l.getD j ez)&&(decide (0<j)&& !cx (l.getD (j - 1) ez)))
def qu(f:bd)(b:Nat):Bool:=
 let x:=f.blocks.getD b lS
 !decide ((200:Int)<x.ins.length)&&((range x.ins.length).all (uz f b x.ins)&&(gJ f x.fin&& !(x.fin.kind==7&&(lh f.blocks b).any (·==x.fin.a))))
def tV(f:bd):Bool:=qg f&&(FM f&&(range f.blocks.length).all (qu f))
theorem EV(f:bd)(b:Int)(x:bS)(p:Bool)(C:Int):jk f b x p C=(jk f b x true C&&(!cx x||p)):=by
 unfold jk cx;by_cases U:x.op=16
 .simp[U]
 .by_cases O:x.op=17
  .simp[O]
  .by_cases J:x.op=18
   .simp[J]
   .by_cases M:x.op=19
    .simp[M,Bool.and_comm]
    .simp[U,O,J,M]
theorem aaS(l:List bS):(∀ j,j<l.length->cx (l.getD j ez)=true->0<j->cx (l.getD (j - 1) ez)=true)↔∀ j,j<l.length->cx (l.getD j ez)=true->(l.take (j+1)).all cx=true:=by
 have hg:∀ {j},j<l.length->∀ y,l[j]? =some y->l.getD j ez=y:=fun _ y hy=>getD_some hy;constructor
 .intro h j
  induction j with
  |zero=>
   intro hj hp;have hx:l[0]? =some l[0]:=bB hj;rw[getD_some hx] at hp;rw[List.take_add_one,hx];simpa using hp
  |succ j ih=>
   intro hj hp;have hx:l[j+1]? =some l[j+1]:=bB hj;have h1:=h (j+1) hj hp oG;have h2:=ih oG (by simpa using h1);rw[List.take_add_one,List.all_append,h2,hx];rw[getD_some hx] at hp;simpa using hp
 .intro h j hj hp h0;have h1:=h j hj hp;have hx:l[j - 1]? =some l[j - 1]:=bB oG;rw[getD_some hx];refine b7.1 h1 _ ?_;refine cX (i:=j - 1) ?_;rw[List.getElem?_take,if_pos oG,hx]
theorem abY{n:Nat}{p q:Nat->Bool}:(range n).all (fun j=>p j&&q j)=((range n).all p&&(range n).all q):=by
 rw[Bool.eq_iff_iff];simp only[b7,ay,List.mem_range];exact⟨fun h=>⟨fun j hj=>(h j hj).1,fun j hj=>(h j hj).2⟩,fun h j hj=>⟨h.1 j hj,h.2 j hj⟩⟩
theorem O2{f:bd}:tV f=nZ f:=by
 have hH:nZ f=(qg f&&((range f.blocks.length).all (kq f)&&(range f.blocks.length).all (qL f))):=by
  unfold nZ qg;simp only[Bool.and_assoc]
 rw[hH];unfold tV;cases hh:qg f with
 |false=>rfl
 |true=>
  rw[Bool.true_and,Bool.true_and,Bool.eq_iff_iff,ay,ay,b7,b7,b7];unfold qg at hh;simp only[ay] at hh;obtain⟨h1,h2,_⟩:=hh
  have mI:pY f=true:=by
   unfold ni at h1;simp only[ay] at h1;exact h1.2.2.1
  have kV:f.ag.length<=1200:=by
   unfold ni at h1;simp only[ay,Bool.not_eq_true',decide_eq_false_iff_not] at h1;omega
  have jV:∀ k∈f.aU,k=1\/k=2:=fun k hk=>by
   unfold p8 at h2;simp only[ay] at h2;have C:=h2.2.2.1;simp only[eV,Bool.not_eq_true',List.any_eq_false] at C;have:=C k hk;simp[mu] at this;omega
  have oA:∀ {k:Nat},k<f.blocks.length->∃ x,f.blocks[k]? =some x/\f.blocks.getD k lS=x/\x∈f.blocks:=fun {k} hk=>by
   have hx:f.blocks[k]? =some f.blocks[k]:=bB hk;exact⟨_,hx,getD_some hx,df _⟩
  have kS:(∀ b∈f.blocks,jG f b.fin=true)->∀ k,k<f.blocks.length->(qu f k=true↔kq f k=true/\qL f k=true):=fun he k hk=>by
   obtain⟨x,hx,hg,hm⟩:=oA hk;have X:=PK he f.blocks.length;unfold qu kq qL uz tP;simp only[hg,Km mI,he x hm,X,Bool.true_and,ay,b7,List.mem_range];have C:∀ j,dM f k (cw f.blocks f.blocks.length k).length (x.ins.getD j ez)=jk f k (x.ins.getD j ez) true (cw f.blocks f.blocks.length k).length:=fun j=>RT jV;have U4:=aaS x.ins;simp only[C];constructor
   .rintro⟨O,M,U⟩;refine⟨⟨O,U⟩,fun j hj=>?_⟩;rw[EV,ay];refine⟨(M j hj).1,?_⟩;have:=U4.1 (fun j hj hp h0=>by have:=(M j hj).2;rw[hp] at this;simpa[h0] using this) j hj;cases hp:cx (x.ins.getD j ez) with
    |false=>rfl
    |true=>rw[this hp];rfl
   .rintro⟨⟨O,U⟩,M⟩;refine⟨O,fun j hj=>?_,U⟩
    have J:∀ j,j<x.ins.length->cx (x.ins.getD j ez)=true->(x.ins.take (j+1)).all cx=true:=fun j hj hp=>by
     have:=M j hj;rw[EV,ay,hp] at this;simpa using this.2
    have h5:=M j hj;rw[EV,ay] at h5;refine⟨h5.1,?_⟩;have h6:=U4.2 J j hj;cases hp:cx (x.ins.getD j ez) with
    |false=>rfl
    |true=>
     by_cases h0:0<j
     .rw[h6 hp h0];simp
     .simp[h0]
  constructor
  .rintro⟨C,J⟩
   have he:∀ b∈f.blocks,jG f b.fin=true:=fun b hb=>by
    obtain⟨k,hk⟩:=dY hb;have:=J k (by simpa using(bZ.1 hk).1);unfold qu at this;simp only[getD_some hk,ay,Km mI] at this;exact this.2.2.1
   exact⟨fun k hk=>((kS he k (by simpa using hk)).1 (J k hk)).1,fun k hk=>((kS he k (by simpa using hk)).1 (J k hk)).2⟩
  .rintro⟨C,J⟩
   have he:∀ b∈f.blocks,jG f b.fin=true:=fun b hb=>by
    obtain⟨k,hk⟩:=dY hb;have:=C k (by simpa using(bZ.1 hk).1);unfold kq at this;simp only[getD_some hk,ay] at this;exact this.1
   refine⟨b7.2 fun x hx=>b7.2 fun t ht=>?_,fun k hk=>(kS he k (by simpa using hk)).2 ⟨C k hk,J k hk⟩⟩;rw[Jm (he x hx)] at ht;have:=(JH kV mI (he x hx)).to t ht;rw[ct,kH];omega
def opsV(R:Nat)(c:Cert)(x:bS):Bool:=(x.op !=17||c.is.getD ((R:Int)+x.n).toNat false)&&qF c (cL x)
def pj(f:bd)(s:CS)(b:Nat)(x:bS)(k:Nat):Bool:=
 let p:=((cw f.blocks f.blocks.length b).getD k 0).toNat
 let c:=cA f.ag.length (f.ag.length+f.aU.length) s p
 c.any||(mF (f.blocks.getD p lS).fin b (eY f.ag.length (f.blocks.getD p lS).ins c)).is.getD (x.args.getD k 0).toNat false
def Bf(f:bd)(s:CS)(b:Nat)(x:bS):Bool:= !cx x||(range x.args.length).all (pj f s b x)
def yY(f:bd)(s:CS)(b:Nat)(l:List bS)(c:Cert)(j:Nat):Bool:=opsV f.ag.length (eY f.ag.length (l.take j) c) (l.getD j ez)&&Bf f s b (l.getD j ez)
def pg(f:bd)(s:CS)(b:Nat):Bool:=
 let c:=cA f.ag.length (f.ag.length+f.aU.length) s b
 let l:=(f.blocks.getD b lS).ins
 c.any||((range l.length).all (yY f s b l c)&&qF (eY f.ag.length l c) (cN (f.blocks.getD b lS).fin))
def KV(f:bd):Int:=if tV f=true then(if(range f.blocks.length).all (pg f (iq f.blocks f.args.toNat))=true then 0 else 81) else 80
theorem KZ{R n:Nat}(J:R<=n){w:List Int}(C:eE w):∀ {rs:List Int} {ok:Bool},(∀ r∈rs,∃ i:Nat,i<R/\r=i)->ik w ok rs=(ok&&qF ⟨false,cz R n w⟩ rs)
 |[],ok,_=>by simp[ik,qF]
 |r::rs,ok,h=>by
  obtain⟨i,hi,e⟩:=h r oS;have ih:=KZ J C (rs:=rs) (ok:=ok&&kD w r.toNat) fun r hr=>h r (by simp[hr])
  have h1:(cz R n w).getD r.toNat false=kD w r.toNat:=by
   rw[e,dX,getD_some (sF oG),xK C.all];unfold gk;rw[if_pos hi]
  unfold ik qF at ih ⊢;rw[List.foldl_cons,ih,List.all_cons,h1,Bool.and_assoc]
theorem RW{R n:Nat}(hR:R<=1200)(hn:n<=R+60)(C:R<=n):∀ {l:List bS} (_:∀ x∈l,yX R n x/\Hx R n x) {w:List Int} {ok:Bool} (_:eE w) (_:lX R n w),
 (l.foldl lC (w,ok)).2=(ok&&(range l.length).all fun j=>opsV R (eY R (l.take j) ⟨false,cz R n w⟩) (l.getD j ez))
 |[],_,w,ok,_,_=>by simp
 |x::l,h,w,ok,hw,ho=>by
  obtain⟨O,J⟩:=h x oS;obtain⟨h1,h2,X⟩:=QO hR hn C O hw ho;have ih:=RW hR hn C (l:=l) (ok:=(lC (w,ok) x).2) (fun y hy=>h y (by simp[hy])) h2 X;rw[List.foldl_cons];show(l.foldl lC (vV w x,(lC (w,ok) x).2)).2=_;rw[ih,List.length_cons,List.range_succ_eq_map,List.all_cons,List.all_map]
  have h0:(lC (w,ok) x).2=(ok&&opsV R ⟨false,cz R n w⟩ x):=by
   show(ik w ok (cL x)&&_)=_;rw[KZ C hw J.r,Bool.and_assoc];congr 1;unfold opsV;rw[Bool.and_comm];congr 1;by_cases M:x.op=17
   .obtain⟨i,hi,e⟩:=J.s M;have U:((R:Int)+x.n).toNat=R+i:=by omega
    have e2:(kG x.n).toNat=gk R (R+i):=by unfold kG gk;rw[if_neg oG];omega
    rw[U,e2,getD_some (sF oG),xK hw.all]
   .have:(x.op !=17)=true:=by simpa using M
    rw[this];rfl
  rw[h0,Bool.and_assoc];congr 2;refine List.all_congr rfl fun j=>?_;show _=opsV R (eY R ((x::l).take (j+1)) _) ((x::l).getD (j+1) ez);unfold eY;rw[List.take_succ_cons,List.foldl_cons,h1];rfl
theorem aaT{l:List bS}{P:bS->Bool}(h:∀ j,j<l.length->cx (l.getD j ez)=true->(l.take (j+1)).all cx=true):(range l.length).all (fun j=> !cx (l.getD j ez)||P (l.getD j ez))=(l.takeWhile cx).all P:=by
 rw[Bool.eq_iff_iff,b7,b7];constructor
 .intro ha y hy;have C:y∈l:=List.takeWhile_sublist _ |>.subset hy;have hp:cx y=true:=b7.1 List.all_takeWhile y hy;obtain⟨j,hj⟩:=dY C;have:=ha j (by simpa using(bZ.1 hj).1);rw[getD_some hj,hp] at this;simpa using this
 .intro ha j hj;have aj:j<l.length:=by simpa using hj
  have hx:l[j]? =some l[j]:=bB aj;have h1:=h j aj;rw[getD_some hx] at h1 ⊢;cases hp:cx l[j] with
  |false=>rfl
  |true=>
   have h2:=b7.1 (h1 hp)
   have J:l.takeWhile cx=l.take (j+1)++(l.drop (j+1)).takeWhile cx:=by
    conv=>lhs;rw[<- List.take_append_drop (j+1) l]
    exact List.takeWhile_append_of_pos h2
   have:P l[j]=true:=ha _ (by
    rw[J,List.mem_append];left
    exact cX (i:=j) (by rw[List.getElem?_take,if_pos oG,hx]))
   rw[this];rfl
structure G6(f:bd):Prop where
 ok:Gv f
 sl:f.aU.length<=60
 ins:∀ b∈f.blocks,∀ x∈b.ins,yX f.ag.length (f.ag.length+f.aU.length) x/\Hx f.ag.length (f.ag.length+f.aU.length) x
 Ia:∀ (k:Nat) b,f.blocks[k]? =some b->∀ (j:Nat) x,b.ins[j]? =some x->cx x=true->x.args.length=(cw f.blocks f.blocks.length k).length/\(b.ins.take (j+1)).all cx=true
 wr:∀ b∈f.blocks,eu b.fin= -1\/∃ i:Nat,i<f.ag.length/\eu b.fin=i
 rd:∀ b∈f.blocks,∀ r∈cN b.fin,∃ i:Nat,i<f.ag.length/\r=i
 ed:∀ b∈f.blocks,eO b.fin=dh b.fin/\o9 b.fin=nextR b.fin
 ar:∃ a:Nat,f.args=a/\a<=f.ag.length
theorem T7{f:bd}(h:nZ f=true):G6 f:=by
 have J:=SQ h;have hd:=h;unfold nZ at hd;simp only[ay] at hd;obtain⟨h1,h2,_,X,_⟩:=hd
 have mI:pY f=true:=by
  unfold ni at h1;simp only[ay] at h1;exact h1.2.2.1
 have U:∃ a:Nat,f.args=a/\a<=f.ag.length:=by
  unfold ni at h1;simp only[ay,kH] at h1;have:=h1.2.1;refine⟨f.args.toNat,oG,?_⟩;have:=this.2;split at this<;>omega
 have jV:∀ k∈f.aU,k=1\/k=2:=fun k hk=>by
  unfold p8 at h2;simp only[ay] at h2;have C:=h2.2.2.1;simp only[eV,Bool.not_eq_true',List.any_eq_false] at C;have:=C k hk;simp[mu] at this;omega
 have he:∀ b∈f.blocks,jG f b.fin=true:=fun b hb=>by
  obtain⟨k,hk⟩:=dY hb;have:=b7.1 X k (by simpa using(bZ.1 hk).1);unfold kq at this;simp only[getD_some hk,ay] at this;exact this.1
 have M:∀ (k:Nat) b,f.blocks[k]? =some b->∀ (j:Nat) x,b.ins[j]? =some x->dM f k (cw f.blocks f.blocks.length k).length x=true/\(cx x=true->(b.ins.take (j+1)).all cx=true):=fun k b hb j x hx=>by
  have:=J.right k b hb j x hx;rw[EV,ay] at this;refine⟨by rw[RT jV];exact this.1,fun hp=>?_⟩;have C:=this.2;rw[hp] at C;simpa using C
 have O:∀ b∈f.blocks,gJ f b.fin=true:=fun b hb=>by rw[Km mI];exact he b hb
 refine⟨J,J.aU.2,fun b hb x hx=>?_,fun k b hb j x hx hp=>?_,fun b hb=>(Kj (O b hb)).1,fun b hb=>(Kj (O b hb)).2.1,fun b hb=>⟨Jm (he b hb),QQ (he b hb)⟩,U⟩
 .obtain⟨k,hk⟩:=dY hb;obtain⟨j,hj⟩:=dY hx;have:=RU J.aU.1 (M k b hk j x hj).1;exact⟨this.1,this.2.1⟩
 .have:=RU J.aU.1 (M k b hb j x hx).1;have C:=this.2.2 (by simpa[cx] using hp);exact⟨oG,(M k b hb j x hx).2 hp⟩
theorem Zh{f:bd}(h:G6 f):pf f.ag.length (f.ag.length+f.aU.length) f.blocks.length (iq f.blocks f.args.toNat):=by
 obtain⟨a,ha,rO⟩:=h.ar;have hR:=h.ok.ag;have hS:=h.sl;have hi:=PJ (R:=f.ag.length) (n:=f.ag.length+f.aU.length) (args:=a) hR oG oG h.ok.pos rO;rw[ha,dX];unfold iq;refine(QL (J:=pf f.ag.length (f.ag.length+f.aU.length) f.blocks.length) h.ok.bJ (fun s hs hj=>aaO (J:=pf f.ag.length (f.ag.length+f.aU.length) f.blocks.length) h.ok.bJ (fun s h=>RL h false) (fun s k hs hj=>?_) hs hj) _ _ hi.1.ok hi.1 (Nat.lt_succ_self _)).2.2;refine abS (J:=pf f.ag.length (f.ag.length+f.aU.length) f.blocks.length) h.ok.bJ hs hj fun x hx hr u hu O t ht=>?_;have hk:k<f.blocks.length:=(bZ.1 hx).1;have C:=cX hx;have M:=(h.ok.bJ x C).to t ht;obtain⟨t,rfl⟩:=ic M.1;obtain⟨_,U,X⟩:=Cm hR oG oG (ok:=true) (fun y hy=>(h.ins x C y hy).1) (hs.mh hk) (hj.yes k hk hr);exact(RM hR oG oG O (h.ed x C).1 (h.wr x C) oG U X).1
theorem QR{f:bd}(h:G6 f){b:Nat}(hb:b<f.blocks.length):pg f (iq f.blocks f.args.toNat) b=qK f.blocks (iq f.blocks f.args.toNat) b:=by
 have M:=Zh h;have hR:=h.ok.ag;have hS:=h.sl;generalize iq f.blocks f.args.toNat=s at M ⊢;have hx:f.blocks[b]? =some f.blocks[b]:=bB hb;have J:f.blocks[b]∈f.blocks:=df _;unfold pg qK;simp only[getD_some hx];have yR:=h.Ia b _ hx;generalize f.blocks[b]=x at hx J yR;cases oU:s.re.getD b false with
 |false=>
  have:cA f.ag.length (f.ag.length+f.aU.length) s b=⟨true,replicate (f.ag.length+f.aU.length) false⟩:=by unfold cA;rw[oU];rfl
  rw[this];rfl
 |true=>
  have hc:cA f.ag.length (f.ag.length+f.aU.length) s b=⟨false,cz f.ag.length (f.ag.length+f.aU.length) (s.aP.getD b [])⟩:=by unfold cA;rw[oU];rfl
  have hw:=M.ok.mh hb;have ho:=M.yes b hb oU;rw[hc];generalize s.aP.getD b []=w at hw ho;have h1:=RW hR oG oG (h.ins x J) (ok:=true) hw ho;obtain⟨h2,h3,h4⟩:=Cm hR oG oG (ok:=true) (fun y hy=>(h.ins x J y hy).1) hw ho;have h5:=KZ (R:=f.ag.length) (n:=f.ag.length+f.aU.length) oG h3 (ok:=(x.ins.foldl lC (w,true)).2) (h.rd x J)
  have h6:∀ j,j<x.ins.length->cx (x.ins.getD j ez)=true->(x.ins.take (j+1)).all cx=true:=fun j hj hp=>by
   have hy:x.ins[j]? =some x.ins[j]:=bB hj;rw[getD_some hy] at hp;exact(yR j _ hy hp).2
  have h7:=aaT (l:=x.ins) (P:=fun y=>(range y.args.length).all (pj f s b y)) h6
  have h8:(x.ins.takeWhile cx).all (fun y=>(range y.args.length).all (pj f s b y))=(x.ins.takeWhile cx).all (uw f.blocks s b):=by
   rw[Bool.eq_iff_iff,b7,b7]
   have Bu:∀ y∈x.ins.takeWhile cx,(range y.args.length).all (pj f s b y)=uw f.blocks s b y:=fun y hy=>by
    have Io:y∈x.ins:=List.takeWhile_sublist _ |>.subset hy;have hp:cx y=true:=b7.1 List.all_takeWhile y hy;obtain⟨j,hj⟩:=dY Io;have hlen:=(yR j y hj hp).1;unfold uw;rw[hlen,Bool.eq_iff_iff,b7,b7]
    have:∀ k∈range (cw f.blocks f.blocks.length b).length,pj f s b y k=su f.blocks s b y k:=fun k hk=>by
     have hk:k<(cw f.blocks f.blocks.length b).length:=by simpa using hk
     have hpk:(cw f.blocks f.blocks.length b)[k]? =some (cw f.blocks f.blocks.length b)[k]:=bB hk;unfold pj su;simp only[getD_some hpk]
     have O:(cw f.blocks f.blocks.length b)[k].toNat<f.blocks.length:=by
      have ah0:=(IZ (fun b hb t ht=>((h.ok.bJ b hb).to t ht).1) f.blocks.length b).2 _ (df hk);have:=h.ok.pos;omega
     generalize (cw f.blocks f.blocks.length b)[k].toNat=p at O;have tB:f.blocks[p]? =some f.blocks[p]:=bB O;have U:f.blocks[p]∈f.blocks:=df _;rw[getD_some tB];generalize f.blocks[p]=z at tB U;have X:y.args[k]? =some y.args[k]:=bB oG;have BO:=(h.ins x J y Io).2.p (by simpa[cx] using hp) _ (df (h:=by omega):y.args[k]∈y.args);rw[getD_some X];obtain⟨i,hi,e⟩:=BO;rw[e,dX];cases ze:s.re.getD p false with
     |false=>
      have:cA f.ag.length (f.ag.length+f.aU.length) s p=⟨true,replicate (f.ag.length+f.aU.length) false⟩:=by unfold cA;rw[ze];rfl
      rw[this];rfl
     |true=>
      have zE:cA f.ag.length (f.ag.length+f.aU.length) s p=⟨false,cz f.ag.length (f.ag.length+f.aU.length) (s.aP.getD p [])⟩:=by unfold cA;rw[ze];rfl
      obtain⟨q2,q3,q4⟩:=Cm hR oG oG (ok:=true) (fun y hy=>(h.ins z U y hy).1) (M.ok.mh O) (M.yes p O ze);obtain⟨r2,r3,r4⟩:=QP hR oG oG (h.ed z U).1 (h.wr z U) (to:=(b:Int)) q3 q4;rw[zE,q2,r2,getD_some (sF (show i<f.ag.length+f.aU.length by omega))];have mf:gk f.ag.length i=i:=by unfold gk;rw[if_pos hi]
      rw[mf];show(false||eb _ i)=(!true||kD _ i)
      rw[<- xK r3.all];rfl
    exact⟨fun h k hk=>by rw[<- this k hk];exact h k hk,fun h k hk=>by rw[this k hk];exact h k hk⟩
   exact⟨fun h y hy=>by rw[<- Bu y hy];exact h y hy,fun h y hy=>by rw[Bu y hy];exact h y hy⟩
  have h9:(range x.ins.length).all (yY f s b x.ins ⟨false,cz f.ag.length (f.ag.length+f.aU.length) w⟩)=((range x.ins.length).all (fun j=>opsV f.ag.length (eY f.ag.length (x.ins.take j) ⟨false,cz f.ag.length (f.ag.length+f.aU.length) w⟩) (x.ins.getD j ez))&&(range x.ins.length).all fun j=> !cx (x.ins.getD j ez)||(range (x.ins.getD j ez).args.length).all (pj f s b (x.ins.getD j ez))):=by
   rw[<- abY];rfl
  have mU:(jf x w).2=ik (x.ins.foldl lC (w,true)).1 (x.ins.foldl lC (w,true)).2 (cN x.fin):=rfl;rw[h9,h7,h8,h2,mU,h5,h1];simp only[Bool.true_and,Bool.false_or,Bool.not_true];generalize (range x.ins.length).all _=A;generalize (x.ins.takeWhile cx).all _=B;generalize qF _ _=C;cases A<;>cases B<;>cases C<;>rfl
theorem Y4(f:bd):KV f=vU f:=by
 unfold KV vU;rw[O2];split
 .rename_i h;have hf:=T7 h
  have:(range f.blocks.length).all (pg f (iq f.blocks f.args.toNat))=vH f.blocks f.args.toNat:=by
   unfold vH;rw[Bool.eq_iff_iff,b7,b7];exact⟨fun h k hk=>by rw[<- QR hf (by simpa using hk)];exact h k hk,fun h k hk=>by rw[QR hf (by simpa using hk)];exact h k hk⟩
  rw[this]
 .rfl
end Go.Argus
section
open Go Go.Abs Go.Proofs Go.Argus
namespace Go.Argus
def wi(f:bd):Bool:=lu f.name&&(!decide ((1200:Int)<f.ag.length)&&(!decide ((60:Int)<f.aU.length)&&(c8 f.args 0 (if(f.ag.length:Int)<6 then(f.ag.length:Int) else 6)&&(!decide (2<f.result)&&(!(f.iter&&decide (f.result=0))&&(!decide ((6:Int)<f.signals.length)&&c8 f.blocks.length 1 1200))))))
def sK(a:Int)(j:Nat)(x:Int):Bool:=mu 3 x||(decide ((j:Int)<a)&&decide (x=3))
theorem W8{f:bd}(h:wi f=false):qg f=false:=by
 unfold wi at h;unfold qg ni p8 pY;revert h;generalize lu f.name=a;generalize c8 f.args 0 _=b;generalize c8 f.blocks.length 1 1200=c;generalize nj f=d;generalize eV f.ag 3=e;generalize eV (f.ag.take f.args.toNat) 2=g;generalize eV f.aU 2=i;generalize f.signals.any _=j;grind
theorem XG{f:bd}(h:wi f=true)(hr:0<=f.result):ni f=true/\f.signals.length<=6/\f.ag.length<=1200/\f.aU.length<=60/\0<=f.args/\f.args<=f.ag.length:=by
 unfold wi at h;simp only[ay,Bool.not_eq_true',decide_eq_false_iff_not,kH] at h;obtain⟨h1,h2,M,C,U,J,X,O⟩:=h;have ha:f.args<=f.ag.length:=by have:=C.2;split at this<;>omega
 refine⟨?_,oG,oG,oG,C.1,ha⟩;unfold ni pY;simp only[ay,Bool.not_eq_true',decide_eq_false_iff_not,kH];refine⟨h1,C,?_,h2,M,O⟩;have:f.result=0\/f.result=1\/f.result=2:=by omega
 rcases this with e|e|e
 .simp[e] at J ⊢;exact J
 .simp[e]
 .simp[e]
theorem gS(a b:Bool):(if a=true then b else false)=(a&&b):=by cases a<;>rfl
theorem yg(a b:Bool):(if a=true then true else b)=(a||b):=by cases a<;>rfl
def o0(bs:List cE):List (List Int):=(range bs.length).map (lx bs bs.length)
theorem take_set{C:List Bool}{k n:Nat}{v:Bool}(h:C[k]? =some v)(hn:C.length=n):((C.take k++replicate (n - k) false).set k v)=C.take (k+1)++replicate (n - (k+1)) false:=by
 have hk:=(bZ.1 h).1;have hl:(C.take k).length=k:=by simp;omega
 rw[show n - k=n - (k+1)+1 by omega,List.replicate_succ,List.set_append_right _ _ oG,hl,Nat.sub_self,List.set_cons_zero,List.take_add_one,h];simp
def lW(R:Nat)(bs:List cE)(k:Nat):List Bool:=(range R).map fun(i:Nat)=>(lh bs k).any (·==(i:Int))
theorem Cb(R:Nat)(bs:List cE)(k:Nat):(lW R bs k).length=R:=by simp[lW]
theorem Fu{R i:Nat}{bs:List cE}{k:Nat}(h:i<R):(lW R bs k)[i]? =some ((lh bs k).any (·==(i:Int))):=by simp[lW,h]
theorem O1{bs:List cE}{k:Nat}{x:cE}(h:bs[k]? =some x):lh bs (k+1)=lh bs k++if x.fin.kind=7 then [x.fin.a] else []:=by
 unfold lh;rw[List.take_add_one,h,List.filter_append,List.map_append];congr 1;by_cases e:x.fin.kind=7<;>simp[e]
theorem abG{R:Nat}{bs:List cE}{k:Nat}{x:cE}(h:bs[k]? =some x)(e:¬ x.fin.kind=7):lW R bs (k+1)=lW R bs k:=by
 unfold lW;rw[O1 h,if_neg e,List.append_nil]
theorem aat{R i:Nat}{bs:List cE}{k:Nat}{x:cE}(h:bs[k]? =some x)(e:x.fin.kind=7)(ha:x.fin.a=i):lW R bs (k+1)=(lW R bs k).set i true:=by
 apply List.ext_getElem?;intro j;rw[List.getElem?_set];by_cases hj:j<R
 .rw[Fu hj,Fu hj,O1 h,if_pos e,List.any_append,ha,Cb];by_cases C:i=j
  .subst C;simp[hj]
  .rw[if_neg C];have:((i:Int)==(j:Int))=false:=by simp;omega
   simp[this]
 .have h1:∀ k,(lW R bs k)[j]? =none:=fun k=>List.getElem?_eq_none (by rw[Cb];omega);rw[h1,h1,Cb];split
  .rw[if_neg oG]
  .rfl
theorem YU(R:Nat)(bs:List cE):lW R bs 0=replicate R false:=by
 apply List.ext_getElem?;intro j;by_cases hj:j<R
 .rw[Fu hj];simp[lh,hj]
 .rw[List.getElem?_eq_none (by rw[Cb];omega),List.getElem?_eq_none oP]
def ot(p:Bool×D):List D:=[B p.1,p.2]
def dk(L:List (Bool×D)):List D:=L.flatMap ot
def DK(c:Cert):Bool×D:=(c.any,ld c.is)
theorem Ap:∀ L:List (Bool×D),(dk L).length=L.length*2
 |[]=>rfl
 |p::L=>by
  have:=Ap L;unfold dk at this ⊢;rw[List.flatMap_cons,List.length_append,this];simp[ot];omega
theorem JJ:∀ {L:List (Bool×D)} {t:Nat} {p:Bool×D},L[t]? =some p->∃ r,(dk L).drop (t*2)=B p.1::p.2::r
 |[],_,_,h=>by simp at h
 |p::L,0,q,h=>by
  simp at h;subst h;exact⟨dk L,rfl⟩
 |p::L,t+1,q,h=>by
  obtain⟨r,hr⟩:=JJ (L:=L) (t:=t) (by simpa using h);refine⟨r,?_⟩;rw[show(t+1)*2=t*2+2 by omega];show(B p.1::p.2::dk L).drop (t*2+2)=_;exact hr
theorem RI:∀ {L:List (Bool×D)} {t:Nat} (q:Bool×D),t<L.length->(dk L).take (t*2)++[B q.1,q.2]++(dk L).drop (t*2+2)=dk (L.set t q)
 |[],_,_,h=>by simp at h
 |p::L,0,q,h=>rfl
 |p::L,t+1,q,h=>by
  have ih:=RI (L:=L) (t:=t) q (by simpa using h);rw[show(t+1)*2=t*2+2 by omega,List.set_cons_succ];show B p.1::p.2::((dk L).take (t*2)++[B q.1,q.2]++(dk L).drop (t*2+2))=_;rw[ih];rfl
theorem IX{L:List (Bool×D)}{t:Nat}(q:Bool×D)(h:t<L.length):fj (dk L) (t*2) [B q.1,q.2]=dk (L.set t q):=RI q h
theorem acA{L:List (Bool×D)}{t:Nat}{p:Bool×D}(h:L[t]? =some p):∃ r,(dk L).drop (t*2+0)=B p.1::p.2::r:=JJ h
theorem RJ{L:List (Bool×D)}{t:Nat}{p:Bool×D}(h:L[t]? =some p):((dk L).drop (t*2)).take 2=[B p.1,p.2]:=by
 obtain⟨r,hr⟩:=JJ h;rw[hr];rfl
theorem FN(g:D->D)(hg:∀ b,g (B b)=B b):∀ L:List (Bool×D),(dk L).map g=dk (L.map fun p=>(p.1,g p.2))
 |[]=>rfl
 |p::L=>by
  show g (B p.1)::g p.2::(dk L).map g=B p.1::g p.2::_;rw[hg,FN g hg L];rfl
def iW(n N:Nat)(d:D):Nat->List (Bool×D)
 |0=>replicate N (false,.z)
 |k+1=>(true,d)::(replicate k (true,ld (replicate n false))++replicate (N - (k+1)) (false,.z))
theorem Jl{n N:Nat}{d:D}{k:Nat}(h:k<=N):(iW n N d k).length=N:=by
 cases k with
 |zero=>simp[iW]
 |succ k=>simp[iW];omega
theorem abH{n N:Nat}{d:D}(h:0<N):(iW n N d 0).set 0 (true,d)=iW n N d 1:=by
 obtain⟨M,rfl⟩:∃ M,N=M+1:=⟨N - 1,oG⟩
 simp[iW,List.replicate_succ]
theorem abI{n N:Nat}{d:D}{k:Nat}(h:k+1<N):(iW n N d (k+1)).set (k+1) (true,ld (replicate n false))=iW n N d (k+2):=by
 unfold iW;rw[List.set_cons_succ,show N - (k+1)=N - (k+1+1)+1 by omega,List.replicate_succ (n:=N - (k+1+1)),List.set_append_right _ _ oS,List.length_replicate,Nat.sub_self,List.set_cons_zero];show _=(true,d)::(replicate (k+1) _++_)
 rw[List.replicate_succ',List.append_assoc];rfl
def eW(R n N:Nat)(s:CS):List (Bool×D):=(range N).map fun k=>DK (cA R n s k)
theorem vA(R n N:Nat)(s:CS):(eW R n N s).length=N:=by simp[eW]
theorem zO{R n N:Nat}{s:CS}{k:Nat}(h:k<N):(eW R n N s)[k]? =some (DK (cA R n s k)):=by simp[eW,h]
theorem XP{R n N:Nat}{s s':CS}{t:Nat}{c:Cert}(h:∀ k,cA R n s' k=if k=t then c else cA R n s k):(eW R n N s).set t (DK c)=eW R n N s':=by
 apply List.ext_getElem?;intro j;rw[List.getElem?_set,vA];by_cases hj:j<N
 .rw[zO hj,zO hj,h j];by_cases e:t=j
  .subst e;simp[hj]
  .rw[if_neg e,if_neg fun h=>e h.symm]
 .have h1:∀ s,(eW R n N s)[j]? =none:=fun s=>by simp[eW];omega
  rw[h1,h1];split
  .rw[if_neg oG]
  .rfl
def CM(f:bd)(s:CS):D:=.sl (dk (eW f.ag.length (f.ag.length+f.aU.length) f.blocks.length s)) f.blocks.length
theorem IY{R n:Nat}{s:CS}{k:Nat}:(cA R n s k).is.length=n:=by
 unfold cA;split
 .exact Cl ..
 .simp
def pd(a b:Cert)(q:Nat):Bool:=(a.any==b.any)&&(range q).all fun i=>a.is.getD i false==b.is.getD i false
theorem XQ(a b:Cert)(q:Nat):pd a b (q+1)=(pd a b q&&(a.is.getD q false==b.is.getD q false)):=by
 unfold pd;rw[List.range_succ,List.all_append,Bool.and_assoc];simp
theorem YZ{a b:Cert}{n:Nat}(ha:a.is.length=n)(hb:b.is.length=n):pd a b n=true↔a.any=b.any/\a.is=b.is:=by
 unfold pd;rw[ay,beq_iff_eq,b7];refine and_congr_right fun _=>⟨fun h=>?_,fun h k hk=>by rw[h];simp⟩
 apply List.ext_getElem?;intro j;by_cases hj:j<n
 .have:=h j (by simpa using hj);have h1:a.is[j]? =some a.is[j]:=bB oG;have h2:b.is[j]? =some b.is[j]:=bB oG;rw[getD_some h1,getD_some h2,beq_iff_eq] at this;rw[h1,h2,this]
 .rw[List.getElem?_eq_none oG,List.getElem?_eq_none oG]
theorem QD:∀ n:Nat,dq n [B false,.z]=dk (replicate n (false,.z))
 |0=>rfl
 |n+1=>by
  have:=QD n;unfold dq at this ⊢;rw[List.replicate_succ,List.replicate_succ,List.flatten_cons,this];rfl
theorem RK:∀ {L:List (Bool×D)},(∀ p∈L,Tr p.2)->∀ x∈dk L,Tr x
 |[],_,x,h=>by simp[dk] at h
 |p::L,hp,x,h=>by
  have h:x∈B p.1::p.2::dk L:=h;rcases List.mem_cons.1 h with rfl|h
  .exact .s _
  .rcases List.mem_cons.1 h with rfl|h
   .exact hp p oS
   .exact RK (fun q hq=>hp q (by simp[hq])) x h
theorem aaw(f:bd)(s:CS):Tr (CM f s):=.sl (RK fun p hp=>by
 obtain⟨k,_,rfl⟩:=List.mem_map.1 hp
 exact .sl (.map fun _=>.s _))
theorem aax{n N i:Nat}{cs:List D}{sz:Nat}(h:i≠2)(k:Nat):(iW n N (.rs 2 0 n) k).map (fun p=>(p.1,sub (dG i cs sz) p.2))=iW n N (.rs 2 0 n) k:=by
 cases k with
 |zero=>simp only[iW,List.map_replicate];rfl
 |succ k=>
  simp only[iW,List.map_cons,List.map_append,List.map_replicate,Af (Ne.symm h)];rfl
theorem abJ{n N i k:Nat}(h:i≠2)(hk:k+1<N):(dk ((iW n N (.rs 2 0 n) (k+1)).set (k+1) (true,.rs i 0 n))).map (sub (dG i ((replicate n false).map B) 1))=dk (iW n N (.rs 2 0 n) (k+2)):=by
 rw[FN _ (fun _=>rfl),List.map_set,aax h,Dc,List.drop_zero,dO oS, <- abI hk];congr 3;show _=D.sl _ _;rw[List.length_replicate]
def ou(n N:Nat):List (Bool×D):=replicate (N - 1) (true,ld (replicate n false))
theorem abK{n N:Nat}{d:D}(h:0<N):iW n N d N=(true,d)::ou n N:=by
 obtain⟨M,rfl⟩:∃ M,N=M+1:=⟨N - 1,oG⟩
 simp[iW,ou]
theorem PI{n N:Nat}(h:0<N):(ou n N).length+1=N:=by simp[ou];omega
theorem ahT{n N i:Nat}{cs:List D}{sz:Nat}:(ou n N).map (fun p=>(p.1,sub (dG i cs sz) p.2))=ou n N:=by
 unfold ou;rw[List.map_replicate];rfl
theorem W9{R n N args:Nat}(h0:cA R n (kf N args) 0=⟨false,replicate args true++replicate (n - args) false⟩)(h1:∀ k,0<k->k<N->cA R n (kf N args) k=⟨true,replicate n false⟩)(C:0<N):
 eW R n N (kf N args)=(false,ld (replicate args true++replicate (n - args) false))::ou n N:=by
 apply List.ext_getElem?;intro j;by_cases hj:j<N
 .rw[zO hj];cases j with
  |zero=>rw[h0];rfl
  |succ j=>
   rw[h1 _ oG hj,List.getElem?_cons_succ];unfold ou;rw[List.getElem?_replicate,if_pos oG];rfl
 .rw[List.getElem?_eq_none (by rw[vA];omega),List.getElem?_eq_none (by have:=PI (n:=n) C;simp;omega)]
theorem JK{R n N i sz:Nat}{cs:List D}{e:TypeId}{s:CS}:Row.sub (dG i cs sz) (.cells (dk (eW R n N s)) e)=.cells (dk (eW R n N s)) e:=by
 refine congrArg (fun c=>Row.cells c e) ((FN _ (fun _=>rfl) _).trans (congrArg dk ?_));unfold eW;rw[List.map_map];rfl
def LO(f:bd)(n N:Nat):Nat->St
 |0=>⟨aH [(1,.pt (a6 f)),(3,I n),(4,.rs 1 0 N),(5,I (0:Nat))],aby [(1,.cells (dk (iW n N (.rs 2 0 n) 0)) 99)],2⟩
 |k+1=>⟨aH [(1,.pt (a6 f)),(3,I n),(4,.rs 1 0 N),(5,I (k+1:Nat))],aby [(1,.cells (dk (iW n N (.rs 2 0 n) (k+1))) 99),(2,.cells ((replicate n false).map B) 4)],k+3⟩
end Go.Argus
namespace Go.Proofs.Tryz.K
theorem Bc{f:bd}(hs:CY f):ax prog 148 [.agg (a6 f)] (B (qg f)):=by
 have yT:=yT hs.nm;have gQ:∀ {n a b:Int},ax prog 82 [I n,I a,I b] (B (c8 n a b)):=fun {n a b}=>gQ;refine bP afo (.cons (.agg (oY f)) .nil) (Tr.s _) ?_;rw[afp];refine aE ?_;refine af ?_;refine ab (bj (cr [(0,a6 f,26)] eH (l:=[(1,.pt (a6 f))]) eH) (aV (al ?_)));refine af ?_;refine cl yT ?_;refine SN9 ?_;refine cT ?_;refine af ?_;refine bQ rfl rfl (Tc rfl rfl) (fun hc=>⟨ak,rfl⟩) ?_;refine gc gQ ?_;refine SN9 ?_;refine SN9 ?_;refine cT ?_;refine gc gQ ?_;refine af ?_;refine ab (dI rfl (fun h=>?_) fun h=>dL (aV (aE ?_)))
 .refine aV (al ?_);refine SS ?_;refine ab (fN (ap (d:=B false) rfl ?_))
  have:wi f=false:=by
   revert h;unfold wi;generalize lu f.name=a;generalize c8 f.args 0 _=b;generalize c8 f.blocks.length 1 1200=c;generalize f.iter=d;grind
  rw[W8 this]
 have hA:wi f=true:=by
  revert h;unfold wi;generalize lu f.name=a;generalize c8 f.args 0 _=b;generalize c8 f.blocks.length 1 1200=c;generalize f.iter=d;grind
 obtain⟨h1,h6,hR,hS,M,haR⟩:=XG hA hs.VO;clear h hA;obtain⟨a,ha⟩:=ic M
 have hV:qg f=(eV f.ag 3&&(eV (f.ag.take a) 2&&(eV f.aU 2&&((!f.signals.any fun s=> !isName s)&&nj f)))):=by
  rw[qg,h1,p8,ha,dX,show decide ((6:Int)<f.signals.length)=false from decide_eq_false oG];simp only[Bool.true_and,Bool.not_false,Bool.and_assoc]
 rw[hV];clear hV h1
 have X:∀ (j:Nat) x,f.ag[j]? =some x->sK a j x=true->(eV f.ag 3&&(eV (f.ag.take a) 2&&(eV f.aU 2&&((!f.signals.any fun s=> !isName s)&&nj f))))=false:=fun j x hx hb=>by
  unfold sK at hb;rw[Bool.or_eq_true] at hb;rcases hb with hb|hb
  .have:eV f.ag 3=false:=by
    unfold eV;rw[List.any_eq_true.2 ⟨x,cX hx,hb⟩];rfl
   rw[this];rfl
  .have hb:j<a/\x=3:=by simpa using hb
   have:eV (f.ag.take a) 2=false:=by
    unfold eV;rw[List.any_eq_true.2 ⟨x,cX (i:=j) (by rw[List.getElem?_take,if_pos hb.1,hx]),by rw[hb.2];rfl⟩];rfl
   rw[this,Bool.false_and,Bool.and_false]
 have U:(∀ (j:Nat) x,f.ag[j]? =some x->sK a j x=false)->eV f.ag 3=true/\eV (f.ag.take a) 2=true:=fun h=>by
  constructor
  .unfold eV;rw[Bool.not_eq_true',List.any_eq_false];intro x hx;obtain⟨j,hj⟩:=dY hx;have:=h j x hj;unfold sK at this;rw[Bool.or_eq_false_iff] at this;rw[this.1];simp
  .unfold eV;rw[Bool.not_eq_true',List.any_eq_false];intro x hx;obtain⟨j,hj⟩:=dY hx;have tD:j<a:=by have:=(bZ.1 hj).1;simp at this;omega
   rw[List.getElem?_take,if_pos tD] at hj;have:=h j x hj;unfold sK mu at this;simp[tD] at this;simp[mu];omega
 refine SS ?_
 refine ab (dA (fun s=>aR prog s ⟨aH [(1,.pt (a6 f))],fun _=>none,1⟩/\eV f.ag 3=true/\eV (f.ag.take a) 2=true) (eX (α:=Nat) (fun k=>⟨aH [(1,.pt (a6 f)),(3,I k)],fun _=>none,1⟩)
  (fun k=>k<=f.ag.length/\∀ j x,j<k->f.ag[j]? =some x->sK a j x=false) (fun k=>f.ag.length - k) 0 (aq eH) ⟨oG,fun j y hj=>by omega⟩ ?_) ?_)
 .rintro k ⟨hk,hinv⟩;refine bH ?_;refine ab ⟨_,rfl,fun h=>?_,fun h=>?_⟩
  .have aj:k<f.ag.length:=by simpa using h
   have hx:f.ag[k]? =some f.ag[k]:=bB aj;have pz:=X k _ hx
   have w8:sK a k f.ag[k]=false->∀ j y,j<k+1->f.ag[j]? =some y->sK a j y=false:=fun h j y hj hy=>by
    by_cases e:j=k
    .subst e;rw[hx] at hy;cases hy;exact h
    .exact hinv j y oG hy
   generalize f.ag[k]=x at hx pz w8;refine ws ?_;refine SN9 ?_;refine SN9 ?_;refine cT ?_;refine af ?_;refine ab (yC rfl (fun hp=>?_) fun hp=>?_)
   .refine ws ?_;refine SS ?_;refine ab (bh (dp (aY (ap (d:=B false) rfl ?_))));rw[pz (by revert hp;unfold sK mu;rw[ha];grind)]
   .refine eC ?_;refine aB ?_;refine ab (bD (k+1) (aq eH) ⟨oG,w8 (by revert hp;unfold sK mu;rw[ha];grind)⟩ oG)
  .have bL:¬ k<f.ag.length:=by simpa using h
   exact⟨aq eH,U fun j x hx=>hinv j x (by have:=(bZ.1 hx).1;omega) hx⟩
 rintro s ⟨hg,e1,e2⟩;clear X U;rw[e1,e2,Bool.true_and,Bool.true_and];refine⟨_,hg,aV (aE ?_)⟩;refine SS ?_
 refine ab (dA (fun s=>aR prog s ⟨aH [(1,.pt (a6 f))],fun _=>none,1⟩/\eV f.aU 2=true) (eX (α:=Nat) (fun k=>⟨aH [(1,.pt (a6 f)),(4,I k)],fun _=>none,1⟩)
  (fun k=>k<=f.aU.length/\∀ (j:Nat) x,j<k->f.aU[j]? =some x->mu 2 x=false) (fun k=>f.aU.length - k) 0 (aq eH) ⟨oG,fun j y hj=>by omega⟩ ?_) ?_)
 .rintro k ⟨hk,hinv⟩;refine bH ?_;refine ab ⟨_,rfl,fun h=>?_,fun h=>?_⟩
  .have aj:k<f.aU.length:=by simpa using h
   have hx:f.aU[k]? =some f.aU[k]:=bB aj;generalize f.aU[k]=x at hx;refine ws ?_;refine SN9 ?_;refine bH ?_;refine ab (yC rfl (fun hp=>?_) fun hp=>?_)
   .refine ws ?_;refine SS ?_;refine ab (bh (dp (aY (ap (d:=B false) rfl ?_))))
    have:eV f.aU 2=false:=by
     unfold eV;rw[List.any_eq_true.2 ⟨x,cX hx,by revert hp;unfold mu;grind⟩];rfl
    rw[this];rfl
   .refine eC ?_;refine aB ?_;refine ab (bD (k+1) (aq eH) ⟨oG,fun j y hj hy=>?_⟩ oG);by_cases e:j=k
    .subst e;rw[hx] at hy;cases hy;revert hp;unfold mu;grind
    .exact hinv j y oG hy
  .have bL:¬ k<f.aU.length:=by simpa using h
   refine⟨aq eH,?_⟩;unfold eV;rw[Bool.not_eq_true',List.any_eq_false];intro x hx;obtain⟨j,hj⟩:=dY hx;rw[hinv j x (by have:=(bZ.1 hj).1;omega) hj];simp
 rintro s ⟨hg,e3⟩;rw[e3,Bool.true_and];clear e1 e2 e3;have ak0:∀ b:Bool,b=(!(f.signals.any fun s=> !isName s)&&nj f)->b=((!f.signals.any fun s=> !isName s)&&nj f):=fun b h=>h
 have C:∀ (j:Nat) x,f.signals[j]? =some x->isName x=false->((!f.signals.any fun s=> !isName s)&&nj f)=false:=fun j x hx hb=>by
  rw[List.any_eq_true.2 ⟨x,cX hx,by rw[hb];rfl⟩];rfl
 have J:∀ (j:Nat) x y,f.signals[j]? =some x->f.signals[j+1]? =some y->Op.bytesLess x.toList y.toList=false->((!f.signals.any fun s=> !isName s)&&nj f)=false:=fun j x y hx hy hb=>by
  have:nj f=false:=by
   unfold nj;refine nU (k:=j) (by have:=(bZ.1 hy).1;omega) ?_;unfold sv;rw[getD_some hx,getD_some hy,hb]
  rw[this,Bool.and_false]
 refine⟨_,hg,aV (aE ?_)⟩;refine SS ?_
 refine ab (dA (fun s=>aR prog s ⟨aH [],fun _=>none,1⟩/\((!f.signals.any fun s=> !isName s)&&nj f)=true) (eX (α:=Nat) (fun k=>⟨aH [(1,.pt (a6 f)),(5,I k)],fun _=>none,1⟩)
  (fun k=>k<=f.signals.length/\(∀ (j:Nat) x,j<k->f.signals[j]? =some x->isName x=true)/\∀ (j:Nat) x y,j+1<k->f.signals[j]? =some x->f.signals[j+1]? =some y->Op.bytesLess x.toList y.toList=true) (fun k=>f.signals.length - k) 0 (aq eH) ⟨oG,fun j y hj=>by omega,fun j x y hj=>by omega⟩ ?_) ?_)
 .rintro k ⟨hk,hinv,T2⟩;refine bH ?_;refine ab ⟨_,rfl,fun h=>?_,fun h=>?_⟩
  .have aj:k<f.signals.length:=by simpa using h
   have hx:f.signals[k]? =some f.signals[k]:=bB aj;have nG:=nG (hs.sg _ (df aj));generalize f.signals[k]=x at hx nG
   have O:isName x=true->∀ (j:Nat) y,j<k+1->f.signals[j]? =some y->isName y=true:=fun hq j y hj hy=>by
    by_cases e:j=k
    .subst e;rw[hx] at hy;cases hy;exact hq
    .exact hinv j y oG hy
   have VU:=C k x hx;generalize isName x=nb at nG O VU;refine eF XH ?_;cases nb with
   |false=>
    refine bH ?_;refine cl nG ?_;refine SN9 ?_;(iterate 2 refine z fun _ _=>?_);refine bH ?_;(iterate 2 refine z fun _ _=>?_);refine SS ?_;refine bX bY (yC rfl (fun hp=>?_) fun hp=>(by cases hp));refine ws ?_;refine SS ?_;refine ab (bh (dp (aY (ap (d:=B false) rfl ?_))));rw[VU rfl]
   |true=>
    cases k with
    |zero=>
     have s7:decide ((0:Int)<((0:Nat):Int))=false:=rfl;refine bH ?_;refine cl nG ?_;refine SN9 ?_;(iterate 2 refine z fun _ _=>?_);refine bH ?_;refine z fun _ _=>?_;refine af ?_;refine bX bY (yC rfl (fun hp=>(by cases hp)) fun hp=>eC ?_);refine aB ?_;refine ab (bD 1 (aq eH) ⟨oG,O rfl,fun j x y hj=>by omega⟩ oG)
    |succ i=>
     have s7:decide ((0:Int)<((i+1:Nat):Int))=true:=decide_eq_true oG;have wC:((i+1:Nat):Int) - 1=(i:Int)/\ -9223372036854775808<=(i:Int)/\(i:Int)<=9223372036854775807:=by omega
     have hy:f.signals[i]? =some f.signals[i]:=bB oG;generalize f.signals[i]=y at hy;have fI:=J i y x hy hx
     have wM:Op.bytesLess y.toList x.toList=true->∀ (j:Nat) x y,j+1<i+1+1->f.signals[j]? =some x->f.signals[j+1]? =some y->Op.bytesLess x.toList y.toList=true:=fun hq j u v hj hu hv=>by
      by_cases e:j=i
      .subst e;rw[hy] at hu;cases hu;rw[hx] at hv;cases hv;exact hq
      .exact T2 j u v oG hu hv
     refine bH ?_;refine cl nG ?_;refine SN9 ?_;refine cT ?_;refine af ?_;refine bX bY (yC rfl (fun hp=>?_) fun hp=>?_)
     .refine ws ?_;refine SS ?_;refine ab (bh (dp (aY (ap (d:=B false) rfl ?_))));rw[fI (by revert hp;generalize Op.bytesLess y.toList x.toList=q;cases q<;>simp)]
     .refine eC ?_;refine aB ?_;refine ab (bD (i+1+1) (aq eH) ⟨oG,O rfl,wM (by revert hp;generalize Op.bytesLess y.toList x.toList=q;cases q<;>simp)⟩ oG)
  .have bL:¬ k<f.signals.length:=by simpa using h
   refine⟨.forget _ _ _ _ fun _=>.inr rfl,?_⟩;rw[ay];constructor
   .rw[Bool.not_eq_true',List.any_eq_false];intro x hx;obtain⟨j,hj⟩:=dY hx;rw[hinv j x (by have:=(bZ.1 hj).1;omega) hj];simp
   .unfold nj;refine b7.2 fun j hj=>?_;have hj:j<f.signals.length - 1:=by simpa using hj
    have h1:f.signals[j]? =some f.signals[j]:=bB oG;have h2:f.signals[j+1]? =some f.signals[j+1]:=bB oG;unfold sv;rw[getD_some h1,getD_some h2];exact T2 j _ _ oG h1 h2
 rintro s ⟨hg,e4⟩;rw[e4];refine⟨_,hg,al ?_⟩;refine SS ?_;exact ab (ap rfl rfl)
section
variable{f:bd}{hd:D}(ht:Tr hd)(cK:hd.one=true)
include ht cK
theorem MU{x:bS}:ax prog 231 [.agg (b9 f hd),.agg (bF x)] (B (kW f x)):=by
 have bV:∀ {r k:Int},ax prog 226 [.agg (b9 f hd),I r,U8 k] (B (bw f r k)):=fun {r k}=>bV ht cK;have ta:∀ {l:List Int},ax prog 228 [.agg (b9 f hd),aX l] (B (gz f.ag l)):=fun {l}=>ta ht cK;refine bP afs (.cons (.agg (ux ht f)) (.cons (.agg (qP x)) .nil)) (Tr.s _) ?_;rw[aft];refine aE ?_;refine aB ?_;refine ab (bj (cr [(0,b9 f hd,206),(1,bF x,45)] eH (l:=[(2,.pt (b9 f hd)),(3,.pt (bF x))]) eH) (aV (al ?_)));refine af ?_;refine ab (mW ?_);refine fO (fun s=>aR prog s ⟨aH [(2,.pt (b9 f hd)),(3,.pt (bF x)),(6,U8 x.op),(7,B (aI [30,31,32,33,34] x.op))],fun _=>none,2⟩) (al ?_) fun s hg=>⟨_,hg,?_⟩
 .refine af ?_;refine ab (yC rfl (fun h=>bq (aq ⟨rfl,rfl,rfl,cZ h oC,trivial⟩)) fun M=>al ?_);refine af ?_;refine ab (yC rfl (fun h=>bq (aq ⟨rfl,rfl,rfl,cZ h oC,trivial⟩)) fun r6=>al ?_);refine af ?_;refine ab (yC rfl (fun h=>bq (aq ⟨rfl,rfl,rfl,cZ h oC,trivial⟩)) fun O=>al ?_);refine af ?_;refine ab (yC rfl (fun h=>bq (aq ⟨rfl,rfl,rfl,cZ h oC,trivial⟩)) fun U=>ln ?_);refine af ?_;refine ab (aq ⟨rfl,rfl,rfl,?_,trivial⟩);show D.s (.bool (x.op==34))=_;simp only[aI,List.any_cons,List.any_nil,M,r6,O,U,Bool.false_or,Bool.or_false]
 refine yC rfl (fun h0=>al ?_) fun h0=>al ?_
 .have cv:ax prog 225 [.agg (bF x),S ⟨#[116,97,98]⟩] (B (b8 x [116,97,98])):=cv oC;refine SS ?_;refine cl cv ?_;refine a7 ?_;refine gc bV ?_;refine bH ?_;refine gc bV ?_;refine bH ?_;refine gc bV ?_;refine af ?_;refine ab (bh (bR (aY (ap (d:=.s (.bool _)) rfl ?_))));have e:kW f x=(b8 x [116,97,98]&&(bw f x.to 119&&(bw f x.a 119&&bw f x.b 119))):=by rw[kW,if_pos h0]
  rw[e];simp only[gS,Bool.and_assoc,aL]
 refine af ?_;refine ab (yC rfl (fun h1=>al ?_) fun h1=>al ?_)
 .have cv:ax prog 225 [.agg (bF x),S ⟨#[97,98]⟩] (B (b8 x [97,98])):=cv oC;refine SS ?_;refine cl cv ?_;refine a7 ?_;refine gc bV ?_;refine bH ?_;refine gc bV ?_;refine af ?_;refine ab (bh (bR (aY (ap (d:=.s (.bool _)) rfl ?_))));have e:kW f x=(b8 x [97,98]&&(bw f x.a 114&&bw f x.b 118)):=by rw[kW,if_neg (by rw[h0];decide),if_pos (by simpa using h1)]
  rw[e];simp only[gS,Bool.and_assoc,aL]
 have h1:¬ x.op=35:=by simpa using h1
 refine af ?_;refine ab (yC rfl (fun h2=>al ?_) fun h2=>al ?_)
 .have cv:ax prog 225 [.agg (bF x),S ⟨#[116,97]⟩] (B (b8 x [116,97])):=cv oC;refine SS ?_;refine cl cv ?_;refine a7 ?_;refine gc bV ?_;refine bH ?_;refine gc bV ?_;refine af ?_;refine ab (bh (bR (aY (ap (d:=.s (.bool _)) rfl ?_))));have e:kW f x=(b8 x [116,97]&&(bw f x.to 118&&bw f x.a 114)):=by rw[kW,if_neg (by rw[h0];decide),if_neg h1,if_pos (by simpa using h2)]
  rw[e];simp only[gS,Bool.and_assoc,aL]
 have h2:¬ x.op=36:=by simpa using h2
 refine af ?_;refine ab (yC rfl (fun C=>al ?_) fun C=>al ?_)
 .have cv:ax prog 225 [.agg (bF x),S ⟨#[116,97,98]⟩] (B (b8 x [116,97,98])):=cv oC;refine SS ?_;refine cl cv ?_;refine a7 ?_;refine gc bV ?_;refine bH ?_;refine gc bV ?_;refine bH ?_;refine gc bV ?_;refine af ?_;refine ab (bh (bR (aY (ap (d:=.s (.bool _)) rfl ?_))));have e:kW f x=(b8 x [116,97,98]&&(bw f x.to 118&&(bw f x.a 114&&bw f x.b 119))):=by rw[kW,if_neg (by rw[h0];decide),if_neg h1,if_neg h2,if_pos (by simpa using C)]
  rw[e];simp only[gS,Bool.and_assoc,aL]
 have C:¬ x.op=37:=by simpa using C
 refine af ?_;refine ab (yC rfl (fun J=>al ?_) fun J=>mB (al ?_))
 .have cv:ax prog 225 [.agg (bF x),S ⟨#[97,98,108]⟩] (B (b8 x [97,98,108])):=cv oC;refine SS ?_;refine cl cv ?_;refine a7 ?_;refine gc bV ?_;refine bH ?_;refine gc bV ?_;refine SN9 ?_;refine af ?_;refine gc ta ?_;refine af ?_;refine ab (bh (bR (aY (ap (d:=.s (.bool _)) rfl ?_))));have e:kW f x=(b8 x [97,98,108]&&(bw f x.a 114&&(bw f x.b 119&&(aL x.args.length 1&&gz f.ag x.args)))):=by rw[kW,if_neg (by rw[h0];decide),if_neg h1,if_neg h2,if_neg C,if_pos (by simpa using J)]
  rw[e];simp only[gS,Bool.and_assoc,aL];rfl
 have J:¬ x.op=38:=by simpa using J
 refine SS ?_;refine ab (ap (d:=.s (.bool _)) rfl ?_);rw[kW,if_neg (by rw[h0];decide),if_neg h1,if_neg h2,if_neg C,if_neg J]
end
theorem rD{f:bd}{L:List (List Int)}{b:Nat}{A:List Int}{x:bS}(hb:L[b]? =some A)(hl:f.aU.length<=60)(hs:∀ k∈f.aU,k=1\/k=2)(hL:L.length<=100000):
 ax prog 151 [.agg (b9 f (di L)),.agg (bF x),I b] (B (dM f b A.length x)):=by
 have ht:=Fs L;have cK:(di L).one=true:=rfl;have bV:∀ {r k:Int},ax prog 226 [.agg (b9 f (di L)),I r,U8 k] (B (bw f r k)):=fun {r k}=>bV ht cK;have yU:∀ {a b:Int},ax prog 227 [.agg (b9 f (di L)),I a,I b] (B (kx f a b)):=fun {a b}=>yU ht cK;have ta:∀ {l:List Int},ax prog 228 [.agg (b9 f (di L)),aX l] (B (gz f.ag l)):=fun {l}=>ta ht cK;have Hu:∀ {n r:Int},ax prog 229 [.agg (b9 f (di L)),I n,I r] (B (lT f.ag f.aU r n)):=fun {n r}=>Hu ht cK hl hs;have gQ:∀ {n a b:Int},ax prog 82 [I n,I a,I b] (B (c8 n a b)):=fun {n a b}=>gQ;have br:∀ a∈[D.agg (b9 f (di L)),.agg (bF x),I b],Tr a:=.cons (.agg (ux ht f)) (.cons (.agg (qP x)) (.cons (.s _) .nil));refine qH T3.he br fun jr=>?_;have hlen:x.args.length<=maxLen:=((jr _ (List.mem_cons_of_mem _ (List.mem_cons_self ..))).agg (aX x.args) (by simp[bF])).sl.1;unfold maxLen at hlen;refine bP T3 br (Tr.s _) ?_;rw[afu];refine aE ?_;refine aB ?_;refine ab (bj (cr [(0,b9 f (di L),206),(1,bF x,45)] eH (l:=[(2,I b),(3,.pt (b9 f (di L))),(4,.pt (bF x))]) eH) (aV (al ?_)));refine af ?_;refine ab (mW ?_);refine ws ?_;refine af ?_;refine ab (yC rfl (fun h0=>?_) fun h0=>?_)
 .refine ws ?_;have cv:ax prog 225 [.agg (bF x),S ⟨#[116,110]⟩] (B (b8 x [116,110])):=cv oC;refine SS ?_;refine cl cv ?_;refine a7 ?_;refine gc bV ?_;refine a7 ?_;refine gc gQ ?_;refine af ?_;refine ab (bh (bR (aY (ap (d:=.s (.bool _)) rfl ?_))));have e:dM f b A.length x=(b8 x [116,110]&&(bw f x.to 119&&c8 x.n (-1000000000) 1000000000)):=by rw[dM,if_pos (by simpa using h0)]
  rw[e];simp only[gS,Bool.and_assoc,aL]
 have h0:¬ x.op=1:=by simpa using h0
 refine ws ?_;refine af ?_;refine ab (yC rfl (fun h1=>?_) fun h1=>?_)
 .refine ws ?_;have cv:ax prog 225 [.agg (bF x),S ⟨#[116,97]⟩] (B (b8 x [116,97])):=cv oC;refine SS ?_;refine cl cv ?_;refine cY ?_;refine gc yU ?_;refine af ?_;refine ab (bh (bR (aY (ap (d:=.s (.bool _)) rfl ?_))));have e:dM f b A.length x=(b8 x [116,97]&&kx f x.to x.a):=by rw[dM,if_neg h0,if_pos (by simpa using h1)]
  rw[e];simp only[gS,Bool.and_assoc,aL]
 have h1:¬ x.op=2:=by simpa using h1
 refine fO (fun s=>aR prog s ⟨aH [(2,I b),(3,.pt (b9 f (di L))),(4,.pt (bF x)),(9,U8 x.op),(37,B (aI [3,4,6,7] x.op))],fun _=>none,2⟩) (al ?_) fun s hg=>⟨_,hg,?_⟩
 .refine af ?_;refine ab (yC rfl (fun h=>bq (aq ⟨rfl,rfl,rfl,rfl,cZ h oC,trivial⟩)) fun e3=>al ?_);refine af ?_;refine ab (yC rfl (fun h=>bq (aq ⟨rfl,rfl,rfl,rfl,cZ h oC,trivial⟩)) fun e4=>al ?_);refine af ?_;refine ab (yC rfl (fun h=>bq (aq ⟨rfl,rfl,rfl,rfl,cZ h oC,trivial⟩)) fun e6=>ln ?_);refine af ?_;refine ab (aq ⟨rfl,rfl,rfl,rfl,?_,trivial⟩);show D.s (.bool (x.op==7))=_;simp only[aI,List.any_cons,List.any_nil,e3,e4,e6,Bool.false_or,Bool.or_false]
 refine yC rfl (fun h2=>al ?_) fun h2=>?_
 .have cv:ax prog 225 [.agg (bF x),S ⟨#[116,97,98]⟩] (B (b8 x [116,97,98])):=cv oC;refine SS ?_;refine cl cv ?_;refine a7 ?_;refine gc bV ?_;refine bH ?_;refine gc bV ?_;refine bH ?_;refine gc bV ?_;refine af ?_;refine ab (bh (bR (aY (ap (d:=.s (.bool _)) rfl ?_))));have e:dM f b A.length x=(b8 x [116,97,98]&&(bw f x.to 119&&(bw f x.a 119&&bw f x.b 119))):=by rw[dM,if_neg h0,if_neg h1,if_pos h2]
  rw[e];simp only[gS,Bool.and_assoc,aL]
 refine ws ?_;refine af ?_;refine ab (yC rfl (fun C=>?_) fun C=>?_)
 .refine ws ?_;have cv:ax prog 225 [.agg (bF x),S ⟨#[116,97,98]⟩] (B (b8 x [116,97,98])):=cv oC;refine SS ?_;refine cl cv ?_;refine a7 ?_;refine gc bV ?_;refine fS ?_;refine gc yU ?_;refine af ?_;refine ab (bh (bR (aY (ap (d:=.s (.bool _)) rfl ?_))));have e:dM f b A.length x=(b8 x [116,97,98]&&(bw f x.to 119&&kx f x.a x.b)):=by rw[dM,if_neg h0,if_neg h1,if_neg (by rw[h2];decide),if_pos (by simpa using C)]
  rw[e];simp only[gS,Bool.and_assoc,aL]
 have C:¬ x.op=5:=by simpa using C
 refine ws ?_;refine af ?_;refine ab (yC rfl (fun J=>?_) fun J=>?_)
 .refine ws ?_;have cv:ax prog 225 [.agg (bF x),S ⟨#[116,97]⟩] (B (b8 x [116,97])):=cv oC;refine SS ?_;refine cl cv ?_;refine a7 ?_;refine gc bV ?_;refine bH ?_;refine gc bV ?_;refine af ?_;refine ab (bh (bR (aY (ap (d:=.s (.bool _)) rfl ?_))));have e:dM f b A.length x=(b8 x [116,97]&&(bw f x.to 119&&bw f x.a 119)):=by rw[dM,if_neg h0,if_neg h1,if_neg (by rw[h2];decide),if_neg C,if_pos (by simpa using J)]
  rw[e];simp only[gS,Bool.and_assoc,aL]
 have J:¬ x.op=8:=by simpa using J
 refine ws ?_;refine af ?_;refine ab (yC rfl (fun M=>?_) fun M=>?_)
 .refine ws ?_;have cv:ax prog 225 [.agg (bF x),S ⟨#[116,110]⟩] (B (b8 x [116,110])):=cv oC;refine SS ?_;refine cl cv ?_;refine a7 ?_;refine gc bV ?_;refine a7 ?_;refine gc gQ ?_;refine af ?_;refine ab (bh (bR (aY (ap (d:=.s (.bool _)) rfl ?_))));have e:dM f b A.length x=(b8 x [116,110]&&(bw f x.to 114&&c8 x.n 0 1)):=by rw[dM,if_neg h0,if_neg h1,if_neg (by rw[h2];decide),if_neg C,if_neg J,if_pos (by simpa using M)]
  rw[e];simp only[gS,Bool.and_assoc,aL]
 have M:¬ x.op=9:=by simpa using M
 refine ws ?_;refine af ?_;refine ab (yC rfl (fun O=>?_) fun O=>?_)
 .refine ws ?_;have cv:ax prog 225 [.agg (bF x),S ⟨#[116,110,108]⟩] (B (b8 x [116,110,108])):=cv oC;refine SS ?_;refine cl cv ?_;refine a7 ?_;refine gc bV ?_;refine a7 ?_;refine gc gQ ?_;refine bH ?_;refine gc gQ ?_;refine bH ?_;refine gc ta ?_;refine af ?_;refine ab (bh (bR (aY (ap (d:=.s (.bool _)) rfl ?_))));have e:dM f b A.length x=(b8 x [116,110,108]&&(bw f x.to 114&&(c8 x.n 0 5&&(c8 x.args.length 1 6&&gz f.ag x.args)))):=by rw[dM,if_neg h0,if_neg h1,if_neg (by rw[h2];decide),if_neg C,if_neg J,if_neg M,if_pos (by simpa using O)]
  rw[e];simp only[gS,Bool.and_assoc,aL]
 have O:¬ x.op=10:=by simpa using O
 refine ws ?_;refine af ?_;refine ab (yC rfl (fun U=>?_) fun U=>?_)
 .refine ws ?_;have cv:ax prog 225 [.agg (bF x),S ⟨#[116,97,110]⟩] (B (b8 x [116,97,110])):=cv oC;refine SS ?_;refine cl cv ?_;refine a7 ?_;refine gc bV ?_;refine bH ?_;refine gc bV ?_;refine a7 ?_;refine gc gQ ?_;refine af ?_;refine ab (bh (bR (aY (ap (d:=.s (.bool _)) rfl ?_))));have e:dM f b A.length x=(b8 x [116,97,110]&&(bw f x.to 118&&(bw f x.a 114&&c8 x.n 0 5))):=by rw[dM,if_neg h0,if_neg h1,if_neg (by rw[h2];decide),if_neg C,if_neg J,if_neg M,if_neg O,if_pos (by simpa using U)]
  rw[e];simp only[gS,Bool.and_assoc,aL]
 have U:¬ x.op=11:=by simpa using U
 refine ws ?_;refine af ?_;refine ab (yC rfl (fun X=>?_) fun X=>?_)
 .refine ws ?_;have cv:ax prog 225 [.agg (bF x),S ⟨#[97,98,110]⟩] (B (b8 x [97,98,110])):=cv oC;refine SS ?_;refine cl cv ?_;refine a7 ?_;refine gc bV ?_;refine bH ?_;refine gc bV ?_;refine a7 ?_;refine gc gQ ?_;refine af ?_;refine ab (bh (bR (aY (ap (d:=.s (.bool _)) rfl ?_))));have e:dM f b A.length x=(b8 x [97,98,110]&&(bw f x.a 114&&(bw f x.b 118&&c8 x.n 0 5))):=by rw[dM,if_neg h0,if_neg h1,if_neg (by rw[h2];decide),if_neg C,if_neg J,if_neg M,if_neg O,if_neg U,if_pos (by simpa using X)]
  rw[e];simp only[gS,Bool.and_assoc,aL]
 have X:¬ x.op=12:=by simpa using X
 refine fO (fun s=>aR prog s ⟨aH [(2,I b),(3,.pt (b9 f (di L))),(4,.pt (bF x)),(9,U8 x.op),(180,B (aI [13,14] x.op))],fun _=>none,2⟩) (al ?_) fun s hg=>⟨_,hg,?_⟩
 .refine af ?_;refine ab (yC rfl (fun h=>bq (aq ⟨rfl,rfl,rfl,rfl,cZ h oC,trivial⟩)) fun vj=>ln ?_);refine af ?_;refine ab (aq ⟨rfl,rfl,rfl,rfl,?_,trivial⟩);show D.s (.bool (x.op==14))=_;simp only[aI,List.any_cons,List.any_nil,vj,Bool.false_or,Bool.or_false]
 refine yC rfl (fun h9=>al ?_) fun h9=>?_
 .have cv:ax prog 225 [.agg (bF x),S ⟨#[116,97]⟩] (B (b8 x [116,97])):=cv oC;refine SS ?_;refine cl cv ?_;refine a7 ?_;refine gc bV ?_;refine bH ?_;refine gc bV ?_;refine af ?_;refine ab (bh (bR (aY (ap (d:=.s (.bool _)) rfl ?_))));have e:dM f b A.length x=(b8 x [116,97]&&(bw f x.to 119&&bw f x.a 114)):=by rw[dM,if_neg h0,if_neg h1,if_neg (by rw[h2];decide),if_neg C,if_neg J,if_neg M,if_neg O,if_neg U,if_neg X,if_pos h9]
  rw[e];simp only[gS,Bool.and_assoc,aL]
 refine ws ?_;refine af ?_;refine ab (yC rfl (fun mU=>?_) fun mU=>?_)
 .refine ws ?_;have cv:ax prog 225 [.agg (bF x),S ⟨#[97]⟩] (B (b8 x [97])):=cv oC;refine SS ?_;refine cl cv ?_;refine a7 ?_;refine gc bV ?_;refine af ?_;refine ab (bh (bR (aY (ap (d:=.s (.bool _)) rfl ?_))));have e:dM f b A.length x=(b8 x [97]&&bw f x.a 119):=by rw[dM,if_neg h0,if_neg h1,if_neg (by rw[h2];decide),if_neg C,if_neg J,if_neg M,if_neg O,if_neg U,if_neg X,if_neg (by rw[h9];decide),if_pos (by simpa using mU)]
  rw[e];simp only[gS,Bool.and_assoc,aL]
 have mU:¬ x.op=15:=by simpa using mU
 refine ws ?_;refine af ?_;refine ab (yC rfl (fun r7=>?_) fun r7=>?_)
 .refine ws ?_;have cv:ax prog 225 [.agg (bF x),S ⟨#[97]⟩] (B (b8 x [97])):=cv oC;refine SS ?_;refine cl cv ?_;refine a7 ?_;refine gc bV ?_;refine af ?_;refine ab (bh (bR (aY (ap (d:=.s (.bool _)) rfl ?_))));have e:dM f b A.length x=(b8 x [97]&&bw f x.a 105):=by rw[dM,if_neg h0,if_neg h1,if_neg (by rw[h2];decide),if_neg C,if_neg J,if_neg M,if_neg O,if_neg U,if_neg X,if_neg (by rw[h9];decide),if_neg mU,if_pos (by simpa using r7)]
  rw[e];simp only[gS,Bool.and_assoc,aL]
 have r7:¬ x.op=16:=by simpa using r7
 refine ws ?_;refine af ?_;refine ab (yC rfl (fun tE=>?_) fun tE=>?_)
 .refine ws ?_;have cv:ax prog 225 [.agg (bF x),S ⟨#[116,110]⟩] (B (b8 x [116,110])):=cv oC;refine SS ?_;refine cl cv ?_;refine cY ?_;refine gc Hu ?_;refine af ?_;refine ab (bh (bR (aY (ap (d:=.s (.bool _)) rfl ?_))));have e:dM f b A.length x=(b8 x [116,110]&&lT f.ag f.aU x.to x.n):=by rw[dM,if_neg h0,if_neg h1,if_neg (by rw[h2];decide),if_neg C,if_neg J,if_neg M,if_neg O,if_neg U,if_neg X,if_neg (by rw[h9];decide),if_neg mU,if_neg r7,if_pos (by simpa using tE)]
  rw[e];simp only[gS,Bool.and_assoc,aL]
 have tE:¬ x.op=17:=by simpa using tE
 refine ws ?_;refine af ?_;refine ab (yC rfl (fun vt=>?_) fun vt=>?_)
 .refine ws ?_;have cv:ax prog 225 [.agg (bF x),S ⟨#[97,110]⟩] (B (b8 x [97,110])):=cv oC;refine SS ?_;refine cl cv ?_;refine cY ?_;refine gc Hu ?_;refine af ?_;refine ab (bh (bR (aY (ap (d:=.s (.bool _)) rfl ?_))));have e:dM f b A.length x=(b8 x [97,110]&&lT f.ag f.aU x.a x.n):=by rw[dM,if_neg h0,if_neg h1,if_neg (by rw[h2];decide),if_neg C,if_neg J,if_neg M,if_neg O,if_neg U,if_neg X,if_neg (by rw[h9];decide),if_neg mU,if_neg r7,if_neg tE,if_pos (by simpa using vt)]
  rw[e];simp only[gS,Bool.and_assoc,aL]
 have vt:¬ x.op=18:=by simpa using vt
 refine ws ?_;refine af ?_;refine ab (yC rfl (fun EC=>?_) fun EC=>?_)
 .have cv:ax prog 225 [.agg (bF x),S ⟨#[116,108]⟩] (B (b8 x [116,108])):=cv oC;have hv:dM f b A.length x=(!aL b 0&&(b8 x [116,108]&&(bw f x.to 118&&(aL x.args.length A.length&&x.args.all (kx f x.to))))):=by rw[dM,if_neg h0,if_neg h1,if_neg (by rw[h2];decide),if_neg C,if_neg J,if_neg M,if_neg O,if_neg U,if_neg X,if_neg (by rw[h9];decide),if_neg mU,if_neg r7,if_neg tE,if_neg vt,if_pos (by simpa using EC)]
  rw[hv];clear hv;have LM:=cv;have LN:= @bV x.to 118;have afv:= @yU x.to;generalize b8 x [116,108]=lv at LM ⊢;generalize bw f x.to 118=iv at LN ⊢;refine aV (eF XI ?_);have cv:=LM;have bV:=LN;by_cases Bq:b=0
  .have iO:((b:Int)==0)=true:=by simp[Bq]
   have e0:aL b 0=true:=by simp[aL,Bq]
   rw[e0];refine a7 ?_;refine gc cv ?_;refine cY ?_;refine gc bV ?_;refine SN9 ?_;refine bH ?_;refine bX bY (dI rfl (fun hp=>?_) fun hp=>(by cases hp));refine aV (al ?_);refine SS ?_;refine ab (fN (bR (aY (ap (d:=B false) rfl ?_))));rfl
  have iO:((b:Int)==0)=false:=by simp[Bq]
  have e0:aL b 0=false:=by simp[aL,Bq]
  rw[e0];refine a7 ?_;refine gc cv ?_;refine cY ?_;refine gc bV ?_;refine SN9 ?_;refine bH ?_;refine bX bY (dI rfl (fun hp=>?_) fun hp=>dL ?_)
  .refine aV (al ?_);refine SS ?_;refine ab (fN (bR (aY (ap (d:=B false) rfl ?_))))
   have:(lv&&(iv&&aL x.args.length A.length))=false:=by
    revert hp;cases lv<;>cases iv<;>simp[aL]
   revert this;generalize x.args.all (kx f x.to)=q;generalize aL x.args.length A.length=r;cases lv<;>cases iv<;>cases r<;>simp
  have yW:lv=true/\iv=true/\aL x.args.length A.length=true:=by
   revert hp;cases lv<;>cases iv<;>simp[aL]
  obtain⟨rfl,rfl,e1⟩:=yW;rw[e1];show AW _ _ _ _ (hZ _ (gE _ (lE _ _ (fun d _=>d=B (x.args.all (kx f x.to)))))) _;clear LM LN cv bV hp e1 e0 iO;refine aV (aE ?_);refine SS ?_
  refine ab (dA (fun s=>aR prog s ⟨aH [],fun _=>none,2⟩/\∀ (j:Nat) y,x.args[j]? =some y->kx f x.to y=true) (eX (α:=Nat) (fun k=>⟨aH [(3,.pt (b9 f (di L))),(4,.pt (bF x)),(7,I k)],fun _=>none,2⟩)
   (fun k=>k<=x.args.length/\∀ j y,j<k->x.args[j]? =some y->kx f x.to y=true) (fun k=>x.args.length - k) 0 (aq eH) ⟨oG,fun j y hj=>by omega⟩ ?_) ?_)
  .rintro k ⟨hk,hinv⟩;refine bH ?_;refine ab ⟨_,rfl,fun h=>?_,fun h=>?_⟩
   .have aj:k<x.args.length:=by simpa using h
    have hx:x.args[k]? =some x.args[k]:=bB aj;generalize x.args[k]=y at hx;have yU:= @afv y;refine eF XJ ?_;refine cT ?_;refine cl yU ?_;refine SS ?_;refine bX bY (yC rfl (fun hp=>?_) fun hp=>?_)
    .refine ws ?_;refine SS ?_;refine ab (bh (dp (aY (bR (aY (ap (d:=B false) rfl ?_))))));have:x.args.all (kx f x.to)=false:=List.all_eq_false.2 ⟨y,cX hx,by simpa using hp⟩;rw[this]
    .refine eC ?_;refine aB ?_;refine ab (bD (k+1) (aq eH) ⟨oG,fun j z hj hz=>?_⟩ oG);by_cases e:j=k
     .subst e;rw[hx] at hz;cases hz;simpa using hp
     .exact hinv j z oG hz
   .have bL:¬ k<x.args.length:=by simpa using h
    exact⟨.forget _ _ _ _ fun _=>.inr rfl,fun j y hy=>hinv j y (by have:=(bZ.1 hy).1;omega) hy⟩
  .rintro s ⟨hg,bT⟩;refine⟨_,hg,al ?_⟩;refine SS ?_;refine ab (bh (bR (aY (ap (d:=B true) rfl ?_))))
   have:x.args.all (kx f x.to)=true:=b7.2 fun y hy=>by
    obtain⟨j,hj⟩:=dY hy;exact bT j y hj
   rw[this]
 have EC:¬ x.op=19:=by simpa using EC
 refine mB (al ?_);refine SS ?_;refine ab (ap (d:=.s (.bool _)) rfl ?_);rw[dM,if_neg h0,if_neg h1,if_neg (by rw[h2];decide),if_neg C,if_neg J,if_neg M,if_neg O,if_neg U,if_neg X,if_neg (by rw[h9];decide),if_neg mU,if_neg r7,if_neg tE,if_neg vt,if_neg EC]
section
variable{f:bd}{hd:D}(ht:Tr hd)(cK:hd.one=true)
include ht cK
theorem DJ{x:Argus.End}(hw:∀ w∈x.aJ,w.name.size<=maxLen)(hn:f.blocks.length<=1200):ax prog 232 [.agg (b9 f hd),.agg (bA x)] (B (mw f x)):=by
 have gY:∀ {b:Int},ax prog 150 [.agg (b9 f hd),I b] (B (ct f b)):=fun {b}=>gY ht cK hn;have br:∀ a∈[D.agg (b9 f hd),.agg (bA x)],Tr a:=.cons (.agg (ux ht f)) (.cons (.agg (lP x)) .nil);refine bP afw br (Tr.s _) ?_;rw[afx];refine aE ?_;refine aB ?_;refine ab (bj (cr [(0,b9 f hd,206),(1,bA x,48)] eH (l:=[(2,.pt (b9 f hd)),(3,.pt (bA x))]) eH) (aV (al ?_)));have hh:mw f x=(Gw f x.aJ&&(decide ((x.aJ.length:Int)<=7)&&(decide (x.others= -1)||ct f x.others))):=rfl;rw[hh];clear hh;generalize O:ct f x.others=bo;have M:ax prog 150 [.agg (b9 f hd),I x.others] (B bo):=O▸gY;clear O;have J:= @gY;clear gY;have gY:=M;refine SN9 ?_;refine aB ?_;refine gc gY ?_;refine aB ?_;refine ab (dI rfl (fun h=>?_) fun h=>dL (aV (aE ?_)))
 .refine aV (al ?_);refine SS ?_;refine ab (fN (ap (d:=B false) rfl ?_))
  have h2:(decide ((x.aJ.length:Int)<=7)&&(decide (x.others= -1)||bo))=false:=by
   revert h;cases bo<;>simp<;>grind
  rw[h2,Bool.and_false]
 have h2:(decide ((x.aJ.length:Int)<=7)&&(decide (x.others= -1)||bo))=true:=by
  revert h;cases bo<;>simp<;>grind
 have h7:x.aJ.length<=7:=by
  rw[ay,decide_eq_true_eq] at h2;omega
 rw[h2,Bool.and_true];clear h h2 gY M;refine SS ?_
 refine ab (dA (fun s=>aR prog s ⟨aH [],fun _=>none,2⟩/\∀ (j:Nat) y,x.aJ[j]? =some y->oq f x.aJ j y=true) (eX (α:=Nat) (fun k=>⟨aH [(2,.pt (b9 f hd)),(3,.pt (bA x)),(5,I k)],fun _=>none,2⟩)
  (fun k=>k<=x.aJ.length/\∀ j y,j<k->x.aJ[j]? =some y->oq f x.aJ j y=true) (fun k=>x.aJ.length - k) 0 (aq eH) ⟨oG,fun j y hj=>by omega⟩ ?_) ?_)
 .rintro k ⟨hk,hinv⟩;refine bH ?_;refine ab ⟨_,rfl,fun h=>?_,fun h=>?_⟩
  .have aj:k<x.aJ.length:=by simpa using h
   have hx:x.aJ[k]? =some x.aJ[k]:=bB aj;have nG:=nG (hw _ (df aj));generalize x.aJ[k]=w at hx nG;have C:oq f x.aJ k w=(isName w.name&&(ct f w.to&& !(x.aJ.take k).any fun v=>v.name.toList==w.name.toList)):=rfl;have gY:= @J w.to;generalize isName w.name=a at nG C;generalize ct f w.to=b at gY C;refine aV (eF YS ?_);refine cY ?_;refine cl nG ?_;refine cY ?_;refine bQ rfl rfl (vO rfl rfl V.h V.h (B9) oN) (fun hc=>⟨ak,(vP V.h (B9) oN)⟩) ?_;refine af ?_;refine gc gY ?_;refine af ?_;refine bX bY (dI rfl (fun hp=>?_) fun hp=>dL (aE ?_))
   .refine aV (al ?_);refine SS ?_;refine ab (fN (dp (aY (ap (d:=B false) rfl ?_))))
    have:oq f x.aJ k w=false:=by
     rw[C];revert hp;cases a<;>cases b<;>simp
    rw[Iw hx this]
   have rX:a=true/\b=true:=by revert hp;cases a<;>cases b<;>simp
   obtain⟨rfl,rfl⟩:=rX;refine SS ?_
   refine ab (eX (α:=Nat) (fun q=>⟨aH [(2,.pt (b9 f hd)),(3,.pt (bA x)),(5,I k),(6,I q)],fun _=>none,2⟩)
    (fun q=>q<=k/\∀ j y,j<q->x.aJ[j]? =some y->(y.name.toList==w.name.toList)=false) (fun q=>k - q) 0 (aq eH) ⟨oG,fun j y hj=>by omega⟩ ?_)
   rintro q ⟨hq,X⟩;refine aB ?_;refine ab ⟨_,rfl,fun h=>?_,fun h=>?_⟩
   .have zv:q<k:=by simpa using h
    have hy:x.aJ[q]? =some x.aJ[q]:=bB oG;generalize x.aJ[q]=y at hy;refine eF XK ?_;refine SN9 ?_;refine a7 ?_;refine bX bY (yC rfl (fun hp=>?_) fun hp=>?_)
    .refine ws ?_;refine SS ?_;refine ab (bh (dp (dp (aY (ap (d:=B false) rfl ?_)))))
     have:oq f x.aJ k w=false:=by
      rw[C,List.any_eq_true.2 ⟨y,cX (i:=q) (by rw[List.getElem?_take,if_pos zv,hy]),hp⟩];rfl
     rw[Iw hx this]
    .refine eC ?_;refine aB ?_;refine ab (bD (q+1) (aq eH) ⟨oG,fun j z hj hz=>?_⟩ oG);by_cases e:j=q
     .subst e;rw[hy] at hz;cases hz;exact hp
     .exact X j z oG hz
   .have bL:¬ q<k:=by simpa using h
    have:q=k:=by omega
    subst this;show aw _ _ _ _ _ _ _ _ _;refine aB ?_;refine ab (bD (q+1) (aq eH) ⟨oG,fun j z hj hz=>?_⟩ oG);by_cases e:j=q
    .subst e;rw[hx] at hz;cases hz;rw[C]
     have:((x.aJ.take j).any fun v=>v.name.toList==w.name.toList)=false:=List.any_eq_false.2 fun v hv=>by
      obtain⟨i,hi⟩:=dY hv;have U:i<j:=by have:=(bZ.1 hi).1;simp at this;omega
      rw[List.getElem?_take,if_pos U] at hi;rw[X i v U hi];simp
     rw[this];rfl
    .exact hinv j z oG hz
  .have bL:¬ k<x.aJ.length:=by simpa using h
   exact⟨.forget _ _ _ _ fun _=>.inr rfl,fun j y hy=>hinv j y (by have:=(bZ.1 hy).1;omega) hy⟩
 .rintro s ⟨hg,bT⟩;refine⟨_,hg,al ?_⟩;refine SS ?_;refine ab (ap (d:=B true) rfl ?_);rw[OF bT]
theorem Hv{x:Argus.End}(VW:x.name.size<=maxLen)(hw:∀ w∈x.aJ,w.name.size<=maxLen)(hn:f.blocks.length<=1200):ax prog 152 [.agg (b9 f hd),.agg (bA x)] (B (gJ f x)):=by
 have gY:∀ {b:Int},ax prog 150 [.agg (b9 f hd),I b] (B (ct f b)):=fun {b}=>gY ht cK hn;have bV:∀ {r k:Int},ax prog 226 [.agg (b9 f hd),I r,U8 k] (B (bw f r k)):=fun {r k}=>bV ht cK;have ta:∀ {l:List Int},ax prog 228 [.agg (b9 f hd),aX l] (B (gz f.ag l)):=fun {l}=>ta ht cK;have MU:ax prog 231 [.agg (b9 f hd),.agg (bF x.ins)] (B (kW f x.ins)):=MU ht cK;have DJ:=DJ ht cK hw hn;have yT:=yT VW;have nG:=nG VW;have br:∀ a∈[D.agg (b9 f hd),.agg (bA x)],Tr a:=.cons (.agg (ux ht f)) (.cons (.agg (lP x)) .nil);refine bP afz br (Tr.s _) ?_;rw[afA];refine ws ?_;refine aB ?_;refine ab (aE ?_);refine SS ?_;refine ao (dP (vs:=a6 _) rfl rfl V.h V.h rfl) ak (dQ V.h V.h (by first|(simp;done)|omega|exact bg rfl)) ?_;refine af ?_;refine ab (bj (cr [(0,b9 f hd,206),(1,bA x,48),(2,a6 f,26)] eH (l:=[(2,.pt (b9 f hd)),(3,.pt (bA x)),(5,.pt (a6 f))]) eH) (aV (al ?_)));refine af ?_;refine ab (mW ?_);refine ws ?_;refine af ?_;refine ab (yC rfl (fun h1=>?_) fun h1=>?_)
 .have h1:x.kind=1:=by simpa using h1
  have eR:ax prog 230 [.agg (bA x),S ⟨#[116]⟩] (B (dK x [116])):=eR oC;refine ws ?_;refine SS ?_;refine cl eR ?_;refine a7 ?_;refine gc gY ?_;refine af ?_;refine ab (bh (bR (aY (ap (d:=.s (.bool _)) rfl ?_))));have e:gJ f x=(dK x [116]&&ct f x.to):=by rw[gJ,if_pos h1]
  rw[e];simp only[gS,yg,Bool.and_assoc,aL,ib]
 have h1:¬ x.kind=1:=by simpa using h1
 refine ws ?_;refine af ?_;refine ab (yC rfl (fun h2=>?_) fun h2=>?_)
 .have h2:x.kind=2:=by simpa using h2
  have eR:ax prog 230 [.agg (bA x),S ⟨#[97,116,101]⟩] (B (dK x [97,116,101])):=eR oC;refine ws ?_;refine SS ?_;refine cl eR ?_;refine a7 ?_;refine gc bV ?_;refine bH ?_;refine gc gY ?_;refine bH ?_;refine gc gY ?_;refine af ?_;refine ab (bh (bR (aY (ap (d:=.s (.bool _)) rfl ?_))));have e:gJ f x=(dK x [97,116,101]&&(bw f x.a 119&&(ct f x.to&&ct f x.gP))):=by rw[gJ,if_neg h1,if_pos h2]
  rw[e];simp only[gS,yg,Bool.and_assoc,aL,ib]
 have h2:¬ x.kind=2:=by simpa using h2
 refine ws ?_;refine af ?_;refine ab (yC rfl (fun C=>?_) fun C=>?_)
 .have C:x.kind=3:=by simpa using C
  have eR:ax prog 230 [.agg (bA x),S ⟨#[97]⟩] (B (dK x [97])):=eR oC;have hv:gJ f x=if f.iter=true\/f.result=0 then dK x [97]&&aL x.a (-1) else dK x [97]&&(bw f x.a 118&&aL (cB f.ag x.a) f.result):=by rw[gJ,if_neg h1,if_neg h2,if_pos C]
  rw[hv];clear hv;refine aV (al ?_);refine fS ?_;refine ab (dI rfl (fun h=>?_) fun h=>dL ?_)
  .have oJ:f.iter=true\/f.result=0:=by revert h;cases f.iter<;>simp
   rw[if_pos oJ];refine aV (al ?_);refine SS ?_;refine cl eR ?_;refine cY ?_;refine ab (fN (bR (aY (ap (d:=.s (.bool _)) rfl ?_))));simp only[gS,aL,ib]
  .have oJ:¬ (f.iter=true\/f.result=0):=by revert h;cases f.iter<;>simp
   rw[if_neg oJ];clear oJ h;obtain⟨xk,xa,xb,xt,xe,xn,xi,xs,xw,xo⟩:=x;dsimp only at*
   refine eF XL ?_;generalize dK _ [97]=bv at eR;cases bv with
   |false=>
    refine SS ?_;refine cl eR ?_;refine SS ?_;(iterate 4 refine z fun _ _=>?_);refine af ?_;(iterate 9 refine z fun _ _=>?_);refine af ?_;exact bX bY (bh (bR (aY (ap rfl rfl))))
   |true=>
    have X:= @bV xa 118;cases hv:bw f xa 118 with
    |false=>
     rw[hv] at X;have bV:=X;refine SS ?_;refine cl eR ?_;refine a7 ?_;refine gc bV ?_;refine af ?_;(iterate 9 refine z fun _ _=>?_);refine af ?_;exact bX bY (bh (bR (aY (ap rfl rfl))))
    |true=>
     rw[hv] at X;have bV:=X;obtain⟨i,hi,rfl⟩:=la (nW hv);have hx:f.ag[i]? =some f.ag[i]:=bB hi;have Ew:=ss hx;rw[Ew];generalize f.ag[i]=y at hx;refine SS ?_;refine cl eR ?_;refine a7 ?_;refine gc bV ?_;refine SN9 ?_;refine a7 ?_;refine bX bY (bh (bR (aY (ap (d:=.s (.bool _)) rfl ?_))));rfl
 have C:¬ x.kind=3:=by simpa using C
 refine ws ?_;refine af ?_;refine ab (yC rfl (fun J=>?_) fun J=>?_)
 .have J:x.kind=4:=by simpa using J
  have eR:ax prog 230 [.agg (bA x),S ⟨#[110]⟩] (B (dK x [110])):=eR oC;refine ws ?_;refine SS ?_;refine cl eR ?_;refine aB ?_;refine gc nG ?_;refine af ?_;refine ab (bh (bR (aY (ap (d:=.s (.bool _)) rfl ?_))));have e:gJ f x=(dK x [110]&&isName x.name):=by rw[gJ,if_neg h1,if_neg h2,if_neg C,if_pos J]
  rw[e];simp only[gS,yg,Bool.and_assoc,aL,ib]
 have J:¬ x.kind=4:=by simpa using J
 refine ws ?_;refine af ?_;refine ab (yC rfl (fun M=>?_) fun M=>?_)
 .have M:x.kind=5:=by simpa using M
  have eR:ax prog 230 [.agg (bA x),S ⟨#[116,105,104]⟩] (B (dK x [116,105,104])):=eR oC;refine ws ?_;refine SS ?_;refine cl eR ?_;refine a7 ?_;refine gc MU ?_;refine bH ?_;refine gc gY ?_;refine a7 ?_;refine gc DJ ?_;refine af ?_;refine ab (bh (bR (aY (ap (d:=.s (.bool _)) rfl ?_))));have e:gJ f x=(dK x [116,105,104]&&(kW f x.ins&&(ct f x.to&&mw f x))):=by rw[gJ,if_neg h1,if_neg h2,if_neg C,if_neg J,if_pos M]
  rw[e];simp only[gS,yg,Bool.and_assoc,aL,ib]
 have M:¬ x.kind=5:=by simpa using M
 refine ws ?_;refine af ?_;refine ab (yC rfl (fun O=>?_) fun O=>?_)
 .have O:x.kind=6:=by simpa using O
  have eR:ax prog 230 [.agg (bA x),S ⟨#[97,116,110,108,104]⟩] (B (dK x [97,116,110,108,104])):=eR oC;refine ws ?_;refine SS ?_;refine cl eR ?_;refine aB ?_;refine gc yT ?_;refine SN9 ?_;refine af ?_;refine gc ta ?_;refine SN9 ?_;refine gc bV ?_;refine cY ?_;refine gc gY ?_;refine a7 ?_;refine gc DJ ?_;refine af ?_;refine ab (bh (bR (aY (ap (d:=.s (.bool _)) rfl ?_))));have e:gJ f x=(dK x [97,116,110,108,104]&&(lu x.name&&(decide ((x.args.length:Int)<=6)&&(gz f.ag x.args&&((aL x.a (-1)||bw f x.a 118)&&(ct f x.to&&mw f x)))))):=by rw[gJ,if_neg h1,if_neg h2,if_neg C,if_neg J,if_neg M,if_pos O]
  rw[e];simp only[gS,yg,Bool.and_assoc,aL,ib]
 have O:¬ x.kind=6:=by simpa using O
 refine ws ?_;refine af ?_;refine ab (yC rfl (fun U=>?_) fun U=>?_)
 .have U:x.kind=7:=by simpa using U
  have eR:ax prog 230 [.agg (bA x),S ⟨#[97,116,110,108]⟩] (B (dK x [97,116,110,108])):=eR oC;refine ws ?_;refine SS ?_;refine cl eR ?_;refine aB ?_;refine gc yT ?_;refine SN9 ?_;refine af ?_;refine gc ta ?_;refine bH ?_;refine gc bV ?_;refine bH ?_;refine gc gY ?_;refine af ?_;refine ab (bh (bR (aY (ap (d:=.s (.bool _)) rfl ?_))));have e:gJ f x=(dK x [97,116,110,108]&&(lu x.name&&(decide ((x.args.length:Int)<=6)&&(gz f.ag x.args&&(bw f x.a 105&&ct f x.to))))):=by rw[gJ,if_neg h1,if_neg h2,if_neg C,if_neg J,if_neg M,if_neg O,if_pos U]
  rw[e];simp only[gS,yg,Bool.and_assoc,aL,ib]
 have U:¬ x.kind=7:=by simpa using U
 refine ws ?_;refine af ?_;refine ab (yC rfl (fun h8=>?_) fun h8=>?_)
 .have h8:x.kind=8:=by simpa using h8
  have eR:ax prog 230 [.agg (bA x),S ⟨#[97,98,116,101,104]⟩] (B (dK x [97,98,116,101,104])):=eR oC;refine ws ?_;refine SS ?_;refine cl eR ?_;refine a7 ?_;refine gc bV ?_;refine bH ?_;refine gc bV ?_;refine bH ?_;refine gc gY ?_;refine bH ?_;refine gc gY ?_;refine a7 ?_;refine gc DJ ?_;refine af ?_;refine ab (bh (bR (aY (ap (d:=.s (.bool _)) rfl ?_))));have e:gJ f x=(dK x [97,98,116,101,104]&&(bw f x.a 105&&(bw f x.b 118&&(ct f x.to&&(ct f x.gP&&mw f x))))):=by rw[gJ,if_neg h1,if_neg h2,if_neg C,if_neg J,if_neg M,if_neg O,if_neg U,if_pos h8]
  rw[e];simp only[gS,yg,Bool.and_assoc,aL,ib]
 have h8:¬ x.kind=8:=by simpa using h8
 refine ws ?_;refine af ?_;refine ab (yC rfl (fun h9=>?_) fun h9=>?_)
 .have h9:x.kind=9:=by simpa using h9
  have eR:ax prog 230 [.agg (bA x),S ⟨#[97,116]⟩] (B (dK x [97,116])):=eR oC;have hv:gJ f x=(dK x [97,116]&&(f.iter&&(bw f x.a 118&&(aL (cB f.ag x.a) f.result&&ct f x.to)))):=by rw[gJ,if_neg h1,if_neg h2,if_neg C,if_neg J,if_neg M,if_neg O,if_neg U,if_neg h8,if_pos h9]
  rw[hv];clear hv;obtain⟨xk,xa,xb,xt,xe,xn,xi,xs,xw,xo⟩:=x;dsimp only at*
  refine eF XM ?_;generalize dK _ [97,116]=bv at eR;have X:= @bV xa 118;have kb:= @gY xt;generalize ct f xt=bb at kb;have gY:=kb;cases bv with
  |false=>
   refine SS ?_;refine cl eR ?_;refine SS ?_;(iterate 2 refine z fun _ _=>?_);refine af ?_;(iterate 4 refine z fun _ _=>?_);refine af ?_;(iterate 9 refine z fun _ _=>?_);refine af ?_;(iterate 4 refine z fun _ _=>?_);refine af ?_;exact bX bY (bh (bR (aY (ap rfl rfl))))
  |true=>
   obtain⟨fnm,fi,fa,fr,fg,fs,fz,fb⟩:=f;dsimp only at*
   cases fi with
   |false=>
    refine SS ?_;refine cl eR ?_;refine bH ?_;(iterate 4 refine z fun _ _=>?_);refine af ?_;(iterate 9 refine z fun _ _=>?_);refine af ?_;(iterate 4 refine z fun _ _=>?_);refine af ?_;exact bX bY (bh (bR (aY (ap rfl rfl))))
   |true=>
    cases hv:bw ⟨fnm,true,fa,fr,fg,fs,fz,fb⟩ xa 118 with
    |false=>
     rw[hv] at X;have bV:=X;refine SS ?_;refine cl eR ?_;refine cT ?_;refine gc bV ?_;refine af ?_;(iterate 9 refine z fun _ _=>?_);refine af ?_;(iterate 4 refine z fun _ _=>?_);refine af ?_;exact bX bY (bh (bR (aY (ap rfl rfl))))
    |true=>
     rw[hv] at X;have bV:=X;obtain⟨i,hi,rfl⟩:=la (nW hv);have hx:fg[i]? =some fg[i]:=bB hi;have Ew:=ss hx;rw[Ew];generalize fg[i]=y at hx;cases Ie:decide (y=fr) with
     |false=>
      have iO:(y==fr)=false:=by simpa using Ie
      refine SS ?_;refine cl eR ?_;refine cT ?_;refine gc bV ?_;refine SN9 ?_;refine a7 ?_;(iterate 4 refine z fun _ _=>?_);refine af ?_;refine bX bY (bh (bR (aY (ap (d:=.s (.bool _)) rfl ?_))));simp[aL,Ie]
     |true=>
      have iO:(y==fr)=true:=by simpa using Ie
      refine SS ?_;refine cl eR ?_;refine cT ?_;refine gc bV ?_;refine SN9 ?_;refine fS ?_;refine gc gY ?_;refine af ?_;refine bX bY (bh (bR (aY (ap (d:=.s (.bool _)) rfl ?_))));simp[aL,Ie]
 have h9:¬ x.kind=9:=by simpa using h9
 refine mB (al ?_);refine SS ?_;refine ab (ap (d:=.s (.bool _)) rfl ?_);rw[gJ,if_neg h1,if_neg h2,if_neg C,if_neg J,if_neg M,if_neg O,if_neg U,if_neg h8,if_neg h9]
end
theorem tF{f:bd}{b:Nat}{x:Argus.cE}(hx:f.blocks[b]? =some x)(X:x.fin.aJ.length<=100):ax prog 92 [.agg (a6 f),I b] (aX (o9 x.fin)):=by
 have qt:=qt (x:=x.fin) oG;have M:=Fg x.fin;refine bP ahJ (.cons (.agg (oY f)) (.cons (.s _) .nil)) (ew _) ?_;rw[ahK];refine aE ?_;refine af ?_;refine ab (bj (cr [(0,a6 f,26)] eH (l:=[(1,I b),(2,.pt (a6 f))]) eH) (aE ?_));refine SS ?_;refine ab ⟨_,(aR.CB _ _ _ 5 3 rfl).trans (cr [(1,[],3)] ⟨au _ _ _,trivial⟩ (l:=[(1,I b),(2,.pt (a6 f)),(5,aX [])]) ⟨rfl,rfl,kN (sz:=1) c3 rfl,trivial⟩),al ?_⟩;unfold o9;generalize eO x.fin=l at qt M;refine cY ?_;refine cl qt ?_;refine SS ?_;refine ab (aV (aE ?_));refine SS ?_
 refine ab (dA (fun s=>aR prog s ⟨aH [(5,aX (ra l))],fun _=>none,2⟩) (eX (α:=Nat) (fun k=>⟨aH [(5,aX (ra (l.take k))),(6,aX l),(7,I k)],fun _=>none,2⟩)
  (fun k=>k<=l.length) (fun k=>l.length - k) 0 (aq eH) oG ?_) ?_)
 .intro k hk;have J:=(Ca (l:=l.take k) (z:=[]) .nil).2.2;have C:∀ t,l[k]? =some t->ra (l.take (k+1))=jQ (ra (l.take k)) t:=fun t ht=>pT ht;have O:k=l.length->ra (l.take k)=ra l:=fun e=>by rw[e,List.take_length]
  change (ra (l.take k)).length<=_ at J
  rw[List.length_take,List.length_nil] at J;generalize ra (l.take k)=c at J C O;refine a7 ?_;refine ab ⟨_,rfl,fun h=>?_,fun h=>?_⟩
  .have aj:k<l.length:=by simpa using h
   have hy:l[k]? =some l[k]:=bB aj;have C:=C _ hy;generalize l[k]=t at hy C;have MT:=MT (l:=c) (n:=t) oG;refine kp ?_;refine bH ?_;refine cl MT ?_;refine SS ?_;refine ab ?_;refine aB ?_;refine ab (bD (k+1) (aq ⟨?_,rfl,rfl,trivial⟩) oG oG);rw[C];rfl
  .have U:¬ k<l.length:=by simpa using h
   rw[<- O oG];exact aq eH
 .intro s hg;refine⟨_,hg,al ?_⟩;refine af ?_;exact ab (ap rfl rfl)
theorem xq{f:bd}{n:Nat}(hn:f.blocks.length=n)(pH:n<=100000)(hw:∀ b∈f.blocks,b.fin.aJ.length<=10)(ht:∀ b∈f.blocks,∀ t∈o9 b.fin,0<=t/\t<n):
 ax prog 65 [.agg (a6 f)] (di (o0 f.blocks)):=by
 have br:∀ a∈[D.agg (a6 f)],Tr a:=.cons (.agg (oY f)) .nil;refine bP ahL br (Fs _) ?_;rw[ahM];refine aE ?_;refine af ?_;refine ab (bj (cr [(0,a6 f,26)] eH (l:=[(1,.pt (a6 f))]) eH) (aE ?_));refine aB ?_;refine cM (Cf rfl rfl V.h V.h) ak ⟨oG,rfl,oG,by rw[NH];omega,V.h⟩ ?_;refine SS ?_;have dN:((f.blocks.length:Nat):Int).toNat=n:=hn;refine ab (bj (bc (l:=[(1,.pt (a6 f)),(3,.rs 1 0 n)]) (ml:=[(1,.cells (replicate n .z) 35)]) ⟨rfl,congrArg (fun k=>D.rs 1 0 k) dN,trivial⟩ ⟨?_,trivial⟩) (aV (aE ?_)))
 .exact congrArg (fun c=>some (Row.cells c 35)) ((congrArg (fun k=>dq k [D.z]) dN).trans (RD n))
 refine SS ?_
 refine ab (dA (fun s=>∃ m nx ρ,aR prog s ⟨aH [(3,.rs 1 0 n)],m,nx⟩/\nT m nx 1 n 35 3 ρ (fun i=>(lx f.blocks n i).map I)) (eX (α:=Nat×Mem×Nat)
  (fun k=>⟨aH [(1,.pt (a6 f)),(3,.rs 1 0 n),(4,I k.1)],k.2.1,k.2.2⟩)
  (fun k=>k.1<=n/\(∃ ρ,nT k.2.1 k.2.2 1 n 35 3 ρ (fun i=>(lx f.blocks k.1 i).map I))/\∀ i,(lx f.blocks k.1 i).length<=13*k.1) (fun k=>n - k.1) (0,aby [(1,.cells (replicate n .z) 35)],2)
  (aq eH) ⟨Nat.zero_le _,⟨fun _=>0,Qy (show 1<2 by decide) rfl⟩,fun _=>bO _⟩ ?_) ?_)
 .rintro⟨k,m,nx⟩ ⟨hk,⟨ρ,C⟩,hlen⟩;dsimp only at hk C hlen ⊢;have aD:=C.row;have dZ:=C.zu;refine bH ?_;refine ab ⟨_,rfl,fun h=>?_,fun h=>?_⟩
  .have aj:k<n:=by simpa[hn] using h
   have hx:f.blocks[k]? =some f.blocks[k]:=bB oG;have U:f.blocks[k]∈f.blocks:=df _;have tF:=tF hx (by have:=hw _ U;omega);generalize f.blocks[k]=x at hx U tF
   have X:lx f.blocks (k+1)=(o9 x.fin).foldl (fw k) (lx f.blocks k):=by
    rw[lx,List.range_succ,List.foldl_append];show Cs f.blocks _ k=_;rw[Cs,hx];rfl
   generalize lx f.blocks k=L0 at C hlen aD X;have fM:=ht x U;have jz:=YT x.fin;have VG:=hw x U;generalize o9 x.fin=l at tF fM jz X;refine ws ?_;refine af ?_;refine cl tF ?_;refine SS ?_;refine ab (aE ?_);refine SS ?_
   refine ab (eX (α:=Nat×Mem×Nat)
    (fun j=>⟨aH [(1,.pt (a6 f)),(3,.rs 1 0 n),(4,I k),(5,aX l),(6,I j.1)],j.2.1,j.2.2⟩)
    (fun j=>j.1<=l.length/\(∃ ρ,nT j.2.1 j.2.2 1 n 35 3 ρ (fun i=>((l.take j.1).foldl (fw k) L0 i).map I))/\∀ i,((l.take j.1).foldl (fw k) L0 i).length<=13*k+j.1) (fun j=>l.length - j.1) (0,m,nx)
    (aq eH) ⟨Nat.zero_le _,⟨ρ,C⟩,hlen⟩ ?_)
   clear C aD hlen;rintro⟨j,m,nx⟩ ⟨hj,⟨ρ,C⟩,hlen⟩;dsimp only at hj C hlen ⊢;have aD:=C.row;have dZ:=C.zu;have O:∀ t,l[j]? =some t->(l.take (j+1)).foldl (fw k) L0=fw k ((l.take j).foldl (fw k) L0) t:=fun t ht=>pT ht;have q8:j=l.length->(l.take j).foldl (fw k) L0=lx f.blocks (k+1):=fun e=>by rw[X,dO oG]
   generalize (l.take j).foldl (fw k) L0=L at C hlen aD O q8;refine a7 ?_;refine ab ⟨_,rfl,fun h=>?_,fun h=>?_⟩
   .have DD:j<l.length:=by simpa using h
    have En:l[j]? =some l[j]:=bB DD;have rW:=fM _ (df DD);generalize l[j]=t at En rW;obtain⟨i,rfl⟩:=ic rW.1;have J:i<n:=by omega
    have hL:=hlen i;have O:(l.take (j+1)).foldl (fw k) L0=up L i (L i++[(k:Int)]):=O _ En
    have sO:∀ i,((l.take (j+1)).foldl (fw k) L0 i).length<=13*k+(j+1):=fun a=>by
     rw[O];exact IT (t:=(i:Int)) hlen a
    have Eo:(fun a=>((l.take (j+1)).foldl (fw k) L0 a).map I)=up (fun a=>(L a).map I) i ((L i++[(k:Int)]).map I):=by rw[O];exact SK
    obtain⟨cs,kd⟩:=Qx (ρ:=ρ) (L:=fun i=>(L i).map I) J;refine An aas ?_;by_cases hz:L i=[]
    .have zw:jc (ρ i) ((L i).map I)=.z:=by rw[hz];rfl
     rw[zw] at kd;refine SN9 ?_;refine cY ?_;refine ao (p7 rfl rfl (aM oG (aM oG aD)) V.h V.h) ak ⟨V.h,oG⟩ ?_;refine dJ (mo (d:=.rs _ _ _) (cs':=_) rfl rfl (aM oG (aM oG aD)) rfl rfl) ak (eU V.h V.h (by first|(simp;done)|exact⟨rfl,bg rfl⟩|(simp;omega)) rfl) ?_;refine bX bY ?_;refine aB ?_;refine ab (bD (j+1,up (up (up m nx (some (.cells [I k] 3))) (nx+1) (some (.cells [I k] 3))) 1 (some (.cells ((px ρ (fun i=>(L i).map I) n).set i (.rs (nx+1) 0 1)) 35)),nx+2) (aq eH) ⟨oM,⟨up ρ i (nx+1),?_⟩,sO⟩ oM);dsimp only;rw[Eo];refine C.H6 J oS oG oG ?_ ?_ (fun q hq xj _=>?_)
     .rw[hz];exact au _ _ _
     .rw[hz];exact aM oG (au _ _ _)
     .exact aM oG (aM oG (aM oG rfl))
    .have M:(L i).map I≠[]:=by simpa using hz
     have zw:jc (ρ i) ((L i).map I)=.rs (ρ i) 0 (L i).length:=by rw[Db M,List.length_map]
     rw[zw] at kd;have CW:=C.DC i J M;have hρn:=C.lt i J M;have hρ1:=C.ne i J M;refine SN9 ?_;refine cY ?_;refine ao (p7 rfl rfl (aM oG (aM oG (aM oG aD))) V.h V.h) ak ⟨V.h,oG⟩ ?_;refine dJ (mo (d:=.rs _ _ _) (cs':=_) rfl rfl (aM oG (aM oG (aM oG aD))) rfl rfl) ak (eU V.h V.h (by first|(simp;done)|exact⟨rfl,bg rfl⟩|(simp;omega)) rfl) ?_;refine bX bY ?_;refine aB ?_;refine ab (bD (j+1,up (up (up (up m nx (some (.cells [I k] 3))) (ρ i) none) (nx+1) (some (.cells ((L i).map I++[I k]) 3))) 1 (some (.cells ((px ρ (fun i=>(L i).map I) n).set i (.rs (nx+1) 0 ((L i).length+1))) 35)),nx+2) (aq eH) ⟨oM,⟨up ρ i (nx+1),?_⟩,sO⟩ oM);dsimp only;rw[Eo];refine C.H6 J oS oG oG ?_ ?_ (fun q hq xj pG=>?_)
     .rw[List.length_map,List.length_append];exact au _ _ _
     .rw[List.map_append];exact aM oG (au _ _ _)
     .have:=pG M;exact aM oG (aM oG (aM oG (aM oG rfl)))
   .have bL:¬ j<l.length:=by simpa using h
    have vl:=q8 oG;subst vl;show aw _ _ _ _ _ _ _ _ _;refine aB ?_;refine ab (bD (k+1,m,nx) (aq eH) ⟨oM,⟨ρ,C⟩,fun i=>by have:=hlen i;dsimp only at this ⊢;omega⟩ oM)
  .have bL:¬ k<n:=by simpa[hn] using h
   have:k=n:=by omega
   subst this;exact⟨m,nx,ρ,aq eH,C⟩
 .rintro s ⟨m,nx,ρ,hg,C⟩;have xh:¬ ∃ i,i<n/\(lx f.blocks n i).map I≠[]/\ρ i=1:=fun⟨i,h1,h2,h3⟩=>C.ne i h1 h2 h3;refine⟨_,hg.trans (PC (l:=[(3,.rs 1 0 n)]) (ml:=[]) (fun r=>∃ i,i<n/\(lx f.blocks n i).map I≠[]/\ρ i=r) C (fun _=>.map) c3 (fun i h1 h2=>⟨i,h1,h2,rfl⟩) xh ⟨rfl,trivial⟩ (fun x hx=>?_) trivial (fun x hx=>by cases hx)),aE ?_⟩
  .simp at hx;subst hx;exact .rs xh
  refine af ?_;refine ab (bj (cr [(1,_,35)] eH (l:=[(2,di (o0 f.blocks))]) ⟨?_,trivial⟩) (ap rfl rfl));show sub (dG 1 _ (prog.cellsOf 35)) (D.rs 1 0 n)=_;rw[zX (by rw[jY];simp),Qz,o0,hn]
theorem Bd{a b:Cert}(hl:a.is.length=b.is.length)(hm:a.is.length<=100000):ax prog 153 [.agg (cC a),.agg (cC b)] (.agg (cC (pb a b))):=by
 refine bP afF (.cons (.agg (sJ a)) (.cons (.agg (sJ b)) .nil)) (.agg (sJ _)) ?_;rw[afG];obtain⟨U,C⟩:=a;obtain⟨X,J⟩:=b;dsimp only at hl hm;refine aE ?_;refine aB ?_;refine ab (bj (bc (l:=[(2,.rp 0 0),(3,.rp 1 0),(4,.rp 2 0)]) (ml:=[(0,.cells (cC ⟨U,C⟩) 99),(1,.cells (cC ⟨X,J⟩) 99),(2,.cells [B false,.z] 99)]) eH eH) (aV (al ?_)));refine af ?_;cases U with
 |true=>
  refine ab (yx ?_);refine aV (al ?_);refine af ?_;exact ab (fN (mA (mV rfl rfl r5 lM rfl t99 (bg rfl)) rfl))
 |false=>
 refine ab (yw (dL (aV (al ?_))));refine af ?_;cases X with
 |true=>
  refine ab (yx ?_);refine aV (al ?_);refine af ?_;exact ab (fN (mA (mV rfl rfl r5 lM rfl t99 (bg rfl)) rfl))
 |false=>
 refine ab (yw (dL (aE ?_)));have hb:pb ⟨false,C⟩ ⟨false,J⟩=⟨false,List.zipWith (fun x y=>x&&y) C J⟩:=rfl;rw[hb];clear hb;have iy:({ any:=false,is:=C }:Cert).is.length<=100000:=hm;have dN:((C.length:Nat):Int).toNat=C.length:=dX _;have M:(List.zipWith (fun x y=>x&&y) C J).length=C.length:=by simp;omega
 have O:∀ (k:Nat) x y,C[k]? =some x->J[k]? =some y->(List.zipWith (fun x y=>x&&y) C J)[k]? =some (x&&y):=fun k x y h1 h2=>by rw[List.getElem?_zipWith,h1,h2]
 generalize List.zipWith (fun x y=>x&&y) C J=zQ at M O;refine fS ?_;refine ab (bj (bc (l:=[(2,.rp 0 0),(3,.rp 1 0),(4,.rp 2 0),(5,.rp 4 0)]) (ml:=[(0,.cells (cC ⟨false,C⟩) 99),(1,.cells (cC ⟨false,J⟩) 99),(2,.cells [B false,.z] 99),(3,.cells ((replicate C.length false).map B) 4),(4,.cells [B false,.rs 3 0 C.length] 99)]) eH ⟨rfl,rfl,rfl,?_,?_,trivial⟩) (aV (aE ?_)))
 .exact congrArg (fun c=>some (Row.cells c 4)) ((congrArg (fun k=>dq k [B false]) dN).trans (Cr _ false))
 .exact congrArg (fun k=>some (Row.cells [B false,.rs 3 0 k] 99)) dN
 refine SS ?_
 refine ab (dA (fun s=>aR prog s ⟨aH [(4,.rp 2 0),(5,.rp 4 0)],aby [(2,.cells [B false,.z] 99),(3,.cells (zQ.map B) 4),(4,.cells [B false,.rs 3 0 C.length] 99)],5⟩) (eX (α:=Nat) (fun k=>⟨aH [(2,.rp 0 0),(3,.rp 1 0),(4,.rp 2 0),(5,.rp 4 0),(6,I k)],aby [(0,.cells (cC ⟨false,C⟩) 99),(1,.cells (cC ⟨false,J⟩) 99),(2,.cells [B false,.z] 99),(3,.cells ((zQ.take k++replicate (C.length - k) false).map B) 4),(4,.cells [B false,.rs 3 0 C.length] 99)],5⟩)
  (fun k=>k<=C.length) (fun k=>C.length - k) 0 (bc eH eH) oG ?_) ?_)
 .intro k hk;refine bH ?_;refine ab ⟨_,rfl,fun h=>?_,fun h=>?_⟩
  .have aj:k<C.length:=by simpa using h
   have hx:C[k]? =some C[k]:=bB aj;have hy:J[k]? =some J[k]:=bB oG;have hz:=O k _ _ hx hy;generalize C[k]=x at hx hz;generalize J[k]=y at hy hz;have s6:=take_set hz M;have wW:(zQ.take k++replicate (C.length - k) false).length=C.length:=by simp;omega
   refine An YX ?_;cases x with
   |false=>
    refine SN9 ?_;(iterate 5 refine z fun _ _=>?_);refine aB ?_;refine bX bY ?_;refine aB ?_;refine ab (bD (k+1) (bc eH ⟨rfl,rfl,rfl,?_,rfl,trivial⟩) oG oG);rw[<- s6,List.map_set];rfl
   |true=>
    refine SN9 ?_;refine cT ?_;refine bX bY ?_;refine aB ?_;refine ab (bD (k+1) (bc eH ⟨rfl,rfl,rfl,?_,rfl,trivial⟩) oG oG);rw[<- s6,List.map_set];rfl
  .have bL:¬ k<C.length:=by simpa using h
   have:k=C.length:=by omega
   subst this;refine bc eH ⟨rfl,?_,rfl,trivial⟩;rw[Nat.sub_self,List.replicate_zero,List.append_nil,dO oG];rfl
 .intro s hg;refine⟨_,hg,aE ?_⟩;refine af ?_
  have e:sub (dG 3 (zQ.map B) (prog.cellsOf 4)) (.rs 3 0 C.length)=.sl (zQ.map B) C.length:=by
   rw[c4,Dc,List.drop_zero,dO oP]
  refine ab (bj (cr [(3,zQ.map B,4),(2,[B false,.sl (zQ.map B) C.length],99)] ⟨rfl,?_,trivial⟩ (l:=[(4,.pt [B false,.sl (zQ.map B) C.length])]) eH) (bh (mA (RH rfl r5 lM rfl t99 (bg rfl)) ?_)))
  .exact congrArg (fun d=>some (Row.cells [B false,d] 99)) e
  .rw[<- M];rfl
theorem vu{f:bd}{b:Nat}{x:Argus.cE}{c:Cert}(hx:f.blocks[b]? =some x)(hl:c.is.length=f.ag.length+f.aU.length)(hm:c.is.length<=2000)(hi:∀ y∈x.ins,yX f.ag.length (f.ag.length+f.aU.length) y)(Bn:x.ins.length<=100000):
 ax prog 69 [.agg (a6 f),I b,.agg (cC c)] (.agg (cC (eY f.ag.length x.ins c))):=by
 have jZ:∀ {d:Cert} {r:Int},d.is.length=f.ag.length+f.aU.length->DI (f.ag.length+f.aU.length) r->ax prog 67 [.agg (cC d),I r] (.agg (cC (jt d r))):=fun {d r} h1 h2=>jZ oG (by rw[h1];exact h2);refine bP ahP (.cons (.agg (oY f)) (.cons (.s _) (.cons (.agg (sJ c)) .nil))) (.agg (sJ _)) ?_;rw[ahQ];refine aE ?_;refine aB ?_;refine ab (bj (bc (l:=[(1,I b),(3,.rp 0 0),(5,.rp 1 0),(6,.rp 2 0)]) (ml:=[(0,.cells (a6 f) 26),(1,.cells (cC c) 99),(2,.cells [B false,.z] 99)]) eH eH) (al ?_));refine fS ?_;refine ab (aV (aE ?_));refine SS ?_
 refine ab (dA (fun s=>aR prog s ⟨aH [(5,.rp 1 0),(6,.rp 2 0)],aby [(1,.cells (cC (eY f.ag.length x.ins c)) 99),(2,.cells [B false,.z] 99)],3⟩) (eX (α:=Nat) (fun k=>⟨aH [(3,.rp 0 0),(5,.rp 1 0),(6,.rp 2 0),(7,iL x.ins),(8,I k)],aby [(0,.cells (a6 f) 26),(1,.cells (cC (eY f.ag.length (x.ins.take k) c)) 99),(2,.cells [B false,.z] 99)],3⟩)
  (fun k=>k<=x.ins.length) (fun k=>x.ins.length - k) 0 (bc eH eH) oG ?_) ?_)
 .intro k hk;have C:∀ y,x.ins[k]? =some y->eY f.ag.length (x.ins.take (k+1)) c=uy f.ag.length (eY f.ag.length (x.ins.take k) c) y:=fun y hy=>pT hy;have X:k=x.ins.length->eY f.ag.length (x.ins.take k) c=eY f.ag.length x.ins c:=fun e=>by rw[e,List.take_length]
  have U:=(B' f.ag.length (x.ins.take k) c).trans hl;generalize eY f.ag.length (x.ins.take k) c=d at C X U;refine a7 ?_;refine ab ⟨_,rfl,fun h=>?_,fun h=>?_⟩
  .have aj:k<x.ins.length:=by simpa using h
   have hy:x.ins[k]? =some x.ins[k]:=bB aj;have C:=C _ hy;have M:=hi _ (df aj);generalize x.ins[k]=y at hy C M;have qG:=qG (x:=y)
   have hp:DI (f.ag.length+f.aU.length) (dB y):=by
    rcases M.w with e|⟨i,h1,h2⟩
    .exact .inl e
    .exact .inr ⟨i,oG,h2⟩
   have O:=jZ U hp;have zz:=(Ff d (dB y)).trans U
   have kv:y.op=18->ax prog 67 [.agg (cC (jt d (dB y))),I ((f.ag.length:Int)+y.n)] (.agg (cC (jt (jt d (dB y)) ((f.ag.length:Int)+y.n)))):=fun e=>jZ zz (by
    obtain⟨i,h1,h2⟩:=M.s e
    exact .inr ⟨f.ag.length+i,h1,by rw[h2];omega⟩)
   unfold uy at C;generalize jt d (dB y)=d1 at O zz kv C;generalize dB y=w at qG O;clear jZ;have jZ:=O;refine eF aau ?_;refine bH ?_;refine cl qG ?_;refine cl jZ ?_;refine SS ?_;refine bX bY (al ?_);refine cY ?_;refine ab (yC rfl (fun J=>?_) fun J=>?_)
   .have J:y.op=18:=by simpa using J
    rw[if_pos J] at C;have jZ:=kv J;obtain⟨i,h1,h2⟩:=M.s J;have oI:0<=y.n/\y.n<=2000:=by omega
    refine An aav ?_;refine cT ?_;refine af ?_;refine cl jZ ?_;refine SS ?_;refine bX bY ?_;refine aB ?_;refine ab (bD (k+1) (bc eH ⟨rfl,?_,rfl,trivial⟩) oG oG);rw[C];rfl
   .have J:¬ y.op=18:=by simpa using J
    rw[if_neg J] at C;refine eC ?_;refine aB ?_;refine ab (bD (k+1) (bc eH ⟨rfl,?_,rfl,trivial⟩) oG oG);rw[C];rfl
  .have bL:¬ k<x.ins.length:=by simpa using h
   rw[<- X oG];exact bc eH eH
 .intro s hg;refine⟨_,hg,al ?_⟩;generalize eY f.ag.length x.ins c=d;refine af ?_;exact ab (bh (mA (mV rfl rfl r5 lM rfl t99 (bg rfl)) rfl))
theorem xv{f:bd}{b:Nat}{x:Argus.cE}{c:Cert}{to:Int}(hx:f.blocks[b]? =some x)(hw:x.fin.aJ.length<=100)(hm:c.is.length<=2000)(X:DI c.is.length (eu x.fin)):
 ax prog 68 [.agg (a6 f),I b,I to,.agg (cC c)] (.agg (cC (mF x.fin to c))):=by
 have jZ:=jZ (c:=c) oG X;have qt:=qt (x:=x.fin) oG;have Ib:=Ib (x:=x.fin);have J:=Fg x.fin;refine bP ahR (.cons (.agg (oY f)) (.cons (.s _) (.cons (.s _) (.cons (.agg (sJ c)) .nil)))) (.agg (sJ _)) ?_;rw[ahS];refine ws ?_;refine aB ?_;refine ab (aE ?_);refine fS ?_;refine dJ (iI (cs':=bA _) rfl rfl rfl rfl) ak (eU V.h V.h (by first|(simp;done)|exact⟨rfl,bg rfl⟩|(simp;omega)) (by rfl)) ?_;refine ab (bj (bc (l:=[(2,I to),(7,.rp 1 0),(8,.rp 2 0),(9,.rp 3 0)]) (ml:=[(1,.cells (cC c) 99),(2,.cells [B false,.z] 99),(3,.cells (bA x.fin) 48)]) eH eH) (al ?_));have M:mF x.fin to c=if x.fin.to≠to\/(eO x.fin).tail.any (·==to)=true\/x.fin.kind=3\/x.fin.kind=4 then c else jt c (eu x.fin):=rfl
 rw[M];clear M;generalize eO x.fin=l at qt J;refine SS ?_;refine cl qt ?_;refine SS ?_;refine er ?_;refine SS ?_;refine ab (aV (aE ?_));refine SS ?_
 refine ab (dA (fun s=>aR prog s ⟨aH [(2,I to),(7,.rp 1 0),(8,.rp 2 0),(9,.rp 3 0),(11,B (l.tail.any (·==to)))],aby [(1,.cells (cC c) 99),(2,.cells [B false,.z] 99),(3,.cells (bA x.fin) 48)],4⟩) (eX (α:=Nat) (fun k=>⟨aH [(2,I to),(7,.rp 1 0),(8,.rp 2 0),(9,.rp 3 0),(10,aX l),(11,B ((l.tail.take k).any (·==to))),(12,I ((k+1:Nat):Int))],aby [(1,.cells (cC c) 99),(2,.cells [B false,.z] 99),(3,.cells (bA x.fin) 48)],4⟩)
  (fun k=>k<=l.tail.length) (fun k=>l.tail.length - k) 0 (bc eH eH) oG ?_) ?_)
 .intro k hk;have U:l.tail.length=l.length - 1:=List.length_tail ..;have C:∀ y,l.tail[k]? =some y->(l.tail.take (k+1)).any (·==to)=((l.tail.take k).any (·==to)||y==to):=fun y hy=>by rw[List.take_add_one,hy,List.any_append];simp
  have O:k=l.tail.length->(l.tail.take k).any (·==to)=l.tail.any (·==to):=fun e=>by rw[e,List.take_length]
  generalize (l.tail.take k).any (·==to)=ob at C O;refine a7 ?_;refine ab ⟨_,rfl,fun h=>?_,fun h=>?_⟩
  .have aj:k+1<l.length:=by
    have:=of_decide_eq_true h;omega
   have hy:l[k+1]? =some l[k+1]:=bB aj;have C:=C l[k+1] (by rw[List.getElem?_tail];exact hy);generalize l[k+1]=y at hy C;refine kp ?_;cases ob with
   |false=>
    refine cT ?_;refine af ?_;refine ab ?_;refine aB ?_;refine ab (bD (k+1) (bc ⟨rfl,rfl,rfl,rfl,rfl,?_,rfl,trivial⟩ eH) oG oG);rw[C];rfl
   |true=>
    refine af ?_;(iterate 6 refine z fun _ _=>?_);refine af ?_;refine ab ?_;refine aB ?_;refine ab (bD (k+1) (bc ⟨rfl,rfl,rfl,rfl,rfl,?_,rfl,trivial⟩ eH) oG oG);rw[C];rfl
  .have bL:¬ k+1<l.length:=fun hh=>by
    have:=of_decide_eq_false h;omega
   rw[<- O oG];exact bc eH eH
 .intro s hg;refine⟨_,hg,aV (al ?_)⟩;generalize l.tail.any (·==to)=ob;refine SN9 ?_;refine cT ?_;refine ab (dI rfl (fun h=>?_) fun h=>dL (eF YY ?_))
  .refine aV (al ?_);refine af ?_;refine ab (fN (mA (mV rfl rfl r5 lM rfl t99 (bg rfl)) ?_));rw[if_pos]
   .rfl
   .revert h;simp;grind
  .rw[if_neg (by revert h;simp;grind)];generalize jt c (eu x.fin)=d at jZ;generalize eu x.fin=w at jZ Ib;refine af ?_;refine cl Ib ?_;refine cl jZ ?_;refine SS ?_;exact bX bY (bh (mA (mV rfl rfl r5 lM rfl t99 (bg rfl)) rfl))
theorem BR{f:bd}(hs:CY f)(hw:∀ b∈f.blocks,b.fin.aJ.length<=10):ax prog 63 [.agg (a6 f)] (B (tV f)):=by
 have Bc:=Bc hs;refine bP ahN (.cons (.agg (oY f)) .nil) (Tr.s _) ?_;rw[ahO];refine aE ?_;refine af ?_;refine ab (bj (cr [(0,a6 f,26)] eH (l:=[(1,.pt (a6 f))]) eH) (al ?_));cases hh:qg f with
 |false=>
  rw[hh] at Bc;refine SS ?_;refine cl Bc ?_;refine SS ?_;refine ab (aV (al ?_));refine af ?_;refine ab (yx ?_);refine aV (al ?_);refine SS ?_;refine ab (fN (ap (d:=B false) rfl ?_));rw[tV,hh];rfl
 |true=>
  rw[hh] at Bc;have hF:tV f=(FM f&&(range f.blocks.length).all (qu f)):=by rw[tV,hh];rfl
  rw[hF];clear hF;unfold qg at hh;simp only[ay] at hh;obtain⟨h1,h2,_⟩:=hh;unfold ni at h1;simp only[ay,Bool.not_eq_true',decide_eq_false_iff_not,kH] at h1;have hN:f.blocks.length<=1200:=by omega
  have hR:f.ag.length<=1200:=by omega
  have jV:f.aU.length<=60:=by omega
  have xr:∀ k∈f.aU,k=1\/k=2:=fun k hk=>by
   unfold p8 at h2;simp only[ay] at h2;have h3:=h2.2.2.1;simp only[eV,Bool.not_eq_true',List.any_eq_false] at h3;have:=h3 k hk;simp[mu] at this;omega
  clear h1 h2;refine SS ?_;refine cl Bc ?_;refine SS ?_;refine ab (aV (al ?_));refine af ?_;refine ab (yw (dL (aE ?_)));refine SS ?_;refine ao (Ce (cs:=b9 _ _) V.h V.h V.h rfl rfl) ak ⟨V.h,V.h⟩ ?_;refine SS ?_;refine dJ (iI (cs':=b9 _ _) rfl rfl rfl rfl) ak (eU V.h V.h (by first|(simp;done)|exact⟨rfl,bg rfl⟩|(simp;omega)) (by rfl)) ?_;refine ab (bj (bc (l:=[(1,.pt (a6 f)),(4,.rp 1 0)]) (ml:=[(1,.cells (b9 f .z) 206)]) eH eH) (aV (aE ?_)));refine SS ?_
  refine ab (dA (fun s=>aR prog s ⟨aH [(1,.pt (a6 f)),(4,.rp 1 0)],aby [(1,.cells (b9 f .z) 206)],2⟩/\∀ (j:Nat) x,f.blocks[j]? =some x->(eO x.fin).all (ct f)=true) (eX (α:=Nat) (fun k=>⟨aH [(1,.pt (a6 f)),(4,.rp 1 0),(5,I k)],aby [(1,.cells (b9 f .z) 206)],2⟩)
   (fun k=>k<=f.blocks.length/\∀ j x,j<k->f.blocks[j]? =some x->(eO x.fin).all (ct f)=true) (fun k=>f.blocks.length - k) 0 (bc eH eH) ⟨oG,fun j y hj=>by omega⟩ ?_) ?_)
  .rintro k ⟨hk,hinv⟩;refine bH ?_;refine ab ⟨_,rfl,fun h=>?_,fun h=>?_⟩
   .have aj:k<f.blocks.length:=by simpa using h
    have hx:f.blocks[k]? =some f.blocks[k]:=bB aj;have VX:=hw _ (df aj);generalize f.blocks[k]=x at hx VX;have qt:=qt (x:=x.fin) oG;have hle:=Fg x.fin;have pz:(eO x.fin).all (ct f)=false->FM f=false:=fun h=>List.all_eq_false.2 ⟨x,cX hx,by simp[h]⟩
    have T5:(eO x.fin).all (ct f)=true->∀ j y,j<k+1->f.blocks[j]? =some y->(eO y.fin).all (ct f)=true:=fun hq j y hj hy=>by
     by_cases e:j=k
     .subst e;rw[hx] at hy;cases hy;exact hq
     .exact hinv j y oG hy
    generalize eO x.fin=l at qt hle pz T5;refine ws ?_;refine cY ?_;refine cl qt ?_;refine SS ?_;refine ab (aE ?_);refine SS ?_
    refine ab (eX (α:=Nat) (fun q=>⟨aH [(1,.pt (a6 f)),(4,.rp 1 0),(5,I k),(6,aX l),(7,I q)],aby [(1,.cells (b9 f .z) 206)],2⟩)
     (fun q=>q<=l.length/\∀ j y,j<q->l[j]? =some y->ct f y=true) (fun q=>l.length - q) 0 (bc eH eH) ⟨oG,fun j y hj=>by omega⟩ ?_)
    rintro q ⟨hq,pG⟩;refine a7 ?_;refine ab ⟨_,rfl,fun h=>?_,fun h=>?_⟩
    .have BS:q<l.length:=by simpa using h
     have hy:l[q]? =some l[q]:=bB BS;generalize l[q]=y at hy;have gY:ax prog 150 [.agg (b9 f .z),I y] (B (ct f y)):=gY TY rfl hN;refine eF YV ?_;refine ao (dP (vs:=b9 _ _) rfl rfl V.h V.h rfl) ak (dQ V.h V.h (by first|(simp;done)|omega|exact bg rfl)) ?_;refine a7 ?_;refine cl gY ?_;refine SS ?_;refine bX bY (al ?_);refine af ?_;refine ab (yC rfl (fun hp=>?_) fun hp=>?_)
     .refine ws ?_;refine SS ?_;refine ab (bh (dp (dp (aY (ap (d:=B false) rfl ?_)))));rw[pz (List.all_eq_false.2 ⟨y,cX hy,by simpa using hp⟩)];rfl
     .refine eC ?_;refine aB ?_;refine ab (bD (q+1) (bc eH eH) ⟨oG,fun j z hj hz=>?_⟩ oG);by_cases e:j=q
      .subst e;rw[hy] at hz;cases hz;simpa using hp
      .exact pG j z oG hz
    .have bL:¬ q<l.length:=by simpa using h
     show aw _ _ _ _ _ _ _ _ _;refine aB ?_;refine ab (bD (k+1) (bc eH eH) ⟨oG,T5 (b7.2 fun y hy=>?_)⟩ oG);obtain⟨j,hj⟩:=dY hy;exact pG j y (by have:=(bZ.1 hj).1;omega) hj
   .have bL:¬ k<f.blocks.length:=by simpa using h
    exact⟨bc eH eH,fun j y hy=>hinv j y (by have:=(bZ.1 hy).1;omega) hy⟩
  rintro s ⟨hg,M⟩
  have hE:FM f=true:=b7.2 fun x hx=>by
   obtain⟨j,hj⟩:=dY hx;exact M j x hj
  rw[hE,Bool.true_and]
  have fM:∀ b∈f.blocks,∀ t∈o9 b.fin,0<=t/\t<f.blocks.length:=fun b hb t ht=>by
   have:=b7.1 (b7.1 hE b hb) t (PH.1 ht);rw[ct,kH] at this;omega
  have xq:=xq (f:=f) rfl oG hw fM;have zx:∀ k,k<f.blocks.length->(o0 f.blocks)[k]? =some (lx f.blocks f.blocks.length k):=fun k hk=>by simp[o0,hk]
  have Ig:(o0 f.blocks).length<=100000:=by simp[o0];omega
  clear M hE fM;refine⟨_,hg,aE ?_⟩;generalize hL:o0 f.blocks=L at xq zx Ig;clear hL;refine SS ?_;refine cl xq ?_;refine SS ?_;refine dJ (mo (d:=.sl _ _) (cs':=_) rfl rfl rfl rfl rfl) ak (eU V.h V.h (by first|(simp;done)|exact⟨rfl,bg rfl⟩|(simp;omega)) rfl) ?_;refine ab (bj (cr [(1,b9 f (di L),206)] eH (l:=[(1,.pt (a6 f)),(4,.pt (b9 f (di L)))]) eH) (aE ?_));refine bH ?_;have dN:((f.ag.length:Nat):Int).toNat=f.ag.length:=dX _;refine ab (bj (bc (l:=[(1,.pt (a6 f)),(4,.pt (b9 f (di L))),(9,.rs 2 0 f.ag.length)]) (ml:=[(2,.cells ((replicate f.ag.length false).map B) 4)]) ⟨rfl,rfl,congrArg (fun k=>D.rs 2 0 k) dN,trivial⟩ ⟨?_,trivial⟩) (aV (aE ?_)))
  .exact congrArg (fun c=>some (Row.cells c 4)) ((congrArg (fun k=>dq k [B false]) dN).trans (Cr _ false))
  rw[<- YU f.ag.length f.blocks];refine SS ?_
  refine ab (dA (fun s=>∃ N,aR prog s ⟨aH [],fun _=>none,N⟩/\(range f.blocks.length).all (qu f)=true) (eX (α:=Nat×Nat) (fun q=>⟨aH [(1,.pt (a6 f)),(4,.pt (b9 f (di L))),(9,.rs 2 0 f.ag.length),(10,I q.1)],aby [(2,.cells ((lW f.ag.length f.blocks q.1).map B) 4)],q.2⟩)
   (fun q=>q.1<=f.blocks.length/\3<=q.2/\(range q.1).all (qu f)=true) (fun q=>f.blocks.length - q.1) (0,3) (bc eH eH) ⟨Nat.zero_le _,bO _,rfl⟩ ?_) ?_)
  .rintro⟨k,N⟩ ⟨hk,VY,M⟩;dsimp only at hk VY M ⊢;refine bH ?_;refine ab ⟨_,rfl,fun h=>?_,fun h=>?_⟩
   .have aj:k<f.blocks.length:=by simpa using h
    have hx:f.blocks[k]? =some f.blocks[k]:=bB aj;have qB:=hs.en _ (df aj)
    have C:qu f k=(!decide ((200:Int)<f.blocks[k].ins.length)&&((range f.blocks[k].ins.length).all (uz f k f.blocks[k].ins)&&(gJ f f.blocks[k].fin&& !(f.blocks[k].fin.kind==7&&(lh f.blocks k).any (·==f.blocks[k].fin.a))))):=by
     unfold qu;simp only[getD_some hx]
    have pz:qu f k=false->(range f.blocks.length).all (qu f)=false:=fun hq=>nU aj hq;have BC:=abG (R:=f.ag.length) hx;have yW:=fun(i:Nat)=>aat (R:=f.ag.length) (i:=i) hx;have hA:=zx k aj;have rD:∀ {y:bS},ax prog 151 [.agg (b9 f (di L)),.agg (bF y),I k] (B (dM f k (lx f.blocks f.blocks.length k).length y)):=fun {y}=>rD hA jV xr Ig;have J:∀ j,uz f k f.blocks[k].ins j=(dM f k (lx f.blocks f.blocks.length k).length (f.blocks[k].ins.getD j ez)&& !(cx (f.blocks[k].ins.getD j ez)&&(decide (0<j)&& !cx (f.blocks[k].ins.getD (j - 1) ez)))):=fun j=>rfl;generalize lx f.blocks f.blocks.length k=A at rD J hA;generalize f.blocks[k]=x at hx qB C BC yW J;have Hv:=Hv (f:=f) (Fs L) rfl qB.1 qB.2 hN;refine ws ?_;refine fS ?_;refine ab (aV (al ?_));refine aB ?_;refine ab (dI rfl (fun hp=>?_) fun hp=>dL (aV (aE ?_)))
    .refine aV (al ?_);refine SS ?_;refine ab (fN (dp (aY (ap (d:=B false) rfl ?_))));rw[pz (by rw[C,hp];rfl)]
    rw[hp,Bool.not_false,Bool.true_and] at C;have qz:x.ins.length<=200:=by have:=of_decide_eq_false hp;omega
    refine SS ?_
    refine ab (dA (fun s=>aR prog s ⟨aH [(1,.pt (a6 f)),(4,.pt (b9 f (di L))),(9,.rs 2 0 f.ag.length),(10,I k)],aby [(2,.cells ((lW f.ag.length f.blocks k).map B) 4)],N⟩/\(range x.ins.length).all (uz f k x.ins)=true) (eX (α:=Nat) (fun j=>⟨aH [(1,.pt (a6 f)),(4,.pt (b9 f (di L))),(9,.rs 2 0 f.ag.length),(10,I k),(11,iL x.ins),(12,I j)],aby [(2,.cells ((lW f.ag.length f.blocks k).map B) 4)],N⟩)
     (fun j=>j<=x.ins.length/\(range j).all (uz f k x.ins)=true) (fun j=>x.ins.length - j) 0 (bc eH eH) ⟨Nat.zero_le _,rfl⟩ ?_) ?_)
    .rintro j ⟨hj,tD⟩;refine a7 ?_;refine ab ⟨_,rfl,fun h=>?_,fun h=>?_⟩
     .have dZ:j<x.ins.length:=by simpa using h
      have hy:x.ins[j]? =some x.ins[j]:=bB dZ;have J:=J j;rw[getD_some hy] at J;have X:uz f k x.ins j=false->(range f.blocks.length).all (qu f)=false:=fun hq=>pz (by rw[C,nU dZ hq];rfl);have U:uz f k x.ins j=true->(range (j+1)).all (uz f k x.ins)=true:=fun hq=>k9 tD hq;generalize x.ins[j]=y at hy J;have rD:= @rD y;generalize dM f k A.length y=v at rD J;rw[J] at X U;clear J;refine eF YW ?_;cases v with
      |false=>
       refine cY ?_;refine cl rD ?_;refine SN9 ?_;refine fS ?_;(iterate 5 refine z fun _ _=>?_);refine SS ?_;refine bX bY (yC rfl (fun hp=>?_) fun hp=>(by cases hp));refine ws ?_;refine SS ?_;refine ab (bh (dp (aY (dp (aY (ap (d:=B false) rfl ?_))))));rw[X rfl]
      |true=>
       rw[Bool.true_and] at X U;by_cases fe:y.op=19
       .have rY:cx y=true:=by simp[cx,fe]
        rw[rY,Bool.true_and] at X U;have iO:(y.op==19)=true:=by simp[fe]
        cases j with
        |zero=>
         have s7:decide ((0:Int)<((0:Nat):Int))=false:=rfl;refine cY ?_;refine cl rD ?_;refine SN9 ?_;refine a7 ?_;(iterate 7 refine z fun _ _=>?_);refine af ?_;refine bX bY (yC rfl (fun hp=>(by cases hp)) fun hp=>eC ?_);refine aB ?_;refine ab (bD 1 (bc eH eH) ⟨oG,U rfl⟩ oG)
        |succ i=>
         have s7:decide ((0:Int)<((i+1:Nat):Int))=true:=decide_eq_true oG;have wC:((i+1:Nat):Int) - 1=(i:Int)/\ -9223372036854775808<=(i:Int)/\(i:Int)<=9223372036854775807:=by omega
         have hz:x.ins[i]? =some x.ins[i]:=bB oG;rw[show i+1 - 1=i from rfl,getD_some hz] at X U;generalize x.ins[i]=z at hz X U;refine cY ?_;refine cl rD ?_;refine SN9 ?_;refine SN9 ?_;refine a7 ?_;refine bX bY (yC rfl (fun hp=>?_) fun hp=>?_)
         .refine ws ?_;refine SS ?_;refine ab (bh (dp (aY (dp (aY (ap (d:=B false) rfl ?_))))));rw[X (by revert hp;simp[cx])]
         .refine eC ?_;refine aB ?_;refine ab (bD (i+1+1) (bc eH eH) ⟨oG,U (by revert hp;simp[cx])⟩ oG)
       .have rY:cx y=false:=by simp[cx,fe]
        rw[rY,Bool.false_and] at X U;have iO:(y.op==19)=false:=by simp[fe]
        refine cY ?_;refine cl rD ?_;refine SN9 ?_;refine fS ?_;(iterate 4 refine z fun _ _=>?_);refine af ?_;refine bX bY (yC rfl (fun hp=>(by cases hp)) fun hp=>eC ?_);refine aB ?_;refine ab (bD (j+1) (bc eH eH) ⟨oG,U rfl⟩ oG)
     .have bL:¬ j<x.ins.length:=by simpa using h
      have:j=x.ins.length:=by omega
      subst this;exact⟨bc eH eH,tD⟩
    rintro s ⟨hg,J⟩;rw[J,Bool.true_and] at C;refine⟨_,hg,aE ?_⟩;clear hg rD J hA;obtain⟨ak1,xk,xa,xb,xt,xe,xn,NY,xs,xw,xo⟩:=x;dsimp only at*
    refine cT ?_;refine ab (bj (tM (i:=N) (l:=[(1,.pt (a6 f)),(4,.pt (b9 f (di L))),(9,.rs 2 0 f.ag.length),(10,I k),(13,.pt (bA ⟨xk,xa,xb,xt,xe,xn,NY,xs,xw,xo⟩))]) (ml:=[(2,.cells ((lW f.ag.length f.blocks k).map B) 4)]) (au _ _ _) ⟨rfl,rfl,Af oG,rfl,nt,trivial⟩ ⟨Kd oG (aM oG (aM oG rfl)) .map,trivial⟩) (al ?_));have cy:= @Kj f ⟨xk,xa,xb,xt,xe,xn,NY,xs,xw,xo⟩;generalize gJ f ⟨xk,xa,xb,xt,xe,xn,NY,xs,xw,xo⟩=v at Hv C cy;refine af ?_;refine cl Hv ?_;refine SS ?_;refine ab (aV (al ?_));refine af ?_;refine ab (dI rfl (fun hp=>?_) fun hp=>dL (al ?_))
    .refine aV (al ?_);refine SS ?_;refine ab (fN (dp (aY (ap (d:=B false) rfl ?_))));rw[pz (by rw[C];revert hp;cases v<;>simp)]
    have hv:v=true:=by simpa using hp
    subst hv;rw[Bool.true_and] at C;refine aB ?_;refine ab (yC rfl (fun h7=>?_) fun h7=>eC ?_)
    .have e7:xk=7:=by simpa using h7
     obtain⟨i,hi,e⟩:=(cy rfl).2.2 e7;dsimp only at e;subst e;have yW:=yW i e7 rfl;have y9:(lW f.ag.length f.blocks k)[i]? =some ((lh f.blocks k).any (·==(i:Int))):=Fu hi;have lH:=Cb f.ag.length f.blocks k;rw[e7] at C;generalize (lh f.blocks k).any (·==(i:Int))=o at y9 C;generalize lW f.ag.length f.blocks k=O at y9 lH yW ⊢;have kd:=mq (f:=B) y9;refine aV (al ?_);refine bH ?_;refine ab (dI rfl (fun hp=>?_) fun hp=>dL ?_)
     .refine aV (al ?_);refine SS ?_;refine ab (fN (dp (aY (ap (d:=B false) rfl ?_))));rw[pz (by rw[C,hp];rfl)]
     .refine kp ?_;refine bH ?_;refine ab ?_;refine aB ?_;refine ab (bD (k+1,N+1) (bc eH ⟨?_,trivial⟩) ⟨oM,oM,k9 M (by rw[C,hp];rfl)⟩ oM);dsimp only;rw[yW,List.map_set];rfl
    .have h7:¬ xk=7:=by simpa using h7
     have BC:=BC h7;refine aB ?_;refine ab (bD (k+1,N+1) (bc eH ⟨?_,trivial⟩) ⟨oM,oM,k9 M (by rw[C];simp[h7])⟩ oM);dsimp only;rw[BC];rfl
   .have bL:¬ k<f.blocks.length:=by simpa using h
    have:k=f.blocks.length:=by omega
    subst this;exact⟨N,hP (l:=[]) trivial,M⟩
  .rintro s ⟨N,hg,M⟩;refine⟨_,hg,al ?_⟩;refine SS ?_;refine ab (ap (d:=B true) rfl ?_);rw[M]
theorem BT{f:bd}(M:G6 f)(hw:∀ b∈f.blocks,b.fin.aJ.length<=10):ax prog 64 [.agg (a6 f)] (CM f (iq f.blocks f.args.toNat)):=by
 have hR:=M.ok.ag;have hS:=M.sl;have hN1:=M.ok.BJ;have vg:=M.ok.pos;obtain⟨a,ha,rO⟩:=M.ar;have De:=PJ (R:=f.ag.length) (n:=f.ag.length+f.aU.length) (N:=f.blocks.length) (args:=a) hR oG oG vg rO;rw[ha,dX];refine bP ahU (.cons (.agg (oY f)) .nil) (aaw f _) ?_;rw[ahV];refine aE ?_;refine af ?_;refine ab (bj (cr [(0,a6 f,26)] eH (l:=[(1,.pt (a6 f))]) eH) (aE ?_));refine cT ?_;refine ab (bj (aq (l:=[(1,.pt (a6 f)),(3,I ((f.ag.length+f.aU.length:Nat):Int))]) eH) (aE ?_));have uS:f.ag.length+f.aU.length<=1260:=by omega
 have NZ:f.ag.length<=f.ag.length+f.aU.length:=by omega
 unfold CM;generalize hn:f.ag.length+f.aU.length=n at De uS NZ ⊢;have dN:((f.blocks.length:Nat):Int).toNat=f.blocks.length:=dX _;refine aB ?_;refine cM (Cf rfl rfl V.h V.h) ak ⟨oG,rfl,oG,by rw[V0];omega,V.h⟩ ?_;refine SS ?_;refine ab (bj (bc (l:=[(1,.pt (a6 f)),(3,I n),(4,.rs 1 0 f.blocks.length)]) (ml:=[(1,.cells (dk (iW n f.blocks.length (.rs 2 0 n) 0)) 99)]) ⟨rfl,rfl,congrArg (fun k=>D.rs 1 0 k) dN,trivial⟩ ⟨?_,trivial⟩) (aV (aE ?_)))
 .exact congrArg (fun c=>some (Row.cells c 99)) ((congrArg (fun k=>dq k [B false,D.z]) dN).trans (QD _))
 refine SS ?_;have wM:((n:Nat):Int).toNat=n:=dX _
 refine ab (dA (fun s=>∃ N,aR prog s ⟨aH [(1,.pt (a6 f)),(3,I n),(4,.rs 1 0 f.blocks.length)],aby [(1,.cells (dk ((true,.rs 2 0 n)::ou n f.blocks.length)) 99),(2,.cells ((replicate n false).map B) 4)],N⟩/\3<=N) (eX (α:=Nat) (LO f n f.blocks.length)
  (fun k=>k<=f.blocks.length) (fun k=>f.blocks.length - k) 0 (bc eH eH) oG ?_) ?_)
 .intro k hk;have O:=(Ap (iW n f.blocks.length (.rs 2 0 n) k)).trans (congrArg (·*2) (Jl (n:=n) (d:=.rs 2 0 n) hk));cases k with
  |zero=>
   show aw _ _ _ _ _ _ _ _ _;unfold LO;refine a7 ?_;refine ab ⟨_,rfl,fun h=>?_,fun h=>?_⟩
   .refine kp ?_;have pR:=IX (L:=iW n f.blocks.length (.rs 2 0 n) 0) (t:=0) (true,.rs 2 0 n) (by rw[Jl hk];exact vg);rw[abH vg] at pR;refine cY ?_;refine dJ (iI (vs:=[B true,.rs 2 0 n]) rfl rfl rfl pR) aF (eU t99 lM ⟨rfl,by rw[O];omega⟩ rfl) ?_;refine ab ?_;refine aB ?_;refine ab (bD 1 (bc eH ⟨rfl,?_,trivial⟩) oG oG)
    .exact congrArg (fun c=>some (Row.cells c 4)) ((congrArg (fun k=>dq k [B false]) wM).trans (Cr _ false))
   .exact absurd (of_decide_eq_false h) oG
  |succ k=>
   show aw _ _ _ _ _ _ _ _ _;unfold LO;refine a7 ?_;refine ab ⟨_,rfl,fun h=>?_,fun h=>?_⟩
   .have aj:k+1<f.blocks.length:=by have:=of_decide_eq_true h;omega
    refine kp ?_;have pR:=IX (L:=iW n f.blocks.length (.rs 2 0 n) (k+1)) (t:=k+1) (true,.rs (k+3) 0 n) (by rw[Jl hk];exact aj);refine cY ?_;refine dJ (iI (vs:=[B true,.rs (k+3) 0 n]) rfl rfl (aM oG rfl) pR) aF (eU t99 lM ⟨rfl,by rw[O];omega⟩ rfl) ?_;refine ab ?_;refine aB ?_;refine ab (bD (k+2) (tM (i:=k+3) (e:=4) (cs:=(replicate n false).map B) (aM oG ?_) ⟨rfl,rfl,Af oG,rfl,trivial⟩ ⟨?_,Kd oG (aM oG (aM oG rfl)) .map,trivial⟩) oG oG)
    .exact(au _ _ _).trans (congrArg (fun c=>some (Row.cells c 4)) ((congrArg (fun k=>dq k [B false]) wM).trans (Cr _ false)))
    .rw[c4];refine(if_neg (show ¬ 1=k+3 by omega)).trans ?_;exact(congrArg (Option.map _) (au _ _ _)).trans (congrArg (fun c=>some (Row.cells c 99)) (abJ oG aj))
   .have bL:¬ k+1<f.blocks.length:=by have:=of_decide_eq_false h;omega
    have hkN:k+1=f.blocks.length:=by omega
    refine⟨k+3,bc eH ⟨?_,rfl,trivial⟩,oG⟩;rw[<- abK vg, <- hkN];rfl
 rintro s ⟨N3,hg,VY⟩;have rV:=PI (n:=n) vg;have zE:=W9 De.2.1 De.2.2 vg;have N1:∀ cs sz,(ou n f.blocks.length).map (fun p=>(p.1,sub (dG 2 cs sz) p.2))=ou n f.blocks.length:=fun cs sz=>ahT;have O:=Ap (ou n f.blocks.length);generalize ou n f.blocks.length=T at hg rV zE N1 O;refine⟨_,hg,aE ?_⟩;refine a7 ?_;refine ab (bj (bc (l:=[(1,.pt (a6 f)),(3,I n),(4,.rs 1 0 f.blocks.length)]) (ml:=[(1,.cells (dk ((false,.rs 2 0 n)::T)) 99),(2,.cells ((replicate 0 true++replicate (n - 0) false).map B) 4)]) eH eH) (aV (aE ?_)));refine SS ?_
 refine ab (dA (fun s=>aR prog s ⟨aH [(1,.pt (a6 f)),(3,I n),(4,.rs 1 0 f.blocks.length)],aby [(1,.cells (dk ((false,.rs 2 0 n)::T)) 99),(2,.cells ((replicate a true++replicate (n - a) false).map B) 4)],N3⟩) (eX (α:=Nat) (fun r=>⟨aH [(1,.pt (a6 f)),(3,I n),(4,.rs 1 0 f.blocks.length),(6,I r)],aby [(1,.cells (dk ((false,.rs 2 0 n)::T)) 99),(2,.cells ((replicate r true++replicate (n - r) false).map B) 4)],N3⟩)
  (fun r=>r<=a) (fun r=>a - r) 0 (bc eH eH) oG ?_) ?_)
 .intro r hr;refine a7 ?_;refine ab ⟨_,rfl,fun h=>?_,fun h=>?_⟩
  .have aj:r<a:=by have:=of_decide_eq_true h;omega
   have s6:=Ke (x:=true) (y:=false) (n:=n) (k:=r) oG;have wW:(replicate r true++replicate (n - r) false).length=n:=by simp;omega
   refine kp ?_;refine fS ?_;refine ab ?_;refine aB ?_;refine ab (bD (r+1) (bc eH ⟨rfl,?_,trivial⟩) oG oG);rw[<- s6,List.map_set];rfl
  .have bL:¬ r<a:=by have:=of_decide_eq_false h;omega
   have:r=a:=by omega
   subst this;exact bc eH eH
 clear hg;rintro s hg;refine⟨_,hg.trans (tM (i:=2) (e:=4) (cs:=(replicate a true++replicate (n - a) false).map B) (l:=[(1,.pt (a6 f)),(3,I n),(4,.rs 1 0 f.blocks.length)]) (ml:=[(1,.cells (dk (eW f.ag.length n f.blocks.length (kf f.blocks.length a))) 99)]) rfl eH ⟨?_,trivial⟩),aV (aE ?_)⟩
 .rw[c4,zE];refine congrArg (fun c=>some (Row.cells c 99)) ((FN _ (fun _=>rfl) _).trans (congrArg dk ?_));rw[List.map_cons,N1,Dc,List.drop_zero,dO oP];have:(replicate a true++replicate (n - a) false).length=n:=by simp;omega
  show(false,D.sl _ n)::T=(false,D.sl _ (List.length _))::T;rw[this]
 clear hg rV zE N1 O T;refine SS ?_;have hG0:=De.1;clear De;have V1:iq f.blocks a=mr f.blocks (pM (kf f.blocks.length a)+1) (kf f.blocks.length a):=rfl;generalize iq f.blocks a=RR at V1 ⊢
 refine ab (dA (fun s=>∃ N,aR prog s ⟨aH [(4,.rs 1 0 f.blocks.length)],aby [(1,.cells (dk (eW f.ag.length n f.blocks.length RR)) 99)],N⟩) (JX (α:=CS×Nat)
  (fun s=>⟨aH [(1,.pt (a6 f)),(3,I n),(4,.rs 1 0 f.blocks.length),(7,B s.1.ch)],aby [(1,.cells (dk (eW f.ag.length n f.blocks.length s.1)) 99)],s.2⟩)
  (fun s=>pf f.ag.length n f.blocks.length s.1/\2<=s.2/\(s.1.ch=true->∃ k,pM s.1<k/\mr f.blocks k s.1=RR)/\(s.1.ch=false->s.1=RR)) (fun s=>2*pM s.1+if s.1.ch=true then 1 else 0) (kf f.blocks.length a,N3)
  (bc eH eH) ⟨hG0,oM,fun _=>⟨_,Nat.lt_succ_self _,V1.symm⟩,fun h=>by cases h⟩ ?_) ?_)
 .rintro⟨C,N0⟩ ⟨hG,UT,ja,DB⟩;dsimp only at hG UT ja DB ⊢;refine SS ?_;refine ab ⟨_,rfl,fun h0=>?_,fun h=>?_⟩
  .obtain⟨dV,aem,C'⟩:=ja h0;obtain⟨dV,rfl⟩:∃ j,dV=j+1:=⟨dV - 1,oG⟩
   have Da:=BZ M.ok.bJ hG.ok;refine ws ?_;refine SS ?_;refine ab (aE ?_);refine SS ?_
   refine ab (eX (α:=Nat×Nat)
    (fun k=>⟨aH [(1,.pt (a6 f)),(3,I n),(4,.rs 1 0 f.blocks.length),(7,B ((range k.1).foldl (dF f.blocks) ⟨C.aP,C.re,false⟩).ch),(8,I k.1)],aby [(1,.cells (dk (eW f.ag.length n f.blocks.length ((range k.1).foldl (dF f.blocks) ⟨C.aP,C.re,false⟩))) 99)],k.2⟩)
    (fun k=>k.1<=f.blocks.length/\2<=k.2/\pf f.ag.length n f.blocks.length ((range k.1).foldl (dF f.blocks) ⟨C.aP,C.re,false⟩)) (fun k=>f.blocks.length - k.1) (0,N0) (bc eH eH) ⟨Nat.zero_le _,UT,RL hG false⟩ ?_)
   rintro⟨k,N⟩ ⟨hk,hN,zF⟩;dsimp only at hk hN zF ⊢;have cI:(range (k+1)).foldl (dF f.blocks) ⟨C.aP,C.re,false⟩=dF f.blocks ((range k).foldl (dF f.blocks) ⟨C.aP,C.re,false⟩) k:=by rw[List.range_succ,List.foldl_append];rfl
   have kM:k=f.blocks.length->(range k).foldl (dF f.blocks) ⟨C.aP,C.re,false⟩=ke f.blocks C:=fun e=>by rw[e,ke]
   generalize (range k).foldl (dF f.blocks) ⟨C.aP,C.re,false⟩=u at zF cI kM;refine a7 ?_;refine ab ⟨_,rfl,fun h=>?_,fun h=>?_⟩
   .have aj:k<f.blocks.length:=by simpa using h
    have hx:f.blocks[k]? =some f.blocks[k]:=bB aj;have U:f.blocks[k]∈f.blocks:=df _;generalize f.blocks[k]=x at hx U;have J:dF f.blocks u k=if u.re.getD k false=true then(nextR x.fin).foldl (cQ x.fin (jf x (u.aP.getD k [])).1) u else u:=by rw[dF,hx]
    have BU:=zO (R:=f.ag.length) (n:=n) (s:=u) aj;obtain⟨rr,kd⟩:=acA BU;have vw:=RJ BU;have O:=(Ap (eW f.ag.length n f.blocks.length u)).trans (congrArg (·*2) (vA f.ag.length n f.blocks.length u));have EE:cA f.ag.length n u k=if u.re.getD k false=true then⟨false,cz f.ag.length n (u.aP.getD k [])⟩ else⟨true,replicate n false⟩:=rfl
    have Ii:=zF.yes k aj;have UU:=zF.ok.UW aj;refine aV (al ?_);cases oU:u.re.getD k false with
    |false=>
     rw[oU] at EE J;rw[EE] at kd;have J:dF f.blocks u k=u:=J;have kd:(dk (eW f.ag.length n f.blocks.length u)).drop (k*2+0)=B true::ld (replicate n false)::rr:=kd;refine bH ?_;refine ab (dI rfl (fun h=>sd (Ay ?_)) fun h=>oH);refine aB ?_;refine ab (bD (k+1,N) (bc ⟨rfl,rfl,rfl,?_,rfl,trivial⟩ ⟨?_,trivial⟩) ⟨oM,hN,?_⟩ oM)
     .dsimp only;rw[cI,J];rfl
     .dsimp only;rw[cI,J];rfl
     .dsimp only;rw[cI,J];exact zF
    |true=>
    rw[oU] at EE J;rw[EE] at kd vw;have J:dF f.blocks u k=(nextR x.fin).foldl (cQ x.fin (jf x (u.aP.getD k [])).1) u:=J;have Ii:=Ii oU;generalize u.aP.getD k []=w at EE J kd vw Ii UU;have kd:(dk (eW f.ag.length n f.blocks.length u)).drop (k*2+0)=B false::ld (cz f.ag.length n w)::rr:=kd;refine bH ?_;refine ab (dI rfl (fun h=>oH) fun h=>dL (tI Y0 ?_));have wZ:(cz f.ag.length n w).length=n:=Cl ..;obtain⟨q1,q2,q3⟩:=Cm (R:=f.ag.length) (n:=n) hR oG NZ (l:=x.ins) (ok:=true) (fun y hy=>hn▸(M.ins x U y hy).1) UU Ii;have vu:ax prog 69 [.agg (a6 f),I k,.agg (cC ⟨false,cz f.ag.length n w⟩)] (.agg (cC (eY f.ag.length x.ins ⟨false,cz f.ag.length n w⟩))):=vu hx (by rw[hn];exact wZ) (by show(cz f.ag.length n w).length<=_;omega) (fun y hy=>(M.ins x U y hy).1) (by have:=(M.ok.bJ x U).len;omega);rw[q1] at vu;have Ek:(jf x w).1=(x.ins.foldl lC (w,true)).1:=rfl;rw[Ek] at J;clear Ek;generalize (x.ins.foldl lC (w,true)).1=w' at q1 q2 q3 vu J;refine bH ?_;refine ao (dP rfl rfl r5 lM vw) aF (dQ t99 lM (by rw[O];omega)) ?_;refine cl vu ?_;refine af ?_;have ahW:(cz f.ag.length n w').length=n:=Cl ..;refine bX bY (bj (tM (i:=N) (l:=[(1,.pt (a6 f)),(3,I n),(4,.rs 1 0 f.blocks.length),(7,B u.ch),(8,I k),(9,.pt (cC ⟨false,cz f.ag.length n w'⟩))]) (ml:=[(1,.cells (dk (eW f.ag.length n f.blocks.length u)) 99)]) (au _ _ _) ⟨rfl,rfl,Af oG,rfl,rfl,nt,trivial⟩ ⟨Ae oG (aM oG (aM oG rfl)) JK,trivial⟩) (al ?_));have tF:=tF hx (by have:=hw x U;omega);rw[(M.ed x U).2] at tF;have fM:=(M.ok.bJ x U).to;have jz:=Fb x.fin;have VX:=hw x U;have pQ:=M.wr x U;have rJ:=(M.ed x U).1;generalize nextR x.fin=l at tF fM jz J;refine af ?_;refine cl tF ?_;refine SS ?_;refine ab (aE ?_);refine SS ?_
    refine ab (eX (α:=Nat×Nat)
     (fun j=>⟨aH [(1,.pt (a6 f)),(3,I n),(4,.rs 1 0 f.blocks.length),(7,B ((l.take j.1).foldl (cQ x.fin w') u).ch),(8,I k),(9,.pt (cC ⟨false,cz f.ag.length n w'⟩)),(10,aX l),(11,I j.1)],aby [(1,.cells (dk (eW f.ag.length n f.blocks.length ((l.take j.1).foldl (cQ x.fin w') u))) 99)],j.2⟩)
     (fun j=>j.1<=l.length/\2<=j.2/\pf f.ag.length n f.blocks.length ((l.take j.1).foldl (cQ x.fin w') u)) (fun j=>l.length - j.1) (0,N+1) (bc eH eH) ⟨Nat.zero_le _,oM,zF⟩ ?_)
    clear vw O;rintro⟨j,N'⟩ ⟨hj,H4,Ij⟩;dsimp only at hj H4 Ij ⊢;have X:∀ t,l[j]? =some t->(l.take (j+1)).foldl (cQ x.fin w') u=cQ x.fin w' ((l.take j).foldl (cQ x.fin w') u) t:=fun t ht=>pT ht;have q8:j=l.length->(l.take j).foldl (cQ x.fin w') u=dF f.blocks u k:=fun e=>by rw[J,dO oG]
    generalize (l.take j).foldl (cQ x.fin w') u=v at Ij X q8;refine a7 ?_;refine ab ⟨_,rfl,fun h=>?_,fun h=>?_⟩
    .have dZ:j<l.length:=by simpa using h
     have ht:l[j]? =some l[j]:=bB dZ;have rW:=fM _ (df dZ);generalize l[j]=t at ht rW;obtain⟨i,rfl⟩:=ic rW.1;have cy:i<f.blocks.length:=by omega
     have BU:=zO (R:=f.ag.length) (n:=n) (s:=v) cy;have vw:=RJ BU;have O:=(Ap (eW f.ag.length n f.blocks.length v)).trans (congrArg (·*2) (vA f.ag.length n f.blocks.length v));have pR:=fun q=>IX (L:=eW f.ag.length n f.blocks.length v) (t:=i) q (by rw[vA];exact cy);obtain⟨N2,oV⟩:=RM (R:=f.ag.length) (n:=n) hR oG NZ Ij rJ pQ cy q2 q3;have X:=X _ ht
     have xv:ax prog 68 [.agg (a6 f),I k,I i,.agg (cC ⟨false,cz f.ag.length n w'⟩)] (.agg (cC (mF x.fin i ⟨false,cz f.ag.length n w'⟩))):=xv hx oG (by show(cz f.ag.length n w').length<=_;omega) (by
      rcases pQ with e|⟨r,h1,h2⟩
      .exact .inl e
      .exact .inr ⟨r,by show r<(cz f.ag.length n w').length;omega,h2⟩)
     have lH:(mF x.fin i ⟨false,cz f.ag.length n w'⟩).is.length=n:=(PG ..).trans ahW;have cF:(cA f.ag.length n v i).is.length=n:=IY;have Bd:=Bd (a:=cA f.ag.length n v i) (b:=mF x.fin i ⟨false,cz f.ag.length n w'⟩) (by rw[cF,lH]) oG;unfold Be at oV
     have jT:(pb (cA f.ag.length n v i) (mF x.fin i ⟨false,cz f.ag.length n w'⟩)).is.length=n:=by
      unfold pb;split
      .exact lH
      .split
       .exact cF
       .show(List.zipWith _ _ _).length=n;rw[List.length_zipWith];omega
     generalize pb (cA f.ag.length n v i) (mF x.fin i ⟨false,cz f.ag.length n w'⟩)=now at Bd oV jT;generalize mF x.fin i ⟨false,cz f.ag.length n w'⟩=ov at xv Bd lH;generalize ak2:cA f.ag.length n v i=lN at Bd oV cF vw;have vw:((dk (eW f.ag.length n f.blocks.length v)).drop (i*2)).take 2=cC lN:=vw;refine aE ?_;refine cY ?_;refine ao (dP rfl rfl r5 lM vw) aF (dQ t99 lM (by rw[O];omega)) ?_;refine af ?_;refine ab (bj (tM (i:=N') (l:=[(1,.pt (a6 f)),(3,I n),(4,.rs 1 0 f.blocks.length),(7,B v.ch),(8,I k),(9,.pt (cC ⟨false,cz f.ag.length n w'⟩)),(10,aX l),(11,I j),(12,.pt (cC lN))]) (ml:=[(1,.cells (dk (eW f.ag.length n f.blocks.length v)) 99)]) (au _ _ _) ⟨rfl,rfl,Af oG,rfl,rfl,rfl,rfl,rfl,nt,trivial⟩ ⟨Ae oG (aM oG (aM oG rfl)) JK,trivial⟩) (tI Y1 ?_));refine cT ?_;refine cl xv ?_;refine cl Bd ?_;refine af ?_;refine bX bY (bj (tM (i:=N'+1) (l:=[(1,.pt (a6 f)),(3,I n),(4,.rs 1 0 f.blocks.length),(7,B v.ch),(8,I k),(9,.pt (cC ⟨false,cz f.ag.length n w'⟩)),(10,aX l),(11,I j),(12,.pt (cC lN)),(13,.pt (cC now))]) (ml:=[(1,.cells (dk (eW f.ag.length n f.blocks.length v)) 99)]) (au _ _ _) ⟨rfl,rfl,Af oG,rfl,rfl,rfl,rfl,rfl,rfl,nt,trivial⟩ ⟨Ae oG (aM oG (aM oG rfl)) JK,trivial⟩) (al ?_));refine a7 ?_;refine ao (R3 rfl rfl) ak V.h ?_;refine SS ?_;refine ab (aV (aE ?_));refine SS ?_
     refine ab (dA (fun s=>aR prog s ⟨aH [(1,.pt (a6 f)),(3,I n),(4,.rs 1 0 f.blocks.length),(7,B v.ch),(8,I k),(9,.pt (cC ⟨false,cz f.ag.length n w'⟩)),(10,aX l),(11,I j),(13,.pt (cC now)),(14,B (pd lN now n))],aby [(1,.cells (dk (eW f.ag.length n f.blocks.length v)) 99)],N'+2⟩) (eX (α:=Nat) (fun q=>⟨aH [(1,.pt (a6 f)),(3,I n),(4,.rs 1 0 f.blocks.length),(7,B v.ch),(8,I k),(9,.pt (cC ⟨false,cz f.ag.length n w'⟩)),(10,aX l),(11,I j),(12,.pt (cC lN)),(13,.pt (cC now)),(14,B (pd lN now q)),(15,I q)],aby [(1,.cells (dk (eW f.ag.length n f.blocks.length v)) 99)],N'+2⟩)
      (fun q=>q<=n) (fun q=>n - q) 0 (bc ⟨rfl,rfl,rfl,rfl,rfl,rfl,rfl,rfl,rfl,rfl,?_,rfl,trivial⟩ eH) oG ?_) ?_)
     .show B (lN.any==now.any)=B (pd lN now 0);unfold pd;rw[List.range_zero,List.all_nil,Bool.and_true]
     .intro q hq;have xr:=XQ lN now q;have V2:q=n->pd lN now q=pd lN now n:=fun e=>by rw[e]
      generalize pd lN now q=sq at xr V2;refine aB ?_;refine ab ⟨_,rfl,fun h=>?_,fun h=>?_⟩
      .have BS:q<n:=by simpa using h
       have EF:lN.is[q]? =some lN.is[q]:=bB oG;have Bs:now.is[q]? =some now.is[q]:=bB oG;rw[getD_some EF,getD_some Bs] at xr;generalize lN.is[q]=b1 at EF xr;generalize now.is[q]=b2 at Bs xr;refine An Y2 ?_;cases sq with
       |false=>
        refine af ?_;(iterate 11 refine z fun _ _=>?_);refine af ?_;refine bX bY ?_;refine aB ?_;refine ab (bD (q+1) (bc ⟨rfl,rfl,rfl,rfl,rfl,rfl,rfl,rfl,rfl,rfl,?_,rfl,trivial⟩ eH) oG oG);rw[xr];rfl
       |true=>
        refine SN9 ?_;refine aB ?_;refine bQ rfl rfl (R3 rfl rfl) (fun hc=>⟨ak,V.h⟩) ?_;refine af ?_;refine bX bY ?_;refine aB ?_;refine ab (bD (q+1) (bc ⟨rfl,rfl,rfl,rfl,rfl,rfl,rfl,rfl,rfl,rfl,?_,rfl,trivial⟩ eH) oG oG);rw[xr];rfl
      .have bL:¬ q<n:=by simpa using h
       rw[<- V2 oG];exact bc eH eH
     rintro s1 DW;have cn:=YZ cF jT;generalize pd lN now n=sq at DW cn;refine⟨_,DW,al ?_⟩;clear DW;refine af ?_;refine ab (yC rfl (fun hp=>?_) fun hp=>eC ?_)
     .have hns:¬ (lN.any=now.any/\lN.is=now.is):=fun h=>by rw[cn.2 h] at hp;cases hp
      have pR:=pR (DK now);rcases oV with⟨oV,_⟩|⟨_,pF,BB⟩
      .exact absurd ⟨congrArg Cert.any oV.symm,congrArg Cert.is oV.symm⟩ hns
      rw[XP BB] at pR;refine eF Y3 ?_;refine fS ?_;refine dJ (iI (vs:=cC now) rfl rfl rfl pR) aF (eU t99 lM ⟨rfl,by rw[O];omega⟩ rfl) ?_;refine bX bY (kp ?_);refine SS ?_;refine ab ?_;refine aB ?_;refine ab (bD (j+1,N'+2) (bc ⟨rfl,rfl,rfl,?_,rfl,rfl,rfl,rfl,trivial⟩ ⟨?_,trivial⟩) ⟨oM,oM,?_⟩ oM)
      .dsimp only;rw[X,pF];rfl
      .dsimp only;rw[X];rfl
      .dsimp only;rw[X];exact N2
     .have hsq:sq=true:=by simpa using hp
      have V3:=cn.1 hsq;rcases oV with⟨_,oV⟩|⟨a8,_,_⟩
      .rw[oV] at X N2;refine aB ?_;refine ab (bD (j+1,N'+2) (bc ⟨rfl,rfl,rfl,?_,rfl,rfl,rfl,rfl,trivial⟩ ⟨?_,trivial⟩) ⟨oM,oM,?_⟩ oM)
       .dsimp only;rw[X];rfl
       .dsimp only;rw[X];rfl
       .dsimp only;rw[X];exact N2
      .exfalso;rcases a8 with h|h
       .exact h V3.1.symm
       .exact h V3.2.symm
    .have bL:¬ j<l.length:=by simpa using h
     have vl:=q8 oG;subst vl;show aw _ _ _ _ _ _ _ _ _;refine aB ?_;refine ab (bD (k+1,N') (bc ⟨rfl,rfl,rfl,?_,rfl,trivial⟩ ⟨?_,trivial⟩) ⟨oM,H4,?_⟩ oM)
     .dsimp only;rw[cI];rfl
     .dsimp only;rw[cI];rfl
     .dsimp only;rw[cI];exact Ij
   .have bL:¬ k<f.blocks.length:=by simpa using h
    have hl:=kM oG;subst hl;refine bD (ke f.blocks C,N) (bc eH eH) ⟨zF,hN,fun hc=>?_,fun hc=>?_⟩ ?_
    .refine⟨dV,?_,?_⟩
     .have:=Da.2;unfold nS at this;show pM (ke f.blocks C)<dV;rw[if_pos hc] at this;omega
     .dsimp only at hc ⊢;rw[<- C',mr,if_pos hc]
    .dsimp only at hc ⊢;rw[<- C',mr,if_neg (by simp[hc])]
    .have:=Da.2;unfold nS at this;dsimp only;rw[if_pos h0];split at this<;>rename_i hc
     .rw[if_pos hc];omega
     .rw[if_neg hc];omega
  .have NG:=DB h;subst NG;exact⟨N0,bc eH eH⟩
 .rintro s ⟨N4,hg⟩;refine⟨_,hg,aE ?_⟩;refine af ?_;refine ab (bj (cr [(1,dk (eW f.ag.length n f.blocks.length RR),99)] eH (l:=[(2,.sl (dk (eW f.ag.length n f.blocks.length RR)) f.blocks.length)]) ⟨?_,trivial⟩) (ap rfl rfl));show sub (dG 1 _ (prog.cellsOf 99)) (D.rs 1 0 f.blocks.length)=_;rw[zX (by rw[lM,Ap,vA])]
end Go.Proofs.Tryz.K
end
