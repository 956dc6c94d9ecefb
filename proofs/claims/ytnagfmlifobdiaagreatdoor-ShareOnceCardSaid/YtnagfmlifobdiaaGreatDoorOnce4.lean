/- Part 4. -/
import Derived.Test.YtnagfmlifobdiaaGreatDoorOnce3
import Derived.Lib.ItoaNum
import Derived.Lib.Join
set_option linter.all false
set_option maxHeartbeats 8000000
set_option maxRecDepth 10000
open List(range)
section
open Go Go.Abs Go.Proofs Go.Argus
namespace Go.Abs
section
variable{P:Program}{env:Env}{m:Mem}{nx:Nat}{x y:Operand}{t e:TypeId}{k:IntKind}
theorem Sk{w:List Int}{rest:List D}{sz:Nat}(h:w.length=sz):(w.map cS++rest).take sz=w.map cS:=by
 rw[List.take_append_of_le_length (by simp[h]),dq (by simp[h])]
theorem Ue{sz n i:Nat}{l:List (List Int)}{w:List Int}(hx:(opd env x).core=.sl (cX l) n)(hy:(opd env y).core=.s (.int k i))(he:aF P t=e)(hs:P.cellsOf e=sz)(hl:∀ w∈l,w.length=sz)(hz:l[i]? =some w):
 Ef P (.indexAddr t x y) env m nx ⟨bi P t=true/\0<=(i:Int)/\(i:Int)<n/\((i:Int).toNat+1)*sz<=(cX l).length,.pt (w.map cS++cX (l.drop (i+1))),[],[],0⟩:=
 Me hx hy he hs (by rw[lu];exact Lt hl hz)
theorem Uf{sz n i:Nat}{l:List (List Int)}{w:List Int}(ht:bi P t=true)(hl:∀ w∈l,w.length=sz)(hz:l[i]? =some w)(hn:i<n):bi P t=true/\0<=(i:Int)/\(i:Int)<n/\((i:Int).toNat+1)*sz<=(cX l).length:=by
 have:=za hl hz;refine⟨ht,oG,oG,?_⟩;rw[lu,Nat.add_mul,Nat.one_mul];exact this
theorem eX{i:Nat}{cs:List D}{l:List (Nat×D)}(hm:m i=some (.cells cs e))(hl:lN l fun t=>sub (cM i cs (P.cellsOf e)) (env t)):aH P ⟨env,m,nx⟩ ⟨ax l,fun _=>none,nx⟩:=
 dA [(i,cs,e)] ⟨hm,trivial⟩ hl
theorem fN{l:List (Nat×D)}(hl:lN l env):aH P ⟨env,m,nx⟩ ⟨ax l,fun _=>none,nx⟩:=Sl hl fun _=>.inr rfl
end
section
variable{P:Program}{env:Env}{m:Mem}{nx:Nat}{x y:Operand}{t e:TypeId}{k:IntKind}
theorem adq{α:Type}{f:α->D}{l:List α}{b:Int}(hx:(opd env x).core=.sl (l.map f) l.length)(he:aF P t=e)(hs:P.cellsOf e=1)(hb:(opd env y).core=.s (.int .i64 b))(hc:bi P t=true)(C:0<=b/\b<=l.length):
 Ef P (.slice t x none (some y) none) env m nx ⟨True,.sl ((l.take b.toNat).map f) (l.take b.toNat).length,[],[],0⟩:=by
 have h:=K4 (P:=P) (env:=env) (m:=m) (nx:=nx) (t:=t) (lo:=none) (hi:=some y) (a:=0) (b:=b) (es':=(l.take b.toNat).map f) hx he hs (by simp[ed]) (by simp[ed,hb,D.int?]) (by simp[List.map_take])
 have h2:(bi P t=true/\(0:Int)<=0/\(0:Int)<=b/\b<=(l.length:Int))=True:=by
  apply propext;constructor
  .exact fun _=>trivial
  .exact fun _=>⟨hc,oG,C.1,C.2⟩
 have J:(b - 0).toNat=(l.take b.toNat).length:=by rw[List.length_take];omega
 rw[h2,J] at h;exact h
theorem Gq{i j sz:Nat}{C:List D}{r:Row}(J:j≠i)(hm:m j=some r)(h:Row.sub (cM i C sz) r=r):(if j=i then none else(m j).map (Row.sub (cM i C sz)))=some r:=by
 rw[if_neg J,hm];exact congrArg some h
theorem rG{i:Nat}{cs:List D}{l:List (Nat×D)}{ml:List (Nat×Row)}(hm:m i=some (.cells cs e))(hl:lN l fun t=>sub (cM i cs (P.cellsOf e)) (env t))(C:D2 ml fun j=>if j=i then none else(m j).map (Row.sub (cM i cs (P.cellsOf e)))):aH P ⟨env,m,nx⟩ ⟨ax l,br ml,nx⟩:=
 (aH.freeze env m nx i cs e hm).trans (cn hl C)
end
end Go.Abs
namespace Go.Argus
open Go.Proofs.Tryz.K (nextR)
theorem rC{P:Nat->Bool}{n k:Nat}(hk:k<n)(h:P k=false):(range n).all P=false:=by
 refine Bool.eq_false_iff.2 fun ht=>?_;have:=bS.1 ht k (by simpa using hk);rw[h] at this;cases this
theorem pD{P:Nat->Bool}{k:Nat}(h:(range k).all P=true)(hk:P k=true):(range (k+1)).all P=true:=by
 rw[List.range_succ,List.all_append,h];simp[hk]
abbrev sX(l:List Bool):D:=.sl (l.map B) l.length
def lU:bE:=⟨[],⟨0,0,0,0,0,.empty,o6,[],[],0⟩⟩
def uM(bs:List bE)(s:CS)(b:Nat)(y:cv)(i:Nat):Bool:=
 let p:=((dj bs bs.length b).getD i 0).toNat
 !(s.re.getD p false)||qR (iZ (bs.getD p lU).fin b (mZ (bs.getD p lU) (s.wsq.getD p [])).1) (y.args.getD i 0).toNat
def vt(bs:List bE)(s:CS)(b:Nat)(y:cv):Bool:=(range (dj bs bs.length b).length).all (uM bs s b y)
def k9(y:cv):Bool:=y.op==19
def sY(bs:List bE)(s:CS)(b:Nat):Bool:=
 !(s.re.getD b false)||((mZ (bs.getD b lU) (s.wsq.getD b [])).2&&((bs.getD b lU).ins.takeWhile k9).all (vt bs s b))
def uB(bs:List bE)(args:Nat):Bool:=(range bs.length).all (sY bs (pU bs args))
theorem takeWhile_eq{α:Type}{p:α->Bool}{l:List α}{j:Nat}(h:∀ y∈l.take j,p y=true)(h':∀ y,l[j]? =some y->p y=false):l.takeWhile p=l.take j:=by
 induction l generalizing j with
 |nil=>simp
 |cons a l ih=>cases j with
  |zero=>have:=h' a rfl;simp[this]
  |succ j=>
   have ha:=h a oS;rw[List.takeWhile_cons,if_pos ha,List.take_succ_cons,ih (j:=j) (fun y hy=>h y (by simp[hy])) (fun y hy=>h' y (by simpa using hy))]
theorem Qv{b:Nat}{p:Int}:∀ {l:List Int} {L:Nat->List Int} {i:Nat},p∈(l.foldl (jW b) L) i↔p∈L i\/(p=b/\∃ t∈l,t.toNat=i)
 |[],L,i=>by simp
 |t::l,L,i=>by
  rw[List.foldl_cons,Qv (l:=l)];unfold jW;simp only[up];by_cases h:i=t.toNat
  .subst h;simp only[if_true,List.mem_append,List.mem_singleton];constructor
   .rintro((h|h)|⟨h,u,h1,h2⟩)
    .exact .inl h
    .exact .inr ⟨h,t,oS,rfl⟩
    .exact .inr ⟨h,u,by simp[h1],h2⟩
   .rintro(h|⟨h,u,h1,h2⟩)
    .exact .inl (.inl h)
    .exact .inl (.inr h)
  .rw[if_neg h];constructor
   .rintro(h'|⟨h',u,h1,h2⟩)
    .exact .inl h'
    .exact .inr ⟨h',u,by simp[h1],h2⟩
   .rintro(h'|⟨h',u,h1,h2⟩)
    .exact .inl h'
    .rcases List.mem_cons.1 h1 with e|e
     .subst e;exact absurd h2.symm h
     .exact .inr ⟨h',u,e,h2⟩
theorem J2{bs:List bE}{p:Int}{i:Nat}:∀ {k:Nat},p∈dj bs k i↔∃ b:Nat,p=b/\b<k/\∃ x,bs[b]? =some x/\∃ t∈nextR x.fin,t.toNat=i
 |0=>by simp[dj]
 |k+1=>by
  have ih:=J2 (bs:=bs) (p:=p) (i:=i) (k:=k);have e:dj bs (k+1)=qv bs (dj bs k) k:=by rw[dj,List.range_succ,List.foldl_append];rfl
  rw[e,qv];cases hx:bs[k]? with
  |none=>
   simp only;rw[ih];constructor
   .rintro⟨b,h1,h2,C⟩;exact⟨b,h1,oG,C⟩
   .rintro⟨b,h1,h2,x,C,J⟩;refine⟨b,h1,?_,x,C,J⟩;rcases Nat.lt_or_ge b k with g|g
    .exact g
    .have:b=k:=by omega
     subst this;rw[hx] at C;cases C
  |some x=>
   simp only;rw[Qv,ih];constructor
   .rintro(⟨b,h1,h2,C⟩|⟨h1,h2⟩)
    .exact⟨b,h1,oG,C⟩
    .exact⟨k,h1,oG,x,hx,h2⟩
   .rintro⟨b,h1,h2,M,C,J⟩;rcases Nat.lt_or_ge b k with g|g
    .exact .inl ⟨b,h1,g,M,C,J⟩
    .have:b=k:=by omega
     subst this;rw[hx] at C;cases C;exact .inr ⟨h1,J⟩
theorem PX{bs:List bE}{n:Nat}(hb:∀ b∈bs,zh n b):∀ (k:Nat) {s:CS},mO n s->mO n (rL bs k s)
 |0,_,h=>h
 |k+1,s,h=>by
  rw[rL];split
  .exact PX hb k (JM hb h).1
  .exact(JM hb h).1
theorem ado{bs:List bE}{args:Nat}(hb:∀ b∈bs,zh bs.length b)(C:∀ u∈mD args,ll u):mO bs.length (pU bs args):=PX hb _ (PV C)
theorem Rg{b:Nat}:∀ {l:List Int} {L:Nat->List Int} {c:Nat},(∀ i,(L i).length<=c)->∀ i,((l.foldl (jW b) L) i).length<=c+l.length
 |[],_,_,h,i=>h i
 |t::l,L,c,h,i=>by
  have:=Rg (b:=b) (l:=l) (Qu (t:=t) (b:=b) h) i;rw[List.foldl_cons,List.length_cons];omega
theorem Qw{bs:List bE}(C:∀ b∈bs,b.fin.aP.length<=9):∀ (k i:Nat),(dj bs k i).length<=12*k
 |0,_=>by simp[dj]
 |k+1,i=>by
  have ih:=Qw C k;have e:dj bs (k+1)=qv bs (dj bs k) k:=by rw[dj,List.range_succ,List.foldl_append];rfl
  rw[e,qv];cases hx:bs[k]? with
  |none=>have:=ih i;simp only;omega
  |some x=>
   have h1:=Rg (l:=nextR x.fin) (b:=k) ih i;have h2:=Kp x.fin;have J:=C x (bu hx);simp only;omega
theorem Qx{bs:List bE}{n k:Nat}(hn:bs.length=n)(hk:k<n):(lO bs)[k]? =some (dj bs n k):=by
 subst hn;simp[lO,hk]
def uC(f:ai):Bool:=decide (f.result=1)||(decide (f.result=2)||(decide (f.result=0)&& !f.iter))
def rR(f:ai):Bool:=
 nU f.name&&(jO f.args 0 (if(f.aO.length:Int)<6 then(f.aO.length:Int) else 6)&&(uC f&&(!decide ((1200:Int)<f.aO.length)&&(!decide ((60:Int)<f.bK.length)&&jO f.blocks.length 1 1200))))
def wD(f:ai):Bool:=
 rQ f.aO 3&&(rQ (f.aO.take f.args.toNat) 2&&(rQ f.bK 2&&(!decide ((6:Int)<f.signals.length)&& !f.signals.any fun s=> !isName s)))
def wE(l:List ByteArray)(i:Nat):Bool:=Op.bytesLess (l.getD i .empty).toList (l.getD (i+1) .empty).toList
def Lv(f:ai):Bool:=(range (f.signals.length - 1)).all (wE f.signals)
def pJ(bs:List bE)(k:Nat):List Int:=((bs.take k).filter fun x=>x.fin.kind==7).map fun x=>x.fin.a
def lK(f:ai)(k:Nat):Bool:=
 let x:=f.blocks.getD k lU
 iW f x.fin&&(!decide ((200:Int)<x.ins.length)&& !(x.fin.kind==7&&(pJ f.blocks k).any (·==x.fin.a)))
def rM(f:ai)(b:Nat)(l:List cv)(j:Nat):Bool:=kB f b (l.getD j o6) ((l.take (j+1)).all k9) (dj f.blocks f.blocks.length b).length
def uD(f:ai)(b:Nat):Bool:=(range (f.blocks.getD b lU).ins.length).all (rM f b (f.blocks.getD b lU).ins)
def lL(f:ai):Bool:=
 rR f&&(wD f&&(Lv f&&((range f.blocks.length).all (lK f)&&(range f.blocks.length).all (uD f))))
def ep(f:ai):Int:=if lL f=true then(if uB f.blocks f.args.toNat=true then 0 else 81) else 80
def jG(l:List Int)(r:Int):Prop:=0<=r/\r<l.length
theorem kQ{l:List Int}{r:Int}(h:dz l r≠0):jG l r:=Classical.byContradiction fun hn=>h (Rh hn)
theorem sZ{l:List Int}{r:Int}(h:o7 l r=true):jG l r:=by
 refine kQ fun e=>?_;simp[o7,e] at h
theorem uy{l rs:List Int}(h:rS l rs=true):∀ r∈rs,jG l r:=fun r hr=>sZ (bS.1 h r hr)
theorem Gu{l:List Int}{r want of:Int}(h:pO l r want of=true)(C:want≠0):jG l r:=by
 unfold pO at h;rw[if_neg C] at h;split at h
 .refine kQ fun e=>?_;simp[e] at h
 .split at h
  .refine kQ fun e=>?_;simp[e] at h
  .split at h
   .exact sZ h
   .refine kQ fun e=>?_;simp[e] at h
structure Wx(l:List Int)(x:cv)(s:Shape):Prop where
 to:s.to≠0->jG l x.to
 a:s.a≠0->jG l x.a
 b:s.b≠0->jG l x.b
 args:s.args=5\/s.args=6->x.args.length<=6/\∀ r∈x.args,jG l r
theorem Kq{l:List Int}{x:cv}{s:Shape}(h:wF l x s=true):Wx l x s:=by
 unfold wF at h;simp only[aW] at h;obtain⟨h1,h2,J,C,_⟩:=h;refine⟨Gu h1,Gu h2,Gu J,fun hs=>?_⟩;unfold ym at C;rcases hs with hs|hs
 .rw[if_pos hs,aW] at C;have:=lH.1 C.1;exact⟨oG,uy C.2⟩
 .rw[if_neg oG,if_pos hs,aW] at C;have:(x.args.length:Int)=1:=by simpa using C.1
  exact⟨oG,uy C.2⟩
theorem yl{l:List (Int×Shape)}{op:Int}{s:Shape}(h:iw l op=some s):(op,s)∈l:=by
 unfold iw at h;rw[cU] at h;obtain⟨⟨o,s'⟩,h1,rfl⟩:=h;have h2:=List.find?_some h1;have C:=List.mem_of_find?_eq_some h1;have:o=op:=by simpa using h2
 subst this;exact C
theorem JN{l:List Int}{x:cv}{s:Shape}(hl:l.length<=1200)(hm:(x.op,s)∈mA\/(x.op,s)∈lP)(h:Wx l x s):qM x:=by
 obtain⟨h1,h2,M,J⟩:=h;unfold jG at h1 h2 M J;have hr:∀ {r:Int},0<=r/\r<l.length->0<=r/\r<1200:=fun h=>by omega
 have U:∀ {r:Int},0<=r/\r<l.length-> -1000000<=r/\r<1200:=fun h=>by omega
 obtain⟨op,to,a,b,n,args⟩:=x;dsimp only at h1 h2 M J hm;simp only[mA,lP,List.mem_cons,bR,List.not_mem_nil,or_false] at hm;rcases hm with hm|hm
 .rcases hm with hm|hm|hm|hm|hm|hm|hm|hm|hm|hm|hm|hm|hm|hm|hm<;>obtain⟨rfl,rfl⟩:=hm<;>refine⟨fun r C=>?_,fun h=>?_,?_,fun h=>?_⟩<;>
   simp_all[ei,kO,bO,uN,yC,uE,yv]<;>first|omega|(rcases C with rfl|rfl<;>omega)|(have:=J.2 r C;omega)
 .rcases hm with hm|hm|hm|hm|hm|hm|hm|hm|hm<;>obtain⟨rfl,rfl⟩:=hm<;>refine⟨fun r C=>?_,fun h=>?_,?_,fun h=>?_⟩<;>
   simp_all[ei,kO,bO,uN,yC,uE,yv]<;>first|omega|(rcases C with rfl|rfl<;>omega)|(rcases C with rfl|rfl|C<;>first|omega|(have:=J.2 r C;omega))
theorem iu{a b:Int}:dv a b=true↔a=b:=by simp[dv]
theorem GK{l bK:List Int}{r n:Int}(hs:∀ k∈bK,k≠0)(h:zi l bK r n=true):jG l r/\0<=n/\n<bK.length:=by
 unfold zi at h;rw[aW,lH] at h;obtain⟨⟨h1,h2⟩,C⟩:=h
 have J:dz bK n≠0:=by
  obtain⟨k,rfl⟩:=lv h1;have hk:k<bK.length:=by omega
  rw[KT (aL hk)];exact hs _ (gA hk)
 refine⟨kQ ?_,h1,oG⟩;rw[show dz l r=dz bK n by simpa using C];exact J
theorem PY{f:ai}{b ahead:Int}{x:cv}{phis:Bool}(hl:f.aO.length<=1200)(hs:∀ k∈f.bK,k≠0)(nD:f.bK.length<=60)(h:kB f b x phis ahead=true):
 qM x/\(x.op=19->(x.args.length:Int)=ahead/\phis=true/\0<b/\jG f.aO x.to/\∀ r∈x.args,dz f.aO r=dz f.aO x.to/\jG f.aO r):=by
 unfold kB at h;split at h
 .rename_i M;simp only[aW,iu] at h;have hr:=kQ (l:=f.aO) (r:=x.a) oG;unfold jG at hr;refine⟨⟨fun r h'=>?_,fun h'=>by omega,?_,fun h'=>by omega⟩,fun h'=>by omega⟩
  .simp[ei,bO,uN,M] at h';omega
  .simp[kO,bO,uE,yv,M]
 .rename_i M;split at h
  .rename_i J;simp only[aW,iu] at h;obtain⟨h1,h2,h3⟩:=GK hs h.2.2.2;unfold jG at h1;refine⟨⟨fun r h'=>?_,fun h'=>by omega,?_,fun h'=>by omega⟩,fun h'=>by omega⟩
   .simp[ei,bO,uN,yC,J] at h'
   .simp[kO,bO,uE,J];omega
  .rename_i J;split at h
   .rename_i U;simp only[aW,iu] at h;obtain⟨h1,h2,h3⟩:=GK hs h.2.2.2;unfold jG at h1;refine⟨⟨fun r h'=>?_,fun h'=>by omega,?_,fun h'=>by omega⟩,fun h'=>by omega⟩
    .simp[ei,bO,uN,U] at h';omega
    .simp[kO,bO,uE,yv,U]
   .rename_i U;split at h
    .rename_i C;simp only[aW,iu,decide_eq_true_eq] at h;obtain⟨g1,g2,X,g4,g5,g6,g7,g8⟩:=h;have hr:=sZ X;have hk:dz f.aO x.to≠0:=fun e=>by simp[o7,e] at X
     refine⟨⟨fun r h'=>?_,fun h'=>by omega,?_,fun h'=>by omega⟩,fun _=>⟨g7,g1,g2,hr,fun r jL=>?_⟩⟩
     .simp[ei,bO,uN,yC,C] at h'
     .unfold jG at hr;simp[kO,bO,uE,C];omega
     .have:dv (dz f.aO r) (dz f.aO x.to)=true:=by
       simp only[Bool.not_eq_true',List.any_eq_false] at g8;simpa using g8 r jL
      rw[iu] at this;exact⟨this,kQ (by rw[this];exact hk)⟩
    .rename_i C;rw[aW] at h;cases hs:iw mA x.op with
     |none=>rw[hs] at h;simp at h
     |some s=>
      rw[hs] at h;exact⟨JN hl (.inl (yl hs)) (Kq h.2),fun h'=>absurd h' C⟩
structure Ii(f:ai)(x:End):Prop where
 fin:Ez x
 wh:x.aP.length<=7
 to:∀ t∈eD x,0<=t/\t<f.blocks.length
theorem F3{f:ai}{x:End}(h:oX f x=true):x.aP.length<=7/\(∀ w∈x.aP,0<=w.to/\w.to<f.blocks.length)/\(0<=x.others->x.others<f.blocks.length):=by
 unfold oX at h;rw[aW,aW] at h;obtain⟨h1,h2,C⟩:=h;have h2:(x.aP.length:Int)<=7:=by simpa using h2
 refine⟨oG,fun w J=>?_,fun h0=>?_⟩
 .obtain⟨i,hi⟩:=dN J;have hm:(w,i)∈x.aP.zipIdx:=List.mem_zipIdx_iff_getElem?.2 hi;have:=bS.1 h1 _ hm;simp only[sd,aW,eu,lH] at this;omega
 .rw[Bool.or_eq_true] at C;rcases C with C|C
  .have:x.others= -1:=by simpa using C
   omega
  .rw[eu,lH] at C;omega
theorem aeF{x:End}(h:tG x=true):x.kind=0/\x.a=0/\x.b=0/\x.to=0/\x.fY=0/\x.others= -1/\x.args.length=0/\x.aP.length=0:=by
 simp only[tG,aW,decide_eq_true_eq] at h;omega
theorem Sm{f:ai}{x:End}(hl:f.aO.length<=1200)(hr:uC f=true)(h:iW f x=true):Ii f x:=by
 have lm:∀ {r:Int},jG f.aO r->0<=r/\r<1200:=fun h=>by unfold jG at h;omega
 unfold iW at h;rw[aW] at h;obtain⟨h,hb⟩:=h;have hb:=aeF hb;have U:∀ {t:Int},eu f t=true->0<=t/\t<f.blocks.length:=fun h=>by rw[eu,lH] at h;omega
 obtain⟨kind,a,b,to,fY,name,ins,args,aP,others⟩:=x;simp only[eA] at h hb;by_cases h1:kind=1
 .subst h1;simp only[if_true] at h hb;have J:=U h;have C:aP=[]:=List.length_eq_zero_iff.1 hb.2.2.2.2.2.2.2;subst C;refine⟨⟨fun r h'=>?_,?_,oS,oS,oS⟩,oS,fun t ht=>?_⟩
  .simp[dX,bO] at h'
  .simp[ku,bO]
  .simp[eD,nH,bO] at ht;subst ht;exact J
 by_cases h2:kind=2
 .subst h2;simp only[Int.reduceEq,if_false,if_true,aW,iu] at h hb;have C:aP=[]:=List.length_eq_zero_iff.1 hb.2.2.2.2.2.2.2;subst C;have CT:=lm (kQ (l:=f.aO) (r:=a) oG);have J:=U h.2.1;have uj:=U h.2.2;refine⟨⟨fun r h'=>?_,?_,oS,oS,oS⟩,oS,fun t ht=>?_⟩
  .simp[dX,bO] at h';subst h';exact CT
  .simp[ku,bO]
  .simp[eD,nH,bO] at ht;rcases ht with rfl|rfl
   .exact J
   .exact uj
 by_cases h3:kind=3
 .subst h3;simp only[Int.reduceEq,if_false,if_true] at h hb;have C:aP=[]:=List.length_eq_zero_iff.1 hb.2.2.2.2.2.2.2;subst C;refine⟨⟨fun r h'=>?_,?_,oS,oS,oS⟩,oS,fun t ht=>?_⟩
  .simp[dX,bO] at h';obtain⟨h1,rfl⟩:=h';split at h
   .rename_i hc;rw[iu] at h;exact lm (kQ (by rw[h];exact hc.1))
   .rw[iu] at h;exact absurd h h1
  .simp[ku,bO]
  .simp[eD,bO] at ht
 by_cases h4:kind=4
 .subst h4;simp only[Int.reduceEq,if_false,if_true] at h hb;have C:aP=[]:=List.length_eq_zero_iff.1 hb.2.2.2.2.2.2.2;subst C;refine⟨⟨fun r h'=>?_,?_,oS,oS,oS⟩,oS,fun t ht=>?_⟩
  .simp[dX,bO] at h'
  .simp[ku,bO]
  .simp[eD,bO] at ht
 by_cases h5:kind=5
 .subst h5;simp only[Int.reduceEq,if_false,if_true,aW] at h hb;obtain⟨g1,g2,X,M⟩:=h;obtain⟨yc,FG,FH⟩:=F3 M;have J:=U X
  have hi:qM ins:=by
   cases hs:iw lP ins.op with
   |none=>rw[hs] at g1;simp at g1
   |some s=>rw[hs] at g2;exact JN hl (.inr (yl hs)) (Kq g2)
  refine⟨⟨fun r h'=>?_,?_,?_,fun _=>hi.ar,oS⟩,yc,fun t ht=>?_⟩
  .simp[dX,bO] at h';exact hi.rd r h'
  .simp only[ku,if_true];exact hi.wr
  .dsimp only at yc ⊢;omega
  .simp[eD,nH,bO] at ht;rcases ht with rfl|⟨w,C,rfl⟩|⟨h0,rfl⟩
   .exact J
   .exact FG w C
   .exact⟨h0,FH h0⟩
 by_cases h6:kind=6
 .subst h6;simp only[Int.reduceEq,if_false,if_true,aW,Bool.or_eq_true,iu,decide_eq_true_eq] at h hb;obtain⟨g1,g2,X,M,g5,g6⟩:=h;obtain⟨yc,FG,FH⟩:=F3 g6;have J:=U g5;have hv:=uy X;refine⟨⟨fun r h'=>?_,?_,?_,oS,fun _=>?_⟩,yc,fun t ht=>?_⟩
  .simp[dX,bO] at h';exact lm (hv r h')
  .simp only[ku,bO];rcases M with M|M
   .simp[M]
   .have:=lm (sZ M);simp;omega
  .dsimp only at yc ⊢;omega
  .dsimp only;omega
  .simp[eD,nH,bO] at ht;rcases ht with rfl|⟨w,C,rfl⟩|⟨h0,rfl⟩
   .exact J
   .exact FG w C
   .exact⟨h0,FH h0⟩
 by_cases h7:kind=7
 .subst h7;simp only[Int.reduceEq,if_false,if_true,aW,iu,decide_eq_true_eq] at h hb;obtain⟨g1,g2,X,M,g5⟩:=h;have C:aP=[]:=List.length_eq_zero_iff.1 hb.2.2.2.2.2.2.2;subst C;have J:=U g5;have hv:=uy X;have CT:=lm (kQ (l:=f.aO) (r:=a) oG);refine⟨⟨fun r h'=>?_,?_,oS,oS,fun _=>?_⟩,oS,fun t ht=>?_⟩
  .simp[dX,bO] at h';exact lm (hv r h')
  .simp only[ku,bO];simp;omega
  .dsimp only;omega
  .simp[eD,nH,bO] at ht;subst ht;exact J
 by_cases h8:kind=8
 .subst h8;simp only[Int.reduceEq,if_false,if_true,aW,iu] at h hb;obtain⟨g1,g2,X,M,g5⟩:=h;obtain⟨yc,FG,FH⟩:=F3 g5;have J:=U X;have uj:=U M;have CT:=lm (kQ (l:=f.aO) (r:=a) oG);have Ju:=lm (sZ g2);refine⟨⟨fun r h'=>?_,?_,?_,oS,oS⟩,yc,fun t ht=>?_⟩
  .simp[dX,bO] at h';subst h';exact CT
  .simp[ku,bO];omega
  .dsimp only at yc ⊢;omega
  .simp[eD,nH,bO] at ht;rcases ht with rfl|rfl|⟨w,C,rfl⟩|⟨h0,rfl⟩
   .exact J
   .exact uj
   .exact FG w C
   .exact⟨h0,FH h0⟩
 by_cases h9:kind=9
 .subst h9;simp only[Int.reduceEq,if_false,if_true,aW,iu] at h hb;obtain⟨g1,g2,X⟩:=h;have C:aP=[]:=List.length_eq_zero_iff.1 hb.2.2.2.2.2.2.2;subst C;have J:=U X
  have CT:=lm (kQ (l:=f.aO) (r:=a) (by
   rw[g2];intro e
   simp[uC,e,g1] at hr))
  refine⟨⟨fun r h'=>?_,?_,oS,oS,oS⟩,oS,fun t ht=>?_⟩
  .simp[dX,bO] at h';subst h';exact CT
  .simp[ku,bO]
  .simp[eD,nH,bO] at ht;subst ht;exact J
 .simp[h1,h2,h3,h4,h5,h6,h7,h8,h9] at h
theorem adr(a b:Int):ll (Pa a b):=by
 unfold Pa mj ll;simp only;rw[wrap_u64 (n:=(BitVec.ofInt IntKind.u64.bits a||| BitVec.ofInt IntKind.u64.bits b).toNat) (BitVec.isLt (w:=64) _)];have h:(BitVec.ofInt IntKind.u64.bits a||| BitVec.ofInt IntKind.u64.bits b).toNat<18446744073709551616:=BitVec.isLt (w:=64) _;exact⟨Int.natCast_nonneg _,Int.ofNat_lt.2 h⟩
theorem Z6{w:List Int}{n:Int}(h:∀ u∈w,ll u):∀ u∈r7 w n,ll u:=fun u hu=>by
 unfold r7 at hu;split at hu
 .unfold En at hu;rcases List.mem_or_eq_of_mem_set hu with h1|h1
  .exact h u h1
  .rw[h1];exact adr _ _
 .exact h u hu
theorem Qy:∀ k,∀ u∈mD k,ll u
 |0,u,hu=>by
  rw[List.eq_of_mem_replicate hu];simp[ll]
 |k+1,u,hu=>Z6 (Qy k) u hu
theorem qM.rl{x:cv}(h:qM x):(ei x).length<=100000:=by
 unfold ei;split
 .simp
 .split
  .simp
  .split
   .rename_i J;have:=h.ar (.inl J);omega
   .split
    .rename_i C;have:=h.ar (.inr C);simp;omega
    .simp
theorem Ez.rf{x:End}(h:Ez x)(hi:x.kind=5->qM x.ins):(dX x).length<=100000:=by
 unfold dX;split
 .simp
 .split
  .split<;>simp
  .split
   .rename_i J;exact(hi J).rl
   .split
    .rename_i C;have:=h.a2 (by simpa[bO] using C);omega
    .simp
structure L1(f:ai):Prop where
 pos:0<f.blocks.length
 lD:f.blocks.length<=1200
 aO:f.aO.length<=1200
 args:0<=f.args/\f.args<=6
 bF:∀ b∈f.blocks,zh f.blocks.length b
 ends:∀ b∈f.blocks,Ii f b.fin
 right:∀ (b:Nat) x,f.blocks[b]? =some x->∀ (j:Nat) y,x.ins[j]? =some y->kB f b y ((x.ins.take (j+1)).all k9) (dj f.blocks f.blocks.length b).length=true
 bK:(∀ k∈f.bK,k≠0)/\f.bK.length<=60
 ao9:∀ b∈f.blocks,b.fin.kind=5->qM b.fin.ins
theorem So{l:List Int}{m:Int}(h:rQ l m=true):∀ k∈l,k≠0:=fun k hk e=>by
 subst e;simp only[rQ,Bool.not_eq_true',List.any_eq_false] at h;have:=h 0 hk;simp[A3] at this
theorem aeH{f:ai}{x:End}(hl:f.aO.length<=1200)(h:iW f x=true)(M:x.kind=5):qM x.ins:=by
 unfold iW at h;rw[aW] at h;have h:=h.1;unfold eA at h;simp only[M,Int.reduceEq,if_false,if_true,aW] at h;obtain⟨C,J,_⟩:=h;cases hs:iw lP x.ins.op with
 |none=>rw[hs] at C;simp at C
 |some s=>rw[hs] at J;exact JN hl (.inr (yl hs)) (Kq J)
theorem HI{f:ai}(h:lL f=true):L1 f:=by
 unfold lL at h;simp only[aW] at h;obtain⟨X,hK,_,hE,hR⟩:=h;unfold rR at X;simp only[aW,lH,Bool.not_eq_true',decide_eq_false_iff_not] at X;obtain⟨_,ha,hr,Cz,nD,dt⟩:=X;unfold wD at hK;simp only[aW,Bool.not_eq_true',decide_eq_false_iff_not] at hK;obtain⟨_,_,rh,_,_⟩:=hK;have C:f.aO.length<=1200:=by omega
 have U:∀ x∈f.blocks,iW f x.fin=true/\x.ins.length<=200:=fun x hx=>by
  obtain⟨k,hk⟩:=dN hx;have af:k<f.blocks.length:=(bI.1 hk).1;have:=bS.1 hE k (by simpa using af);rw[lK,getD_some hk] at this;simp only[aW,Bool.not_eq_true',decide_eq_false_iff_not] at this;exact⟨this.1,oG⟩
 have J:∀ x∈f.blocks,Ii f x.fin:=fun x hx=>Sm C hr (U x hx).1
 have XU:∀ (b:Nat) x,f.blocks[b]? =some x->∀ (j:Nat) y,x.ins[j]? =some y->kB f b y ((x.ins.take (j+1)).all k9) (dj f.blocks f.blocks.length b).length=true:=fun b x hx j y hy=>by
  have af:b<f.blocks.length:=(bI.1 hx).1;have:=bS.1 hR b (by simpa using af);rw[uD,getD_some hx] at this;have:=bS.1 this j (by simpa using(bI.1 hy).1);rw[rM,getD_some hy] at this;exact this
 have M:∀ b∈f.blocks,b.fin.kind=5->qM b.fin.ins:=fun b hb M=>aeH C (U b hb).1 M
 have IK:∀ b∈f.blocks,∀ x∈b.ins,qM x:=fun b hb x hx=>by
  obtain⟨k,hk⟩:=dN hb;obtain⟨j,hj⟩:=dN hx;exact(PY C (So rh) oG (XU k b hk j x hj)).1
 refine⟨oG,oG,C,⟨ha.1,by have:=ha.2;split at this<;>omega⟩,fun b hb=>⟨by have:=(U b hb).2;omega,IK b hb,(J b hb).fin,fun x hx=>(IK b hb x hx).rl,(J b hb).fin.rf (M b hb),fun t ht=>(J b hb).to t (PZ.1 ht)⟩,J,XU,⟨So rh,oG⟩,M⟩
theorem L1.phi{f:ai}(h:L1 f){b:Nat}{x:bE}(hx:f.blocks[b]? =some x){y:cv}(hy:y∈x.ins)(C:y.op=19):y.args.length=(dj f.blocks f.blocks.length b).length/\∀ r∈y.args,0<=r/\r<1280:=by
 obtain⟨j,hj⟩:=dN hy;obtain⟨h1,_,_,_,h2⟩:=(PY h.aO h.bK.1 h.bK.2 (h.right b x hx j y hj)).2 C;refine⟨oG,fun r hr=>?_⟩;have:=(h2 r hr).2;unfold jG at this;have:=h.aO;omega
end Go.Argus
namespace Go.Proofs.Tryz.K
theorem Jx{p q:D}{f:ai}{n args:Nat}(hp:Tr p)(hq:Tr q)(eO:p.one=true)(bN:q.one=true)(hn:f.blocks.length=n)(Ac:0<n)(Ae:n<=100000)(ha:f.args=args)(zZ:args<=1000)(Am:∀ u∈mD args,ll u)(hb:∀ b∈f.blocks,zh n b)
 (al3:∀ b x,f.blocks[b]? =some x->∀ y∈x.ins,y.op=19->y.args.length=(dj f.blocks n b).length/\∀ r∈y.args,0<=r/\r<1280):
 aB prog 98 [.agg (a7 p q f)] (B (uB f.blocks args)):=by
 have bg:∀ a∈[D.agg (a7 p q f)],Tr a:=.cons (kP hp hq f) .nil;have Cg:=Cg hp hq eO bN hn Ac Ae ha zZ Am hb;have Ch:=Ch hp hq eO bN hn Ae (fun b h=>(hb b h).fin.wh) (fun b h=>(hb b h).to);have Wv:mO n (pU f.blocks args):=by subst hn;exact ado hb Am
 refine bj al4 bg (.s _) ?_;rw[al5];refine aw ?_;refine ab ?_;refine aa (bH (dA [(0,a7 p q f,113)] eH (l:=[(1,.pt (a7 p q f))]) eH) ?_);have oh:uB f.blocks args=(range n).all (sY f.blocks (pU f.blocks args)):=by rw[uB,hn]
 rw[oh];clear oh;generalize pU f.blocks args=R at Cg Wv ⊢;obtain⟨lw,lr,mW,rg⟩:=Wv;have Cg:aB prog 132 [.agg (a7 p q f)] (.aM [.sl (cX R.wsq) n,sX R.re]):=by unfold sX;rw[lr];exact Cg
 show AW _ _ _ _ (DV _) _;refine ws ?_;refine SS ?_;refine cl Cg ?_;refine bw ?_;refine aa (aw ?_);refine SS ?_;refine cl Ch ?_;refine SS ?_;refine aa (bH (fN (l:=[(1,.pt (a7 p q f)),(3,.sl (cX R.wsq) n),(4,sX R.re),(5,bX (lO f.blocks))]) eH) (Y8 (az (aw ?_))));refine bw ?_
 refine aa (bZ (fun s=>(range n).all (sY f.blocks R)=true) (cH (α:=Nat×Nat)
  (fun k=>⟨ax [(1,.pt (a7 p q f)),(3,.sl (cX R.wsq) n),(4,sX R.re),(5,bX (lO f.blocks)),(25,cG f.blocks),(26,I n),(27,I k.1)],fun _=>none,k.2⟩)
  (fun k=>k.1<=n/\(range k.1).all (sY f.blocks R)=true) (fun k=>n - k.1) (0,1) (fN ⟨rfl,rfl,rfl,rfl,rfl,congrArg (fun k:Nat=>I k) hn,rfl,trivial⟩) ⟨Nat.zero_le _,rfl⟩ ?_) ?_)
 .rintro⟨k,N⟩ ⟨hk,X⟩;dsimp only at hk X ⊢;refine SS ?_;refine aa ⟨_,rfl,fun h=>?_,fun h=>?_⟩
  .have af:k<n:=by simpa using h
   have hx:f.blocks[k]? =some f.blocks[k]:=aL oG;have iQ:f.blocks[k]∈f.blocks:=gA _;generalize f.blocks[k]=x at hx iQ;have gR:=hb x iQ;have hph:=al3 k x hx;have hw:R.wsq[k]? =some R.wsq[k]:=aL oG;have nK:R.re[k]? =some R.re[k]:=aL oG;have Az:=mW _ (gA (h:=by omega):R.wsq[k]∈R.wsq)
   have M:sY f.blocks R k=(!R.re[k]||((mZ x R.wsq[k]).2&&(x.ins.takeWhile k9).all (vt f.blocks R k))):=by
    rw[sY,getD_some hw,getD_some nK,getD_some hx]
   generalize R.wsq[k]=w at hw Az M;generalize R.re[k]=b at nK M;refine aw ?_;refine cz ?_;refine aa (bH (eX (i:=N) (l:=[(1,.pt (a7 p q f)),(3,.sl (cX R.wsq) n),(4,sX R.re),(5,bX (lO f.blocks)),(6,I k),(7,.pt (bU x)),(25,cG f.blocks),(26,I n),(27,I k)]) (aj _ _ _) ⟨rfl,rfl,rfl,rfl,rfl,kY,rfl,rfl,rfl,trivial⟩) (az (ag ?_)));refine bw ?_;refine aa (cA rfl (fun h=>uv (HA ?_)) fun h=>cm (az (CV adp ?_)))
   .have O3:b=false:=by simpa using h
    subst O3;refine ab ?_;refine aa (bf (k+1,N+1) (fN eH) ⟨oM,pD X (by rw[M];rfl)⟩ oM)
   have O4:b=true:=by simpa using h
   subst O4;have oE:=oE Az gR.len gR.ins gR.fin gR.rl gR.rf;have vI:=JH x w;rw[Az] at vI;generalize mZ x w=th at oE M vI;obtain⟨w1,ok⟩:=th;dsimp only at oE M vI;refine ay ?_;refine av (Ue rfl rfl V.h V.h oN oN) ak (Uf V.h oN oN oG) ?_;refine av (lI rfl V.h V.h (Sk oN)) ak (lJ V.h V.h oP) ?_;refine cl oE ?_;refine cz ?_;refine cq cx (bH (fN (l:=[(1,.pt (a7 p q f)),(3,.sl (cX R.wsq) n),(4,sX R.re),(5,bX (lO f.blocks)),(6,I k),(7,.pt (bU x)),(9,B ok),(25,cG f.blocks),(26,I n),(27,I k)]) eH) (az (ag ?_)));refine ab ?_;refine aa (cA rfl (fun h=>?_) fun h=>cm (aw ?_))
   .have bB:ok=false:=by simpa using h
    subst bB;refine az (ag ?_);refine SS ?_;refine aa (dG (bY (bA (GH (aD (d:=B false) rfl ?_)))));rw[rC af (by rw[M];rfl)]
   have bB:ok=true:=by simpa using h
   subst bB;have M:sY f.blocks R k=(x.ins.takeWhile k9).all (vt f.blocks R k):=M;refine aY ?_;have l6:=gR.len
   refine aa (cH (α:=Nat×Nat)
    (fun j=>⟨ax [(1,.pt (a7 p q f)),(3,.sl (cX R.wsq) n),(4,sX R.re),(5,bX (lO f.blocks)),(6,I k),(25,cG f.blocks),(26,I n),(27,I k),(49,kx x.ins),(50,I x.ins.length),(51,I j.1)],fun _=>none,j.2⟩)
    (fun j=>j.1<=x.ins.length/\(∀ y∈x.ins.take j.1,k9 y=true)/\(x.ins.take j.1).all (vt f.blocks R k)=true) (fun j=>x.ins.length - j.1) (0,_) (fN eH) ⟨Nat.zero_le _,oS,oS⟩ ?_)
   rintro⟨j,N⟩ ⟨hj,Ci,ET⟩;dsimp only at hj Ci ET ⊢;refine SS ?_;refine aa ⟨_,rfl,fun h=>?_,fun h=>?_⟩
   .have cZ:j<x.ins.length:=by simpa using h
    have hy:x.ins[j]? =some x.ins[j]:=aL cZ;have XJ:x.ins[j]∈x.ins:=gA cZ;generalize x.ins[j]=y at hy XJ;refine aw ?_;refine aY ?_;refine aa (bH (eX (i:=N) (l:=[(1,.pt (a7 p q f)),(3,.sl (cX R.wsq) n),(4,sX R.re),(5,bX (lO f.blocks)),(6,I k),(11,.pt (cg y)),(25,cG f.blocks),(26,I n),(27,I k),(49,kx x.ins),(50,I x.ins.length),(51,I j)]) (aj _ _ _) ⟨rfl,rfl,rfl,rfl,rfl,kY,rfl,rfl,rfl,rfl,rfl,rfl,trivial⟩) (az (ag ?_)));refine ay ?_;refine aa (cA rfl (fun h=>uv (afY oC oC (HA ?_))) fun h=>cm (aw ?_))
    .have aC:y.op≠19:=by simpa using h
     refine ab ?_;refine aa (bf (k+1,_) (fN eH) ⟨oM,pD X ?_⟩ oM);rw[M,takeWhile_eq Ci (fun y' h'=>by rw[hy] at h';cases h';simpa[k9] using aC)];exact ET
    have rB:y.op=19:=by simpa using h
    obtain⟨ug,har⟩:=hph y XJ rB;have hA:=Qx hn af
    have XK:∀ p∈dj f.blocks n k,∃ C:Nat,p=C/\C<n:=fun p hp=>by
     obtain⟨b,h1,h2,_⟩:=J2.1 hp;exact⟨b,h1,h2⟩
    have O6:vt f.blocks R k y=(range (dj f.blocks n k).length).all (uM f.blocks R k y):=by rw[vt,hn]
    have J:∀ i,uM f.blocks R k y i=(!(R.re.getD ((dj f.blocks n k).getD i 0).toNat false)||qR (iZ (f.blocks.getD ((dj f.blocks n k).getD i 0).toNat lU).fin k (mZ (f.blocks.getD ((dj f.blocks n k).getD i 0).toNat lU) (R.wsq.getD ((dj f.blocks n k).getD i 0).toNat [])).1) (y.args.getD i 0).toNat):=fun i=>by rw[uM,hn]
    have hAl:=Qw (fun b h=>(hb b h).fin.wh) n k;generalize dj f.blocks n k=A at ug hA XK O6 J hAl
    have afB:∀ i,i<A.length->uM f.blocks R k y i=false->(range n).all (sY f.blocks R)=false:=fun i hi he=>by
     refine rC af ?_;rw[M];refine Bool.eq_false_iff.2 fun ht=>?_
     have al6:y∈x.ins.takeWhile k9:=by
      have:x.ins.take (j+1)=x.ins.take j++[y]:=by rw[List.take_add_one,hy];rfl
      have h2:x.ins=x.ins.take (j+1)++x.ins.drop (j+1):=(List.take_append_drop _ _).symm;rw[h2,this,List.takeWhile_append_of_pos]
      .simp
      .intro z hz;rcases List.mem_append.1 hz with h|h
       .exact Ci z h
       .rw[List.mem_singleton.1 h];simp[k9,rB]
     have:=bS.1 ht y al6;rw[O6,rC hi he] at this;cases this
    refine cz ?_
    refine aa (cH (α:=Nat×Nat)
     (fun i=>⟨ax [(1,.pt (a7 p q f)),(3,.sl (cX R.wsq) n),(4,sX R.re),(5,bX (lO f.blocks)),(6,I k),(11,.pt (cg y)),(25,cG f.blocks),(26,I n),(27,I k),(49,kx x.ins),(50,I x.ins.length),(51,I j),(61,aT A),(62,I A.length),(63,I i.1)],fun _=>none,i.2⟩)
     (fun i=>i.1<=A.length/\(range i.1).all (uM f.blocks R k y)=true) (fun i=>A.length - i.1) (0,_) (fN eH) ⟨Nat.zero_le _,rfl⟩ ?_)
    rintro⟨i,N⟩ ⟨hi,MB⟩;dsimp only at hi MB ⊢;refine SS ?_;refine aa ⟨_,rfl,fun h=>?_,fun h=>?_⟩
    .have eN:i<A.length:=by simpa using h
     have XL:A[i]? =some A[i]:=aL eN;obtain⟨C,XM,z1⟩:=XK _ (gA eN);rw[XM] at XL;clear XM;have XN:f.blocks[C]? =some f.blocks[C]:=aL oG;have Ww:f.blocks[C]∈f.blocks:=gA _;have XO:R.wsq[C]? =some R.wsq[C]:=aL oG;have XP:R.re[C]? =some R.re[C]:=aL oG;have NB:=mW _ (gA (h:=by omega):R.wsq[C]∈R.wsq);have XQ:y.args[i]? =some y.args[i]:=aL oG;have xY:=har _ (gA (h:=by omega):y.args[i]∈y.args);have J:=J i;rw[getD_some XL,lu,getD_some XN,getD_some XO,getD_some XP,getD_some XQ] at J;generalize f.blocks[C]=xp at XN Ww J;generalize R.wsq[C]=wp at XO NB J;generalize R.re[C]=rb at XP J;generalize y.args[i]=r at XQ xY J;obtain⟨rn,rfl⟩:=lv xY.1;rw[lu] at J;have zD:=hb xp Ww;have oE:=Go.Proofs.Tryz.K.oE NB zD.len zD.ins zD.fin zD.rl zD.rf;have EU:=JH xp wp;rw[NB] at EU;generalize mZ xp wp=tp at oE J EU;obtain⟨w2,ok2⟩:=tp;dsimp only at oE J EU;have xu:=xu (x:=xp.fin) (b:=(k:Int)) (w:=w2) EU (by have:=zD.fin.wh;omega) (by have:=zD.fin.wr;omega);have nE:=Rb xp.fin k w2;rw[EU] at nE;generalize iZ xp.fin k w2=w3 at xu nE J;have lY:=lY (w:=w3) (m:=rn) nE oG;refine ws ?_;refine bw ?_;refine aa (CV abv ?_);refine du ?_;refine av (Ue rfl rfl V.h V.h oN oN) ak (Uf V.h oN oN oG) ?_;refine av (lI rfl V.h V.h (Sk oN)) ak (lJ V.h V.h oP) ?_;refine cl oE ?_;refine cz ?_;refine cq cx (bH (eX (i:=N) (l:=[(1,.pt (a7 p q f)),(3,.sl (cX R.wsq) n),(4,sX R.re),(5,bX (lO f.blocks)),(6,I k),(11,.pt (cg y)),(12,I i),(13,I C),(14,.pt (w2.map cS)),(25,cG f.blocks),(26,I n),(27,I k),(49,kx x.ins),(50,I x.ins.length),(51,I j),(61,aT A),(62,I A.length),(63,I i)]) (aj _ _ _) ⟨rfl,rfl,rfl,rfl,rfl,rfl,rfl,rfl,kY,rfl,rfl,rfl,rfl,rfl,rfl,rfl,rfl,rfl,trivial⟩) (dV abw ?_))
     have qI:∀ v:Bool,v=uM f.blocks R k y i->(v=false->(range n).all (sY f.blocks R)=false)/\(v=true->(range (i+1)).all (uM f.blocks R k y)=true):=fun v hv=>by
      subst hv;exact⟨afB i eN,fun h=>pD MB h⟩
     cases rb with
     |false=>
      obtain⟨_,U⟩:=qI true J.symm;have U:=U rfl;refine bh ?_;refine bc rfl rfl (rX rfl rfl V.h V.h (wx) oN) (fun hc=>⟨ak,(rY V.h (wx) oN)⟩) ?_;refine ay ?_;refine bc rfl rfl (lI rfl V.h V.h (Ug (by first|rfl|exact bJ rfl|(simp;done)|(simp;omega)|omega))) (fun hc=>⟨ak,(lJ V.h V.h (by first|rfl|exact bJ rfl|(simp;done)|(simp;omega)|omega))⟩) ?_;refine gc xu ?_;refine bw ?_;refine gc lY ?_;refine ab ?_;refine cq cx (aQ rfl (fun h=>oH) fun h=>cP ?_);refine ab ?_;refine aa (bf (i+1,_) (fN eH) ⟨oM,U⟩ oM)
     |true=>
      obtain⟨vU,U⟩:=qI (qR w3 rn) J.symm;generalize qR w3 rn=hv at lY vU U;refine bh ?_;refine bc rfl rfl (rX rfl rfl V.h V.h (wx) oN) (fun hc=>⟨ak,(rY V.h (wx) oN)⟩) ?_;refine ay ?_;refine bc rfl rfl (lI rfl V.h V.h (Ug (by first|rfl|exact bJ rfl|(simp;done)|(simp;omega)|omega))) (fun hc=>⟨ak,(lJ V.h V.h (by first|rfl|exact bJ rfl|(simp;done)|(simp;omega)|omega))⟩) ?_;refine gc xu ?_;refine bw ?_;refine gc lY ?_;refine ab ?_;refine cq cx (aQ rfl (fun h=>?_) fun h=>cP ?_)
      .have hf:hv=false:=by simpa using h
       refine ws ?_;refine SS ?_;refine aa (bG (bY (bY (bY (bA (GH (aD (d:=B false) rfl ?_)))))));rw[vU hf]
      .have ht:hv=true:=by simpa using h
       have U:=U ht;refine ab ?_;refine aa (bf (i+1,_) (fN eH) ⟨oM,U⟩ oM)
    .have bm:¬ i<A.length:=by simpa using h
     have hiA:i=A.length:=by omega
     subst hiA;show aq _ _ _ _ _ _ _ _ _;refine ab ?_;refine aa (bf (j+1,_) (fN eH) ⟨oM,fun z hz=>?_,?_⟩ oM)
     .dsimp only at hz;rw[List.take_add_one,hy] at hz;rcases List.mem_append.1 hz with h|h
      .exact Ci z h
      .rw[List.mem_singleton.1 h];simp[k9,rB]
     .dsimp only;rw[List.take_add_one,hy,List.all_append,ET];simpa[O6] using MB
   .have bm:¬ j<x.ins.length:=by simpa using h
    have Fb:j=x.ins.length:=by omega
    subst Fb;show aq _ _ _ _ _ _ _ _ _;refine ab ?_;refine aa (bf (k+1,_) (fN eH) ⟨oM,pD X ?_⟩ oM);rw[List.take_length] at Ci ET;rw[M,takeWhile_eq (j:=x.ins.length) (by rw[List.take_length];exact Ci) (fun y h=>by simp at h),List.take_length];exact ET
  .have bm:¬ k<n:=by simpa using h
   have:k=n:=by omega
   subst this;exact X
 .rintro⟨env,m,nx⟩ X;refine⟨_,.refl _,ag ?_⟩;refine SS ?_;refine aa (GH (aD (d:=B true) rfl ?_));rw[X]
end Go.Proofs.Tryz.K
namespace Go.Argus
theorem XR:∀ b1 b2 b3 b4 b5 b6:Bool,(if(if(if(if(if(!b1)=true then true else !b2)=true then true else !b3)=true then true else b4)=true then true else b5)=true then true else !b6)= !(b1&&(b2&&(b3&&(!b4&&(!b5&&b6))))):=by decide
theorem XS:∀ b1 b2 b3 b4 b5:Bool,(if(if(if(if(!b1)=true then true else !b2)=true then true else !b3)=true then true else b4)=true then true else b5)= !(b1&&(b2&&(b3&&(!b4&& !b5)))):=by decide
theorem hd3:∀ b1 b2 b3 b4:Bool,(if(if b1=true then true else b2)=true then true else if b3=true then !b4 else false)=(b1||(b2||(b3&& !b4))):=by decide
def nM(l:List Int):List (Value×D):=l.map fun a=>(.int .i64 a,B true)
theorem Lw(a:Int):∀ l:List Int,(cT (.int .i64 a) (nM l)).map (·.2)=if(l.any (·==a))=true then some (B true) else none
 |[]=>rfl
 |b::l=>by
  have ih:=Lw a l;unfold nM at ih ⊢;simp only[List.map_cons,cT,lx,pY,List.any_cons,beq_self_eq_true,Bool.true_and] at ih ⊢;by_cases h:b=a
  .subst h;simp
  .have hb:(b==a)=false:=by simpa using h
   simp only[hb,Bool.false_eq_true,if_false,Option.map_map,Bool.false_or];exact ih
theorem afC{P:Program}{t:TypeId}(hz:mB P (lW P t)=B false)(a:Int)(l:List Int):fH P t false (cT (.int .i64 a) (nM l))=B (l.any (·==a)):=by
 have h:=Lw a l;cases h1:cT (.int .i64 a) (nM l) with
 |none=>
  rw[h1] at h;cases h2:l.any (·==a) with
  |true=>rw[h2] at h;simp at h
  |false=>simp[fH,hz]
 |some x=>
  rw[h1] at h;cases h2:l.any (·==a) with
  |false=>rw[h2] at h;simp at h
  |true=>rw[h2] at h;simp at h;simp[fH,h]
theorem afD{a:Int}{l:List Int}(h:l.any (·==a)=false):gp (.int .i64 a) (B true) (nM l)=nM (l++[a]):=by
 have h1:=Lw a l;rw[h] at h1;unfold gp;cases h2:cT (.int .i64 a) (nM l) with
 |none=>simp[nM]
 |some x=>rw[h2] at h1;simp at h1
theorem To{P:Program}{kt:TypeId}(hk:P.underlying kt=some (.int .i64))(l:List Int):(nM l).all (fun e=>cL P kt e.1)=true:=by
 refine bS.2 fun x hx=>?_;obtain⟨y,_,rfl⟩:=List.mem_map.1 hx;simp[cL,hk]
theorem Uh{P:Program}{kt:TypeId}(hk:P.underlying kt=some (.int .i64))(a:Int):cL P kt (.int .i64 a)=true:=by simp[cL,hk]
theorem aeG{i sz:Nat}{C:List D}(l:List Int):Row.sub (cM i C sz) (.map (nM l))=.map (nM l):=by
 show Row.map ((nM l).map _)=_;unfold nM;rw[List.map_map];rfl
theorem YJ{bs:List bE}{k:Nat}{x:bE}(hx:bs[k]? =some x):pJ bs (k+1)=if(x.fin.kind==7)=true then pJ bs k++[x.fin.a] else pJ bs k:=by
 unfold pJ;rw[List.take_add_one,hx];by_cases h:(x.fin.kind==7)=true
 .simp[h]
 .simp[h]
def iB(wsq:List ByteArray):ByteArray:=Go.Proofs.Tryz.K.BG wsq ⟨#[32]⟩++⟨#[10]⟩
def eC(n:Int):ByteArray:=⟨(Lib.itoa n).toArray⟩
def i64(n:Int):Prop:= -9223372036854775808<=n/\n<=9223372036854775807
abbrev gQ(n:Int):Int:=IntKind.i64.wrap n
theorem A9(n:Int):i64 (gQ n):=by unfold i64 gQ;rw[IntKind.wrap_i64];omega
def vC(x:cv):List Int:=gQ x.op::x.to::x.a::x.b::x.n::x.args
def IB(x:cv):Prop:=∀ n∈vC x,i64 n
def VG(word:ByteArray)(x:cv):ByteArray:=iB (word::(vC x).map eC)
def xk(a:ByteArray):List Int:=a.data.toList.map fun c=>(c.toNat:Int)
theorem afk(a:ByteArray):fB a=mw (xk a):=by simp[fB,mw,xk]
theorem aei(a:ByteArray):mkStr (xk a)=a:=by
 unfold mkStr xk;rw[List.map_map];have:(fun n:Int=>UInt8.ofNat n.toNat) ∘ (fun c:UInt8=>(c.toNat:Int))=id:=by funext c;simp
 rw[this,List.map_id]
theorem acA(a:ByteArray):(xk a).length=a.size:=by simp[xk]
theorem acB(a:ByteArray):∀ x∈xk a,0<=x/\x<256:=by
 intro x hx;obtain⟨c,_,rfl⟩:=List.mem_map.1 hx;have:=c.toNat_lt;omega
def zb:ByteArray:=⟨#[102,108,111,119]⟩
def MI:ByteArray:=⟨#[112,114,111,99]⟩
def MJ:ByteArray:=⟨#[105,116,101,114]⟩
def BH:ByteArray:=⟨#[114,101,103,115]⟩
def D5:ByteArray:=⟨#[115,108,111,116,115]⟩
def Gm:ByteArray:=⟨#[115,105,103,110,97,108,115]⟩
def ng:ByteArray:=⟨#[98,108,111,99,107]⟩
def pk:ByteArray:=⟨#[105,110,115]⟩
def B4:ByteArray:=⟨#[101,110,100]⟩
def tF:ByteArray:=⟨#[110,97,109,101]⟩
def zv:ByteArray:=⟨#[116,114,121]⟩
def BT:ByteArray:=⟨#[119,104,101,110]⟩
def eW:List (List ByteArray)->ByteArray
 |[]=>ByteArray.empty
 |l::ls=>iB l++eW ls
theorem J3:∀ a b:List (List ByteArray),eW (a++b)=eW a++eW b
 |[],b=>by simp[eW]
 |l::a,b=>by simp only[List.cons_append,eW,J3 a b,ByteArray.append_assoc]
theorem Ss(a:List (List ByteArray))(l:List ByteArray):eW (a++[l])=eW a++iB l:=by rw[J3];simp[eW]
theorem afJ{a b:List (List ByteArray)}(h:a<+:b):(eW a).size<=(eW b).size:=by
 obtain⟨c,rfl⟩:=h;rw[J3,ByteArray.size_append];omega
def kE(word:ByteArray)(x:cv):List ByteArray:=word::(vC x).map eC
def tM(x:End):List Int:=gQ x.kind::x.a::x.b::x.to::x.fY::x.others::x.args
def po(x:End):List ByteArray:=B4::(tM x).map eC
def jk(x:End):List (List ByteArray):=if x.name.toList=[] then [] else [[tF,x.name]]
def j7(x:End):List (List ByteArray):=if x.kind=5 then [kE zv x.ins] else []
def iY(w:gh):List ByteArray:=[BT,w.name,eC w.to]
def pT(b:bE):List (List ByteArray):=b.ins.map (kE pk)
def gX(b:bE):List (List ByteArray):=[ng]::(pT b++(po b.fin::(jk b.fin++(j7 b.fin++b.fin.aP.map iY))))
def r8(f:ai):ByteArray:=if f.iter then MJ else MI
def BU(f:ai):List (List ByteArray):=[[zb,f.name,r8 f,eC f.args,eC (gQ f.result)],BH::(f.aO.map gQ).map eC,D5::(f.bK.map gQ).map eC,Gm::f.signals]
def jj(f:ai):List (List ByteArray):=BU f++f.blocks.flatMap gX
def jF(f:ai):ByteArray:=eW (jj f)
structure D4(f:ai):Prop where
 args:i64 f.args
 aO:f.aO.length<=100000
 bK:f.bK.length<=100000
 sigs:f.signals.length<=100000
 Ni:f.blocks.length<=100000
 ajS:∀ b∈f.blocks,b.ins.length<=100000
 ins:∀ b∈f.blocks,∀ x∈b.ins,IB x/\x.args.length<=10000
 fin:∀ b∈f.blocks,(∀ n∈tM b.fin,i64 n)/\b.fin.args.length<=10000/\IB b.fin.ins/\b.fin.ins.args.length<=10000/\b.fin.aP.length<=100000/\∀ w∈b.fin.aP,i64 w.to
 size:(jF f).size<=140737488355328
def lB(f:ai)(k:Nat):List (List ByteArray):=BU f++(f.blocks.take k).flatMap gX
theorem R0{f:ai}{k:Nat}{b:bE}(h:f.blocks[k]? =some b):lB f (k+1)=lB f k++gX b:=by
 unfold lB;rw[List.take_add_one,h];simp[List.flatMap_append]
theorem Kd{f:ai}{k:Nat}{b:bE}(h:f.blocks[k]? =some b){p:List (List ByteArray)}(hp:p<+:gX b):lB f k++p<+:jj f:=by
 have h1:lB f k++p<+:lB f (k+1):=by rw[R0 h];exact(List.prefix_append_right_inj _).2 hp
 refine h1.trans ?_;refine⟨(f.blocks.drop (k+1)).flatMap gX,?_⟩;unfold lB jj;rw[List.append_assoc, <- List.flatMap_append,List.take_append_drop]
theorem D4.le{f:ai}(h:D4 f){p:List (List ByteArray)}{l:List ByteArray}(hp:p++[l]<+:jj f):(eW p).size+(iB l).size<=140737488355328:=by
 have h1:=afJ hp;rw[Ss,ByteArray.size_append] at h1;have:=h.size;unfold jF at this;omega
abbrev ba(l:List ai):D:=.sl (l.flatMap aR) l.length
theorem iU(l:List ai):Tr (ba l):=.sl (.flat kL)
def j0:List D:=[S ⟨#[]⟩,B false,I 0,U8 0,.z,.z,.z,.z]
def named(l:List ai)(name:ByteArray):Int:=nt (fun g=>g.name.toList==name.toList) l
def findF(l:List ai)(name:ByteArray):Option ai:=l.find? fun g=>g.name.toList==name.toList
def D6:Option ai->D
 |some g=>.aM [.agg (aR g),B true]
 |none=>.aM [.agg j0,B false]
theorem Za(l:List ai)(name:ByteArray):(named l name= -1/\findF l name=none)\/∃ (i:Nat) (g:ai),named l name=i/\l[i]? =some g/\findF l name=some g:=by
 unfold named nt findF;cases h:l.findIdx? (fun g=>g.name.toList==name.toList) with
 |none=>
  left;refine⟨rfl,?_⟩;rw[List.findIdx?_eq_none_iff] at h;rw[List.find?_eq_none];intro x hx;simpa using h x hx
 |some i=>
  right;obtain⟨hi,h1,h2⟩:=List.findIdx?_eq_some_iff_getElem.1 h;refine⟨i,l[i],rfl,aL hi,?_⟩;rw[List.find?_eq_some_iff_getElem];exact⟨h1,i,hi,rfl,fun j hj=>by simpa using h2 j hj⟩
abbrev dE:D:=.s (.map none)
def o5(l:List Int)(i:Int):Int:=l.getD i.toNat 0
def vj(c g:ai)(args:List Int)(i:Nat):Bool:=o5 c.aO (args.getD i 0)==g.aO.getD i 0
def nZ(c g:ai)(args:List Int):Bool:=decide ((args.length:Int)=g.args)&&(range args.length).all (vj c g args)
def n9(r:Int)(b:bE):Bool:=decide (b.fin.kind=7)&&decide (b.fin.a=r)
def vD(c:ai)(l:List ai)(r:Int):Option ai:=match c.blocks.find? (n9 r) with
 |some b=>findF l b.fin.name
 |none=>none
theorem acD(o:Option ai):Tr (D6 o):=by
 cases o with
 |none=>exact .aM (.cons (.agg (.cons (.s _) (.cons (.s _) (.cons (.s _) (.cons (.s _) (.cons .z (.cons .z (.cons .z (.cons .z .nil))))))))) (.cons (.s _) .nil))
 |some g=>exact .aM (.cons (.agg (kL g)) (.cons (.s _) .nil))
def wY(c:ai)(l:List ai)(y:End):Bool:=match findF l y.name with
 |none=>false
 |some g=> !g.iter&&(nZ c g y.args&& !(decide (0<=y.a)&&(o5 c.aO y.a !=g.result)))
def wZ(c:ai)(l:List ai)(y:End):Bool:=match findF l y.name with
 |none=>false
 |some g=>g.iter&&nZ c g y.args
def vm(c:ai)(l:List ai)(y:End):Bool:=match vD c l y.a with
 |none=>true
 |some g=> !(o5 c.aO y.b !=g.result)
def jg(c:ai)(l:List ai)(b:bE):Bool:=
 if b.fin.kind=6 then wY c l b.fin else if b.fin.kind=7 then wZ c l b.fin else if b.fin.kind=8 then vm c l b.fin else true
def uV(c:ai)(l:List ai):Bool:=c.blocks.all (jg c l)
structure Lk(c:ai)(l:List ai):Prop where
 len:l.length<=1000000
 Ni:c.blocks.length<=1000000
 args:∀ b∈c.blocks,b.fin.kind=6\/b.fin.kind=7->(∀ r∈b.fin.args,0<=r/\r<c.aO.length)/\b.fin.args.length<=1000000
 a:∀ b∈c.blocks,b.fin.kind=6->b.fin.a<c.aO.length
 b:∀ b∈c.blocks,b.fin.kind=8->0<=b.fin.b/\b.fin.b<c.aO.length
 fl:∀ g∈l,g.args<=g.aO.length
theorem aaT{l:List ai}{name:ByteArray}{g:ai}(h:findF l name=some g):g∈l:=List.mem_of_find?_eq_some h
def zx(a b:ByteArray):Bool:= !(Op.bytesLess a.toList b.toList)
def oU(l:List ai)(i:Nat):ByteArray:=match l[i]? with
 |some f=>f.name
 |none=>⟨#[]⟩
def ky(l:List ai)(i:Nat):Int:=match l[i]? with
 |none=>0
 |some f=>if ep f=0 then(if decide (0<i)&&zx (oU l (i - 1)) f.name then 1 else 0) else ep f
def s5(l:List ai)(i:Nat):Bool:=match l[i]? with
 |none=>false
 |some f=> !uV f l
def dh(l:List ai):Int×Int:=
 if 60<l.length then(0,2) else match (range l.length).find? fun i=>ky l i !=0 with
 |some i=>(i,ky l i)
 |none=>match (range l.length).find? (s5 l) with
  |some i=>(i,82)
  |none=>(0,0)
theorem Ql{p:Nat->Bool}{n k:Nat}(hk:k<n)(hp:p k=true)(h:∀ j,j<k->p j=false):(range n).find? p=some k:=by
 rw[List.find?_eq_some_iff_getElem];refine⟨hp,k,by simpa using hk,oS,fun j hj=>?_⟩;simp[h j hj]
theorem F1{p:Nat->Bool}{n:Nat}(h:∀ j,j<n->p j=false):(range n).find? p=none:=by
 rw[List.find?_eq_none];intro x hx;simp[h x (List.mem_range.1 hx)]
end Go.Argus
namespace Go.Proofs.Tryz.K
theorem Jy:prog.underlying 3=some (.int .i64):=kr
theorem ah2:mB prog (lW prog 194)=B false:=kr
theorem O9{f:ai}:aB prog 97 [.agg (aR f)] (B (lL f)):=by
 have bg:∀ a∈[D.agg (aR f)],Tr a:=.cons (.agg (kL f)) .nil;refine bj al7 bg (.s _) ?_;rw[al8];refine aw ?_;refine ab ?_;refine aa (bH (eX (i:=0) (l:=[(1,.pt (aR f))]) rfl eH) (aw ?_));have NC:=NC (f:=f);refine SS ?_;refine cl NC ?_;refine SS ?_;refine bQ (fM (cs':=a7 _ _ _) rfl rfl rfl rfl) ak (cw V.h V.h (by first|(simp;done)|exact⟨rfl,bJ rfl⟩|(simp;omega)) (by rfl)) ?_;refine aa (bH (eX (i:=1) (l:=[(1,.pt (aR f)),(3,.pt (a7 P0 Q0 f))]) rfl eH) (aw ?_));refine bh ?_;refine du ?_;refine ab ?_;refine aa (bH (fN (l:=[(1,.pt (aR f)),(3,.pt (a7 P0 Q0 f)),(4,B (uC f))]) ⟨rfl,rfl,congrArg B (hd3 (f.result==1) (f.result==2) (f.result==0) f.iter),trivial⟩) (az (ag ?_)));have M3:lL f=(rR f&&(wD f&&(Lv f&&((range f.blocks.length).all (lK f)&&(range f.blocks.length).all (uD f))))):=rfl;rw[M3];have M:rR f=(nU f.name&&(jO f.args 0 (if(f.aO.length:Int)<6 then(f.aO.length:Int) else 6)&&(uC f&&(!decide ((1200:Int)<f.aO.length)&&(!decide ((60:Int)<f.bK.length)&&jO f.blocks.length 1 1200))))):=rfl;generalize oh:uC f=wo at M ⊢;refine ab ?_;refine cl sv ?_;refine ik ?_;refine bc rfl rfl (afS rfl rfl) (fun hc=>⟨ak,rfl⟩) ?_;refine gc mX ?_;refine bh ?_;refine bh ?_;refine aY ?_;refine gc mX ?_;refine ab ?_;refine aa (cA rfl (fun h=>?_) fun h=>cm (az (ag ?_)))
 .have h:=(XR _ _ _ _ _ _).symm.trans h;rw[<- M] at h;have h:rR f=false:=by simpa using h
  refine az (ag ?_);refine SS ?_;refine aa (dG (aD (d:=B false) rfl ?_));rw[h];rfl
 have h:=(XR _ _ _ _ _ _).symm.trans h;rw[<- M] at h;have hh:rR f=true:=by simpa using h
 rw[hh,Bool.true_and];rw[M] at hh;simp only[aW,lH,Bool.not_eq_true',decide_eq_false_iff_not] at hh;obtain⟨_,ha,hr,Cz,U,dt⟩:=hh;subst hr;clear h M
 have zZ:0<=f.args/\f.args<=f.aO.length/\f.args<=6:=by
  split at ha<;>omega
 have hK:wD f=(rQ f.aO 3&&(rQ (f.aO.take f.args.toNat) 2&&(rQ f.bK 2&&(!decide ((6:Int)<f.signals.length)&& !f.signals.any fun s=> !isName s)))):=rfl;have Ix:=Ix (l:=f.signals) (g:=127) (fs:=[]) (cs:=[]) (p:=fun s=> !isName s) (.fn oS oS) (fun x _=>al1);have ha2:0<=f.args/\f.args<=f.aO.length:=⟨zZ.1,zZ.2.1⟩
 refine ab ?_;refine cl NA ?_;refine cz ?_;refine bc rfl rfl (adq rfl I9 c5 rfl B5 ha2) (fun hc=>⟨(by repeat' (first|exact trivial|exact hc|exact rfl|refine And.intro ?_ ?_)),trivial⟩) ?_;refine gc NA ?_;refine bw ?_;refine gc NA ?_;refine bh ?_;refine ab ?_;refine gc Ix ?_;refine SS ?_;refine aa (cA rfl (fun h=>?_) fun h=>cm (az (aw ?_)))
 .have h:=(XS _ _ _ _ _).symm.trans h;rw[<- hK] at h;have h:wD f=false:=by simpa using h
  refine az (ag ?_);refine SS ?_;refine aa (dG (aD (d:=B false) rfl ?_));rw[h];rfl
 have h:=(XS _ _ _ _ _).symm.trans h;rw[<- hK] at h;have hh:wD f=true:=by simpa using h
 rw[hh,Bool.true_and];rw[hK] at hh;simp only[aW,Bool.not_eq_true',decide_eq_false_iff_not] at hh;obtain⟨_,_,rh,hsg,_⟩:=hh;clear h hK Ix;have hS:Lv f=(range (f.signals.length - 1)).all (wE f.signals):=rfl;rw[hS];have fI:f.signals.length<=6:=by omega
 refine SS ?_;refine aa (bZ (fun s=>aH prog s ⟨ax [(1,.pt (aR f)),(3,.pt (a7 P0 Q0 f))],fun _=>none,2⟩/\(range (f.signals.length - 1)).all (wE f.signals)=true) (jh (α:=Nat) (fun k=>⟨ax [(1,.pt (aR f)),(3,.pt (a7 P0 Q0 f)),(5,I (k+1:Nat))],fun _=>none,2⟩) (fun k=>k<=f.signals.length - 1/\(range k).all (wE f.signals)=true) (fun k=>f.signals.length - k) 0 (fN eH) ⟨Nat.zero_le _,rfl⟩ ?_) ?_)
 .rintro k ⟨hk,C⟩;refine bw ?_;refine aa ⟨_,rfl,fun h=>?_,fun h=>?_⟩
  .have af:k+1<f.signals.length:=by have:((k+1:Nat):Int)<f.signals.length:=by simpa using h
                                    omega
   have h1:f.signals[k]? =some f.signals[k]:=aL oG;have h2:f.signals[k+1]? =some f.signals[k+1]:=aL oG;have U:wE f.signals k=Op.bytesLess f.signals[k].toList f.signals[k+1].toList:=by rw[wE,getD_some h1,getD_some h2]
   generalize f.signals[k]=s1 at h1 U;generalize f.signals[k+1]=s2 at h2 U;have xj:((k+1:Nat):Int) - 1=(k:Int)/\ -9223372036854775808<=(k:Int)/\(k:Int)<=9223372036854775807:=by omega
   refine dV abx ?_;refine bh ?_;refine ab ?_;refine av (TP rfl rfl) ak trivial ?_;refine cq cx (aQ rfl (fun h=>?_) fun h=>cP ?_)
   .have hf:wE f.signals k=false:=by rw[U];simpa using h
    refine ws ?_;refine SS ?_;refine aa (bG (bY (bA (aD (d:=B false) rfl ?_))));rw[rC oG hf];rfl
   .have ht:wE f.signals k=true:=by rw[U];simpa using h
    refine ay ?_;exact aa (bf (k+1) (fN eH) ⟨oG,pD C ht⟩ oG)
  .have bm:¬ k+1<f.signals.length:=by intro hh;simp at h;omega
   have:k=f.signals.length - 1:=by omega
   subst this;exact⟨fN eH,C⟩
 rintro s ⟨hg,C⟩;rw[C,Bool.true_and];clear C hS;refine⟨_,hg,aw ?_⟩;refine ab ?_;refine aa (bH (cn (l:=[(1,.pt (aR f)),(3,.pt (a7 P0 Q0 f)),(6,.mp 2)]) (ml:=[(2,.map (nM []))]) eH eH) (az (aw ?_)));refine aY ?_;generalize hn:f.blocks.length=n at dt ⊢;refine aa (bZ (fun s=>∃ N,aH prog s ⟨ax [(1,.pt (aR f)),(3,.pt (a7 P0 Q0 f))],fun _=>none,N⟩/\(range n).all (lK f)=true) (cH (α:=Nat×Nat) (fun k=>⟨ax [(1,.pt (aR f)),(3,.pt (a7 P0 Q0 f)),(6,.mp 2),(123,cG f.blocks),(124,I n),(125,I k.1)],br [(2,.map (nM (pJ f.blocks k.1)))],k.2⟩) (fun k=>k.1<=n/\(range k.1).all (lK f)=true/\3<=k.2) (fun k=>n - k.1) (0,3) (cn eH eH) ⟨Nat.zero_le _,rfl,aZ _⟩ ?_) ?_)
 .rintro⟨k,N⟩ ⟨hk,C,hN⟩;dsimp only at hk C hN ⊢;refine SS ?_;refine aa ⟨_,rfl,fun h=>?_,fun h=>?_⟩
  .have af:k<n:=by simpa using h
   have hx:f.blocks[k]? =some f.blocks[k]:=aL oG;generalize f.blocks[k]=x at hx;have J:lK f k=(iW f x.fin&&(!decide ((200:Int)<x.ins.length)&& !(x.fin.kind==7&&(pJ f.blocks k).any (·==x.fin.a)))):=by rw[lK,getD_some hx]
   have X:=YJ hx;have IL:=IL (f:=f) (x:=x.fin);generalize pJ f.blocks k=l at J X;refine aw ?_;refine aY ?_;refine aa (bH (rG (i:=N) (l:=[(1,.pt (aR f)),(3,.pt (a7 P0 Q0 f)),(6,.mp 2),(8,.pt (bU x)),(123,cG f.blocks),(124,I n),(125,I k)]) (ml:=[(2,.map (nM l))]) (aj _ _ _) ⟨rfl,rfl,rfl,kY,rfl,rfl,rfl,trivial⟩ ⟨Gq oG (ah oG (ah oG rfl)) (aeG l),trivial⟩) (az (ag ?_)));generalize iW f x.fin=e at IL J;refine ay ?_;refine cl IL ?_;refine ik ?_;refine aa (cA rfl (fun h=>?_) fun h=>cm (ag ?_))
   .have hf:lK f k=false:=by
     rw[J];cases e with
     |false=>rfl
     |true=>have:decide ((200:Int)<x.ins.length)=true:=by simpa using h
            rw[this];rfl
    refine az (ag ?_);refine SS ?_;refine aa (dG (bY (bA (aD (d:=B false) rfl ?_))));rw[rC af hf];rfl
   have J:lK f k= !(x.fin.kind==7&&l.any (·==x.fin.a)):=by
    rw[J];cases e with
    |false=>simp at h
    |true=>have:decide ((200:Int)<x.ins.length)=false:=by simpa using h
           rw[this];rfl
   refine aY ?_;refine aa (aQ rfl (fun h7=>?_) fun h7=>cP ?_)
   .rw[h7] at J X;refine az (ag ?_);refine aY ?_;refine av (Gk rfl rfl rfl MD (afC ah2 _ _)) aK ⟨ME,Uh Jy _,To Jy _⟩ ?_;refine aa (cA rfl (fun h=>?_) fun h=>cm (fO ?_))
    .have hf:lK f k=false:=by rw[J,h];rfl
     refine az (ag ?_);refine SS ?_;refine aa (dG (bY (bA (aD (d:=B false) rfl ?_))));rw[rC af hf];rfl
    .have ht:lK f k=true:=by rw[J,h];rfl
     refine aY ?_;refine bQ (yM rfl rfl rfl rfl MD) aK ⟨ME,Uh Jy _,To Jy _⟩ ?_;refine aa ?_;refine ab ?_;refine aa (bf (k+1,_) (cn eH ⟨?_,trivial⟩) ⟨oM,pD C ht,oM⟩ oM);dsimp only;rw[X,if_pos rfl, <- afD h];exact aj _ _ _
   .rw[h7] at J X;refine ab ?_;refine aa (bf (k+1,_) (cn eH ⟨?_,trivial⟩) ⟨oM,pD C J,oM⟩ oM);dsimp only;rw[X,if_neg oS];rfl
  .have bm:¬ k<n:=by simpa using h
   have:k=n:=by omega
   subst this;exact⟨N,fN eH,C⟩
 rintro s ⟨N,hg,C⟩;rw[C,Bool.true_and]
 have hE:∀ x∈f.blocks,Ii f x.fin:=fun x hx=>by
  obtain⟨k,hk⟩:=dN hx;have af:k<n:=by rw[<- hn];exact(bI.1 hk).1
  have:=bS.1 C k (by simpa using af);rw[lK,getD_some hk] at this;simp only[aW] at this;exact Sm oG oh this.1
 have Ch:=Ch (f:=f) mF mG rfl rfl hn oG (fun b h=>by have:=(hE b h).wh;omega) (fun b h t ht=>hn▸(hE b h).to t (PZ.1 ht));refine⟨_,hg,ag ?_⟩;refine SS ?_;refine cl Ch ?_;refine SS ?_;refine aa (az (aw ?_));refine aY ?_;refine aa (bZ (fun s=>(range n).all (uD f)=true) (cH (α:=Nat×Nat) (fun k=>⟨ax [(1,.pt (aR f)),(3,.pt (a7 P0 Q0 f)),(9,bX (lO f.blocks)),(157,cG f.blocks),(158,I n),(159,I k.1)],fun _=>none,k.2⟩) (fun k=>k.1<=n/\(range k.1).all (uD f)=true) (fun k=>n - k.1) (0,N) (fN ⟨rfl,rfl,rfl,rfl,congrArg (fun k:Nat=>I k) hn,rfl,trivial⟩) ⟨Nat.zero_le _,rfl⟩ ?_) ?_)
 .rintro⟨k,N⟩ ⟨hk,C⟩;dsimp only at hk C ⊢;refine SS ?_;refine aa ⟨_,rfl,fun h=>?_,fun h=>?_⟩
  .have af:k<n:=by simpa using h
   have hx:f.blocks[k]? =some f.blocks[k]:=aL oG;have iQ:f.blocks[k]∈f.blocks:=gA _;generalize f.blocks[k]=x at hx iQ;have hA:=Qx hn af;have pB:uD f k=(range x.ins.length).all (rM f k x.ins):=by rw[uD,getD_some hx]
   have vZ:∀ j,rM f k x.ins j=kB f k (x.ins.getD j o6) ((x.ins.take (j+1)).all k9) (dj f.blocks n k).length:=fun j=>by rw[rM,hn]
   generalize dj f.blocks n k=A at hA vZ;refine aw ?_;refine cz ?_;refine aa (bH (eX (i:=N) (l:=[(1,.pt (aR f)),(3,.pt (a7 P0 Q0 f)),(9,bX (lO f.blocks)),(10,I k),(11,.pt (bU x)),(157,cG f.blocks),(158,I n),(159,I k)]) (aj _ _ _) ⟨rfl,rfl,rfl,rfl,kY,rfl,rfl,rfl,trivial⟩) (ag ?_));refine SS ?_;refine aa (aw ?_);refine aY ?_
   have ez:x.ins.length<=200:=by
    have:=bS.1 ‹(range n).all (lK f)=true› k (by simpa using af);rw[lK,getD_some hx] at this;simp only[aW,Bool.not_eq_true',decide_eq_false_iff_not] at this;omega
   refine aa (cH (α:=Nat×Nat) (fun j=>⟨ax [(1,.pt (aR f)),(3,.pt (a7 P0 Q0 f)),(9,bX (lO f.blocks)),(10,I k),(12,B ((x.ins.take j.1).all k9)),(157,cG f.blocks),(158,I n),(159,I k),(165,kx x.ins),(166,I x.ins.length),(167,I j.1)],fun _=>none,j.2⟩) (fun j=>j.1<=x.ins.length/\(range j.1).all (rM f k x.ins)=true) (fun j=>x.ins.length - j.1) (0,N+1) (fN eH) ⟨Nat.zero_le _,rfl⟩ ?_);rintro⟨j,N⟩ ⟨hj,MF⟩;dsimp only at hj MF ⊢;refine SS ?_;refine aa ⟨_,rfl,fun h=>?_,fun h=>?_⟩
   .have cZ:j<x.ins.length:=by simpa using h
    have hy:x.ins[j]? =some x.ins[j]:=aL cZ;generalize x.ins[j]=y at hy;have eP:(x.ins.take (j+1)).all k9=((x.ins.take j).all k9&&k9 y):=by rw[List.take_add_one,hy,List.all_append];simp
    have vZ:=vZ j;rw[getD_some hy] at vZ;generalize (x.ins.take j).all k9=ph at eP;refine aw ?_;refine aY ?_;refine aa (bH (eX (i:=N) (l:=[(1,.pt (aR f)),(3,.pt (a7 P0 Q0 f)),(9,bX (lO f.blocks)),(10,I k),(12,B ph),(14,.pt (cg y)),(157,cG f.blocks),(158,I n),(159,I k),(165,kx x.ins),(166,I x.ins.length),(167,I j)]) (aj _ _ _) ⟨rfl,rfl,rfl,rfl,rfl,kY,rfl,rfl,rfl,rfl,rfl,rfl,trivial⟩) (aw ?_));refine ik ?_;refine aa (bH (fN (l:=[(1,.pt (aR f)),(3,.pt (a7 P0 Q0 f)),(9,bX (lO f.blocks)),(10,I k),(12,B ((x.ins.take (j+1)).all k9)),(14,.pt (cg y)),(157,cG f.blocks),(158,I n),(159,I k),(165,kx x.ins),(166,I x.ins.length),(167,I j)]) ⟨rfl,rfl,rfl,rfl,?_,rfl,rfl,rfl,rfl,rfl,rfl,rfl,trivial⟩) (dV aby ?_))
    .rw[eP];cases ph<;>rfl
    have IM:=IM (f:=f) (b:=(k:Int)) (ahead:=(A.length:Int)) (x:=y) (phis:=(x.ins.take (j+1)).all k9);rw[<- vZ] at IM;refine bh ?_;refine cl IM ?_;refine SS ?_;refine cq cx (aQ rfl (fun h=>?_) fun h=>cP ?_)
    .have hf:rM f k x.ins j=false:=by simpa using h
     refine ws ?_;refine SS ?_;refine aa (bG (bY (bY (bA (aD (d:=B false) rfl ?_)))));rw[rC af (by rw[pB];exact rC cZ hf)]
    .have ht:rM f k x.ins j=true:=by simpa using h
     refine ab ?_;exact aa (bf (j+1,_) (fN eH) ⟨oM,pD MF ht⟩ oM)
   .have bm:¬ j<x.ins.length:=by simpa using h
    have Fb:j=x.ins.length:=by omega
    subst Fb;show aq _ _ _ _ _ _ _ _ _;refine ab ?_;exact aa (bf (k+1,_) (fN eH) ⟨oM,pD oN (pB.trans MF)⟩ oM)
  .have bm:¬ k<n:=by simpa using h
   have:k=n:=by omega
   subst this;show(range k).all (uD f)=true
   assumption
 .rintro⟨env,m,nx⟩ C;refine⟨_,.refl _,ag ?_⟩;refine SS ?_;refine aa (aD (d:=B true) rfl ?_);rw[C]
theorem rr{f:ai}:aB prog 63 [.agg (aR f)] (I (ep f)):=by
 have M:∀ a∈[D.agg (aR f)],Tr a:=.cons (.agg (kL f)) .nil;refine bj al9 M (.s _) ?_;rw[al'];have O9:=O9 (f:=f);refine aw ?_;refine ab ?_;refine aa (bH (eX (i:=0) (l:=[(1,.pt (aR f))]) rfl eH) (yn (ag ?_)));refine SS ?_;refine cl O9 ?_;refine ab ?_;refine aa (aQ rfl (fun h=>ag ?_) fun h=>ag ?_)
 .have hf:lL f=false:=by simpa using h
  refine SS ?_;refine aa (bG (eE (bA (aD (d:=I 80) rfl ?_))));rw[ep,if_neg (by simp[hf])]
 .have hf:lL f=true:=by simpa using h
  have C:=HI hf;obtain⟨args,ha⟩:=lv C.args.1;have X:=C.args.2;have Jx:=Jx (p:=.s (.map none)) (q:=.s (.map none)) (f:=f) (.s _) (.s _) rfl rfl rfl C.pos (by have:=C.lD;omega) ha oG (Qy args) C.bF (fun b x hx y hy U=>C.phi hx hy U);have J:ep f=if uB f.blocks args=true then 0 else 81:=by rw[ep,if_pos hf,ha,lu]
  generalize uB f.blocks args=r at Jx J;refine ab ?_;refine cl Jx ?_;refine ab ?_;refine aa (aQ rfl (fun h=>ag ?_) fun h=>wL (ag ?_))
  .have hr:r=false:=by simpa using h
   refine SS ?_;refine aa (bG (eE (bA (aD (d:=I 81) rfl ?_))));rw[J,hr];rfl
  .have hr:r=true:=by simpa using h
   refine SS ?_;refine aa (bG (aD (d:=I 0) rfl ?_));rw[J,hr];rfl
theorem UR{P:Program}{t e:TypeId}(h1:bi P t=true)(h2:aF P t=e)(C:P.underlying e=some (.int .u8))(J:P.cellsOf e=1):ra P t:=⟨h1,by rw[h2];exact C,by rw[h2];exact J⟩
theorem Y'(a b:ByteArray):fB (a++b)=fB a++fB b:=by simp[fB]
def uf(m:Mem)(x:D)(a:ByteArray):Option Nat->Prop
 |none=>x=.z/\a=ByteArray.empty
 |some i=>x=.rs i 0 a.size/\m i=some (.cells (fB a) 5)
def clr(m:Mem):Option Nat->Mem
 |none=>m
 |some i=>up m i none
def Ah(m:Mem)(nx j:Nat)(T:TypeId)(a:ByteArray)(o:Option Nat):Mem:=up (up (clr m o) nx (some (.cells (fB a) 5))) j (some (.bs true (.rs nx 0 a.size) T))
theorem agp{m:Mem}{nx j:Nat}{r r':Row}{c:Row}:up (up (up m j (some r)) nx (some c)) j (some r')=up (up m nx (some c)) j (some r'):=by
 funext k;simp only[Dt];by_cases hj:k=j<;>simp[hj]
theorem agq{m:Mem}{nx i j:Nat}{r r':Row}{c:Row}:up (up (up (up m j (some r)) i none) nx (some c)) j (some r')=up (up (up m i none) nx (some c)) j (some r'):=by
 funext k;simp only[Dt];by_cases hj:k=j<;>simp[hj]
theorem Iz{m:Mem}{nx j:Nat}{u:Bool}{x:D}{T:TypeId}{a s:ByteArray}{o:Option Nat}(hj:m j=some (.bs u x T))(hl:liesAt prog prog.depth T (2 / prog.cellsOf T) 0 183 1=true)
 (hb:uf m x a o) (M:∀ i,o=some i->i≠j/\i<nx) (jt:j<nx) (C:a.size+s.size<=140737488355328):
 fP prog 119 [.rp j 0,S s] m nx fun d m' J=>d=.aM [I s.size,.s .nilIface]/\m'=Ah m nx j T (a++s) o/\J=nx+1:=by
 refine wa agr ?_;rw[ags];refine ws ?_;refine ab ?_;refine er ?_;refine av (cY (v:=.rp _ _) rfl) aK trivial ?_;refine gI (ajJ hj hl) rfl aK fun d m' J h=>?_;obtain⟨rfl,rfl,rfl⟩:=h;refine aa ?_;dsimp only[St.put];refine ws ?_;have ap:up m j (some (Row.bs true x T)) j=some (.bs true x T):=aj _ _ _;cases o with
 |none=>
  obtain⟨rfl,rfl⟩:=hb;replace C:s.size<=140737488355328:=by simpa using C
  refine aY ?_;refine sk (GC rfl ap V.h V.h) ak ?_;refine SS ?_;refine Is (aar rfl rfl V.h (UR V.h V.h V.h V.h) V.h C V.h) ak ?_;refine av (Ht rfl (ah oG ap)) ak trivial ?_;refine av (sV rfl (ah oG ap) V.h) ak (qG V.h) ?_;refine Vv (RF rfl (ah oG ap) V.h V.h rfl rfl) ak ?_;refine er ?_;refine aY ?_;refine aa (gG (d:=I s.size) (e:=.s .nilIface) rfl rfl ⟨rfl,?_,rfl⟩);show up (up (up m j (some (.bs true .z T))) _ (some (.cells (fB s) 5))) j (some (.bs true (.rs _ 0 s.size) T))=Ah m _ j T (ByteArray.empty++s) none;rw[agp,ByteArray.empty_append];rfl
 |some i=>
  obtain⟨rfl,hi⟩:=hb;have U:=(M i rfl).1;have X:=(M i rfl).2;have iz:up m j (some (Row.bs true (.rs i 0 a.size) T)) i=some (.cells (fB a) 5):=ah U hi;have hlen:(fB a).length=a.size:=by simp[fB]
  refine aY ?_;refine sk (GC rfl ap V.h V.h) ak ?_;refine SS ?_;refine ai3 (ab3 rfl rfl iz V.h (UR V.h V.h V.h V.h) V.h (by first|rfl|omega|(simp;done)|(simp;omega)) C V.h) ak ?_;refine av (Ht rfl (ah oG (ah oG ap))) ak trivial ?_;refine av (sV rfl (ah oG (ah oG ap)) V.h) ak (qG V.h) ?_;refine Vv (RF rfl (ah oG (ah oG ap)) V.h V.h rfl rfl) ak ?_;refine er ?_;refine aY ?_;refine aa (gG (d:=I s.size) (e:=.s .nilIface) rfl rfl ⟨rfl,?_,rfl⟩);show up (up (up (up m j (some (.bs true (.rs i 0 a.size) T))) i none) _ (some (.cells ((fB a).drop 0++fB s) 5))) j (some (.bs true (.rs _ 0 (a.size+s.size)) T))=Ah m _ j T (a++s) (some i);rw[agq,List.drop_zero, <- Y',Ah,ByteArray.size_append];rfl
end Go.Proofs.Tryz.K
end
namespace Go.Abs
section
variable{P:Program}
end
section
variable{P:Program}{F F':Nat->Prop}{m:Mem}{nx:Nat}{β β':aE}{w w':World}
theorem acv(hm:aJ P F m β w)(hn:β nx=none){f:FuncId}{args es:List D}{n:Nat}{t:TypeId}{vs:Array Value}{dZ:List D}{rds:List Nat}(fI:jK P rds m args dZ)(hc:kW P f dZ es n t)(lA:∀ d∈es,d.gK=true)(hR:Rs F β w args vs):
 Calls P f vs w fun e w'=>∃ v β',e=.returned v/\R F β' w' (.rs nx 0 n) v/\aJ P F (up m nx (some (.cells es t))) β' w'/\Step β w β' w'/\∀ i,i≠nx->β' i=β i:=by
 obtain⟨g1,g2⟩:=Eb (P:=P) (F:=F) (β:=β) (w:=w) (fun i hi r hr=>by
  obtain⟨p,hp,ap⟩:=hm.row i r hr
  exact⟨p,hp,ap,fun b hb=>hm.nf i p b hp hb⟩) fI
 refine(hc.2.2 F w vs hm.fb ⟨by rw[hR.1,g1],fun k d v hd hv=>?_⟩).mono ?_
 .have af:k<args.length:=by rw[g1];exact(bI.1 hd).1
  exact g2 k args[k] d (by simp[af]) hd v (hR.2 k args[k] v (by simp[af]) hv)
 rintro e w' ⟨v,p,he,L8,C,ap,hv,hk⟩;have fJ:=hm.kept hk
 have hs:Step β w (up β nx (some p)) w':=by
  refine⟨hk.1,fun b hb hf=>⟨hk.2.1 b hb,fun i q hq=>?_⟩,fun i q hq=>.inl ?_,hk.2.2⟩
  .by_cases hi:i=nx
   .subst hi;rw[aj] at hq;cases hq;intro e;have:=(C b e).1;omega
   .rw[aA _ _ hi] at hq;exact hf i q hq
  .rw[aA _ _ (fun e=>by rw[e,hn] at hq;cases hq)];exact hq
 have M:∀ i q b,up β nx (some p) i=some q->q.bF=some b->(i=nx/\q=p)\/(i≠nx/\β i=some q):=fun i q b hq _=>by
  by_cases hi:i=nx
  .subst hi;rw[aj] at hq;cases hq;exact .inl ⟨rfl,rfl⟩
  .rw[aA _ _ hi] at hq;exact .inr ⟨hi,hq⟩
 have r3:cC P F (up β nx (some p)) w' (.cells es t) p:=by
  cases ap with
  |nil _=>exact .nil _
  |cells _ _ b o room sz c h1 h2 X h4 h5=>
   refine .cells es t b o room sz c h1 h2 X h4 fun k d hd=>?_;obtain⟨u,p0,p6,p7⟩:=h5 k d hd;exact⟨u,p0,LF (lA d (bu hd)) p6,p7⟩
 refine⟨v,up β nx (some p),he,?_,?_,hs,fun i hi=>aA _ _ hi⟩
 .cases hv with
  |lp _ _ _ _ h _=>rw[aj] at h;cases h;exact absurd rfl L8
  |jr _ a h=>rw[aj] at h;cases h;exact .jr nx a (aj _ _ _)
  |j9 _ _ a b o len room sz h=>rw[aj] at h;cases h;exact .j9 nx 0 a b o len room sz (aj _ _ _)
  |rs _ _ _ cap b o len room sz h h1 h2 X h4=>rw[aj] at h;cases h;exact .rs nx 0 n cap b o len room sz (aj _ _ _) h1 h2 X h4
 .refine⟨fun i r hi=>?_,fun i j q q' b hq ie e J=>?_,fun i q b hq e=>?_,fun i q b hq e=>?_,fJ.fb⟩
  .by_cases U:i=nx
   .subst U;rw[aj] at hi;cases hi;exact⟨p,aj _ _ _,r3⟩
   .rw[aA _ _ U] at hi;obtain⟨q,hq,NL⟩:=hm.row i r hi;exact⟨q,by rw[aA _ _ U];exact hq,NL.step hs fun b hb=>hk.2.1 b (hm.lt i q b hq hb)⟩
  .rcases M i q b hq e with⟨rfl,rfl⟩|⟨hi,h1⟩<;>rcases M j q' b ie J with⟨rfl,rfl⟩|⟨hj,h2⟩
   .rfl
   .have:=(C b e).1;have:=hm.lt j q' b h2 J;omega
   .have:=(C b J).1;have:=hm.lt i q b h1 e;omega
   .exact hm.inj i j q q' b h1 h2 e J
  .rcases M i q b hq e with⟨_,rfl⟩|⟨_,h1⟩
   .exact(C b e).2
   .exact fJ.lt i q b h1 e
  .rcases M i q b hq e with⟨_,rfl⟩|⟨_,h1⟩
   .intro hF;have:=hm.fb.lt b hF;have:=(C b e).1;omega
   .exact hm.nf i q b h1 e
theorem kW.snap{f:FuncId}{args C es:List D}{n:Nat}{t:TypeId}{rds:List Nat}(U:jK P rds m args C)(h:kW P f C es n t)(lA:∀ d∈es,d.gK=true):
 fP P f args m nx fun d m' M=>d=.rs nx 0 n/\m'=up m nx (some (.cells es t))/\M=nx+1:=
 ⟨h.1,fun F β w vs hm hn hR=>(acv hm (hn nx (aZ _)) U h lA hR).mono fun e w' ⟨v,β',h1,h2,X,h4,J⟩=>
  ⟨v,_,_,_,β',h1,⟨rfl,rfl,rfl⟩,X,fun i hi=>by rw[J i oG];exact hn i oG,h2,h4,oG,fun i hi hb=>by rw[J i oG];exact hb⟩⟩
end
end Go.Abs
section
open Go Go.Abs Go.Proofs Go.Argus
namespace Go.Proofs.Tryz.K
theorem Mo{l:List Int}{g:FuncId}{fs cs:List D}{p:Int->ByteArray}(hl:l.length<=1000000)(ht:Tr (.fn (.func g) fs cs))(hg:∀ x∈l,aB prog g (fs++[I x]++cs) (S (p x))):kW prog 201 [aT l,.fn (.func g) fs cs] ((l.map p).map S) l.length 9:=by
 refine Zu US.he (.cons (di _) (.cons ht .nil)) fun U=>?_;have hlen:=(U (aT l) oS).sl.1;unfold maxLen at hlen;refine I6 US (.cons (di _) (.cons ht .nil)) (.map fun _=>.s _) ?_;rw[agt];refine ws ?_;refine SS ?_;refine aa (aw ?_);refine SS ?_;refine aa ⟨_,.rW _ _ _ 5 9 rfl,az (aw ?_)⟩;refine ay ?_
 refine aa (bZ (fun s=>∃ r m nx,aH prog s ⟨ax [(5,.rs r 0 l.length)],m,nx⟩/\m r=some (.cells ((l.map p).map S) 9)) (cH (α:=Nat×Nat×Mem×Nat)
  (fun s=>⟨ax [(1,.fn (.func g) fs cs),(5,.rs s.2.1 0 s.1),(8,aT l),(9,I l.length),(10,I s.1)],s.2.2.1,s.2.2.2⟩)
  (fun s=>s.1<=l.length/\s.2.1<s.2.2.2/\s.2.2.1 s.2.1=some (.cells (((l.take s.1).map p).map S) 9)) (fun s=>l.length - s.1) (0,_,_,_)
  (au eH) ⟨Nat.zero_le _,Nat.lt_succ_self _,rfl⟩ ?_) ?_)
 .rintro⟨j,r,m,nx⟩ ⟨hj,hr,ap⟩;dsimp only at hj hr ap ⊢;refine SS ?_;refine aa ⟨_,rfl,fun h=>?_,fun h=>?_⟩
  .have M:j<l.length:=by simpa using h
   have hx:l[j]? =some l[j]:=by simp[M]
   have J:=hg l[j] (gA _)
   have C:((l.take (j+1)).map p).map S=((l.take j).map p).map S++[S (p l[j])]:=by
    rw[List.take_add_one,hx,List.map_append,List.map_append];rfl
   have X:(((l.take j).map p).map S).length=j:=by simp;omega
   generalize l[j]=x at hx J C;generalize ((l.take j).map p).map S=ds at ap C X;refine ws ?_;refine ay ?_;refine aa (fO ?_);refine ay ?_;refine cl J ?_;refine ay ?_;refine aa ?_;refine ab ?_;refine aa (bf (j+1,nx+1,_,_) (au eH) ⟨oM,oM,?_⟩ oM);dsimp only;rw[C];exact aj _ _ _
  .have bm:¬ j<l.length:=by simpa using h
   have:j=l.length:=by omega
   subst this;rw[List.take_length] at ap;exact⟨r,m,nx,au eH,ap⟩
 .rintro s ⟨r,m,nx,hg,ap⟩;refine⟨_,hg,ag ?_⟩;refine ab ?_;refine aa (aD rfl ⟨r,rfl,ap⟩)
theorem Ng{l:List Int}{g:FuncId}{fs cs:List D}{p:Int->Int}(hl:l.length<=1000000)(ht:Tr (.fn (.func g) fs cs))(hg:∀ x∈l,aB prog g (fs++[U8 x]++cs) (I (p x))):aB prog 202 [ir l,.fn (.func g) fs cs] (aT (l.map p)):=by
 refine mh UT.he (.cons (oW _) (.cons ht .nil)) fun U=>?_;have hlen:=(U (ir l) oS).sl.1;unfold maxLen at hlen;refine bj UT (.cons (oW _) (.cons ht .nil)) (di _) ?_;rw[agu];refine ws ?_;refine SS ?_;refine aa (aw ?_);refine SS ?_;refine aa ⟨_,.rW _ _ _ 5 3 rfl,az (aw ?_)⟩;refine ay ?_
 refine aa (bZ (fun s=>∃ r m nx,aH prog s ⟨ax [(5,.rs r 0 l.length)],m,nx⟩/\m r=some (.cells ((l.map p).map I) 3)) (cH (α:=Nat×Nat×Mem×Nat)
  (fun s=>⟨ax [(1,.fn (.func g) fs cs),(5,.rs s.2.1 0 s.1),(8,ir l),(9,I l.length),(10,I s.1)],s.2.2.1,s.2.2.2⟩)
  (fun s=>s.1<=l.length/\s.2.1<s.2.2.2/\s.2.2.1 s.2.1=some (.cells (((l.take s.1).map p).map I) 3)) (fun s=>l.length - s.1) (0,_,_,_)
  (au eH) ⟨Nat.zero_le _,Nat.lt_succ_self _,rfl⟩ ?_) ?_)
 .rintro⟨j,r,m,nx⟩ ⟨hj,hr,ap⟩;dsimp only at hj hr ap ⊢;refine SS ?_;refine aa ⟨_,rfl,fun h=>?_,fun h=>?_⟩
  .have M:j<l.length:=by simpa using h
   have hx:l[j]? =some l[j]:=by simp[M]
   have J:=hg l[j] (gA _)
   have C:((l.take (j+1)).map p).map I=((l.take j).map p).map I++[I (p l[j])]:=by
    rw[List.take_add_one,hx,List.map_append,List.map_append];rfl
   have X:(((l.take j).map p).map I).length=j:=by simp;omega
   generalize l[j]=x at hx J C;generalize ((l.take j).map p).map I=ds at ap C X;refine ws ?_;refine ay ?_;refine aa (fO ?_);refine ay ?_;refine cl J ?_;refine ay ?_;refine aa ?_;refine ab ?_;refine aa (bf (j+1,nx+1,_,_) (au eH) ⟨oM,oM,?_⟩ oM);dsimp only;rw[C];exact aj _ _ _
  .have bm:¬ j<l.length:=by simpa using h
   have:j=l.length:=by omega
   subst this;rw[List.take_length] at ap;exact⟨r,m,nx,au eH,ap⟩
 .rintro s ⟨r,m,nx,hg,ap⟩;refine⟨_,hg,aw ?_⟩;refine ab ?_;refine aa (bH (eX ap (l:=[(4,aT (l.map p))]) ⟨?_,trivial⟩) (aD rfl rfl));exact(jR (by rw[c3];simp)).trans oS
theorem ajO{n:Int}:aB prog 203 [U8 n] (I (gQ n)):=by
 refine bj agv (by simp[Tr.s]) (Tr.s _) ?_;rw[agw];refine ws ?_;refine SS ?_;refine er ?_;refine ay ?_;exact aa (aD rfl rfl)
theorem VD{l:List Int}(hl:l.length<=1000000):aB prog 147 [ir l] (aT (l.map gQ)):=by
 have Ng:=Ng (l:=l) (g:=203) (fs:=[]) (cs:=[]) (p:=gQ) hl (.fn oS oS) fun x _=>ajO;refine bj agx (.cons (oW _) .nil) (di _) ?_;rw[agy];refine ws ?_;refine SS ?_;refine er ?_;refine SS ?_;refine cl Ng ?_;refine SS ?_;exact aa (aD rfl rfl)
theorem VE{m:Mem}{nx j k n:Nat}{u:Bool}{x:D}{a:ByteArray}{o:Option Nat}{wsq:List ByteArray}(hj:m j=some (.bs u x 213))(hk:m k=some (.cells (wsq.map S) 9))(hb:uf m x a o)(hn:n=wsq.length)
 (U:∀ i,o=some i->i≠j/\i<nx) (X:j<nx) (hw:wsq.length<=1000000) (hs:a.size+(iB wsq).size<=140737488355328):
 fP prog 144 [.rp j 0,.rs k 0 n] m nx fun d m' J=>d=.aM []/\m'=Ah m nx j 213 (a++iB wsq) o/\J=nx+1:=by
 subst hn;have bD:(iB wsq).size=(BG wsq ⟨#[32]⟩).size+1:=by rw[iB,ByteArray.size_append];rfl
 have Nh:=Nh (l:=wsq) (sep:=⟨#[32]⟩) oG (by
  have:(BG wsq ⟨#[32]⟩).size=(Lib.join (wsq.map (·.data.toList)) [32]).length:=rfl;show(Lib.join (wsq.map (·.data.toList)) [32]).length<=_
  omega)
 have C:(0:Nat)=0->jK prog [k] m [.rs k 0 wsq.length,S ⟨#[32]⟩] [bP wsq,S ⟨#[32]⟩]:=fun _=>⟨BE hk oS (by rw[c9,List.drop_zero,dq oS]) (.map fun _=>.s _),cN (.s _),trivial⟩
 have Iz:=Iz (s:=iB wsq) hj aeh hb U X hs;refine wa agA ?_;rw[agB];have ap:=hj;refine Lh aaQ kr ?_
 have M:(BG wsq ⟨#[32]⟩).size+(⟨#[10]⟩:ByteArray).size<=maxLen:=by
  show(BG wsq ⟨#[32]⟩).size+1<=_;unfold maxLen;omega
 refine aY ?_;refine UJ Nh rfl (C rfl) rfl ak ?_;refine sk (afU rfl rfl M) ak ?_;refine cq cx ?_;refine gI Iz rfl aK fun d m' J h=>?_;obtain⟨rfl,rfl,rfl⟩:=h;exact aa (wK ⟨rfl,rfl,rfl⟩)
def Eo(m:Mem)(nx j:Nat)(a:ByteArray)(o:Option Nat)(d:D)(m':Mem)(C:Nat):Prop:=
 d=.aM []/\∃ q,q≠j/\nx<=q/\q<C/\m' j=some (.bs true (.rs q 0 a.size) 213)/\m' q=some (.cells (fB a) 5)/\∀ i,i<nx->i≠j->o≠some i->m' i=m i
theorem RZ{m C:Mem}{nx n0 j:Nat}{a:ByteArray}{o:Option Nat}(hj:j<n0)(hn:n0<=nx)(hm:∀ i,i<n0->m i=C i):Eo C n0 j a o (.aM []) (Ah m nx j 213 a o) (nx+1):=by
 refine⟨rfl,nx,oG,hn,oG,aj _ _ _,(aA _ _ oG).trans (aj _ _ _),fun i hi h1 h2=>?_⟩;refine((aA _ _ h1).trans (aA _ _ oG)).trans ?_;cases o with
 |none=>exact hm i hi
 |some k=>exact(aA _ _ (fun e=>h2 (by rw[e]))).trans (hm i hi)
theorem uf.mono{m m':Mem}{x:D}{a:ByteArray}{o:Option Nat}(h:uf m x a o)(hm:∀ i,o=some i->m' i=m i):uf m' x a o:=by
 cases o with
 |none=>exact h
 |some i=>exact⟨h.1,(hm i rfl).trans h.2⟩
theorem IA{m:Mem}{nx j:Nat}{u:Bool}{x y:D}{a word:ByteArray}{o:Option Nat}{l:List Int}(hj:m j=some (.bs u x 213))(hb:uf m x a o)
 (J:∀ i,o=some i->i≠j/\i<nx) (jt:j<nx) (hy:y=aT l\/∃ k,k<nx/\y=.rs k 0 l.length/\m k=some (.cells (l.map I) 3)) (hi:∀ n∈l,i64 n) (hl:l.length<=100000)
 (hs:a.size+(iB (word::l.map eC)).size<=140737488355328):
 fP prog 146 [.rp j 0,S word,y] m nx (Eo m nx j (a++iB (word::l.map eC)) o):=by
 have Mo:=Mo (l:=l) (g:=145) (fs:=[]) (cs:=[]) (p:=eC) oG (.fn oS oS) fun n hn=>VF (hi n hn).1 (hi n hn).2;have U:Tr (.fn (.func 145) [] []):=.fn oS oS
 have key:∃ rds,jK prog rds (up m nx (some (.cells [S word] 9))) [y,.fn (.func 145) [] []] [aT l,.fn (.func 145) [] []]:=by
  rcases hy with rfl|⟨k,hk,rfl,X⟩
  .exact⟨[],cN (di l),cN U,trivial⟩
  .exact⟨[k],BE (ah oG X) oS (by rw[c3,List.drop_zero,dq oS]) (.map fun _=>.s _),cN U,trivial⟩
 obtain⟨rds,fI⟩:=key;have nk:=Mo.snap (nx:=nx+1) fI (by simp[D.gK]);have C:y.core=y:=by rcases hy with rfl|⟨k,_,rfl,_⟩<;>rfl
 have M:y.ask:=by rcases hy with rfl|⟨k,_,rfl,_⟩<;>trivial
 refine wa agC ?_;rw[agD];refine lF ?_;refine ay ?_;refine av (cY (v:=y) C) (by repeat' (first|exact trivial|exact M|refine And.intro ?_ ?_)) trivial ?_;refine gI nk (by show some (201,[y.core,D.fn (Fn.func 145) [] []])=_;rw[C]) (by repeat' (first|exact trivial|exact C|exact M|exact rfl|refine And.intro ?_ ?_)) fun d m' al h=>?_;obtain⟨rfl,rfl,rfl⟩:=h;dsimp only[St.put];refine jI (jB rfl (ah oG (aj _ _ _)) rfl V.h V.h (lE (aj _ _ _) rfl) rfl) ak ⟨V.h,rfl,(by first|omega|exact bJ rfl|(simp;done)|(simp;omega)),oC,(by first|rfl|(simp;done)|(simp;omega)),(by unfold maxLen;first|omega|(simp;omega)),(by rw[b9];first|omega|(simp;omega)),(by first|(simp;done)|(simp;omega))⟩ ?_;refine gI (VE (k:=nx+1+1) (wsq:=word::l.map eC) (ah oG (ah oG (ah oG (ah oG hj)))) ((aj _ _ _).trans (by rw[List.drop_zero,List.drop_zero,dq oS];rfl)) (hb.mono fun i hi=>?_) oP (fun i hi=>⟨(J i hi).1,by have:=(J i hi).2;omega⟩) oG oP hs) rfl aK fun d m' al h=>?_
 .have:=(J i hi).2;exact ah oG (ah oG (ah oG (ah oG rfl)))
 obtain⟨rfl,rfl,rfl⟩:=h;refine aa (wK (RZ jt oG fun i hi=>?_));exact ah oG (ah oG (ah oG (ah oG rfl)))
theorem VH{m:Mem}{nx j:Nat}{u:Bool}{y:D}{a word:ByteArray}{o:Option Nat}{x:cv}(hj:m j=some (.bs u y 213))(hb:uf m y a o)
 (C:∀ i,o=some i->i≠j/\i<nx) (jt:j<nx) (hi:IB x) (hl:x.args.length<=10000) (hs:a.size+(VG word x).size<=140737488355328):
 fP prog 148 [.rp j 0,S word,.agg (cg x)] m nx (Eo m nx j (a++VG word x) o):=by
 refine wa agE ?_;rw[agF];refine ws ?_;refine SS ?_;refine aa (lF ?_);have ap:up m nx (some (Row.cells (cg x) 54)) nx=some (.cells [U8 x.op,I x.to,I x.a,I x.b,I x.n,aT x.args] 54):=aj _ _ _;have jo:(x.args.map I).take (x.args.length*1)=x.args.map I:=dq oS;refine bh ?_;refine bw ?_;refine av (sV rfl (ah oG ap) V.h) ak (qG V.h) ?_;refine av (kM rfl (ah oG ap) rfl V.h) ak (kN V.h V.h rfl) ?_;refine jI (jB rfl (aj _ _ _) rfl Ai c3 (rI jo) rfl) aK ⟨B3,rfl,oS,oC,rfl,by unfold maxLen;omega,by rw[b3];omega,oS⟩ ?_;refine gI (IA (y:=.rs (nx+1+1) 0 (5+x.args.length)) (l:=vC x) (word:=word) (ah oG (ah oG (ah oG (ah oG hj)))) (hb.mono fun i hi=>?_) (fun i hi=>⟨(C i hi).1,by have:=(C i hi).2;omega⟩) oG (.inr ⟨nx+1+1,oG,congrArg (D.rs _ 0) (by simp[vC];omega),aj _ _ _⟩) hi (by simp[vC];omega) hs) rfl aK fun d m' al h=>?_
 .have:=(C i hi).2;exact ah oG (ah oG (ah oG (ah oG rfl)))
 refine aa (wK ?_);obtain⟨rfl,q,h1,h2,J,M,U,X⟩:=h;exact⟨rfl,q,h1,oG,J,M,U,fun i hi h7 h8=>(X i oG h7 h8).trans (ah oG (ah oG (ah oG (ah oG rfl))))⟩
theorem VJ{m:Mem}{nx j i:Nat}{u:Bool}{a:ByteArray}{T:TypeId}(hj:m j=some (.bs u (.rs i 0 a.size) T))(hi:m i=some (.cells (fB a) 5))(h0:0<a.size)(hs:a.size<=140737488355328):
 fP prog 120 [.rp j 0] m nx fun d m' al=>d=S a/\m'=up m i none/\al=nx:=by
 refine wa agG ?_;rw[agH];refine ws ?_;refine SS ?_;refine aa (dV aaR ?_);have ap:=hj;have iz:=hi;have kn:=acA a;have X:((fB a).drop 0).take a.size=mw (xk a):=by rw[List.drop_zero,dq (by simp[fB]),afk]
 have J:=h0;have M:(prog).underlying 229=some (.pointer 5):=kr;have U:a.size<=maxLen:=by unfold maxLen;omega
 have C:=acB a;refine ay ?_;refine sk (GC rfl ap V.h V.h) ak ?_;refine sk (adY rfl iz (by first|assumption|omega)) ak ?_;refine ay ?_;refine sk (GC rfl ap V.h V.h) ak ?_;refine av (yL rfl iz) ak V.h ?_;refine ai4 (ae8 (s:=.tmp 0) rfl rfl kn iz X J M c5 U C) aK ?_;refine SS ?_;refine cq cx (aD rfl ⟨?_,rfl,rfl⟩);exact congrArg (fun s=>D.s (.string s)) (aei a)
end Go.Proofs.Tryz.K
namespace Go.Proofs.Tryz.K
def nu(q:Nat)(a:ByteArray):Mem:=br [(1,.bs true (.rs q 0 a.size) 213),(q,.cells (fB a) 5)]
theorem sL{q:Nat}{a:ByteArray}:nu q a 1=some (.bs true (.rs q 0 a.size) 213):=by simp[nu,br]
theorem Oo{q:Nat}{a:ByteArray}(h:q≠1):nu q a q=some (.cells (fB a) 5):=by simp[nu,br,h]
theorem vi{q:Nat}{a:ByteArray}(h:q≠1):uf (nu q a) (.rs q 0 a.size) a (some q):=⟨rfl,Oo h⟩
theorem tE{m m':Mem}{nx C:Nat}{U:List (List ByteArray)}{w:List ByteArray}{o:Option Nat}{d:D}(h:Eo m nx 1 (eW U++iB w) o d m' C)(h1:1<nx):
 ∃ q,1<q/\nx<=q/\q<C/\∀ (env:Env) (l:List (Nat×D)),lN l env->aH prog ⟨env,m',C⟩ ⟨ax l,nu q (eW (U++[w])),C⟩:=by
 obtain⟨_,q,h2,X,h4,J,M,_⟩:=h;rw[<- Ss] at J M;exact⟨q,oG,X,h4,fun env l hl=>cn hl ⟨J,M,trivial⟩⟩
theorem Ep{m:Mem}{nx j k n:Nat}{u:Bool}{x:D}{a:ByteArray}{o:Option Nat}{wsq:List ByteArray}(hj:m j=some (.bs u x 213))(hk:m k=some (.cells (wsq.map S) 9))(hb:uf m x a o)(hn:n=wsq.length)
 (J:∀ i,o=some i->i≠j/\i<nx) (C:j<nx) (M:wsq.length<=1000000) (hs:a.size+(iB wsq).size<=140737488355328):
 fP prog 144 [.rp j 0,.rs k 0 n] m nx (Eo m nx j (a++iB wsq) o):=
 (VE hj hk hb hn J C M hs).mono fun d m' U h=>by
  obtain⟨rfl,rfl,rfl⟩:=h;exact RZ C (aZ _) fun _ _=>rfl
theorem adw{σ:D->D}(h:∀ n,sub σ (.s n)=.s n)(a:ByteArray):(fB a).map (sub σ)=fB a:=by
 unfold fB;rw[List.map_map];exact List.map_congr_left fun c _=>h _
theorem Ib{P:Program}{env:Env}{m:Mem}{nx n' q:Nat}{a:ByteArray}{cs:List D}{e:TypeId}{l:List (Nat×D)}(hm:m nx=some (.cells cs e))(h1:m 1=nu q a 1)(h2:m q=nu q a q)(bN:1<q)(C:q<nx)
 (hl:lN l fun t=>sub (cM nx cs (P.cellsOf e)) (env t)):aH P ⟨env,m,n'⟩ ⟨ax l,nu q a,n'⟩:=by
 refine rG hm hl ⟨?_,?_,trivial⟩
 .show(if 1=nx then none else(m 1).map _)=_;rw[if_neg oG,h1,sL];show some (Row.bs true (sub (cM nx cs (P.cellsOf e)) (.rs q 0 a.size)) 213)=_;rw[AZ oG]
 .show(if q=nx then none else(m q).map _)=_;rw[if_neg oG,h2,Oo oG];show some (Row.cells ((fB a).map (sub (cM nx cs (P.cellsOf e)))) 5)=_;rw[adw fun _=>rfl]
theorem mq{i sz:Nat}{cs:List D}:sub (cM i cs sz) (.rp i 0)=.pt cs:=kY.trans (by rw[List.drop_zero])
theorem wc{c g:ai}{args:List Int}(ha:∀ r∈args,0<=r/\r<c.aO.length)(hg:g.args<=g.aO.length)(hl:args.length<=1000000):
 aB prog 99 [.agg (a7 dE dE c),.agg (aR g),aT args] (B (nZ c g args)):=by
 have M:∀ a∈[D.agg (a7 dE dE c),.agg (aR g),aT args],Tr a:=.cons (kP (.s _) (.s _) c) (.cons (.agg (kL g)) (.cons (di _) .nil));refine bj ajW M (Tr.s _) ?_;rw[ajX];refine aw ?_;refine ay ?_;refine aa (bH (dA [(0,a7 dE dE c,113),(1,aR g,48)] eH (l:=[(2,aT args),(3,.pt (a7 dE dE c)),(4,.pt (aR g))]) eH) (az (ag ?_)));refine bw ?_;refine aa (cA rfl (fun h=>az (ag ?_)) fun h=>cm (az (aw ?_)))
 .have:¬ (args.length:Int)=g.args:=by simpa using h
  have hf:nZ c g args=false:=by simp[nZ,this]
  rw[hf];refine SS ?_;exact aa (dG (aD rfl rfl))
 have hlen:(args.length:Int)=g.args:=by simpa using h
 refine ay ?_
 refine aa (bZ (fun s=>aH prog s ⟨ax [],fun _=>none,2⟩/\∀ j,j<args.length->vj c g args j=true) (cH (α:=Nat) (fun k=>⟨ax [(3,.pt (a7 dE dE c)),(4,.pt (aR g)),(14,aT args),(15,I args.length),(16,I k)],fun _=>none,2⟩)
  (fun k=>k<=args.length/\∀ j,j<k->vj c g args j=true) (fun k=>args.length - k) 0 (au eH) ⟨oG,fun j hj=>by omega⟩ ?_) ?_)
 .rintro k ⟨hk,hinv⟩;refine SS ?_;refine aa ⟨_,rfl,fun h=>?_,fun h=>?_⟩
  .have af:k<args.length:=by simpa using h
   obtain⟨x,hx⟩:∃ x,args[k]? =some x:=⟨_,aL af⟩
   obtain⟨X,xL⟩:=ha x (bu hx);refine ws ?_;refine bw ?_;obtain⟨C,rfl⟩:∃ C:Nat,x=C:=⟨x.toNat,oG⟩
   obtain⟨u,hu⟩:∃ u,c.aO[C]? =some u:=⟨_,aL oG⟩
   obtain⟨v,hv⟩:∃ v,g.aO[k]? =some v:=⟨_,aL oG⟩
   refine aa (dV acC ?_);refine bh ?_;refine ay ?_;have J:vj c g args k=(u==v):=by simp[vj,o5,dF,hx,hu,hv]
   refine cq cx (aQ rfl (fun hp=>?_) fun hp=>?_)
   .have hf:nZ c g args=false:=by
     have:(range args.length).all (vj c g args)=false:=by
      rw[List.all_eq_false];refine⟨k,List.mem_range.2 af,?_⟩;rw[J];simpa using hp
     simp[nZ,this]
    rw[hf];refine ws ?_;refine SS ?_;exact aa (bG (bY (bA (aD rfl rfl))))
   .refine cP ?_;refine ab ?_;refine aa (bf (k+1) (au eH) ⟨oG,fun j hj=>?_⟩ oG);by_cases e:j=k
    .subst e;rw[J];simpa using hp
    .exact hinv j oG
  .have bm:¬ k<args.length:=by simpa using h
   exact⟨.forget _ _ _ _ fun _=>.inr rfl,fun j hj=>hinv j oG⟩
 .rintro s ⟨hg,U⟩;refine⟨_,hg,ag ?_⟩
  have:(range args.length).all (vj c g args)=true:=by
   rw[bS];intro j hj;exact U j (List.mem_range.1 hj)
  have hf:nZ c g args=true:=by simp[nZ,hlen,this]
  rw[hf];refine SS ?_;exact aa (aD rfl rfl)
end Go.Proofs.Tryz.K
namespace Go.Proofs.Tryz.K
theorem Mp{n:Int}(h:i64 n):aB prog 145 [I n] (S (eC n)):=VF h.1 h.2
theorem aej{f:ai}(kK:ep f=0)(ht:D4 f):aB prog 111 [.agg (aR f)] (.aM [S (jF f),I 0]):=by
 have rr:=rr (f:=f);rw[kK] at rr;have kR:=VD (l:=f.aO) (by have:=ht.aO;omega);have kS:=VD (l:=f.bK) (by have:=ht.bK;omega);have hsg:=ht.sigs
 have VK:∀ l:List Int,∀ n∈l.map gQ,i64 n:=fun l n hn=>by
  obtain⟨x,_,rfl⟩:=List.mem_map.1 hn;exact A9 x
 have W2:(eW []).size+(iB [zb,f.name,r8 f,eC f.args,eC (gQ f.result)]).size<=140737488355328:=ht.le ⟨_,rfl⟩;have W3:(eW [[zb,f.name,r8 f,eC f.args,eC (gQ f.result)]]).size+(iB (BH::(f.aO.map gQ).map eC)).size<=140737488355328:=ht.le ⟨_,rfl⟩;have W4:(eW [[zb,f.name,r8 f,eC f.args,eC (gQ f.result)],BH::(f.aO.map gQ).map eC]).size+(iB (D5::(f.bK.map gQ).map eC)).size<=140737488355328:=ht.le ⟨_,rfl⟩;have W5:(eW [[zb,f.name,r8 f,eC f.args,eC (gQ f.result)],BH::(f.aO.map gQ).map eC,D5::(f.bK.map gQ).map eC]).size+(iB (Gm::f.signals)).size<=140737488355328:=ht.le ⟨_,rfl⟩;refine bj UU (.cons (.agg (kL f)) .nil) (.aM (.cons (.s _) (.cons (.s _) .nil))) ?_;rw[UW];refine aw ?_;refine ay ?_;refine aa (bH (dA [(0,aR f,48)] eH (l:=[(1,.pt (aR f))]) eH) (az (ag ?_)));refine SS ?_;refine cl rr ?_;refine SS ?_;refine aa (az (ag ?_));refine ab ?_;refine aa (tD (cm (ag ?_)));refine SS ?_;refine Is (ae9 rfl rfl rfl V.h) ak ?_;refine av (jS (v:=.rp _ _) rfl) ak trivial ?_;refine er ?_;refine SS ?_;refine aa (jf (fun s=>aH prog s ⟨ax [(1,.pt (aR f)),(5,.rp 1 0),(6,S (r8 f))],br [(1,.bs false .z 213)],2⟩) (ag ?_) fun s hs=>⟨_,hs,Yz aaS kr ?_⟩)
 .refine ab ?_;refine aa (aQ rfl (fun hi=>?_) fun hi=>?_)
  .refine lF ?_;refine SS ?_;refine aa (cn ⟨rfl,rfl,?_,trivial⟩ eH);rw[r8,hi];rfl
  .refine cP (cn ⟨rfl,rfl,?_,trivial⟩ eH);rw[r8,hi];rfl
 refine cz ?_;refine r6 (Mp ht.args) rfl aK ?_;refine ay ?_;refine r6 (Mp (A9 f.result)) rfl aK ?_;refine SS ?_;refine cq cx ?_;refine gI (Ep (wsq:=[zb,f.name,r8 f,eC f.args,eC (gQ f.result)]) (a:=eW []) (o:=none) rfl rfl ⟨rfl,rfl⟩ rfl (fun i hi=>by cases hi) oG oS W2) rfl aK fun d m nx h=>?_;refine aa ?_;dsimp only[St.put];obtain⟨q,bN,_,C,hg⟩:=tE h oG;refine⟨_,hg _ [(1,.pt (aR f)),(5,.rp 1 0)] ⟨rfl,rfl,trivial⟩,aw ?_⟩;clear hg h;refine ay ?_;refine r6 kR rfl aK ?_;refine gI (IA (word:=BH) sL (vi oG) (fun i hi=>by cases hi;omega) oG (.inl rfl) (VK _) (by simp;have:=ht.aO;omega) W3) rfl aK fun d m nx h=>?_;refine aa ?_;dsimp only[St.put];obtain⟨q,bN,_,C,hg⟩:=tE h oG;refine⟨_,hg _ [(1,.pt (aR f)),(5,.rp 1 0)] ⟨rfl,rfl,trivial⟩,aw ?_⟩;clear hg h;refine ay ?_;refine r6 kS rfl aK ?_;refine gI (IA (word:=D5) sL (vi oG) (fun i hi=>by cases hi;omega) oG (.inl rfl) (VK _) (by simp;have:=ht.bK;omega) W4) rfl aK fun d m nx h=>?_;refine aa ?_;dsimp only[St.put];obtain⟨q,bN,_,C,hg⟩:=tE h oG;refine⟨_,hg _ [(1,.pt (aR f)),(5,.rp 1 0)] ⟨rfl,rfl,trivial⟩,aw ?_⟩;clear hg h;have X:(f.signals.map S).take (f.signals.length*1)=f.signals.map S:=dq oS;refine aY ?_;refine jI (jB rfl (aj _ _ _) rfl sM c9 (rI X) rfl) aK ⟨lZ,rfl,oS,oC,rfl,by unfold maxLen;omega,by rw[b9];omega,oS⟩ ?_;refine gI (Ep (wsq:=Gm::f.signals) (ah oG (ah oG (ah oG sL))) (aj _ _ _) ((vi oG).mono fun i hi=>?_) oP (fun i hi=>by cases hi;omega) oG oP W5) rfl aK fun d m nx h=>?_
 .cases hi;exact ah oG (ah oG (ah oG rfl))
 refine aa ?_;dsimp only[St.put];obtain⟨q,bN,_,C,hg⟩:=tE h oG;refine⟨_,hg _ [(1,.pt (aR f)),(5,.rp 1 0)] ⟨rfl,rfl,trivial⟩,az (aw ?_)⟩;clear hg h;refine aY ?_;have EM:lB f f.blocks.length=jj f:=by rw[lB,List.take_length];rfl
 have dt:=ht.Ni
 refine aa (bZ (fun s=>∃ q nx,1<q/\q<nx/\aH prog s ⟨ax [(5,.rp 1 0)],nu q (eW (jj f)),nx⟩) (cH (α:=Nat×Nat×Nat)
  (fun s=>⟨ax [(5,.rp 1 0),(53,cG f.blocks),(54,I f.blocks.length),(55,I s.1)],nu s.2.1 (eW (lB f s.1)),s.2.2⟩)
  (fun s=>s.1<=f.blocks.length/\1<s.2.1/\s.2.1<s.2.2) (fun s=>f.blocks.length - s.1) (0,q,nx)
  (au eH) ⟨Nat.zero_le _,bN,C⟩ ?_) ?_)
 .clear W2 W3 W4 W5 kR kS bN C X;rintro⟨k,q,nx⟩ ⟨hk,bN,C⟩;dsimp only at hk bN C ⊢;refine SS ?_;refine aa ⟨_,rfl,fun h=>?_,fun h=>?_⟩
  .have gC:k<f.blocks.length:=by simpa using h
   clear h;obtain⟨b,hb⟩:∃ b,f.blocks[k]? =some b:=⟨_,aL gC⟩
   have jH:=bu hb;have Ol:=ht.ajS b jH;have Om:=ht.ins b jH;have M:=ht.fin b jH;refine aw ?_;refine aY ?_;refine aa ⟨_,Ib (cs:=bU b) (e:=59) (aj _ _ _) (ah oG (ah oG rfl)) (ah oG (ah oG rfl)) bN C (l:=[(5,.rp 1 0),(53,cG f.blocks),(54,I f.blocks.length),(55,I k),(8,.pt (bU b))]) ⟨gE oG,rfl,rfl,rfl,mq,trivial⟩,aw ?_⟩;refine ab ?_;refine gI (Ep (wsq:=[ng]) (ah oG sL) (aj _ _ _) ((vi oG).mono fun i hi=>by cases hi;exact(ah oG rfl)) rfl (fun i hi=>by cases hi;omega) oG oS (ht.le (Kd hb ⟨_,rfl⟩))) rfl aK fun d m nx h=>?_;refine aa ?_;dsimp only[St.put];obtain⟨q,bN,_,C,hg⟩:=tE h oG;refine⟨_,hg _ [(5,.rp 1 0),(53,cG f.blocks),(54,I f.blocks.length),(55,I k),(8,.pt (bU b))] ⟨rfl,rfl,rfl,rfl,rfl,trivial⟩,az (aw ?_)⟩;clear hg h;refine aY ?_
   refine aa (bZ (fun s=>∃ q nx,1<q/\q<nx/\aH prog s ⟨ax [(5,.rp 1 0),(53,cG f.blocks),(54,I f.blocks.length),(55,I k),(8,.pt (bU b))],nu q (eW (lB f k++([ng]::pT b))),nx⟩) (cH (α:=Nat×Nat×Nat)
    (fun s=>⟨ax [(5,.rp 1 0),(53,cG f.blocks),(54,I f.blocks.length),(55,I k),(8,.pt (bU b)),(63,kx b.ins),(64,I b.ins.length),(65,I s.1)],nu s.2.1 (eW (lB f k++([ng]::(b.ins.take s.1).map (kE pk)))),s.2.2⟩)
    (fun s=>s.1<=b.ins.length/\1<s.2.1/\s.2.1<s.2.2) (fun s=>b.ins.length - s.1) (0,q,nx)
    (au eH) ⟨Nat.zero_le _,bN,C⟩ ?_) ?_)
   .clear bN C;rintro⟨i,q,nx⟩ ⟨hi,bN,C⟩;dsimp only at hi bN C ⊢;refine SS ?_;refine aa ⟨_,rfl,fun h=>?_,fun h=>?_⟩
    .have eN:i<b.ins.length:=by simpa using h
     clear h;obtain⟨x,hx⟩:∃ x,b.ins[i]? =some x:=⟨_,aL eN⟩
     have iQ:=Om x (bu hx);have he:lB f k++([ng]::(b.ins.take (i+1)).map (kE pk))=(lB f k++([ng]::(b.ins.take i).map (kE pk)))++[kE pk x]:=by rw[List.take_add_one,hx];simp
     have sg:(lB f k++([ng]::(b.ins.take i).map (kE pk)))++[kE pk x]<+:jj f:=by
      rw[<- he];refine Kd hb ?_;unfold gX pT;refine(List.cons_prefix_cons).2 ⟨rfl,?_⟩;exact((List.take_prefix _ _).map _).trans (List.prefix_append _ _)
     refine aw ?_;refine aY ?_;refine aa ⟨_,Ib (cs:=cg x) (e:=54) (aj _ _ _) (ah oG (ah oG rfl)) (ah oG (ah oG rfl)) bN C (l:=[(5,.rp 1 0),(53,cG f.blocks),(54,I f.blocks.length),(55,I k),(63,kx b.ins),(64,I b.ins.length),(65,I i),(8,.pt (bU b)),(10,.pt (cg x))]) ⟨gE oG,rfl,rfl,rfl,rfl,rfl,rfl,rfl,mq,trivial⟩,fO ?_⟩;refine ab ?_;refine gI (VH (x:=x) (word:=pk) sL (vi oG) (fun i hi=>by cases hi;omega) oG iQ.1 iQ.2 (ht.le sg)) rfl aK fun d m nx h=>?_;refine aa ?_;dsimp only[St.put];obtain⟨q,bN,_,C,hg⟩:=tE (w:=kE pk x) h oG;refine ab ?_;refine aa (bf (i+1,q,nx) ?_ ⟨oM,bN,C⟩ oM);dsimp only;rw[he];exact hg _ _ ⟨rfl,rfl,rfl,rfl,rfl,rfl,rfl,rfl,trivial⟩
    .have bm:¬ i<b.ins.length:=by simpa using h
     have:i=b.ins.length:=by omega
     subst this;rw[List.take_length];exact⟨q,nx,bN,C,au eH⟩
   clear bN C;rintro s ⟨q,nx,bN,C,hg⟩;refine⟨_,hg,aw ?_⟩;clear hg;refine aY ?_;refine aa ⟨_,Ib (cs:=bC b.fin) (e:=57) (aj _ _ _) (ah oG (ah oG rfl)) (ah oG (ah oG rfl)) bN C (l:=[(5,.rp 1 0),(53,cG f.blocks),(54,I f.blocks.length),(55,I k),(11,.pt (bC b.fin))]) ⟨gE oG,rfl,rfl,rfl,mq,trivial⟩,aw ?_⟩;generalize hfx:b.fin=x at*
   have X:(x.args.map I).take (x.args.length*1)=x.args.map I:=dq oS;have ug:=M.2.1;have hwl:=M.2.2.2.2.1;have hB:gX b=[ng]::(pT b++(po x::(jk x++(j7 x++x.aP.map iY)))):=by unfold gX;rw[hfx]
   have U:∀ A,A<+:jk x++(j7 x++x.aP.map iY)->((lB f k++([ng]::pT b))++[po x])++A<+:jj f:=fun A hA=>by
    have:=Kd hb (p:=[ng]::(pT b++(po x::A))) (by
     rw[hB]
     exact(List.cons_prefix_cons).2 ⟨rfl,(List.prefix_append_right_inj _).2 ((List.cons_prefix_cons).2 ⟨rfl,hA⟩)⟩)
    simpa[List.append_assoc] using this
   refine bh ?_;refine du ?_;refine jI (jB rfl (aj _ _ _) rfl Ai c3 (rI X) rfl) aK ⟨B3,rfl,oS,oC,rfl,by unfold maxLen;omega,by rw[b3];omega,oS⟩ ?_;refine gI (IA (y:=.rs (nx+1+1) 0 (6+x.args.length)) (l:=tM x) (word:=B4) (ah oG (ah oG (ah oG sL))) ((vi oG).mono fun i hi=>by cases hi;exact(ah oG (ah oG (ah oG rfl)))) (fun i hi=>by cases hi;omega) oG (.inr ⟨nx+1+1,oG,congrArg (D.rs _ 0) (by simp[tM];omega),aj _ _ _⟩) M.1 (by simp[tM];omega) (ht.le (p:=lB f k++([ng]::pT b)) (l:=po x) (by simpa using U [] List.nil_prefix))) rfl aK fun d m nx h=>?_;refine aa ?_;dsimp only[St.put];obtain⟨q,bN,_,C,hg⟩:=tE (w:=po x) h oG;generalize I7:(lB f k++([ng]::pT b))++[po x]=T1 at*
   refine⟨_,hg _ [(5,.rp 1 0),(53,cG f.blocks),(54,I f.blocks.length),(55,I k),(11,.pt (bC x))] ⟨rfl,rfl,rfl,rfl,rfl,trivial⟩,jf (fun s=>∃ q nx,1<q/\q<nx/\aH prog s ⟨ax [(5,.rp 1 0),(53,cG f.blocks),(54,I f.blocks.length),(55,I k),(11,.pt (bC x))],nu q (eW (T1++jk x)),nx⟩) (ag ?_) fun s hs=>?_⟩
   .refine ay ?_;refine aa (aQ rfl (fun hn=>?_) fun hn=>?_)
    .have J:jk x=[[tF,x.name]]:=by
      unfold jk;rw[if_neg];intro he;simp[he] at hn
     refine lF ?_;refine aY ?_;refine gI (Ep (wsq:=[tF,x.name]) (ah oG sL) (aj _ _ _) ((vi oG).mono fun i hi=>by cases hi;exact(ah oG rfl)) rfl (fun i hi=>by cases hi;omega) oG oS (ht.le (U _ (by rw[J];exact List.prefix_append _ _)))) rfl aK fun d m nx h=>?_;refine aa ?_;dsimp only[St.put];obtain⟨q,bN,_,C,hg⟩:=tE h oG;rw[J];exact⟨q,nx,bN,C,hg _ _ ⟨rfl,rfl,rfl,rfl,rfl,trivial⟩⟩
    .have J:jk x=[]:=by
      unfold jk;rw[if_pos];by_cases he:x.name.toList=[]
      .exact he
      .simp[he] at hn
     rw[J,List.append_nil];exact cP ⟨q,nx,bN,C,au eH⟩
   clear hg h bN C;obtain⟨q,nx,bN,C,hg⟩:=hs;refine⟨_,hg,jf (fun s=>∃ q nx,1<q/\q<nx/\aH prog s ⟨ax [(5,.rp 1 0),(53,cG f.blocks),(54,I f.blocks.length),(55,I k),(11,.pt (bC x))],nu q (eW ((T1++jk x)++j7 x)),nx⟩) (ag ?_) fun s hs=>?_⟩
   .refine ay ?_;refine aa (aQ rfl (fun hn=>?_) fun hn=>?_)
    .have J:j7 x=[kE zv x.ins]:=by
      unfold j7;rw[if_pos];simpa using hn
     have On:(T1++jk x)++[kE zv x.ins]<+:jj f:=by
      rw[List.append_assoc];refine U _ ((List.prefix_append_right_inj _).2 ?_);rw[J];exact List.prefix_append _ _
     refine lF ?_;refine ay ?_;refine gI (VH (x:=x.ins) (word:=zv) sL (vi oG) (fun i hi=>by cases hi;omega) oG M.2.2.1 M.2.2.2.1 (ht.le On)) rfl aK fun d m nx h=>?_;refine aa ?_;dsimp only[St.put];obtain⟨q,bN,_,C,hg⟩:=tE (w:=kE zv x.ins) h oG;rw[J];exact⟨q,nx,bN,C,hg _ _ ⟨rfl,rfl,rfl,rfl,rfl,trivial⟩⟩
    .have J:j7 x=[]:=by
      unfold j7;rw[if_neg];simpa using hn
     rw[J,List.append_nil];exact cP ⟨q,nx,bN,C,au eH⟩
   clear hg bN C;obtain⟨q,nx,bN,C,hg⟩:=hs;refine⟨_,hg,aw ?_⟩;clear hg;refine aY ?_
   refine aa (cH (α:=Nat×Nat×Nat)
    (fun s=>⟨ax [(5,.rp 1 0),(53,cG f.blocks),(54,I f.blocks.length),(55,I k),(110,lG x.aP),(111,I x.aP.length),(112,I s.1)],nu s.2.1 (eW (((T1++jk x)++j7 x)++(x.aP.take s.1).map iY)),s.2.2⟩)
    (fun s=>s.1<=x.aP.length/\1<s.2.1/\s.2.1<s.2.2) (fun s=>x.aP.length - s.1) (0,q,nx)
    (by dsimp only;rw[List.take_zero,List.map_nil,List.append_nil];exact au eH) ⟨Nat.zero_le _,bN,C⟩ ?_)
   clear bN C;rintro⟨i,q,nx⟩ ⟨hi,bN,C⟩;dsimp only at hi bN C ⊢;refine SS ?_;refine aa ⟨_,rfl,fun h=>?_,fun h=>?_⟩
   .have eN:i<x.aP.length:=by simpa using h
    clear h;obtain⟨w,hw⟩:∃ w,x.aP[i]? =some w:=⟨_,aL eN⟩
    have NX:=M.2.2.2.2.2 w (bu hw);have he:((T1++jk x)++j7 x)++(x.aP.take (i+1)).map iY=(((T1++jk x)++j7 x)++(x.aP.take i).map iY)++[iY w]:=by rw[List.take_add_one,hw];simp
    have On:(((T1++jk x)++j7 x)++(x.aP.take i).map iY)++[iY w]<+:jj f:=by
     rw[<- he,List.append_assoc,List.append_assoc];exact U _ ((List.prefix_append_right_inj _).2 ((List.prefix_append_right_inj _).2 ((List.take_prefix _ _).map _)))
    refine aw ?_;refine aY ?_;refine aa ⟨_,Ib (cs:=gF w) (e:=79) (aj _ _ _) (ah oG (ah oG rfl)) (ah oG (ah oG rfl)) bN C (l:=[(5,.rp 1 0),(53,cG f.blocks),(54,I f.blocks.length),(55,I k),(110,lG x.aP),(111,I x.aP.length),(112,I i),(13,.pt (gF w))]) ⟨gE oG,rfl,rfl,rfl,rfl,rfl,rfl,mq,trivial⟩,Lh ZM kr ?_⟩;refine bw ?_;refine r6 (Mp NX) rfl aK ?_;refine SS ?_;refine cq cx ?_;refine gI (Ep (wsq:=iY w) (ah oG sL) (aj _ _ _) ((vi oG).mono fun i hi=>by cases hi;exact(ah oG rfl)) rfl (fun i hi=>by cases hi;omega) oG (by simp[iY]) (ht.le On)) rfl aK fun d m nx h=>?_;refine aa ?_;dsimp only[St.put];obtain⟨q,bN,_,C,hg⟩:=tE (w:=iY w) h oG;show aq prog c8 (Z dI 31) false [] _ (Z dI 31).toList _ [];refine ab ?_;refine aa (bf (i+1,q,nx) ?_ ⟨oM,bN,C⟩ oM);dsimp only;rw[he];exact hg _ _ ⟨rfl,rfl,rfl,rfl,rfl,rfl,rfl,trivial⟩
   .have bm:¬ i<x.aP.length:=by simpa using h
    have:i=x.aP.length:=by omega
    subst this;rw[List.take_length];show aq prog c8 (Z dI 32) false [] _ (Z dI 32).toList _ [];refine ab ?_;refine aa (bf (k+1,q,nx) ?_ ⟨oM,bN,C⟩ oM);dsimp only;rw[R0 hb,show lB f k++gX b=((T1++jk x)++j7 x)++x.aP.map iY by rw[hB, <- I7];simp[List.append_assoc]];exact au eH
  .have bm:¬ k<f.blocks.length:=by simpa using h
   have:k=f.blocks.length:=by omega
   subst this;rw[EM];exact⟨q,nx,bN,C,au eH⟩
 .rintro s ⟨q,nx,bN,C,hg⟩;refine⟨_,hg,ag ?_⟩
  have h0:0<(eW (jj f)).size:=by
   show 0<(iB _++eW _).size;rw[ByteArray.size_append,iB,ByteArray.size_append];have:(⟨#[10]⟩:ByteArray).size=1:=rfl;omega
  refine SS ?_;refine av (Ht rfl rfl) ak trivial ?_;refine SS ?_;refine gI (VJ sL (Oo oG) h0 ht.size) rfl aK fun d m nx h=>?_;obtain⟨rfl,rfl,rfl⟩:=h;dsimp only[St.put];refine ab ?_;exact aa (gG rfl rfl rfl)
theorem IC{f:ai}(ht:ep f=0->D4 f):aB prog 111 [.agg (aR f)] (.aM [S (if ep f=0 then jF f else⟨#[]⟩),I (ep f)]):=by
 by_cases C:ep f=0
 .have h:=aej C (ht C);rw[if_pos C,C];exact h
 rw[if_neg C];have rr:=rr (f:=f);refine bj UU (.cons (.agg (kL f)) .nil) (.aM (.cons (.s _) (.cons (.s _) .nil))) ?_;rw[UW];generalize ep f=e at*
 have tL:(e !=0)=true:=by simpa using C
 refine aw ?_;refine ay ?_;refine aa (bH (dA [(0,aR f,48)] eH (l:=[(1,.pt (aR f))]) eH) (az (ag ?_)));refine SS ?_;refine cl rr ?_;refine SS ?_;refine aa (az (ag ?_));refine ab ?_;refine aa (wX (az (ag ?_)));refine ay ?_;exact aa (dG (gG rfl rfl rfl))
theorem ajT{f:ai}{name:ByteArray}:aB prog 116 [.agg (aR f),.pt [S name]] (B (f.name.toList==name.toList)):=by
 refine bj agI (.cons (.agg (kL f)) (.cons (.pt (.cons (.s _) .nil)) .nil)) (Tr.s _) ?_;rw[agJ];refine aw ?_;refine ab ?_;refine aa (bH (dA [(0,aR f,48)] eH (l:=[(1,.pt [S name]),(2,.pt (aR f))]) eH) (ag ?_));refine bw ?_;exact aa (aD rfl rfl)
theorem zw{l:List ai}{g:FuncId}{fs cs:List D}{p:ai->Bool}(hl:l.length<=1000000)(ht:Tr (.fn (.func g) fs cs))(hg:∀ x∈l,aB prog g (fs++[.agg (aR x)]++cs) (B (p x))):aB prog 115 [ba l,.fn (.func g) fs cs] (I (nt p l)):=by
 refine bj agK (.cons (iU _) (.cons ht .nil)) (Tr.s _) ?_;rw[agL];refine ws ?_;refine SS ?_;refine aa (az (aw ?_));refine ay ?_
 refine aa (bZ (fun s=>aH prog s ⟨ax [],fun _=>none,0⟩/\∀ (j:Nat) y,l[j]? =some y->p y=false) (cH (α:=Nat) (fun k=>⟨ax [(0,ba l),(1,.fn (.func g) fs cs),(7,I l.length),(8,I k)],fun _=>none,0⟩)
  (fun k=>k<=l.length/\∀ j y,j<k->l[j]? =some y->p y=false) (fun k=>l.length - k) 0 (au eH) ⟨oG,fun j y hj=>by omega⟩ ?_) ?_)
 .rintro k ⟨hk,hinv⟩;refine SS ?_;refine aa ⟨_,rfl,fun h=>?_,fun h=>?_⟩
  .have af:k<l.length:=by simpa using h
   obtain⟨x,hx⟩:∃ x,l[k]? =some x:=⟨_,aL af⟩
   have J:=hg x (bu hx);refine ws ?_;refine ab ?_;refine er ?_;refine bw ?_;refine cl J ?_;refine aa (aQ rfl (fun hp=>?_) fun hp=>?_)
   .refine ws ?_;refine ab ?_;refine aa (bG (bY (bA (aD rfl ?_))));rw[yp hx hp hinv];rfl
   .refine cP ?_;refine ab ?_;refine aa (bf (k+1) (au eH) ⟨oG,fun j y hj hy=>?_⟩ oG);by_cases e:j=k
    .subst e;rw[hx] at hy;cases hy;exact hp
    .exact hinv j y oG hy
  .have M:¬ k<l.length:=by simpa using h
   exact⟨.forget _ _ _ _ fun _=>.inr rfl,fun j y hy=>hinv j y (by have:=(bI.1 hy).1;omega) hy⟩
 .rintro s ⟨hg,C⟩;refine⟨_,hg,ag ?_⟩;refine SS ?_;refine aa (aD rfl ?_);rw[AP C];rfl
theorem p9{l:List ai}{name:ByteArray}(hl:l.length<=1000000):aB prog 74 [ba l,S name] (D6 (findF l name)):=by
 have zw:=zw (l:=l) (g:=116) (fs:=[]) (cs:=[.pt [S name]]) (p:=fun g=>g.name.toList==name.toList) hl (.fn oS (.cons (.pt (.cons (.s _) .nil)) .nil)) fun x _=>ajT
 change aB _ _ _ (I (named l name)) at zw
 have C:Tr (D6 (findF l name)):=by
  cases findF l name with
  |none=>exact .aM (.cons (.agg (.cons (.s _) (.cons (.s _) (.cons (.s _) (.cons (.s _) (.cons .z (.cons .z (.cons .z (.cons .z .nil))))))))) (.cons (.s _) .nil))
  |some g=>exact .aM (.cons (.agg (kL g)) (.cons (.s _) .nil))
 refine bj ajU (.cons (iU _) (.cons (.s _) .nil)) C ?_;rw[ajV];refine aw ?_;refine eM (Hs (d:=.s (.string _)) rfl rfl) ak rfl ?_;refine ab ?_;refine aa ⟨_,rG (i:=0) (cs:=[S name]) (e:=9) rfl (l:=[(0,ba l),(3,.pt [S name]),(4,.rp 1 0)]) eH (ml:=[(1,.cells j0 48)]) eH,ag ?_⟩;refine ab ?_;refine cl zw ?_;refine SS ?_;refine aa (az (ag ?_));rcases Za l name with⟨hn,hf⟩|⟨i,g,hn,hg,hf⟩
 .rw[hn,hf];refine ab ?_;refine aa (wX (az (ag ?_)));refine ay ?_;exact aa (dG (nN (iq rfl rfl Aj pA rfl t48 oC) rfl rfl))
 .rw[hn,hf];have af:=(bI.1 hg).1;refine ab ?_;refine aa (cA rfl (fun h=>?_) fun _=>cm (ag ?_))
  .simp at h;omega
  refine cz ?_;exact aa (nN (iq rfl rfl Aj pA rfl t48 (aZ 8)) rfl rfl)
theorem Td{m:Mem}{nx j sz:Nat}{r:Row}{cs:List D}(hj:j≠nx)(h1:m j=some r)(hr:Row.sub (cM nx cs sz) r=r):(fun j=>if j=nx then none else(m j).map (Row.sub (cM nx cs sz))) j=some r:=by
 show(if j=nx then none else(m j).map _)=_;rw[if_neg hj,h1];exact congrArg some hr
theorem qU{c:ai}{l:List ai}{r:Int}(hl:l.length<=1000000)(dt:c.blocks.length<=1000000):aB prog 100 [.agg (a7 dE dE c),ba l,I r] (D6 (vD c l r)):=by
 have M:∀ a∈[D.agg (a7 dE dE c),ba l,I r],Tr a:=.cons (kP (.s _) (.s _) c) (.cons (iU l) (.cons (.s _) .nil));have p9:∀ {name:ByteArray},aB prog 74 [ba l,S name] (D6 (findF l name)):=fun {name}=>p9 hl;refine bj agM M (acD _) ?_;rw[agN];refine aw ?_;refine ay ?_;refine aa ⟨_,rG (i:=0) (cs:=a7 dE dE c) (e:=113) rfl (l:=[(1,ba l),(2,I r),(3,.pt (a7 dE dE c)),(6,.rp 1 0)]) eH (ml:=[(1,.cells j0 48)]) eH,az (aw ?_)⟩;refine bw ?_
 refine aa (bZ (fun s=>(∃ nx,2<=nx/\aH prog s ⟨ax [(6,.rp 1 0)],br [(1,.cells j0 48)],nx⟩)/\∀ (j:Nat) y,c.blocks[j]? =some y->n9 r y=false) (cH (α:=Nat×Nat) (fun s=>⟨ax [(1,ba l),(2,I r),(6,.rp 1 0),(12,cG c.blocks),(13,I c.blocks.length),(14,I s.1)],br [(1,.cells j0 48)],s.2⟩)
  (fun s=>s.1<=c.blocks.length/\2<=s.2/\∀ j y,j<s.1->c.blocks[j]? =some y->n9 r y=false) (fun s=>c.blocks.length - s.1) (0,2) (au eH) ⟨Nat.zero_le _,aZ _,fun j y hj=>by omega⟩ ?_) ?_)
 .rintro⟨k,nx⟩ ⟨hk,C,hinv⟩;dsimp only at hk C hinv ⊢;refine SS ?_;refine aa ⟨_,rfl,fun h=>?_,fun h=>?_⟩
  .have af:k<c.blocks.length:=by simpa using h
   obtain⟨b,hb⟩:∃ b,c.blocks[k]? =some b:=⟨_,aL af⟩
   refine aw ?_;refine aY ?_;refine aa ⟨_,rG (i:=nx) (cs:=bU b) (e:=59) (aj _ _ _) (l:=[(1,ba l),(2,I r),(6,.rp 1 0),(12,cG c.blocks),(13,I c.blocks.length),(14,I k),(9,.pt (bU b))]) ⟨rfl,rfl,gE oG,rfl,rfl,rfl,mq,trivial⟩ (ml:=[(1,.cells j0 48)]) ⟨Td oG (ah oG (ah oG rfl)) rfl,trivial⟩,ag ?_⟩;have J:n9 r b=(decide (b.fin.kind=7)&&decide (b.fin.a=r)):=rfl;refine bh ?_;refine ab ?_;refine aa (aQ rfl (fun hp=>?_) fun hp=>?_)
   .have hf:vD c l r=findF l b.fin.name:=by
     unfold vD
     have:c.blocks.find? (n9 r)=some b:=by
      rw[List.find?_eq_some_iff_getElem];refine⟨by rw[J];simpa using hp,k,af,(bI.1 hb).2,fun j hj=>?_⟩;have:=hinv j c.blocks[j] hj (aL oG);simp[this]
     rw[this]
    rw[hf];have p9:= @p9 b.fin.name;generalize findF l b.fin.name=o at p9;cases o with
    |none=>
     refine ws ?_;refine aY ?_;refine cl p9 ?_;refine aY ?_;refine aa (bG (bY (bA (nN (iq rfl rfl Aj pA rfl t48 (aZ 8)) rfl rfl))))
    |some g=>
     refine ws ?_;refine aY ?_;refine cl p9 ?_;refine aY ?_;refine aa (bG (bY (bA (nN (iq rfl rfl Aj pA rfl t48 (aZ 8)) rfl rfl))))
   .refine cP ?_;refine ab ?_;refine aa (bf (k+1,nx+1) (au eH) ⟨oM,oM,fun j y hj hy=>?_⟩ oM);by_cases e:j=k
    .subst e;rw[hb] at hy;cases hy;rw[J];simpa using hp
    .exact hinv j y (by dsimp only at hj;omega) hy
  .have X:¬ k<c.blocks.length:=by simpa using h
   exact⟨⟨nx,C,au eH⟩,fun j y hy=>hinv j y (by have:=(bI.1 hy).1;omega) hy⟩
 .rintro s ⟨⟨nx,C,hg⟩,U⟩
  have hf:vD c l r=none:=by
   unfold vD
   have:c.blocks.find? (n9 r)=none:=by
    rw[List.find?_eq_none];intro y hy;obtain⟨j,hj⟩:=dN hy;simp[U j y hj]
   rw[this]
  rw[hf];refine⟨_,hg,ag ?_⟩;refine ay ?_;exact aa (nN (iq rfl rfl Aj pA rfl t48 (aZ 8)) rfl rfl)
theorem I8{c:ai}{l:List ai}(hc:Lk c l):aB prog 64 [.agg (a7 dE dE c),ba l] (B (uV c l)):=by
 have bg:∀ a∈[D.agg (a7 dE dE c),ba l],Tr a:=.cons (kP (.s _) (.s _) c) (.cons (iU l) .nil);have hl:=hc.len;have dt:=hc.Ni;refine bj ajY bg (.s _) ?_;rw[ajZ];refine aw ?_;refine ab ?_;refine aa (bH (dA [(0,a7 dE dE c,113)] eH (l:=[(1,ba l),(2,.pt (a7 dE dE c))]) eH) (az (aw ?_)));refine bw ?_
 refine aa (bZ (fun s=>∃ nx,aH prog s ⟨ax [],fun _=>none,nx⟩/\∀ (j:Nat) y,c.blocks[j]? =some y->jg c l y=true) (cH (α:=Nat×Nat) (fun s=>⟨ax [(1,ba l),(2,.pt (a7 dE dE c)),(14,cG c.blocks),(15,I c.blocks.length),(16,I s.1)],fun _=>none,s.2⟩)
  (fun s=>s.1<=c.blocks.length/\∀ j y,j<s.1->c.blocks[j]? =some y->jg c l y=true) (fun s=>c.blocks.length - s.1) (0,1) (au eH) ⟨Nat.zero_le _,fun j y hj=>by omega⟩ ?_) ?_)
 .rintro⟨k,nx⟩ ⟨hk,hinv⟩;dsimp only at hk hinv ⊢;refine SS ?_;refine aa ⟨_,rfl,fun h=>?_,fun h=>?_⟩
  .have af:k<c.blocks.length:=by simpa using h
   clear h;obtain⟨b,hb⟩:∃ b,c.blocks[k]? =some b:=⟨_,aL af⟩
   have jH:=bu hb;have gD:=hc.args b jH;have hcA:=hc.a b jH;have VL:=hc.b b jH;have C:jg c l b=if b.fin.kind=6 then wY c l b.fin else if b.fin.kind=7 then wZ c l b.fin else if b.fin.kind=8 then vm c l b.fin else true:=rfl
   have gO:jg c l b=false->uV c l=false:=fun h=>by
    unfold uV;rw[List.all_eq_false];exact⟨b,jH,by simp[h]⟩
   have nv:jg c l b=true->∀ j y,j<k+1->c.blocks[j]? =some y->jg c l y=true:=fun h j y hj hy=>by
    by_cases e:j=k
    .subst e;rw[hb] at hy;cases hy;exact h
    .exact hinv j y oG hy
   refine aw ?_;refine aY ?_;refine aa ⟨_,eX (i:=nx) (cs:=bU b) (e:=59) (aj _ _ _) (l:=[(1,ba l),(2,.pt (a7 dE dE c)),(14,cG c.blocks),(15,I c.blocks.length),(16,I k),(6,.pt (bU b))]) ⟨rfl,rfl,rfl,rfl,rfl,mq,trivial⟩,aw ?_⟩;refine aY ?_;refine aa ⟨_,eX (i:=nx+1) (cs:=bC b.fin) (e:=57) (aj _ _ _) (l:=[(1,ba l),(2,.pt (a7 dE dE c)),(14,cG c.blocks),(15,I c.blocks.length),(16,I k),(7,.pt (bC b.fin))]) ⟨rfl,rfl,rfl,rfl,rfl,mq,trivial⟩,aw ?_⟩;generalize b.fin=x at*
   have p9:=p9 (l:=l) (name:=x.name) hl;cases ho:findF l x.name with
   |none=>
    rw[ho] at p9;refine ay ?_;refine cl p9 ?_;refine cz ?_;refine aa ⟨_,eX (i:=nx+1+1) (cs:=j0) (e:=48) (aj _ _ _) (l:=[(1,ba l),(2,.pt (a7 dE dE c)),(14,cG c.blocks),(15,I c.blocks.length),(16,I k),(7,.pt (bC x)),(8,.pt j0),(9,B false)]) ⟨rfl,rfl,rfl,rfl,rfl,rfl,mq,rfl,trivial⟩,ag ?_⟩;refine ab ?_;refine aa (qk (ag ?_));refine ab ?_;refine aa (aQ rfl (fun J=>?_) fun J=>?_)
    .have J:x.kind=6:=by simpa using J
     rw[if_pos J] at C;have Ak:wY c l x=false:=by unfold wY;rw[ho]
     rw[gO (C.trans Ak)];refine dV KN ?_;refine du ?_;refine z fun _ _=>?_;refine ab ?_;(iterate 2 refine z fun _ _=>?_);refine bh ?_;refine ab ?_;(iterate 2 refine z fun _ _=>?_);refine ab ?_;(iterate 2 refine z fun _ _=>?_);refine SS ?_;refine cq cx (UK (ag ?_));refine SS ?_;exact aa (bG (eE (bY (bA (aD rfl rfl)))))
    .have J:¬ x.kind=6:=by simpa using J
     rw[if_neg J] at C;refine ws ?_;refine ab ?_;refine aa (aQ rfl (fun U=>?_) fun U=>?_)
     .have U:x.kind=7:=by simpa using U
      rw[if_pos U] at C;have xM:wZ c l x=false:=by unfold wZ;rw[ho]
      rw[gO (C.trans xM)];refine ws ?_;refine bh ?_;refine z fun _ _=>?_;refine ab ?_;(iterate 2 refine z fun _ _=>?_);refine SS ?_;refine aa (UK (ag ?_));refine SS ?_;exact aa (bG (eE (bY (bA (aD rfl rfl)))))
     have U:¬ x.kind=7:=by simpa using U
     rw[if_neg U] at C;refine ws ?_;refine ab ?_;refine aa (aQ rfl (fun X=>?_) fun X=>?_)
     .have X:x.kind=8:=by simpa using X
      rw[if_pos X] at C;obtain⟨N5,Ol⟩:=VL X;have qU:=qU (c:=c) (l:=l) (r:=x.a) hl dt;cases oQ:vD c l x.a with
      |none=>
       rw[oQ] at qU;have M:jg c l b=true:=by rw[C];unfold vm;rw[oQ]
       refine aw ?_;refine aY ?_;refine cl qU ?_;refine cz ?_;refine aa ⟨_,eX (i:=nx+1+1+1) (cs:=j0) (e:=48) (aj _ _ _) (l:=[(1,ba l),(2,.pt (a7 dE dE c)),(14,cG c.blocks),(15,I c.blocks.length),(16,I k),(7,.pt (bC x)),(10,.pt j0),(11,B false)]) ⟨rfl,rfl,rfl,rfl,rfl,rfl,mq,rfl,trivial⟩,dV Ga ?_⟩;refine ik ?_;(iterate 2 refine z fun _ _=>?_);refine ab ?_;refine z fun _ _=>?_;refine SS ?_;refine cq cx (H' (cP ?_));show aq prog c8 (Z dR 17) false [] _ (Z dR 17).toList _ [];refine ab ?_;refine aa (bf (k+1,_) (au eH) ⟨oM,nv M⟩ oM)
      |some g'=>
       rw[oQ] at qU;have qb:vm c l x= !(o5 c.aO x.b !=g'.result):=by unfold vm;rw[oQ]
       obtain⟨bn,Fk⟩:∃ bn:Nat,x.b=bn:=⟨x.b.toNat,oG⟩
       obtain⟨u,hu⟩:∃ u,c.aO[bn]? =some u:=⟨_,aL oG⟩
       obtain⟨kd,a,bb,to,fY,nm,ins,args,aP,Al⟩:=x;dsimp only at*
       subst Fk;have Fl:o5 c.aO (bn:Int)=u:=by simp[o5,dF,hu]
       refine aw ?_;refine aY ?_;refine cl qU ?_;refine cz ?_;refine aa ⟨_,eX (i:=nx+1+1+1) (cs:=aR g') (e:=48) (aj _ _ _) (l:=[(1,ba l),(2,.pt (a7 dE dE c)),(14,cG c.blocks),(15,I c.blocks.length),(16,I k),(7,.pt (bC ⟨kd,a,(bn:Int),to,fY,nm,ins,args,aP,Al⟩)),(10,.pt (aR g')),(11,B true)]) ⟨rfl,rfl,rfl,rfl,rfl,rfl,mq,rfl,trivial⟩,dV Ga ?_⟩;refine bh ?_;refine aY ?_;refine cq cx (aQ rfl (fun hp=>ag ?_) fun hp=>cP ?_)
       .have ke:jg c l b=false:=by
         rw[C,qb,Fl];simpa using hp
        rw[gO ke];refine SS ?_;exact aa (bG (eE (bY (bA (aD rfl rfl)))))
       .have M:jg c l b=true:=by
         rw[C,qb,Fl];simpa using hp
        show aq prog c8 (Z dR 17) false [] _ (Z dR 17).toList _ [];refine ab ?_;refine aa (bf (k+1,_) (au eH) ⟨oM,nv M⟩ oM)
     .have X:¬ x.kind=8:=by simpa using X
      have M:jg c l b=true:=by rw[C,if_neg X]
      refine cP ?_;show aq prog c8 (Z dR 17) false [] _ (Z dR 17).toList _ [];refine ab ?_;refine aa (bf (k+1,_) (au eH) ⟨oM,nv M⟩ oM)
   |some g=>
    rw[ho] at p9;have W7:=aaT ho;refine ay ?_;refine cl p9 ?_;refine cz ?_;refine aa ⟨_,eX (i:=nx+1+1) (cs:=(aR g)) (e:=48) (aj _ _ _) (l:=[(1,ba l),(2,.pt (a7 dE dE c)),(14,cG c.blocks),(15,I c.blocks.length),(16,I k),(7,.pt (bC x)),(8,.pt (aR g)),(9,B true)]) ⟨rfl,rfl,rfl,rfl,rfl,rfl,mq,rfl,trivial⟩,ag ?_⟩;refine ab ?_;refine aa (qk (ag ?_));refine ab ?_;refine aa (aQ rfl (fun J=>?_) fun J=>?_)
    .have J:x.kind=6:=by simpa using J
     rw[if_pos J] at C;have Ak:wY c l x=(!g.iter&&(nZ c g x.args&& !(decide (0<=x.a)&&(o5 c.aO x.a !=g.result)))):=by unfold wY;rw[ho]
     have wc:=wc (c:=c) (g:=g) (args:=x.args) (gD (.inl J)).1 (hc.fl g W7) (gD (.inl J)).2;generalize nZ c g x.args=fb at wc Ak;by_cases ha:0<=x.a
     .have Am:=hcA J;obtain⟨an,Oq⟩:∃ an:Nat,x.a=an:=⟨x.a.toNat,oG⟩
      obtain⟨u,hu⟩:∃ u,c.aO[an]? =some u:=⟨_,aL oG⟩
      obtain⟨kd,a,bb,to,fY,nm,ins,args,aP,Al⟩:=x;dsimp only at*
      subst Oq;have vA:decide ((0:Int)<=(an:Int))=true:=by simpa using ha
      refine dV KN ?_;refine bh ?_;refine ab ?_;refine gc wc ?_;refine bw ?_;refine bc rfl rfl (Bn rfl rfl vA) (fun hc=>⟨ak,rfl⟩) ?_;refine bh ?_;refine aY ?_;refine cq cx (aQ rfl (fun hp=>ag ?_) fun hp=>cP ?_)
      .have ke:jg c l b=false:=by
        rw[C,Ak];revert hp;cases g.iter<;>cases fb<;>simp[o5,dF,hu]
       rw[gO ke];refine SS ?_;exact aa (bG (eE (bY (bA (aD rfl rfl)))))
      .have M:jg c l b=true:=by
        rw[C,Ak];revert hp;cases g.iter<;>cases fb<;>simp[o5,dF,hu]
       show aq prog c8 (Z dR 17) false [] _ (Z dR 17).toList _ [];refine ab ?_;refine aa (bf (k+1,_) (au eH) ⟨oM,nv M⟩ oM)
     .have vA:decide (0<=x.a)=false:=by simpa using ha
      refine dV KN ?_;refine bh ?_;refine ab ?_;refine gc wc ?_;refine bw ?_;refine bc rfl rfl (Bn rfl rfl vA) (fun hc=>⟨ak,rfl⟩) ?_;refine SS ?_;refine jC rfl (congrArg some (Bool.and_false _)) fun _ _=>?_;refine jC rfl (congrArg some (Bool.and_false _)) fun _ _=>?_;refine jC rfl (congrArg some (Bool.and_false _)) fun _ _=>?_;refine jC rfl (congrArg some (Bool.and_false _)) fun _ _=>?_;refine jC rfl (congrArg some (Bool.and_false _)) fun _ _=>?_;refine jC rfl (congrArg some (Bool.and_false _)) fun _ _=>?_;refine jC rfl (congrArg some (Bool.and_false _)) fun _ _=>?_;refine jC rfl (congrArg some (Bool.and_false _)) fun _ _=>?_;refine jC rfl (congrArg some (Bool.and_false _)) fun _ _=>?_;refine jC rfl (congrArg some (Bool.and_false _)) fun _ _=>?_;refine ab ?_;refine cq cx (aQ rfl (fun hp=>ag ?_) fun hp=>cP ?_)
      .have ke:jg c l b=false:=by
        rw[C,Ak];revert hp;cases g.iter<;>cases fb<;>simp[ha]
       rw[gO ke];refine SS ?_;exact aa (bG (eE (bY (bA (aD rfl rfl)))))
      .have M:jg c l b=true:=by
        rw[C,Ak];revert hp;cases g.iter<;>cases fb<;>simp[ha]
       show aq prog c8 (Z dR 17) false [] _ (Z dR 17).toList _ [];refine ab ?_;refine aa (bf (k+1,_) (au eH) ⟨oM,nv M⟩ oM)
    .have J:¬ x.kind=6:=by simpa using J
     rw[if_neg J] at C;refine ws ?_;refine ab ?_;refine aa (aQ rfl (fun U=>?_) fun U=>?_)
     .have U:x.kind=7:=by simpa using U
      rw[if_pos U] at C;have xM:wZ c l x=(g.iter&&nZ c g x.args):=by unfold wZ;rw[ho]
      have wc:=wc (c:=c) (g:=g) (args:=x.args) (gD (.inr U)).1 (hc.fl g W7) (gD (.inr U)).2;generalize nZ c g x.args=fb at wc xM;refine ws ?_;refine bh ?_;refine ay ?_;refine gc wc ?_;refine ab ?_;refine aa (aQ rfl (fun hp=>ag ?_) fun hp=>cP ?_)
      .have ke:jg c l b=false:=by
        rw[C,xM];revert hp;cases g.iter<;>cases fb<;>simp
       rw[gO ke];refine SS ?_;exact aa (bG (eE (bY (bA (aD rfl rfl)))))
      .have M:jg c l b=true:=by
        rw[C,xM];revert hp;cases g.iter<;>cases fb<;>simp
       show aq prog c8 (Z dR 17) false [] _ (Z dR 17).toList _ [];refine ab ?_;refine aa (bf (k+1,_) (au eH) ⟨oM,nv M⟩ oM)
     have U:¬ x.kind=7:=by simpa using U
     rw[if_neg U] at C;refine ws ?_;refine ab ?_;refine aa (aQ rfl (fun X=>?_) fun X=>?_)
     .have X:x.kind=8:=by simpa using X
      rw[if_pos X] at C;obtain⟨N5,Ol⟩:=VL X;have qU:=qU (c:=c) (l:=l) (r:=x.a) hl dt;cases oQ:vD c l x.a with
      |none=>
       rw[oQ] at qU;have M:jg c l b=true:=by rw[C];unfold vm;rw[oQ]
       refine aw ?_;refine aY ?_;refine cl qU ?_;refine cz ?_;refine aa ⟨_,eX (i:=nx+1+1+1) (cs:=j0) (e:=48) (aj _ _ _) (l:=[(1,ba l),(2,.pt (a7 dE dE c)),(14,cG c.blocks),(15,I c.blocks.length),(16,I k),(7,.pt (bC x)),(10,.pt j0),(11,B false)]) ⟨rfl,rfl,rfl,rfl,rfl,rfl,mq,rfl,trivial⟩,dV Ga ?_⟩;refine ik ?_;(iterate 2 refine z fun _ _=>?_);refine ab ?_;refine z fun _ _=>?_;refine SS ?_;refine cq cx (H' (cP ?_));show aq prog c8 (Z dR 17) false [] _ (Z dR 17).toList _ [];refine ab ?_;refine aa (bf (k+1,_) (au eH) ⟨oM,nv M⟩ oM)
      |some g'=>
       rw[oQ] at qU;have qb:vm c l x= !(o5 c.aO x.b !=g'.result):=by unfold vm;rw[oQ]
       obtain⟨bn,Fk⟩:∃ bn:Nat,x.b=bn:=⟨x.b.toNat,oG⟩
       obtain⟨u,hu⟩:∃ u,c.aO[bn]? =some u:=⟨_,aL oG⟩
       obtain⟨kd,a,bb,to,fY,nm,ins,args,aP,Al⟩:=x;dsimp only at*
       subst Fk;have Fl:o5 c.aO (bn:Int)=u:=by simp[o5,dF,hu]
       refine aw ?_;refine aY ?_;refine cl qU ?_;refine cz ?_;refine aa ⟨_,eX (i:=nx+1+1+1) (cs:=aR g') (e:=48) (aj _ _ _) (l:=[(1,ba l),(2,.pt (a7 dE dE c)),(14,cG c.blocks),(15,I c.blocks.length),(16,I k),(7,.pt (bC ⟨kd,a,(bn:Int),to,fY,nm,ins,args,aP,Al⟩)),(10,.pt (aR g')),(11,B true)]) ⟨rfl,rfl,rfl,rfl,rfl,rfl,mq,rfl,trivial⟩,dV Ga ?_⟩;refine bh ?_;refine aY ?_;refine cq cx (aQ rfl (fun hp=>ag ?_) fun hp=>cP ?_)
       .have ke:jg c l b=false:=by
         rw[C,qb,Fl];simpa using hp
        rw[gO ke];refine SS ?_;exact aa (bG (eE (bY (bA (aD rfl rfl)))))
       .have M:jg c l b=true:=by
         rw[C,qb,Fl];simpa using hp
        show aq prog c8 (Z dR 17) false [] _ (Z dR 17).toList _ [];refine ab ?_;refine aa (bf (k+1,_) (au eH) ⟨oM,nv M⟩ oM)
     .have X:¬ x.kind=8:=by simpa using X
      have M:jg c l b=true:=by rw[C,if_neg X]
      refine cP ?_;show aq prog c8 (Z dR 17) false [] _ (Z dR 17).toList _ [];refine ab ?_;refine aa (bf (k+1,_) (au eH) ⟨oM,nv M⟩ oM)
  .have bm:¬ k<c.blocks.length:=by simpa using h
   exact⟨nx,au trivial,fun j y hy=>hinv j y (by have:=(bI.1 hy).1;omega) hy⟩
 .rintro s ⟨nx,hg,bx⟩
  have hf:uV c l=true:=by
   unfold uV;rw[bS];intro y hy;obtain⟨j,hj⟩:=dN hy;exact bx j y hj
  rw[hf];refine⟨_,hg,ag ?_⟩;refine SS ?_;exact aa (aD rfl rfl)
theorem xN{l:List ai}(hc:(∀ f∈l,ep f=0)->∀ f∈l,Lk f l)(hlen:l.length<=1000000):aB prog 30 [ba l] (.aM [I (dh l).1,I (dh l).2]):=by
 refine bj aj0 (.cons (iU l) .nil) (.aM (.cons (.s _) (.cons (.s _) .nil))) ?_;rw[aj1];refine ws ?_;refine ab ?_;refine aa (az (ag ?_));refine ay ?_;refine aa (cA rfl (fun h=>az (ag ?_)) fun h=>cm (az (aw ?_)))
 .have h:60<l.length:=by
   have:(60:Int)<l.length:=by simpa using h
   omega
  have he:dh l=(0,2):=by unfold dh;rw[if_pos h]
  rw[he];refine ab ?_;exact aa (dG (gG rfl rfl rfl))
 have xO:¬ 60<l.length:=by
  have:¬ (60:Int)<l.length:=by simpa using h
  omega
 clear h;refine ay ?_
 refine aa (bZ (fun s=>(∃ nx,aH prog s ⟨ax [(0,ba l)],fun _=>none,nx⟩)/\∀ j,j<l.length->ky l j=0) (cH (α:=Nat×Nat) (fun s=>⟨ax [(0,ba l),(12,ba l),(13,I l.length),(14,I s.1)],fun _=>none,s.2⟩)
  (fun s=>s.1<=l.length/\∀ j,j<s.1->ky l j=0) (fun s=>l.length - s.1) (0,0) (au eH) ⟨Nat.zero_le _,fun j hj=>by omega⟩ ?_) ?_)
 .rintro⟨k,nx⟩ ⟨hk,hinv⟩;dsimp only at hk hinv ⊢;refine SS ?_;refine aa ⟨_,rfl,fun h=>?_,fun h=>?_⟩
  .have af:k<l.length:=by simpa using h
   clear h;obtain⟨f,hf⟩:∃ f,l[k]? =some f:=⟨_,aL af⟩
   have rr:=rr (f:=f);have C:ky l k=if ep f=0 then(if decide (0<k)&&zx (oU l (k - 1)) f.name then 1 else 0) else ep f:=by unfold ky;rw[hf]
   have tN:ky l k≠0->dh l=(↑k,ky l k):=fun h=>by
    unfold dh;rw[if_neg xO,Ql af (by simpa using h) fun j hj=>by simp[hinv j hj]]
   refine aw ?_;refine cz ?_;refine aa ⟨_,eX (i:=nx) (cs:=aR f) (e:=48) (aj _ _ _) (l:=[(0,ba l),(12,ba l),(13,I l.length),(14,I k),(4,I k),(5,.pt (aR f))]) ⟨rfl,rfl,rfl,rfl,rfl,mq,trivial⟩,az (ag ?_)⟩;generalize ep f=e at rr C;refine SS ?_;refine cl rr ?_;refine SS ?_;refine aa (az (ag ?_));refine ab ?_;refine aa (cA rfl (fun h=>az (ag ?_)) fun h=>cm (dV acF ?_))
   .have h:e≠0:=by simpa using h
    rw[if_neg h] at C;rw[tN (by rw[C];exact h),C];refine aY ?_;exact aa (dG (bY (bA (gG rfl rfl rfl))))
   have h:e=0:=by simpa using h
   rw[if_pos h] at C;clear h rr
   have nv:ky l k=0->∀ j,j<k+1->ky l j=0:=fun h j hj=>by
    by_cases e:j=k
    .subst e;exact h
    .exact hinv j oG
   cases k with
   |zero=>
    have hz:ky l 0=0:=by rw[C];simp
    refine bw ?_;refine bc rfl rfl (Md rfl rfl oG) (fun hc=>⟨ak,rfl⟩) ?_
    (iterate 3 refine z fun _ _=>?_);refine ab ?_;refine z fun _ _=>?_;refine SS ?_
    refine cq cx (H' (cP ?_));refine ab ?_;exact aa (bf (0+1,_) (au eH) ⟨oM,nv hz⟩ oM)
   |succ k'=>
    obtain⟨U,X⟩:∃ U,l[k']? =some U:=⟨_,aL oG⟩
    have Oq:oU l (k'+1 - 1)=U.name:=by unfold oU;rw[Nat.add_sub_cancel,X]
    rw[Oq] at C;have xj:(((k'+1:Nat):Int) - 1=(k':Int))/\ -9223372036854775808<=(k':Int)/\(k':Int)<=9223372036854775807:=by omega
    have vy:decide ((0:Int)<((k'+1:Nat):Int))=true:=by simp
    refine cz ?_;refine bc rfl rfl (rX rfl rfl V.h V.h (sU) oN) (fun hc=>⟨ak,(rY V.h (sU) oN)⟩) ?_;refine aY ?_;refine bc rfl rfl (TP rfl rfl) (fun hc=>⟨ak,trivial⟩) ?_;refine SS ?_;refine cq cx (aQ rfl (fun hp=>ag ?_) fun hp=>cP ?_)
    .have h1:ky l (k'+1)=1:=by
      rw[C,if_pos];simpa[zx] using hp
     rw[tN (by rw[h1];decide),h1];refine ay ?_;exact aa (bG (bY (bA (gG rfl rfl rfl))))
    .have hz:ky l (k'+1)=0:=by
      rw[C,if_neg];simpa[zx] using hp
     refine ab ?_;exact aa (bf (k'+1+1,_) (au eH) ⟨oM,nv hz⟩ oM)
  .have bm:¬ k<l.length:=by simpa using h
   exact⟨⟨nx,au eH⟩,fun j hj=>hinv j oG⟩
 .rintro s ⟨⟨nx,hg⟩,bx⟩
  have kK:∀ f∈l,ep f=0:=fun f hf=>by
   obtain⟨j,hj⟩:=dN hf;have cZ:=(bI.1 hj).1;have h1:=bx j cZ;unfold ky at h1;rw[hj] at h1;dsimp only at h1;by_cases h2:ep f=0
   .exact h2
   .rw[if_neg h2] at h1;exact absurd h1 h2
  have hc:=hc kK;have py:(range l.length).find? (fun i=>ky l i !=0)=none:=F1 fun j hj=>by simp[bx j hj]
  refine⟨_,hg,az (aw ?_)⟩;clear hg;refine ay ?_
  refine aa (bZ (fun s=>(∃ nx,aH prog s ⟨ax [],fun _=>none,nx⟩)/\∀ j,j<l.length->s5 l j=false) (cH (α:=Nat×Nat) (fun s=>⟨ax [(0,ba l),(40,ba l),(41,I l.length),(42,I s.1)],fun _=>none,s.2⟩)
   (fun s=>s.1<=l.length/\∀ j,j<s.1->s5 l j=false) (fun s=>l.length - s.1) (0,nx) (au eH) ⟨Nat.zero_le _,fun j hj=>by omega⟩ ?_) ?_)
  .rintro⟨k,nx⟩ ⟨hk,hinv⟩;dsimp only at hk hinv ⊢;refine SS ?_;refine aa ⟨_,rfl,fun h=>?_,fun h=>?_⟩
   .have af:k<l.length:=by simpa using h
    clear h;obtain⟨f,hf⟩:∃ f,l[k]? =some f:=⟨_,aL af⟩
    have I8:=I8 (hc f (bu hf));have J:s5 l k= !uV f l:=by unfold s5;rw[hf]
    refine aw ?_;refine cz ?_;refine aa ⟨_,eX (i:=nx) (cs:=aR f) (e:=48) (aj _ _ _) (l:=[(0,ba l),(40,ba l),(41,I l.length),(42,I k),(7,I k),(8,.pt (aR f))]) ⟨rfl,rfl,rfl,rfl,rfl,mq,trivial⟩,ag ?_⟩;generalize uV f l=cb at I8 J;refine ay ?_;refine cl I8 ?_;refine SS ?_;refine aa (aQ rfl (fun hp=>ag ?_) fun hp=>cP ?_)
    .have J:s5 l k=true:=by rw[J];simpa using hp
     have hr:dh l=(↑k,82):=by
      unfold dh;rw[if_neg xO,py,Ql af J hinv]
     rw[hr];refine ay ?_;exact aa (bG (bY (bA (gG rfl rfl rfl))))
    .have J:s5 l k=false:=by rw[J];simpa using hp
     refine ab ?_;refine aa (bf (k+1,_) (au eH) ⟨oM,fun j hj=>?_⟩ oM);by_cases e:j=k
     .subst e;exact J
     .exact hinv j (by dsimp only at hj;omega)
   .have bm:¬ k<l.length:=by simpa using h
    exact⟨⟨nx,au trivial⟩,fun j hj=>hinv j oG⟩
  .rintro s ⟨⟨nx,hg⟩,M⟩
   have hr:dh l=(0,0):=by
    unfold dh;rw[if_neg xO,py,F1 M]
   rw[hr];refine⟨_,hg,ag ?_⟩;refine ab ?_;exact aa (gG rfl rfl rfl)
end Go.Proofs.Tryz.K
end
namespace Go.Argus
abbrev W8:=List UInt8
def mH:List W8->W8
 |[]=>[]
 |[w]=>w
 |w::v::l=>w++32::mH (v::l)
def zj(wsq:List W8):W8:=mH wsq++[10]
def zk(C:List (List W8)):W8:=C.flatMap zj
def yU(w:W8):Prop:=(32:UInt8)∉w/\(10:UInt8)∉w
theorem L2{α:Type}{c:α}:∀ {x y s t:List α},c∉x->c∉y->x++c::s=y++c::t->x=y/\s=t
 |[],[],s,t,_,_,h=>⟨rfl,by simpa using h⟩
 |[],b::y,s,t,_,hy,h=>by
  simp only[List.nil_append,List.cons_append,List.cons.injEq] at h;exact absurd (by rw[h.1];exact List.mem_cons_self) hy
 |a::x,[],s,t,hx,_,h=>by
  simp only[List.nil_append,List.cons_append,List.cons.injEq] at h;exact absurd (by rw[<- h.1];exact List.mem_cons_self) hx
 |a::x,b::y,s,t,hx,hy,h=>by
  simp only[List.cons_append,List.cons.injEq] at h;obtain⟨h1,h2⟩:=L2 (fun h=>hx (List.mem_cons_of_mem _ h)) (fun h=>hy (List.mem_cons_of_mem _ h)) h.2;exact⟨by rw[h.1,h1],h2⟩
theorem KU:∀ {a:List W8},(∀ w∈a,yU w)->(10:UInt8)∉mH a
 |[],_=>by simp[mH]
 |[w],h=>(h w oS).2
 |w::v::l,h=>by
  have ih:=KU (a:=v::l) fun u hu=>h u (List.mem_cons_of_mem _ hu);simp only[mH,List.mem_append,List.mem_cons,not_or];exact⟨(h w oS).2,oC,ih⟩
theorem Rt:∀ {a b:List W8},a≠[]->b≠[]->(∀ w∈a,yU w)->(∀ w∈b,yU w)->mH a=mH b->a=b
 |[],_,h,_,_,_,_=>absurd rfl h
 |_::_,[],_,h,_,_,_=>absurd rfl h
 |[w],[v],_,_,_,_,h=>by simpa[mH] using h
 |[w],v::u::l,_,_,ha,_,h=>by
  have h1:=(ha w oS).1;simp only[mH] at h;exact absurd (by rw[h];simp) h1
 |w::u::l,[v],_,_,_,hb,h=>by
  have h1:=(hb v oS).1;simp only[mH] at h;exact absurd (by rw[<- h];simp) h1
 |w::u::l,v::x::m,_,_,ha,hb,h=>by
  simp only[mH] at h;obtain⟨h1,h2⟩:=L2 (ha w oS).1 (hb v oS).1 h;have ih:=Rt (a:=u::l) (b:=x::m) oS oS (fun y hy=>ha y (List.mem_cons_of_mem _ hy)) (fun y hy=>hb y (List.mem_cons_of_mem _ hy)) h2;rw[h1,ih]
def Lz(C:List (List W8)):Prop:=∀ l∈C,l≠[]/\∀ w∈l,yU w
theorem Ru:∀ {a b:List (List W8)},Lz a->Lz b->zk a=zk b->a=b
 |[],[],_,_,_=>rfl
 |[],y::b,_,_,h=>by simp[zk,zj] at h
 |x::a,[],_,_,h=>by simp[zk,zj] at h
 |x::a,y::b,ha,hb,h=>by
  simp only[zk,List.flatMap_cons,zj,List.append_assoc,List.cons_append,List.nil_append] at h;have hx:=ha x oS;have hy:=hb y oS;obtain⟨h1,h2⟩:=L2 (KU hx.2) (KU hy.2) h;have e:=Rt hx.1 hy.1 hx.2 hy.2 h1;have ih:=Ru (fun l hl=>ha l (List.mem_cons_of_mem _ hl)) (fun l hl=>hb l (List.mem_cons_of_mem _ hl)) h2;rw[e,ih]
end Go.Argus
namespace Go.Argus
open Go
theorem Ku:∀ (u:Nat),∀ c∈Lib.decDigits u,48<=c.toNat/\c.toNat<=57:=fun u=>by
 induction u using Nat.strongRecOn with
 |_ u ih=>
  intro c hc;rw[Lib.decDigits] at hc;split at hc
  .simp only[List.mem_cons,List.not_mem_nil,or_false] at hc;subst hc;rw[UInt8.toNat_ofNat_of_lt' (by simp[UInt8.size];omega)];omega
  .rw[List.mem_append] at hc;rcases hc with hc|hc
   .exact ih (u / 10) oG c hc
   .simp only[List.mem_cons,List.not_mem_nil,or_false] at hc;subst hc;rw[UInt8.toNat_ofNat_of_lt' (by simp[UInt8.size];omega)];omega
def L5(l:List UInt8):Nat:=l.foldl (fun n c=>10*n+(c.toNat - 48)) 0
theorem QK(u:Nat):L5 (Lib.decDigits u)=u:=by
 induction u using Nat.strongRecOn with
 |_ u ih=>
  rw[Lib.decDigits];split
  .rename_i h;simp only[L5,List.foldl_cons,List.foldl_nil];rw[UInt8.toNat_ofNat_of_lt' (by simp[UInt8.size];omega)];omega
  .rename_i h;have:=ih (u / 10) oG;unfold L5 at this ⊢;rw[List.foldl_append,this];simp only[List.foldl_cons,List.foldl_nil];rw[UInt8.toNat_ofNat_of_lt' (by simp[UInt8.size];omega)];omega
theorem TI{u v:Nat}(h:Lib.decDigits u=Lib.decDigits v):u=v:=by rw[<- QK u,h,QK]
theorem aaf(n:Int):∀ c∈Lib.itoa n,c.toNat=45\/(48<=c.toNat/\c.toNat<=57):=fun c hc=>by
 unfold Lib.itoa at hc;split at hc
 .rcases List.mem_cons.1 hc with rfl|hc
  .exact .inl rfl
  .exact .inr (Ku _ c hc)
 .exact .inr (Ku _ c hc)
theorem SA{m n:Int}(h:Lib.itoa m=Lib.itoa n):m=n:=by
 have key:∀ a b:Nat,Lib.decDigits a≠45::Lib.decDigits b:=fun a b e=>by
  have:=Ku a 45 (by rw[e];simp);revert this;decide
 unfold Lib.itoa at h;split at h<;>split at h
 .have:=TI (List.cons.inj h).2;omega
 .exact absurd h.symm (key _ _)
 .exact absurd h (key _ _)
 .have:=TI h;omega
theorem aag{u:Nat}:∀ (k:Nat),u<10 ^ (k+1)->Lib.nDigits u<=k+1:=fun k h=>by
 refine Classical.byContradiction fun hn=>?_
 have h1:∀ (j v:Nat),j+1<Lib.nDigits v->10 ^ (j+1)<=v:=by
  intro j
  induction j with
  |zero=>
   intro v hv;refine Classical.byContradiction fun hc=>?_;rw[Lib.nDigits_small oG] at hv;omega
  |succ j ih=>
   intro v hv;by_cases C:v<10
   .rw[Lib.nDigits_small C] at hv;omega
   .rw[Lib.nDigits_big C] at hv;have:=ih (v / 10) oG;rw[Nat.pow_succ];omega
 have:=h1 k u oG;omega
theorem Zg(n:Int):yU (Lib.itoa n):=by
 constructor<;>intro h<;>have:=aaf n _ h<;>revert this<;>decide
theorem join_eq:∀ l:List W8,Lib.join l [32]=mH l
 |[]=>rfl
 |[w]=>by rw[Lib.join_one];rfl
 |w::v::l=>by
  have ih:=join_eq (v::l);rw[Lib.join_cons] at ih ⊢;rw[mH, <- ih];simp[Lib.joinTail]
theorem RB:∀ l:List W8,(mH l).length<=(l.map fun w=>w.length+1).sum
 |[]=>by simp[mH]
 |[w]=>by simp[mH]
 |w::v::l=>by
  have ih:=RB (v::l);simp only[mH,List.length_append,List.length_cons,List.map_cons,List.sum_cons] at ih ⊢;omega
end Go.Argus
section
open Go Go.Abs Go.Proofs Go.Argus
namespace Go.Argus
def dW(n:Int):Prop:= -1000000000<=n/\n<=1000000000
theorem dW.i{n:Int}(h:dW n):i64 n:=by unfold dW at h;unfold i64;omega
structure yW(x:cv):Prop where
 to:dW x.to
 a:dW x.a
 b:dW x.b
 n:dW x.n
 args:∀ r∈x.args,dW r
 len:x.args.length<=1200
theorem uR{l:List Int}{r:Int}(hl:l.length<=1200)(h:jG l r):dW r:=by unfold jG at h;unfold dW;omega
theorem eU:dW 0:=by unfold dW;omega
theorem mv{l:List Int}(h:l.length=0):(∀ r∈l,dW r)/\l.length<=1200:=by
 cases l with
 |nil=>exact⟨oS,oS⟩
 |cons a l=>simp at h
theorem Kv{l:List Int}{r want of:Int}(hl:l.length<=1200)(h:pO l r want of=true):dW r:=by
 by_cases C:want=0
 .unfold pO at h;rw[if_pos C] at h;have:r=0:=by simpa using h
  rw[this];exact eU
 .exact uR hl (Gu h C)
theorem aah:(mA++lP).all (fun x=>decide (-1000000000<=x.2.low)&&decide (x.2.high<=1000000000))=true:=by decide
theorem QL{l:List Int}{x:cv}{s:Shape}(hl:l.length<=1200)(hm:(x.op,s)∈mA\/(x.op,s)∈lP)(h:wF l x s=true):yW x:=by
 have hs:=bS.1 aah (x.op,s) (List.mem_append.2 hm);simp only[aW,decide_eq_true_eq] at hs;unfold wF at h;simp only[aW] at h;obtain⟨h1,h2,M,C,U⟩:=h;have hn:dW x.n:=by have:=lH.1 U;unfold dW;omega
 have J:(∀ r∈x.args,dW r)/\x.args.length<=1200:=by
  unfold ym at C;split at C
  .rw[aW] at C;have:=lH.1 C.1;exact⟨fun r hr=>uR hl (uy C.2 r hr),oG⟩
  .split at C
   .rw[aW] at C;have:(x.args.length:Int)=1:=by simpa using C.1
    exact⟨fun r hr=>uR hl (uy C.2 r hr),oG⟩
   .exact mv (by have:(x.args.length:Int)=0:=by simpa using C
                 omega)
 exact⟨Kv hl h1,Kv hl h2,Kv hl M,hn,J.1,J.2⟩
theorem abU{f:ai}{b:Int}{ahead:Nat}{x:cv}{phis:Bool}(hl:f.aO.length<=1200)(hs:∀ k∈f.bK,k≠0)(nD:f.bK.length<=60)(ha:ahead<=1200)(h:kB f b x phis ahead=true):yW x:=by
 unfold kB at h;have J:uX x=true->(∀ r∈x.args,dW r)/\x.args.length<=1200:=fun h=>mv (by unfold uX at h;simp at h;simp[h]);split at h
 .simp only[aW,iu] at h;obtain⟨h1,h2,C,M,h5⟩:=h;exact⟨by rw[h1];exact eU,uR hl (kQ oG),by rw[C];exact eU,by rw[M];exact eU,(J h5).1,(J h5).2⟩
 split at h
 .simp only[aW,iu] at h;obtain⟨h1,h2,C,M⟩:=h;obtain⟨X,g2,U⟩:=GK hs M;exact⟨uR hl X,by rw[h1];exact eU,by rw[h2];exact eU,by unfold dW;omega,(J C).1,(J C).2⟩
 split at h
 .simp only[aW,iu] at h;obtain⟨h1,h2,C,M⟩:=h;obtain⟨X,g2,U⟩:=GK hs M;exact⟨by rw[h1];exact eU,uR hl X,by rw[h2];exact eU,by unfold dW;omega,(J C).1,(J C).2⟩
 split at h
 .simp only[aW,iu] at h;obtain⟨_,_,U,g4,g5,g6,g7,g8⟩:=h;have hk:dz f.aO x.to≠0:=fun e=>by simp[o7,e] at U
  refine⟨uR hl (sZ U),by rw[g4];exact eU,by rw[g5];exact eU,by rw[g6];exact eU,fun r hr=>?_,oG⟩
  have:dv (dz f.aO r) (dz f.aO x.to)=true:=by
   simp only[Bool.not_eq_true',List.any_eq_false] at g8;simpa using g8 r hr
  rw[iu] at this;exact uR hl (kQ (by rw[this];exact hk))
 .rw[aW] at h;cases mb:iw mA x.op with
  |none=>rw[mb] at h;simp at h
  |some s=>rw[mb] at h;exact QL hl (.inl (yl mb)) h.2
abbrev bW(w:ByteArray):W8:=w.data.toList
theorem aeS(s:ByteArray):∀ (n i:Nat) (r:List UInt8),s.size - i=n->ByteArray.toList.loop s i r=r.reverse++s.data.toList.drop i:=by
 intro n
 induction n with
 |zero=>
  intro i r h;unfold ByteArray.toList.loop;rw[if_neg oG,List.drop_eq_nil_of_le (by show s.data.size<=i;have:s.size=s.data.size:=rfl;omega)];simp
 |succ n ih=>
  intro i r h;unfold ByteArray.toList.loop;rw[if_pos oG,ih (i+1) _ oG];have hi:i<s.data.toList.length:=by show i<s.data.size;have:s.size=s.data.size:=rfl;omega
  have h2:i<s.data.size:=hi;rw[List.drop_eq_getElem_cons hi]
  have:s.get! i=s.data.toList[i]:=by
   show s.data[i]! =_;rw[getElem!_pos s.data i h2];rfl
  rw[this];simp
theorem qf(s:ByteArray):s.toList=s.data.toList:=by
 unfold ByteArray.toList;rw[aeS s _ 0 [] rfl];simp
theorem rZ{a b:ByteArray}(h:bW a=bW b):a=b:=by
 obtain⟨⟨l⟩⟩:=a;obtain⟨⟨m⟩⟩:=b;simp at h;simp[h]
def jy(w:ByteArray):Prop:=w.size<=120/\yU (bW w)
theorem FR{s:ByteArray}{c:UInt8}(h:c∈bW s):(c.toNat:Int)∈rJ s:=List.mem_map_of_mem (f:=fun c=>(c.toNat:Int)) h
theorem LC{s:ByteArray}(h:nU s=true):jy s:=by
 unfold nU at h;simp only[aW,Bool.not_eq_true',List.any_eq_false] at h;have h1:=lH.1 h.1;refine⟨oG,fun hc=>?_,fun hc=>?_⟩
 .exact absurd (h.2 _ (FR hc)) oC
 .exact absurd (h.2 _ (FR hc)) oC
theorem LD{s:ByteArray}(h:isName s=true):jy s:=by
 unfold isName at h;simp only[aW,Bool.not_eq_true',List.any_eq_false] at h;have h1:=lH.1 h.1;refine⟨oG,fun hc=>?_,fun hc=>?_⟩
 .exact absurd (h.2 _ (FR hc)) oC
 .exact absurd (h.2 _ (FR hc)) oC
theorem Bv{s:ByteArray}(h:s.toList=[]):jy s:=by
 rw[qf] at h;refine⟨?_,?_⟩
 .have:s.size=(bW s).length:=rfl;rw[this];unfold bW;rw[h];simp
 .unfold bW;rw[h];simp[yU]
structure L6(x:End):Prop where
 kind:1<=x.kind/\x.kind<=9
 a:dW x.a
 b:dW x.b
 to:dW x.to
 fY:dW x.fY
 others:dW x.others
 args:∀ r∈x.args,dW r
 len:x.args.length<=1200
 ins:yW x.ins
 aP:x.aP.length<=7
 wh:∀ w∈x.aP,dW w.to/\isName w.name=true
 name:jy x.name
theorem adK{x:End}(h:tG x=true):(x.kind=0/\x.a=0/\x.b=0/\x.to=0/\x.fY=0/\x.others= -1)/\x.args.length=0/\x.aP.length=0/\x.name.toList=[]/\yW x.ins:=by
 simp only[tG,aW,decide_eq_true_eq,Bp,beq_iff_eq] at h;obtain⟨h1,h2,h3,h4,h5,h6,h7,h8,h9,XT,C,U,J,M,X⟩:=h;have:=mv (l:=x.ins.args) oG;exact⟨⟨h1,h2,h3,h4,h5,h7⟩,oG,oG,h6,by rw[C];exact eU,by rw[U];exact eU,by rw[J];exact eU,by rw[M];exact eU,this.1,this.2⟩
theorem Zh{f:ai}{x:End}(hb:f.blocks.length<=1200)(h:oX f x=true):x.aP.length<=7/\(∀ w∈x.aP,dW w.to/\isName w.name=true)/\dW x.others:=by
 obtain⟨h1,h2,J⟩:=F3 h;refine⟨h1,fun w C=>⟨by have:=h2 w C;unfold dW;omega,?_⟩,?_⟩
 .unfold oX at h;rw[aW] at h;obtain⟨i,hi⟩:=dN C;have:=bS.1 h.1 (w,i) (List.mem_zipIdx_iff_getElem?.2 hi);simp only[sd,aW] at this;exact this.1
 .by_cases h0:0<=x.others
  .have:=J h0;unfold dW;omega
  .unfold oX at h;rw[aW,aW,Bool.or_eq_true] at h;rcases h.2.2 with h|h
   .have:x.others= -1:=by simpa using h
    unfold dW;omega
   .rw[eu,lH] at h;unfold dW;omega
theorem abV{f:ai}{x:End}(hl:f.aO.length<=1200)(nK:f.blocks.length<=1200)(hr:uC f=true)(h:iW f x=true):L6 x:=by
 have X:∀ {r:Int},jG f.aO r->dW r:=fun h=>uR hl h;unfold iW at h;rw[aW] at h;obtain⟨h,hb⟩:=h;have hb:=adK hb;have U:∀ {t:Int},eu f t=true->dW t:=fun h=>by rw[eu,lH] at h;unfold dW;omega
 have yg:dW (-1):=by unfold dW;omega
 have hh:=Zh (x:=x) nK;obtain⟨kind,a,b,to,fY,name,ins,args,aP,others⟩:=x;simp only[eA] at h hb;by_cases h1:kind=1
 .subst h1;simp only[if_true] at h hb;obtain⟨⟨b1,b2,b3,b4,b5,b6⟩,b7,b8,b9,mg⟩:=hb;have M:aP=[]:=List.length_eq_zero_iff.1 b8;subst M b2 b3 b5 b6;exact⟨(⟨oC,oC⟩:(1:Int)<=1/\(1:Int)<=9),eU,eU,U h,eU,yg,(mv b7).1,(mv b7).2,mg,oS,oS,Bv b9⟩
 by_cases h2:kind=2
 .subst h2;simp only[Int.reduceEq,if_false,if_true,aW,iu] at h hb;obtain⟨⟨b1,b2,b3,b4,b5,b6⟩,b7,b8,b9,mg⟩:=hb;have M:aP=[]:=List.length_eq_zero_iff.1 b8;subst M b3 b6;exact⟨(⟨oC,oC⟩:(1:Int)<=2/\(2:Int)<=9),X (kQ (l:=f.aO) (r:=a) oG),eU,U h.2.1,U h.2.2,yg,(mv b7).1,(mv b7).2,mg,oS,oS,Bv b9⟩
 by_cases C:kind=3
 .subst C;simp only[Int.reduceEq,if_false,if_true] at h hb;obtain⟨⟨b1,b2,b3,b4,b5,b6⟩,b7,b8,b9,mg⟩:=hb;have M:aP=[]:=List.length_eq_zero_iff.1 b8;subst M b3 b4 b5 b6;refine⟨(⟨oC,oC⟩:(1:Int)<=3/\(3:Int)<=9),?_,eU,eU,eU,yg,(mv b7).1,(mv b7).2,mg,oS,oS,Bv b9⟩;split at h
  .rename_i hc;rw[iu] at h;exact X (kQ (by rw[h];exact hc.1))
  .rw[iu] at h;show dW a;rw[h];exact yg
 by_cases J:kind=4
 .subst J;simp only[Int.reduceEq,if_false,if_true] at h hb;obtain⟨⟨b1,b2,b3,b4,b5,b6⟩,b7,b8,b9,mg⟩:=hb;have M:aP=[]:=List.length_eq_zero_iff.1 b8;subst M b2 b3 b4 b5 b6;exact⟨(⟨oC,oC⟩:(1:Int)<=4/\(4:Int)<=9),eU,eU,eU,eU,yg,(mv b7).1,(mv b7).2,mg,oS,oS,LD h⟩
 by_cases h5:kind=5
 .subst h5;simp only[Int.reduceEq,if_false,if_true,aW] at h hb;obtain⟨⟨b1,b2,b3,b4,b5,b6⟩,b7,b8,b9,mg⟩:=hb;obtain⟨h1,h2,C,J⟩:=h;obtain⟨g1,g2,g3⟩:=hh J;subst b2 b3 b5;refine⟨(⟨oC,oC⟩:(1:Int)<=5/\(5:Int)<=9),eU,eU,U C,eU,g3,(mv b7).1,(mv b7).2,?_,g1,g2,Bv b9⟩;cases mb:iw lP ins.op with
  |none=>rw[mb] at h1;simp at h1
  |some s=>rw[mb] at h2;exact QL hl (.inr (yl mb)) h2
 by_cases h6:kind=6
 .subst h6;simp only[Int.reduceEq,if_false,if_true,aW,decide_eq_true_eq,Bool.or_eq_true,iu] at h hb;obtain⟨⟨b1,b2,b3,b4,b5,b6⟩,b7,b8,b9,mg⟩:=hb;obtain⟨h1,h2,C,J,h5,h6⟩:=h;obtain⟨g1,g2,g3⟩:=hh h6;subst b3 b5;refine⟨(⟨oC,oC⟩:(1:Int)<=6/\(6:Int)<=9),?_,eU,U h5,eU,g3,fun r hr=>X (uy C r hr),?_,mg,g1,g2,LC h1⟩
  .show dW a;rcases J with rfl|J
   .exact yg
   .exact X (sZ J)
  .show args.length<=1200;omega
 by_cases h7:kind=7
 .subst h7;simp only[Int.reduceEq,if_false,if_true,aW,decide_eq_true_eq,iu] at h hb;obtain⟨⟨b1,b2,b3,b4,b5,b6⟩,b7,b8,b9,mg⟩:=hb;obtain⟨h1,h2,C,J,h5⟩:=h;have M:aP=[]:=List.length_eq_zero_iff.1 b8;subst M b3 b5 b6;refine⟨(⟨oC,oC⟩:(1:Int)<=7/\(7:Int)<=9),X (kQ (l:=f.aO) (r:=a) oG),eU,U h5,eU,yg,fun r hr=>X (uy C r hr),?_,mg,oS,oS,LC h1⟩;show args.length<=1200;omega
 by_cases h8:kind=8
 .subst h8;simp only[Int.reduceEq,if_false,if_true,aW,iu] at h hb;obtain⟨⟨b1,b2,b3,b4,b5,b6⟩,b7,b8,b9,mg⟩:=hb;obtain⟨h1,h2,C,J,h5⟩:=h;obtain⟨g1,g2,g3⟩:=hh h5;exact⟨(⟨oC,oC⟩:(1:Int)<=8/\(8:Int)<=9),X (kQ (l:=f.aO) (r:=a) oG),X (sZ h2),U C,U J,g3,(mv b7).1,(mv b7).2,mg,g1,g2,Bv b9⟩
 by_cases h9:kind=9
 .subst h9;simp only[Int.reduceEq,if_false,if_true,aW,iu] at h hb;obtain⟨⟨b1,b2,b3,b4,b5,b6⟩,b7,b8,b9,mg⟩:=hb;obtain⟨h1,h2,C⟩:=h;have M:aP=[]:=List.length_eq_zero_iff.1 b8;subst M b3 b5 b6;refine⟨(⟨oC,oC⟩:(1:Int)<=9/\(9:Int)<=9),X (kQ (l:=f.aO) (r:=a) ?_),eU,U C,eU,yg,(mv b7).1,(mv b7).2,mg,oS,oS,Bv b9⟩;rw[h2];intro e;simp[uC,e,h1] at hr
 .simp only[h1,h2,C,J,h5,h6,h7,h8,h9,if_false] at h;cases h
def eI(b:bE):Bool:=decide (b.fin.kind=6)||decide (b.fin.kind=7)
def dP(bs:List bE):List ByteArray:=(bs.filter eI).map (·.fin.name)
theorem YH(bs:List bE)(b:bE):dP (bs++[b])=dP bs++if eI b then [b.fin.name] else []:=by
 unfold dP;rw[List.filter_append,List.map_append];cases h:eI b<;>simp[h]
theorem AG(bs:List bE):(dP bs).length<=bs.length:=by
 unfold dP;rw[List.length_map];exact List.length_filter_le _ _
end Go.Argus
end
namespace Go.Argus
open Go Go.Abs
def Ly(l:List Int):Prop:=∀ (i j:Nat) x y,i<=j->l[i]? =some x->l[j]? =some y->x<=y
def amh(l:List Int)(j k:Nat):Prop:=(∀ p q,p<q->q<=k->p≠j->q≠j->l.getD p 0<=l.getD q 0)/\∀ q,j<q->q<=k->l.getD j 0<=l.getD q 0
def WA(l:List Int)(k:Nat):Prop:=∀ p q,p<=q->q<=k->l.getD p 0<=l.getD q 0
theorem Rr{l:List Int}{j:Nat}(h:j+1<l.length)(i:Nat):(swapAt l j).getD i 0=if i=j then l.getD (j+1) 0 else if i=j+1 then l.getD j 0 else l.getD i 0:=by
 unfold swapAt;simp only[dF,List.getElem?_set,List.length_set];by_cases e:j=i
 .subst e;rw[if_pos rfl,if_pos rfl,if_pos oG];rfl
 .rw[if_neg e,if_neg (show ¬ i=j from fun h=>e h.symm)];by_cases e2:j+1=i
  .subst e2;rw[if_pos rfl,if_pos rfl,if_pos h];rfl
  .rw[if_neg e2,if_neg (show ¬ i=j+1 from fun h=>e2 h.symm)]
theorem Tw{k:Nat}:∀ {j:Nat} {l:List Int},j<=k->k<l.length->amh l j k->WA (pu l j) k
 |0,l,_,_,h=>fun p q C hq=>by
  rw[pu];rcases Nat.lt_or_ge p q with g|g
  .by_cases hp:p=0
   .subst hp;exact h.2 q g hq
   .exact h.1 p q g hq hp oG
  .have:p=q:=by omega
   subst this;exact Int.le_refl _
 |j+1,l,hj,hk,h=>by
  rw[pu];split
  .rename_i af;have hs:=Rr (l:=l) (j:=j) oG;refine Tw oG (by simpa using hk) ⟨fun p q C hq hp M=>?_,fun q hq J=>?_⟩
   .rw[hs,hs,if_neg hp,if_neg M];by_cases e1:p=j+1
    .rw[if_pos e1,if_neg oG];exact h.1 j q oG hq oG oG
    .rw[if_neg e1];by_cases e2:q=j+1
     .rw[if_pos e2];exact h.1 p j oG oG e1 oG
     .rw[if_neg e2];exact h.1 p q C hq e1 e2
   .rw[hs,hs,if_pos rfl,if_neg oG];by_cases e2:q=j+1
    .rw[if_pos e2];omega
    .rw[if_neg e2];exact h.2 q oG J
  .rename_i U;intro p q C hq;rcases Nat.lt_or_ge p q with g|g
   .by_cases e1:p=j+1
    .subst e1;exact h.2 q g hq
    .by_cases e2:q=j+1
     .subst e2;by_cases e3:p=j
      .subst e3;omega
      .have:=h.1 p j oG oG oG oG;omega
     .exact h.1 p q g hq e1 e2
   .have:p=q:=by omega
    subst this;exact Int.le_refl _
theorem Sq{i:Nat}:∀ {j:Nat} {l:List Int},j<i->j<l.length->(pu l j).getD i 0=l.getD i 0
 |0,l,_,_=>rfl
 |j+1,l,h,hl=>by
  rw[pu];split
  .rw[Sq oG oP,Rr oG,if_neg oG,if_neg oG]
  .rfl
theorem Sr{l:List Int}:∀ k,k<l.length->WA (np l k) k/\∀ i,k<i->(np l k).getD i 0=l.getD i 0
 |0,_=>⟨fun p q C hq=>by
  have:p=q:=by omega
  subst this;exact Int.le_refl _,fun _ _=>rfl⟩
 |k+1,hk=>by
  obtain⟨h1,h2⟩:=Sr (l:=l) k oG;rw[np];refine⟨Tw (aZ _) (by simpa using hk) ⟨fun p q C hq hp J=>h1 p q oG oG,fun q hq J=>by omega⟩,fun i hi=>?_⟩;rw[Sq hi oP];exact h2 i oG
theorem YN(l:List Int):Ly (od l):=fun i j x y C hx hy=>by
 obtain⟨hj,J⟩:=bI.1 hy;have hl:(od l).length=l.length:=Q9 l;have h:=(Sr (l:=l) (l.length - 1) oG).1 i j C oG;have e:np l (l.length - 1)=od l:=rfl;rw[e,dF,dF,hx,hy] at h;exact h
theorem Uj{d:List Int}(hs:Ly d):∀ t,t<=d.length->(fx d t).Pairwise (·<·)/\(0<t->∀ x∈fx d t,x<=d.getD (t - 1) 0)
 |0,_=>⟨by simp[fx],fun h=>absurd h (Nat.lt_irrefl 0)⟩
 |t+1,ht=>by
  obtain⟨h1,h2⟩:=Uj hs t oG
  have hg:∀ i,i<d.length->d[i]? =some (d.getD i 0):=fun i hi=>by
   have:=aL hi;rw[dF,this];rfl
  have C:∀ x∈fx d t,x<=d.getD t 0:=fun x hx=>by
   have h0:0<t:=by
    cases t with
    |zero=>simp[fx] at hx
    |succ t=>omega
   have a:=h2 h0 x hx;have b:=hs (t - 1) t _ _ oG (hg _ oG) (hg _ oG);omega
  rw[fx];split
  .rw[List.append_nil];exact⟨h1,fun _ x hx=>by rw[Nat.add_sub_cancel];exact C x hx⟩
  .rename_i J;refine⟨?_,fun _ x hx=>?_⟩
   .rw[List.pairwise_append];refine⟨h1,oS,fun x hx y hy=>?_⟩;rw[List.mem_singleton] at hy;subst hy
    have h0:0<t:=by
     cases t with
     |zero=>simp[fx] at hx
     |succ t=>omega
    have a:=h2 h0 x hx;have b:=hs (t - 1) t _ _ oG (hg _ oG) (hg _ oG);have c:d.getD t 0≠d.getD (t - 1) 0:=fun e=>J ⟨oG,e⟩;omega
   .rw[Nat.add_sub_cancel];rw[List.mem_append,List.mem_singleton] at hx;rcases hx with hx|hx
    .exact C x hx
    .rw[hx];exact Int.le_refl _
theorem Zf{d:List Int}(hs:Ly d):(nR d).Pairwise (·<·):=(Uj hs _ (aZ _)).1
theorem abI(x:End):(Go.Proofs.Tryz.K.nextR x).Pairwise (·<·):=Zf (YN _)
theorem aaa{b:Nat}:∀ (l:List Int) (L:Nat->List Int),l.Pairwise (·<·)->(∀ t∈l,0<=t)->(∀ i,(L i).Pairwise (·<·)/\∀ x∈L i,x<(b:Int))->
 ∀ i,(l.foldl (jW b) L i).Pairwise (·<·)/\(∀ x∈l.foldl (jW b) L i,x<(b:Int)+1):=fun l=>by
 have key:∀ (l:List Int) (L:Nat->List Int),l.Pairwise (·<·)->(∀ t∈l,0<=t)->∀ i,l.foldl (jW b) L i=L i++(if(i:Int)∈l then [(b:Int)] else []):=fun l=>by
  induction l with
  |nil=>intro L _ _ i;simp
  |cons t l ih=>
   intro L hp h0 i;rw[List.pairwise_cons] at hp;have ht:=h0 t oS;obtain⟨C,rfl⟩:=lv ht;rw[List.foldl_cons,ih _ hp.2 (fun t h=>h0 t (by simp[h]))];unfold jW;simp only[lu,up];by_cases e:i=C
   .subst e;rw[if_pos rfl,if_neg (fun h=>by have:=hp.1 _ h;omega),if_pos oS,List.append_nil]
   .rw[if_neg e];congr 1;have:¬ (i:Int)=C:=by omega
    simp[this]
 intro L hp h0 J i;rw[key l L hp h0 i];obtain⟨h1,h2⟩:=J i;split
 .refine⟨?_,fun x hx=>?_⟩
  .rw[List.pairwise_append];exact⟨h1,oS,fun x hx y hy=>by rw[List.mem_singleton] at hy;rw[hy];exact h2 x hx⟩
  .rw[List.mem_append,List.mem_singleton] at hx;rcases hx with hx|hx
   .have:=h2 x hx;omega
   .omega
 .rw[List.append_nil];exact⟨h1,fun x hx=>by have:=h2 x hx;omega⟩
theorem Qz{bs:List bE}(h0:∀ b∈bs,∀ t∈Go.Proofs.Tryz.K.nextR b.fin,0<=t):∀ k i,(dj bs k i).Pairwise (·<·)/\∀ x∈dj bs k i,x<(k:Int)
 |0,i=>by simp[dj]
 |k+1,i=>by
  have ih:=Qz h0 k;have e:dj bs (k+1)=qv bs (dj bs k) k:=by rw[dj,List.range_succ,List.foldl_append];rfl
  rw[e];unfold qv;cases hx:bs[k]? with
  |none=>exact⟨(ih i).1,fun x hx=>by have:=(ih i).2 x hx;omega⟩
  |some b=>
   obtain⟨h1,h2⟩:=aaa (b:=k) (Go.Proofs.Tryz.K.nextR b.fin) (dj bs k) (abI _) (h0 b (bu hx)) ih i;exact⟨h1,fun x hx=>by have:=h2 x hx;omega⟩
theorem Tx:∀ {l:List Int} {a k:Nat},l.Pairwise (·<·)->(∀ x∈l,(a:Int)<=x/\x<(k:Int))->l.length<=k - a
 |[],_,_,_,_=>Nat.zero_le _
 |x::l,a,k,hp,h=>by
  rw[List.pairwise_cons] at hp;have hx:=h x oS;obtain⟨C,rfl⟩:=lv (show 0<=x by omega)
  have:=Tx (l:=l) (a:=C+1) (k:=k) hp.2 fun y hy=>by
   have:=hp.1 y hy;have:=h y (by simp[hy]);omega
  rw[List.length_cons];omega
end Go.Argus
section
open Go Go.Abs Go.Proofs Go.Argus
namespace Go.Proofs.Tryz.K
theorem R1{σ:D->D}(h:∀ n,sub σ (.s n)=.s n)(l:List ByteArray):(l.map S).map (sub σ)=l.map S:=by
 rw[List.map_map];exact List.map_congr_left fun c _=>h _
theorem Ou{f:ai}(dt:f.blocks.length<=1000000):aB prog 65 [.agg (aR f)] (bP (dP f.blocks)):=by
 refine bj aj2 (.cons (.agg (kL f)) .nil) (gS _) ?_;rw[aj3];refine aw ?_;refine ab ?_;refine aa (bH (dA [(0,aR f,48)] eH (l:=[(1,.pt (aR f))]) eH) (aw ?_));refine SS ?_;refine aa ⟨_,.rW _ _ _ 3 9 rfl,az (aw ?_)⟩;refine aY ?_
 refine aa (bZ (fun s=>∃ r nx,aH prog s ⟨ax [(3,.rs r 0 (dP f.blocks).length)],br [(r,.cells ((dP f.blocks).map S) 9)],nx⟩) (cH (α:=Nat×Nat×Nat)
  (fun s=>⟨ax [(3,.rs s.2.1 0 (dP (f.blocks.take s.1)).length),(7,cG f.blocks),(8,I f.blocks.length),(9,I s.1)],br [(s.2.1,.cells ((dP (f.blocks.take s.1)).map S) 9)],s.2.2⟩)
  (fun s=>s.1<=f.blocks.length/\s.2.1<s.2.2) (fun s=>f.blocks.length - s.1) (0,1,2)
  (cn eH eH) ⟨Nat.zero_le _,oC⟩ ?_) ?_)
 .rintro⟨k,r,nx⟩ ⟨hk,hr⟩;dsimp only at hk hr ⊢;refine SS ?_;refine aa ⟨_,rfl,fun h=>?_,fun h=>?_⟩
  .have af:k<f.blocks.length:=by simpa using h
   clear h;obtain⟨b,hb⟩:∃ b,f.blocks[k]? =some b:=⟨_,aL af⟩
   have C:dP (f.blocks.take (k+1))=dP (f.blocks.take k)++if eI b then [b.fin.name] else []:=by
    rw[List.take_add_one,hb, <- YH];rfl
   have sK:(dP (f.blocks.take k)).length<=1000000:=by
    have:=AG (f.blocks.take k);have:(f.blocks.take k).length<=f.blocks.length:=List.length_take_le' _ _;omega
   have M:eI b=(decide (b.fin.kind=6)||decide (b.fin.kind=7)):=rfl;generalize dP (f.blocks.take k)=cs at*
   have J:br [(r,Row.cells (cs.map S) 9)] r=some (.cells (cs.map S) 9):=by simp[br]
   refine aw ?_;refine aY ?_;refine aa ⟨_,rG (i:=nx) (cs:=bU b) (e:=59) (aj _ _ _) (l:=[(3,.rs r 0 cs.length),(7,cG f.blocks),(8,I f.blocks.length),(9,I k),(5,.pt (bU b))]) ⟨AZ oG,rfl,rfl,rfl,mq,trivial⟩ (ml:=[(r,.cells (cs.map S) 9)]) ⟨Td oG (ah oG (ah oG J)) (congrArg (Row.cells · 9) (R1 (fun _=>rfl) cs)),trivial⟩,ag ?_⟩;refine du ?_;refine ab ?_;have ap:=J;refine aa (aQ rfl (fun hp=>?_) fun hp=>?_)
   .have hc:eI b=true:=by
     rw[M];revert hp;cases U:(b.fin.kind==6)<;>simp_all
    rw[if_pos hc] at C;refine lF ?_;refine ik ?_;refine aa ?_;show aq prog c8 (Z pM 7) false [] _ (Z pM 7).toList _ [];refine ab ?_;refine aa (bf (k+1,nx+1+1,nx+1+1+1) ?_ ⟨oM,?_⟩ oM)
    .dsimp only;rw[C];refine cn ⟨?_,rfl,rfl,rfl,trivial⟩ ⟨(aj _ _ _).trans (by simp;rfl),trivial⟩;rw[List.length_append];rfl
    .dsimp only;omega
   .have hc:eI b=false:=by
     rw[M];revert hp;cases U:(b.fin.kind==6)<;>simp_all
    rw[hc,if_neg oS,List.append_nil] at C;refine cP ?_;refine ab ?_;refine aa (bf (k+1,r,nx+1) ?_ ⟨oM,?_⟩ oM)
    .dsimp only;rw[C];exact au eH
    .dsimp only;omega
  .have X:¬ k<f.blocks.length:=by simpa using h
   have:k=f.blocks.length:=by omega
   subst this;rw[List.take_length];exact⟨r,nx,au eH⟩
 .rintro s ⟨r,nx,hg⟩;refine⟨_,hg,aw ?_⟩;refine ab ?_;refine aa (bH (eX (i:=r) (cs:=(dP f.blocks).map S) (e:=9) (by simp[br]) (l:=[(2,bP (dP f.blocks))]) ⟨?_,trivial⟩) (aD rfl rfl));exact(jR (by rw[c9];simp)).trans oS
theorem JL{P:Program}{Y:ej}{rf:Bool}{Q:Exit->St->Prop}{st:St}{b:Code}{c:Operand}{x y:Code}(hc:opd st.env c=.ub)(ht:AW P Y rf (.seq x b) Q st)(hf:AW P Y rf (.seq y b) Q st):AW P Y rf (.seq (.cond c x y) b) Q st:=Tb hc ht hf
theorem Xc{l:List Int}(hl:l.length<=1000000):aB prog 91 [ir l] (ir l):=by
 refine bj aj4 (.cons (oW l) .nil) (oW l) ?_;rw[aj5];refine ws ?_;refine SS ?_;cases l with
 |nil=>
  refine aa (az (ag ?_));refine av (cY (v:=.sl [] 0) rfl) aK trivial ?_;refine av (HE rfl) aK B5 ?_;refine aa (JL rfl (az (aw ?_)) (cm (aw ?_)))
  .refine SS ?_;exact aa (bH (yq (n0:=2) rfl) (dG (aD rfl rfl)))
  .have C:(([]:List Int).map U8).take (0*1)=[]:=rfl;refine ab ?_;refine jI (jB rfl rfl rfl I9 c5 (rI C) rfl) aK ⟨B5,rfl,oS,oC,rfl,oC,oC,oS⟩ ?_;refine SS ?_;refine aa (bH (eX (i:=1) rfl (l:=[(2,ir [])]) ⟨?_,trivial⟩) (aD rfl rfl));exact(jR (by simp[c5])).trans oS
 |cons x J=>
  have M:(x::J).length≠0:=by simp
  generalize x::J=l at*
  have C:(l.map U8).take (l.length*1)=l.map U8:=dq oS;refine aa (az (ag ?_));refine av (cY (v:=.sl _ _) rfl) aK trivial ?_;refine av (HF rfl M) aK B5 ?_;refine aa (tD (cm (aw ?_)));refine ab ?_;refine jI (jB rfl rfl rfl I9 c5 (rI C) rfl) aK ⟨B5,rfl,oS,oC,rfl,by unfold maxLen;omega,by rw[b5];omega,oS⟩ ?_;refine SS ?_;refine aa (bH (eX (i:=1) rfl (l:=[(2,ir l)]) ⟨?_,trivial⟩) (aD rfl rfl));exact(jR (by simp[c5])).trans oS
theorem Ov{l:List ByteArray}(hl:l.length<=1000000):aB prog 92 [bP l] (bP l):=by
 refine bj aj6 (.cons (gS l) .nil) (gS l) ?_;rw[aj7];refine ws ?_;refine SS ?_;cases l with
 |nil=>
  refine aa (az (ag ?_));refine av (cY (v:=.sl [] 0) rfl) aK trivial ?_;refine av (HE rfl) aK lZ ?_;refine aa (JL rfl (az (aw ?_)) (cm (aw ?_)))
  .refine SS ?_;exact aa (bH (yq (n0:=2) rfl) (dG (aD rfl rfl)))
  .have C:(([]:List ByteArray).map S).take (0*1)=[]:=rfl;refine ab ?_;refine jI (jB rfl rfl rfl sM c9 (rI C) rfl) aK ⟨lZ,rfl,oS,oC,rfl,oC,oC,oS⟩ ?_;refine SS ?_;refine aa (bH (eX (i:=1) rfl (l:=[(2,bP [])]) ⟨?_,trivial⟩) (aD rfl rfl));exact(jR (by simp[c9])).trans oS
 |cons x J=>
  have M:(x::J).length≠0:=by simp
  generalize x::J=l at*
  have C:(l.map S).take (l.length*1)=l.map S:=dq oS;refine aa (az (ag ?_));refine av (cY (v:=.sl _ _) rfl) aK trivial ?_;refine av (HF rfl M) aK lZ ?_;refine aa (tD (cm (aw ?_)));refine ab ?_;refine jI (jB rfl rfl rfl sM c9 (rI C) rfl) aK ⟨lZ,rfl,oS,oC,rfl,by unfold maxLen;omega,by rw[b9];omega,oS⟩ ?_;refine SS ?_;refine aa (bH (eX (i:=1) rfl (l:=[(2,bP l)]) ⟨?_,trivial⟩) (aD rfl rfl));exact(jR (by simp[c9])).trans oS
theorem Ow{l:List gh}(hl:l.length<=1000000):aB prog 94 [lG l] (lG l):=by
 refine bj aj8 (.cons (jz l) .nil) (jz l) ?_;rw[aj9];refine ws ?_;refine SS ?_;cases l with
 |nil=>
  refine aa (az (ag ?_));refine av (cY (v:=.sl [] 0) rfl) aK trivial ?_;refine av (HE rfl) aK EN ?_;refine aa (JL rfl (az (aw ?_)) (cm (aw ?_)))
  .refine SS ?_;exact aa (bH (yq (n0:=2) rfl) (dG (aD rfl rfl)))
  .have C:(([]:List gh).flatMap gF).take (0*2)=[]:=rfl;refine ab ?_;refine jI (jB rfl rfl rfl Ox Ja (rI C) rfl) aK ⟨EN,rfl,oS,oC,rfl,oC,oC,oS⟩ ?_;refine SS ?_;refine aa (bH (eX (i:=1) (cs:=[]) rfl (l:=[(2,lG [])]) ⟨?_,trivial⟩) (aD rfl rfl));exact jR (sz:=2) rfl
 |cons x M=>
  have J:(x::M).length≠0:=by simp
  generalize x::M=l at*
  have C:(l.flatMap gF).take (l.length*2)=l.flatMap gF:=by rw[Dn (f:=gF) (sz:=2) (fun _=>rfl),List.take_length]
  have U:(l.flatMap gF).length=l.length*2:=by clear C J;induction l with|nil=>rfl|cons x l ih=>rw[List.flatMap_cons,List.length_append,ih (by simp at hl;omega),List.length_cons];show 2+l.length*2=_;omega
  refine aa (az (ag ?_));refine av (cY (v:=.sl _ _) rfl) aK trivial ?_;refine av (HF rfl J) aK EN ?_;refine aa (tD (cm (aw ?_)));refine ab ?_;refine jI (jB rfl rfl rfl Ox Ja (rI C) rfl) aK ⟨EN,rfl,Nat.le_of_eq U.symm,oC,rfl,by unfold maxLen;omega,by rw[Xd];omega,oS⟩ ?_;refine SS ?_;refine aa (bH (eX (i:=1) (cs:=l.flatMap gF) rfl (l:=[(2,lG l)]) ⟨?_,trivial⟩) (aD rfl rfl));exact(jR (by rw[Ja,Nat.zero_add];exact U)).trans (by rw[Nat.zero_add];rfl)
end Go.Proofs.Tryz.K
namespace Go.Argus
structure Bw(b:bE):Prop where
 len:b.ins.length<=200
 ins:∀ x∈b.ins,yW x
 fin:L6 b.fin
structure o3(f:ai):Prop where
 name:jy f.name
 args:i64 f.args
 aO:f.aO.length<=1200
 bK:f.bK.length<=60
 sigs:f.signals.length<=6
 sig:∀ s∈f.signals,isName s=true
 lD:f.blocks.length<=1200
 bF:∀ b∈f.blocks,Bw b
theorem s6{f:ai}(h:lL f=true):o3 f:=by
 have C:=HI h;unfold lL at h;simp only[aW] at h;obtain⟨h1,h2,h3,X,h5⟩:=h;unfold rR at h1;simp only[aW] at h1;unfold wD at h2;simp only[aW,Bool.not_eq_true',decide_eq_false_iff_not,List.any_eq_false] at h2;refine⟨LC h1.1,by have:=C.args;unfold i64;omega,C.aO,C.bK.2,oG,fun s hs=>by simpa using h2.2.2.2.2 s hs,C.lD,fun b hb=>?_⟩;obtain⟨k,hk⟩:=dN hb;have U:k<f.blocks.length:=(bI.1 hk).1;have he:=bS.1 X k (List.mem_range.2 U);unfold lK at he;rw[getD_some hk] at he;simp only[aW,Bool.not_eq_true',decide_eq_false_iff_not] at he;refine⟨oG,fun x hx=>?_,abV C.aO C.lD h1.2.2.1 he.1⟩;obtain⟨j,hj⟩:=dN hx;have hr:=C.right k b hk j x hj;refine abU C.aO C.bK.1 C.bK.2 ?_ hr;obtain⟨J,M⟩:=Qz (bs:=f.blocks) (fun b hb t ht=>((C.bF b hb).to t ht).1) f.blocks.length k;have:=Tx (a:=0) J fun x hx=>⟨by obtain⟨b,rfl,_⟩:=J2.1 hx;omega,M x hx⟩
 have:=C.lD;omega
theorem QM(wsq:List ByteArray):bW (iB wsq)=zj (wsq.map bW):=by
 unfold iB zj bW;rw[ByteArray.data_append,Array.toList_append, <- join_eq];rfl
theorem KZ:∀ C:List (List ByteArray),bW (eW C)=zk (C.map fun l=>l.map bW)
 |[]=>rfl
 |l::C=>by
  have ih:=KZ C;unfold bW at ih;simp only[eW,zk,List.map_cons,List.flatMap_cons,bW,ByteArray.data_append,Array.toList_append];rw[ih];have:=QM l;unfold bW at this;rw[this];rfl
def LB(l:List ByteArray):Prop:=l≠[]/\l.length<=1210/\∀ w∈l,jy w
theorem aai{n:Int}(h:i64 n):(Lib.itoa n).length<=20:=by
 have:∀ u:Nat,u<10 ^ 19->(Lib.decDigits u).length<=19:=fun u hu=>by
  rw[Lib.decDigits_length];exact aag 18 hu
 unfold i64 at h;unfold Lib.itoa;split
 .have:=this n.natAbs oG;simp;omega
 .have:=this n.toNat oG;omega
theorem HZ{n:Int}(h:i64 n):jy (eC n):=by
 refine⟨?_,by unfold bW eC;simpa using Zg n⟩;have:(eC n).size=(Lib.itoa n).length:=by unfold eC;rfl
 have:=aai h;omega
theorem Ho{l:List Int}(h:∀ n∈l,i64 n):∀ w∈l.map eC,jy w:=fun w C=>by
 obtain⟨n,hn,rfl⟩:=List.mem_map.1 C;exact HZ (h n hn)
theorem WD(l:List Int):∀ n∈l.map gQ,i64 n:=fun n hn=>by
 obtain⟨m,_,rfl⟩:=List.mem_map.1 hn;exact A9 m
theorem qD{w:ByteArray}(h:(Nat.ble w.size 120&&(!(bW w).contains 32&& !(bW w).contains 10))=true):jy w:=by
 simp only[aW,Bool.not_eq_true',List.contains_eq_mem,decide_eq_false_iff_not] at h;exact⟨bJ h.1,h.2.1,h.2.2⟩
theorem TJ:jy zb/\jy MI/\jy MJ/\jy BH/\jy D5/\jy Gm/\jy ng/\jy pk/\jy B4/\jy tF/\jy zv/\jy BT:=by
 exact⟨qD oC,qD oC,qD oC,qD oC,qD oC,qD oC,qD oC,qD oC,qD oC,qD oC,qD oC,qD oC⟩
theorem K0{x:cv}(h:yW x):IB x:=fun n hn=>by
 unfold vC at hn;simp only[List.mem_cons] at hn;rcases hn with rfl|rfl|rfl|rfl|rfl|hn
 .exact A9 _
 .exact h.to.i
 .exact h.a.i
 .exact h.b.i
 .exact h.n.i
 .exact(h.args n hn).i
theorem Us{word:ByteArray}{x:cv}(C:jy word)(h:yW x):LB (kE word x):=by
 refine⟨by simp[kE],?_,fun w hm=>?_⟩
 .have:=h.len;simp[kE,vC];omega
 .rcases List.mem_cons.1 hm with rfl|hm
  .exact C
  .exact Ho (K0 h) w hm
theorem SF{x:End}(h:L6 x):∀ n∈tM x,i64 n:=fun n hn=>by
 unfold tM at hn;simp only[List.mem_cons] at hn;rcases hn with rfl|rfl|rfl|rfl|rfl|rfl|hn
 .exact A9 _
 .exact h.a.i
 .exact h.b.i
 .exact h.to.i
 .exact h.fY.i
 .exact h.others.i
 .exact(h.args n hn).i
theorem adL{b:bE}(h:Bw b):∀ l∈gX b,LB l:=fun l hl=>by
 obtain⟨wf,wp,wi,wr,wsq,X5,X,J,we,wn,wt,ww⟩:=TJ;unfold gX at hl;simp only[List.mem_cons,List.mem_append] at hl;rcases hl with rfl|hl|rfl|hl|hl|hl
 .exact⟨oS,oS,fun w C=>by simp at C;subst C;exact X⟩
 .obtain⟨x,hx,rfl⟩:=List.mem_map.1 hl;exact Us J (h.ins x hx)
 .refine⟨by simp[po],?_,fun w hm=>?_⟩
  .have:=h.fin.len;simp[po,tM];omega
  .rcases List.mem_cons.1 hm with rfl|hm
   .exact we
   .exact Ho (SF h.fin) w hm
 .unfold jk at hl;split at hl
  .simp at hl
  .simp only[List.mem_cons,List.not_mem_nil,or_false] at hl;subst hl
   exact⟨oS,oS,fun w C=>by
    simp only[List.mem_cons,List.not_mem_nil,or_false] at C;rcases C with rfl|rfl
    .exact wn
    .exact h.fin.name⟩
 .unfold j7 at hl;split at hl
  .simp only[List.mem_cons,List.not_mem_nil,or_false] at hl;subst hl;exact Us wt h.fin.ins
  .simp at hl
 .obtain⟨x,hx,rfl⟩:=List.mem_map.1 hl;obtain⟨M,U⟩:=h.fin.wh x hx
  exact⟨by simp[iY],by simp[iY],fun w C=>by
   simp only[iY,List.mem_cons,List.not_mem_nil,or_false] at C;rcases C with rfl|rfl|rfl
   .exact ww
   .exact LD U
   .exact HZ M.i⟩
theorem TK{f:ai}(h:o3 f):∀ l∈jj f,LB l:=fun l hl=>by
 obtain⟨M,X,U,wr,wsq,J,wb,X6,we,wn,wt,ww⟩:=TJ;unfold jj BU at hl;rw[List.mem_append] at hl;rcases hl with hl|hl
 .simp only[List.mem_cons,List.not_mem_nil,or_false] at hl;rcases hl with rfl|rfl|rfl|rfl
  .refine⟨oS,oS,fun w C=>?_⟩;simp only[List.mem_cons,List.not_mem_nil,or_false] at C;rcases C with rfl|rfl|rfl|rfl|rfl
   .exact M
   .exact h.name
   .unfold r8;split
    .exact U
    .exact X
   .exact HZ h.args
   .exact HZ (A9 _)
  .refine⟨oS,by have:=h.aO;simp;omega,fun w C=>?_⟩;rcases List.mem_cons.1 C with rfl|C
   .exact wr
   .exact Ho (WD _) w C
  .refine⟨oS,by have:=h.bK;simp;omega,fun w C=>?_⟩;rcases List.mem_cons.1 C with rfl|C
   .exact wsq
   .exact Ho (WD _) w C
  .refine⟨oS,by have:=h.sigs;simp;omega,fun w C=>?_⟩;rcases List.mem_cons.1 C with rfl|C
   .exact J
   .exact LD (h.sig w C)
 .obtain⟨b,hb,hl⟩:=List.mem_flatMap.1 hl;exact adL (h.bF b hb) l hl
theorem abW{l:List ByteArray}(h:LB l):(iB l).size<=150000:=by
 have h1:(iB l).size=(bW (iB l)).length:=rfl;rw[h1,QM];unfold zj;rw[List.length_append,List.length_singleton];have h2:=RB (l.map bW)
 have C:∀ l:List ByteArray,(∀ w∈l,jy w)->((l.map bW).map fun w=>w.length+1).sum<=l.length*121:=fun l=>by
  induction l with
  |nil=>simp
  |cons a l ih=>
   intro h;have:=ih fun w J=>h w (List.mem_cons_of_mem _ J);have ha:(bW a).length<=120:=(h a oS).1;simp only[List.map_cons,List.sum_cons,List.length_cons];omega
 have:=C l h.2.2;have:=h.2.1;omega
theorem SG:∀ {C:List (List ByteArray)},(∀ l∈C,LB l)->(eW C).size<=C.length*150000
 |[],_=>by simp[eW]
 |l::C,h=>by
  have:=SG fun x hx=>h x (List.mem_cons_of_mem _ hx);have:=abW (h l oS);simp only[eW,ByteArray.size_append,List.length_cons];omega
theorem abX{b:bE}(h:Bw b):(gX b).length<=220:=by
 have h1:=h.len;have h2:=h.fin.aP;have C:(jk b.fin).length<=1:=by unfold jk;split<;>simp
 have J:(j7 b.fin).length<=1:=by unfold j7;split<;>simp
 simp only[gX,pT,List.length_cons,List.length_append,List.length_map];omega
theorem adM{f:ai}(h:o3 f):(jj f).length<=300000:=by
 have:∀ bs:List bE,(∀ b∈bs,Bw b)->(bs.flatMap gX).length<=bs.length*220:=fun bs=>by
  induction bs with
  |nil=>simp
  |cons b bs ih=>
   intro h;have:=ih fun x hx=>h x (List.mem_cons_of_mem _ hx);have:=abX (h b oS);simp only[List.flatMap_cons,List.length_append,List.length_cons];omega
 have:=this f.blocks h.bF;have:=h.lD;simp only[jj,BU,List.length_append,List.length_cons,List.length_nil];omega
theorem afm{f:ai}(h:o3 f):D4 f:=by
 refine⟨h.args,by have:=h.aO;omega,by have:=h.bK;omega,by have:=h.sigs;omega,by have:=h.lD;omega,fun b hb=>by have:=(h.bF b hb).len;omega,fun b hb x hx=>?_,fun b hb=>?_,?_⟩
 .have:=(h.bF b hb).ins x hx;exact⟨K0 this,by have:=this.len;omega⟩
 .have:=(h.bF b hb).fin;exact⟨SF this,by have:=this.len;omega,K0 this.ins,by have:=this.ins.len;omega,by have:=this.aP;omega,fun w C=>(this.wh w C).1.i⟩
 .have h1:=SG (TK h);have h2:=adM h;unfold jF;omega
def zE:List W8->Bool
 |w::k::_=>w==bW B4&&(k==Lib.itoa 6||k==Lib.itoa 7)
 |_=>false
theorem AQ{w:W8}{l:List W8}(h:(w==bW B4)=false):zE (w::l)=false:=by
 cases l with
 |nil=>rfl
 |cons k l=>simp only[zE];rw[h];rfl
theorem L4(n:Int):bW (eC n)=Lib.itoa n:=by simp[bW,eC]
theorem Dh{α:Type}{p:α->Bool}{l:List α}(h:∀ x∈l,p x=false):l.countP p=0:=by
 rw[List.countP_eq_zero];intro x hx;rw[h x hx];simp
theorem Zi{b:bE}(h:Bw b):((gX b).map fun l=>l.map bW).countP zE=if eI b then 1 else 0:=by
 have hk:=h.fin.kind
 have e:zE ((po b.fin).map bW)=eI b:=by
  simp only[po,tM,List.map_cons,zE];rw[L4];have J:gQ b.fin.kind=b.fin.kind:=by unfold gQ IntKind.wrap;simp[IntKind.signed,IntKind.bits];omega
  rw[J]
  have C:∀ n:Int,(Lib.itoa b.fin.kind==Lib.itoa n)=decide (b.fin.kind=n):=fun n=>by
   by_cases e:b.fin.kind=n
   .rw[e];simp
   .rw[decide_eq_false e];exact beq_eq_false_iff_ne.2 fun h=>e (SA h)
  rw[C,C];simp[eI]
 simp only[gX,List.map_cons,List.map_append,List.countP_cons,List.countP_append];rw[e,AQ oC,Dh (l:=(pT b).map _),Dh (l:=(jk b.fin).map _),Dh (l:=(j7 b.fin).map _),Dh (l:=(b.fin.aP.map iY).map _)]
 .simp
 .intro l hl;simp only[List.mem_map] at hl;obtain⟨_,⟨w,_,rfl⟩,rfl⟩:=hl;exact AQ oC
 .intro l hl;obtain⟨x,hx,rfl⟩:=List.mem_map.1 hl;unfold j7 at hx;split at hx
  .simp only[List.mem_cons,List.not_mem_nil,or_false] at hx;subst hx;exact AQ oC
  .simp at hx
 .intro l hl;obtain⟨x,hx,rfl⟩:=List.mem_map.1 hl;unfold jk at hx;split at hx
  .simp at hx
  .simp only[List.mem_cons,List.not_mem_nil,or_false] at hx;subst hx;exact AQ oC
 .intro l hl;simp only[pT,List.mem_map] at hl;obtain⟨_,⟨x,_,rfl⟩,rfl⟩:=hl;exact AQ oC
theorem QN{f:ai}(h:o3 f):((jj f).map fun l=>l.map bW).countP zE=(dP f.blocks).length:=by
 have hb:∀ bs:List bE,(∀ b∈bs,Bw b)->((bs.flatMap gX).map fun l=>l.map bW).countP zE=(dP bs).length:=fun bs=>by
  induction bs with
  |nil=>intro _;rfl
  |cons b bs ih=>
   intro h;have ih:=ih fun x hx=>h x (List.mem_cons_of_mem _ hx);have e:=Zi (h b oS);simp only[List.flatMap_cons,List.map_append,List.countP_append];rw[ih,e];unfold dP;rw[List.filter_cons];split<;>simp;omega
 unfold jj;rw[List.map_append,List.countP_append,hb f.blocks h.bF,Dh,Nat.zero_add];intro l hl;unfold BU at hl;simp only[List.map_cons,List.map_nil,List.mem_cons,List.not_mem_nil,or_false] at hl;rcases hl with rfl|rfl|rfl|rfl<;>exact AQ oC
theorem SH{f:ai}(h:o3 f):Lz ((jj f).map fun l=>l.map bW):=fun l hl=>by
 obtain⟨x,hx,rfl⟩:=List.mem_map.1 hl;obtain⟨h1,_,h2⟩:=TK h x hx;refine⟨by simpa using h1,fun w C=>?_⟩;obtain⟨y,hy,rfl⟩:=List.mem_map.1 C;exact(h2 y hy).2
theorem QE{f g:ai}(hf:o3 f)(hg:o3 g)(h:jF f=jF g):(jj f).map (fun l=>l.map bW)=(jj g).map fun l=>l.map bW:=by
 refine Ru (SH hf) (SH hg) ?_;rw[<- KZ, <- KZ];exact congrArg bW h
theorem aaj{f g:ai}(hf:o3 f)(hg:o3 g)(h:jF f=jF g):(dP f.blocks).length=(dP g.blocks).length:=by
 rw[<- QN hf, <- QN hg,QE hf hg h]
end Go.Argus
namespace Go.Argus
open Go.Proofs.Tryz.K (nextR)
section
variable{to:ByteArray->ByteArray}
def bM(to:ByteArray->ByteArray)(b:bE):bE:=if eI b then { b with fin:={ b.fin with name:=to b.fin.name } } else b
def eS(f:ai)(name:ByteArray)(to:ByteArray->ByteArray):ai:={ f with name:=name,blocks:=f.blocks.map (bM to) }
theorem L7(b:bE):(bM to b).ins=b.ins:=by unfold bM;split<;>rfl
theorem Hm(b:bE):(bM to b).fin.kind=b.fin.kind:=by unfold bM;split<;>rfl
theorem TL(b:bE):nextR (bM to b).fin=nextR b.fin:=by unfold bM;split<;>rfl
theorem aeT(b:bE):iZ (bM to b).fin=iZ b.fin:=by unfold bM;split<;>rfl
theorem J5(b:bE):mZ (bM to b)=mZ b:=by unfold bM;split<;>rfl
theorem afK(b:bE):gT (bM to b).fin=gT b.fin:=by unfold bM;split<;>rfl
theorem TG(b:bE):eI (bM to b)=eI b:=by unfold eI;rw[Hm]
theorem Hp(bs:List bE)(i:Nat):(bs.map (bM to)).getD i lU=bM to (bs.getD i lU):=by
 rw[dF,dF,List.getElem?_map];cases bs[i]? <;>rfl
theorem adN(bs:List bE):qv (bs.map (bM to))=qv bs:=by
 funext L b;unfold qv;rw[List.getElem?_map];cases bs[b]? with
 |none=>rfl
 |some x=>simp only[Option.map_some,TL]
theorem SI(bs:List bE)(k:Nat):dj (bs.map (bM to)) k=dj bs k:=by unfold dj;rw[adN]
theorem aeU(bs:List bE):jm (bs.map (bM to))=jm bs:=by
 funext s k;unfold jm;rw[List.getElem?_map];cases bs[k]? with
 |none=>rfl
 |some x=>simp only[Option.map_some,TL,afK,J5]
theorem aak(bs:List bE):qi (bs.map (bM to))=qi bs:=by funext s;unfold qi;rw[aeU,List.length_map]
theorem aal(bs:List bE)(n:Nat):rL (bs.map (bM to)) n=rL bs n:=by
 induction n with
 |zero=>rfl
 |succ n ih=>funext s;simp only[rL];rw[aak,ih]
theorem aeV(bs:List bE)(a:Nat):pU (bs.map (bM to)) a=pU bs a:=by unfold pU;rw[aal,List.length_map]
theorem aeW(bs:List bE)(s:CS)(b:Nat)(y:cv):vt (bs.map (bM to)) s b y=vt bs s b y:=by
 unfold vt uM;simp only[List.length_map,SI,Hp,aeT,J5]
theorem aeX(bs:List bE)(a:Nat):uB (bs.map (bM to)) a=uB bs a:=by
 unfold uB sY;simp only[List.length_map,aeV,Hp,J5,L7];congr 1;funext b;congr 2;congr 1;funext y;exact aeW bs _ b y
theorem aeY(bs:List bE)(k:Nat):pJ (bs.map (bM to)) k=pJ bs k:=by
 unfold pJ;rw[<- List.map_take];generalize bs.take k=l
 induction l with
 |nil=>rfl
 |cons b l ih=>
  simp only[List.map_cons,List.filter_cons,Hm];split
  .simp only[List.map_cons,ih,List.cons.injEq,and_true];unfold bM;split<;>rfl
  .exact ih
theorem aeZ{f:ai}{C:ByteArray}{b:bE}(h:iW f b.fin=true)(hn:eI b=true->nU (to b.fin.name)=true):iW (eS f C to) (bM to b).fin=true:=by
 have hb:∀ n,eu (eS f C to) n=eu f n:=fun n=>by simp[eu,eS]
 have hh:∀ x,oX (eS f C to) x=oX f x:=fun x=>by
  unfold oX HJ sd;simp only[hb]
 have he:∀ x,iW (eS f C to) x=iW f x:=fun x=>by
  unfold iW eA;simp only[hb,hh];rfl
 rw[he];unfold bM;split
 .rename_i hc;have J:=hn hc;unfold eI at hc;simp only[Bool.or_eq_true,decide_eq_true_eq] at hc;unfold iW at h ⊢;rcases hc with hc|hc
  .simp only[eA,hc,Int.reduceEq,if_false,if_true,aW] at h ⊢;exact⟨⟨J,h.1.2⟩,h.2⟩
  .simp only[eA,hc,Int.reduceEq,if_false,if_true,aW] at h ⊢;exact⟨⟨J,h.1.2⟩,h.2⟩
 .exact h
theorem adO{f:ai}{J:ByteArray}(h:lL f=true)(h1:nU J=true)(hn:∀ b∈f.blocks,eI b=true->nU (to b.fin.name)=true):lL (eS f J to)=true:=by
 unfold lL at h ⊢;simp only[aW] at h ⊢;obtain⟨C,M,U,X,g5⟩:=h;refine⟨?_,M,U,bS.2 fun k hk=>?_,bS.2 fun k hk=>?_⟩
 .unfold rR at C ⊢;simp only[aW] at C ⊢;refine⟨h1,C.2.1,C.2.2.1,C.2.2.2.1,C.2.2.2.2.1,?_⟩;have:=C.2.2.2.2.2;simpa[eS] using this
 .have hk:k<f.blocks.length:=by simpa[eS] using hk
  have:=bS.1 X k (List.mem_range.2 hk);unfold lK at this ⊢;have e:(eS f J to).blocks.getD k lU=bM to (f.blocks.getD k lU):=Hp _ _;have e2:pJ (eS f J to).blocks k=pJ f.blocks k:=aeY _ _;have hm:f.blocks.getD k lU∈f.blocks:=bu (dQ hk);simp only[e,e2,L7,Hm];simp only[aW] at this ⊢;refine⟨aeZ this.1 (hn _ hm),this.2.1,?_⟩;have e3:(bM to (f.blocks.getD k lU)).fin.a=(f.blocks.getD k lU).fin.a:=by unfold bM;split<;>rfl
  rw[e3];exact this.2.2
 .have hk:k<f.blocks.length:=by simpa[eS] using hk
  have:=bS.1 g5 k (List.mem_range.2 hk);unfold uD at this ⊢;have e:(eS f J to).blocks.getD k lU=bM to (f.blocks.getD k lU):=Hp _ _
  have e2:rM (eS f J to)=rM f:=by
   funext b l j;unfold rM eS;simp only[SI,List.length_map];rfl
  simp only[e,L7];rw[e2];exact this
theorem TF{f:ai}{C:ByteArray}(h:ep f=0)(h1:nU C=true)(hn:∀ b∈f.blocks,eI b=true->nU (to b.fin.name)=true):ep (eS f C to)=0:=by
 unfold ep at h ⊢;split at h
 .rename_i hf;rw[if_pos (adO hf h1 hn)];split at h
  .rename_i hr;rw[if_pos (by rw[show(eS f C to).blocks=f.blocks.map (bM to) from rfl,aeX];exact hr)]
  .cases h
 .cases h
theorem checked{f:ai}(h:ep f=0):lL f=true:=by
 unfold ep at h;split at h
 .assumption
 .cases h
theorem PE(bs:List bE):dP (bs.map (bM to))=(dP bs).map to:=by
 unfold dP
 induction bs with
 |nil=>rfl
 |cons b bs ih=>
  simp only[List.map_cons,List.filter_cons,TG];split
  .rename_i h;simp only[List.map_cons,ih,List.cons.injEq,and_true];unfold bM;rw[if_pos h]
  .exact ih
end
def lC:ByteArray:=⟨#[95]⟩
def qJ(f:ai):ai:=eS f lC fun _=>lC
def iy(f:ai):ByteArray:=jF (qJ f)
theorem JX{f:ai}(h:ep f=0):ep (qJ f)=0:=TF h oC fun _ _ _=>by decide
theorem KP{f:ai}(h:ep f=0):o3 (qJ f):=s6 (checked (JX h))
theorem PT{f g:ai}(hf:ep f=0)(hg:ep g=0)(h:iy f=iy g):(dP f.blocks).length=(dP g.blocks).length:=by
 have:=aaj (KP hf) (KP hg) h
 have e:∀ f:ai,(dP (qJ f).blocks).length=(dP f.blocks).length:=fun f=>by
  show(dP (f.blocks.map (bM _))).length=_;rw[PE,List.length_map]
 rw[e,e] at this;exact this
theorem QJ(f:ai)(C:ByteArray)(to:ByteArray->ByteArray):iy (eS f C to)=iy f:=by
 unfold iy qJ eS;simp only[List.map_map];congr 3;funext b;show bM _ (bM to b)=bM _ b;unfold bM;by_cases h:eI b=true
 .have h2:eI { b with fin:={ b.fin with name:=to b.fin.name } }=true:=h;rw[if_pos h,if_pos h2,if_pos h]
 .rw[if_neg h,if_neg h]
end Go.Argus
namespace Go.Argus
def iG(l:List Int):ByteArray:=mkStr (l.map (·+33))
theorem YI(a b:List Int):mkStr (a++b)=mkStr a++mkStr b:=by
 refine rZ ?_;simp[mkStr,bW]
theorem aaU(l:List Int)(n:Int):iG (l++[n])=iG l++mkStr [n+33]:=by simp[iG,YI]
theorem Ke(l:List Int):(iG l).size=l.length:=by
 show(iG l).data.size=_;simp[iG,mkStr]
theorem aaV{x:Int}(h:0<=x/\x<90):IntKind.i32.wrap (x+33)=x+33:=by
 unfold IntKind.wrap;simp[IntKind.signed,IntKind.bits];omega
def cW(l:List ai)(sh:List ByteArray)(ca:List (List Int)):List D:=[ba l,bP sh,bX ca]
@[simp] theorem aor (l : List ai) (sh : List ByteArray) (ca : List (List Int)) : (cW l sh ca).length = 3 := rfl
theorem Gn(l:List ai)(sh:List ByteArray)(ca:List (List Int)):∀ a∈cW l sh ca,Tr a:=.cons (iU l) (.cons (gS sh) (.cons (uA ca) .nil))
section
variable{κ:Type}[DecidableEq κ]
def jJ(fs:List κ)(k:κ):Nat:=fs.idxOf k
def fa(fs:List κ)(k:κ):Bool:=decide (k∈fs)
theorem Kf(a s:κ)(fs:List κ):fa (a::fs) s=(decide (a=s)||fa fs s):=by
 unfold fa;by_cases h:a=s
 .subst h;simp
 .have:s∈a::fs↔s∈fs:=by
   constructor
   .intro hm;rcases List.mem_cons.1 hm with e|e
    .exact absurd e.symm h
    .exact e
   .exact List.mem_cons_of_mem _
  rw[decide_eq_false h,Bool.false_or];exact decide_eq_decide.2 this
theorem Kg(a s:κ)(fs:List κ):jJ (a::fs) s=if a=s then 0 else jJ fs s+1:=by
 unfold jJ;rw[List.idxOf_cons];by_cases h:a=s
 .subst h;simp
 .rw[if_neg h,beq_eq_false_iff_ne.2 h];rfl
theorem R2{ks:List κ}{k:Nat}{s:κ}(h:ks[k]? =some s):
 bt (ks.take (k+1))=(if fa (bt (ks.take k)) s then bt (ks.take k) else bt (ks.take k)++[s])/\(bl ks).take (k+1)=(bl ks).take k++[if fa (bt (ks.take k)) s then jJ (bt (ks.take k)) s else(bt (ks.take k)).length]:=by
 have h1:ks.take (k+1)=ks.take k++[s]:=by rw[List.take_add_one,h];rfl
 have h2:bt (ks.take (k+1))=(if s∈bt (ks.take k) then bt (ks.take k) else bt (ks.take k)++[s]):=by rw[h1,aaW]
 unfold fa jJ;simp only[decide_eq_true_eq];refine⟨h2,?_⟩;rw[List.take_add_one,Gp h];congr 1;show [(bt ks).idxOf s]=_
 have hp:bt (ks.take (k+1))<+:bt ks:=by
  have:=PR (ks.take (k+1)) (ks.drop (k+1))
  rwa[List.take_append_drop] at this
 rw[Qm hp (by rw[nQ,h1];simp),h2];split
 .rfl
 .rename_i hn;rw[List.idxOf_append,if_neg hn];simp
end
def fc(fs:List ByteArray):List (Value×D):=fs.zipIdx.map fun x=>(.string x.1,I (x.2:Nat))
theorem Q3(s:ByteArray):∀ (fs:List ByteArray) (j:Nat),cT (.string s) ((fs.zipIdx j).map fun x=>(Value.string x.1,I (x.2:Nat)))=if fa fs s then some (jJ fs s,I ((jJ fs s+j:Nat):Int)) else none
 |[],j=>rfl
 |a::fs,j=>by
  have ih:=Q3 s fs (j+1);simp only[List.zipIdx_cons,List.map_cons,cT];rw[Kf,Kg];by_cases h:a=s
  .subst h;have hv:lx (Value.string a) (.string a)=true:=by show(a.data.toList==a.data.toList)=true;simp
   simp[hv]
  .have hv:lx (Value.string a) (.string s)=false:=beq_eq_false_iff_ne.2 fun e=>h (rZ e);simp only[hv,h,decide_false,Bool.false_or,Bool.false_eq_true,if_false];rw[ih];cases fa fs s with
   |false=>rfl
   |true=>
    simp only[if_true,Option.map_some];rw[show jJ fs s+(j+1)=jJ fs s+1+j by omega]
theorem KO(s:ByteArray)(fs:List ByteArray):cT (.string s) (fc fs)=if fa fs s then some (jJ fs s,I (jJ fs s:Nat)) else none:=Q3 s fs 0
theorem aaX(fs:List ByteArray)(s:ByteArray):fc (fs++[s])=fc fs++[(.string s,I (fs.length:Nat))]:=by
 unfold fc;rw[List.zipIdx_append,List.map_append];simp
theorem Te{s:ByteArray}{fs:List ByteArray}(h:fa fs s=false):gp (.string s) (I (fs.length:Nat)) (fc fs)=fc (fs++[s]):=by
 unfold gp;rw[KO,h,aaX];rfl
theorem R3(fs:List ByteArray):(fc fs).length=fs.length:=by simp[fc]
end Go.Argus
namespace Go.Proofs.Tryz.K
theorem aj'{s:ByteArray}:aB prog 112 [S s] (S lC):=by
 refine bj agT (.cons (.s _) .nil) (Tr.s _) ?_;rw[agU];refine ws ?_;refine SS ?_;refine er ?_;refine SS ?_;exact aa (aD rfl rfl)
theorem jw{l:List ai}{sh:List ByteArray}{ca:List (List Int)}:aB prog 48 [.agg (cW l sh ca)] (I l.length):=by
 refine bj aka (.cons (.agg (Gn l sh ca)) .nil) (Tr.s _) ?_;rw[akb];refine aw ?_;refine ab ?_;refine aa (bH (dA [(0,cW l sh ca,82)] eH (l:=[(1,.pt (cW l sh ca))]) eH) (ag ?_));refine aY ?_;exact aa (aD rfl rfl)
theorem Oy{l:List Int}(h:∀ n∈l,0<=n/\n<90)(hl:l.length<=100000)(U:l≠[]):aB prog 83 [aT l] (S (iG l)):=by
 refine bj akc (.cons (di l) .nil) (Tr.s _) ?_;rw[akd];refine ws ?_;refine SS ?_;refine er ?_;refine Is (ab4 rfl V.h V.h) ak ?_;refine aa (az (aw ?_));refine ay ?_
 refine aa (bZ (fun s=>∃ u q m nx,aH prog s ⟨ax [(3,.rp 0 0)],m,nx⟩/\m 0=some (.bs u (.rs q 0 (iG l).size) 183)/\m q=some (.cells (fB (iG l)) 5)) (cH (α:=Nat×Bool×D×Option Nat×Mem×Nat)
  (fun s=>⟨ax [(3,.rp 0 0),(6,aT l),(7,I l.length),(8,I s.1)],s.2.2.2.2.1,s.2.2.2.2.2⟩)
  (fun s=>s.1<=l.length/\s.2.2.2.2.1 0=some (.bs s.2.1 s.2.2.1 183)/\uf s.2.2.2.2.1 s.2.2.1 (iG (l.take s.1)) s.2.2.2.1/\(∀ i,s.2.2.2.1=some i->i≠0/\i<s.2.2.2.2.2)/\0<s.2.2.2.2.2/\(0<s.1->s.2.2.2.1≠none)) (fun s=>l.length - s.1) (0,false,.z,none,_,_)
  (au eH) ⟨Nat.zero_le _,rfl,⟨rfl,rfl⟩,(fun i hi=>by cases hi),oM,fun h=>absurd h (Nat.lt_irrefl 0)⟩ ?_) ?_)
 .rintro⟨k,u,x,o,m,nx⟩ ⟨hk,J,hb,ho,X,M⟩;dsimp only at hk J hb ho X M ⊢;refine SS ?_;refine aa ⟨_,rfl,fun af=>?_,fun bm=>?_⟩
  .have gC:k<l.length:=by simpa using af
   clear af;obtain⟨y,hy⟩:∃ y,l[k]? =some y:=⟨_,aL gC⟩
   have C:=h y (bu hy);have hw:=aaV C;have hr:0<=IntKind.i32.wrap (y+33)/\IntKind.i32.wrap (y+33)<128:=by rw[hw];omega
   have eP:iG (l.take (k+1))=iG (l.take k)++mkStr [IntKind.i32.wrap (y+33)]:=by rw[List.take_add_one,hy,hw, <- aaU];rfl
   have bD:(iG (l.take k)).size<=100000:=by rw[Ke,List.length_take];omega
   generalize iG (l.take k)=a at*
   refine ws ?_;refine ay ?_;refine aa (fO ?_);refine ay ?_;refine sk (ae7 rfl V.h V.h (by first|assumption|omega)) ak ?_;refine gI (Iz (s:=mkStr [IntKind.i32.wrap (y+33)]) J kr hb ho X (by rw[show(mkStr [IntKind.i32.wrap (y+33)]).size=1 from rfl];omega)) rfl aK fun d m' al hp=>?_;obtain⟨rfl,rfl,rfl⟩:=hp;refine aa ?_;dsimp only[St.put];refine ab ?_;refine aa (bf (k+1,true,.rs nx 0 (a++mkStr [IntKind.i32.wrap (y+33)]).size,some nx,Ah m nx 0 183 (a++mkStr [IntKind.i32.wrap (y+33)]) o,nx+1) (au eH) ?_ oM);dsimp only;refine⟨oG,aj _ _ _,?_,fun i hi=>by cases hi;omega,oG,fun _=>by simp⟩;rw[eP];exact⟨rfl,(aA _ _ oG).trans (aj _ _ _)⟩
  .have gC:¬ k<l.length:=by simpa using bm
   have:k=l.length:=by omega
   subst this;rw[List.take_length] at hb;cases o with
   |none=>exact absurd rfl (M (by cases l with|nil=>exact absurd rfl U|cons a l=>simp))
   |some q=>
    obtain⟨rfl,hq⟩:=hb;exact⟨u,q,m,nx,au eH,J,hq⟩
 .rintro s ⟨u,q,m,nx,hg,h0,hq⟩;refine⟨_,hg,ag ?_⟩;refine gI (VJ h0 hq (by rw[Ke];cases l with|nil=>exact absurd rfl U|cons a l=>simp) (by rw[Ke];omega)) rfl aK fun d m' al hp=>?_;obtain⟨rfl,rfl,rfl⟩:=hp;dsimp only[St.put];refine SS ?_;exact aa (aD rfl rfl)
theorem u9:prog.underlying 9=some .string:=kr
theorem w7(s:ByteArray):cL prog 9 (.string s)=true:=by simp[cL,u9]
theorem Ie(fs:List ByteArray):(fc fs).all (fun e=>cL prog 9 e.1)=true:=by
 refine bS.2 fun e he=>?_;obtain⟨x,_,rfl⟩:=List.mem_map.1 he;exact w7 _
theorem UX:mB prog (lW prog 144)=I 0:=kr
theorem aek(s:ByteArray)(fs:List ByteArray):fH prog 144 true (cT (.string s) (fc fs))=.aM [I (if fa fs s then(jJ fs s:Nat) else 0:Int),B (fa fs s)]:=by
 rw[KO];cases fa fs s with
 |true=>rfl
 |false=>
  show(D.aM [mB prog (lW prog 144),_])=_;rw[UX];rfl
theorem Fm{ks:List ByteArray}(hl:ks.length<=100000):aB prog 82 [bP ks] (.aM [aT (ao (bl ks)),I (bt ks).length]):=by
 refine bj ake (.cons (gS ks) .nil) (.aM (.cons (di _) (.cons (.s _) .nil))) ?_;rw[akf];refine ws ?_;refine ab ?_;refine er ?_;refine ab ?_;refine aa (aw ?_);refine SS ?_;refine aa ⟨_,.rW _ _ _ 5 3 rfl,az (aw ?_)⟩;refine ay ?_
 refine aa (bZ (fun s=>∃ r nx,r≠0/\aH prog s ⟨ax [(4,.mp 0),(5,.rs r 0 ks.length)],br [(0,.map (fc (bt ks))),(r,.cells ((ao (bl ks)).map I) 3)],nx⟩) (cH (α:=Nat×Nat×Nat)
  (fun s=>⟨ax [(4,.mp 0),(5,.rs s.2.1 0 s.1),(11,bP ks),(12,I ks.length),(13,I s.1)],br [(0,.map (fc (bt (ks.take s.1)))),(s.2.1,.cells ((ao ((bl ks).take s.1)).map I) 3)],s.2.2⟩)
  (fun s=>s.1<=ks.length/\0<s.2.1/\s.2.1<s.2.2) (fun s=>ks.length - s.1) (0,1,2)
  (cn eH eH) ⟨Nat.zero_le _,oC,oC⟩ ?_) ?_)
 .rintro⟨k,r,nx⟩ ⟨hk,X,hr⟩;dsimp only at hk X hr ⊢;refine SS ?_;refine aa ⟨_,rfl,fun h=>?_,fun h=>?_⟩
  .have af:k<ks.length:=by simpa using h
   clear h;obtain⟨y,hy⟩:∃ y,ks[k]? =some y:=⟨_,aL af⟩
   obtain⟨C,J⟩:=R2 hy;have E0:(bt (ks.take k)).length<=100000:=by have:=uJ (ks.take k);simp at this;omega
   have U:((bl ks).take k).length=k:=by simp;omega
   generalize bt (ks.take k)=fs at*
   generalize (bl ks).take k=out at*
   have ap:br [(0,Row.map (fc fs)),(r,.cells ((ao out).map I) 3)] 0=some (.map (fc fs)):=rfl;have iz:br [(0,Row.map (fc fs)),(r,.cells ((ao out).map I) 3)] r=some (.cells ((ao out).map I) 3):=by simp[br];omega
   have nE:((ao out).map I).length=k:=by simp[U]
   refine ws ?_;refine ay ?_;refine er ?_;refine ab ?_;refine av (Gk rfl ap rfl Es (aek y fs)) aK ⟨Et,w7 y,Ie fs⟩ ?_;refine bw ?_;cases hm:fa fs y with
   |true=>
    rw[hm] at C J;simp only[if_true] at C J ⊢;refine aa (az (ag ?_));refine ab ?_;refine aa (cA rfl (fun h=>by cases h) fun _=>cm (fO ?_));refine bw ?_;refine aa ?_;refine ab ?_;refine aa (bf (k+1,nx+1,nx+1+1) ?_ ⟨oM,oM,oM⟩ oM);dsimp only;rw[C,J];refine cn eH ⟨?_,?_,trivial⟩
    .exact ah oG (ah oG (ah oG ap))
    .exact(aj _ _ _).trans (by simp;rfl)
   |false=>
    rw[hm] at C J;simp only[Bool.false_eq_true,if_false] at C J ⊢;refine aa (az (ag ?_));refine ab ?_;refine aa (cA rfl (fun _=>az (ag ?_)) fun h=>by cases h);refine SS ?_;refine sk (LK rfl rfl V.h) ak ?_;refine SS ?_;rw[R3];refine er ?_;refine ay ?_;refine bQ (yM (key:=.string y) (v:=I (fs.length:Nat)) rfl ap rfl rfl Es) aK ⟨Et,w7 y,Ie fs⟩ ?_;rw[Te hm];have M:up (br [(0,Row.map (fc fs)),(r,.cells ((ao out).map I) 3)]) 0 (some (.map (fc (fs++[y])))) 0=some (.map (fc (fs++[y]))):=aj _ _ _;have iz:=ah (f:=br [(0,Row.map (fc fs)),(r,.cells ((ao out).map I) 3)]) (k:=0) (v:=some (.map (fc (fs++[y])))) oG iz;refine aa (fO ?_);refine bw ?_;refine aa ?_;refine ab ?_;refine aa (bf (k+1,nx+1,nx+1+1) ?_ ⟨oM,oM,oM⟩ oM);dsimp only;rw[C,J];refine cn eH ⟨?_,?_,trivial⟩
    .exact ah oG (ah oG (ah oG M))
    .exact(aj _ _ _).trans (by simp;rfl)
  .have bm:¬ k<ks.length:=by simpa using h
   have:k=ks.length:=by omega
   subst this;rw[List.take_length,dq oS];exact⟨r,nx,oG,au eH⟩
 .rintro s ⟨r,nx,hr,hg⟩;refine⟨_,hg,aw ?_⟩;have ap:br [(0,Row.map (fc (bt ks))),(r,.cells ((ao (bl ks)).map I) 3)] 0=some (.map (fc (bt ks))):=rfl;refine ab ?_;refine sk (LK rfl rfl V.h) ak ?_;refine ab ?_;rw[R3];refine aa (bH (eX (i:=r) (cs:=(ao (bl ks)).map I) (e:=3) (by simp[br,hr]) (l:=[(2,aT (ao (bl ks))),(3,I (bt ks).length)]) ⟨?_,rfl,trivial⟩) (gG rfl rfl rfl));exact(jR (by rw[c3];simp)).trans oS
end Go.Proofs.Tryz.K
namespace Go.Abs
def df(i:Nat)(cs:List D)(sz:Nat)(m:Mem):Mem:=fun j=>if j=i then none else(m j).map (Row.sub (cM i cs sz))
theorem mi{P:Program}{env:Env}{m:Mem}{nx i:Nat}{cs:List D}{e:TypeId}{l:List (Nat×D)}(hm:m i=some (.cells cs e))(hl:lN l fun t=>sub (cM i cs (P.cellsOf e)) (env t)):aH P ⟨env,m,nx⟩ ⟨ax l,df i cs (P.cellsOf e) m,nx⟩:=
 (aH.freeze env m nx i cs e hm).trans (au hl)
theorem iv{i j sz:Nat}{cs:List D}{m:Mem}{r:Row}(h:m j=some r)(hj:j≠i)(hr:my (fun k=>k=i) r):df i cs sz m j=some r:=by
 unfold df;rw[if_neg hj,h];exact congrArg some (hr i cs sz rfl)
end Go.Abs
namespace Go.Argus
theorem Db{X:Nat->Prop}{α:Type}{f:α->List D}(h:∀ x,∀ d∈f x,fR X d)(l:List α){e:TypeId}:my X (.cells (l.flatMap f) e):=my.cells fun d hd=>by
 obtain⟨x,_,hx⟩:=List.mem_flatMap.1 hd;exact h x d hx
theorem aoz{X:Nat->Prop}(x:cv):∀ d∈cg x,fR X d:=fun d hd=>by
 simp only[cg,List.mem_cons,List.not_mem_nil,or_false] at hd;rcases hd with rfl|rfl|rfl|rfl|rfl|rfl<;>first|exact .s _|exact .sl _ _
theorem aaY{X:Nat->Prop}(x:End):∀ d∈bC x,fR X d:=fun d hd=>by
 simp only[bC,List.mem_cons,List.not_mem_nil,or_false] at hd;rcases hd with rfl|rfl|rfl|rfl|rfl|rfl|rfl|rfl|rfl|rfl|rfl|rfl|rfl|rfl|rfl<;>first|exact .s _|exact .sl _ _
theorem Zb{X:Nat->Prop}(b:bE):∀ d∈bU b,fR X d:=fun d hd=>by
 rcases List.mem_cons.1 hd with rfl|hd
 .exact .sl _ _
 .exact aaY _ d hd
def headD(f:ai)(x:D):List D:=[S f.name,B f.iter,I f.args,U8 f.result,ir f.aO,ir f.bK,bP f.signals,x]
theorem ZN{X:Nat->Prop}{f:ai}{x:D}(h:fR X x):∀ d∈headD f x,fR X d:=fun d hd=>by
 simp only[headD,List.mem_cons,List.not_mem_nil,or_false] at hd;rcases hd with rfl|rfl|rfl|rfl|rfl|rfl|rfl|rfl<;>first|exact .s _|exact .sl _ _|exact h
theorem PS{X:Nat->Prop}:∀ d∈j0,fR X d:=fun d hd=>by
 simp only[j0,List.mem_cons,List.not_mem_nil,or_false] at hd;rcases hd with rfl|rfl|rfl|rfl|rfl|rfl|rfl|rfl<;>first|exact .s _|exact .z
def Grow(m:Mem)(lo hi:Nat)(x:D)(n:Nat)(cs:List D)(e:TypeId):Prop:=(n=0/\cs=[]/\x=.z)\/∃ r,lo<=r/\r<hi/\x=.rs r 0 n/\m r=some (.cells cs e)
theorem Grow.mono{m m':Mem}{lo hi C:Nat}{x:D}{n:Nat}{cs:List D}{e:TypeId}(h:Grow m lo hi x n cs e)(hm:∀ j,lo<=j->j<hi->m' j=m j)(hh:hi<=C):Grow m' lo C x n cs e:=by
 rcases h with h|⟨r,h1,h2,J,M⟩
 .exact .inl h
 .exact .inr ⟨r,h1,oG,J,by rw[hm r h1 h2,M]⟩
theorem Grow.oO{m:Mem}{lo hi C i sz:Nat}{x:D}{n:Nat}{cs cs':List D}{e:TypeId}(h:Grow m lo hi x n cs e)(U:hi<=i)(hh:hi<=C)(hr:my (fun k=>k=i) (.cells cs e)):Grow (df i cs' sz m) lo C x n cs e:=by
 rcases h with h|⟨r,h1,h2,J,M⟩
 .exact .inl h
 .exact .inr ⟨r,h1,oG,J,iv M oG hr⟩
theorem Grow.UY{m:Mem}{lo hi i:Nat}{x:D}{n:Nat}{cs:List D}{e:TypeId}(h:Grow m lo hi x n cs e)(C:hi<=i):fR (fun k=>k=i) x:=by
 rcases h with⟨_,_,rfl⟩|⟨r,h1,h2,rfl,J⟩
 .exact .z
 .exact .rs oG
structure TB(m:Mem)(nx:Nat)(f:ai)(x:D)(bs:List bE):Prop where
 r1:m 1=some (.cells j0 48)
 r2:m 2=some (.cells (headD f x) 48)
 lt:2<nx
 gr:Grow m 3 nx x bs.length (bs.flatMap bU) 59
theorem TB.mono{m m':Mem}{nx C:Nat}{f:ai}{x:D}{bs:List bE}(h:TB m nx f x bs)(hm:∀ j,j<nx->m' j=m j)(hn:nx<=C):TB m' C f x bs:=
 ⟨by rw[hm 1 (by have:=h.lt;omega)];exact h.r1,by rw[hm 2 h.lt];exact h.r2,by have:=h.lt;omega,h.gr.mono (fun j _ hj=>hm j hj) hn⟩
theorem TB.oO{m:Mem}{nx C i sz:Nat}{f:ai}{x:D}{bs:List bE}{cs:List D}(h:TB m nx f x bs)(hi:nx<=i)(hn:nx<=C):TB (df i cs sz m) C f x bs:=
 ⟨iv h.r1 (by have:=h.lt;omega) (.cells PS),iv h.r2 (by have:=h.lt;omega) (.cells (ZN (h.gr.UY hi))),by have:=h.lt;omega,h.gr.oO hi hn (Db Zb _)⟩
end Go.Argus
namespace Go.Proofs.Tryz.K
theorem Ao{f:ai}{name:ByteArray}{g:FuncId}{fs cs:List D}{to:ByteArray->ByteArray}(ht:Tr (.fn (.func g) fs cs))(qX:∀ X:Nat->Prop,fR X (.fn (.func g) fs cs))(hg:∀ b∈f.blocks,eI b=true->aB prog g (fs++[S b.fin.name]++cs) (S (to b.fin.name)))
 (h1:f.aO.length<=100000) (h2:f.bK.length<=100000) (h3:f.signals.length<=100000) (h4:f.blocks.length<=100000) (h5:∀ b∈f.blocks,b.ins.length<=100000/\(∀ x∈b.ins,x.args.length<=100000)/\b.fin.args.length<=100000/\b.fin.aP.length<=100000/\b.fin.ins.args.length<=100000):
 aB prog 57 [.agg (aR f),S name,.fn (.func g) fs cs] (.agg (aR (eS f name to))):=by
 have kr:=Xc (l:=f.aO) oG;have ks:=Xc (l:=f.bK) oG;have Ov:=Ov (l:=f.signals) oG;refine bj akg (.cons (.agg (kL f)) (.cons (.s _) (.cons ht .nil))) (.agg (kL _)) ?_;rw[akh];refine aw ?_;refine ab ?_;refine aa ⟨_,rG (i:=0) (cs:=aR f) (e:=48) rfl (l:=[(1,S name),(2,.fn (.func g) fs cs),(3,.pt (aR f)),(6,.rp 1 0)]) ⟨rfl,qX _ _ _ _ rfl,kY,rfl,trivial⟩ (ml:=[(1,.cells j0 48)]) eH,ag ?_⟩;refine ay ?_;refine er ?_;refine ay ?_;refine aa (dV acG ?_);refine ab ?_;refine r6 kr rfl aK ?_;refine ab ?_;refine r6 ks rfl aK ?_;refine ab ?_;refine cl Ov ?_;refine cz ?_;refine cq cx (aw ?_);refine ab ?_;have E':∀ i (jx:List D) sz,sub (cM i jx sz) (.fn (.func g) fs cs)=.fn (.func g) fs cs:=fun i jx sz=>qX (fun k=>k=i) i jx sz rfl;generalize hF:eS f name to=F at*
 have hn:F.name=name:=by rw[<- hF];rfl
 refine aa ⟨_,cn (l:=[(2,.fn (.func g) fs cs),(3,.pt (aR f)),(6,.rp 1 0),(7,.rp 2 0)]) eH (ml:=[(1,.cells j0 48),(2,.cells (headD F .z) 48)]) ⟨rfl,by subst hF;rfl,trivial⟩,az (aw ?_)⟩;refine aY ?_;have vY:∀ k,(F.blocks.take k)=(f.blocks.take k).map (bM to):=fun k=>by rw[<- hF];exact List.map_take.symm
 have E0:F.blocks.length=f.blocks.length:=by rw[<- hF];simp[eS]
 refine aa (bZ (fun s=>∃ x m nx,TB m nx F x F.blocks/\aH prog s ⟨ax [(6,.rp 1 0),(7,.rp 2 0)],m,nx⟩) (cH (α:=Nat×D×Mem×Nat)
  (fun s=>⟨ax [(2,.fn (.func g) fs cs),(6,.rp 1 0),(7,.rp 2 0),(30,cG f.blocks),(31,I f.blocks.length),(32,I s.1)],s.2.2.1,s.2.2.2⟩)
  (fun s=>s.1<=f.blocks.length/\TB s.2.2.1 s.2.2.2 F s.2.1 (F.blocks.take s.1)) (fun s=>f.blocks.length - s.1) (0,.z,_,_)
  (au eH) ⟨Nat.zero_le _,rfl,rfl,oM,.inl ⟨rfl,rfl,rfl⟩⟩ ?_) ?_)
 .rintro⟨k,x7,m,nx⟩ ⟨hk,M⟩;dsimp only at hk M ⊢;refine SS ?_;refine aa ⟨_,rfl,fun h=>?_,fun h=>?_⟩
  .have af:k<f.blocks.length:=by simpa using h
   clear h;obtain⟨b,hb⟩:∃ b,f.blocks[k]? =some b:=⟨_,aL af⟩
   have CE:b∈f.blocks:=bu hb;obtain⟨Ol,Om,gN,qZ,hb5⟩:=h5 b CE;have hgb:=hg b CE;have eP:F.blocks.take (k+1)=F.blocks.take k++[bM to b]:=by rw[vY,vY,List.take_add_one,hb,List.map_append];rfl
   refine aw ?_;refine aY ?_;refine aa ⟨_,mi (i:=nx) (cs:=bU b) (e:=59) (aj _ _ _) (l:=[(2,.fn (.func g) fs cs),(6,.rp 1 0),(7,.rp 2 0),(30,cG f.blocks),(31,I f.blocks.length),(32,I k),(9,.pt (bU b))]) ⟨E' _ _ _,gE (by have:=M.lt;omega),gE (by have:=M.lt;omega),rfl,rfl,rfl,mq,trivial⟩,ag ?_⟩;have I7:TB (df nx (bU b) (prog.cellsOf 59) _) (nx+1) F x7 (F.blocks.take k):=(M.mono (m':=up (up m nx (some (.cells (a8 prog 59) 59))) nx (some (.cells (bU b) 59))) (fun j hj=>(aA _ _ oG).trans (aA _ _ oG)) (aZ _)).oO (aZ _) oG;have cF:=M.lt;have aki:a8 prog 59=_:=z59;rw[aki] at I7;generalize df nx (bU b) (prog.cellsOf 59) _=m1 at*
   clear M;refine ay ?_;refine er ?_;have ap:∀ {r},up (up m1 (nx+1) r) (nx+1) (some (.cells (bU b) 59)) (nx+1)=some (.cells (kx b.ins::bC b.fin) 59):=aj _ _ _;refine SS ?_;refine bQ (eR (d:=.z) (cs':=_) rfl rfl ap rfl rfl) ak (cw V.h V.h (by first|(simp;done)|exact⟨rfl,bJ rfl⟩|(simp;omega)) rfl) ?_;refine aa (az (aw ?_));refine aY ?_
   refine aa (bZ (fun s=>∃ m' C,TB m' (nx+1) F x7 (F.blocks.take k)/\m' (nx+1)=some (.cells (bU b) 59)/\nx+2<=C/\aH prog s ⟨ax [(2,.fn (.func g) fs cs),(6,.rp 1 0),(7,.rp 2 0),(9,.pt (bU b)),(10,.rp (nx+1) 0),(30,cG f.blocks),(31,I f.blocks.length),(32,I k)],m',C⟩) (cH (α:=Nat×D×Mem×Nat)
    (fun s=>⟨ax [(2,.fn (.func g) fs cs),(6,.rp 1 0),(7,.rp 2 0),(9,.pt (bU b)),(10,.rp (nx+1) 0),(30,cG f.blocks),(31,I f.blocks.length),(32,I k),(39,kx b.ins),(40,I b.ins.length),(41,I s.1)],s.2.2.1,s.2.2.2⟩)
    (fun s=>s.1<=b.ins.length/\TB s.2.2.1 (nx+1) F x7 (F.blocks.take k)/\s.2.2.1 (nx+1)=some (.cells (s.2.1::bC b.fin) 59)/\Grow s.2.2.1 (nx+2) s.2.2.2 s.2.1 s.1 ((b.ins.take s.1).flatMap cg) 54/\nx+2<=s.2.2.2) (fun s=>b.ins.length - s.1) (0,.z,_,_)
    (au eH) ⟨Nat.zero_le _,I7.mono (fun j hj=>(aA _ _ oG).trans ((aA _ _ oG).trans (aA _ _ oG))) (aZ _),aj _ _ _,.inl ⟨rfl,rfl,rfl⟩,oM⟩ ?_) ?_)
   .rintro⟨j,y0,m',C⟩ ⟨hj,xP,hq,hG,B6⟩;dsimp only at hj xP hq hG B6 ⊢;refine SS ?_;refine aa ⟨_,rfl,fun h=>?_,fun h=>?_⟩
    .have cZ:j<b.ins.length:=by simpa using h
     clear h;obtain⟨y,hy⟩:∃ y,b.ins[j]? =some y:=⟨_,aL cZ⟩
     have sN:=sN (l:=y.args) (Om y (bu hy));have VN:b.ins.take (j+1)=b.ins.take j++[y]:=by rw[List.take_add_one,hy];rfl
     have Oz:((b.ins.take j).flatMap cg).length=j*6:=by
      rw[FT (sz:=6) (fun _=>rfl),List.length_take];congr 1;omega
     generalize b.ins.take j=l0 at*
     refine ws ?_;refine aY ?_;refine er ?_;refine SS ?_;refine av (kM rfl (aj _ _ _) rfl V.h) ak (kN V.h V.h rfl) ?_;refine cl sN ?_;refine SS ?_;refine bQ (eR (d:=.sl _ _) (cs':=_) rfl rfl (aj _ _ _) rfl rfl) ak (cw V.h V.h (by first|(simp;done)|exact⟨rfl,bJ rfl⟩|(simp;omega)) rfl) ?_;refine aa (fO ?_);have ap:∀ {a J c},up (up (up m' C a) C J) C c (nx+1)=some (.cells (y0::bC b.fin) 59):=ah oG (ah oG (ah oG hq));have kd:(y0::bC b.fin).drop 0=y0::bC b.fin:=rfl;refine aY ?_;rcases hG with⟨rfl,Fo,rfl⟩|⟨r,wj,xQ,rfl,lq⟩
     .refine eM (Bj rfl rfl V.h V.h (lE (aj _ _ _) rfl)) ak ⟨V.h,(by first|omega|exact bJ rfl|(simp;done)|(simp;omega)),oC,(by unfold maxLen;first|omega|(simp;omega)),(by rw[OA];first|omega|(simp;omega))⟩ ?_;have ap:∀ {a J c d e2},up (up (up (up (up m' C a) C J) C c) (C+1) d) (C+1+1) e2 (nx+1)=some (.cells (.z::bC b.fin) 59):=ah oG (ah oG (ah oG (ah oG (ah oG hq))));refine ab ?_;refine aa ?_;refine ab ?_;refine aa (bf (0+1,.rs (C+1+1) 0 1,_,C+1+1+1) (au eH) ?_ oM);dsimp only;refine⟨oG,xP.mono (fun i hi=>(aA _ _ oG).trans ((aA _ _ oG).trans ((aA _ _ oG).trans ((aA _ _ oG).trans ((aA _ _ oG).trans (aA _ _ oG)))))) (aZ _),aj _ _ _,.inr ⟨C+1+1,oG,oG,rfl,(aA _ _ oG).trans ((aj _ _ _).trans ?_)⟩,oG⟩;rw[VN,List.flatMap_append,Fo];simp;rfl
     .have iz:∀ {a J c d},up (up (up (up m' C a) C J) C c) (C+1) d r=some (.cells (l0.flatMap cg) 54):=ah oG (ah oG (ah oG (ah oG lq)));refine jI (jB rfl iz rfl Xe OC (lE (aj _ _ _) rfl) rfl) aK ⟨VO,rfl,bJ rfl,oC,by rw[Oz];omega,by unfold maxLen;omega,by rw[OA];omega,by simp;omega⟩ ?_;have ap:∀ {a J c d e1 e2},up (up (up (up (up (up m' C a) C J) C c) (C+1) d) r e1) (C+1+1) e2 (nx+1)=some (.cells (.rs r 0 j::bC b.fin) 59):=ah oG (ah oG (ah oG (ah oG (ah oG (ah oG hq)))));refine ab ?_;refine aa ?_;refine ab ?_;refine aa (bf (j+1,.rs (C+1+1) 0 (j+1),_,C+1+1+1) (au eH) ?_ oM);dsimp only;refine⟨oG,xP.mono (fun i hi=>(aA _ _ oG).trans ((aA _ _ oG).trans ((aA _ _ oG).trans ((aA _ _ oG).trans ((aA _ _ oG).trans ((aA _ _ oG).trans (aA _ _ oG))))))) (aZ _),aj _ _ _,.inr ⟨C+1+1,oG,oG,rfl,(aA _ _ oG).trans ((aj _ _ _).trans ?_)⟩,oG⟩;rw[VN,List.flatMap_append];simp;rfl
    .have bm:¬ j<b.ins.length:=by simpa using h
     have:j=b.ins.length:=by omega
     subst this;rw[List.take_length] at hG;rcases hG with⟨h0,Fo,rfl⟩|⟨r,wj,xQ,rfl,lq⟩
     .have iF:b.ins=[]:=List.length_eq_zero_iff.1 h0;refine⟨up m' (nx+1) (some (.cells (bU b) 59)),C,xP.mono (fun j hj=>aA _ _ oG) (aZ _),aj _ _ _,B6,?_⟩;refine(au (l:=[(2,.fn (.func g) fs cs),(6,.rp 1 0),(7,.rp 2 0),(9,.pt (bU b)),(10,.rp (nx+1) 0),(30,cG f.blocks),(31,I f.blocks.length),(32,I k)]) eH).trans (aH.og _ _ _ _ _ (fun t=>uK _) fun i=>?_);by_cases hi:i=nx+1
      .subst hi;refine .inr ⟨_,bU b,59,hq,aj _ _ _,rfl,fun k d d' hd fm=>?_⟩;cases k with
       |zero=>
        simp only[List.getElem?_cons_zero,aG,bU] at hd fm;subst hd fm;rw[iF];exact B7
       |succ k=>
        simp only[List.getElem?_cons_succ,bU] at hd fm;rw[hd] at fm;cases fm;exact uK _
      .exact .inl (aA _ _ hi)
     .refine⟨df r _ (prog.cellsOf 54) m',C,xP.oO oG (aZ _),?_,B6,mi lq ⟨E' _ _ _,gE oG,gE oG,rfl,gE oG,rfl,rfl,rfl,trivial⟩⟩;unfold df;rw[if_neg oG,hq];show some (Row.cells (sub (cM r (b.ins.flatMap cg) (prog.cellsOf 54)) (.rs r 0 b.ins.length)::bC b.fin) 59)=_;rw[BJ,OC,List.drop_zero,Dn (f:=cg) (sz:=6) (fun _=>rfl),List.take_length];rfl
   .rintro s ⟨m',C,xP,hq,B6,dU⟩;refine⟨_,dU,?_⟩;clear dU;have kA:=sN (l:=b.fin.args) gN;have Ow:=Ow (l:=b.fin.aP) oG;have kI:=sN (l:=b.fin.ins.args) hb5;refine dV aaZ ?_;have ap:=hq;refine ay ?_;refine r6 kA rfl aK ?_;refine ay ?_;refine cl Ow ?_;refine aY ?_;refine r6 kI rfl aK ?_;refine ay ?_;have ap:∀ {a},up m' (nx+1) a (nx+1)=a:=aj _ _ _;refine ay ?_;have ap:∀ {a J},up (up m' (nx+1) a) (nx+1) J (nx+1)=J:=aj _ _ _;refine aY ?_;refine cq cx ?_;refine jf (fun s=>∃ U,TB U (nx+1) F x7 (F.blocks.take k)/\U (nx+1)=some (.cells (bU (bM to b)) 59)/\aH prog s ⟨ax [(2,.fn (.func g) fs cs),(6,.rp 1 0),(7,.rp 2 0),(9,.pt (bU b)),(10,.rp (nx+1) 0),(30,cG f.blocks),(31,I f.blocks.length),(32,I k)],U,C⟩) ?_ ?_
    .refine ws ?_;refine du ?_;refine ab ?_;refine aa (aQ rfl (fun hp=>tw ?_) fun hp=>cO ?_)
     .have hc:eI b=true:=by
       show(decide (b.fin.kind=6)||decide (b.fin.kind=7))=true;revert hp;cases h6:(b.fin.kind==6)<;>simp_all
      have kc:=hgb hc;have ap:∀ {a J c},up (up (up m' (nx+1) a) (nx+1) J) (nx+1) c (nx+1)=c:=aj _ _ _;refine aY ?_;refine cl kc ?_;refine ab ?_;refine bQ (eR (d:=.s (.string _)) (cs':=_) rfl rfl ap rfl rfl) ak (cw V.h V.h (by first|(simp;done)|exact⟨rfl,bJ rfl⟩|(simp;omega)) rfl) ?_;refine aa ⟨_,xP.mono (fun i hi=>(aA _ _ oG).trans ((aA _ _ oG).trans ((aA _ _ oG).trans (aA _ _ oG)))) (aZ _),?_,au eH⟩;rw[bM,if_pos hc];exact aj _ _ _
     .have hc:¬ eI b=true:=by
       show ¬ (decide (b.fin.kind=6)||decide (b.fin.kind=7))=true;revert hp;cases h6:(b.fin.kind==6)<;>simp_all
      refine⟨_,xP.mono (fun i hi=>(aA _ _ oG).trans ((aA _ _ oG).trans (aA _ _ oG))) (aZ _),?_,au eH⟩;rw[bM,if_neg hc];exact aj _ _ _
    .rintro s ⟨U,CF,zN,dU⟩;refine⟨_,dU,fO ?_⟩;clear dU;have lk:(F.blocks.take k).length=k:=by rw[List.length_take];omega
     have lc:((F.blocks.take k).flatMap bU).length=k*16:=by rw[FT (sz:=16) (fun _=>rfl),lk]
     have ap:=CF.r2;have kd:(headD F x7).drop (0+7)=x7::[]:=rfl;refine ab ?_;have ap:=zN;refine av (fz (vs:=bU _) rfl ap V.h V.h rfl) ak (fA V.h V.h (by first|(simp;done)|omega|exact bJ rfl)) ?_;refine SS ?_;rcases CF.gr with⟨h0,Fo,rfl⟩|⟨r,wj,xQ,rfl,lq⟩
     .refine eM (Bj rfl rfl V.h V.h (lE (aj _ _ _) rfl)) ak ⟨V.h,(by first|omega|exact bJ rfl|(simp;done)|(simp;omega)),oC,(by unfold maxLen;first|omega|(simp;omega)),(by rw[OD];first|omega|(simp;omega))⟩ ?_;have ap:∀ {a J},up (up U C a) (C+1) J 2=some (.cells (headD F .z) 48):=ah oG (ah oG CF.r2);refine ab ?_;refine aa ?_;refine ab ?_;refine aa (bf (k+1,.rs (C+1) 0 1,_,C+1+1) (au eH) ?_ oM);dsimp only;have ua:k=0:=by omega
      subst ua;refine⟨oG,(aA _ _ oG).trans ((aA _ _ oG).trans CF.r1),rfl,oG,.inr ⟨C+1,oG,oG,?_,(aA _ _ oG).trans ((aj _ _ _).trans ?_)⟩⟩
      .rw[eP];rfl
      .rw[eP,List.flatMap_append,Fo];simp;rfl
     .have iz:∀ {a},up U C a r=some (.cells ((F.blocks.take k).flatMap bU) 59):=ah oG lq;refine jI (jB rfl iz rfl OE Jb (lE (aj _ _ _) rfl) rfl) aK ⟨Nj,rfl,bJ rfl,oC,by rw[lc,lk];omega,by unfold maxLen;omega,by rw[OD];omega,by simp;omega⟩ ?_;have ap:∀ {a J c},up (up (up U C a) r J) (C+1) c 2=some (.cells (headD F (.rs r 0 (F.blocks.take k).length)) 48):=ah oG (ah oG (ah oG CF.r2));refine ab ?_;refine aa ?_;refine ab ?_;refine aa (bf (k+1,.rs (C+1) 0 ((F.blocks.take k).length+1),_,C+1+1) (au eH) ?_ oM);dsimp only;refine⟨oG,(aA _ _ oG).trans ((aA _ _ oG).trans ((aA _ _ oG).trans CF.r1)),rfl,oG,.inr ⟨C+1,oG,oG,?_,(aA _ _ oG).trans ((aj _ _ _).trans ?_)⟩⟩
      .rw[eP,List.length_append];rfl
      .rw[eP,List.flatMap_append];simp;rfl
  .have bm:¬ k<f.blocks.length:=by simpa using h
   have:k=f.blocks.length:=by omega
   subst this;rw[dq oG] at M;exact⟨x7,m,nx,M,au eH⟩
 .rintro s ⟨x,m,nx,M,dU⟩
  have oJ:∃ U ij,aH prog s ⟨ax [(6,.rp 1 0),(7,.rp 2 0)],U,ij⟩/\U 1=some (.cells j0 48)/\U 2=some (.cells (aR F) 48):=by
   rcases M.gr with⟨h0,Fo,rfl⟩|⟨r,wj,xQ,rfl,lq⟩
   .have iF:F.blocks=[]:=List.length_eq_zero_iff.1 h0;refine⟨up m 2 (some (.cells (aR F) 48)),nx,dU.trans (aH.og _ _ _ _ _ (fun t=>uK _) fun i=>?_),(aA _ _ oG).trans M.r1,aj _ _ _⟩;by_cases hi:i=2
    .subst hi;refine .inr ⟨_,aR F,48,M.r2,aj _ _ _,rfl,fun k d d' hd fm=>?_⟩
     match k with
     |0|1|2|3|4|5|6=>cases (show some d=some d' from hd.symm.trans fm);exact uK _
     |7=>
      have e1:(headD F .z)[7]? =some .z:=rfl;have e2:(aR F)[7]? =some (cG F.blocks):=rfl;rw[e1] at hd;rw[e2] at fm;cases hd;cases fm;rw[iF];exact B7
     |k+8=>simp[headD] at hd
    .exact .inl (aA _ _ hi)
   .refine⟨df r _ (prog.cellsOf 59) m,nx,dU.trans (mi lq ⟨gE oG,gE oG,trivial⟩),iv M.r1 oG (.cells PS),?_⟩;unfold df;rw[if_neg oG,M.r2];show some (Row.cells (headD F (sub (cM r (F.blocks.flatMap bU) (prog.cellsOf 59)) (.rs r 0 F.blocks.length))) 48)=_;rw[BJ,Jb,List.drop_zero,Dn (f:=bU) (sz:=16) (fun _=>rfl),List.take_length];rfl
  obtain⟨U,ij,Fp,q1,q2⟩:=oJ;refine⟨_,Fp,ag ?_⟩;clear Fp dU;have ap:=q2;refine SS ?_;have ap:=q1;refine bQ (fM (cs':=aR _) rfl rfl ap rfl) ak (cw V.h V.h (by first|(simp;done)|exact⟨rfl,bJ rfl⟩|(simp;omega)) (by rfl)) ?_;exact aa (tv (iq (cs:=aR F) (vs:=aR F) rfl rfl Aj pA rfl t48 (bJ rfl)) rfl)
end Go.Proofs.Tryz.K
namespace Go.Argus
theorem Tf{f:ai}{l:List ai}(hl:l.length<=1000000)(h:∀ g∈l,ep g=0)(hf:f∈l):Lk f l:=by
 have C:=checked (h f hf);have M:=HI C
 have J:∀ b∈f.blocks,iW f b.fin=true:=fun b hb=>by
  unfold lL at C;simp only[aW] at C;obtain⟨k,hk⟩:=dN hb;have:=bS.1 C.2.2.2.1 k (List.mem_range.2 (bI.1 hk).1);unfold lK at this;rw[getD_some hk] at this;simp only[aW] at this;exact this.1
 refine⟨hl,by have:=M.lD;omega,fun b hb hk=>?_,fun b hb hk=>?_,fun b hb hk=>?_,fun g hg=>?_⟩
 .have:=J b hb;unfold iW at this;rcases hk with hk|hk<;>simp only[eA,hk,Int.reduceEq,if_false,if_true,aW,decide_eq_true_eq] at this<;>exact⟨fun r hr=>uy this.1.2.2.1 r hr,by have:=this.1.2.1;omega⟩
 .have:=J b hb;unfold iW at this;simp only[eA,hk,Int.reduceEq,if_false,if_true,aW,decide_eq_true_eq,Bool.or_eq_true,iu] at this;rcases this.1.2.2.2.1 with h1|h1
  .omega
  .exact(sZ h1).2
 .have:=J b hb;unfold iW at this;simp only[eA,hk,Int.reduceEq,if_false,if_true,aW,decide_eq_true_eq] at this;exact sZ this.1.2.1
 .have:=checked (h g hg);unfold lL rR at this;simp only[aW] at this;have:=lH.1 this.1.2.1;split at this<;>omega
structure jV(l:List ai):Prop where
 len:l.length<=60
 nJ:∀ f∈l,ep f=0
 yd:∀ i,i+1<l.length->Op.bytesLess (oU l i).toList (oU l (i+1)).toList=true
 calls:∀ f∈l,uV f l=true
theorem mz{l:List ai}(h:(dh l).2=0):jV l:=by
 unfold dh at h;split at h
 .cases h
 .rename_i J;split at h
  .rename_i i hi;have:=List.find?_some hi;simp only[bne_iff_ne,ne_eq] at this;exact absurd h this
  .rename_i hn;split at h
   .cases h
   .rename_i hc;rw[List.find?_eq_none] at hn hc
    have h1:∀ i,i<l.length->ky l i=0:=fun i hi=>by
     have:=hn i (List.mem_range.2 hi);simpa using this
    have C:∀ f∈l,ep f=0:=fun f hf=>by
     obtain⟨i,hi⟩:=dN hf;have:=h1 i (bI.1 hi).1;unfold ky at this;rw[hi] at this;simp only at this;split at this
     .assumption
     .exact this
    refine⟨oG,C,fun i hi=>?_,fun f hf=>?_⟩
    .have:=h1 (i+1) hi;obtain⟨f,hf⟩:∃ f,l[i+1]? =some f:=⟨_,aL hi⟩
     unfold ky at this;rw[hf] at this;simp only[C f (bu hf),if_true] at this;have e:oU l (i+1)=f.name:=by unfold oU;rw[hf]
     rw[e];cases hs:zx (oU l i) f.name with
     |false=>unfold zx at hs;simpa using hs
     |true=>
      rw[show i+1 - 1=i by omega,hs] at this;simp at this
    .obtain⟨i,hi⟩:=dN hf;have:=hc i (List.mem_range.2 (bI.1 hi).1);unfold s5 at this;rw[hi] at this;simpa using this
theorem Sx:∀ a:List UInt8,Op.bytesLess a a=false
 |[]=>rfl
 |x::a=>by
  have:=Sx a;unfold Op.bytesLess;simp[this]
theorem QC:∀ {a b c:List UInt8},Op.bytesLess a b=true->Op.bytesLess b c=true->Op.bytesLess a c=true
 |[],[],_,h,_=>by simp[Op.bytesLess] at h
 |_::_,[],_,h,_=>by simp[Op.bytesLess] at h
 |_,_::_,[],_,h=>by simp[Op.bytesLess] at h
 |[],_::_,_::_,_,_=>by simp[Op.bytesLess]
 |x::a,y::b,z::c,h1,h2=>by
  simp only[Op.bytesLess,Bool.or_eq_true,aW,decide_eq_true_eq,beq_iff_eq] at h1 h2 ⊢;rcases h1 with h1|⟨rfl,h1⟩
  .rcases h2 with h2|⟨rfl,h2⟩
   .exact .inl (UInt8.lt_trans h1 h2)
   .exact .inl h1
  .rcases h2 with h2|⟨rfl,h2⟩
   .exact .inl h2
   .exact .inr ⟨rfl,QC h1 h2⟩
section
variable{κ:Type}[DecidableEq κ]
theorem KY{fs:List κ}{k:κ}:fa fs k=true↔k∈fs:=by unfold fa;rw[decide_eq_true_eq]
theorem ady{fs:List κ}{k:κ}:fa fs k=false↔k∉fs:=by unfold fa;rw[decide_eq_false_iff_not]
theorem Lm{fs:List κ}{k:κ}(h:fa fs k=true):jJ fs k<fs.length:=List.idxOf_lt_length_of_mem (KY.1 h)
theorem ac7{fs:List κ}{k:κ}(h:fa fs k=true):fs[jJ fs k]? =some k:=by
 have h1:=Lm h;rw[aL h1];exact congrArg some (List.getElem_idxOf h1)
end
abbrev ff(l:List ai):List ByteArray:=l.map (·.name)
theorem yj{l:List ai}{i:Nat}{f:ai}(h:l[i]? =some f):oU l i=f.name:=by unfold oU;rw[h]
theorem jV.less{l:List ai}(h:jV l):∀ {i j:Nat},i<j->j<l.length->Op.bytesLess (oU l i).toList (oU l j).toList=true
 |i,0,ly,_=>absurd ly (Nat.not_lt_zero i)
 |i,j+1,ly,hj=>by
  have h1:=h.yd j hj;by_cases e:i=j
  .subst e;exact h1
  .exact QC (h.less (show i<j by omega) oG) h1
theorem jV.nodup{l:List ai}(h:jV l):(ff l).Nodup:=by
 rw[List.nodup_iff_pairwise_ne,List.pairwise_iff_getElem];intro i j hi hj M e;have J:i<l.length:=by simpa using hi
 have C:j<l.length:=by simpa using hj
 have h1:=h.less M C;rw[yj (aL J),yj (aL C)] at h1;simp only[List.getElem_map] at e;rw[e,Sx] at h1;cases h1
theorem jV.fresh{l:List ai}(h:jV l){k:Nat}{f:ai}(hf:l[k]? =some f):fa ((ff l).take k) f.name=false:=by
 rw[ady];intro hm;obtain⟨i,hi⟩:=dN hm;have C:i<k:=by have:=(bI.1 hi).1;simp at this;omega
 rw[List.getElem?_take,if_pos C] at hi;have hk:(ff l)[k]? =some f.name:=by simp[hf]
 have:=(List.getElem?_inj (bI.1 hi).1 h.nodup).1 (hi.trans hk.symm);omega
def iR(l:List ai)(s:ByteArray):Nat:=if fa (ff l) s then jJ (ff l) s else 0
def aV(l:List ai):List (List Nat):=l.map fun f=>(dP f.blocks).map (iR l)
def bp(l:List ai):List ByteArray:=l.map iy
def cE(l:List ai):List Nat:=bl (bp l)
@[simp] theorem Sy (l : List ai) : (aV l).length = l.length := by simp [aV]
@[simp] theorem aoE (l : List ai) : (cE l).length = l.length := by simp [cE, bp]
theorem jV.known{l:List ai}(h:jV l){f:ai}(hf:f∈l){s:ByteArray}(hs:s∈dP f.blocks):fa (ff l) s=true:=by
 unfold dP at hs;obtain⟨b,hb,rfl⟩:=List.mem_map.1 hs;rw[List.mem_filter] at hb;have hc:=bS.1 (h.calls f hf) b hb.1;have hk:=hb.2;unfold eI at hk;simp only[Bool.or_eq_true,decide_eq_true_eq] at hk
 have C:∃ g,findF l b.fin.name=some g:=by
  unfold jg at hc;rcases hk with hk|hk
  .rw[if_pos hk] at hc;unfold wY at hc;split at hc
   .cases hc
   .rename_i g hg;exact⟨g,hg⟩
  .rw[if_neg oG,if_pos hk] at hc;unfold wZ at hc;split at hc
   .cases hc
   .rename_i g hg;exact⟨g,hg⟩
 obtain⟨g,hg⟩:=C;have h1:=List.mem_of_find?_eq_some hg;have h2:=List.find?_some hg
 have:g.name=b.fin.name:=by
  simp only[beq_iff_eq] at h2;rw[qf,qf] at h2;exact rZ h2
 rw[KY, <- this];exact List.mem_map_of_mem h1
theorem Up{l:List ai}{s:ByteArray}(h:fa (ff l) s=true):iR l s<l.length:=by
 unfold iR;rw[if_pos h];have:=Lm h;simpa using this
theorem A2{l:List ai}{i:Nat}{f:ai}(h:l[i]? =some f):(aV l).getD i []=(dP f.blocks).map (iR l):=getD_some (by simp[aV,h])
theorem jV.pq{l:List ai}(h:jV l):xm (aV l):=fun i t ht=>by
 cases hf:l[i]? with
 |none=>
  have:(aV l)[i]? =none:=by simp[aV,hf]
  rw[dF,this] at ht;cases ht
 |some f=>
  rw[A2 hf] at ht;obtain⟨s,hs,rfl⟩:=List.mem_map.1 ht;rw[Sy];exact Up (h.known (bu hf) hs)
theorem jV.Ig{l:List ai}(h:jV l):Ms (cE l) (aV l):=fun a b ha hb e=>by
 rw[Sy] at ha hb;obtain⟨f,hf⟩:∃ f,l[a]? =some f:=⟨_,aL ha⟩
 obtain⟨g,hg⟩:∃ g,l[b]? =some g:=⟨_,aL hb⟩
 rw[A2 hf,A2 hg,List.length_map,List.length_map];have h1:(bp l)[a]? =some (iy f):=by simp[bp,hf]
 have h2:(bp l)[b]? =some (iy g):=by simp[bp,hg]
 refine PT (h.nJ f (bu hf)) (h.nJ g (bu hg)) ((A1 h1 h2).1 ?_);have e1:(cE l)[a]? =some ((cE l).getD a 0):=dQ (by simpa using ha);have e2:(cE l)[b]? =some ((cE l).getD b 0):=dQ (by simpa using hb);unfold cE at e1 e2 e;rw[e1,e2,e]
def r9(l:List ai):List D:=if(dh l).2=0 then cW l (bp l) ((aV l).map ao) else [.z,.z,.z]
theorem R4(l:List ai):∀ a∈r9 l,Tr a:=by
 unfold r9;split
 .exact Gn _ _ _
 .exact .cons .z (.cons .z (.cons .z .nil))
theorem A0{l:List ai}(h:(dh l).2=0):r9 l=cW l (bp l) ((aV l).map ao):=if_pos h
theorem Dp{l:List ai}(h:(dh l).2≠0):r9 l=[.z,.z,.z]:=if_neg h
theorem acH{s:ByteArray}{fs:List ByteArray}{k:Nat}(hk:fs.length=k)(h:fa fs s=false):gp (.string s) (I (k:Nat)) (fc fs)=fc (fs++[s]):=by
 subst hk;exact Te h
structure OB(m:Mem)(q nx:Nat)(l:List ai)(x1 x2:D)(sh:List ByteArray)(ca:List (List Int)):Prop where
 r0:m 0=some (.cells [.z,.z,.z] 82)
 rq:m q=some (.cells [ba l,x1,x2] 82)
 lt:0<q/\q<nx
 gr:(sh=[]/\ca=[]/\x1=.z/\x2=.z)\/∃ r1 r2,r1≠r2/\q<r1/\r1<nx/\q<r2/\r2<nx/\x1=.rs r1 0 sh.length/\x2=.rs r2 0 ca.length/\m r1=some (.cells (sh.map S) 9)/\m r2=some (.cells (ca.map aT) 43)
theorem OB.mono{m m':Mem}{q nx C:Nat}{l:List ai}{x1 x2:D}{sh:List ByteArray}{ca:List (List Int)}(h:OB m q nx l x1 x2 sh ca)(hm:∀ j,j<nx->m' j=m j)(hn:nx<=C):OB m' q C l x1 x2 sh ca:=by
 refine⟨by rw[hm 0 (by have:=h.lt;omega)];exact h.r0,by rw[hm q h.lt.2];exact h.rq,by have:=h.lt;omega,?_⟩;rcases h.gr with g|⟨r1,r2,J,M,U,X,g5,g6,g7,g8,g9⟩
 .exact .inl g
 .exact .inr ⟨r1,r2,J,M,oG,X,oG,g6,g7,by rw[hm r1 U,g8],by rw[hm r2 g5,g9]⟩
theorem ael{X:Nat->Prop}(l:List ByteArray):∀ d∈l.map S,fR X d:=fun d hd=>by
 obtain⟨s,_,rfl⟩:=List.mem_map.1 hd;exact .s _
theorem Qn{X:Nat->Prop}(l:List (List Int)):∀ d∈l.map aT,fR X d:=fun d hd=>by
 obtain⟨s,_,rfl⟩:=List.mem_map.1 hd;exact .sl _ _
theorem OB.oO{m:Mem}{q nx X i sz:Nat}{l:List ai}{x1 x2:D}{sh:List ByteArray}{ca:List (List Int)}{cs:List D}(h:OB m q nx l x1 x2 sh ca)(hi:nx<=i)(hn:nx<=X):OB (df i cs sz m) q X l x1 x2 sh ca:=by
 have hz:∀ d∈[D.z,.z,.z],fR (fun k=>k=i) d:=fun d hd=>by
  simp only[List.mem_cons,List.not_mem_nil,or_false,or_self] at hd;subst hd;exact .z
 refine⟨iv h.r0 (by have:=h.lt;omega) (.cells hz),?_,by have:=h.lt;omega,?_⟩
 .refine iv h.rq (by have:=h.lt;omega) (.cells fun d hd=>?_);simp only[List.mem_cons,List.not_mem_nil,or_false] at hd;rcases h.gr with⟨_,_,C,J⟩|⟨r1,r2,C,J,g3,g4,g5,M,U,g8,g9⟩
  .subst C J;rcases hd with rfl|rfl|rfl
   .exact .sl _ _
   .exact .z
   .exact .z
  .subst M U;rcases hd with rfl|rfl|rfl
   .exact .sl _ _
   .exact .rs oG
   .exact .rs oG
 .rcases h.gr with g|⟨r1,r2,C,J,g3,g4,g5,M,U,g8,g9⟩
  .exact .inl g
  .exact .inr ⟨r1,r2,C,J,oG,g4,oG,M,U,iv g8 oG (.cells (ael _)),iv g9 oG (.cells (Qn _))⟩
end Go.Argus
namespace Go.Proofs.Tryz.K
theorem OF{f:ai}(h:ep f=0):aB prog 67 [.agg (aR f)] (S (iy f)):=by
 have hb:=s6 (Go.Argus.checked h)
 have Ao:aB prog 57 [.agg (aR f),S lC,.fn (.func 112) [] []] (.agg (aR (qJ f))):=Ao (to:=fun _=>lC) (.fn oS oS) (fun X i cs sz _=>rfl) (fun b _ _=>aj') (by have:=hb.aO;omega) (by have:=hb.bK;omega) (by have:=hb.sigs;omega) (by have:=hb.lD;omega) fun b C=>by
  have h1:=hb.bF b C;have h2:=h1.len;have J:=h1.fin.len;have M:=h1.fin.aP;have U:=h1.fin.ins.len;exact⟨oG,fun x hx=>by have:=(h1.ins x hx).len;omega,oG,oG,oG⟩
 have IC:=IC (f:=qJ f) fun _=>afm (KP h);rw[JX h,if_pos rfl] at IC;refine bj akj (.cons (.agg (kL f)) .nil) (Tr.s _) ?_;rw[akk];refine aw ?_;refine ab ?_;refine aa (bH (dA [(0,aR f,48)] eH (l:=[(1,.pt (aR f))]) eH) (ag ?_));refine SS ?_;refine cl Ao ?_;refine cl IC ?_;refine SS ?_;refine av (rE (v:=.s (.string _)) rfl rfl) ak (by first|decide|simp) ?_;refine ay ?_;refine er ?_;refine ab ?_;exact aa (aD rfl rfl)
theorem acI(s:ByteArray)(fs:List ByteArray):fH prog 144 false (cT (.string s) (fc fs))=I (if fa fs s then(jJ fs s:Nat) else 0:Nat):=by
 rw[KO];cases fa fs s with
 |true=>rfl
 |false=>
  show mB prog (lW prog 144)=_;rw[UX];rfl
theorem io{l:List ai}(hl:l.length<=1000):aB prog 43 [ba l] (.aM [.agg (r9 l),I (dh l).2]):=by
 have xN:=xN (l:=l) (fun h f hf=>Tf oG h hf) oG;refine bj akl (.cons (iU l) .nil) (.aM (.cons (.agg (R4 l)) (.cons (.s _) .nil))) ?_;rw[akm];refine ws ?_;refine ab ?_;refine aa (az (ag ?_));refine SS ?_;refine cl xN ?_;refine bw ?_;refine aa (az (ag ?_));refine ab ?_;have B8:=mz (l:=l);have tW:=A0 (l:=l);have zy:=Dp (l:=l);generalize (dh l).2=err at*
 generalize r9 l=oD at*
 refine aa (cA rfl (fun h=>az (ag ?_)) fun h=>cm (ag ?_))
 .have h:err≠0:=by simpa using h
  rw[zy h];refine aY ?_;exact aa (dG (nN (iq rfl rfl uh nI rfl t82 (aZ 3)) rfl rfl))
 have h:err=0:=by simpa using h
 subst h;have hL:=B8 rfl;rw[tW rfl];clear tW zy B8 xN;refine ab ?_;refine aa (az (aw ?_));refine ay ?_
 refine aa (bZ (fun s=>∃ nx,0<nx/\aH prog s ⟨ax [(0,ba l),(2,.rp 0 0),(6,.im (fc (ff l)))],br [(0,.cells [.z,.z,.z] 82)],nx⟩) (cH (α:=Nat×Nat)
  (fun s=>⟨ax [(0,ba l),(2,.rp 0 0),(6,.mp 1),(25,ba l),(26,I l.length),(27,I s.1)],br [(0,.cells [.z,.z,.z] 82),(1,.map (fc ((ff l).take s.1)))],s.2⟩)
  (fun s=>s.1<=l.length/\1<s.2) (fun s=>l.length - s.1) (0,_) (cn eH eH) ⟨Nat.zero_le _,oM⟩ ?_) ?_)
 .rintro⟨k,nx⟩ ⟨hk,cF⟩;dsimp only at hk cF ⊢;refine SS ?_;refine aa ⟨_,rfl,fun h=>?_,fun h=>?_⟩
  .have af:k<l.length:=by simpa using h
   clear h;obtain⟨f,hf⟩:∃ f,l[k]? =some f:=⟨_,aL af⟩
   have Ob:=hL.fresh hf;have eP:(ff l).take (k+1)=(ff l).take k++[f.name]:=by rw[List.take_add_one,List.getElem?_map,hf];rfl
   have sK:((ff l).take k).length=k:=by simp;omega
   generalize (ff l).take k=fs at*
   refine ws ?_;refine cz ?_;refine aa (fO ?_);have ap:∀ {a b},up (up (br [(0,.cells [.z,.z,.z] 82),(1,.map (fc fs))]) nx a) nx b nx=b:=aj _ _ _;have agV:∀ {a b},up (up (br [(0,.cells [.z,.z,.z] 82),(1,.map (fc fs))]) nx a) nx b 1=some (.map (fc fs)):=ah oG (ah oG rfl);have kd:(aR f).drop (0+0)=S f.name::(aR f).drop 1:=rfl;refine aY ?_;refine bQ (yM (key:=.string f.name) (v:=I (k:Nat)) rfl agV rfl rfl Es) aK ⟨Et,w7 _,Ie fs⟩ ?_;rw[acH sK Ob];refine aa ?_;refine ab ?_;refine aa (bf (k+1,nx+1) ?_ ⟨oM,oM⟩ oM);dsimp only;rw[eP];exact cn eH ⟨ah oG (ah oG (ah oG rfl)),aj _ _ _,trivial⟩
  .have bm:¬ k<l.length:=by simpa using h
   have:k=l.length:=by omega
   subst this;rw[dq oS];exact⟨nx,oG,(aH.DC _ _ _ 1 (fc (ff l)) rfl).trans (cn eH eH)⟩
 .rintro s ⟨q,OG,U⟩;refine⟨_,U,ag ?_⟩;clear U;refine aY ?_;refine aa (az (aw ?_));refine ay ?_;have nD:(bp l).length=l.length:=by simp[bp]
  have cR:((aV l).map ao).length=l.length:=by simp
  refine aa (bZ (fun s=>∃ x1 x2 m nx,OB m q nx l x1 x2 (bp l) ((aV l).map ao)/\aH prog s ⟨ax [(2,.rp 0 0),(9,.rp q 0)],m,nx⟩) (cH (α:=Nat×D×D×Mem×Nat)
   (fun s=>⟨ax [(2,.rp 0 0),(6,.im (fc (ff l))),(9,.rp q 0),(39,ba l),(40,I l.length),(41,I s.1)],s.2.2.2.1,s.2.2.2.2⟩)
   (fun s=>s.1<=l.length/\OB s.2.2.2.1 q s.2.2.2.2 l s.2.1 s.2.2.1 ((bp l).take s.1) (((aV l).map ao).take s.1)) (fun s=>l.length - s.1) (0,.z,.z,_,_)
   (au eH) ⟨Nat.zero_le _,⟨ah oG (ah oG rfl),aj _ _ _,⟨OG,oM⟩,.inl ⟨rfl,rfl,rfl,rfl⟩⟩⟩ ?_) ?_)
  .rintro⟨k,x1,x2,m,nx⟩ ⟨hk,J⟩;dsimp only at hk J ⊢;refine SS ?_;refine aa ⟨_,rfl,fun h=>?_,fun h=>?_⟩
   .have af:k<l.length:=by simpa using h
    clear h;obtain⟨f,hf⟩:∃ f,l[k]? =some f:=⟨_,aL af⟩
    have l9:=bu hf;have kK:=hL.nJ f l9;have Jc:=s6 (Go.Argus.checked kK);have Ou:=Ou (f:=f) (by have:=Jc.lD;omega);have OF:=OF kK;have Cw:(dP f.blocks).length<=100000:=by have:=AG f.blocks;have:=Jc.lD;omega
    have jv:(bp l).take (k+1)=(bp l).take k++[iy f]:=by
     have:(bp l)[k]? =some (iy f):=by simp[bp,hf]
     rw[List.take_add_one,this];rfl
    have Jd:((aV l).map ao).take (k+1)=((aV l).map ao).take k++[ao ((dP f.blocks).map (iR l))]:=by
     have:((aV l).map ao)[k]? =some (ao ((dP f.blocks).map (iR l))):=by simp[aV,hf]
     rw[List.take_add_one,this];rfl
    have hls:((bp l).take k).length=k:=by rw[List.length_take];omega
    have Xf:(((aV l).map ao).take k).length=k:=by rw[List.length_take];omega
    generalize (bp l).take k=sh at*
    generalize ((aV l).map ao).take k=ca at*
    generalize dP f.blocks=cs at*
    generalize iy f=eW at*
    have aoT:=J.lt;refine ws ?_;refine aY ?_;refine aa (aw ?_);refine SS ?_;refine aa ⟨_,.rW _ _ _ 12 3 rfl,az (aw ?_)⟩;have ap:∀ {a b c},up (up (up m nx a) nx b) (nx+1) c nx=b:=ah oG (aj _ _ _);refine SS ?_;refine cl Ou ?_;refine ab ?_
    refine aa (bZ (fun s=>∃ m' C,OB m' q nx l x1 x2 sh ca/\m' nx=some (.cells (aR f) 48)/\nx+1<=C/\aH prog s ⟨ax [(2,.rp 0 0),(6,.im (fc (ff l))),(9,.rp q 0),(11,.rp nx 0),(12,aT (ao (cs.map (iR l)))),(39,ba l),(40,I l.length),(41,I k)],m',C⟩) (cH (α:=Nat×Nat×Mem×Nat)
     (fun s=>⟨ax [(2,.rp 0 0),(6,.im (fc (ff l))),(9,.rp q 0),(11,.rp nx 0),(12,.rs s.2.1 0 s.1),(39,ba l),(40,I l.length),(41,I k),(46,bP cs),(47,I cs.length),(48,I s.1)],s.2.2.1,s.2.2.2⟩)
     (fun s=>s.1<=cs.length/\OB s.2.2.1 q nx l x1 x2 sh ca/\s.2.2.1 nx=some (.cells (aR f) 48)/\nx<s.2.1/\s.2.1<s.2.2.2/\s.2.2.1 s.2.1=some (.cells ((ao ((cs.take s.1).map (iR l))).map I) 3)) (fun s=>cs.length - s.1) (0,nx+1,_,_)
     (au eH) ⟨Nat.zero_le _,J.mono (fun j hj=>(aA _ _ oG).trans ((aA _ _ oG).trans (aA _ _ oG))) (aZ _),ap,oM,oM,aj _ _ _⟩ ?_) ?_)
    .rintro⟨j,r,m',C⟩ ⟨hj,M,Af,wj,xQ,lq⟩;dsimp only at hj M Af wj xQ lq ⊢;refine SS ?_;refine aa ⟨_,rfl,fun h=>?_,fun h=>?_⟩
     .have cZ:j<cs.length:=by simpa using h
      clear h;obtain⟨y,hy⟩:∃ y,cs[j]? =some y:=⟨_,aL cZ⟩
      have Xg:ao ((cs.take (j+1)).map (iR l))=ao ((cs.take j).map (iR l))++[((iR l y:Nat):Int)]:=by rw[List.take_add_one,hy];simp[ao]
      have Oz:(ao ((cs.take j).map (iR l))).length=j:=by simp;omega
      generalize ao ((cs.take j).map (iR l))=out at*
      have ap:=lq;have nE:(out.map I).length=j:=by simpa using Oz
      refine ws ?_;refine ay ?_;refine aa (fO ?_);refine ay ?_;refine av (AM rfl rfl Es (acI y (ff l))) aK ⟨Et,w7 y,Ie _⟩ ?_;refine ay ?_;refine aa ?_;refine ab ?_;refine aa (bf (j+1,C+1,_,C+1+1) (au eH) ?_ oM);dsimp only;refine⟨oG,M.mono (fun i hi=>(aA _ _ oG).trans ((aA _ _ oG).trans (aA _ _ oG))) (aZ _),(aA _ _ oG).trans ((aA _ _ oG).trans ((aA _ _ oG).trans (Af))),oG,oG,(aj _ _ _).trans ?_⟩;rw[Xg];simp;rfl
     .have bm:¬ j<cs.length:=by simpa using h
      have:j=cs.length:=by omega
      subst this;rw[List.take_length] at lq;refine⟨df r _ (prog.cellsOf 3) m',C,M.oO oG (aZ _),iv Af oG (.cells fun d hd=>?_),oG,mi lq ⟨gE oG,rfl,gE oG,gE oG,?_,rfl,rfl,rfl,trivial⟩⟩
      .rw[<- List.append_nil (aR f)] at hd;simp only[aR,List.append_nil,List.mem_cons,List.not_mem_nil,or_false] at hd;rcases hd with rfl|rfl|rfl|rfl|rfl|rfl|rfl|rfl<;>first|exact .s _|exact .sl _ _
      .show sub (cM r _ (prog.cellsOf 3)) (.rs r 0 cs.length)=_;rw[BJ,c3,List.drop_zero,dq oS];simp
    .rintro s ⟨m',C,M,Af,IU,U⟩;refine⟨_,U,?_⟩;clear U;refine A8 aa0 ?_;have ap:=M.rq;have kd:[ba l,x1,x2].drop (0+1)=x1::[x2]:=rfl;have Xh:[ba l,x1,x2].drop (0+2)=x2::[]:=rfl;refine ab ?_;have ap:=Af;refine SS ?_;refine cl OF ?_;refine SS ?_;rcases M.gr with⟨h1,h2,rfl,rfl⟩|⟨r1,r2,g1,g2,g3,g4,g5,rfl,rfl,g8,g9⟩
     .refine eM (Bj rfl rfl V.h V.h (lE (aj _ _ _) rfl)) ak ⟨V.h,(by first|omega|exact bJ rfl|(simp;done)|(simp;omega)),oC,(by unfold maxLen;first|omega|(simp;omega)),(by rw[b9];first|omega|(simp;omega))⟩ ?_;have ap:∀ {a b},up (up m' C a) (C+1) b q=some (.cells [ba l,.z,.z] 82):=ah oG (ah oG M.rq);have kd:=Xh;refine aY ?_;refine eM (Bj rfl rfl V.h V.h (lE (aj _ _ _) rfl)) ak ⟨V.h,(by first|omega|exact bJ rfl|(simp;done)|(simp;omega)),oC,(by unfold maxLen;first|omega|(simp;omega)),(by rw[Fq];first|omega|(simp;omega))⟩ ?_;have ap:∀ {a b c d},up (up (up (up m' C a) (C+1) b) (C+1+1) c) (C+1+1+1) d q=some (.cells [ba l,.z,.z] 82):=ah oG (ah oG (ah oG (ah oG M.rq)));refine ab ?_;have ap:∀ {a b c d e},up (up (up (up (up m' C a) (C+1) b) (C+1+1) c) (C+1+1+1) d) q e q=e:=aj _ _ _;refine ab ?_;refine cq (by simp[qo];omega) ?_;refine ab ?_;refine aa (bf (k+1,.rs (C+1) 0 1,.rs (C+1+1+1) 0 1,_,C+1+1+1+1) (au eH) ?_ oM);dsimp only;subst h1 h2;have ua:k=0:=by simpa using hls.symm
      subst ua;refine⟨oG,(aA _ _ oG).trans ((aA _ _ oG).trans ((aA _ _ oG).trans ((aA _ _ oG).trans ((aA _ _ oG).trans ((aA _ _ oG).trans (M.r0)))))),aj _ _ _,⟨OG,oG⟩,.inr ⟨C+1,C+1+1+1,oG,oG,oG,oG,oG,?_,?_,(aA _ _ oG).trans ((aA _ _ oG).trans ((aA _ _ oG).trans ((aA _ _ oG).trans ((aj _ _ _).trans ?_)))),(aA _ _ oG).trans ((aA _ _ oG).trans ((aj _ _ _).trans ?_))⟩⟩
      .rw[jv];rfl
      .rw[Jd];rfl
      .rw[jv];rfl
      .rw[Jd];rfl
     .have kZ:∀ {a},up m' C a r1=some (.cells (sh.map S) 9):=ah oG g8;refine jI (jB rfl kZ rfl sM c9 (lE (aj _ _ _) rfl) rfl) aK ⟨lZ,rfl,bJ rfl,oC,oS,by unfold maxLen;omega,by rw[b9];omega,by simp;omega⟩ ?_;have ap:∀ {a b c},up (up (up m' C a) r1 b) (C+1) c q=some (.cells [ba l,.rs r1 0 sh.length,.rs r2 0 ca.length] 82):=ah oG (ah oG (ah oG M.rq));have kd:=Xh;refine aY ?_;have iz:∀ {a b c d},up (up (up (up m' C a) r1 b) (C+1) c) (C+1+1) d r2=some (.cells (ca.map aT) 43):=ah oG (ah oG (ah oG (ah oG g9)));refine jI (jB rfl iz rfl Xi ui (lE (aj _ _ _) rfl) rfl) aK ⟨VP,rfl,bJ rfl,oC,oS,by unfold maxLen;omega,by rw[Fq];omega,by simp;omega⟩ ?_;have ap:∀ {a b c d e f'},up (up (up (up (up (up m' C a) r1 b) (C+1) c) (C+1+1) d) r2 e) (C+1+1+1) f' q=some (.cells [ba l,.rs r1 0 sh.length,.rs r2 0 ca.length] 82):=ah oG (ah oG (ah oG (ah oG (ah oG (ah oG M.rq)))));refine ab ?_;have ap:∀ {a b c d e f' g},up (up (up (up (up (up (up m' C a) r1 b) (C+1) c) (C+1+1) d) r2 e) (C+1+1+1) f') q g q=g:=aj _ _ _;refine ab ?_;refine cq (by simp[qo];omega) ?_;refine ab ?_;refine aa (bf (k+1,.rs (C+1) 0 (sh.length+1),.rs (C+1+1+1) 0 (ca.length+1),_,C+1+1+1+1) (au eH) ?_ oM);dsimp only;refine⟨oG,(aA _ _ oG).trans ((aA _ _ oG).trans ((aA _ _ oG).trans ((aA _ _ oG).trans ((aA _ _ oG).trans ((aA _ _ oG).trans ((aA _ _ oG).trans ((aA _ _ oG).trans (M.r0)))))))),aj _ _ _,⟨OG,oG⟩,.inr ⟨C+1,C+1+1+1,oG,oG,oG,oG,oG,?_,?_,(aA _ _ oG).trans ((aA _ _ oG).trans ((aA _ _ oG).trans ((aA _ _ oG).trans ((aA _ _ oG).trans ((aj _ _ _).trans ?_))))),(aA _ _ oG).trans ((aA _ _ oG).trans ((aj _ _ _).trans ?_))⟩⟩
      .rw[jv,List.length_append];rfl
      .rw[Jd,List.length_append];rfl
      .rw[jv,List.map_append];simp;rfl
      .rw[Jd,List.map_append];rfl
   .have bm:¬ k<l.length:=by simpa using h
    have:k=l.length:=by omega
    subst this;rw[dq oG,dq oG] at J;exact⟨x1,x2,m,nx,J,au eH⟩
  .rintro s ⟨x1,x2,m,nx,J,U⟩;have af:=J.lt
   have oJ:∃ m2 ij,aH prog s ⟨ax [(2,.rp 0 0),(9,.rp q 0)],m2,ij⟩/\m2 0=some (.cells [.z,.z,.z] 82)/\m2 q=some (.cells (cW l (bp l) ((aV l).map ao)) 82):=by
    rcases J.gr with⟨h1,h2,rfl,rfl⟩|⟨r1,r2,g1,g2,g3,g4,g5,rfl,rfl,g8,g9⟩
    .rw[h1,h2];refine⟨up m q (some (.cells (cW l [] []) 82)),nx,U.trans (aH.og _ _ _ _ _ (fun t=>uK _) fun i=>?_),(aA _ _ oG).trans J.r0,aj _ _ _⟩;by_cases hi:i=q
     .subst hi;refine .inr ⟨_,cW l [] [],82,J.rq,aj _ _ _,rfl,fun k d d' hd fm=>?_⟩
      match k with
      |0=>cases (show some d=some d' from hd.symm.trans fm);exact uK _
      |1|2=>
       simp only[cW,List.getElem?_cons_succ,List.getElem?_cons_zero,aG] at hd fm;subst hd fm;exact B7
      |k+3=>simp at hd
     .exact .inl (aA _ _ hi)
    .have hz:∀ X,∀ d∈[D.z,.z,.z],fR X d:=fun X d hd=>by
      simp only[List.mem_cons,List.not_mem_nil,or_false,or_self] at hd;subst hd;exact .z
     have e1:df r1 ((bp l).map S) (prog.cellsOf 9) m r2=some (.cells (((aV l).map ao).map aT) 43):=iv g9 oG (.cells (Qn _))
     have e2:df r1 ((bp l).map S) (prog.cellsOf 9) m q=some (.cells [ba l,bP (bp l),.rs r2 0 ((aV l).map ao).length] 82):=by
      unfold df;rw[if_neg oG,J.rq];show some (Row.cells [ba l,sub (cM r1 ((bp l).map S) (prog.cellsOf 9)) (.rs r1 0 (bp l).length),sub (cM r1 ((bp l).map S) (prog.cellsOf 9)) (.rs r2 0 ((aV l).map ao).length)] 82)=_;rw[BJ,AZ oG,c9,List.drop_zero,dq oS]
     refine⟨df r2 _ (prog.cellsOf 43) (df r1 _ (prog.cellsOf 9) m),nx,U.trans ((mi (l:=[(2,.rp 0 0),(9,.rp q 0)]) g8 ⟨gE oG,gE oG,trivial⟩).trans (mi e1 ⟨gE oG,gE oG,trivial⟩)),iv (iv J.r0 oG (.cells (hz _))) oG (.cells (hz _)),?_⟩;generalize df r1 ((bp l).map S) (prog.cellsOf 9) m=m1 at*
     unfold df;rw[if_neg oG,e2];show some (Row.cells [ba l,bP (bp l),sub (cM r2 (((aV l).map ao).map aT) (prog.cellsOf 43)) (.rs r2 0 ((aV l).map ao).length)] 82)=_;rw[BJ,ui,List.drop_zero,dq oS];rfl
   obtain⟨m2,ij,Fp,q1,q2⟩:=oJ;refine⟨_,Fp,ag ?_⟩;clear Fp U;have ap:=q2;refine av (fz rfl ap V.h V.h rfl) ak (fA V.h V.h (by first|(simp;done)|omega|exact bJ rfl)) ?_;have ap:=q1;refine bQ (fM rfl rfl ap rfl) ak (cw V.h V.h (by first|(simp;done)|exact⟨rfl,bJ rfl⟩|(simp;omega)) (by rfl)) ?_;refine SS ?_;exact aa (nN (iq (cs:=cW l (bp l) ((aV l).map ao)) (vs:=cW l (bp l) ((aV l).map ao)) rfl rfl uh nI rfl t82 (aZ 3)) rfl rfl)
end Go.Proofs.Tryz.K
namespace Go.Abs
section
variable{P:Program}{Y:ej}{rf:Bool}{Q:Exit->St->Prop}{st:St}{id gi:Nat}{body:Code}{α:Type}
theorem aa1[dC Y](S:α->St)(J:α->Prop)(μ:α->Nat)(C:α)(hg:aH P st (S C))(M:J C)(h:∀ x,J x->AW P Y rf body (lR gi id (y8 P S J μ x) Q) (S x)):
 ∃ st',aH P st st'/\AW P Y rf (.block id (.loop (.block gi body))) Q st':=
 DH (Q:=fE id Q) S J μ C hg M (fun x hx=>RO (h x hx)) (a:=.skip) fun _ h=>h
theorem yA{k i:Nat}{r:Row}{l:List (Nat×Row)}(h:i≠k):br ((k,r)::l) i=br l i:=if_neg h
theorem A'{k:Nat}{r:Row}{l:List (Nat×Row)}:br ((k,r)::l) k=some r:=if_pos rfl
theorem YA{l:Nat}(h:∃ st',aH P st st'/\AW P Y rf body Q st'):AW P Y rf (.seq (.label l) body) Q st:=h
end
end Go.Abs
namespace Go.Argus
section
variable{κ ι:Type}[DecidableEq κ][DecidableEq ι]
theorem acJ{g:κ->ι}:∀ {fs:List κ} {k:κ},(∀ a∈fs,g a=g k->a=k)->fa (fs.map g) (g k)=fa fs k
 |[],k,_=>rfl
 |a::fs,k,h=>by
  rw[List.map_cons,Kf,Kf,acJ fun b hb=>h b (List.mem_cons_of_mem _ hb)];congr 1;exact decide_eq_decide.2 ⟨h a oS,fun e=>by rw[e]⟩
theorem R5{g:κ->ι}:∀ {fs:List κ} {k:κ},(∀ a∈fs,g a=g k->a=k)->jJ (fs.map g) (g k)=jJ fs k
 |[],k,_=>rfl
 |a::fs,k,h=>by
  rw[List.map_cons,Kg,Kg,R5 fun b hb=>h b (List.mem_cons_of_mem _ hb)];by_cases e:a=k
  .rw[if_pos e,if_pos (by rw[e])]
  .rw[if_neg e,if_neg fun C=>e (h a oS C)]
theorem R6{g:κ->ι}{ks:List κ}(h:∀ a∈ks,∀ b∈ks,g a=g b->a=b):bt (ks.map g)=(bt ks).map g:=by
 have key:∀ (ks acc:List κ),(∀ a∈acc++ks,∀ b∈acc++ks,g a=g b->a=b)->mn (acc.map g) (ks.map g)=(mn acc ks).map g:=fun ks=>by
  induction ks with
  |nil=>intro acc _;rfl
  |cons k ks ih=>
   intro acc h;simp only[List.map_cons,mn]
   have e:g k∈acc.map g↔k∈acc:=by
    constructor
    .intro hm;obtain⟨a,ha,e⟩:=List.mem_map.1 hm;rw[<- h a (by simp[ha]) k oS e];exact ha
    .exact fun hm=>List.mem_map_of_mem hm
   by_cases hk:k∈acc
   .rw[if_pos hk,if_pos (e.2 hk)];exact ih acc fun a ha b hb=>h a (by simp at ha ⊢;rcases ha with ha|ha<;>simp[ha]) b (by simp at hb ⊢;rcases hb with hb|hb<;>simp[hb])
   .rw[if_neg hk,if_neg fun hm=>hk (e.1 hm)];have:=ih (acc++[k]) fun a ha b hb=>h a (by simpa using ha) b (by simpa using hb)
    rwa[List.map_append] at this
 exact key ks [] (by simpa using h)
theorem acK{g:κ->ι}{ks:List κ}(h:∀ a∈ks,∀ b∈ks,g a=g b->a=b):bl (ks.map g)=bl ks:=by
 have e1:∀ (l:List κ),bl l=l.map (jJ (bt l)):=fun l=>rfl;have e2:∀ (l:List ι),bl l=l.map (jJ (bt l)):=fun l=>rfl;rw[e1,e2,R6 h,List.map_map];exact List.map_congr_left fun k hk=>R5 fun a ha=>h a (nQ.1 ha) k hk
end
theorem acL:∀ {a b:List Nat},(∀ n∈a,n<90)->(∀ n∈b,n<90)->iG (ao a)=iG (ao b)->a=b:=fun {a b} ha hb h=>by
 have h1:bW (iG (ao a))=bW (iG (ao b)):=congrArg bW h
 have e:∀ l:List Nat,bW (iG (ao l))=l.map fun n=>UInt8.ofNat (n+33):=fun l=>by
  simp only[iG,mkStr,ao,List.map_map,bW];refine List.map_congr_left fun n _=>?_;show UInt8.ofNat ((n:Int)+33).toNat=_;congr 1
 rw[e,e] at h1;clear e h
 induction a generalizing b with
 |nil=>cases b with
  |nil=>rfl
  |cons y b=>simp at h1
 |cons x a ih=>cases b with
  |nil=>simp at h1
  |cons y b=>
   simp only[List.map_cons,List.cons.injEq] at h1;have hx:=ha x oS;have hy:=hb y oS;have:=congrArg UInt8.toNat h1.1;rw[UInt8.toNat_ofNat_of_lt' (by simp[UInt8.size];omega),UInt8.toNat_ofNat_of_lt' (by simp[UInt8.size];omega)] at this;rw[ih (fun n hn=>ha n (List.mem_cons_of_mem _ hn)) (fun n hn=>hb n (List.mem_cons_of_mem _ hn)) h1.2,show x=y by omega]
def oa(ca:List (List Nat))(clq:List Nat):List ByteArray:=(eJ ca clq).map fun k=>iG (ao k)
theorem Kh{ca:List (List Nat)}{clq:List Nat}(h:∀ c∈clq,c<90):∀ k∈eJ ca clq,∀ n∈k,n<90:=fun k hk n hn=>by
 have hd:∀ i,clq.getD i 0<90:=fun i=>by
  rw[dF];cases he:clq[i]? with
  |none=>decide
  |some c=>exact h c (bu he)
 obtain⟨i,_,rfl⟩:=List.mem_map.1 hk;rcases List.mem_cons.1 hn with rfl|hn
 .exact hd i
 .obtain⟨t,_,rfl⟩:=List.mem_map.1 hn;exact hd t
theorem aa2{ca:List (List Nat)}{clq:List Nat}(h:∀ c∈clq,c<90):bl (oa ca clq)=bl (eJ ca clq)/\(bt (oa ca clq)).length=(bt (eJ ca clq)).length:=by
 have hi:∀ a∈eJ ca clq,∀ b∈eJ ca clq,iG (ao a)=iG (ao b)->a=b:=fun a ha b hb e=>acL (Kh h a ha) (Kh h b hb) e;refine⟨acK hi,?_⟩;unfold oa;rw[R6 hi,List.length_map]
theorem Qo{κ:Type}[DecidableEq κ]{ks:List κ}{n:Nat}(h:ks.length<=n):∀ c∈bl ks,c<n:=fun c hc=>by
 obtain⟨i,hi⟩:=dN hc;have h1:=Ll hi;have h2:=uJ ks;omega
def fZ(l:List ai)(sh:List ByteArray)(ca:List (List Int))(clq:List Int):List D:=[ba l,bP sh,bX ca,aT clq]
@[simp] theorem aon (l : List ai) (sh : List ByteArray) (ca : List (List Int)) (clq : List Int) : (fZ l sh ca clq).length = 4 := rfl
theorem FX(l:List ai)(sh:List ByteArray)(ca:List (List Int))(clq:List Int):∀ a∈fZ l sh ca clq,Tr a:=.cons (iU l) (.cons (gS sh) (.cons (uA ca) (.cons (di clq) .nil)))
def lT(clq:List Nat)(i k:Nat):List Nat:=(range i).filter fun j=>clq.getD j 0==k
theorem ZO(clq:List Nat)(i k:Nat):lT clq (i+1) k=lT clq i k++if clq.getD i 0==k then [i] else []:=by
 unfold lT;rw[List.range_succ,List.filter_append];congr 1;simp only[List.filter_cons,List.filter_nil]
theorem acN{clq:List Nat}{i n:Nat}(h:clq.getD i 0=n):(fun k=>(ao (lT clq (i+1) k)).map I)=up (fun k=>(ao (lT clq i k)).map I) n ((ao (lT clq i n)++[(i:Int)]).map I):=by
 funext k;rw[ZO,Dt,h];by_cases e:k=n
 .subst e;rw[if_pos rfl,if_pos oS];simp[ao]
 .rw[if_neg e,if_neg (by simpa using fun C=>e C.symm)];simp
theorem aa3(clq:List Nat)(i k:Nat):(lT clq i k).length<=i:=by
 unfold lT;have:=List.length_filter_le (fun j=>clq.getD j 0==k) (range i);simpa using this
theorem afn(clq:List Nat)(m:Nat):iH clq m=(range m).map fun k=>ao (lT clq clq.length k):=by
 unfold iH Dr lT;rw[List.map_map];rfl
section
variable{κ:Type}[DecidableEq κ]
def jN(ks:List κ)(i:Nat):Nat:=(bt (ks.take i)).length
theorem acO{ks:List κ}{i:Nat}(hi:i<ks.length):(bl ks).getD i 0<=jN ks i/\jN ks (i+1)=if(bl ks).getD i 0=jN ks i then jN ks i+1 else jN ks i:=by
 obtain⟨s,hs⟩:∃ s,ks[i]? =some s:=⟨_,aL hi⟩
 obtain⟨h1,h2⟩:=R2 hs
 have C:(bl ks)[i]? =some (if fa (bt (ks.take i)) s then jJ (bt (ks.take i)) s else(bt (ks.take i)).length):=by
  have:((bl ks).take (i+1))[i]? =((bl ks).take i++[if fa (bt (ks.take i)) s then jJ (bt (ks.take i)) s else(bt (ks.take i)).length])[i]? :=by rw[h2]
  rw[List.getElem?_take,if_pos oG,List.getElem?_append_right oP] at this;rw[this];have e:i - (List.take i (bl ks)).length=0:=by simp;omega
  rw[e];rfl
 rw[rP C];unfold jN;rw[h1];cases hm:fa (bt (ks.take i)) s with
 |true=>
  have:=Lm hm;simp only[if_true];refine⟨oG,?_⟩;rw[if_neg oG]
 |false=>simp
theorem afo{ks:List κ}{i j:Nat}(hj:j<i)(hi:i<=ks.length):(bl ks).getD j 0<jN ks i:=by
 have h1:(bl (ks.take i))[j]? =some ((bl ks).getD j 0):=by
  rw[<- aa4,List.getElem?_take,if_pos hj,dQ (d:=0) oP]
 exact Ll h1
theorem aa5{ks:List κ}{i k:Nat}(hi:i<=ks.length)(hk:jN ks i<=k):lT (bl ks) i k=[]:=by
 unfold lT;rw[List.filter_eq_nil_iff];intro j hj;have:=afo (List.mem_range.1 hj) hi;rw[beq_iff_eq];omega
end
def eT(l:List ai):List Nat:=pN (cE l) (aV l)
def nw(l:List ai):List (List Int):=iH (eT l) (bt (eT l)).length
def qg(l:List ai):D:=if(dh l).2=0 then bX (nw l) else .z
def gv(es:List (Int×Nat)):List (Value×D):=es.map fun e=>(.int .i64 e.1,I (e.2:Nat))
theorem Ki(i:Int):∀ es:List (Int×Nat),(cT (.int .i64 i) (gv es)).map (·.2)=if jq es i then some (I (fC es i:Nat)) else none
 |[]=>rfl
 |e::es=>by
  have ih:=Ki i es;have e1:gv (e::es)=(Value.int .i64 e.1,I (e.2:Nat))::gv es:=rfl;rw[e1];simp only[cT];by_cases h:e.1=i
  .have hv:lx (Value.int .i64 e.1) (.int .i64 i)=true:=by rw[h];show(IntKind.i64==IntKind.i64&&i==i)=true;simp
   have h2:jq (e::es) i=true:=by unfold jq;simp[h]
   have C:fC (e::es) i=e.2:=by unfold fC;simp[h]
   rw[if_pos hv,h2,C];rfl
  .have hv:lx (Value.int .i64 e.1) (.int .i64 i)=false:=by show(IntKind.i64==IntKind.i64&&e.1==i)=false;simp[h]
   have h2:jq (e::es) i=jq es i:=by unfold jq;simp[h]
   have C:fC (e::es) i=fC es i:=by unfold fC;simp[h]
   rw[hv,if_neg oS,h2,C, <- ih,Option.map_map];rfl
theorem aa6{es:List (Int×Nat)}{i:Int}(h:jq es i=false):fC es i=0:=by
 unfold fC;cases hf:es.find? fun e=>e.1==i with
 |none=>rfl
 |some e=>
  have h1:=List.find?_some hf;have h2:=List.mem_of_find?_eq_some hf;have:jq es i=true:=List.any_eq_true.2 ⟨e,h2,h1⟩;rw[h] at this;cases this
theorem R'{i:Int}{n:Nat}{es:List (Int×Nat)}(h:jq es i=false):gp (.int .i64 i) (I (n:Nat)) (gv es)=gv (es++[(i,n)]):=by
 have h1:=Ki i es;rw[h] at h1;unfold gp;cases hl:cT (.int .i64 i) (gv es) with
 |none=>simp[gv]
 |some x=>rw[hl] at h1;simp at h1
def xq(p:Int->Int->Bool)(a b:List Int):Bool:=decide (a.length=b.length)&&(range a.length).all fun i=>p (a.getD i 0) (b.getD i 0)
theorem Sa{l:List ai}{i j:Nat}{s t:ByteArray}(hi:(bp l)[i]? =some s)(hj:(bp l)[j]? =some t):((cE l).getD i 0==(cE l).getD j 0)=(s.toList==t.toList):=by
 have h1:(bl (bp l))[i]? =some ((cE l).getD i 0):=dQ (by have:=(bI.1 hi).1;simpa[cE] using this);have h2:(bl (bp l))[j]? =some ((cE l).getD j 0):=dQ (by have:=(bI.1 hj).1;simpa[cE] using this);have h:=A1 hi hj;rw[h1,h2,aG] at h;rw[qf,qf];by_cases e:s=t
 .rw[h.2 e,e];simp
 .rw[beq_eq_false_iff_ne.2 fun C=>e (h.1 C),beq_eq_false_iff_ne.2 fun C=>e (rZ C)]
theorem aem(es:List (Int×Nat))(a b:List Nat):xq (fun x y=>((fC es x:Nat):Int)==(fC es y:Nat)) (ao a) (ao b)=decide (a.map (fun(t:Nat)=>fC es t)=b.map fun(t:Nat)=>fC es t):=by
 have key:xq (fun x y=>((fC es x:Nat):Int)==(fC es y:Nat)) (ao a) (ao b)=true↔a.map (fun(t:Nat)=>fC es t)=b.map fun(t:Nat)=>fC es t:=by
  unfold xq;simp only[aW,decide_eq_true_eq,List.length_map];constructor
  .rintro⟨h1,h2⟩;refine List.ext_getElem? fun i=>?_;by_cases hi:i<a.length
   .have:=bS.1 h2 i (List.mem_range.2 hi);have ha:(ao a)[i]? =some ((a.getD i 0:Nat):Int):=by rw[List.getElem?_map,dQ (d:=0) hi];rfl
    have hb:(ao b)[i]? =some ((b.getD i 0:Nat):Int):=by rw[List.getElem?_map,dQ (d:=0) (show i<b.length by omega)];rfl
    rw[rP ha,rP hb] at this;rw[List.getElem?_map,List.getElem?_map,dQ (d:=0) hi,dQ (d:=0) (show i<b.length by omega)];have:((fC es (a.getD i 0:Nat):Nat):Int)=(fC es (b.getD i 0:Nat):Nat):=by simpa using this
    simp only[Option.map_some,aG];omega
   .rw[List.getElem?_eq_none oP,List.getElem?_eq_none oP]
  .intro h;have hl:a.length=b.length:=by simpa using congrArg List.length h
   refine⟨hl,bS.2 fun i hi=>?_⟩;have hi:i<a.length:=List.mem_range.1 hi;have ha:(ao a)[i]? =some ((a.getD i 0:Nat):Int):=by rw[List.getElem?_map,dQ (d:=0) hi];rfl
   have hb:(ao b)[i]? =some ((b.getD i 0:Nat):Int):=by rw[List.getElem?_map,dQ (d:=0) (show i<b.length by omega)];rfl
   rw[rP ha,rP hb];have:=congrArg (fun l=>l[i]?) h;simp only[List.getElem?_map] at this;rw[dQ (d:=0) hi,dQ (d:=0) (show i<b.length by omega)] at this;simp only[Option.map_some,aG] at this;rw[this];simp
 by_cases h:a.map (fun(t:Nat)=>fC es t)=b.map fun(t:Nat)=>fC es t
 .rw[decide_eq_true h,key.2 h]
 .rw[decide_eq_false h,Bool.eq_false_iff];exact fun h'=>h (key.1 h')
def Au(l:List ai)(c:List (List Int)):Bool:=if(dh l).2=0 then rv (cE l) (aV l) c else false
theorem Lo{sn:List Nat}{ca:List (List Nat)}{c:List (List Int)}{n:Nat}(hn:n<c.length)(h:qK ca.length c n=false):rv sn ca c=false:=by
 unfold rv;rw[rC hn h,Bool.false_and]
theorem Dy{N:Nat}{c:List (List Int)}{n:Nat}{x:List Int}(h:c[n]? =some x):qK N c n=(D7 c n x&&(range x.length).all (tO N c n x)):=by unfold qK;rw[h]
theorem acP{N:Nat}{c:List (List Int)}{n k:Nat}{x:List Int}(h:c[n]? =some x)(hk:k<x.length)(he:tO N c n x k=false):qK N c n=false:=by rw[Dy h,rC hk he,Bool.and_false]
theorem acQ(es:List (Int×Nat)):(gv es).length=es.length:=by simp[gv]
theorem aen{sn:List Nat}{ca:List (List Nat)}{c:List (List Int)}(h:(entries c).length≠ca.length):rv sn ca c=false:=by
 unfold rv;rw[decide_eq_false h];simp
theorem acR{sn:List Nat}{ca:List (List Nat)}{c:List (List Int)}{x:List Int}(hx:x∈c)(h:uL sn ca (entries c) x=false):rv sn ca c=false:=by
 unfold rv
 have:c.all (uL sn ca (entries c))=false:=by
  rw[Bool.eq_false_iff];intro ht;rw[bS.1 ht x hx] at h;cases h
 rw[this];simp
theorem ur{α:Type}{p:α->Bool}{l:List α}{k:Nat}{x:α}(hx:l[k]? =some x)(h:(l.take k).all p=true)(hp:p x=true):(l.take (k+1)).all p=true:=by
 rw[List.take_add_one,hx,List.all_append,h];simp[hp]
end Go.Argus
namespace Go.Proofs.Tryz.K
theorem Ap{l:List ai}{sh:List ByteArray}{ca:List (List Nat)}(h1:sh.length=l.length)(h2:ca.length=l.length)(gD:xm ca)(hn:l.length<=60)(hlen:∀ x∈ca,x.length<=10000):
 aB prog 44 [.agg (cW l sh (ca.map ao))] (.agg (fZ l sh (ca.map ao) (ao (pN (bl sh) ca)))):=by
 have akn:=Fm (ks:=sh) oG;refine bj ako (.cons (.agg (Gn _ _ _)) .nil) (.agg (FX _ _ _ _)) ?_;rw[akp];refine aw ?_;refine ab ?_;refine aa ⟨_,rG (i:=0) (cs:=cW l sh (ca.map ao)) (e:=82) rfl (l:=[(1,.pt (cW l sh (ca.map ao))),(2,.rp 1 0)]) ⟨kY,rfl,trivial⟩ (ml:=[(1,.cells [.z,.z,.z,.z] 86)]) eH,?_⟩;show AW _ _ _ _ (DV _) _;refine ws ?_;refine ab ?_;refine r6 akn rfl aK ?_;refine bw ?_;refine aa (YA ?_);have nD:(bl sh).length=ca.length:=by rw[R7];omega
 have hR:yB ca ((bl sh).length+1) (bl sh) (bt sh).length=pN (bl sh) ca:=by rw[<- Dq];rfl
 have h0s:=Qo (ks:=sh) (n:=90) oG;have h0m:=Dq sh;have fD:=uJ sh;generalize pN (bl sh) ca=RR at*
 refine bZ (fun s=>∃ nx,1<nx/\aH prog s ⟨ax [(1,.pt (cW l sh (ca.map ao))),(2,.rp 1 0),(3,aT (ao RR))],br [(1,.cells [.z,.z,.z,.z] 86)],nx⟩) (aa1 (α:=List Nat×Nat×Nat)
  (fun s=>⟨ax [(1,.pt (cW l sh (ca.map ao))),(2,.rp 1 0),(3,aT (ao s.1)),(4,I (s.2.1:Nat))],br [(1,.cells [.z,.z,.z,.z] 86)],s.2.2⟩)
  (fun s=>s.1.length=ca.length/\s.2.1=(bt s.1).length/\(∀ c∈s.1,c<90)/\(∃ ek,ca.length<ek+s.2.1/\yB ca ek s.1 s.2.1=RR)/\1<s.2.2) (fun s=>ca.length - s.2.1) (bl sh,(bt sh).length,_)
  (au eH) ⟨nD,h0m.symm,h0s,⟨_,oM,hR⟩,oM⟩ ?_) ?_
 .rintro⟨clq,many,nx⟩ ⟨cR,UZ,OH,⟨ek,hfu,X⟩,U⟩;dsimp only at cR UZ OH hfu X U ⊢;have jw:=jw (l:=l) (sh:=sh) (ca:=ca.map ao);have gC:(oa ca clq).length=l.length:=by simp[oa];omega
  have hle:many<=ca.length:=by have:=uJ clq;omega
  refine aw ?_;refine SS ?_;refine aa ⟨_,.rW _ _ _ 5 9 rfl,az (aw ?_)⟩;refine SS ?_;refine cl jw ?_;refine SS ?_
  refine aa (bZ (fun s=>∃ nx,1<nx/\aH prog s ⟨ax [(1,.pt (cW l sh (ca.map ao))),(2,.rp 1 0),(3,aT (ao clq)),(4,I many),(5,bP (oa ca clq))],br [(1,.cells [.z,.z,.z,.z] 86)],nx⟩) (cH (α:=Nat×Nat×Nat)
   (fun s=>⟨ax [(1,.pt (cW l sh (ca.map ao))),(2,.rp 1 0),(3,aT (ao clq)),(4,I many),(5,.rs s.2.1 0 s.1),(19,I l.length),(20,I s.1)],br [(1,.cells [.z,.z,.z,.z] 86),(s.2.1,.cells (((oa ca clq).take s.1).map S) 9)],s.2.2⟩)
   (fun s=>s.1<=l.length/\1<s.2.1/\s.2.1<s.2.2) (fun s=>l.length - s.1) (0,nx,nx+1)
   (cn eH ⟨ah oG rfl,aj _ _ _,trivial⟩) ⟨Nat.zero_le _,U,oM⟩ ?_) ?_)
  .rintro⟨i,r,nx⟩ ⟨hi,wj,xQ⟩;dsimp only at hi wj xQ ⊢;refine SS ?_;refine aa ⟨_,rfl,fun h=>?_,fun h=>?_⟩
   .have eN:i<l.length:=by simpa using h
    clear h;have Je:(ao clq)[i]? =some ((clq.getD i 0:Nat):Int):=by rw[List.getElem?_map,dQ (d:=0) (show i<clq.length by omega)];rfl
    have Fs:(ca.map ao)[i]? =some (ao (ca.getD i [])):=by rw[List.getElem?_map,dQ (d:=[]) (show i<ca.length by omega)];rfl
    have ug:(ca.getD i []).length<=10000:=hlen _ (bu (dQ (show i<ca.length by omega)))
    have eP:(oa ca clq).take (i+1)=(oa ca clq).take i++[iG (ao (lS ca clq i))]:=by
     have:(oa ca clq)[i]? =some (iG (ao (lS ca clq i))):=by
      unfold oa;rw[List.getElem?_map,AJ oG];rfl
     rw[List.take_add_one,this];rfl
    have pj:lS ca clq i=clq.getD i 0::(ca.getD i []).map fun t=>clq.getD t 0:=rfl
    have rh:∀ n∈ao (lS ca clq i),0<=n/\n<90:=fun n hn=>by
     obtain⟨c,hc,rfl⟩:=List.mem_map.1 hn;have:=Kh OH (lS ca clq i) (List.mem_map.2 ⟨i,by simp;omega,rfl⟩) c hc;omega
    have af:(((oa ca clq).take i).map S).length=i:=by simp;omega
    have Oy:=Oy (l:=ao (lS ca clq i)) rh (by rw[pj];simp only[ao,List.length_map,List.length_cons];omega) (by rw[pj];simp[ao]);have dx:∀ t∈ca.getD i [],t<clq.length:=fun t ht=>by rw[cR];exact gD i t ht
    generalize (oa ca clq).take i=done at*
    generalize ca.getD i []=C at*
    generalize lS ca clq i=key at*
    have agW:∀ {a},up (br [(1,.cells [.z,.z,.z,.z] 86),(r,.cells (done.map S) 9)]) nx a r=some (.cells (done.map S) 9):=ah oG (by simp[br];omega);refine ws ?_;refine ab ?_;refine er ?_;refine cz ?_;refine aa (az (aw ?_));refine ik ?_
    refine aa (bZ (fun s=>∃ J,r<J/\aH prog s ⟨ax [(1,.pt (cW l sh (ca.map ao))),(2,.rp 1 0),(3,aT (ao clq)),(4,I many),(5,.rs r 0 i),(7,aT (ao key)),(19,I l.length),(20,I i)],br [(1,.cells [.z,.z,.z,.z] 86),(r,.cells (done.map S) 9)],J⟩) (cH (α:=Nat×Nat×Nat)
     (fun s=>⟨ax [(1,.pt (cW l sh (ca.map ao))),(2,.rp 1 0),(3,aT (ao clq)),(4,I many),(5,.rs r 0 i),(7,.rs s.2.1 0 (s.1+1)),(19,I l.length),(20,I i),(32,aT (ao C)),(33,I (ao C).length),(34,I s.1)],br [(1,.cells [.z,.z,.z,.z] 86),(r,.cells (done.map S) 9),(s.2.1,.cells ((ao (clq.getD i 0::(C.take s.1).map fun t=>clq.getD t 0)).map I) 3)],s.2.2⟩)
     (fun s=>s.1<=C.length/\r<s.2.1/\s.2.1<s.2.2) (fun s=>C.length - s.1) (0,nx,nx+1)
     (cn eH ⟨ah oG rfl,agW,aj _ _ _,trivial⟩) ⟨Nat.zero_le _,xQ,oM⟩ ?_) ?_)
    .rintro⟨j,q',J⟩ ⟨hj,bN,hq2⟩;dsimp only at hj bN hq2 ⊢;refine SS ?_;refine aa ⟨_,rfl,fun h=>?_,fun h=>?_⟩
     .have cZ:j<C.length:=by simpa using h
      clear h;obtain⟨t,ht⟩:∃ t,C[j]? =some t:=⟨_,aL cZ⟩
      have Xg:(ao C)[j]? =some (t:Int):=by rw[List.getElem?_map,ht];rfl
      have gP:(ao clq)[t]? =some ((clq.getD t 0:Nat):Int):=by rw[List.getElem?_map,dQ (d:=0) (dx t (bu ht))];rfl
      have agX:ao (clq.getD i 0::(C.take (j+1)).map fun t=>clq.getD t 0)=ao (clq.getD i 0::(C.take j).map fun t=>clq.getD t 0)++[((clq.getD t 0:Nat):Int)]:=by rw[List.take_add_one,ht];simp only[ao,List.map_append,List.map_cons,Option.toList_some,List.map_nil,List.cons_append]
      have agY:((ao (clq.getD i 0::(C.take j).map fun t=>clq.getD t 0)).map I).length=j+1:=by simp only[ao,List.length_map,List.length_cons,List.length_take];omega
      generalize ao (clq.getD i 0::(C.take j).map fun t=>clq.getD t 0)=out at*
      have ap:br [(1,.cells [.z,.z,.z,.z] 86),(r,.cells (done.map S) 9),(q',.cells (out.map I) 3)] q'=some (.cells (out.map I) 3):=(yA oG).trans ((yA oG).trans A');have aoJ:out.length=j+1:=by simpa using agY
      have agZ:br [(1,.cells [.z,.z,.z,.z] 86),(r,.cells (done.map S) 9),(q',.cells (out.map I) 3)] r=some (.cells (done.map S) 9):=(yA oG).trans A';refine ws ?_;refine ay ?_;refine aa (fO ?_);refine du ?_;refine aa ?_;refine ab ?_;refine aa (bf (j+1,J+1,J+1+1) ?_ ⟨oM,oM,oM⟩ oM);dsimp only;rw[agX];refine cn eH ⟨ah oG (ah oG (ah oG rfl)),ah oG (ah oG (ah oG agZ)),(aj _ _ _).trans (by simp;rfl),trivial⟩
     .have bm:¬ j<C.length:=by simpa using h
      have:j=C.length:=by omega
      subst this;rw[List.take_length, <- pj];have Iq:key.length=C.length+1:=by rw[pj];simp
      refine⟨J,oG,rG (i:=q') (cs:=(ao key).map I) (e:=3) ((yA oG).trans ((yA oG).trans A')) ⟨rfl,gE oG,rfl,rfl,AZ oG,?_,rfl,rfl,trivial⟩ ⟨Gq oG rfl rfl,Gq oG ((yA oG).trans A') (congrArg (Row.cells · 9) (R1 (fun _=>rfl) done)),trivial⟩⟩;exact(jR (by rw[c3];simp;omega)).trans (by show _=D.sl _ _;simp only[ao,List.length_map,Iq])
    .rintro s ⟨J,B6,M⟩;refine⟨_,M,fO ?_⟩;clear M;have ap:br [(1,.cells [.z,.z,.z,.z] 86),(r,.cells (done.map S) 9)] r=some (.cells (done.map S) 9):=(yA oG).trans A';have aiX:done.length=i:=by simpa using af
     refine ab ?_;refine cl Oy ?_;refine ay ?_;refine aa ?_;refine ab ?_;refine aa (bf (i+1,J+1,J+1+1) ?_ ⟨oM,oM,oM⟩ oM);dsimp only;rw[eP];exact cn eH ⟨ah oG (ah oG (ah oG rfl)),(aj _ _ _).trans (by rw[List.map_append];simp;rfl),trivial⟩
   .have bm:¬ i<l.length:=by simpa using h
    have:i=l.length:=by omega
    subst this;rw[dq oG];refine⟨nx,oG,rG (i:=r) (cs:=(oa ca clq).map S) (e:=9) (by simp[br];omega) ⟨rfl,gE oG,rfl,rfl,?_,trivial⟩ ⟨Gq oG rfl rfl,trivial⟩⟩;exact(jR (by rw[c9,List.length_map,gC];omega)).trans (by show _=D.sl _ _;rw[gC])
  .rintro s ⟨nx,U,M⟩;refine⟨_,M,ag ?_⟩;clear M;obtain⟨zT,Ft⟩:=aa2 (ca:=ca) OH;have Fm:=Fm (ks:=oa ca clq) oG;rw[zT,Ft] at Fm;have aoK:many<=(bt (eJ ca clq)).length:=by rw[UZ];exact Q4 cR
   have aoU:(bt (eJ ca clq)).length<=ca.length:=by have:=uJ (eJ ca clq);simpa using this
   have fX:(bl (eJ ca clq)).length=ca.length:=by simp
   have Cq:=Dq (eJ ca clq);have CG:=Qo (ks:=eJ ca clq) (n:=90) oP;cases ek with
   |zero=>omega
   |succ ek=>
   unfold yB at X;generalize (bt (eJ ca clq)).length=more at*
   generalize bl (eJ ca clq)=qe at*
   refine SS ?_;refine cl Fm ?_;refine bw ?_;refine er ?_;refine ab ?_;refine aa (az (ag ?_));refine ay ?_;refine aa (cA rfl (fun h=>uv (ad4 oC ?_)) fun h=>cm (fO ?_))
   .have hm:more=many:=by
     have:((more:Nat):Int)=many:=by simpa using h
     omega
    rw[if_pos hm] at X;subst X;exact⟨nx,U,au eH⟩
   .have hm:¬ more=many:=by
     intro e;subst e;simp at h
    rw[if_neg hm] at X;refine ab ?_;refine aa (bf (qe,more,nx) (au eH) ⟨fX,Cq.symm,CG,⟨ek,oM,X⟩,U⟩ oM)
 .rintro s ⟨nx,U,M⟩;refine⟨_,M,ag ?_⟩;refine aY ?_;exact aa (bG (GH (tv (iq (cs:=fZ l sh (ca.map ao) (ao RR)) (vs:=fZ l sh (ca.map ao) (ao RR)) rfl rfl CH xR rfl t86 (aZ 4)) rfl)))
end Go.Proofs.Tryz.K
namespace Go.Abs
theorem ko.grow{m m':Mem}{nx U j J n:Nat}{e et:TypeId}{ρ:Nat->Nat}{L:Nat->List D}(h:ko m nx j n e et ρ L)(X:L n=[])(hj:nx<=J)(lz:J<U)(ap:m' J=some (.cells (oB ρ L n++[.z]) e))(hk:∀ q,q<nx->q≠j->m' q=m q):ko m' U J (n+1) e et ρ L:=by
 have af:∀ i,i<n+1->L i≠[]->i<n:=fun i hi C=>by
  by_cases e:i=n
  .subst e;exact absurd X C
  .omega
 refine⟨?_,lz,fun i hi C=>?_,fun i hi C=>?_,fun i hi C=>?_,fun a b ha hb M qb=>h.inj a b (af a ha M) (af b hb qb) M qb⟩
 .rw[ap];unfold oB;rw[List.range_succ,List.map_append];simp[X,jc]
 .have:=af i hi C;exact(hk _ (h.lt i this C) (h.ne i this C)).trans (h.B9 i this C)
 .have:=h.lt i (af i hi C) C;omega
 .have:=h.lt i (af i hi C) C;omega
theorem ko.nil{m:Mem}{nx j:Nat}{e et:TypeId}{ρ:Nat->Nat}{L:Nat->List D}(hm:m j=some (.cells [] e))(hj:j<nx):ko m nx j 0 e et ρ L:=
 ⟨hm,hj,fun _ h=>absurd h (Nat.not_lt_zero _),fun _ h=>absurd h (Nat.not_lt_zero _),fun _ h=>absurd h (Nat.not_lt_zero _),fun _ _ h=>absurd h (Nat.not_lt_zero _)⟩
theorem afp{P:Program}{env:Env}{m:Mem}{nx:Nat}{x y:Operand}{t e:TypeId}{a:Int}{l:List Int}(hx:(opd env x).core=aT (a::l))(hy:(opd env y).core=.s (.int .i64 1))(he:aF P t=e)(hs:P.cellsOf e=1)(ht:bi P t=true):
 Ef P (.slice t x (some y) none none) env m nx ⟨True,aT l,[],[],0⟩:=by
 have h:=K4 (P:=P) (env:=env) (m:=m) (nx:=nx) (t:=t) (lo:=some y) (hi:=none) (a:=1) (b:=((a::l).length:Int)) (es':=l.map I) hx he hs (by simp[ed,hy,D.int?]) (by simp[ed]) (by
  simp only[List.map_cons,Int.reduceToNat,Nat.mul_one,List.drop_succ_cons,List.drop_zero,List.length_cons]
  exact dq oS)
 have h2:(bi P t=true/\(0:Int)<=1/\(1:Int)<=((a::l).length:Int)/\((a::l).length:Int)<=((a::l).length:Int))=True:=by
  apply propext;constructor
  .exact fun _=>trivial
  .exact fun _=>⟨ht,oG,by simp;omega,oG⟩
 have C:(((a::l).length:Int) - 1).toNat=l.length:=by simp
 rw[h2,C] at h;exact h
end Go.Abs
namespace Go.Proofs.Tryz.K
theorem CI{κ:Type}[DecidableEq κ]{l:List ai}{sh:List ByteArray}{ca:List (List Int)}{ks:List κ}(hl:ks.length<=1000):
 aB prog 45 [.agg (fZ l sh ca (ao (bl ks)))] (bX (iH (bl ks) (bt ks).length)):=by
 refine bj akq (.cons (.agg (FX _ _ _ _)) .nil) (uA _) ?_;rw[akr];refine aw ?_;refine ab ?_;refine aa (bH (dA [(0,fZ l sh ca (ao (bl ks)),86)] eH (l:=[(1,.pt (fZ l sh ca (ao (bl ks))))]) eH) (aw ?_));refine SS ?_;refine aa ⟨_,.rW _ _ _ 3 43 rfl,az (aw ?_)⟩;refine aY ?_;have cR:(ao (bl ks)).length=ks.length:=by simp
 refine aa (bZ (fun s=>∃ j m nx ρ,aH prog s ⟨ax [(3,.rs j 0 (jN ks ks.length))],m,nx⟩/\ko m nx j (jN ks ks.length) 43 3 ρ (fun k=>(ao (lT (bl ks) ks.length k)).map I)) (cH (α:=Nat×Nat×Mem×Nat)
  (fun s=>⟨ax [(3,.rs s.2.1 0 (jN ks s.1)),(7,aT (ao (bl ks))),(8,I (ao (bl ks)).length),(9,I s.1)],s.2.2.1,s.2.2.2⟩)
  (fun s=>s.1<=ks.length/\∃ ρ,ko s.2.2.1 s.2.2.2 s.2.1 (jN ks s.1) 43 3 ρ (fun k=>(ao (lT (bl ks) s.1 k)).map I)) (fun s=>ks.length - s.1) (0,1,_,2)
  (au eH) ⟨Nat.zero_le _,fun _=>0,ko.nil rfl oM⟩ ?_) ?_)
 .rintro⟨i,j,m,nx⟩ ⟨hi,ρ,M⟩;dsimp only at hi M ⊢;refine SS ?_;refine aa ⟨_,rfl,fun h=>?_,fun h=>?_⟩
  .have eN:i<ks.length:=by simpa using h
   clear h;obtain⟨c1,xS⟩:=acO eN;have Je:(ao (bl ks))[i]? =some (((bl ks).getD i 0:Nat):Int):=by rw[List.getElem?_map,dQ (d:=0) (by simpa using eN)];rfl
   have Xj:=acN (clq:=bl ks) (i:=i) rfl;have aks:=aa3 (bl ks) i ((bl ks).getD i 0);have M5:∀ k,jN ks i<=k->lT (bl ks) i k=[]:=fun k hk=>aa5 hi hk;have aoV:jN ks i<=1000:=by have:=uJ (ks.take i);simp[jN] at this ⊢;omega
   generalize hn:(bl ks).getD i 0=n at*
   generalize jN ks i=c at*
   generalize lT (bl ks) i=L at*
   have cZ:=M.Ar;refine ws ?_;refine bw ?_;refine aa (jf (fun s=>∃ U m' C J,n<jN ks (i+1)/\ko m' C U (jN ks (i+1)) 43 3 J (fun k=>(ao (L k)).map I)/\aH prog s ⟨ax [(3,.rs U 0 (jN ks (i+1))),(4,I i),(5,I n),(7,aT (ao (bl ks))),(8,I (ao (bl ks)).length),(9,I i)],m',C⟩) ?_ ?_)
   .refine ws ?_;have ap:=M.row;refine aY ?_;refine aa (aQ rfl (fun h=>tw ?_) fun h=>cO ?_)
    .have e:n=c:=by
      have:(n:Int)=c:=by simpa using h
      omega
     rw[if_pos e] at xS;subst e;refine ab ?_;refine jI (jB rfl (ah oG ap) rfl V.h V.h (lE (aj _ _ _) rfl) rfl) ak ⟨V.h,rfl,(by first|omega|exact bJ rfl|(simp;done)|(simp;omega)),oC,(by first|rfl|(simp;done)|(simp;omega)),(by unfold maxLen;first|omega|(simp;omega)),(by rw[Fq];first|omega|(simp;omega)),(by first|(simp;done)|(simp;omega))⟩ ?_;refine SS ?_;refine aa ⟨nx+1,_,nx+1+1,ρ,oG,?_,au ⟨?_,rfl,rfl,rfl,rfl,rfl,trivial⟩⟩
     .rw[xS];refine M.grow (by rw[M5 n (aZ _)];rfl) oG oG ?_ (fun q hq wk=>?_)
      .exact(aj _ _ _).trans (by simp;rfl)
      .exact ah oG (ah oG (ah oG rfl))
     .rw[xS];rfl
    .have e:¬ n=c:=fun e=>by subst e;simp at h
     rw[if_neg e] at xS;exact⟨j,m,nx,ρ,oG,by rw[xS];exact M,by rw[xS];exact au eH⟩
   .rintro s ⟨U,m',C,J,kH,X,dU⟩;refine⟨_,dU,fO ?_⟩;clear dU;have ap:=X.row;have aoW:=X.Ar;have hLl:(ao (L n)).length<=i:=by simpa using aks
    generalize xI:jN ks (i+1)=c' at*
    obtain⟨cs,kd⟩:=R8 (ρ:=J) (L:=fun k=>(ao (L k)).map I) kH;by_cases hz:L n=[]
    .have At:jc (J n) ((ao (L n)).map I)=.z:=by rw[hz];rfl
     rw[At] at kd;refine bh ?_;refine av (na rfl rfl (ah oG (ah oG ap)) V.h V.h) ak ⟨V.h,oG⟩ ?_;refine bQ (eR (d:=.rs _ _ _) (cs':=_) rfl rfl (ah oG (ah oG ap)) rfl rfl) ak (cw V.h V.h (by first|(simp;done)|exact⟨rfl,bJ rfl⟩|(simp;omega)) rfl) ?_;refine aa ?_;refine ab ?_;refine aa (bf (i+1,U,up (up (up m' C (some (.cells [I i] 3))) (C+1) (some (.cells [I i] 3))) U (some (.cells ((oB J (fun k=>(ao (L k)).map I) c').set n (.rs (C+1) 0 1)) 43)),C+2) (au ⟨?_,rfl,rfl,rfl,trivial⟩) ⟨oM,up J n (C+1),?_⟩ oM)
     .exact congrArg (fun n=>D.rs U 0 n) xI.symm
     dsimp only;rw[Xj,xI];refine X.Jf kH oS oG oG ?_ ?_ (fun q hq wk _=>?_)
     .rw[hz];exact aj _ _ _
     .rw[hz];exact ah oG (aj _ _ _)
     .exact ah oG (ah oG (ah oG rfl))
    .have aC:(ao (L n)).map I≠[]:=by simpa using hz
     have At:jc (J n) ((ao (L n)).map I)=.rs (J n) 0 (ao (L n)).length:=by rw[Eu aC,List.length_map]
     rw[At] at kd;have iz:=X.B9 n kH aC;have hρn:=X.lt n kH aC;have hρ1:=X.ne n kH aC;refine bh ?_;refine av (na rfl rfl (ah oG (ah oG (ah oG ap))) V.h V.h) ak ⟨V.h,oG⟩ ?_;refine bQ (eR (d:=.rs _ _ _) (cs':=_) rfl rfl (ah oG (ah oG (ah oG ap))) rfl rfl) ak (cw V.h V.h (by first|(simp;done)|exact⟨rfl,bJ rfl⟩|(simp;omega)) rfl) ?_;refine aa ?_;refine ab ?_;refine aa (bf (i+1,U,up (up (up (up m' C (some (.cells [I i] 3))) (J n) none) (C+1) (some (.cells ((ao (L n)).map I++[I i]) 3))) U (some (.cells ((oB J (fun k=>(ao (L k)).map I) c').set n (.rs (C+1) 0 ((ao (L n)).length+1))) 43)),C+2) (au ⟨?_,rfl,rfl,rfl,trivial⟩) ⟨oM,up J n (C+1),?_⟩ oM)
     .exact congrArg (fun n=>D.rs U 0 n) xI.symm
     dsimp only;rw[Xj,xI];refine X.Jf kH oS oG oG ?_ ?_ (fun q hq wk z8=>?_)
     .have e:((ao (L n)++[(i:Int)]).map I).length=(ao (L n)).length+1:=by simp
      rw[e];exact aj _ _ _
     .rw[List.map_append];exact ah oG (aj _ _ _)
     .have:=z8 aC;exact ah oG (ah oG (ah oG (ah oG rfl)))
  .have bm:¬ i<ks.length:=by simpa using h
   have:i=ks.length:=by omega
   subst this;exact⟨j,m,nx,ρ,au eH,M⟩
 .rintro s ⟨j,m,nx,ρ,hg,M⟩;have vW:jN ks ks.length=(bt ks).length:=by unfold jN;rw[List.take_length]
  rw[vW] at hg M;have xT:¬ ∃ i,i<(bt ks).length/\(ao (lT (bl ks) ks.length i)).map I≠[]/\ρ i=j:=fun⟨i,h1,h2,h3⟩=>M.ne i h1 h2 h3;refine⟨_,hg.trans (Q5 (l:=[(3,.rs j 0 (bt ks).length)]) (ml:=[]) (fun r=>∃ i,i<(bt ks).length/\(ao (lT (bl ks) ks.length i)).map I≠[]/\ρ i=r) M (fun _=>.map) c3 (fun i h1 h2=>⟨i,h1,h2,rfl⟩) xT ⟨rfl,trivial⟩ (fun x hx=>?_) trivial (fun x hx=>by cases hx)),aw ?_⟩
  .simp at hx;subst hx;exact .rs xT
  refine ab ?_;refine aa (bH (dA [(j,_,43)] ⟨A',trivial⟩ (l:=[(2,bX (iH (bl ks) (bt ks).length))]) ⟨?_,trivial⟩) (aD rfl rfl));show sub (cM j _ (prog.cellsOf 43)) (D.rs j 0 (bt ks).length)=_;rw[jR (by rw[ui];simp),R9,afn,R7]
theorem kq{l:List ai}(hl:l.length<=1000):aB prog 16 [ba l] (.aM [qg l,I (dh l).2]):=by
 have io:=io hl
 have M:Tr (qg l):=by
  unfold qg;split
  .exact uA _
  .exact .z
 refine bj akt (.cons (iU l) .nil) (.aM (.cons M (.cons (.s _) .nil))) ?_;unfold qg;by_cases he:(dh l).2=0
 .have J:=mz he;rw[if_pos he,he];rw[A0 he,he] at io;have X:(cE l).length=(aV l).length:=by simp
  have Ap:=Ap (l:=l) (sh:=bp l) (ca:=aV l) (by simp[bp]) oS J.pq J.len fun x hx=>by
   obtain⟨f,hf,rfl⟩:=List.mem_map.1 hx;have:=AG f.blocks;have:=(s6 (Go.Argus.checked (J.nJ f hf))).lD;simp;omega
  obtain⟨ks,hk,hs⟩:=Q6 X;have CI:=CI (l:=l) (sh:=bp l) (ca:=(aV l).map ao) (ks:=ks) (by simp at hk;omega);have U:pN (bl (bp l)) (aV l)=bl ks:=hs;have C:nw l=iH (bl ks) (bt ks).length:=by unfold nw eT;rw[hs,Dq]
  rw[U] at Ap;rw[C];rw[VQ];refine ws ?_;refine ab ?_;refine er ?_;refine SS ?_;refine cl io ?_;refine cz ?_;refine aa (az (ag ?_));refine ab ?_;refine aa (tD (cm (ag ?_)));refine SS ?_;refine cl Ap ?_;refine cl CI ?_;refine ab ?_;exact aa (gG rfl rfl rfl)
 .rw[if_neg he];rw[Dp he] at io;generalize (dh l).2=err at*
  rw[VQ];refine ws ?_;refine ab ?_;refine er ?_;refine SS ?_;refine cl io ?_;refine cz ?_;refine aa (az (ag ?_));refine ab ?_;refine aa (cA rfl (fun h=>az (ag ?_)) fun h=>?_)
  .refine ay ?_;exact aa (dG (gG rfl rfl rfl))
  .exfalso;revert h;simpa using he
theorem BK(i:Int):cL prog 3 (.int .i64 i)=true:=by simp[cL,u3]
theorem Ev(es:List (Int×Nat)):(gv es).all (fun e=>cL prog 3 e.1)=true:=by
 refine bS.2 fun e he=>?_;obtain⟨x,_,rfl⟩:=List.mem_map.1 he;exact BK _
theorem akv:mB prog (lW prog 93)=I 0:=kr
theorem U0(i:Int)(es:List (Int×Nat)):fH prog 93 true (cT (.int .i64 i) (gv es))=.aM [I (fC es i:Nat),B (jq es i)]:=by
 have h:=Ki i es;cases hl:cT (.int .i64 i) (gv es) with
 |none=>
  rw[hl] at h;cases hh:jq es i with
  |true=>rw[hh] at h;simp at h
  |false=>
   rw[aa6 hh];show(D.aM [mB prog (lW prog 93),_])=_;rw[akv];rfl
 |some x=>
  rw[hl] at h;cases hh:jq es i with
  |false=>rw[hh] at h;simp at h
  |true=>
   rw[hh] at h;simp only[Option.map_some,if_true,aG] at h;obtain⟨j,d⟩:=x;simp only at h;subst h;rfl
theorem T5(i:Int)(es:List (Int×Nat)):fH prog 93 false (cT (.int .i64 i) (gv es))=I (fC es i:Nat):=by
 have h:=U0 i es;cases hl:cT (.int .i64 i) (gv es) with
 |none=>
  rw[hl] at h;have h:D.aM [mB prog (lW prog 93),B false]=_:=h;have h1:=(List.cons.inj (D.aM.inj h)).1;exact h1
 |some x=>
  rw[hl] at h;have h:D.aM [x.2,B true]=_:=h;exact(List.cons.inj (D.aM.inj h)).1
theorem k50{a b:Int}{es:List (Int×Nat)}:aB prog 50 [I a,I b,.pt [.im (gv es)]] (B (((fC es a:Nat):Int)==(fC es b:Nat))):=by
 refine bj akw (.cons (.s _) (.cons (.s _) (.cons (.pt (.cons (.im fun x hx=>by obtain⟨y,_,rfl⟩:=List.mem_map.1 hx;exact .s _) .nil)) .nil))) (Tr.s _) ?_;rw[akx];refine ws ?_;refine SS ?_;refine er ?_;refine ab ?_;refine av (AM rfl rfl B' (T5 a es)) aK ⟨Ca,BK _,Ev _⟩ ?_;refine ab ?_;refine av (AM rfl rfl B' (T5 b es)) aK ⟨Ca,BK _,Ev _⟩ ?_;refine ab ?_;exact aa (aD rfl rfl)
theorem OI{a b:List Int}{g:FuncId}{fs cs:List D}{p:Int->Int->Bool}(ht:Tr (.fn (.func g) fs cs))(hg:∀ x y,aB prog g (fs++[I x,I y]++cs) (B (p x y)))(ha:a.length<=100000):
 aB prog 49 [aT a,aT b,.fn (.func g) fs cs] (B (xq p a b)):=by
 refine bj aky (.cons (di a) (.cons (di b) (.cons ht .nil))) (Tr.s _) ?_;rw[akz];refine ws ?_;refine SS ?_;refine aa (az (ag ?_));refine bw ?_;refine aa (cA rfl (fun h=>az (ag ?_)) fun h=>cm (az (aw ?_)))
 .have h:¬ a.length=b.length:=fun e=>by rw[e] at h;simp at h
  unfold xq;rw[decide_eq_false h,Bool.false_and];refine SS ?_;exact aa (dG (aD rfl rfl))
 have h:a.length=b.length:=by
  have:(a.length:Int)=b.length:=by simpa using h
  omega
 unfold xq;rw[decide_eq_true h,Bool.true_and];refine ay ?_
 refine aa (bZ (fun s=>∃ m nx,aH prog s ⟨ax [],m,nx⟩/\(range a.length).all (fun i=>p (a.getD i 0) (b.getD i 0))=true) (cH (α:=Nat×Mem×Nat)
  (fun s=>⟨ax [(1,aT b),(2,.fn (.func g) fs cs),(15,aT a),(16,I a.length),(17,I s.1)],s.2.1,s.2.2⟩)
  (fun s=>s.1<=a.length/\(range s.1).all (fun i=>p (a.getD i 0) (b.getD i 0))=true) (fun s=>a.length - s.1) (0,_,_)
  (au eH) ⟨Nat.zero_le _,rfl⟩ ?_) ?_)
 .rintro⟨i,m,nx⟩ ⟨hi,C⟩;dsimp only at hi C ⊢;refine SS ?_;refine aa ⟨_,rfl,fun h=>?_,fun h=>?_⟩
  .have J:i<a.length:=by simpa using h
   obtain⟨x,hx⟩:∃ x,a[i]? =some x:=⟨_,aL J⟩
   obtain⟨y,hy⟩:∃ y,b[i]? =some y:=⟨_,aL oG⟩
   have U:=hg x y;have hp:p (a.getD i 0) (b.getD i 0)=p x y:=by rw[rP hx,rP hy]
   refine ws ?_;refine bw ?_;refine er ?_;refine bw ?_;refine er ?_;refine ay ?_;refine cl U ?_;refine SS ?_;refine aa (aQ rfl (fun h=>ag ?_) fun h=>cP ?_)
   .have hf:p x y=false:=by simpa using h
    rw[rC J (hp.trans hf)];refine SS ?_;exact aa (bG (bY (bA (aD rfl rfl))))
   .have hf:p x y=true:=by simpa using h
    refine ab ?_;exact aa (bf (i+1,m,nx) (au eH) ⟨oM,pD C (hp.trans hf)⟩ oM)
  .have X:¬ i<a.length:=by simpa using h
   have:i=a.length:=by omega
   subst this;exact⟨m,nx,au trivial,C⟩
 .rintro s ⟨m,nx,M,C⟩;rw[C];refine⟨_,M,ag ?_⟩;refine SS ?_;exact aa (aD rfl rfl)
theorem aeo{l:List ai}{c:List (List Int)}(hl:l.length<=1000)(he:(dh l).2≠0):aB prog 18 [ba l,bX c] (.aM [B false,I (dh l).2]):=by
 have io:=io hl;refine bj VR (.cons (iU l) (.cons (uA c) .nil)) (.aM (.cons (.s _) (.cons (.s _) .nil))) ?_;rw[Dp he] at io;generalize (dh l).2=err at*
 rw[VS];refine ws ?_;refine ab ?_;refine er ?_;refine SS ?_;refine cl io ?_;refine cz ?_;refine aa (az (ag ?_));refine ab ?_;refine aa (cA rfl (fun h=>az (ag ?_)) fun h=>?_)
 .refine ay ?_;exact aa (dG (gG rfl rfl rfl))
 .exfalso;revert h;simpa using he
theorem afq{l:List ai}{c:List (List Int)}(hl:l.length<=1000)(he:(dh l).2=0)(vU:c.length<=100000)(mU:∀ x∈c,x.length<=100000):aB prog 18 [ba l,bX c] (.aM [B (rv (cE l) (aV l) c),I 0]):=by
 have io:=io hl;refine bj VR (.cons (iU l) (.cons (uA c) .nil)) (.aM (.cons (.s _) (.cons (.s _) .nil))) ?_;have hL:=mz he;rw[A0 he,he] at io;have jw:=jw (l:=l) (sh:=bp l) (ca:=(aV l).map ao);have hN:(aV l).length=l.length:=by simp
 rw[VS];refine ws ?_;refine ab ?_;refine er ?_;refine SS ?_;refine cl io ?_;refine cz ?_;refine aa (az (ag ?_));refine ab ?_;refine aa (cA rfl (fun h=>by cases h) fun h=>cm (aw ?_));refine ab ?_;refine bQ (eR (d:=.mp _) (cs':=[_]) rfl rfl rfl rfl rfl) ak (cw V.h V.h (by first|(simp;done)|exact⟨rfl,bJ rfl⟩|(simp;omega)) rfl) ?_;refine aa ⟨_,rG (i:=0) (cs:=cW l (bp l) ((aV l).map ao)) (e:=82) rfl (l:=[(1,bX c),(6,.pt (cW l (bp l) ((aV l).map ao))),(8,.rp 2 0)]) ⟨rfl,kY,rfl,trivial⟩ (ml:=[(1,.map (gv [])),(2,.cells [.mp 1] 93)]) eH,ag ?_⟩;refine SS ?_;refine aa (az (aw ?_));refine ay ?_
 refine aa (bZ (fun s=>(∃ nx,2<nx/\aH prog s ⟨ax [(1,bX c),(6,.pt (cW l (bp l) ((aV l).map ao))),(8,.rp 2 0)],br [(1,.map (gv (entries c))),(2,.cells [.mp 1] 93)],nx⟩)/\(range c.length).all (qK (aV l).length c)=true) (cH (α:=Nat×Nat)
  (fun s=>⟨ax [(1,bX c),(6,.pt (cW l (bp l) ((aV l).map ao))),(8,.rp 2 0),(9,I (yk c s.1)),(29,bX c),(30,I c.length),(31,I s.1)],br [(1,.map (gv (entries (c.take s.1)))),(2,.cells [.mp 1] 93)],s.2⟩)
  (fun s=>s.1<=c.length/\2<s.2/\(range s.1).all (qK (aV l).length c)=true) (fun s=>c.length - s.1) (0,3)
  (cn eH eH) ⟨Nat.zero_le _,oC,rfl⟩ ?_) ?_)
 .rintro⟨n,nx⟩ ⟨hn,J,X⟩;dsimp only at hn J X ⊢;refine SS ?_;refine aa ⟨_,rfl,fun h=>?_,fun h=>?_⟩
  .have fX:n<c.length:=by simpa using h
   clear h;obtain⟨x,hx⟩:∃ x,c[n]? =some x:=⟨_,aL fX⟩
   have xH:=mU x (bu hx);refine ws ?_;refine bw ?_;cases x with
   |nil=>
    refine aa (az (ag ?_));refine aY ?_;(iterate 5 refine z fun _ _=>?_);refine SS ?_;refine aa (cA rfl (fun h=>az (ag ?_)) fun h=>by cases h);have hr:qK (aV l).length c n=false:=by rw[Dy hx];rfl
    rw[Lo fX hr];refine ab ?_;exact aa (dG (bY (bA (gG rfl rfl rfl))))
   |cons a C=>
    have ha:(a::C)[0]? =some a:=rfl;have OK:D7 c n (a::C)=decide (yk c n<a):=rfl;have Jc:yk c (n+1)=a:=by unfold yk;rw[if_neg oG,show n+1 - 1=n by omega,rP hx];rfl
    have aC:(((a::C).length:Int)==0)=false:=by simp;omega
    have CD:=hx;generalize hxx:a::C=x at hx ha OK xH aC;refine aa (az (ag ?_));have oA:=aC;refine du ?_;refine ab ?_;refine aa (cA rfl (fun h=>az (ag ?_)) fun h=>cm (ag ?_))
    .have hr:qK (aV l).length c n=false:=by
      have h:a<=yk c n:=by simpa using h
      rw[Dy hx,OK,decide_eq_false oG,Bool.false_and]
     rw[Lo fX hr];refine ab ?_;exact aa (dG (bY (bA (gG rfl rfl rfl))))
    have akA:D7 c n x=true:=by
     have h:¬ a<=yk c n:=by simpa using h
     rw[OK,decide_eq_true oG]
    clear h;refine aY ?_;refine aa (aw ?_);refine ay ?_
    refine aa (cH (α:=Nat×Nat)
     (fun s=>⟨ax [(1,bX c),(6,.pt (cW l (bp l) ((aV l).map ao))),(8,.rp 2 0),(9,I a),(10,I n),(11,aT x),(29,bX c),(30,I c.length),(31,I n),(49,aT x),(50,I x.length),(51,I s.1)],br [(1,.map (gv (entries (c.take n)++(x.take s.1).map fun j=>(j,n)))),(2,.cells [.mp 1] 93)],s.2⟩)
     (fun s=>s.1<=x.length/\2<s.2/\(range s.1).all (tO (aV l).length c n x)=true) (fun s=>x.length - s.1) (0,nx)
     (cn eH ⟨by rw[List.take_zero,List.map_nil,List.append_nil];rfl,rfl,trivial⟩) ⟨Nat.zero_le _,J,rfl⟩ ?_)
    rintro⟨k,nx⟩ ⟨hk,J,uj⟩;dsimp only at hk J uj ⊢;refine SS ?_;refine aa ⟨_,rfl,fun h=>?_,fun h=>?_⟩
    .have gC:k<x.length:=by simpa using h
     clear h;obtain⟨i,hi⟩:∃ i,x[k]? =some i:=⟨_,aL gC⟩
     have kZ:br [(1,Row.map (gv (entries (c.take n)++(x.take k).map fun j=>(j,n)))),(2,.cells [.mp 1] 93)] 1=some (.map (gv (entries (c.take n)++(x.take k).map fun j=>(j,n)))):=rfl;have U:tO (aV l).length c n x k=(!(jq (entries (c.take n)++(x.take k).map fun j=>(j,n)) i)&&(decide (0<=i)&&(decide (i<(aV l).length)&&(decide (k=0)||decide (x.getD (k - 1) 0<i))))):=by unfold tO;rw[hi]
     have eP:(entries (c.take n)++(x.take (k+1)).map fun j=>(j,n))=(entries (c.take n)++(x.take k).map fun j=>(j,n))++[(i,n)]:=by rw[List.take_add_one,hi,List.map_append,List.append_assoc];rfl
     generalize (entries (c.take n)++(x.take k).map fun j=>(j,n))=es at*
     refine ws ?_;refine bw ?_;refine aa (az (ag ?_));refine ab ?_;refine av (Gk rfl kZ rfl B' (U0 i es)) aK ⟨Ca,BK i,Ev es⟩ ?_;refine bw ?_;refine aa (az (ag ?_));have tN:tO (aV l).length c n x k=false->rv (cE l) (aV l) c=false:=fun h=>Lo fX (acP hx gC h);have ID:decide ((l.length:Int)<=i)= !decide (i<((aV l).length:Int)):=by rw[hN];by_cases h:i<(l.length:Int)<;>simp[h];omega
     have pf:decide (i<(0:Int))= !decide (0<=i):=by by_cases h:0<=i<;>simp[h];omega
     cases k with
     |zero=>
      have vy:decide ((0:Int)<((0:Nat):Int))=false:=rfl;refine du ?_;refine gc jw ?_;refine cz ?_;refine jC rfl (congrArg some (Bool.and_false _)) fun _ _=>?_;refine jC rfl (congrArg some (Bool.and_false _)) fun _ _=>?_;refine jC rfl (congrArg some (Bool.and_false _)) fun _ _=>?_;refine jC rfl (congrArg some (Bool.and_false _)) fun _ _=>?_;refine jC rfl (congrArg some (Bool.and_false _)) fun _ _=>?_;refine jC rfl (congrArg some (Bool.and_false _)) fun _ _=>?_;refine jC rfl (congrArg some (Bool.and_false _)) fun _ _=>?_;refine ab ?_;refine aa (cA rfl (fun h=>az (ag ?_)) fun h=>cm (fO ?_))
      .rw[tN (by rw[U];revert h;rw[ID,pf];cases jq es i<;>cases decide (0<=i)<;>cases decide (i<((aV l).length:Int))<;>simp)];refine ab ?_;exact aa (dG (bY (bY (bA (gG rfl rfl rfl)))))
      .have M:tO (aV l).length c n x 0=true:=by rw[U];revert h;rw[ID,pf];cases jq es i<;>cases decide (0<=i)<;>cases decide (i<((aV l).length:Int))<;>simp
       have gO:jq es i=false:=by
        rw[U] at M;simp only[aW,Bool.not_eq_true'] at M;exact M.1
       refine ay ?_;refine bQ (yM (key:=.int .i64 i) (v:=I (n:Nat)) rfl kZ rfl rfl B') aK ⟨Ca,BK i,Ev es⟩ ?_;rw[R' gO];refine aa ?_;refine ab ?_;refine aa (bf (0+1,nx) ?_ ⟨oM,J,pD uj M⟩ oM);dsimp only;rw[eP];exact cn eH ⟨aj _ _ _,rfl,trivial⟩
     |succ k=>
      obtain⟨y,hy⟩:∃ y,x[k]? =some y:=⟨_,aL oG⟩
      have vy:decide ((0:Int)<((k+1:Nat):Int))=true:=decide_eq_true oG;have xj:((k+1:Nat):Int) - 1=(k:Nat)/\ -9223372036854775808<=((k:Nat):Int)/\((k:Nat):Int)<=9223372036854775807:=⟨oG,oG,oG⟩
      have Xk:decide (i<=y)= !decide (y<i):=by by_cases h:y<i<;>simp[h];omega
      rw[show k+1 - 1=k by omega,rP hy,decide_eq_false (show ¬ k+1=0 by omega),Bool.false_or] at U;refine du ?_;refine gc jw ?_;refine bh ?_;refine cz ?_;refine aa (cA rfl (fun h=>az (ag ?_)) fun h=>cm (fO ?_))
      .rw[tN (by rw[U];revert h;rw[ID,pf,Xk];cases jq es i<;>cases decide (0<=i)<;>cases decide (i<((aV l).length:Int))<;>cases decide (y<i)<;>simp)];refine ab ?_;exact aa (dG (bY (bY (bA (gG rfl rfl rfl)))))
      .have M:tO (aV l).length c n x (k+1)=true:=by rw[U];revert h;rw[ID,pf,Xk];cases jq es i<;>cases decide (0<=i)<;>cases decide (i<((aV l).length:Int))<;>cases decide (y<i)<;>simp
       have gO:jq es i=false:=by
        rw[U] at M;simp only[aW,Bool.not_eq_true'] at M;exact M.1
       refine ay ?_;refine bQ (yM (key:=.int .i64 i) (v:=I (n:Nat)) rfl kZ rfl rfl B') aK ⟨Ca,BK i,Ev es⟩ ?_;rw[R' gO];refine aa ?_;refine ab ?_;refine aa (bf ((k+1)+1,nx) ?_ ⟨oM,J,pD uj M⟩ oM);dsimp only;rw[eP];exact cn eH ⟨aj _ _ _,rfl,trivial⟩
    .have bm:¬ k<x.length:=by simpa using h
     have:k=x.length:=by omega
     subst this;rw[List.take_length, <- Pr hx];have hrw:qK (aV l).length c n=true:=by rw[Dy hx,akA,uj];rfl
     show aq _ _ _ _ _ _ _ _ _;refine ab ?_;refine aa (bf (n+1,nx) (cn ⟨rfl,rfl,rfl,?_,rfl,rfl,rfl,trivial⟩ eH) ⟨oM,J,pD X hrw⟩ oM);dsimp only;rw[Jc];rfl
  .have bm:¬ n<c.length:=by simpa using h
   have:n=c.length:=by omega
   subst this;rw[List.take_length];exact⟨⟨nx,J,au eH⟩,X⟩
 .rintro s ⟨⟨nx,J,dU⟩,X⟩;have U1:=Qp X c.length (aZ _);rw[List.take_length] at U1;obtain⟨_,akB⟩:=U1;have kZ:br [(1,Row.map (gv (entries c))),(2,.cells [.mp 1] 93)] 1=some (.map (gv (entries c))):=rfl;refine⟨_,dU,az (ag ?_)⟩;clear dU;refine SS ?_;refine sk (LK rfl rfl V.h) ak ?_;rw[acQ];refine SS ?_;refine cl jw ?_;refine SS ?_;refine aa (cA rfl (fun h=>az (ag ?_)) fun h=>cm (az (aw ?_)))
  .have h:(entries c).length≠(aV l).length:=fun e=>by rw[e,hN] at h;simp at h
   rw[aen h];refine ab ?_;exact aa (dG (gG rfl rfl rfl))
  have hlen:(entries c).length=(aV l).length:=by
   have:((entries c).length:Int)=l.length:=by simpa using h
   omega
  clear h;refine ay ?_
  have jH:∀ x∈c,∀ i∈x,0<=i/\i<(l.length:Int):=fun x hx i hi=>by
   obtain⟨n,hn⟩:=dN hx;have:=akB (i,n) (Zc.2 ⟨x,hn,hi⟩);rw[hN] at this;exact this
  have akC:rv (cE l) (aV l) c=c.all (uL (cE l) (aV l) (entries c)):=by unfold rv;rw[X,decide_eq_true hlen];simp
  have sK:∀ x∈c,uL (cE l) (aV l) (entries c) x=false->rv (cE l) (aV l) c=false:=fun x hx h=>acR hx h;generalize entries c=es at*
  refine aa (bZ (fun s=>(∃ m nx,aH prog s ⟨ax [],m,nx⟩)/\c.all (uL (cE l) (aV l) es)=true) (cH (α:=Nat×Nat)
   (fun s=>⟨ax [(6,.pt (cW l (bp l) ((aV l).map ao))),(8,.pt [.im (gv es)]),(96,bX c),(97,I c.length),(98,I s.1)],fun _=>none,s.2⟩)
   (fun s=>s.1<=c.length/\(c.take s.1).all (uL (cE l) (aV l) es)=true) (fun s=>c.length - s.1) (0,nx)
   ((aH.DC _ _ _ 1 (gv es) rfl).trans (eX (i:=2) (cs:=[.im (gv es)]) (e:=93) rfl eH)) ⟨Nat.zero_le _,rfl⟩ ?_) ?_)
  .rintro⟨n,nx⟩ ⟨hn,ug⟩;dsimp only at hn ug ⊢;refine SS ?_;refine aa ⟨_,rfl,fun h=>?_,fun h=>?_⟩
   .have fX:n<c.length:=by simpa using h
    clear h;obtain⟨x,hx⟩:∃ x,c[n]? =some x:=⟨_,aL fX⟩
    have iQ:=bu hx;have tT:=bS.1 X n (List.mem_range.2 fX);rw[Dy hx] at tT;refine ws ?_;refine ay ?_;cases x with
    |nil=>simp[D7] at tT
    |cons a C=>
     obtain⟨a0,aN⟩:=jH _ iQ a oS;obtain⟨p,rfl⟩:=lv a0;have aoX:C.length<=100000:=by have:=mU _ iQ;simp at this;omega
     have z1:p<l.length:=by omega
     have ha:((p:Int)::C)[0]? =some ((p:Nat):Int):=rfl;obtain⟨sa,Fu⟩:∃ sa,(bp l)[p]? =some sa:=⟨_,aL (by simpa[bp] using z1)⟩
     have gD:((aV l).map ao)[p]? =some (ao ((aV l).getD p [])):=by rw[List.getElem?_map,dQ (d:=[]) (by simpa using z1)];rfl
     refine aa (aw ?_);refine SS ?_;refine av (afp rfl rfl Ai c3 B3) aK trivial ?_;refine ab ?_
     refine aa (cH (α:=Nat×Nat)
      (fun s=>⟨ax [(6,.pt (cW l (bp l) ((aV l).map ao))),(8,.pt [.im (gv es)]),(17,aT ((p:Int)::C)),(96,bX c),(97,I c.length),(98,I n),(103,aT C),(104,I C.length),(105,I s.1)],fun _=>none,s.2⟩)
      (fun s=>s.1<=C.length/\(C.take s.1).all (BL (cE l) (aV l) es p)=true) (fun s=>C.length - s.1) (0,nx)
      (au eH) ⟨Nat.zero_le _,rfl⟩ ?_)
     rintro⟨k,nx⟩ ⟨hk,Jg⟩;dsimp only at hk Jg ⊢;refine SS ?_;refine aa ⟨_,rfl,fun h=>?_,fun h=>?_⟩
     .have gC:k<C.length:=by simpa using h
      clear h;obtain⟨i,hi⟩:∃ i,C[k]? =some i:=⟨_,aL gC⟩
      obtain⟨i0,iN⟩:=jH _ iQ i (List.mem_cons_of_mem _ (bu hi));obtain⟨m,rfl⟩:=lv i0;have iP:m<l.length:=by omega
      obtain⟨si,cu⟩:∃ si,(bp l)[m]? =some si:=⟨_,aL (by simpa[bp] using iP)⟩
      have Je:((aV l).map ao)[m]? =some (ao ((aV l).getD m [])):=by rw[List.getElem?_map,dQ (d:=[]) (by simpa using iP)];rfl
      have Mq:(ao ((aV l).getD m [])).length<=100000:=by
       obtain⟨f,hf⟩:∃ f,l[m]? =some f:=⟨_,aL iP⟩
       rw[A2 hf];have:=AG f.blocks;have:=(s6 (Go.Argus.checked (hL.nJ f (bu hf)))).lD;simp;omega
      have OI:=OI (a:=ao ((aV l).getD m [])) (b:=ao ((aV l).getD p [])) (g:=50) (fs:=[]) (cs:=[.pt [.im (gv es)]]) (p:=fun x y=>((fC es x:Nat):Int)==(fC es y:Nat)) (.fn oS (.cons (.pt (.cons (.im fun x hx=>by obtain⟨y,_,rfl⟩:=List.mem_map.1 hx;exact .s _) .nil)) .nil)) (fun x y=>k50) Mq
      have IY:BL (cE l) (aV l) es p m=((si.toList==sa.toList)&&xq (fun x y=>((fC es x:Nat):Int)==(fC es y:Nat)) (ao ((aV l).getD m [])) (ao ((aV l).getD p []))):=by
       unfold BL;rw[lu,lu,Sa cu Fu,aem]
      generalize ao ((aV l).getD m [])=ci at*
      generalize ao ((aV l).getD p [])=cp at*
      generalize xq (fun x y=>((fC es x:Nat):Int)==(fC es y:Nat)) ci cp=ef at*
      refine ws ?_;refine ay ?_;refine aa (dV aa7 ?_);refine bh ?_;refine bh ?_;refine du ?_;refine bc rfl rfl (LJ rfl rfl) (fun hc=>⟨ak,trivial⟩) ?_;refine gc OI ?_;refine ab ?_;refine cq cx (aQ rfl (fun h=>ag ?_) fun h=>cP ?_)
      .have hb:BL (cE l) (aV l) es p m=false:=by
        rw[IY];revert h;cases (si.toList==sa.toList)<;>cases ef<;>simp
       have hr:uL (cE l) (aV l) es ((p:Int)::C)=false:=by
        rw[Bool.eq_false_iff];intro ht;have:=bS.1 ht (m:Int) (bu hi);simp only[List.headD_cons] at this;rw[hb] at this;cases this
       rw[sK _ iQ hr];refine ab ?_;exact aa (bG (bY (bY (bA (gG rfl rfl rfl)))))
      .have hb:BL (cE l) (aV l) es p m=true:=by
        rw[IY];revert h;cases (si.toList==sa.toList)<;>cases ef<;>simp
       refine ab ?_;exact aa (bf (k+1,nx) (au eH) ⟨oM,ur hi Jg hb⟩ oM)
     .have bm:¬ k<C.length:=by simpa using h
      rw[dq oG] at Jg;have hr:uL (cE l) (aV l) es ((p:Int)::C)=true:=Jg;show aq _ _ _ _ _ _ _ _ _;refine ab ?_;exact aa (bf (n+1,nx) (au eH) ⟨oM,ur hx ug hr⟩ oM)
   .have bm:¬ n<c.length:=by simpa using h
    rw[dq oG] at ug;exact⟨⟨_,_,au trivial⟩,ug⟩
  .rintro s ⟨⟨m,nx,dU⟩,ug⟩;rw[akC,ug];refine⟨_,dU,ag ?_⟩;refine ab ?_;exact aa (gG rfl rfl rfl)
theorem Xl{l:List ai}{c:List (List Int)}(hl:l.length<=1000)(J:c.length<=100000)(C:∀ x∈c,x.length<=100000):aB prog 18 [ba l,bX c] (.aM [B (Au l c),I (dh l).2]):=by
 by_cases he:(dh l).2=0
 .have:=afq hl he J C;unfold Au
  rwa[if_pos he,he]
 .have:=aeo (c:=c) hl he;unfold Au
  rwa[if_neg he]
end Go.Proofs.Tryz.K
end
