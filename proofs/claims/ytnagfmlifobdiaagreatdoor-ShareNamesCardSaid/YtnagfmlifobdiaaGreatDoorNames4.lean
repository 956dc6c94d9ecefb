/- Part 4. -/
import Derived.Test.YtnagfmlifobdiaaGreatDoorNames3
import Derived.Lib.ItoaNum
import Derived.Lib.Join
set_option linter.all false
set_option maxHeartbeats 8000000
set_option maxRecDepth 10000
open List(range)
section
open Go Go.Abs Go.Proofs Go.Argus
namespace Go.Abs
section
variable{P:Program}{env:Env}{m:Mem}{nx:Nat}{x y:Operand}{t e:TypeId}{k:IntKind}
theorem Q4{w:List Int}{rest:List D}{sz:Nat}(h:w.length=sz):(w.map cM++rest).take sz=w.map cM:=by
 rw[List.take_append_of_le_length (by simp[h]),df (by simp[h])]
theorem SJ{sz n i:Nat}{l:List (List Int)}{w:List Int}(hx:(opd env x).core=.sl (cU l) n)(hy:(opd env y).core=.s (.int k i))(he:aD P t=e)(hs:P.cellsOf e=sz)(hl:∀ w∈l,w.length=sz)(hz:l[i]? =some w):
 Ef P (.indexAddr t x y) env m nx ⟨bi P t=true/\0<=(i:Int)/\(i:Int)<n/\((i:Int).toNat+1)*sz<=(cU l).length,.pt (w.map cM++cU (l.drop (i+1))),[],[],0⟩:=
 KV hx hy he hs (by rw[kK];exact J' hl hz)
theorem SK{sz n i:Nat}{l:List (List Int)}{w:List Int}(ht:bi P t=true)(hl:∀ w∈l,w.length=sz)(hz:l[i]? =some w)(hn:i<n):bi P t=true/\0<=(i:Int)/\(i:Int)<n/\((i:Int).toNat+1)*sz<=(cU l).length:=by
 have:=yc hl hz;refine⟨ht,oG,oG,?_⟩;rw[kK,Nat.add_mul,Nat.one_mul];exact this
theorem eT{i:Nat}{cs:List D}{l:List (Nat×D)}(hm:m i=some (.cells cs e))(hl:kX l fun t=>sub (cE i cs (P.cellsOf e)) (env t)):aI P ⟨env,m,nx⟩ ⟨ay l,fun _=>none,nx⟩:=
 dB [(i,cs,e)] ⟨hm,trivial⟩ hl
theorem fO{l:List (Nat×D)}(hl:kX l env):aI P ⟨env,m,nx⟩ ⟨ay l,fun _=>none,nx⟩:=Q5 hl fun _=>.inr rfl
end
section
variable{P:Program}{env:Env}{m:Mem}{nx:Nat}{x y:Operand}{t e:TypeId}{k:IntKind}
theorem abD{α:Type}{f:α->D}{l:List α}{b:Int}(hx:(opd env x).core=.sl (l.map f) l.length)(he:aD P t=e)(hs:P.cellsOf e=1)(hb:(opd env y).core=.s (.int .i64 b))(hc:bi P t=true)(C:0<=b/\b<=l.length):
 Ef P (.slice t x none (some y) none) env m nx ⟨True,.sl ((l.take b.toNat).map f) (l.take b.toNat).length,[],[],0⟩:=by
 have h:=JM (P:=P) (env:=env) (m:=m) (nx:=nx) (t:=t) (lo:=none) (hi:=some y) (a:=0) (b:=b) (es':=(l.take b.toNat).map f) hx he hs (by simp[dW]) (by simp[dW,hb,D.int?]) (by simp[List.map_take])
 have h2:(bi P t=true/\(0:Int)<=0/\(0:Int)<=b/\b<=(l.length:Int))=True:=by
  apply propext;constructor
  .exact fun _=>trivial
  .exact fun _=>⟨hc,oG,C.1,C.2⟩
 have J:(b - 0).toNat=(l.take b.toNat).length:=by rw[List.length_take];omega
 rw[h2,J] at h;exact h
theorem Fb{i j sz:Nat}{C:List D}{r:Row}(J:j≠i)(hm:m j=some r)(h:Row.sub (cE i C sz) r=r):(if j=i then none else(m j).map (Row.sub (cE i C sz)))=some r:=by
 rw[if_neg J,hm];exact congrArg some h
theorem oR{i:Nat}{cs:List D}{l:List (Nat×D)}{ml:List (Nat×Row)}(hm:m i=some (.cells cs e))(hl:kX l fun t=>sub (cE i cs (P.cellsOf e)) (env t))(C:CK ml fun j=>if j=i then none else(m j).map (Row.sub (cE i cs (P.cellsOf e)))):aI P ⟨env,m,nx⟩ ⟨ay l,a7 ml,nx⟩:=
 (aI.freeze env m nx i cs e hm).trans (bQ hl C)
end
end Go.Abs
namespace Go.Argus
open Go.Proofs.Tryz.K (nextR)
theorem qB{P:Nat->Bool}{n k:Nat}(hk:k<n)(h:P k=false):(range n).all P=false:=by
 refine Bool.eq_false_iff.2 fun ht=>?_;have:=bS.1 ht k (by simpa using hk);rw[h] at this;cases this
theorem oL{P:Nat->Bool}{k:Nat}(h:(range k).all P=true)(hk:P k=true):(range (k+1)).all P=true:=by
 rw[List.range_succ,List.all_append,h];simp[hk]
abbrev rP(l:List Bool):D:=.sl (l.map B) l.length
def lb:bx:=⟨[],⟨0,0,0,0,0,.empty,xH,[],[],0⟩⟩
def tK(bs:List bx)(s:CS)(b:Nat)(y:cW)(i:Nat):Bool:=
 let p:=((dj bs bs.length b).getD i 0).toNat
 !(s.re.getD p false)||p6 (iA (bs.getD p lb).fin b (mq (bs.getD p lb) (s.wsq.getD p [])).1) (y.args.getD i 0).toNat
def uj(bs:List bx)(s:CS)(b:Nat)(y:cW):Bool:=(range (dj bs bs.length b).length).all (tK bs s b y)
def kx(y:cW):Bool:=y.op==19
def rQ(bs:List bx)(s:CS)(b:Nat):Bool:=
 !(s.re.getD b false)||((mq (bs.getD b lb) (s.wsq.getD b [])).2&&((bs.getD b lb).ins.takeWhile kx).all (uj bs s b))
def tA(bs:List bx)(args:Nat):Bool:=(range bs.length).all (rQ bs (pa bs args))
theorem takeWhile_eq{α:Type}{p:α->Bool}{l:List α}{j:Nat}(h:∀ y∈l.take j,p y=true)(h':∀ y,l[j]? =some y->p y=false):l.takeWhile p=l.take j:=by
 induction l generalizing j with
 |nil=>simp
 |cons a l ih=>cases j with
  |zero=>have:=h' a rfl;simp[this]
  |succ j=>
   have ha:=h a oS;rw[List.takeWhile_cons,if_pos ha,List.take_succ_cons,ih (j:=j) (fun y hy=>h y (by simp[hy])) (fun y hy=>h' y (by simpa using hy))]
theorem Pp{b:Nat}{p:Int}:∀ {l:List Int} {L:Nat->List Int} {i:Nat},p∈(l.foldl (jB b) L) i↔p∈L i\/(p=b/\∃ t∈l,t.toNat=i)
 |[],L,i=>by simp
 |t::l,L,i=>by
  rw[List.foldl_cons,Pp (l:=l)];unfold jB;simp only[up];by_cases h:i=t.toNat
  .subst h;simp only[if_true,List.mem_append,List.mem_singleton];constructor
   .rintro((h|h)|⟨h,u,h1,h2⟩)
    .exact .inl h
    .exact .inr ⟨h,t,oS,rfl⟩
    .exact .inr ⟨h,u,by simp[h1],h2⟩
   .rintro(h|⟨h,u,h1,h2⟩)
    .exact .inl (.inl h)
    .exact .inl (.inr h)
  .rw[if_neg h];constructor
   .rintro(h'|⟨h',u,h1,h2⟩)
    .exact .inl h'
    .exact .inr ⟨h',u,by simp[h1],h2⟩
   .rintro(h'|⟨h',u,h1,h2⟩)
    .exact .inl h'
    .rcases List.mem_cons.1 h1 with e|e
     .subst e;exact absurd h2.symm h
     .exact .inr ⟨h',u,e,h2⟩
theorem IK{bs:List bx}{p:Int}{i:Nat}:∀ {k:Nat},p∈dj bs k i↔∃ b:Nat,p=b/\b<k/\∃ x,bs[b]? =some x/\∃ t∈nextR x.fin,t.toNat=i
 |0=>by simp[dj]
 |k+1=>by
  have ih:=IK (bs:=bs) (p:=p) (i:=i) (k:=k);have e:dj bs (k+1)=pI bs (dj bs k) k:=by rw[dj,List.range_succ,List.foldl_append];rfl
  rw[e,pI];cases hx:bs[k]? with
  |none=>
   simp only;rw[ih];constructor
   .rintro⟨b,h1,h2,C⟩;exact⟨b,h1,oG,C⟩
   .rintro⟨b,h1,h2,x,C,J⟩;refine⟨b,h1,?_,x,C,J⟩;rcases Nat.lt_or_ge b k with g|g
    .exact g
    .have:b=k:=by omega
     subst this;rw[hx] at C;cases C
  |some x=>
   simp only;rw[Pp,ih];constructor
   .rintro(⟨b,h1,h2,C⟩|⟨h1,h2⟩)
    .exact⟨b,h1,oG,C⟩
    .exact⟨k,h1,oG,x,hx,h2⟩
   .rintro⟨b,h1,h2,M,C,J⟩;rcases Nat.lt_or_ge b k with g|g
    .exact .inl ⟨b,h1,g,M,C,J⟩
    .have:b=k:=by omega
     subst this;rw[hx] at C;cases C;exact .inr ⟨h1,J⟩
theorem OM{bs:List bx}{n:Nat}(hb:∀ b∈bs,yj n b):∀ (k:Nat) {s:CS},l6 n s->l6 n (qL bs k s)
 |0,_,h=>h
 |k+1,s,h=>by
  rw[qL];split
  .exact OM hb k (Iv hb h).1
  .exact(Iv hb h).1
theorem abB{bs:List bx}{args:Nat}(hb:∀ b∈bs,yj bs.length b)(C:∀ u∈lS args,kF u):l6 bs.length (pa bs args):=OM hb _ (OL C)
theorem P3{b:Nat}:∀ {l:List Int} {L:Nat->List Int} {c:Nat},(∀ i,(L i).length<=c)->∀ i,((l.foldl (jB b) L) i).length<=c+l.length
 |[],_,_,h,i=>h i
 |t::l,L,c,h,i=>by
  have:=P3 (b:=b) (l:=l) (Po (t:=t) (b:=b) h) i;rw[List.foldl_cons,List.length_cons];omega
theorem Pq{bs:List bx}(C:∀ b∈bs,b.fin.aR.length<=9):∀ (k i:Nat),(dj bs k i).length<=12*k
 |0,_=>by simp[dj]
 |k+1,i=>by
  have ih:=Pq C k;have e:dj bs (k+1)=pI bs (dj bs k) k:=by rw[dj,List.range_succ,List.foldl_append];rfl
  rw[e,pI];cases hx:bs[k]? with
  |none=>have:=ih i;simp only;omega
  |some x=>
   have h1:=P3 (l:=nextR x.fin) (b:=k) ih i;have h2:=I9 x.fin;have J:=C x (bD hx);simp only;omega
theorem Pr{bs:List bx}{n k:Nat}(hn:bs.length=n)(hk:k<n):(kZ bs)[k]? =some (dj bs n k):=by
 subst hn;simp[kZ,hk]
def vg(f:al):Bool:=decide (f.result=1)||(decide (f.result=2)||(decide (f.result=0)&& !f.iter))
def tL(f:al):Bool:=
 n5 f.name&&(ju f.args 0 (if(f.aT.length:Int)<6 then(f.aT.length:Int) else 6)&&(vg f&&(!decide ((1200:Int)<f.aT.length)&&(!decide ((60:Int)<f.cm.length)&&ju f.blocks.length 1 1200))))
def xq(f:al):Bool:=
 tJ f.aT 3&&(tJ (f.aT.take f.args.toNat) 2&&(tJ f.cm 2&&(!decide ((6:Int)<f.signals.length)&& !f.signals.any fun s=> !isName s)))
def vo(l:List ByteArray)(i:Nat):Bool:=Op.bytesLess (l.getD i .empty).toList (l.getD (i+1) .empty).toList
def Kb(f:al):Bool:=(range (f.signals.length - 1)).all (vo f.signals)
def oY(bs:List bx)(k:Nat):List Int:=((bs.take k).filter fun x=>x.fin.kind==7).map fun x=>x.fin.a
def lH(f:al)(k:Nat):Bool:=
 let x:=f.blocks.getD k lb
 jh f x.fin&&(!decide ((200:Int)<x.ins.length)&& !(x.fin.kind==7&&(oY f.blocks k).any (·==x.fin.a)))
def qM(f:al)(b:Nat)(l:List cW)(j:Nat):Bool:=k6 f b (l.getD j xH) ((l.take (j+1)).all kx) (dj f.blocks f.blocks.length b).length
def tB(f:al)(b:Nat):Bool:=(range (f.blocks.getD b lb).ins.length).all (qM f b (f.blocks.getD b lb).ins)
def nb(f:al):Bool:=
 tL f&&(xq f&&(Kb f&&((range f.blocks.length).all (lH f)&&(range f.blocks.length).all (tB f))))
def fg(f:al):Int:=if nb f=true then(if tA f.blocks f.args.toNat=true then 0 else 81) else 80
def jl(l:List Int)(r:Int):Prop:=0<=r/\r<l.length
theorem ke{l:List Int}{r:Int}(h:dy l r≠0):jl l r:=Classical.byContradiction fun hn=>h (P4 hn)
theorem rR{l:List Int}{r:Int}(h:n6 l r=true):jl l r:=by
 refine ke fun e=>?_;simp[n6,e] at h
theorem tw{l rs:List Int}(h:qO l rs=true):∀ r∈rs,jl l r:=fun r hr=>rR (bS.1 h r hr)
theorem Fj{l:List Int}{r want of:Int}(h:o4 l r want of=true)(C:want≠0):jl l r:=by
 unfold o4 at h;rw[if_neg C] at h;split at h
 .refine ke fun e=>?_;simp[e] at h
 .split at h
  .refine ke fun e=>?_;simp[e] at h
  .split at h
   .exact rR h
   .refine ke fun e=>?_;simp[e] at h
structure UW(l:List Int)(x:cW)(s:Shape):Prop where
 to:s.to≠0->jl l x.to
 a:s.a≠0->jl l x.a
 b:s.b≠0->jl l x.b
 args:s.args=5\/s.args=6->x.args.length<=6/\∀ r∈x.args,jl l r
theorem Ja{l:List Int}{x:cW}{s:Shape}(h:vq l x s=true):UW l x s:=by
 unfold vq at h;simp only[bf] at h;obtain⟨h1,h2,J,C,_⟩:=h;refine⟨Fj h1,Fj h2,Fj J,fun hs=>?_⟩;unfold wZ at C;rcases hs with hs|hs
 .rw[if_pos hs,bf] at C;have:=kU.1 C.1;exact⟨oG,tw C.2⟩
 .rw[if_neg oG,if_pos hs,bf] at C;have:(x.args.length:Int)=1:=by simpa using C.1
  exact⟨oG,tw C.2⟩
theorem BX{l:List (Int×Shape)}{op:Int}{s:Shape}(h:jz l op=some s):(op,s)∈l:=by
 unfold jz at h;rw[cP] at h;obtain⟨⟨o,s'⟩,h1,rfl⟩:=h;have h2:=List.find?_some h1;have C:=List.mem_of_find?_eq_some h1;have:o=op:=by simpa using h2
 subst this;exact C
theorem Iw{l:List Int}{x:cW}{s:Shape}(hl:l.length<=1200)(hm:(x.op,s)∈n7\/(x.op,s)∈ni)(h:UW l x s):pV x:=by
 obtain⟨h1,h2,M,J⟩:=h;unfold jl at h1 h2 M J;have hr:∀ {r:Int},0<=r/\r<l.length->0<=r/\r<1200:=fun h=>by omega
 have U:∀ {r:Int},0<=r/\r<l.length-> -1000000<=r/\r<1200:=fun h=>by omega
 obtain⟨op,to,a,b,n,args⟩:=x;dsimp only at h1 h2 M J hm;simp only[n7,ni,List.mem_cons,bP,List.not_mem_nil,or_false] at hm;rcases hm with hm|hm
 .rcases hm with hm|hm|hm|hm|hm|hm|hm|hm|hm|hm|hm|hm|hm|hm|hm<;>obtain⟨rfl,rfl⟩:=hm<;>refine⟨fun r C=>?_,fun h=>?_,?_,fun h=>?_⟩<;>
   simp_all[dZ,ka,bO,tM,xr,tC,xf]<;>first|omega|(rcases C with rfl|rfl<;>omega)|(have:=J.2 r C;omega)
 .rcases hm with hm|hm|hm|hm|hm|hm|hm|hm|hm<;>obtain⟨rfl,rfl⟩:=hm<;>refine⟨fun r C=>?_,fun h=>?_,?_,fun h=>?_⟩<;>
   simp_all[dZ,ka,bO,tM,xr,tC,xf]<;>first|omega|(rcases C with rfl|rfl<;>omega)|(rcases C with rfl|rfl|C<;>first|omega|(have:=J.2 r C;omega))
theorem gQ{a b:Int}:dt a b=true↔a=b:=by simp[dt]
theorem Fz{l cm:List Int}{r n:Int}(hs:∀ k∈cm,k≠0)(h:yk l cm r n=true):jl l r/\0<=n/\n<cm.length:=by
 unfold yk at h;rw[bf,kU] at h;obtain⟨⟨h1,h2⟩,C⟩:=h
 have J:dy cm n≠0:=by
  obtain⟨k,rfl⟩:=kL h1;have hk:k<cm.length:=by omega
  rw[JC (aU hk)];exact hs _ (gf hk)
 refine⟨ke ?_,h1,oG⟩;rw[show dy l r=dy cm n by simpa using C];exact J
theorem ON{f:al}{b ahead:Int}{x:cW}{phis:Bool}(hl:f.aT.length<=1200)(hs:∀ k∈f.cm,k≠0)(mP:f.cm.length<=60)(h:k6 f b x phis ahead=true):
 pV x/\(x.op=19->(x.args.length:Int)=ahead/\phis=true/\0<b/\jl f.aT x.to/\∀ r∈x.args,dy f.aT r=dy f.aT x.to/\jl f.aT r):=by
 unfold k6 at h;split at h
 .rename_i J;simp only[bf,gQ] at h;have hr:=ke (l:=f.aT) (r:=x.a) oG;unfold jl at hr;refine⟨⟨fun r h'=>?_,fun h'=>by omega,?_,fun h'=>by omega⟩,fun h'=>by omega⟩
  .simp[dZ,bO,tM,J] at h';omega
  .simp[ka,bO,tC,xf,J]
 .rename_i J;split at h
  .rename_i U;simp only[bf,gQ] at h;obtain⟨h1,h2,h3⟩:=Fz hs h.2.2.2;unfold jl at h1;refine⟨⟨fun r h'=>?_,fun h'=>by omega,?_,fun h'=>by omega⟩,fun h'=>by omega⟩
   .simp[dZ,bO,tM,xr,U] at h'
   .simp[ka,bO,tC,U];omega
  .rename_i U;split at h
   .rename_i M;simp only[bf,gQ] at h;obtain⟨h1,h2,h3⟩:=Fz hs h.2.2.2;unfold jl at h1;refine⟨⟨fun r h'=>?_,fun h'=>by omega,?_,fun h'=>by omega⟩,fun h'=>by omega⟩
    .simp[dZ,bO,tM,M] at h';omega
    .simp[ka,bO,tC,xf,M]
   .rename_i M;split at h
    .rename_i C;simp only[bf,gQ,decide_eq_true_eq] at h;obtain⟨g1,g2,X,g4,g5,g6,g7,g8⟩:=h;have hr:=rR X;have hk:dy f.aT x.to≠0:=fun e=>by simp[n6,e] at X
     refine⟨⟨fun r h'=>?_,fun h'=>by omega,?_,fun h'=>by omega⟩,fun _=>⟨g7,g1,g2,hr,fun r jo=>?_⟩⟩
     .simp[dZ,bO,tM,xr,C] at h'
     .unfold jl at hr;simp[ka,bO,tC,C];omega
     .have:dt (dy f.aT r) (dy f.aT x.to)=true:=by
       simp only[Bool.not_eq_true',List.any_eq_false] at g8;simpa using g8 r jo
      rw[gQ] at this;exact⟨this,ke (by rw[this];exact hk)⟩
    .rename_i C;rw[bf] at h;cases hs:jz n7 x.op with
     |none=>rw[hs] at h;simp at h
     |some s=>
      rw[hs] at h;exact⟨Iw hl (.inl (BX hs)) (Ja h.2),fun h'=>absurd h' C⟩
structure G3(f:al)(x:End):Prop where
 fin:Dp x
 wh:x.aR.length<=7
 to:∀ t∈ek x,0<=t/\t<f.blocks.length
theorem EO{f:al}{x:End}(h:nX f x=true):x.aR.length<=7/\(∀ w∈x.aR,0<=w.to/\w.to<f.blocks.length)/\(0<=x.others->x.others<f.blocks.length):=by
 unfold nX at h;rw[bf,bf] at h;obtain⟨h1,h2,C⟩:=h;have h2:(x.aR.length:Int)<=7:=by simpa using h2
 refine⟨oG,fun w J=>?_,fun h0=>?_⟩
 .obtain⟨i,hi⟩:=eS J;have hm:(w,i)∈x.aR.zipIdx:=List.mem_zipIdx_iff_getElem?.2 hi;have:=bS.1 h1 _ hm;simp only[q7,bf,eh,kU] at this;omega
 .rw[Bool.or_eq_true] at C;rcases C with C|C
  .have:x.others= -1:=by simpa using C
   omega
  .rw[eh,kU] at C;omega
theorem acP{x:End}(h:vU x=true):x.kind=0/\x.a=0/\x.b=0/\x.to=0/\x.gN=0/\x.others= -1/\x.args.length=0/\x.aR.length=0:=by
 simp only[vU,bf,decide_eq_true_eq] at h;omega
theorem Q6{f:al}{x:End}(hl:f.aT.length<=1200)(hr:vg f=true)(h:jh f x=true):G3 f x:=by
 have kG:∀ {r:Int},jl f.aT r->0<=r/\r<1200:=fun h=>by unfold jl at h;omega
 unfold jh at h;rw[bf] at h;obtain⟨h,hb⟩:=h;have hb:=acP hb;have U:∀ {t:Int},eh f t=true->0<=t/\t<f.blocks.length:=fun h=>by rw[eh,kU] at h;omega
 obtain⟨kind,a,b,to,gN,name,ins,args,aR,others⟩:=x;simp only[eD] at h hb;by_cases h1:kind=1
 .subst h1;simp only[if_true] at h hb;have J:=U h;have C:aR=[]:=List.length_eq_zero_iff.1 hb.2.2.2.2.2.2.2;subst C;refine⟨⟨fun r h'=>?_,?_,oS,oS,oS⟩,oS,fun t ht=>?_⟩
  .simp[dT,bO] at h'
  .simp[jO,bO]
  .simp[ek,mS,bO] at ht;subst ht;exact J
 by_cases h2:kind=2
 .subst h2;simp only[Int.reduceEq,if_false,if_true,bf,gQ] at h hb;have C:aR=[]:=List.length_eq_zero_iff.1 hb.2.2.2.2.2.2.2;subst C;have BP:=kG (ke (l:=f.aT) (r:=a) oG);have J:=U h.2.1;have s7:=U h.2.2;refine⟨⟨fun r h'=>?_,?_,oS,oS,oS⟩,oS,fun t ht=>?_⟩
  .simp[dT,bO] at h';subst h';exact BP
  .simp[jO,bO]
  .simp[ek,mS,bO] at ht;rcases ht with rfl|rfl
   .exact J
   .exact s7
 by_cases h3:kind=3
 .subst h3;simp only[Int.reduceEq,if_false,if_true] at h hb;have C:aR=[]:=List.length_eq_zero_iff.1 hb.2.2.2.2.2.2.2;subst C;refine⟨⟨fun r h'=>?_,?_,oS,oS,oS⟩,oS,fun t ht=>?_⟩
  .simp[dT,bO] at h';obtain⟨h1,rfl⟩:=h';split at h
   .rename_i hc;rw[gQ] at h;exact kG (ke (by rw[h];exact hc.1))
   .rw[gQ] at h;exact absurd h h1
  .simp[jO,bO]
  .simp[ek,bO] at ht
 by_cases h4:kind=4
 .subst h4;simp only[Int.reduceEq,if_false,if_true] at h hb;have C:aR=[]:=List.length_eq_zero_iff.1 hb.2.2.2.2.2.2.2;subst C;refine⟨⟨fun r h'=>?_,?_,oS,oS,oS⟩,oS,fun t ht=>?_⟩
  .simp[dT,bO] at h'
  .simp[jO,bO]
  .simp[ek,bO] at ht
 by_cases h5:kind=5
 .subst h5;simp only[Int.reduceEq,if_false,if_true,bf] at h hb;obtain⟨g1,g2,X,M⟩:=h;obtain⟨wV,Ez,EA⟩:=EO M;have J:=U X
  have hi:pV ins:=by
   cases hs:jz ni ins.op with
   |none=>rw[hs] at g1;simp at g1
   |some s=>rw[hs] at g2;exact Iw hl (.inr (BX hs)) (Ja g2)
  refine⟨⟨fun r h'=>?_,?_,?_,fun _=>hi.ar,oS⟩,wV,fun t ht=>?_⟩
  .simp[dT,bO] at h';exact hi.rd r h'
  .simp only[jO,if_true];exact hi.wr
  .dsimp only at wV ⊢;omega
  .simp[ek,mS,bO] at ht;rcases ht with rfl|⟨w,C,rfl⟩|⟨h0,rfl⟩
   .exact J
   .exact Ez w C
   .exact⟨h0,EA h0⟩
 by_cases h6:kind=6
 .subst h6;simp only[Int.reduceEq,if_false,if_true,bf,Bool.or_eq_true,gQ,decide_eq_true_eq] at h hb;obtain⟨g1,g2,X,M,g5,g6⟩:=h;obtain⟨wV,Ez,EA⟩:=EO g6;have J:=U g5;have hv:=tw X;refine⟨⟨fun r h'=>?_,?_,?_,oS,fun _=>?_⟩,wV,fun t ht=>?_⟩
  .simp[dT,bO] at h';exact kG (hv r h')
  .simp only[jO,bO];rcases M with M|M
   .simp[M]
   .have:=kG (rR M);simp;omega
  .dsimp only at wV ⊢;omega
  .dsimp only;omega
  .simp[ek,mS,bO] at ht;rcases ht with rfl|⟨w,C,rfl⟩|⟨h0,rfl⟩
   .exact J
   .exact Ez w C
   .exact⟨h0,EA h0⟩
 by_cases h7:kind=7
 .subst h7;simp only[Int.reduceEq,if_false,if_true,bf,gQ,decide_eq_true_eq] at h hb;obtain⟨g1,g2,X,M,g5⟩:=h;have C:aR=[]:=List.length_eq_zero_iff.1 hb.2.2.2.2.2.2.2;subst C;have J:=U g5;have hv:=tw X;have BP:=kG (ke (l:=f.aT) (r:=a) oG);refine⟨⟨fun r h'=>?_,?_,oS,oS,fun _=>?_⟩,oS,fun t ht=>?_⟩
  .simp[dT,bO] at h';exact kG (hv r h')
  .simp only[jO,bO];simp;omega
  .dsimp only;omega
  .simp[ek,mS,bO] at ht;subst ht;exact J
 by_cases h8:kind=8
 .subst h8;simp only[Int.reduceEq,if_false,if_true,bf,gQ] at h hb;obtain⟨g1,g2,X,M,g5⟩:=h;obtain⟨wV,Ez,EA⟩:=EO g5;have J:=U X;have s7:=U M;have BP:=kG (ke (l:=f.aT) (r:=a) oG);have hrb:=kG (rR g2);refine⟨⟨fun r h'=>?_,?_,?_,oS,oS⟩,wV,fun t ht=>?_⟩
  .simp[dT,bO] at h';subst h';exact BP
  .simp[jO,bO];omega
  .dsimp only at wV ⊢;omega
  .simp[ek,mS,bO] at ht;rcases ht with rfl|rfl|⟨w,C,rfl⟩|⟨h0,rfl⟩
   .exact J
   .exact s7
   .exact Ez w C
   .exact⟨h0,EA h0⟩
 by_cases h9:kind=9
 .subst h9;simp only[Int.reduceEq,if_false,if_true,bf,gQ] at h hb;obtain⟨g1,g2,X⟩:=h;have C:aR=[]:=List.length_eq_zero_iff.1 hb.2.2.2.2.2.2.2;subst C;have J:=U X
  have BP:=kG (ke (l:=f.aT) (r:=a) (by
   rw[g2];intro e
   simp[vg,e,g1] at hr))
  refine⟨⟨fun r h'=>?_,?_,oS,oS,oS⟩,oS,fun t ht=>?_⟩
  .simp[dT,bO] at h';subst h';exact BP
  .simp[jO,bO]
  .simp[ek,mS,bO] at ht;subst ht;exact J
 .simp[h1,h2,h3,h4,h5,h6,h7,h8,h9] at h
theorem abE(a b:Int):kF (NX a b):=by
 unfold NX lA kF;simp only;rw[wrap_u64 (n:=(BitVec.ofInt IntKind.u64.bits a||| BitVec.ofInt IntKind.u64.bits b).toNat) (BitVec.isLt (w:=64) _)];have h:(BitVec.ofInt IntKind.u64.bits a||| BitVec.ofInt IntKind.u64.bits b).toNat<18446744073709551616:=BitVec.isLt (w:=64) _;exact⟨Int.natCast_nonneg _,Int.ofNat_lt.2 h⟩
theorem Yr{w:List Int}{n:Int}(h:∀ u∈w,kF u):∀ u∈qY w n,kF u:=fun u hu=>by
 unfold qY at hu;split at hu
 .unfold Dd at hu;rcases List.mem_or_eq_of_mem_set hu with h1|h1
  .exact h u h1
  .rw[h1];exact abE _ _
 .exact h u hu
theorem Ps:∀ k,∀ u∈lS k,kF u
 |0,u,hu=>by
  rw[List.eq_of_mem_replicate hu];simp[kF]
 |k+1,u,hu=>Yr (Ps k) u hu
theorem pV.rl{x:cW}(h:pV x):(dZ x).length<=100000:=by
 unfold dZ;split
 .simp
 .split
  .simp
  .split
   .rename_i J;have:=h.ar (.inl J);omega
   .split
    .rename_i C;have:=h.ar (.inr C);simp;omega
    .simp
theorem Dp.rf{x:End}(h:Dp x)(hi:x.kind=5->pV x.ins):(dT x).length<=100000:=by
 unfold dT;split
 .simp
 .split
  .split<;>simp
  .split
   .rename_i J;exact(hi J).rl
   .split
    .rename_i C;have:=h.a2 (by simpa[bO] using C);omega
    .simp
structure KH(f:al):Prop where
 pos:0<f.blocks.length
 j4:f.blocks.length<=1200
 aT:f.aT.length<=1200
 args:0<=f.args/\f.args<=6
 bF:∀ b∈f.blocks,yj f.blocks.length b
 ends:∀ b∈f.blocks,G3 f b.fin
 right:∀ (b:Nat) x,f.blocks[b]? =some x->∀ (j:Nat) y,x.ins[j]? =some y->k6 f b y ((x.ins.take (j+1)).all kx) (dj f.blocks f.blocks.length b).length=true
 cm:(∀ k∈f.cm,k≠0)/\f.cm.length<=60
 amW:∀ b∈f.blocks,b.fin.kind=5->pV b.fin.ins
theorem Q7{l:List Int}{m:Int}(h:tJ l m=true):∀ k∈l,k≠0:=fun k hk e=>by
 subst e;simp only[tJ,Bool.not_eq_true',List.any_eq_false] at h;have:=h 0 hk;simp[Ci] at this
theorem acR{f:al}{x:End}(hl:f.aT.length<=1200)(h:jh f x=true)(M:x.kind=5):pV x.ins:=by
 unfold jh at h;rw[bf] at h;have h:=h.1;unfold eD at h;simp only[M,Int.reduceEq,if_false,if_true,bf] at h;obtain⟨C,J,_⟩:=h;cases hs:jz ni x.ins.op with
 |none=>rw[hs] at C;simp at C
 |some s=>rw[hs] at J;exact Iw hl (.inr (BX hs)) (Ja J)
theorem KI{f:al}(h:nb f=true):KH f:=by
 unfold nb at h;simp only[bf] at h;obtain⟨X,hK,_,hE,hR⟩:=h;unfold tL at X;simp only[bf,kU,Bool.not_eq_true',decide_eq_false_iff_not] at X;obtain⟨_,ha,hr,Bu,mP,c8⟩:=X;unfold xq at hK;simp only[bf,Bool.not_eq_true',decide_eq_false_iff_not] at hK;obtain⟨_,_,qk,_,_⟩:=hK;have C:f.aT.length<=1200:=by omega
 have U:∀ x∈f.blocks,jh f x.fin=true/\x.ins.length<=200:=fun x hx=>by
  obtain⟨k,hk⟩:=eS hx;have af:k<f.blocks.length:=(bK.1 hk).1;have:=bS.1 hE k (by simpa using af);rw[lH,getD_some hk] at this;simp only[bf,Bool.not_eq_true',decide_eq_false_iff_not] at this;exact⟨this.1,oG⟩
 have J:∀ x∈f.blocks,G3 f x.fin:=fun x hx=>Q6 C hr (U x hx).1
 have Wh:∀ (b:Nat) x,f.blocks[b]? =some x->∀ (j:Nat) y,x.ins[j]? =some y->k6 f b y ((x.ins.take (j+1)).all kx) (dj f.blocks f.blocks.length b).length=true:=fun b x hx j y hy=>by
  have af:b<f.blocks.length:=(bK.1 hx).1;have:=bS.1 hR b (by simpa using af);rw[tB,getD_some hx] at this;have:=bS.1 this j (by simpa using(bK.1 hy).1);rw[qM,getD_some hy] at this;exact this
 have M:∀ b∈f.blocks,b.fin.kind=5->pV b.fin.ins:=fun b hb M=>acR C (U b hb).1 M
 have Hs:∀ b∈f.blocks,∀ x∈b.ins,pV x:=fun b hb x hx=>by
  obtain⟨k,hk⟩:=eS hb;obtain⟨j,hj⟩:=eS hx;exact(ON C (Q7 qk) oG (Wh k b hk j x hj)).1
 refine⟨oG,oG,C,⟨ha.1,by have:=ha.2;split at this<;>omega⟩,fun b hb=>⟨by have:=(U b hb).2;omega,Hs b hb,(J b hb).fin,fun x hx=>(Hs b hb x hx).rl,(J b hb).fin.rf (M b hb),fun t ht=>(J b hb).to t (OO.1 ht)⟩,J,Wh,⟨Q7 qk,oG⟩,M⟩
theorem KH.phi{f:al}(h:KH f){b:Nat}{x:bx}(hx:f.blocks[b]? =some x){y:cW}(hy:y∈x.ins)(C:y.op=19):y.args.length=(dj f.blocks f.blocks.length b).length/\∀ r∈y.args,0<=r/\r<1280:=by
 obtain⟨j,hj⟩:=eS hy;obtain⟨h1,_,_,_,h2⟩:=(ON h.aT h.cm.1 h.cm.2 (h.right b x hx j y hj)).2 C;refine⟨oG,fun r hr=>?_⟩;have:=(h2 r hr).2;unfold jl at this;have:=h.aT;omega
end Go.Argus
namespace Go.Proofs.Tryz.K
theorem Ih{p q:D}{f:al}{n args:Nat}(hp:Tr p)(hq:Tr q)(eB:p.one=true)(bN:q.one=true)(hn:f.blocks.length=n)(zg:0<n)(zh:n<=100000)(ha:f.args=args)(y7:args<=1000)(zo:∀ u∈lS args,kF u)(hb:∀ b∈f.blocks,yj n b)
 (aj7:∀ b x,f.blocks[b]? =some x->∀ y∈x.ins,y.op=19->y.args.length=(dj f.blocks n b).length/\∀ r∈y.args,0<=r/\r<1280):
 aA prog 98 [.agg (aW p q f)] (B (tA f.blocks args)):=by
 have bh:∀ a∈[D.agg (aW p q f)],Tr a:=.cons (kb hp hq f) .nil;have Be:=Be hp hq eB bN hn zg zh ha y7 zo hb;have Bf:=Bf hp hq eB bN hn zh (fun b h=>(hb b h).fin.wh) (fun b h=>(hb b h).to);have UT:l6 n (pa f.blocks args):=by subst hn;exact abB hb zo
 refine bj aj8 bh (.s _) ?_;rw[aj9];refine aw ?_;refine ab ?_;refine aa (bG (dB [(0,aW p q f,113)] eH (l:=[(1,.pt (aW p q f))]) eH) ?_);have nw:tA f.blocks args=(range n).all (rQ f.blocks (pa f.blocks args)):=by rw[tA,hn]
 rw[nw];clear nw;generalize pa f.blocks args=R at Be UT ⊢;obtain⟨lw,lr,mi,rg⟩:=UT;have Be:aA prog 132 [.agg (aW p q f)] (.aL [.sl (cU R.wsq) n,rP R.re]):=by unfold rP;rw[lr];exact Be
 show AW _ _ _ _ (CD _) _;refine ws ?_;refine SS ?_;refine cl Be ?_;refine bu ?_;refine aa (aw ?_);refine SS ?_;refine cl Bf ?_;refine SS ?_;refine aa (bG (fO (l:=[(1,.pt (aW p q f)),(3,.sl (cU R.wsq) n),(4,rP R.re),(5,cg (kZ f.blocks))]) eH) (Xq (aB (aw ?_))));refine bu ?_
 refine aa (bY (fun s=>(range n).all (rQ f.blocks R)=true) (cy (α:=Nat×Nat)
  (fun k=>⟨ay [(1,.pt (aW p q f)),(3,.sl (cU R.wsq) n),(4,rP R.re),(5,cg (kZ f.blocks)),(25,cF f.blocks),(26,I n),(27,I k.1)],fun _=>none,k.2⟩)
  (fun k=>k.1<=n/\(range k.1).all (rQ f.blocks R)=true) (fun k=>n - k.1) (0,1) (fO ⟨rfl,rfl,rfl,rfl,rfl,congrArg (fun k:Nat=>I k) hn,rfl,trivial⟩) ⟨Nat.zero_le _,rfl⟩ ?_) ?_)
 .rintro⟨k,N⟩ ⟨hk,X⟩;dsimp only at hk X ⊢;refine SS ?_;refine aa ⟨_,rfl,fun h=>?_,fun h=>?_⟩
  .have af:k<n:=by simpa using h
   have hx:f.blocks[k]? =some f.blocks[k]:=aU oG;have j3:f.blocks[k]∈f.blocks:=gf _;generalize f.blocks[k]=x at hx j3;have ja:=hb x j3;have hph:=aj7 k x hx;have hw:R.wsq[k]? =some R.wsq[k]:=aU oG;have mU:R.re[k]? =some R.re[k]:=aU oG;have zB:=mi _ (gf (h:=by omega):R.wsq[k]∈R.wsq)
   have M:rQ f.blocks R k=(!R.re[k]||((mq x R.wsq[k]).2&&(x.ins.takeWhile kx).all (uj f.blocks R k))):=by
    rw[rQ,getD_some hw,getD_some mU,getD_some hx]
   generalize R.wsq[k]=w at hw zB M;generalize R.re[k]=b at mU M;refine aw ?_;refine cr ?_;refine aa (bG (eT (i:=N) (l:=[(1,.pt (aW p q f)),(3,.sl (cU R.wsq) n),(4,rP R.re),(5,cg (kZ f.blocks)),(6,I k),(7,.pt (bH x)),(25,cF f.blocks),(26,I n),(27,I k)]) (ah _ _ _) ⟨rfl,rfl,rfl,rfl,rfl,lR,rfl,rfl,rfl,trivial⟩) (aB (aj ?_)));refine bu ?_;refine aa (cR rfl (fun h=>tm (Gj ?_)) fun h=>cI (aB (BR abC ?_)))
   .have NQ:b=false:=by simpa using h
    subst NQ;refine ab ?_;refine aa (bg (k+1,N+1) (fO eH) ⟨oM,oL X (by rw[M];rfl)⟩ oM)
   have NR:b=true:=by simpa using h
   subst NR;have nJ:=nJ zB ja.len ja.ins ja.fin ja.rl ja.rf;have uB:=Ir x w;rw[zB] at uB;generalize mq x w=th at nJ M uB;obtain⟨w1,ok⟩:=th;dsimp only at nJ M uB;refine ax ?_;refine au (SJ rfl rfl V.h V.h oN oN) ak (SK V.h oN oN oG) ?_;refine au (j6 rfl V.h V.h (Q4 oN)) ak (j9 V.h V.h oP) ?_;refine cl nJ ?_;refine cr ?_;refine ct cG (bG (fO (l:=[(1,.pt (aW p q f)),(3,.sl (cU R.wsq) n),(4,rP R.re),(5,cg (kZ f.blocks)),(6,I k),(7,.pt (bH x)),(9,B ok),(25,cF f.blocks),(26,I n),(27,I k)]) eH) (aB (aj ?_)));refine ab ?_;refine aa (cR rfl (fun h=>?_) fun h=>cI (aw ?_))
   .have bL:ok=false:=by simpa using h
    subst bL;refine aB (aj ?_);refine SS ?_;refine aa (ed (cu (bE (Fx (aF (d:=B false) rfl ?_)))));rw[qB af (by rw[M];rfl)]
   have bL:ok=true:=by simpa using h
   subst bL;have M:rQ f.blocks R k=(x.ins.takeWhile kx).all (uj f.blocks R k):=M;refine aZ ?_;have ma:=ja.len
   refine aa (cy (α:=Nat×Nat)
    (fun j=>⟨ay [(1,.pt (aW p q f)),(3,.sl (cU R.wsq) n),(4,rP R.re),(5,cg (kZ f.blocks)),(6,I k),(25,cF f.blocks),(26,I n),(27,I k),(49,lF x.ins),(50,I x.ins.length),(51,I j.1)],fun _=>none,j.2⟩)
    (fun j=>j.1<=x.ins.length/\(∀ y∈x.ins.take j.1,kx y=true)/\(x.ins.take j.1).all (uj f.blocks R k)=true) (fun j=>x.ins.length - j.1) (0,_) (fO eH) ⟨Nat.zero_le _,oS,oS⟩ ?_)
   rintro⟨j,N⟩ ⟨hj,Bg,DP⟩;dsimp only at hj Bg DP ⊢;refine SS ?_;refine aa ⟨_,rfl,fun h=>?_,fun h=>?_⟩
   .have dq:j<x.ins.length:=by simpa using h
    have hy:x.ins[j]? =some x.ins[j]:=aU dq;have VY:x.ins[j]∈x.ins:=gf dq;generalize x.ins[j]=y at hy VY;refine aw ?_;refine aZ ?_;refine aa (bG (eT (i:=N) (l:=[(1,.pt (aW p q f)),(3,.sl (cU R.wsq) n),(4,rP R.re),(5,cg (kZ f.blocks)),(6,I k),(11,.pt (cv y)),(25,cF f.blocks),(26,I n),(27,I k),(49,lF x.ins),(50,I x.ins.length),(51,I j)]) (ah _ _ _) ⟨rfl,rfl,rfl,rfl,rfl,lR,rfl,rfl,rfl,rfl,rfl,rfl,trivial⟩) (aB (aj ?_)));refine ax ?_;refine aa (cR rfl (fun h=>tm (aea oC oC (Gj ?_))) fun h=>cI (aw ?_))
    .have aE:y.op≠19:=by simpa using h
     refine ab ?_;refine aa (bg (k+1,_) (fO eH) ⟨oM,oL X ?_⟩ oM);rw[M,takeWhile_eq Bg (fun y' h'=>by rw[hy] at h';cases h';simpa[kx] using aE)];exact DP
    have qA:y.op=19:=by simpa using h
    obtain⟨s3,har⟩:=hph y VY qA;have hA:=Pr hn af
    have VZ:∀ p∈dj f.blocks n k,∃ C:Nat,p=C/\C<n:=fun p hp=>by
     obtain⟨b,h1,h2,_⟩:=IK.1 hp;exact⟨b,h1,h2⟩
    have NT:uj f.blocks R k y=(range (dj f.blocks n k).length).all (tK f.blocks R k y):=by rw[uj,hn]
    have J:∀ i,tK f.blocks R k y i=(!(R.re.getD ((dj f.blocks n k).getD i 0).toNat false)||p6 (iA (f.blocks.getD ((dj f.blocks n k).getD i 0).toNat lb).fin k (mq (f.blocks.getD ((dj f.blocks n k).getD i 0).toNat lb) (R.wsq.getD ((dj f.blocks n k).getD i 0).toNat [])).1) (y.args.getD i 0).toNat):=fun i=>by rw[tK,hn]
    have hAl:=Pq (fun b h=>(hb b h).fin.wh) n k;generalize dj f.blocks n k=A at s3 hA VZ NT J hAl
    have adN:∀ i,i<A.length->tK f.blocks R k y i=false->(range n).all (rQ f.blocks R)=false:=fun i hi he=>by
     refine qB af ?_;rw[M];refine Bool.eq_false_iff.2 fun ht=>?_
     have aj':y∈x.ins.takeWhile kx:=by
      have:x.ins.take (j+1)=x.ins.take j++[y]:=by rw[List.take_add_one,hy];rfl
      have h2:x.ins=x.ins.take (j+1)++x.ins.drop (j+1):=(List.take_append_drop _ _).symm;rw[h2,this,List.takeWhile_append_of_pos]
      .simp
      .intro z hz;rcases List.mem_append.1 hz with h|h
       .exact Bg z h
       .rw[List.mem_singleton.1 h];simp[kx,qA]
     have:=bS.1 ht y aj';rw[NT,qB hi he] at this;cases this
    refine cr ?_
    refine aa (cy (α:=Nat×Nat)
     (fun i=>⟨ay [(1,.pt (aW p q f)),(3,.sl (cU R.wsq) n),(4,rP R.re),(5,cg (kZ f.blocks)),(6,I k),(11,.pt (cv y)),(25,cF f.blocks),(26,I n),(27,I k),(49,lF x.ins),(50,I x.ins.length),(51,I j),(61,aP A),(62,I A.length),(63,I i.1)],fun _=>none,i.2⟩)
     (fun i=>i.1<=A.length/\(range i.1).all (tK f.blocks R k y)=true) (fun i=>A.length - i.1) (0,_) (fO eH) ⟨Nat.zero_le _,rfl⟩ ?_)
    rintro⟨i,N⟩ ⟨hi,Lj⟩;dsimp only at hi Lj ⊢;refine SS ?_;refine aa ⟨_,rfl,fun h=>?_,fun h=>?_⟩
    .have eR:i<A.length:=by simpa using h
     have V0:A[i]? =some A[i]:=aU eR;obtain⟨C,V',y9⟩:=VZ _ (gf eR);rw[V'] at V0;clear V';have Wa:f.blocks[C]? =some f.blocks[C]:=aU oG;have UU:f.blocks[C]∈f.blocks:=gf _;have Wb:R.wsq[C]? =some R.wsq[C]:=aU oG;have Wc:R.re[C]? =some R.re[C]:=aU oG;have Mk:=mi _ (gf (h:=by omega):R.wsq[C]∈R.wsq);have Wd:y.args[i]? =some y.args[i]:=aU oG;have wT:=har _ (gf (h:=by omega):y.args[i]∈y.args);have J:=J i;rw[getD_some V0,kK,getD_some Wa,getD_some Wb,getD_some Wc,getD_some Wd] at J;generalize f.blocks[C]=xp at Wa UU J;generalize R.wsq[C]=wp at Wb Mk J;generalize R.re[C]=rb at Wc J;generalize y.args[i]=r at Wd wT J;obtain⟨rn,rfl⟩:=kL wT.1;rw[kK] at J;have yH:=hb xp UU;have nJ:=Go.Proofs.Tryz.K.nJ Mk yH.len yH.ins yH.fin yH.rl yH.rf;have DQ:=Ir xp wp;rw[Mk] at DQ;generalize mq xp wp=tp at nJ J DQ;obtain⟨w2,ok2⟩:=tp;dsimp only at nJ J DQ;have wo:=wo (x:=xp.fin) (b:=(k:Int)) (w:=w2) DQ (by have:=yH.fin.wh;omega) (by have:=yH.fin.wr;omega);have mQ:=PV xp.fin k w2;rw[DQ] at mQ;generalize iA xp.fin k w2=w3 at wo mQ J;have lm:=lm (w:=w3) (m:=rn) mQ oG;refine ws ?_;refine bu ?_;refine aa (BR ZU ?_);refine dG ?_;refine au (SJ rfl rfl V.h V.h oN oN) ak (SK V.h oN oN oG) ?_;refine au (j6 rfl V.h V.h (Q4 oN)) ak (j9 V.h V.h oP) ?_;refine cl nJ ?_;refine cr ?_;refine ct cG (bG (eT (i:=N) (l:=[(1,.pt (aW p q f)),(3,.sl (cU R.wsq) n),(4,rP R.re),(5,cg (kZ f.blocks)),(6,I k),(11,.pt (cv y)),(12,I i),(13,I C),(14,.pt (w2.map cM)),(25,cF f.blocks),(26,I n),(27,I k),(49,lF x.ins),(50,I x.ins.length),(51,I j),(61,aP A),(62,I A.length),(63,I i)]) (ah _ _ _) ⟨rfl,rfl,rfl,rfl,rfl,rfl,rfl,rfl,lR,rfl,rfl,rfl,rfl,rfl,rfl,rfl,rfl,rfl,trivial⟩) (ep ZV ?_))
     have pS:∀ v:Bool,v=tK f.blocks R k y i->(v=false->(range n).all (rQ f.blocks R)=false)/\(v=true->(range (i+1)).all (tK f.blocks R k y)=true):=fun v hv=>by
      subst hv;exact⟨adN i eR,fun h=>oL Lj h⟩
     cases rb with
     |false=>
      obtain⟨_,U⟩:=pS true J.symm;have U:=U rfl;refine bt ?_;refine bd rfl rfl (sd rfl rfl V.h V.h (u6) oN) (fun hc=>⟨ak,(se V.h (u6) oN)⟩) ?_;refine ax ?_;refine bd rfl rfl (j6 rfl V.h V.h (SL (by first|rfl|exact bC rfl|(simp;done)|(simp;omega)|omega))) (fun hc=>⟨ak,(j9 V.h V.h (by first|rfl|exact bC rfl|(simp;done)|(simp;omega)|omega))⟩) ?_;refine gc wo ?_;refine bu ?_;refine gc lm ?_;refine ab ?_;refine ct cG (aO rfl (fun h=>oH) fun h=>cT ?_);refine ab ?_;refine aa (bg (i+1,_) (fO eH) ⟨oM,U⟩ oM)
     |true=>
      obtain⟨uM,U⟩:=pS (p6 w3 rn) J.symm;generalize p6 w3 rn=hv at lm uM U;refine bt ?_;refine bd rfl rfl (sd rfl rfl V.h V.h (u6) oN) (fun hc=>⟨ak,(se V.h (u6) oN)⟩) ?_;refine ax ?_;refine bd rfl rfl (j6 rfl V.h V.h (SL (by first|rfl|exact bC rfl|(simp;done)|(simp;omega)|omega))) (fun hc=>⟨ak,(j9 V.h V.h (by first|rfl|exact bC rfl|(simp;done)|(simp;omega)|omega))⟩) ?_;refine gc wo ?_;refine bu ?_;refine gc lm ?_;refine ab ?_;refine ct cG (aO rfl (fun h=>?_) fun h=>cT ?_)
      .have hf:hv=false:=by simpa using h
       refine ws ?_;refine SS ?_;refine aa (bJ (cu (cu (cu (bE (Fx (aF (d:=B false) rfl ?_)))))));rw[uM hf]
      .have ht:hv=true:=by simpa using h
       have U:=U ht;refine ab ?_;refine aa (bg (i+1,_) (fO eH) ⟨oM,U⟩ oM)
    .have bl:¬ i<A.length:=by simpa using h
     have hiA:i=A.length:=by omega
     subst hiA;show aq _ _ _ _ _ _ _ _ _;refine ab ?_;refine aa (bg (j+1,_) (fO eH) ⟨oM,fun z hz=>?_,?_⟩ oM)
     .dsimp only at hz;rw[List.take_add_one,hy] at hz;rcases List.mem_append.1 hz with h|h
      .exact Bg z h
      .rw[List.mem_singleton.1 h];simp[kx,qA]
     .dsimp only;rw[List.take_add_one,hy,List.all_append,DP];simpa[NT] using Lj
   .have bl:¬ j<x.ins.length:=by simpa using h
    have D7:j=x.ins.length:=by omega
    subst D7;show aq _ _ _ _ _ _ _ _ _;refine ab ?_;refine aa (bg (k+1,_) (fO eH) ⟨oM,oL X ?_⟩ oM);rw[List.take_length] at Bg DP;rw[M,takeWhile_eq (j:=x.ins.length) (by rw[List.take_length];exact Bg) (fun y h=>by simp at h),List.take_length];exact DP
  .have bl:¬ k<n:=by simpa using h
   have:k=n:=by omega
   subst this;exact X
 .rintro⟨env,m,nx⟩ X;refine⟨_,.refl _,aj ?_⟩;refine SS ?_;refine aa (Fx (aF (d:=B true) rfl ?_));rw[X]
end Go.Proofs.Tryz.K
namespace Go.Argus
theorem We:∀ b1 b2 b3 b4 b5 b6:Bool,(if(if(if(if(if(!b1)=true then true else !b2)=true then true else !b3)=true then true else b4)=true then true else b5)=true then true else !b6)= !(b1&&(b2&&(b3&&(!b4&&(!b5&&b6))))):=by decide
theorem Wf:∀ b1 b2 b3 b4 b5:Bool,(if(if(if(if(!b1)=true then true else !b2)=true then true else !b3)=true then true else b4)=true then true else b5)= !(b1&&(b2&&(b3&&(!b4&& !b5)))):=by decide
theorem hd3:∀ b1 b2 b3 b4:Bool,(if(if b1=true then true else b2)=true then true else if b3=true then !b4 else false)=(b1||(b2||(b3&& !b4))):=by decide
def mV(l:List Int):List (Value×D):=l.map fun a=>(.int .i64 a,B true)
theorem Kc(a:Int):∀ l:List Int,(cN (.int .i64 a) (mV l)).map (·.2)=if(l.any (·==a))=true then some (B true) else none
 |[]=>rfl
 |b::l=>by
  have ih:=Kc a l;unfold mV at ih ⊢;simp only[List.map_cons,cN,kM,pX,List.any_cons,beq_self_eq_true,Bool.true_and] at ih ⊢;by_cases h:b=a
  .subst h;simp
  .have hb:(b==a)=false:=by simpa using h
   simp only[hb,Bool.false_eq_true,if_false,Option.map_map,Bool.false_or];exact ih
theorem adO{P:Program}{t:TypeId}(hz:lN P (lh P t)=B false)(a:Int)(l:List Int):fv P t false (cN (.int .i64 a) (mV l))=B (l.any (·==a)):=by
 have h:=Kc a l;cases h1:cN (.int .i64 a) (mV l) with
 |none=>
  rw[h1] at h;cases h2:l.any (·==a) with
  |true=>rw[h2] at h;simp at h
  |false=>simp[fv,hz]
 |some x=>
  rw[h1] at h;cases h2:l.any (·==a) with
  |false=>rw[h2] at h;simp at h
  |true=>rw[h2] at h;simp at h;simp[fv,h]
theorem adP{a:Int}{l:List Int}(h:l.any (·==a)=false):fV (.int .i64 a) (B true) (mV l)=mV (l++[a]):=by
 have h1:=Kc a l;rw[h] at h1;unfold fV;cases h2:cN (.int .i64 a) (mV l) with
 |none=>simp[mV]
 |some x=>rw[h2] at h1;simp at h1
theorem R0{P:Program}{kt:TypeId}(hk:P.underlying kt=some (.int .i64))(l:List Int):(mV l).all (fun e=>cC P kt e.1)=true:=by
 refine bS.2 fun x hx=>?_;obtain⟨y,_,rfl⟩:=List.mem_map.1 hx;simp[cC,hk]
theorem SM{P:Program}{kt:TypeId}(hk:P.underlying kt=some (.int .i64))(a:Int):cC P kt (.int .i64 a)=true:=by simp[cC,hk]
theorem acQ{i sz:Nat}{C:List D}(l:List Int):Row.sub (cE i C sz) (.map (mV l))=.map (mV l):=by
 show Row.map ((mV l).map _)=_;unfold mV;rw[List.map_map];rfl
theorem W0{bs:List bx}{k:Nat}{x:bx}(hx:bs[k]? =some x):oY bs (k+1)=if(x.fin.kind==7)=true then oY bs k++[x.fin.a] else oY bs k:=by
 unfold oY;rw[List.take_add_one,hx];by_cases h:(x.fin.kind==7)=true
 .simp[h]
 .simp[h]
def gV(wsq:List ByteArray):ByteArray:=Go.Proofs.Tryz.K.AH wsq ⟨#[32]⟩++⟨#[10]⟩
def eJ(n:Int):ByteArray:=⟨(Lib.itoa n).toArray⟩
def i64(n:Int):Prop:= -9223372036854775808<=n/\n<=9223372036854775807
abbrev iH(n:Int):Int:=IntKind.i64.wrap n
theorem z8(n:Int):i64 (iH n):=by unfold i64 iH;rw[IntKind.wrap_i64];omega
def wc(x:cW):List Int:=iH x.op::x.to::x.a::x.b::x.n::x.args
def Hk(x:cW):Prop:=∀ n∈wc x,i64 n
def Ug(word:ByteArray)(x:cW):ByteArray:=gV (word::(wc x).map eJ)
def wg(a:ByteArray):List Int:=a.data.toList.map fun c=>(c.toNat:Int)
theorem adx(a:ByteArray):fh a=lK (wg a):=by simp[fh,lK,wg]
theorem acp(a:ByteArray):mkStr (wg a)=a:=by
 unfold mkStr wg;rw[List.map_map];have:(fun n:Int=>UInt8.ofNat n.toNat) ∘ (fun c:UInt8=>(c.toNat:Int))=id:=by funext c;simp
 rw[this,List.map_id]
theorem aaQ(a:ByteArray):(wg a).length=a.size:=by simp[wg]
theorem aaR(a:ByteArray):∀ x∈wg a,0<=x/\x<256:=by
 intro x hx;obtain⟨c,_,rfl⟩:=List.mem_map.1 hx;have:=c.toNat_lt;omega
def yd:ByteArray:=⟨#[102,108,111,119]⟩
def TV:ByteArray:=⟨#[112,114,111,99]⟩
def TW:ByteArray:=⟨#[105,116,101,114]⟩
def AI:ByteArray:=⟨#[114,101,103,115]⟩
def CN:ByteArray:=⟨#[115,108,111,116,115]⟩
def E9:ByteArray:=⟨#[115,105,103,110,97,108,115]⟩
def o1:ByteArray:=⟨#[98,108,111,99,107]⟩
def sK:ByteArray:=⟨#[105,110,115]⟩
def DD:ByteArray:=⟨#[101,110,100]⟩
def GW:ByteArray:=⟨#[110,97,109,101]⟩
def A0:ByteArray:=⟨#[116,114,121]⟩
def TX:ByteArray:=⟨#[119,104,101,110]⟩
def eK:List (List ByteArray)->ByteArray
 |[]=>ByteArray.empty
 |l::ls=>gV l++eK ls
theorem IL:∀ a b:List (List ByteArray),eK (a++b)=eK a++eK b
 |[],b=>by simp[eK]
 |l::a,b=>by simp only[List.cons_append,eK,IL a b,ByteArray.append_assoc]
theorem Rb(a:List (List ByteArray))(l:List ByteArray):eK (a++[l])=eK a++gV l:=by rw[IL];simp[eK]
theorem adV{a b:List (List ByteArray)}(h:a<+:b):(eK a).size<=(eK b).size:=by
 obtain⟨c,rfl⟩:=h;rw[IL,ByteArray.size_append];omega
def nH(word:ByteArray)(x:cW):List ByteArray:=word::(wc x).map eJ
def uv(x:End):List Int:=iH x.kind::x.a::x.b::x.to::x.gN::x.others::x.args
def rk(x:End):List ByteArray:=DD::(uv x).map eJ
def jT(x:End):List (List ByteArray):=if x.name.toList=[] then [] else [[GW,x.name]]
def lp(x:End):List (List ByteArray):=if x.kind=5 then [nH A0 x.ins] else []
def lQ(w:iR):List ByteArray:=[TX,w.name,eJ w.to]
def qZ(b:bx):List (List ByteArray):=b.ins.map (nH sK)
def lL(b:bx):List (List ByteArray):=[o1]::(qZ b++(rk b.fin::(jT b.fin++(lp b.fin++b.fin.aR.map lQ))))
def sx(f:al):ByteArray:=if f.iter then TW else TV
def Dr(f:al):List (List ByteArray):=[[yd,f.name,sx f,eJ f.args,eJ (iH f.result)],AI::(f.aT.map iH).map eJ,CN::(f.cm.map iH).map eJ,E9::f.signals]
def jS(f:al):List (List ByteArray):=Dr f++f.blocks.flatMap lL
def lP(f:al):ByteArray:=eK (jS f)
structure CM(f:al):Prop where
 args:i64 f.args
 aT:f.aT.length<=100000
 cm:f.cm.length<=100000
 sigs:f.signals.length<=100000
 L1:f.blocks.length<=100000
 ah2:∀ b∈f.blocks,b.ins.length<=100000
 ins:∀ b∈f.blocks,∀ x∈b.ins,Hk x/\x.args.length<=10000
 fin:∀ b∈f.blocks,(∀ n∈uv b.fin,i64 n)/\b.fin.args.length<=10000/\Hk b.fin.ins/\b.fin.ins.args.length<=10000/\b.fin.aR.length<=100000/\∀ w∈b.fin.aR,i64 w.to
 size:(lP f).size<=140737488355328
def kO(f:al)(k:Nat):List (List ByteArray):=Dr f++(f.blocks.take k).flatMap lL
theorem QG{f:al}{k:Nat}{b:bx}(h:f.blocks[k]? =some b):kO f (k+1)=kO f k++lL b:=by
 unfold kO;rw[List.take_add_one,h];simp[List.flatMap_append]
theorem IY{f:al}{k:Nat}{b:bx}(h:f.blocks[k]? =some b){p:List (List ByteArray)}(hp:p<+:lL b):kO f k++p<+:jS f:=by
 have h1:kO f k++p<+:kO f (k+1):=by rw[QG h];exact(List.prefix_append_right_inj _).2 hp
 refine h1.trans ?_;refine⟨(f.blocks.drop (k+1)).flatMap lL,?_⟩;unfold kO jS;rw[List.append_assoc, <- List.flatMap_append,List.take_append_drop]
theorem CM.le{f:al}(h:CM f){p:List (List ByteArray)}{l:List ByteArray}(hp:p++[l]<+:jS f):(eK p).size+(gV l).size<=140737488355328:=by
 have h1:=adV hp;rw[Rb,ByteArray.size_append] at h1;have:=h.size;unfold lP at this;omega
abbrev bc(l:List al):D:=.sl (l.flatMap aM) l.length
theorem gP(l:List al):Tr (bc l):=.sl (.flat kQ)
def gW:List D:=[S ⟨#[]⟩,B false,I 0,U8 0,.z,.z,.z,.z]
def named(l:List al)(name:ByteArray):Int:=mH (fun g=>g.name.toList==name.toList) l
def findF(l:List al)(name:ByteArray):Option al:=l.find? fun g=>g.name.toList==name.toList
def CO:Option al->D
 |some g=>.aL [.agg (aM g),B true]
 |none=>.aL [.agg gW,B false]
theorem Xt(l:List al)(name:ByteArray):(named l name= -1/\findF l name=none)\/∃ (i:Nat) (g:al),named l name=i/\l[i]? =some g/\findF l name=some g:=by
 unfold named mH findF;cases h:l.findIdx? (fun g=>g.name.toList==name.toList) with
 |none=>
  left;refine⟨rfl,?_⟩;rw[List.findIdx?_eq_none_iff] at h;rw[List.find?_eq_none];intro x hx;simpa using h x hx
 |some i=>
  right;obtain⟨hi,h1,h2⟩:=List.findIdx?_eq_some_iff_getElem.1 h;refine⟨i,l[i],rfl,aU hi,?_⟩;rw[List.find?_eq_some_iff_getElem];exact⟨h1,i,hi,rfl,fun j hj=>by simpa using h2 j hj⟩
abbrev dF:D:=.s (.map none)
def o2(l:List Int)(i:Int):Int:=l.getD i.toNat 0
def ye(c g:al)(args:List Int)(i:Nat):Bool:=o2 c.aT (args.getD i 0)==g.aT.getD i 0
def o9(c g:al)(args:List Int):Bool:=decide ((args.length:Int)=g.args)&&(range args.length).all (ye c g args)
def AJ(r:Int)(b:bx):Bool:=decide (b.fin.kind=7)&&decide (b.fin.a=r)
def wj(c:al)(l:List al)(r:Int):Option al:=match c.blocks.find? (AJ r) with
 |some b=>findF l b.fin.name
 |none=>none
theorem aaT(o:Option al):Tr (CO o):=by
 cases o with
 |none=>exact .aL (.cons (.agg (.cons (.s _) (.cons (.s _) (.cons (.s _) (.cons (.s _) (.cons .z (.cons .z (.cons .z (.cons .z .nil))))))))) (.cons (.s _) .nil))
 |some g=>exact .aL (.cons (.agg (kQ g)) (.cons (.s _) .nil))
def yf(c:al)(l:List al)(y:End):Bool:=match findF l y.name with
 |none=>false
 |some g=> !g.iter&&(o9 c g y.args&& !(decide (0<=y.a)&&(o2 c.aT y.a !=g.result)))
def yg(c:al)(l:List al)(y:End):Bool:=match findF l y.name with
 |none=>false
 |some g=>g.iter&&o9 c g y.args
def vN(c:al)(l:List al)(y:End):Bool:=match wj c l y.a with
 |none=>true
 |some g=> !(o2 c.aT y.b !=g.result)
def jg(c:al)(l:List al)(b:bx):Bool:=
 if b.fin.kind=6 then yf c l b.fin else if b.fin.kind=7 then yg c l b.fin else if b.fin.kind=8 then vN c l b.fin else true
def tT(c:al)(l:List al):Bool:=c.blocks.all (jg c l)
structure J3(c:al)(l:List al):Prop where
 len:l.length<=1000000
 L1:c.blocks.length<=1000000
 args:∀ b∈c.blocks,b.fin.kind=6\/b.fin.kind=7->(∀ r∈b.fin.args,0<=r/\r<c.aT.length)/\b.fin.args.length<=1000000
 a:∀ b∈c.blocks,b.fin.kind=6->b.fin.a<c.aT.length
 b:∀ b∈c.blocks,b.fin.kind=8->0<=b.fin.b/\b.fin.b<c.aT.length
 fl:∀ g∈l,g.args<=g.aT.length
theorem Ze{l:List al}{name:ByteArray}{g:al}(h:findF l name=some g):g∈l:=List.mem_of_find?_eq_some h
def A1(a b:ByteArray):Bool:= !(Op.bytesLess a.toList b.toList)
def oU(l:List al)(i:Nat):ByteArray:=match l[i]? with
 |some f=>f.name
 |none=>⟨#[]⟩
def kV(l:List al)(i:Nat):Int:=match l[i]? with
 |none=>0
 |some f=>if fg f=0 then(if decide (0<i)&&A1 (oU l (i - 1)) f.name then 1 else 0) else fg f
def vj(l:List al)(i:Nat):Bool:=match l[i]? with
 |none=>false
 |some f=> !tT f l
def di(l:List al):Int×Int:=
 if 60<l.length then(0,2) else match (range l.length).find? fun i=>kV l i !=0 with
 |some i=>(i,kV l i)
 |none=>match (range l.length).find? (vj l) with
  |some i=>(i,82)
  |none=>(0,0)
theorem O8{p:Nat->Bool}{n k:Nat}(hk:k<n)(hp:p k=true)(h:∀ j,j<k->p j=false):(range n).find? p=some k:=by
 rw[List.find?_eq_some_iff_getElem];refine⟨hp,k,by simpa using hk,oS,fun j hj=>?_⟩;simp[h j hj]
theorem O9{p:Nat->Bool}{n:Nat}(h:∀ j,j<n->p j=false):(range n).find? p=none:=by
 rw[List.find?_eq_none];intro x hx;simp[h x (List.mem_range.1 hx)]
end Go.Argus
namespace Go.Proofs.Tryz.K
theorem Ii:prog.underlying 3=some (.int .i64):=kr
theorem agc:lN prog (lh prog 194)=B false:=kr
theorem NW{f:al}:aA prog 97 [.agg (aM f)] (B (nb f)):=by
 have bh:∀ a∈[D.agg (aM f)],Tr a:=.cons (.agg (kQ f)) .nil;refine bj aka bh (.s _) ?_;rw[akb];refine aw ?_;refine ab ?_;refine aa (bG (eT (i:=0) (l:=[(1,.pt (aM f))]) rfl eH) (aw ?_));have Ml:=Ml (f:=f);refine SS ?_;refine cl Ml ?_;refine SS ?_;refine bM (fk (cs':=aW _ _ _) rfl rfl rfl rfl) ak (bU V.h V.h (by first|(simp;done)|exact⟨rfl,bC rfl⟩|(simp;omega)) (by rfl)) ?_;refine aa (bG (eT (i:=1) (l:=[(1,.pt (aM f)),(3,.pt (aW P0 Q0 f))]) rfl eH) (aw ?_));refine bt ?_;refine dG ?_;refine ab ?_;refine aa (bG (fO (l:=[(1,.pt (aM f)),(3,.pt (aW P0 Q0 f)),(4,B (vg f))]) ⟨rfl,rfl,congrArg B (hd3 (f.result==1) (f.result==2) (f.result==0) f.iter),trivial⟩) (aB (aj ?_)));have LJ:nb f=(tL f&&(xq f&&(Kb f&&((range f.blocks.length).all (lH f)&&(range f.blocks.length).all (tB f))))):=rfl;rw[LJ];have M:tL f=(n5 f.name&&(ju f.args 0 (if(f.aT.length:Int)<6 then(f.aT.length:Int) else 6)&&(vg f&&(!decide ((1200:Int)<f.aT.length)&&(!decide ((60:Int)<f.cm.length)&&ju f.blocks.length 1 1200))))):=rfl;generalize nw:vg f=res at M ⊢;refine ab ?_;refine cl rm ?_;refine iu ?_;refine bd rfl rfl (ad5 rfl rfl) (fun hc=>⟨ak,rfl⟩) ?_;refine gc mj ?_;refine bt ?_;refine bt ?_;refine aZ ?_;refine gc mj ?_;refine ab ?_;refine aa (cR rfl (fun h=>?_) fun h=>cI (aB (aj ?_)))
 .have h:=(We _ _ _ _ _ _).symm.trans h;rw[<- M] at h;have h:tL f=false:=by simpa using h
  refine aB (aj ?_);refine SS ?_;refine aa (ed (aF (d:=B false) rfl ?_));rw[h];rfl
 have h:=(We _ _ _ _ _ _).symm.trans h;rw[<- M] at h;have hh:tL f=true:=by simpa using h
 rw[hh,Bool.true_and];rw[M] at hh;simp only[bf,kU,Bool.not_eq_true',decide_eq_false_iff_not] at hh;obtain⟨_,ha,hr,Bu,U,c8⟩:=hh;subst hr;clear h M
 have y7:0<=f.args/\f.args<=f.aT.length/\f.args<=6:=by
  split at ha<;>omega
 have hK:xq f=(tJ f.aT 3&&(tJ (f.aT.take f.args.toNat) 2&&(tJ f.cm 2&&(!decide ((6:Int)<f.signals.length)&& !f.signals.any fun s=> !isName s)))):=rfl;have Hg:=Hg (l:=f.signals) (g:=127) (fs:=[]) (cs:=[]) (p:=fun s=> !isName s) (.fn oS oS) (fun x _=>aj5);have ha2:0<=f.args/\f.args<=f.aT.length:=⟨y7.1,y7.2.1⟩
 refine ab ?_;refine cl Mj ?_;refine cr ?_;refine bd rfl rfl (abD rfl HR c5 rfl A2 ha2) (fun hc=>⟨(by repeat' (first|exact trivial|exact hc|exact rfl|refine And.intro ?_ ?_)),trivial⟩) ?_;refine gc Mj ?_;refine bu ?_;refine gc Mj ?_;refine bt ?_;refine ab ?_;refine gc Hg ?_;refine SS ?_;refine aa (cR rfl (fun h=>?_) fun h=>cI (aB (aw ?_)))
 .have h:=(Wf _ _ _ _ _).symm.trans h;rw[<- hK] at h;have h:xq f=false:=by simpa using h
  refine aB (aj ?_);refine SS ?_;refine aa (ed (aF (d:=B false) rfl ?_));rw[h];rfl
 have h:=(Wf _ _ _ _ _).symm.trans h;rw[<- hK] at h;have hh:xq f=true:=by simpa using h
 rw[hh,Bool.true_and];rw[hK] at hh;simp only[bf,Bool.not_eq_true',decide_eq_false_iff_not] at hh;obtain⟨_,_,qk,hsg,_⟩:=hh;clear h hK Hg;have hS:Kb f=(range (f.signals.length - 1)).all (vo f.signals):=rfl;rw[hS];have fx:f.signals.length<=6:=by omega
 refine SS ?_;refine aa (bY (fun s=>aI prog s ⟨ay [(1,.pt (aM f)),(3,.pt (aW P0 Q0 f))],fun _=>none,2⟩/\(range (f.signals.length - 1)).all (vo f.signals)=true) (kq (α:=Nat) (fun k=>⟨ay [(1,.pt (aM f)),(3,.pt (aW P0 Q0 f)),(5,I (k+1:Nat))],fun _=>none,2⟩) (fun k=>k<=f.signals.length - 1/\(range k).all (vo f.signals)=true) (fun k=>f.signals.length - k) 0 (fO eH) ⟨Nat.zero_le _,rfl⟩ ?_) ?_)
 .rintro k ⟨hk,C⟩;refine bu ?_;refine aa ⟨_,rfl,fun h=>?_,fun h=>?_⟩
  .have af:k+1<f.signals.length:=by have:((k+1:Nat):Int)<f.signals.length:=by simpa using h
                                    omega
   have h1:f.signals[k]? =some f.signals[k]:=aU oG;have h2:f.signals[k+1]? =some f.signals[k+1]:=aU oG;have U:vo f.signals k=Op.bytesLess f.signals[k].toList f.signals[k+1].toList:=by rw[vo,getD_some h1,getD_some h2]
   generalize f.signals[k]=s1 at h1 U;generalize f.signals[k+1]=s2 at h2 U;have wa:((k+1:Nat):Int) - 1=(k:Int)/\ -9223372036854775808<=(k:Int)/\(k:Int)<=9223372036854775807:=by omega
   refine ep ZW ?_;refine bt ?_;refine ab ?_;refine au (Si rfl rfl) ak trivial ?_;refine ct cG (aO rfl (fun h=>?_) fun h=>cT ?_)
   .have hf:vo f.signals k=false:=by rw[U];simpa using h
    refine ws ?_;refine SS ?_;refine aa (bJ (cu (bE (aF (d:=B false) rfl ?_))));rw[qB oG hf];rfl
   .have ht:vo f.signals k=true:=by rw[U];simpa using h
    refine ax ?_;exact aa (bg (k+1) (fO eH) ⟨oG,oL C ht⟩ oG)
  .have bl:¬ k+1<f.signals.length:=by intro hh;simp at h;omega
   have:k=f.signals.length - 1:=by omega
   subst this;exact⟨fO eH,C⟩
 rintro s ⟨hg,C⟩;rw[C,Bool.true_and];clear C hS;refine⟨_,hg,aw ?_⟩;refine ab ?_;refine aa (bG (bQ (l:=[(1,.pt (aM f)),(3,.pt (aW P0 Q0 f)),(6,.mp 2)]) (ml:=[(2,.map (mV []))]) eH eH) (aB (aw ?_)));refine aZ ?_;generalize hn:f.blocks.length=n at c8 ⊢;refine aa (bY (fun s=>∃ N,aI prog s ⟨ay [(1,.pt (aM f)),(3,.pt (aW P0 Q0 f))],fun _=>none,N⟩/\(range n).all (lH f)=true) (cy (α:=Nat×Nat) (fun k=>⟨ay [(1,.pt (aM f)),(3,.pt (aW P0 Q0 f)),(6,.mp 2),(123,cF f.blocks),(124,I n),(125,I k.1)],a7 [(2,.map (mV (oY f.blocks k.1)))],k.2⟩) (fun k=>k.1<=n/\(range k.1).all (lH f)=true/\3<=k.2) (fun k=>n - k.1) (0,3) (bQ eH eH) ⟨Nat.zero_le _,rfl,a8 _⟩ ?_) ?_)
 .rintro⟨k,N⟩ ⟨hk,C,hN⟩;dsimp only at hk C hN ⊢;refine SS ?_;refine aa ⟨_,rfl,fun h=>?_,fun h=>?_⟩
  .have af:k<n:=by simpa using h
   have hx:f.blocks[k]? =some f.blocks[k]:=aU oG;generalize f.blocks[k]=x at hx;have J:lH f k=(jh f x.fin&&(!decide ((200:Int)<x.ins.length)&& !(x.fin.kind==7&&(oY f.blocks k).any (·==x.fin.a)))):=by rw[lH,getD_some hx]
   have X:=W0 hx;have Ht:=Ht (f:=f) (x:=x.fin);generalize oY f.blocks k=l at J X;refine aw ?_;refine aZ ?_;refine aa (bG (oR (i:=N) (l:=[(1,.pt (aM f)),(3,.pt (aW P0 Q0 f)),(6,.mp 2),(8,.pt (bH x)),(123,cF f.blocks),(124,I n),(125,I k)]) (ml:=[(2,.map (mV l))]) (ah _ _ _) ⟨rfl,rfl,rfl,lR,rfl,rfl,rfl,trivial⟩ ⟨Fb oG (ag oG (ag oG rfl)) (acQ l),trivial⟩) (aB (aj ?_)));generalize jh f x.fin=e at Ht J;refine ax ?_;refine cl Ht ?_;refine iu ?_;refine aa (cR rfl (fun h=>?_) fun h=>cI (aj ?_))
   .have hf:lH f k=false:=by
     rw[J];cases e with
     |false=>rfl
     |true=>have:decide ((200:Int)<x.ins.length)=true:=by simpa using h
            rw[this];rfl
    refine aB (aj ?_);refine SS ?_;refine aa (ed (cu (bE (aF (d:=B false) rfl ?_))));rw[qB af hf];rfl
   have J:lH f k= !(x.fin.kind==7&&l.any (·==x.fin.a)):=by
    rw[J];cases e with
    |false=>simp at h
    |true=>have:decide ((200:Int)<x.ins.length)=false:=by simpa using h
           rw[this];rfl
   refine aZ ?_;refine aa (aO rfl (fun h7=>?_) fun h7=>cT ?_)
   .rw[h7] at J X;refine aB (aj ?_);refine aZ ?_;refine au (E7 rfl rfl rfl Lk (adO agc _ _)) aK ⟨Ll,SM Ii _,R0 Ii _⟩ ?_;refine aa (cR rfl (fun h=>?_) fun h=>cI (fC ?_))
    .have hf:lH f k=false:=by rw[J,h];rfl
     refine aB (aj ?_);refine SS ?_;refine aa (ed (cu (bE (aF (d:=B false) rfl ?_))));rw[qB af hf];rfl
    .have ht:lH f k=true:=by rw[J,h];rfl
     refine aZ ?_;refine bM (xC rfl rfl rfl rfl Lk) aK ⟨Ll,SM Ii _,R0 Ii _⟩ ?_;refine aa ?_;refine ab ?_;refine aa (bg (k+1,_) (bQ eH ⟨?_,trivial⟩) ⟨oM,oL C ht,oM⟩ oM);dsimp only;rw[X,if_pos rfl, <- adP h];exact ah _ _ _
   .rw[h7] at J X;refine ab ?_;refine aa (bg (k+1,_) (bQ eH ⟨?_,trivial⟩) ⟨oM,oL C J,oM⟩ oM);dsimp only;rw[X,if_neg oS];rfl
  .have bl:¬ k<n:=by simpa using h
   have:k=n:=by omega
   subst this;exact⟨N,fO eH,C⟩
 rintro s ⟨N,hg,C⟩;rw[C,Bool.true_and]
 have hE:∀ x∈f.blocks,G3 f x.fin:=fun x hx=>by
  obtain⟨k,hk⟩:=eS hx;have af:k<n:=by rw[<- hn];exact(bK.1 hk).1
  have:=bS.1 C k (by simpa using af);rw[lH,getD_some hk] at this;simp only[bf] at this;exact Q6 oG nw this.1
 have Bf:=Bf (f:=f) lU lV rfl rfl hn oG (fun b h=>by have:=(hE b h).wh;omega) (fun b h t ht=>hn▸(hE b h).to t (OO.1 ht));refine⟨_,hg,aj ?_⟩;refine SS ?_;refine cl Bf ?_;refine SS ?_;refine aa (aB (aw ?_));refine aZ ?_;refine aa (bY (fun s=>(range n).all (tB f)=true) (cy (α:=Nat×Nat) (fun k=>⟨ay [(1,.pt (aM f)),(3,.pt (aW P0 Q0 f)),(9,cg (kZ f.blocks)),(157,cF f.blocks),(158,I n),(159,I k.1)],fun _=>none,k.2⟩) (fun k=>k.1<=n/\(range k.1).all (tB f)=true) (fun k=>n - k.1) (0,N) (fO ⟨rfl,rfl,rfl,rfl,congrArg (fun k:Nat=>I k) hn,rfl,trivial⟩) ⟨Nat.zero_le _,rfl⟩ ?_) ?_)
 .rintro⟨k,N⟩ ⟨hk,C⟩;dsimp only at hk C ⊢;refine SS ?_;refine aa ⟨_,rfl,fun h=>?_,fun h=>?_⟩
  .have af:k<n:=by simpa using h
   have hx:f.blocks[k]? =some f.blocks[k]:=aU oG;have j3:f.blocks[k]∈f.blocks:=gf _;generalize f.blocks[k]=x at hx j3;have hA:=Pr hn af;have oJ:tB f k=(range x.ins.length).all (qM f k x.ins):=by rw[tB,getD_some hx]
   have uQ:∀ j,qM f k x.ins j=k6 f k (x.ins.getD j xH) ((x.ins.take (j+1)).all kx) (dj f.blocks n k).length:=fun j=>by rw[qM,hn]
   generalize dj f.blocks n k=A at hA uQ;refine aw ?_;refine cr ?_;refine aa (bG (eT (i:=N) (l:=[(1,.pt (aM f)),(3,.pt (aW P0 Q0 f)),(9,cg (kZ f.blocks)),(10,I k),(11,.pt (bH x)),(157,cF f.blocks),(158,I n),(159,I k)]) (ah _ _ _) ⟨rfl,rfl,rfl,rfl,lR,rfl,rfl,rfl,trivial⟩) (aj ?_));refine SS ?_;refine aa (aw ?_);refine aZ ?_
   have eO:x.ins.length<=200:=by
    have:=bS.1 ‹(range n).all (lH f)=true› k (by simpa using af);rw[lH,getD_some hx] at this;simp only[bf,Bool.not_eq_true',decide_eq_false_iff_not] at this;omega
   refine aa (cy (α:=Nat×Nat) (fun j=>⟨ay [(1,.pt (aM f)),(3,.pt (aW P0 Q0 f)),(9,cg (kZ f.blocks)),(10,I k),(12,B ((x.ins.take j.1).all kx)),(157,cF f.blocks),(158,I n),(159,I k),(165,lF x.ins),(166,I x.ins.length),(167,I j.1)],fun _=>none,j.2⟩) (fun j=>j.1<=x.ins.length/\(range j.1).all (qM f k x.ins)=true) (fun j=>x.ins.length - j.1) (0,N+1) (fO eH) ⟨Nat.zero_le _,rfl⟩ ?_);rintro⟨j,N⟩ ⟨hj,Lm⟩;dsimp only at hj Lm ⊢;refine SS ?_;refine aa ⟨_,rfl,fun h=>?_,fun h=>?_⟩
   .have dq:j<x.ins.length:=by simpa using h
    have hy:x.ins[j]? =some x.ins[j]:=aU dq;generalize x.ins[j]=y at hy;have dA:(x.ins.take (j+1)).all kx=((x.ins.take j).all kx&&kx y):=by rw[List.take_add_one,hy,List.all_append];simp
    have uQ:=uQ j;rw[getD_some hy] at uQ;generalize (x.ins.take j).all kx=ph at dA;refine aw ?_;refine aZ ?_;refine aa (bG (eT (i:=N) (l:=[(1,.pt (aM f)),(3,.pt (aW P0 Q0 f)),(9,cg (kZ f.blocks)),(10,I k),(12,B ph),(14,.pt (cv y)),(157,cF f.blocks),(158,I n),(159,I k),(165,lF x.ins),(166,I x.ins.length),(167,I j)]) (ah _ _ _) ⟨rfl,rfl,rfl,rfl,rfl,lR,rfl,rfl,rfl,rfl,rfl,rfl,trivial⟩) (aw ?_));refine iu ?_;refine aa (bG (fO (l:=[(1,.pt (aM f)),(3,.pt (aW P0 Q0 f)),(9,cg (kZ f.blocks)),(10,I k),(12,B ((x.ins.take (j+1)).all kx)),(14,.pt (cv y)),(157,cF f.blocks),(158,I n),(159,I k),(165,lF x.ins),(166,I x.ins.length),(167,I j)]) ⟨rfl,rfl,rfl,rfl,?_,rfl,rfl,rfl,rfl,rfl,rfl,rfl,trivial⟩) (ep ZX ?_))
    .rw[dA];cases ph<;>rfl
    have Hu:=Hu (f:=f) (b:=(k:Int)) (ahead:=(A.length:Int)) (x:=y) (phis:=(x.ins.take (j+1)).all kx);rw[<- uQ] at Hu;refine bt ?_;refine cl Hu ?_;refine SS ?_;refine ct cG (aO rfl (fun h=>?_) fun h=>cT ?_)
    .have hf:qM f k x.ins j=false:=by simpa using h
     refine ws ?_;refine SS ?_;refine aa (bJ (cu (cu (bE (aF (d:=B false) rfl ?_)))));rw[qB af (by rw[oJ];exact qB dq hf)]
    .have ht:qM f k x.ins j=true:=by simpa using h
     refine ab ?_;exact aa (bg (j+1,_) (fO eH) ⟨oM,oL Lm ht⟩ oM)
   .have bl:¬ j<x.ins.length:=by simpa using h
    have D7:j=x.ins.length:=by omega
    subst D7;show aq _ _ _ _ _ _ _ _ _;refine ab ?_;exact aa (bg (k+1,_) (fO eH) ⟨oM,oL oN (oJ.trans Lm)⟩ oM)
  .have bl:¬ k<n:=by simpa using h
   have:k=n:=by omega
   subst this;show(range k).all (tB f)=true
   assumption
 .rintro⟨env,m,nx⟩ C;refine⟨_,.refl _,aj ?_⟩;refine SS ?_;refine aa (aF (d:=B true) rfl ?_);rw[C]
theorem qq{f:al}:aA prog 63 [.agg (aM f)] (I (fg f)):=by
 have M:∀ a∈[D.agg (aM f)],Tr a:=.cons (.agg (kQ f)) .nil;refine bj akc M (.s _) ?_;rw[akd];have NW:=NW (f:=f);refine aw ?_;refine ab ?_;refine aa (bG (eT (i:=0) (l:=[(1,.pt (aM f))]) rfl eH) (w7 (aj ?_)));refine SS ?_;refine cl NW ?_;refine ab ?_;refine aa (aO rfl (fun h=>aj ?_) fun h=>aj ?_)
 .have hf:nb f=false:=by simpa using h
  refine SS ?_;refine aa (bJ (eu (bE (aF (d:=I 80) rfl ?_))));rw[fg,if_neg (by simp[hf])]
 .have hf:nb f=true:=by simpa using h
  have C:=KI hf;obtain⟨args,ha⟩:=kL C.args.1;have X:=C.args.2;have Ih:=Ih (p:=.s (.map none)) (q:=.s (.map none)) (f:=f) (.s _) (.s _) rfl rfl rfl C.pos (by have:=C.j4;omega) ha oG (Ps args) C.bF (fun b x hx y hy U=>C.phi hx hy U);have J:fg f=if tA f.blocks args=true then 0 else 81:=by rw[fg,if_pos hf,ha,kK]
  generalize tA f.blocks args=r at Ih J;refine ab ?_;refine cl Ih ?_;refine ab ?_;refine aa (aO rfl (fun h=>aj ?_) fun h=>vA (aj ?_))
  .have hr:r=false:=by simpa using h
   refine SS ?_;refine aa (bJ (eu (bE (aF (d:=I 81) rfl ?_))));rw[J,hr];rfl
  .have hr:r=true:=by simpa using h
   refine SS ?_;refine aa (bJ (aF (d:=I 0) rfl ?_));rw[J,hr];rfl
theorem To{P:Program}{t e:TypeId}(h1:bi P t=true)(h2:aD P t=e)(C:P.underlying e=some (.int .u8))(J:P.cellsOf e=1):qj P t:=⟨h1,by rw[h2];exact C,by rw[h2];exact J⟩
theorem Xs(a b:ByteArray):fh (a++b)=fh a++fh b:=by simp[fh]
def sZ(m:Mem)(x:D)(a:ByteArray):Option Nat->Prop
 |none=>x=.z/\a=ByteArray.empty
 |some i=>x=.rs i 0 a.size/\m i=some (.cells (fh a) 5)
def clr(m:Mem):Option Nat->Mem
 |none=>m
 |some i=>up m i none
def zk(m:Mem)(nx j:Nat)(T:TypeId)(a:ByteArray)(o:Option Nat):Mem:=up (up (clr m o) nx (some (.cells (fh a) 5))) j (some (.bs true (.rs nx 0 a.size) T))
theorem aeB{m:Mem}{nx j:Nat}{r r':Row}{c:Row}:up (up (up m j (some r)) nx (some c)) j (some r')=up (up m nx (some c)) j (some r'):=by
 funext k;simp only[Cc];by_cases hj:k=j<;>simp[hj]
theorem aeC{m:Mem}{nx i j:Nat}{r r':Row}{c:Row}:up (up (up (up m j (some r)) i none) nx (some c)) j (some r')=up (up (up m i none) nx (some c)) j (some r'):=by
 funext k;simp only[Cc];by_cases hj:k=j<;>simp[hj]
theorem Hi{m:Mem}{nx j:Nat}{u:Bool}{x:D}{T:TypeId}{a s:ByteArray}{o:Option Nat}(hj:m j=some (.bs u x T))(hl:liesAt prog prog.depth T (2 / prog.cellsOf T) 0 183 1=true)
 (hb:sZ m x a o) (M:∀ i,o=some i->i≠j/\i<nx) (iV:j<nx) (C:a.size+s.size<=140737488355328):
 fD prog 119 [.rp j 0,S s] m nx fun d m' J=>d=.aL [I s.size,.s .nilIface]/\m'=zk m nx j T (a++s) o/\J=nx+1:=by
 refine uR aeD ?_;rw[aeE];refine ws ?_;refine ab ?_;refine er ?_;refine au (cV (v:=.rp _ _) rfl) aK trivial ?_;refine gm (ahT hj hl) rfl aK fun d m' J h=>?_;obtain⟨rfl,rfl,rfl⟩:=h;refine aa ?_;dsimp only[St.put];refine ws ?_;have ap:up m j (some (Row.bs true x T)) j=some (.bs true x T):=ah _ _ _;cases o with
 |none=>
  obtain⟨rfl,rfl⟩:=hb;replace C:s.size<=140737488355328:=by simpa using C
  refine aZ ?_;refine rh (Ft rfl ap V.h V.h) ak ?_;refine SS ?_;refine Hb (YN rfl rfl V.h (To V.h V.h V.h V.h) V.h C V.h) ak ?_;refine au (Gd rfl (ag oG ap)) ak trivial ?_;refine au (rN rfl (ag oG ap) V.h) ak (pQ V.h) ?_;refine T6 (Qm rfl (ag oG ap) V.h V.h rfl rfl) ak ?_;refine er ?_;refine aZ ?_;refine aa (gk (d:=I s.size) (e:=.s .nilIface) rfl rfl ⟨rfl,?_,rfl⟩);show up (up (up m j (some (.bs true .z T))) _ (some (.cells (fh s) 5))) j (some (.bs true (.rs _ 0 s.size) T))=zk m _ j T (ByteArray.empty++s) none;rw[aeB,ByteArray.empty_append];rfl
 |some i=>
  obtain⟨rfl,hi⟩:=hb;have U:=(M i rfl).1;have X:=(M i rfl).2;have gn:up m j (some (Row.bs true (.rs i 0 a.size) T)) i=some (.cells (fh a) 5):=ag U hi;have hlen:(fh a).length=a.size:=by simp[fh]
  refine aZ ?_;refine rh (Ft rfl ap V.h V.h) ak ?_;refine SS ?_;refine ahb (aal rfl rfl gn V.h (To V.h V.h V.h V.h) V.h (by first|rfl|omega|(simp;done)|(simp;omega)) C V.h) ak ?_;refine au (Gd rfl (ag oG (ag oG ap))) ak trivial ?_;refine au (rN rfl (ag oG (ag oG ap)) V.h) ak (pQ V.h) ?_;refine T6 (Qm rfl (ag oG (ag oG ap)) V.h V.h rfl rfl) ak ?_;refine er ?_;refine aZ ?_;refine aa (gk (d:=I s.size) (e:=.s .nilIface) rfl rfl ⟨rfl,?_,rfl⟩);show up (up (up (up m j (some (.bs true (.rs i 0 a.size) T))) i none) _ (some (.cells ((fh a).drop 0++fh s) 5))) j (some (.bs true (.rs _ 0 (a.size+s.size)) T))=zk m _ j T (a++s) (some i);rw[aeC,List.drop_zero, <- Xs,zk,ByteArray.size_append];rfl
end Go.Proofs.Tryz.K
end
namespace Go.Abs
section
variable{P:Program}
end
section
variable{P:Program}{F F':Nat->Prop}{m:Mem}{nx:Nat}{β β':aC}{w w':World}
theorem aaL(hm:aJ P F m β w)(hn:β nx=none){f:FuncId}{args es:List D}{n:Nat}{t:TypeId}{vs:Array Value}{dV:List D}{rds:List Nat}(fx:jn P rds m args dV)(hc:ko P f dV es n t)(kN:∀ d∈es,d.gp=true)(hR:Rs F β w args vs):
 Calls P f vs w fun e w'=>∃ v β',e=.returned v/\R F β' w' (.rs nx 0 n) v/\aJ P F (up m nx (some (.cells es t))) β' w'/\Step β w β' w'/\∀ i,i≠nx->β' i=β i:=by
 obtain⟨g1,g2⟩:=CU (P:=P) (F:=F) (β:=β) (w:=w) (fun i hi r hr=>by
  obtain⟨p,hp,ap⟩:=hm.row i r hr
  exact⟨p,hp,ap,fun b hb=>hm.nf i p b hp hb⟩) fx
 refine(hc.2.2 F w vs hm.fb ⟨by rw[hR.1,g1],fun k d v hd hv=>?_⟩).mono ?_
 .have af:k<args.length:=by rw[g1];exact(bK.1 hd).1
  exact g2 k args[k] d (by simp[af]) hd v (hR.2 k args[k] v (by simp[af]) hv)
 rintro e w' ⟨v,p,he,KO,C,ap,hv,hk⟩;have fy:=hm.kept hk
 have hs:Step β w (up β nx (some p)) w':=by
  refine⟨hk.1,fun b hb hf=>⟨hk.2.1 b hb,fun i q hq=>?_⟩,fun i q hq=>.inl ?_,hk.2.2⟩
  .by_cases hi:i=nx
   .subst hi;rw[ah] at hq;cases hq;intro e;have:=(C b e).1;omega
   .rw[az _ _ hi] at hq;exact hf i q hq
  .rw[az _ _ (fun e=>by rw[e,hn] at hq;cases hq)];exact hq
 have M:∀ i q b,up β nx (some p) i=some q->q.bF=some b->(i=nx/\q=p)\/(i≠nx/\β i=some q):=fun i q b hq _=>by
  by_cases hi:i=nx
  .subst hi;rw[ah] at hq;cases hq;exact .inl ⟨rfl,rfl⟩
  .rw[az _ _ hi] at hq;exact .inr ⟨hi,hq⟩
 have qU:cw P F (up β nx (some p)) w' (.cells es t) p:=by
  cases ap with
  |nil _=>exact .nil _
  |cells _ _ b o room sz c h1 h2 X h4 h5=>
   refine .cells es t b o room sz c h1 h2 X h4 fun k d hd=>?_;obtain⟨u,pg,pi,pj⟩:=h5 k d hd;exact⟨u,pg,Kk (kN d (bD hd)) pi,pj⟩
 refine⟨v,up β nx (some p),he,?_,?_,hs,fun i hi=>az _ _ hi⟩
 .cases hv with
  |kH _ _ _ _ h _=>rw[ah] at h;cases h;exact absurd rfl KO
  |iT _ a h=>rw[ah] at h;cases h;exact .iT nx a (ah _ _ _)
  |jI _ _ a b o len room sz h=>rw[ah] at h;cases h;exact .jI nx 0 a b o len room sz (ah _ _ _)
  |rs _ _ _ cap b o len room sz h h1 h2 X h4=>rw[ah] at h;cases h;exact .rs nx 0 n cap b o len room sz (ah _ _ _) h1 h2 X h4
 .refine⟨fun i r hi=>?_,fun i j q q' b hq gL e J=>?_,fun i q b hq e=>?_,fun i q b hq e=>?_,fy.fb⟩
  .by_cases U:i=nx
   .subst U;rw[ah] at hi;cases hi;exact⟨p,ah _ _ _,qU⟩
   .rw[az _ _ U] at hi;obtain⟨q,hq,Mu⟩:=hm.row i r hi;exact⟨q,by rw[az _ _ U];exact hq,Mu.step hs fun b hb=>hk.2.1 b (hm.lt i q b hq hb)⟩
  .rcases M i q b hq e with⟨rfl,rfl⟩|⟨hi,h1⟩<;>rcases M j q' b gL J with⟨rfl,rfl⟩|⟨hj,h2⟩
   .rfl
   .have:=(C b e).1;have:=hm.lt j q' b h2 J;omega
   .have:=(C b J).1;have:=hm.lt i q b h1 e;omega
   .exact hm.inj i j q q' b h1 h2 e J
  .rcases M i q b hq e with⟨_,rfl⟩|⟨_,h1⟩
   .exact(C b e).2
   .exact fy.lt i q b h1 e
  .rcases M i q b hq e with⟨_,rfl⟩|⟨_,h1⟩
   .intro hF;have:=hm.fb.lt b hF;have:=(C b e).1;omega
   .exact hm.nf i q b h1 e
theorem ko.snap{f:FuncId}{args C es:List D}{n:Nat}{t:TypeId}{rds:List Nat}(U:jn P rds m args C)(h:ko P f C es n t)(kN:∀ d∈es,d.gp=true):
 fD P f args m nx fun d m' M=>d=.rs nx 0 n/\m'=up m nx (some (.cells es t))/\M=nx+1:=
 ⟨h.1,fun F β w vs hm hn hR=>(aaL hm (hn nx (a8 _)) U h kN hR).mono fun e w' ⟨v,β',h1,h2,X,h4,J⟩=>
  ⟨v,_,_,_,β',h1,⟨rfl,rfl,rfl⟩,X,fun i hi=>by rw[J i oG];exact hn i oG,h2,h4,oG,fun i hi hb=>by rw[J i oG];exact hb⟩⟩
end
end Go.Abs
section
open Go Go.Abs Go.Proofs Go.Argus
namespace Go.Proofs.Tryz.K
theorem K7{l:List Int}{g:FuncId}{fs cs:List D}{p:Int->ByteArray}(hl:l.length<=1000000)(ht:Tr (.fn (.func g) fs cs))(hg:∀ x∈l,aA prog g (fs++[I x]++cs) (S (p x))):ko prog 201 [aP l,.fn (.func g) fs cs] ((l.map p).map S) l.length 9:=by
 refine XN Tp.he (.cons (du _) (.cons ht .nil)) fun U=>?_;have hlen:=(U (aP l) oS).sl.1;unfold maxLen at hlen;refine HO Tp (.cons (du _) (.cons ht .nil)) (.map fun _=>.s _) ?_;rw[aeF];refine ws ?_;refine SS ?_;refine aa (aw ?_);refine SS ?_;refine aa ⟨_,.o0 _ _ _ 5 9 rfl,aB (aw ?_)⟩;refine ax ?_
 refine aa (bY (fun s=>∃ r m nx,aI prog s ⟨ay [(5,.rs r 0 l.length)],m,nx⟩/\m r=some (.cells ((l.map p).map S) 9)) (cy (α:=Nat×Nat×Mem×Nat)
  (fun s=>⟨ay [(1,.fn (.func g) fs cs),(5,.rs s.2.1 0 s.1),(8,aP l),(9,I l.length),(10,I s.1)],s.2.2.1,s.2.2.2⟩)
  (fun s=>s.1<=l.length/\s.2.1<s.2.2.2/\s.2.2.1 s.2.1=some (.cells (((l.take s.1).map p).map S) 9)) (fun s=>l.length - s.1) (0,_,_,_)
  (av eH) ⟨Nat.zero_le _,Nat.lt_succ_self _,rfl⟩ ?_) ?_)
 .rintro⟨j,r,m,nx⟩ ⟨hj,hr,ap⟩;dsimp only at hj hr ap ⊢;refine SS ?_;refine aa ⟨_,rfl,fun h=>?_,fun h=>?_⟩
  .have M:j<l.length:=by simpa using h
   have hx:l[j]? =some l[j]:=by simp[M]
   have J:=hg l[j] (gf _)
   have C:((l.take (j+1)).map p).map S=((l.take j).map p).map S++[S (p l[j])]:=by
    rw[List.take_add_one,hx,List.map_append,List.map_append];rfl
   have X:(((l.take j).map p).map S).length=j:=by simp;omega
   generalize l[j]=x at hx J C;generalize ((l.take j).map p).map S=ds at ap C X;refine ws ?_;refine ax ?_;refine aa (fC ?_);refine ax ?_;refine cl J ?_;refine ax ?_;refine aa ?_;refine ab ?_;refine aa (bg (j+1,nx+1,_,_) (av eH) ⟨oM,oM,?_⟩ oM);dsimp only;rw[C];exact ah _ _ _
  .have bl:¬ j<l.length:=by simpa using h
   have:j=l.length:=by omega
   subst this;rw[List.take_length] at ap;exact⟨r,m,nx,av eH,ap⟩
 .rintro s ⟨r,m,nx,hg,ap⟩;refine⟨_,hg,aj ?_⟩;refine ab ?_;refine aa (aF rfl ⟨r,rfl,ap⟩)
theorem LX{l:List Int}{g:FuncId}{fs cs:List D}{p:Int->Int}(hl:l.length<=1000000)(ht:Tr (.fn (.func g) fs cs))(hg:∀ x∈l,aA prog g (fs++[U8 x]++cs) (I (p x))):aA prog 202 [iK l,.fn (.func g) fs cs] (aP (l.map p)):=by
 refine mo Tq.he (.cons (oW _) (.cons ht .nil)) fun U=>?_;have hlen:=(U (iK l) oS).sl.1;unfold maxLen at hlen;refine bj Tq (.cons (oW _) (.cons ht .nil)) (du _) ?_;rw[aeG];refine ws ?_;refine SS ?_;refine aa (aw ?_);refine SS ?_;refine aa ⟨_,.o0 _ _ _ 5 3 rfl,aB (aw ?_)⟩;refine ax ?_
 refine aa (bY (fun s=>∃ r m nx,aI prog s ⟨ay [(5,.rs r 0 l.length)],m,nx⟩/\m r=some (.cells ((l.map p).map I) 3)) (cy (α:=Nat×Nat×Mem×Nat)
  (fun s=>⟨ay [(1,.fn (.func g) fs cs),(5,.rs s.2.1 0 s.1),(8,iK l),(9,I l.length),(10,I s.1)],s.2.2.1,s.2.2.2⟩)
  (fun s=>s.1<=l.length/\s.2.1<s.2.2.2/\s.2.2.1 s.2.1=some (.cells (((l.take s.1).map p).map I) 3)) (fun s=>l.length - s.1) (0,_,_,_)
  (av eH) ⟨Nat.zero_le _,Nat.lt_succ_self _,rfl⟩ ?_) ?_)
 .rintro⟨j,r,m,nx⟩ ⟨hj,hr,ap⟩;dsimp only at hj hr ap ⊢;refine SS ?_;refine aa ⟨_,rfl,fun h=>?_,fun h=>?_⟩
  .have M:j<l.length:=by simpa using h
   have hx:l[j]? =some l[j]:=by simp[M]
   have J:=hg l[j] (gf _)
   have C:((l.take (j+1)).map p).map I=((l.take j).map p).map I++[I (p l[j])]:=by
    rw[List.take_add_one,hx,List.map_append,List.map_append];rfl
   have X:(((l.take j).map p).map I).length=j:=by simp;omega
   generalize l[j]=x at hx J C;generalize ((l.take j).map p).map I=ds at ap C X;refine ws ?_;refine ax ?_;refine aa (fC ?_);refine ax ?_;refine cl J ?_;refine ax ?_;refine aa ?_;refine ab ?_;refine aa (bg (j+1,nx+1,_,_) (av eH) ⟨oM,oM,?_⟩ oM);dsimp only;rw[C];exact ah _ _ _
  .have bl:¬ j<l.length:=by simpa using h
   have:j=l.length:=by omega
   subst this;rw[List.take_length] at ap;exact⟨r,m,nx,av eH,ap⟩
 .rintro s ⟨r,m,nx,hg,ap⟩;refine⟨_,hg,aw ?_⟩;refine ab ?_;refine aa (bG (eT ap (l:=[(4,aP (l.map p))]) ⟨?_,trivial⟩) (aF rfl rfl));exact(iJ (by rw[c3];simp)).trans oS
theorem ahY{n:Int}:aA prog 203 [U8 n] (I (iH n)):=by
 refine bj aeH (by simp[Tr.s]) (Tr.s _) ?_;rw[aeI];refine ws ?_;refine SS ?_;refine er ?_;refine ax ?_;exact aa (aF rfl rfl)
theorem Ud{l:List Int}(hl:l.length<=1000000):aA prog 147 [iK l] (aP (l.map iH)):=by
 have LX:=LX (l:=l) (g:=203) (fs:=[]) (cs:=[]) (p:=iH) hl (.fn oS oS) fun x _=>ahY;refine bj aeJ (.cons (oW _) .nil) (du _) ?_;rw[aeK];refine ws ?_;refine SS ?_;refine er ?_;refine SS ?_;refine cl LX ?_;refine SS ?_;exact aa (aF rfl rfl)
theorem Ue{m:Mem}{nx j k n:Nat}{u:Bool}{x:D}{a:ByteArray}{o:Option Nat}{wsq:List ByteArray}(hj:m j=some (.bs u x 213))(hk:m k=some (.cells (wsq.map S) 9))(hb:sZ m x a o)(hn:n=wsq.length)
 (U:∀ i,o=some i->i≠j/\i<nx) (X:j<nx) (hw:wsq.length<=1000000) (hs:a.size+(gV wsq).size<=140737488355328):
 fD prog 144 [.rp j 0,.rs k 0 n] m nx fun d m' J=>d=.aL []/\m'=zk m nx j 213 (a++gV wsq) o/\J=nx+1:=by
 subst hn;have bB:(gV wsq).size=(AH wsq ⟨#[32]⟩).size+1:=by rw[gV,ByteArray.size_append];rfl
 have LY:=LY (l:=wsq) (sep:=⟨#[32]⟩) oG (by
  have:(AH wsq ⟨#[32]⟩).size=(Lib.join (wsq.map (·.data.toList)) [32]).length:=rfl;show(Lib.join (wsq.map (·.data.toList)) [32]).length<=_
  omega)
 have C:(0:Nat)=0->jn prog [k] m [.rs k 0 wsq.length,S ⟨#[32]⟩] [bI wsq,S ⟨#[32]⟩]:=fun _=>⟨AF hk oS (by rw[c9,List.drop_zero,df oS]) (.map fun _=>.s _),cH (.s _),trivial⟩
 have Hi:=Hi (s:=gV wsq) hj aco hb U X hs;refine uR aeM ?_;rw[aeN];have ap:=hj;refine JZ Zb kr ?_
 have M:(AH wsq ⟨#[32]⟩).size+(⟨#[10]⟩:ByteArray).size<=maxLen:=by
  show(AH wsq ⟨#[32]⟩).size+1<=_;unfold maxLen;omega
 refine aZ ?_;refine Tg LY rfl (C rfl) rfl ak ?_;refine rh (ad7 rfl rfl M) ak ?_;refine ct cG ?_;refine gm Hi rfl aK fun d m' J h=>?_;obtain⟨rfl,rfl,rfl⟩:=h;exact aa (vz ⟨rfl,rfl,rfl⟩)
def De(m:Mem)(nx j:Nat)(a:ByteArray)(o:Option Nat)(d:D)(m':Mem)(C:Nat):Prop:=
 d=.aL []/\∃ q,q≠j/\nx<=q/\q<C/\m' j=some (.bs true (.rs q 0 a.size) 213)/\m' q=some (.cells (fh a) 5)/\∀ i,i<nx->i≠j->o≠some i->m' i=m i
theorem QF{m C:Mem}{nx n0 j:Nat}{a:ByteArray}{o:Option Nat}(hj:j<n0)(hn:n0<=nx)(hm:∀ i,i<n0->m i=C i):De C n0 j a o (.aL []) (zk m nx j 213 a o) (nx+1):=by
 refine⟨rfl,nx,oG,hn,oG,ah _ _ _,(az _ _ oG).trans (ah _ _ _),fun i hi h1 h2=>?_⟩;refine((az _ _ h1).trans (az _ _ oG)).trans ?_;cases o with
 |none=>exact hm i hi
 |some k=>exact(az _ _ (fun e=>h2 (by rw[e]))).trans (hm i hi)
theorem sZ.mono{m m':Mem}{x:D}{a:ByteArray}{o:Option Nat}(h:sZ m x a o)(hm:∀ i,o=some i->m' i=m i):sZ m' x a o:=by
 cases o with
 |none=>exact h
 |some i=>exact⟨h.1,(hm i rfl).trans h.2⟩
theorem Hj{m:Mem}{nx j:Nat}{u:Bool}{x y:D}{a word:ByteArray}{o:Option Nat}{l:List Int}(hj:m j=some (.bs u x 213))(hb:sZ m x a o)
 (J:∀ i,o=some i->i≠j/\i<nx) (iV:j<nx) (hy:y=aP l\/∃ k,k<nx/\y=.rs k 0 l.length/\m k=some (.cells (l.map I) 3)) (hi:∀ n∈l,i64 n) (hl:l.length<=100000)
 (hs:a.size+(gV (word::l.map eJ)).size<=140737488355328):
 fD prog 146 [.rp j 0,S word,y] m nx (De m nx j (a++gV (word::l.map eJ)) o):=by
 have K7:=K7 (l:=l) (g:=145) (fs:=[]) (cs:=[]) (p:=eJ) oG (.fn oS oS) fun n hn=>Uf (hi n hn).1 (hi n hn).2;have U:Tr (.fn (.func 145) [] []):=.fn oS oS
 have key:∃ rds,jn prog rds (up m nx (some (.cells [S word] 9))) [y,.fn (.func 145) [] []] [aP l,.fn (.func 145) [] []]:=by
  rcases hy with rfl|⟨k,hk,rfl,X⟩
  .exact⟨[],cH (du l),cH U,trivial⟩
  .exact⟨[k],AF (ag oG X) oS (by rw[c3,List.drop_zero,df oS]) (.map fun _=>.s _),cH U,trivial⟩
 obtain⟨rds,fx⟩:=key;have mB:=K7.snap (nx:=nx+1) fx (by simp[D.gp]);have C:y.core=y:=by rcases hy with rfl|⟨k,_,rfl,_⟩<;>rfl
 have M:y.ask:=by rcases hy with rfl|⟨k,_,rfl,_⟩<;>trivial
 refine uR aeO ?_;rw[aeP];refine jP ?_;refine ax ?_;refine au (cV (v:=y) C) (by repeat' (first|exact trivial|exact M|refine And.intro ?_ ?_)) trivial ?_;refine gm mB (by show some (201,[y.core,D.fn (Fn.func 145) [] []])=_;rw[C]) (by repeat' (first|exact trivial|exact C|exact M|exact rfl|refine And.intro ?_ ?_)) fun d m' ai h=>?_;obtain⟨rfl,rfl,rfl⟩:=h;dsimp only[St.put];refine iC (iw rfl (ag oG (ah _ _ _)) rfl V.h V.h (j5 (ah _ _ _) rfl) rfl) ak ⟨V.h,rfl,(by first|omega|exact bC rfl|(simp;done)|(simp;omega)),oC,(by first|rfl|(simp;done)|(simp;omega)),(by unfold maxLen;first|omega|(simp;omega)),(by rw[b9];first|omega|(simp;omega)),(by first|(simp;done)|(simp;omega))⟩ ?_;refine gm (Ue (k:=nx+1+1) (wsq:=word::l.map eJ) (ag oG (ag oG (ag oG (ag oG hj)))) ((ah _ _ _).trans (by rw[List.drop_zero,List.drop_zero,df oS];rfl)) (hb.mono fun i hi=>?_) oP (fun i hi=>⟨(J i hi).1,by have:=(J i hi).2;omega⟩) oG oP hs) rfl aK fun d m' ai h=>?_
 .have:=(J i hi).2;exact ag oG (ag oG (ag oG (ag oG rfl)))
 obtain⟨rfl,rfl,rfl⟩:=h;refine aa (vz (QF iV oG fun i hi=>?_));exact ag oG (ag oG (ag oG (ag oG rfl)))
theorem Uh{m:Mem}{nx j:Nat}{u:Bool}{y:D}{a word:ByteArray}{o:Option Nat}{x:cW}(hj:m j=some (.bs u y 213))(hb:sZ m y a o)
 (C:∀ i,o=some i->i≠j/\i<nx) (iV:j<nx) (hi:Hk x) (hl:x.args.length<=10000) (hs:a.size+(Ug word x).size<=140737488355328):
 fD prog 148 [.rp j 0,S word,.agg (cv x)] m nx (De m nx j (a++Ug word x) o):=by
 refine uR aeQ ?_;rw[aeR];refine ws ?_;refine SS ?_;refine aa (jP ?_);have ap:up m nx (some (Row.cells (cv x) 54)) nx=some (.cells [U8 x.op,I x.to,I x.a,I x.b,I x.n,aP x.args] 54):=ah _ _ _;have hD:(x.args.map I).take (x.args.length*1)=x.args.map I:=df oS;refine bt ?_;refine bu ?_;refine au (rN rfl (ag oG ap) V.h) ak (pQ V.h) ?_;refine au (j7 rfl (ag oG ap) rfl V.h) ak (j8 V.h V.h rfl) ?_;refine iC (iw rfl (ah _ _ _) rfl zl c3 (px hD) rfl) aK ⟨AZ,rfl,oS,oC,rfl,by unfold maxLen;omega,by rw[b3];omega,oS⟩ ?_;refine gm (Hj (y:=.rs (nx+1+1) 0 (5+x.args.length)) (l:=wc x) (word:=word) (ag oG (ag oG (ag oG (ag oG hj)))) (hb.mono fun i hi=>?_) (fun i hi=>⟨(C i hi).1,by have:=(C i hi).2;omega⟩) oG (.inr ⟨nx+1+1,oG,congrArg (D.rs _ 0) (by simp[wc];omega),ah _ _ _⟩) hi (by simp[wc];omega) hs) rfl aK fun d m' ai h=>?_
 .have:=(C i hi).2;exact ag oG (ag oG (ag oG (ag oG rfl)))
 refine aa (vz ?_);obtain⟨rfl,q,h1,h2,J,M,U,X⟩:=h;exact⟨rfl,q,h1,oG,J,M,U,fun i hi h7 h8=>(X i oG h7 h8).trans (ag oG (ag oG (ag oG (ag oG rfl))))⟩
theorem Ui{m:Mem}{nx j i:Nat}{u:Bool}{a:ByteArray}{T:TypeId}(hj:m j=some (.bs u (.rs i 0 a.size) T))(hi:m i=some (.cells (fh a) 5))(h0:0<a.size)(hs:a.size<=140737488355328):
 fD prog 120 [.rp j 0] m nx fun d m' ai=>d=S a/\m'=up m i none/\ai=nx:=by
 refine uR aeS ?_;rw[aeT];refine ws ?_;refine SS ?_;refine aa (ep Zc ?_);have ap:=hj;have gn:=hi;have kn:=aaQ a;have X:((fh a).drop 0).take a.size=lK (wg a):=by rw[List.drop_zero,df (by simp[fh]),adx]
 have U:=h0;have J:(prog).underlying 229=some (.pointer 5):=kr;have M:a.size<=maxLen:=by unfold maxLen;omega
 have C:=aaR a;refine ax ?_;refine rh (Ft rfl ap V.h V.h) ak ?_;refine rh (ab3 rfl gn (by first|assumption|omega)) ak ?_;refine ax ?_;refine rh (Ft rfl ap V.h V.h) ak ?_;refine au (vw rfl gn) ak V.h ?_;refine ahc (adk (s:=.tmp 0) rfl rfl kn gn X U J c5 M C) aK ?_;refine SS ?_;refine ct cG (aF rfl ⟨?_,rfl,rfl⟩);exact congrArg (fun s=>D.s (.string s)) (acp a)
end Go.Proofs.Tryz.K
namespace Go.Proofs.Tryz.K
def mI(q:Nat)(a:ByteArray):Mem:=a7 [(1,.bs true (.rs q 0 a.size) 213),(q,.cells (fh a) 5)]
theorem rD{q:Nat}{a:ByteArray}:mI q a 1=some (.bs true (.rs q 0 a.size) 213):=by simp[mI,a7]
theorem M8{q:Nat}{a:ByteArray}(h:q≠1):mI q a q=some (.cells (fh a) 5):=by simp[mI,a7,h]
theorem ue{q:Nat}{a:ByteArray}(h:q≠1):sZ (mI q a) (.rs q 0 a.size) a (some q):=⟨rfl,M8 h⟩
theorem sy{m m':Mem}{nx C:Nat}{U:List (List ByteArray)}{w:List ByteArray}{o:Option Nat}{d:D}(h:De m nx 1 (eK U++gV w) o d m' C)(h1:1<nx):
 ∃ q,1<q/\nx<=q/\q<C/\∀ (env:Env) (l:List (Nat×D)),kX l env->aI prog ⟨env,m',C⟩ ⟨ay l,mI q (eK (U++[w])),C⟩:=by
 obtain⟨_,q,h2,X,h4,J,M,_⟩:=h;rw[<- Rb] at J M;exact⟨q,oG,X,h4,fun env l hl=>bQ hl ⟨J,M,trivial⟩⟩
theorem Df{m:Mem}{nx j k n:Nat}{u:Bool}{x:D}{a:ByteArray}{o:Option Nat}{wsq:List ByteArray}(hj:m j=some (.bs u x 213))(hk:m k=some (.cells (wsq.map S) 9))(hb:sZ m x a o)(hn:n=wsq.length)
 (J:∀ i,o=some i->i≠j/\i<nx) (C:j<nx) (M:wsq.length<=1000000) (hs:a.size+(gV wsq).size<=140737488355328):
 fD prog 144 [.rp j 0,.rs k 0 n] m nx (De m nx j (a++gV wsq) o):=
 (Ue hj hk hb hn J C M hs).mono fun d m' U h=>by
  obtain⟨rfl,rfl,rfl⟩:=h;exact QF C (a8 _) fun _ _=>rfl
theorem abJ{σ:D->D}(h:∀ n,sub σ (.s n)=.s n)(a:ByteArray):(fh a).map (sub σ)=fh a:=by
 unfold fh;rw[List.map_map];exact List.map_congr_left fun c _=>h _
theorem GV{P:Program}{env:Env}{m:Mem}{nx n' q:Nat}{a:ByteArray}{cs:List D}{e:TypeId}{l:List (Nat×D)}(hm:m nx=some (.cells cs e))(h1:m 1=mI q a 1)(h2:m q=mI q a q)(bN:1<q)(C:q<nx)
 (hl:kX l fun t=>sub (cE nx cs (P.cellsOf e)) (env t)):aI P ⟨env,m,n'⟩ ⟨ay l,mI q a,n'⟩:=by
 refine oR hm hl ⟨?_,?_,trivial⟩
 .show(if 1=nx then none else(m 1).map _)=_;rw[if_neg oG,h1,rD];show some (Row.bs true (sub (cE nx cs (P.cellsOf e)) (.rs q 0 a.size)) 213)=_;rw[xe oG]
 .show(if q=nx then none else(m q).map _)=_;rw[if_neg oG,h2,M8 oG];show some (Row.cells ((fh a).map (sub (cE nx cs (P.cellsOf e)))) 5)=_;rw[abJ fun _=>rfl]
theorem lE{i sz:Nat}{cs:List D}:sub (cE i cs sz) (.rp i 0)=.pt cs:=lR.trans (by rw[List.drop_zero])
theorem uS{c g:al}{args:List Int}(ha:∀ r∈args,0<=r/\r<c.aT.length)(hg:g.args<=g.aT.length)(hl:args.length<=1000000):
 aA prog 99 [.agg (aW dF dF c),.agg (aM g),aP args] (B (o9 c g args)):=by
 have M:∀ a∈[D.agg (aW dF dF c),.agg (aM g),aP args],Tr a:=.cons (kb (.s _) (.s _) c) (.cons (.agg (kQ g)) (.cons (du _) .nil));refine bj ah6 M (Tr.s _) ?_;rw[ah7];refine aw ?_;refine ax ?_;refine aa (bG (dB [(0,aW dF dF c,113),(1,aM g,48)] eH (l:=[(2,aP args),(3,.pt (aW dF dF c)),(4,.pt (aM g))]) eH) (aB (aj ?_)));refine bu ?_;refine aa (cR rfl (fun h=>aB (aj ?_)) fun h=>cI (aB (aw ?_)))
 .have:¬ (args.length:Int)=g.args:=by simpa using h
  have hf:o9 c g args=false:=by simp[o9,this]
  rw[hf];refine SS ?_;exact aa (ed (aF rfl rfl))
 have hlen:(args.length:Int)=g.args:=by simpa using h
 refine ax ?_
 refine aa (bY (fun s=>aI prog s ⟨ay [],fun _=>none,2⟩/\∀ j,j<args.length->ye c g args j=true) (cy (α:=Nat) (fun k=>⟨ay [(3,.pt (aW dF dF c)),(4,.pt (aM g)),(14,aP args),(15,I args.length),(16,I k)],fun _=>none,2⟩)
  (fun k=>k<=args.length/\∀ j,j<k->ye c g args j=true) (fun k=>args.length - k) 0 (av eH) ⟨oG,fun j hj=>by omega⟩ ?_) ?_)
 .rintro k ⟨hk,hinv⟩;refine SS ?_;refine aa ⟨_,rfl,fun h=>?_,fun h=>?_⟩
  .have af:k<args.length:=by simpa using h
   obtain⟨x,hx⟩:∃ x,args[k]? =some x:=⟨_,aU af⟩
   obtain⟨X,Ec⟩:=ha x (bD hx);refine ws ?_;refine bu ?_;obtain⟨C,rfl⟩:∃ C:Nat,x=C:=⟨x.toNat,oG⟩
   obtain⟨u,hu⟩:∃ u,c.aT[C]? =some u:=⟨_,aU oG⟩
   obtain⟨v,hv⟩:∃ v,g.aT[k]? =some v:=⟨_,aU oG⟩
   refine aa (ep aaS ?_);refine bt ?_;refine ax ?_;have J:ye c g args k=(u==v):=by simp[ye,o2,dx,hx,hu,hv]
   refine ct cG (aO rfl (fun hp=>?_) fun hp=>?_)
   .have hf:o9 c g args=false:=by
     have:(range args.length).all (ye c g args)=false:=by
      rw[List.all_eq_false];refine⟨k,List.mem_range.2 af,?_⟩;rw[J];simpa using hp
     simp[o9,this]
    rw[hf];refine ws ?_;refine SS ?_;exact aa (bJ (cu (bE (aF rfl rfl))))
   .refine cT ?_;refine ab ?_;refine aa (bg (k+1) (av eH) ⟨oG,fun j hj=>?_⟩ oG);by_cases e:j=k
    .subst e;rw[J];simpa using hp
    .exact hinv j oG
  .have bl:¬ k<args.length:=by simpa using h
   exact⟨.forget _ _ _ _ fun _=>.inr rfl,fun j hj=>hinv j oG⟩
 .rintro s ⟨hg,U⟩;refine⟨_,hg,aj ?_⟩
  have:(range args.length).all (ye c g args)=true:=by
   rw[bS];intro j hj;exact U j (List.mem_range.1 hj)
  have hf:o9 c g args=true:=by simp[o9,hlen,this]
  rw[hf];refine SS ?_;exact aa (aF rfl rfl)
end Go.Proofs.Tryz.K
namespace Go.Proofs.Tryz.K
theorem K8{n:Int}(h:i64 n):aA prog 145 [I n] (S (eJ n)):=Uf h.1 h.2
theorem acq{f:al}(j0:fg f=0)(ht:CM f):aA prog 111 [.agg (aM f)] (.aL [S (lP f),I 0]):=by
 have qq:=qq (f:=f);rw[j0] at qq;have kR:=Ud (l:=f.aT) (by have:=ht.aT;omega);have kS:=Ud (l:=f.cm) (by have:=ht.cm;omega);have hsg:=ht.sigs
 have Uj:∀ l:List Int,∀ n∈l.map iH,i64 n:=fun l n hn=>by
  obtain⟨x,_,rfl⟩:=List.mem_map.1 hn;exact z8 x
 have Vl:(eK []).size+(gV [yd,f.name,sx f,eJ f.args,eJ (iH f.result)]).size<=140737488355328:=ht.le ⟨_,rfl⟩;have Vm:(eK [[yd,f.name,sx f,eJ f.args,eJ (iH f.result)]]).size+(gV (AI::(f.aT.map iH).map eJ)).size<=140737488355328:=ht.le ⟨_,rfl⟩;have Vn:(eK [[yd,f.name,sx f,eJ f.args,eJ (iH f.result)],AI::(f.aT.map iH).map eJ]).size+(gV (CN::(f.cm.map iH).map eJ)).size<=140737488355328:=ht.le ⟨_,rfl⟩;have Vo:(eK [[yd,f.name,sx f,eJ f.args,eJ (iH f.result)],AI::(f.aT.map iH).map eJ,CN::(f.cm.map iH).map eJ]).size+(gV (E9::f.signals)).size<=140737488355328:=ht.le ⟨_,rfl⟩;refine bj Ts (.cons (.agg (kQ f)) .nil) (.aL (.cons (.s _) (.cons (.s _) .nil))) ?_;rw[Tt];refine aw ?_;refine ax ?_;refine aa (bG (dB [(0,aM f,48)] eH (l:=[(1,.pt (aM f))]) eH) (aB (aj ?_)));refine SS ?_;refine cl qq ?_;refine SS ?_;refine aa (aB (aj ?_));refine ab ?_;refine aa (uc (cI (aj ?_)));refine SS ?_;refine Hb (adl rfl rfl rfl V.h) ak ?_;refine au (jx (v:=.rp _ _) rfl) ak trivial ?_;refine er ?_;refine SS ?_;refine aa (iL (fun s=>aI prog s ⟨ay [(1,.pt (aM f)),(5,.rp 1 0),(6,S (sx f))],a7 [(1,.bs false .z 213)],2⟩) (aj ?_) fun s hs=>⟨_,hs,WR Zd kr ?_⟩)
 .refine ab ?_;refine aa (aO rfl (fun hi=>?_) fun hi=>?_)
  .refine jP ?_;refine SS ?_;refine aa (bQ ⟨rfl,rfl,?_,trivial⟩ eH);rw[sx,hi];rfl
  .refine cT (bQ ⟨rfl,rfl,?_,trivial⟩ eH);rw[sx,hi];rfl
 refine cr ?_;refine qX (K8 ht.args) rfl aK ?_;refine ax ?_;refine qX (K8 (z8 f.result)) rfl aK ?_;refine SS ?_;refine ct cG ?_;refine gm (Df (wsq:=[yd,f.name,sx f,eJ f.args,eJ (iH f.result)]) (a:=eK []) (o:=none) rfl rfl ⟨rfl,rfl⟩ rfl (fun i hi=>by cases hi) oG oS Vl) rfl aK fun d m nx h=>?_;refine aa ?_;dsimp only[St.put];obtain⟨q,bN,_,C,hg⟩:=sy h oG;refine⟨_,hg _ [(1,.pt (aM f)),(5,.rp 1 0)] ⟨rfl,rfl,trivial⟩,aw ?_⟩;clear hg h;refine ax ?_;refine qX kR rfl aK ?_;refine gm (Hj (word:=AI) rD (ue oG) (fun i hi=>by cases hi;omega) oG (.inl rfl) (Uj _) (by simp;have:=ht.aT;omega) Vm) rfl aK fun d m nx h=>?_;refine aa ?_;dsimp only[St.put];obtain⟨q,bN,_,C,hg⟩:=sy h oG;refine⟨_,hg _ [(1,.pt (aM f)),(5,.rp 1 0)] ⟨rfl,rfl,trivial⟩,aw ?_⟩;clear hg h;refine ax ?_;refine qX kS rfl aK ?_;refine gm (Hj (word:=CN) rD (ue oG) (fun i hi=>by cases hi;omega) oG (.inl rfl) (Uj _) (by simp;have:=ht.cm;omega) Vn) rfl aK fun d m nx h=>?_;refine aa ?_;dsimp only[St.put];obtain⟨q,bN,_,C,hg⟩:=sy h oG;refine⟨_,hg _ [(1,.pt (aM f)),(5,.rp 1 0)] ⟨rfl,rfl,trivial⟩,aw ?_⟩;clear hg h;have U:(f.signals.map S).take (f.signals.length*1)=f.signals.map S:=df oS;refine aZ ?_;refine iC (iw rfl (ah _ _ _) rfl rE c9 (px U) rfl) aK ⟨ln,rfl,oS,oC,rfl,by unfold maxLen;omega,by rw[b9];omega,oS⟩ ?_;refine gm (Df (wsq:=E9::f.signals) (ag oG (ag oG (ag oG rD))) (ah _ _ _) ((ue oG).mono fun i hi=>?_) oP (fun i hi=>by cases hi;omega) oG oP Vo) rfl aK fun d m nx h=>?_
 .cases hi;exact ag oG (ag oG (ag oG rfl))
 refine aa ?_;dsimp only[St.put];obtain⟨q,bN,_,C,hg⟩:=sy h oG;refine⟨_,hg _ [(1,.pt (aM f)),(5,.rp 1 0)] ⟨rfl,rfl,trivial⟩,aB (aw ?_)⟩;clear hg h;refine aZ ?_;have LZ:kO f f.blocks.length=jS f:=by rw[kO,List.take_length];rfl
 have c8:=ht.L1
 refine aa (bY (fun s=>∃ q nx,1<q/\q<nx/\aI prog s ⟨ay [(5,.rp 1 0)],mI q (eK (jS f)),nx⟩) (cy (α:=Nat×Nat×Nat)
  (fun s=>⟨ay [(5,.rp 1 0),(53,cF f.blocks),(54,I f.blocks.length),(55,I s.1)],mI s.2.1 (eK (kO f s.1)),s.2.2⟩)
  (fun s=>s.1<=f.blocks.length/\1<s.2.1/\s.2.1<s.2.2) (fun s=>f.blocks.length - s.1) (0,q,nx)
  (av eH) ⟨Nat.zero_le _,bN,C⟩ ?_) ?_)
 .clear Vl Vm Vn Vo kR kS bN C U;rintro⟨k,q,nx⟩ ⟨hk,bN,C⟩;dsimp only at hk bN C ⊢;refine SS ?_;refine aa ⟨_,rfl,fun h=>?_,fun h=>?_⟩
  .have iF:k<f.blocks.length:=by simpa using h
   clear h;obtain⟨b,hb⟩:∃ b,f.blocks[k]? =some b:=⟨_,aU iF⟩
   have kB:=bD hb;have M5:=ht.ah2 b kB;have M6:=ht.ins b kB;have M:=ht.fin b kB;refine aw ?_;refine aZ ?_;refine aa ⟨_,GV (cs:=bH b) (e:=59) (ah _ _ _) (ag oG (ag oG rfl)) (ag oG (ag oG rfl)) bN C (l:=[(5,.rp 1 0),(53,cF f.blocks),(54,I f.blocks.length),(55,I k),(8,.pt (bH b))]) ⟨gi oG,rfl,rfl,rfl,lE,trivial⟩,aw ?_⟩;refine ab ?_;refine gm (Df (wsq:=[o1]) (ag oG rD) (ah _ _ _) ((ue oG).mono fun i hi=>by cases hi;exact(ag oG rfl)) rfl (fun i hi=>by cases hi;omega) oG oS (ht.le (IY hb ⟨_,rfl⟩))) rfl aK fun d m nx h=>?_;refine aa ?_;dsimp only[St.put];obtain⟨q,bN,_,C,hg⟩:=sy h oG;refine⟨_,hg _ [(5,.rp 1 0),(53,cF f.blocks),(54,I f.blocks.length),(55,I k),(8,.pt (bH b))] ⟨rfl,rfl,rfl,rfl,rfl,trivial⟩,aB (aw ?_)⟩;clear hg h;refine aZ ?_
   refine aa (bY (fun s=>∃ q nx,1<q/\q<nx/\aI prog s ⟨ay [(5,.rp 1 0),(53,cF f.blocks),(54,I f.blocks.length),(55,I k),(8,.pt (bH b))],mI q (eK (kO f k++([o1]::qZ b))),nx⟩) (cy (α:=Nat×Nat×Nat)
    (fun s=>⟨ay [(5,.rp 1 0),(53,cF f.blocks),(54,I f.blocks.length),(55,I k),(8,.pt (bH b)),(63,lF b.ins),(64,I b.ins.length),(65,I s.1)],mI s.2.1 (eK (kO f k++([o1]::(b.ins.take s.1).map (nH sK)))),s.2.2⟩)
    (fun s=>s.1<=b.ins.length/\1<s.2.1/\s.2.1<s.2.2) (fun s=>b.ins.length - s.1) (0,q,nx)
    (av eH) ⟨Nat.zero_le _,bN,C⟩ ?_) ?_)
   .clear bN C;rintro⟨i,q,nx⟩ ⟨hi,bN,C⟩;dsimp only at hi bN C ⊢;refine SS ?_;refine aa ⟨_,rfl,fun h=>?_,fun h=>?_⟩
    .have eR:i<b.ins.length:=by simpa using h
     clear h;obtain⟨x,hx⟩:∃ x,b.ins[i]? =some x:=⟨_,aU eR⟩
     have j3:=M6 x (bD hx);have he:kO f k++([o1]::(b.ins.take (i+1)).map (nH sK))=(kO f k++([o1]::(b.ins.take i).map (nH sK)))++[nH sK x]:=by rw[List.take_add_one,hx];simp
     have ra:(kO f k++([o1]::(b.ins.take i).map (nH sK)))++[nH sK x]<+:jS f:=by
      rw[<- he];refine IY hb ?_;unfold lL qZ;refine(List.cons_prefix_cons).2 ⟨rfl,?_⟩;exact((List.take_prefix _ _).map _).trans (List.prefix_append _ _)
     refine aw ?_;refine aZ ?_;refine aa ⟨_,GV (cs:=cv x) (e:=54) (ah _ _ _) (ag oG (ag oG rfl)) (ag oG (ag oG rfl)) bN C (l:=[(5,.rp 1 0),(53,cF f.blocks),(54,I f.blocks.length),(55,I k),(63,lF b.ins),(64,I b.ins.length),(65,I i),(8,.pt (bH b)),(10,.pt (cv x))]) ⟨gi oG,rfl,rfl,rfl,rfl,rfl,rfl,rfl,lE,trivial⟩,fC ?_⟩;refine ab ?_;refine gm (Uh (x:=x) (word:=sK) rD (ue oG) (fun i hi=>by cases hi;omega) oG j3.1 j3.2 (ht.le ra)) rfl aK fun d m nx h=>?_;refine aa ?_;dsimp only[St.put];obtain⟨q,bN,_,C,hg⟩:=sy (w:=nH sK x) h oG;refine ab ?_;refine aa (bg (i+1,q,nx) ?_ ⟨oM,bN,C⟩ oM);dsimp only;rw[he];exact hg _ _ ⟨rfl,rfl,rfl,rfl,rfl,rfl,rfl,rfl,trivial⟩
    .have bl:¬ i<b.ins.length:=by simpa using h
     have:i=b.ins.length:=by omega
     subst this;rw[List.take_length];exact⟨q,nx,bN,C,av eH⟩
   clear bN C;rintro s ⟨q,nx,bN,C,hg⟩;refine⟨_,hg,aw ?_⟩;clear hg;refine ax ?_;refine bM (fk (cs':=bw _) rfl rfl (ah _ _ _) rfl) ak (bU V.h V.h (by first|(simp;done)|exact⟨rfl,bC rfl⟩|(simp;omega)) (by rfl)) ?_;refine aa ⟨_,GV (cs:=bw b.fin) (e:=57) (ah _ _ _) (ag oG (ag oG rfl)) (ag oG (ag oG rfl)) bN C (l:=[(5,.rp 1 0),(53,cF f.blocks),(54,I f.blocks.length),(55,I k),(11,.pt (bw b.fin))]) ⟨gi oG,rfl,rfl,rfl,lE,trivial⟩,aw ?_⟩;generalize hfx:b.fin=x at*
   have U:(x.args.map I).take (x.args.length*1)=x.args.map I:=df oS;have s3:=M.2.1;have hwl:=M.2.2.2.2.1;have hB:lL b=[o1]::(qZ b++(rk x::(jT x++(lp x++x.aR.map lQ)))):=by unfold lL;rw[hfx]
   have X:∀ A,A<+:jT x++(lp x++x.aR.map lQ)->((kO f k++([o1]::qZ b))++[rk x])++A<+:jS f:=fun A hA=>by
    have:=IY hb (p:=[o1]::(qZ b++(rk x::A))) (by
     rw[hB]
     exact(List.cons_prefix_cons).2 ⟨rfl,(List.prefix_append_right_inj _).2 ((List.cons_prefix_cons).2 ⟨rfl,hA⟩)⟩)
    simpa[List.append_assoc] using this
   refine bt ?_;refine dG ?_;refine iC (iw rfl (ah _ _ _) rfl zl c3 (px U) rfl) aK ⟨AZ,rfl,oS,oC,rfl,by unfold maxLen;omega,by rw[b3];omega,oS⟩ ?_;refine gm (Hj (y:=.rs (nx+1+1) 0 (6+x.args.length)) (l:=uv x) (word:=DD) (ag oG (ag oG (ag oG rD))) ((ue oG).mono fun i hi=>by cases hi;exact(ag oG (ag oG (ag oG rfl)))) (fun i hi=>by cases hi;omega) oG (.inr ⟨nx+1+1,oG,congrArg (D.rs _ 0) (by simp[uv];omega),ah _ _ _⟩) M.1 (by simp[uv];omega) (ht.le (p:=kO f k++([o1]::qZ b)) (l:=rk x) (by simpa using X [] List.nil_prefix))) rfl aK fun d m nx h=>?_;refine aa ?_;dsimp only[St.put];obtain⟨q,bN,_,C,hg⟩:=sy (w:=rk x) h oG;generalize HP:(kO f k++([o1]::qZ b))++[rk x]=T1 at*
   refine⟨_,hg _ [(5,.rp 1 0),(53,cF f.blocks),(54,I f.blocks.length),(55,I k),(11,.pt (bw x))] ⟨rfl,rfl,rfl,rfl,rfl,trivial⟩,iL (fun s=>∃ q nx,1<q/\q<nx/\aI prog s ⟨ay [(5,.rp 1 0),(53,cF f.blocks),(54,I f.blocks.length),(55,I k),(11,.pt (bw x))],mI q (eK (T1++jT x)),nx⟩) (aj ?_) fun s hs=>?_⟩
   .refine ax ?_;refine aa (aO rfl (fun hn=>?_) fun hn=>?_)
    .have J:jT x=[[GW,x.name]]:=by
      unfold jT;rw[if_neg];intro he;simp[he] at hn
     refine jP ?_;refine aZ ?_;refine gm (Df (wsq:=[GW,x.name]) (ag oG rD) (ah _ _ _) ((ue oG).mono fun i hi=>by cases hi;exact(ag oG rfl)) rfl (fun i hi=>by cases hi;omega) oG oS (ht.le (X _ (by rw[J];exact List.prefix_append _ _)))) rfl aK fun d m nx h=>?_;refine aa ?_;dsimp only[St.put];obtain⟨q,bN,_,C,hg⟩:=sy h oG;rw[J];exact⟨q,nx,bN,C,hg _ _ ⟨rfl,rfl,rfl,rfl,rfl,trivial⟩⟩
    .have J:jT x=[]:=by
      unfold jT;rw[if_pos];by_cases he:x.name.toList=[]
      .exact he
      .simp[he] at hn
     rw[J,List.append_nil];exact cT ⟨q,nx,bN,C,av eH⟩
   clear hg h bN C;obtain⟨q,nx,bN,C,hg⟩:=hs;refine⟨_,hg,iL (fun s=>∃ q nx,1<q/\q<nx/\aI prog s ⟨ay [(5,.rp 1 0),(53,cF f.blocks),(54,I f.blocks.length),(55,I k),(11,.pt (bw x))],mI q (eK ((T1++jT x)++lp x)),nx⟩) (aj ?_) fun s hs=>?_⟩
   .refine ax ?_;refine aa (aO rfl (fun hn=>?_) fun hn=>?_)
    .have J:lp x=[nH A0 x.ins]:=by
      unfold lp;rw[if_pos];simpa using hn
     have M7:(T1++jT x)++[nH A0 x.ins]<+:jS f:=by
      rw[List.append_assoc];refine X _ ((List.prefix_append_right_inj _).2 ?_);rw[J];exact List.prefix_append _ _
     refine jP ?_;refine ax ?_;refine gm (Uh (x:=x.ins) (word:=A0) rD (ue oG) (fun i hi=>by cases hi;omega) oG M.2.2.1 M.2.2.2.1 (ht.le M7)) rfl aK fun d m nx h=>?_;refine aa ?_;dsimp only[St.put];obtain⟨q,bN,_,C,hg⟩:=sy (w:=nH A0 x.ins) h oG;rw[J];exact⟨q,nx,bN,C,hg _ _ ⟨rfl,rfl,rfl,rfl,rfl,trivial⟩⟩
    .have J:lp x=[]:=by
      unfold lp;rw[if_neg];simpa using hn
     rw[J,List.append_nil];exact cT ⟨q,nx,bN,C,av eH⟩
   clear hg bN C;obtain⟨q,nx,bN,C,hg⟩:=hs;refine⟨_,hg,aw ?_⟩;clear hg;refine aZ ?_
   refine aa (cy (α:=Nat×Nat×Nat)
    (fun s=>⟨ay [(5,.rp 1 0),(53,cF f.blocks),(54,I f.blocks.length),(55,I k),(110,lB x.aR),(111,I x.aR.length),(112,I s.1)],mI s.2.1 (eK (((T1++jT x)++lp x)++(x.aR.take s.1).map lQ)),s.2.2⟩)
    (fun s=>s.1<=x.aR.length/\1<s.2.1/\s.2.1<s.2.2) (fun s=>x.aR.length - s.1) (0,q,nx)
    (by dsimp only;rw[List.take_zero,List.map_nil,List.append_nil];exact av eH) ⟨Nat.zero_le _,bN,C⟩ ?_)
   clear bN C;rintro⟨i,q,nx⟩ ⟨hi,bN,C⟩;dsimp only at hi bN C ⊢;refine SS ?_;refine aa ⟨_,rfl,fun h=>?_,fun h=>?_⟩
   .have eR:i<x.aR.length:=by simpa using h
    clear h;obtain⟨w,hw⟩:∃ w,x.aR[i]? =some w:=⟨_,aU eR⟩
    have MH:=M.2.2.2.2.2 w (bD hw);have he:((T1++jT x)++lp x)++(x.aR.take (i+1)).map lQ=(((T1++jT x)++lp x)++(x.aR.take i).map lQ)++[lQ w]:=by rw[List.take_add_one,hw];simp
    have M7:(((T1++jT x)++lp x)++(x.aR.take i).map lQ)++[lQ w]<+:jS f:=by
     rw[<- he,List.append_assoc,List.append_assoc];exact X _ ((List.prefix_append_right_inj _).2 ((List.prefix_append_right_inj _).2 ((List.take_prefix _ _).map _)))
    refine aw ?_;refine aZ ?_;refine aa ⟨_,GV (cs:=gR w) (e:=79) (ah _ _ _) (ag oG (ag oG rfl)) (ag oG (ag oG rfl)) bN C (l:=[(5,.rp 1 0),(53,cF f.blocks),(54,I f.blocks.length),(55,I k),(110,lB x.aR),(111,I x.aR.length),(112,I i),(13,.pt (gR w))]) ⟨gi oG,rfl,rfl,rfl,rfl,rfl,rfl,lE,trivial⟩,JZ X6 kr ?_⟩;refine bu ?_;refine qX (K8 MH) rfl aK ?_;refine SS ?_;refine ct cG ?_;refine gm (Df (wsq:=lQ w) (ag oG rD) (ah _ _ _) ((ue oG).mono fun i hi=>by cases hi;exact(ag oG rfl)) rfl (fun i hi=>by cases hi;omega) oG (by simp[lQ]) (ht.le M7)) rfl aK fun d m nx h=>?_;refine aa ?_;dsimp only[St.put];obtain⟨q,bN,_,C,hg⟩:=sy (w:=lQ w) h oG;show aq prog cZ (Z dI 31) false [] _ (Z dI 31).toList _ [];refine ab ?_;refine aa (bg (i+1,q,nx) ?_ ⟨oM,bN,C⟩ oM);dsimp only;rw[he];exact hg _ _ ⟨rfl,rfl,rfl,rfl,rfl,rfl,rfl,trivial⟩
   .have bl:¬ i<x.aR.length:=by simpa using h
    have:i=x.aR.length:=by omega
    subst this;rw[List.take_length];show aq prog cZ (Z dI 32) false [] _ (Z dI 32).toList _ [];refine ab ?_;refine aa (bg (k+1,q,nx) ?_ ⟨oM,bN,C⟩ oM);dsimp only;rw[QG hb,show kO f k++lL b=((T1++jT x)++lp x)++x.aR.map lQ by rw[hB, <- HP];simp[List.append_assoc]];exact av eH
  .have bl:¬ k<f.blocks.length:=by simpa using h
   have:k=f.blocks.length:=by omega
   subst this;rw[LZ];exact⟨q,nx,bN,C,av eH⟩
 .rintro s ⟨q,nx,bN,C,hg⟩;refine⟨_,hg,aj ?_⟩
  have h0:0<(eK (jS f)).size:=by
   show 0<(gV _++eK _).size;rw[ByteArray.size_append,gV,ByteArray.size_append];have:(⟨#[10]⟩:ByteArray).size=1:=rfl;omega
  refine SS ?_;refine au (Gd rfl rfl) ak trivial ?_;refine SS ?_;refine gm (Ui rD (M8 oG) h0 ht.size) rfl aK fun d m nx h=>?_;obtain⟨rfl,rfl,rfl⟩:=h;dsimp only[St.put];refine ab ?_;exact aa (gk rfl rfl rfl)
theorem Hl{f:al}(ht:fg f=0->CM f):aA prog 111 [.agg (aM f)] (.aL [S (if fg f=0 then lP f else⟨#[]⟩),I (fg f)]):=by
 by_cases C:fg f=0
 .have h:=acq C (ht C);rw[if_pos C,C];exact h
 rw[if_neg C];have qq:=qq (f:=f);refine bj Ts (.cons (.agg (kQ f)) .nil) (.aL (.cons (.s _) (.cons (.s _) .nil))) ?_;rw[Tt];generalize fg f=e at*
 have um:(e !=0)=true:=by simpa using C
 refine aw ?_;refine ax ?_;refine aa (bG (dB [(0,aM f,48)] eH (l:=[(1,.pt (aM f))]) eH) (aB (aj ?_)));refine SS ?_;refine cl qq ?_;refine SS ?_;refine aa (aB (aj ?_));refine ab ?_;refine aa (xZ (aB (aj ?_)));refine ax ?_;exact aa (ed (gk rfl rfl rfl))
theorem ah3{f:al}{name:ByteArray}:aA prog 116 [.agg (aM f),.pt [S name]] (B (f.name.toList==name.toList)):=by
 refine bj aeU (.cons (.agg (kQ f)) (.cons (.pt (.cons (.s _) .nil)) .nil)) (Tr.s _) ?_;rw[aeV];refine aw ?_;refine ab ?_;refine aa (bG (dB [(0,aM f,48)] eH (l:=[(1,.pt [S name]),(2,.pt (aM f))]) eH) (aj ?_));refine bu ?_;exact aa (aF rfl rfl)
theorem yA{l:List al}{g:FuncId}{fs cs:List D}{p:al->Bool}(hl:l.length<=1000000)(ht:Tr (.fn (.func g) fs cs))(hg:∀ x∈l,aA prog g (fs++[.agg (aM x)]++cs) (B (p x))):aA prog 115 [bc l,.fn (.func g) fs cs] (I (mH p l)):=by
 refine bj aeW (.cons (gP _) (.cons ht .nil)) (Tr.s _) ?_;rw[aeX];refine ws ?_;refine SS ?_;refine aa (aB (aw ?_));refine ax ?_
 refine aa (bY (fun s=>aI prog s ⟨ay [],fun _=>none,0⟩/\∀ (j:Nat) y,l[j]? =some y->p y=false) (cy (α:=Nat) (fun k=>⟨ay [(0,bc l),(1,.fn (.func g) fs cs),(7,I l.length),(8,I k)],fun _=>none,0⟩)
  (fun k=>k<=l.length/\∀ j y,j<k->l[j]? =some y->p y=false) (fun k=>l.length - k) 0 (av eH) ⟨oG,fun j y hj=>by omega⟩ ?_) ?_)
 .rintro k ⟨hk,hinv⟩;refine SS ?_;refine aa ⟨_,rfl,fun h=>?_,fun h=>?_⟩
  .have af:k<l.length:=by simpa using h
   obtain⟨x,hx⟩:∃ x,l[k]? =some x:=⟨_,aU af⟩
   have C:=hg x (bD hx);refine ws ?_;refine ab ?_;refine er ?_;refine bu ?_;refine cl C ?_;refine aa (aO rfl (fun hp=>?_) fun hp=>?_)
   .refine ws ?_;refine ab ?_;refine aa (bJ (cu (bE (aF rfl ?_))));rw[tu hx hp hinv];rfl
   .refine cT ?_;refine ab ?_;refine aa (bg (k+1) (av eH) ⟨oG,fun j y hj hy=>?_⟩ oG);by_cases e:j=k
    .subst e;rw[hx] at hy;cases hy;exact hp
    .exact hinv j y oG hy
  .have M:¬ k<l.length:=by simpa using h
   exact⟨.forget _ _ _ _ fun _=>.inr rfl,fun j y hy=>hinv j y (by have:=(bK.1 hy).1;omega) hy⟩
 .rintro s ⟨hg,J⟩;refine⟨_,hg,aj ?_⟩;refine SS ?_;refine aa (aF rfl ?_);rw[w9 J];rfl
theorem pr{l:List al}{name:ByteArray}(hl:l.length<=1000000):aA prog 74 [bc l,S name] (CO (findF l name)):=by
 have yA:=yA (l:=l) (g:=116) (fs:=[]) (cs:=[.pt [S name]]) (p:=fun g=>g.name.toList==name.toList) hl (.fn oS (.cons (.pt (.cons (.s _) .nil)) .nil)) fun x _=>ah3
 change aA _ _ _ (I (named l name)) at yA
 have C:Tr (CO (findF l name)):=by
  cases findF l name with
  |none=>exact .aL (.cons (.agg (.cons (.s _) (.cons (.s _) (.cons (.s _) (.cons (.s _) (.cons .z (.cons .z (.cons .z (.cons .z .nil))))))))) (.cons (.s _) .nil))
  |some g=>exact .aL (.cons (.agg (kQ g)) (.cons (.s _) .nil))
 refine bj ah4 (.cons (gP _) (.cons (.s _) .nil)) C ?_;rw[ah5];refine aw ?_;refine eA (Gc (d:=.s (.string _)) rfl rfl) ak rfl ?_;refine ab ?_;refine aa ⟨_,oR (i:=0) (cs:=[S name]) (e:=9) rfl (l:=[(0,bc l),(3,.pt [S name]),(4,.rp 1 0)]) eH (ml:=[(1,.cells gW 48)]) eH,aj ?_⟩;refine ab ?_;refine cl yA ?_;refine SS ?_;refine aa (aB (aj ?_));rcases Xt l name with⟨hn,hf⟩|⟨i,g,hn,hg,hf⟩
 .rw[hn,hf];refine ab ?_;refine aa (xZ (aB (aj ?_)));refine ax ?_;exact aa (ed (mW (gy rfl rfl wJ mg rfl t48 oC) rfl rfl))
 .rw[hn,hf];have af:=(bK.1 hg).1;refine ab ?_;refine aa (cR rfl (fun h=>?_) fun _=>cI (aj ?_))
  .simp at h;omega
  refine cr ?_;exact aa (mW (gy rfl rfl wJ mg rfl t48 (a8 8)) rfl rfl)
theorem J2{m:Mem}{nx j sz:Nat}{r:Row}{cs:List D}(hj:j≠nx)(h1:m j=some r)(hr:Row.sub (cE nx cs sz) r=r):(fun j=>if j=nx then none else(m j).map (Row.sub (cE nx cs sz))) j=some r:=by
 show(if j=nx then none else(m j).map _)=_;rw[if_neg hj,h1];exact congrArg some hr
theorem p9{c:al}{l:List al}{r:Int}(hl:l.length<=1000000)(c8:c.blocks.length<=1000000):aA prog 100 [.agg (aW dF dF c),bc l,I r] (CO (wj c l r)):=by
 have M:∀ a∈[D.agg (aW dF dF c),bc l,I r],Tr a:=.cons (kb (.s _) (.s _) c) (.cons (gP l) (.cons (.s _) .nil));have pr:∀ {name:ByteArray},aA prog 74 [bc l,S name] (CO (findF l name)):=fun {name}=>pr hl;refine bj aeY M (aaT _) ?_;rw[aeZ];refine aw ?_;refine ax ?_;refine aa ⟨_,oR (i:=0) (cs:=aW dF dF c) (e:=113) rfl (l:=[(1,bc l),(2,I r),(3,.pt (aW dF dF c)),(6,.rp 1 0)]) eH (ml:=[(1,.cells gW 48)]) eH,aB (aw ?_)⟩;refine bu ?_
 refine aa (bY (fun s=>(∃ nx,2<=nx/\aI prog s ⟨ay [(6,.rp 1 0)],a7 [(1,.cells gW 48)],nx⟩)/\∀ (j:Nat) y,c.blocks[j]? =some y->AJ r y=false) (cy (α:=Nat×Nat) (fun s=>⟨ay [(1,bc l),(2,I r),(6,.rp 1 0),(12,cF c.blocks),(13,I c.blocks.length),(14,I s.1)],a7 [(1,.cells gW 48)],s.2⟩)
  (fun s=>s.1<=c.blocks.length/\2<=s.2/\∀ j y,j<s.1->c.blocks[j]? =some y->AJ r y=false) (fun s=>c.blocks.length - s.1) (0,2) (av eH) ⟨Nat.zero_le _,a8 _,fun j y hj=>by omega⟩ ?_) ?_)
 .rintro⟨k,nx⟩ ⟨hk,C,hinv⟩;dsimp only at hk C hinv ⊢;refine SS ?_;refine aa ⟨_,rfl,fun h=>?_,fun h=>?_⟩
  .have af:k<c.blocks.length:=by simpa using h
   obtain⟨b,hb⟩:∃ b,c.blocks[k]? =some b:=⟨_,aU af⟩
   refine aw ?_;refine aZ ?_;refine aa ⟨_,oR (i:=nx) (cs:=bH b) (e:=59) (ah _ _ _) (l:=[(1,bc l),(2,I r),(6,.rp 1 0),(12,cF c.blocks),(13,I c.blocks.length),(14,I k),(9,.pt (bH b))]) ⟨rfl,rfl,gi oG,rfl,rfl,rfl,lE,trivial⟩ (ml:=[(1,.cells gW 48)]) ⟨J2 oG (ag oG (ag oG rfl)) rfl,trivial⟩,aj ?_⟩;have J:AJ r b=(decide (b.fin.kind=7)&&decide (b.fin.a=r)):=rfl;refine bt ?_;refine ab ?_;refine aa (aO rfl (fun hp=>?_) fun hp=>?_)
   .have hf:wj c l r=findF l b.fin.name:=by
     unfold wj
     have:c.blocks.find? (AJ r)=some b:=by
      rw[List.find?_eq_some_iff_getElem];refine⟨by rw[J];simpa using hp,k,af,(bK.1 hb).2,fun j hj=>?_⟩;have:=hinv j c.blocks[j] hj (aU oG);simp[this]
     rw[this]
    rw[hf];have pr:= @pr b.fin.name;generalize findF l b.fin.name=o at pr;cases o with
    |none=>
     refine ws ?_;refine aZ ?_;refine cl pr ?_;refine aZ ?_;refine aa (bJ (cu (bE (mW (gy rfl rfl wJ mg rfl t48 (a8 8)) rfl rfl))))
    |some g=>
     refine ws ?_;refine aZ ?_;refine cl pr ?_;refine aZ ?_;refine aa (bJ (cu (bE (mW (gy rfl rfl wJ mg rfl t48 (a8 8)) rfl rfl))))
   .refine cT ?_;refine ab ?_;refine aa (bg (k+1,nx+1) (av eH) ⟨oM,oM,fun j y hj hy=>?_⟩ oM);by_cases e:j=k
    .subst e;rw[hb] at hy;cases hy;rw[J];simpa using hp
    .exact hinv j y (by dsimp only at hj;omega) hy
  .have X:¬ k<c.blocks.length:=by simpa using h
   exact⟨⟨nx,C,av eH⟩,fun j y hy=>hinv j y (by have:=(bK.1 hy).1;omega) hy⟩
 .rintro s ⟨⟨nx,C,hg⟩,U⟩
  have hf:wj c l r=none:=by
   unfold wj
   have:c.blocks.find? (AJ r)=none:=by
    rw[List.find?_eq_none];intro y hy;obtain⟨j,hj⟩:=eS hy;simp[U j y hj]
   rw[this]
  rw[hf];refine⟨_,hg,aj ?_⟩;refine ax ?_;exact aa (mW (gy rfl rfl wJ mg rfl t48 (a8 8)) rfl rfl)
theorem HQ{c:al}{l:List al}(hc:J3 c l):aA prog 64 [.agg (aW dF dF c),bc l] (B (tT c l)):=by
 have bh:∀ a∈[D.agg (aW dF dF c),bc l],Tr a:=.cons (kb (.s _) (.s _) c) (.cons (gP l) .nil);have hl:=hc.len;have c8:=hc.L1;refine bj ah8 bh (.s _) ?_;rw[ah9];refine aw ?_;refine ab ?_;refine aa (bG (dB [(0,aW dF dF c,113)] eH (l:=[(1,bc l),(2,.pt (aW dF dF c))]) eH) (aB (aw ?_)));refine bu ?_
 refine aa (bY (fun s=>∃ nx,aI prog s ⟨ay [],fun _=>none,nx⟩/\∀ (j:Nat) y,c.blocks[j]? =some y->jg c l y=true) (cy (α:=Nat×Nat) (fun s=>⟨ay [(1,bc l),(2,.pt (aW dF dF c)),(14,cF c.blocks),(15,I c.blocks.length),(16,I s.1)],fun _=>none,s.2⟩)
  (fun s=>s.1<=c.blocks.length/\∀ j y,j<s.1->c.blocks[j]? =some y->jg c l y=true) (fun s=>c.blocks.length - s.1) (0,1) (av eH) ⟨Nat.zero_le _,fun j y hj=>by omega⟩ ?_) ?_)
 .rintro⟨k,nx⟩ ⟨hk,hinv⟩;dsimp only at hk hinv ⊢;refine SS ?_;refine aa ⟨_,rfl,fun h=>?_,fun h=>?_⟩
  .have af:k<c.blocks.length:=by simpa using h
   clear h;obtain⟨b,hb⟩:∃ b,c.blocks[k]? =some b:=⟨_,aU af⟩
   have kB:=bD hb;have jM:=hc.args b kB;have hcA:=hc.a b kB;have Uk:=hc.b b kB;have C:jg c l b=if b.fin.kind=6 then yf c l b.fin else if b.fin.kind=7 then yg c l b.fin else if b.fin.kind=8 then vN c l b.fin else true:=rfl
   have js:jg c l b=false->tT c l=false:=fun h=>by
    unfold tT;rw[List.all_eq_false];exact⟨b,kB,by simp[h]⟩
   have qb:jg c l b=true->∀ j y,j<k+1->c.blocks[j]? =some y->jg c l y=true:=fun h j y hj hy=>by
    by_cases e:j=k
    .subst e;rw[hb] at hy;cases hy;exact h
    .exact hinv j y oG hy
   refine aw ?_;refine aZ ?_;refine aa ⟨_,eT (i:=nx) (cs:=bH b) (e:=59) (ah _ _ _) (l:=[(1,bc l),(2,.pt (aW dF dF c)),(14,cF c.blocks),(15,I c.blocks.length),(16,I k),(6,.pt (bH b))]) ⟨rfl,rfl,rfl,rfl,rfl,lE,trivial⟩,aw ?_⟩;refine ax ?_;refine bM (fk (cs':=bw _) rfl rfl (ah _ _ _) rfl) ak (bU V.h V.h (by first|(simp;done)|exact⟨rfl,bC rfl⟩|(simp;omega)) (by rfl)) ?_;refine aa ⟨_,eT (i:=nx+1) (cs:=bw b.fin) (e:=57) (ah _ _ _) (l:=[(1,bc l),(2,.pt (aW dF dF c)),(14,cF c.blocks),(15,I c.blocks.length),(16,I k),(7,.pt (bw b.fin))]) ⟨rfl,rfl,rfl,rfl,rfl,lE,trivial⟩,aw ?_⟩;generalize b.fin=x at*
   have pr:=pr (l:=l) (name:=x.name) hl;cases ho:findF l x.name with
   |none=>
    rw[ho] at pr;refine ax ?_;refine cl pr ?_;refine cr ?_;refine aa ⟨_,eT (i:=nx+1+1) (cs:=gW) (e:=48) (ah _ _ _) (l:=[(1,bc l),(2,.pt (aW dF dF c)),(14,cF c.blocks),(15,I c.blocks.length),(16,I k),(7,.pt (bw x)),(8,.pt gW),(9,B false)]) ⟨rfl,rfl,rfl,rfl,rfl,rfl,lE,rfl,trivial⟩,aj ?_⟩;refine ab ?_;refine aa (pA (aj ?_));refine ab ?_;refine aa (aO rfl (fun J=>?_) fun J=>?_)
    .have J:x.kind=6:=by simpa using J
     rw[if_pos J] at C;have zm:yf c l x=false:=by unfold yf;rw[ho]
     rw[js (C.trans zm)];refine ep Jw ?_;refine dG ?_;refine z fun _ _=>?_;refine ab ?_;(iterate 2 refine z fun _ _=>?_);refine bt ?_;refine ab ?_;(iterate 2 refine z fun _ _=>?_);refine ab ?_;(iterate 2 refine z fun _ _=>?_);refine SS ?_;refine ct cG (Th (aj ?_));refine SS ?_;exact aa (bJ (eu (cu (bE (aF rfl rfl)))))
    .have J:¬ x.kind=6:=by simpa using J
     rw[if_neg J] at C;refine ws ?_;refine ab ?_;refine aa (aO rfl (fun U=>?_) fun U=>?_)
     .have U:x.kind=7:=by simpa using U
      rw[if_pos U] at C;have wK:yg c l x=false:=by unfold yg;rw[ho]
      rw[js (C.trans wK)];refine ws ?_;refine bt ?_;refine z fun _ _=>?_;refine ab ?_;(iterate 2 refine z fun _ _=>?_);refine SS ?_;refine aa (Th (aj ?_));refine SS ?_;exact aa (bJ (eu (cu (bE (aF rfl rfl)))))
     have U:¬ x.kind=7:=by simpa using U
     rw[if_neg U] at C;refine ws ?_;refine ab ?_;refine aa (aO rfl (fun X=>?_) fun X=>?_)
     .have X:x.kind=8:=by simpa using X
      rw[if_pos X] at C;obtain⟨MO,M5⟩:=Uk X;have p9:=p9 (c:=c) (l:=l) (r:=x.a) hl c8;cases nT:wj c l x.a with
      |none=>
       rw[nT] at p9;have M:jg c l b=true:=by rw[C];unfold vN;rw[nT]
       refine aw ?_;refine aZ ?_;refine cl p9 ?_;refine cr ?_;refine aa ⟨_,eT (i:=nx+1+1+1) (cs:=gW) (e:=48) (ah _ _ _) (l:=[(1,bc l),(2,.pt (aW dF dF c)),(14,cF c.blocks),(15,I c.blocks.length),(16,I k),(7,.pt (bw x)),(10,.pt gW),(11,B false)]) ⟨rfl,rfl,rfl,rfl,rfl,rfl,lE,rfl,trivial⟩,ep EW ?_⟩;refine iu ?_;(iterate 2 refine z fun _ _=>?_);refine ab ?_;refine z fun _ _=>?_;refine SS ?_;refine ct cG (K6 (cT ?_));show aq prog cZ (Z dO 17) false [] _ (Z dO 17).toList _ [];refine ab ?_;refine aa (bg (k+1,_) (av eH) ⟨oM,qb M⟩ oM)
      |some g'=>
       rw[nT] at p9;have pu:vN c l x= !(o2 c.aT x.b !=g'.result):=by unfold vN;rw[nT]
       obtain⟨bn,M9⟩:∃ bn:Nat,x.b=bn:=⟨x.b.toNat,oG⟩
       obtain⟨u,hu⟩:∃ u,c.aT[bn]? =some u:=⟨_,aU oG⟩
       obtain⟨kd,a,bb,to,gN,nm,ins,args,aR,zn⟩:=x;dsimp only at*
       subst M9;have Ed:o2 c.aT (bn:Int)=u:=by simp[o2,dx,hu]
       refine aw ?_;refine aZ ?_;refine cl p9 ?_;refine cr ?_;refine aa ⟨_,eT (i:=nx+1+1+1) (cs:=aM g') (e:=48) (ah _ _ _) (l:=[(1,bc l),(2,.pt (aW dF dF c)),(14,cF c.blocks),(15,I c.blocks.length),(16,I k),(7,.pt (bw ⟨kd,a,(bn:Int),to,gN,nm,ins,args,aR,zn⟩)),(10,.pt (aM g')),(11,B true)]) ⟨rfl,rfl,rfl,rfl,rfl,rfl,lE,rfl,trivial⟩,ep EW ?_⟩;refine bt ?_;refine aZ ?_;refine ct cG (aO rfl (fun hp=>aj ?_) fun hp=>cT ?_)
       .have jJ:jg c l b=false:=by
         rw[C,pu,Ed];simpa using hp
        rw[js jJ];refine SS ?_;exact aa (bJ (eu (cu (bE (aF rfl rfl)))))
       .have M:jg c l b=true:=by
         rw[C,pu,Ed];simpa using hp
        show aq prog cZ (Z dO 17) false [] _ (Z dO 17).toList _ [];refine ab ?_;refine aa (bg (k+1,_) (av eH) ⟨oM,qb M⟩ oM)
     .have X:¬ x.kind=8:=by simpa using X
      have M:jg c l b=true:=by rw[C,if_neg X]
      refine cT ?_;show aq prog cZ (Z dO 17) false [] _ (Z dO 17).toList _ [];refine ab ?_;refine aa (bg (k+1,_) (av eH) ⟨oM,qb M⟩ oM)
   |some g=>
    rw[ho] at pr;have Vq:=Ze ho;refine ax ?_;refine cl pr ?_;refine cr ?_;refine aa ⟨_,eT (i:=nx+1+1) (cs:=(aM g)) (e:=48) (ah _ _ _) (l:=[(1,bc l),(2,.pt (aW dF dF c)),(14,cF c.blocks),(15,I c.blocks.length),(16,I k),(7,.pt (bw x)),(8,.pt (aM g)),(9,B true)]) ⟨rfl,rfl,rfl,rfl,rfl,rfl,lE,rfl,trivial⟩,aj ?_⟩;refine ab ?_;refine aa (pA (aj ?_));refine ab ?_;refine aa (aO rfl (fun J=>?_) fun J=>?_)
    .have J:x.kind=6:=by simpa using J
     rw[if_pos J] at C;have zm:yf c l x=(!g.iter&&(o9 c g x.args&& !(decide (0<=x.a)&&(o2 c.aT x.a !=g.result)))):=by unfold yf;rw[ho]
     have uS:=uS (c:=c) (g:=g) (args:=x.args) (jM (.inl J)).1 (hc.fl g Vq) (jM (.inl J)).2;generalize o9 c g x.args=fb at uS zm;by_cases ha:0<=x.a
     .have zo:=hcA J;obtain⟨an,M'⟩:∃ an:Nat,x.a=an:=⟨x.a.toNat,oG⟩
      obtain⟨u,hu⟩:∃ u,c.aT[an]? =some u:=⟨_,aU oG⟩
      obtain⟨kd,a,bb,to,gN,nm,ins,args,aR,zn⟩:=x;dsimp only at*
      subst M';have ur:decide ((0:Int)<=(an:Int))=true:=by simpa using ha
      refine ep Jw ?_;refine bt ?_;refine ab ?_;refine gc uS ?_;refine bu ?_;refine bd rfl rfl (Ao rfl rfl ur) (fun hc=>⟨ak,rfl⟩) ?_;refine bt ?_;refine aZ ?_;refine ct cG (aO rfl (fun hp=>aj ?_) fun hp=>cT ?_)
      .have jJ:jg c l b=false:=by
        rw[C,zm];revert hp;cases g.iter<;>cases fb<;>simp[o2,dx,hu]
       rw[js jJ];refine SS ?_;exact aa (bJ (eu (cu (bE (aF rfl rfl)))))
      .have M:jg c l b=true:=by
        rw[C,zm];revert hp;cases g.iter<;>cases fb<;>simp[o2,dx,hu]
       show aq prog cZ (Z dO 17) false [] _ (Z dO 17).toList _ [];refine ab ?_;refine aa (bg (k+1,_) (av eH) ⟨oM,qb M⟩ oM)
     .have ur:decide (0<=x.a)=false:=by simpa using ha
      refine ep Jw ?_;refine bt ?_;refine ab ?_;refine gc uS ?_;refine bu ?_;refine bd rfl rfl (Ao rfl rfl ur) (fun hc=>⟨ak,rfl⟩) ?_;refine SS ?_;refine jf rfl (congrArg some (Bool.and_false _)) fun _ _=>?_;refine jf rfl (congrArg some (Bool.and_false _)) fun _ _=>?_;refine jf rfl (congrArg some (Bool.and_false _)) fun _ _=>?_;refine jf rfl (congrArg some (Bool.and_false _)) fun _ _=>?_;refine jf rfl (congrArg some (Bool.and_false _)) fun _ _=>?_;refine jf rfl (congrArg some (Bool.and_false _)) fun _ _=>?_;refine jf rfl (congrArg some (Bool.and_false _)) fun _ _=>?_;refine jf rfl (congrArg some (Bool.and_false _)) fun _ _=>?_;refine jf rfl (congrArg some (Bool.and_false _)) fun _ _=>?_;refine jf rfl (congrArg some (Bool.and_false _)) fun _ _=>?_;refine ab ?_;refine ct cG (aO rfl (fun hp=>aj ?_) fun hp=>cT ?_)
      .have jJ:jg c l b=false:=by
        rw[C,zm];revert hp;cases g.iter<;>cases fb<;>simp[ha]
       rw[js jJ];refine SS ?_;exact aa (bJ (eu (cu (bE (aF rfl rfl)))))
      .have M:jg c l b=true:=by
        rw[C,zm];revert hp;cases g.iter<;>cases fb<;>simp[ha]
       show aq prog cZ (Z dO 17) false [] _ (Z dO 17).toList _ [];refine ab ?_;refine aa (bg (k+1,_) (av eH) ⟨oM,qb M⟩ oM)
    .have J:¬ x.kind=6:=by simpa using J
     rw[if_neg J] at C;refine ws ?_;refine ab ?_;refine aa (aO rfl (fun U=>?_) fun U=>?_)
     .have U:x.kind=7:=by simpa using U
      rw[if_pos U] at C;have wK:yg c l x=(g.iter&&o9 c g x.args):=by unfold yg;rw[ho]
      have uS:=uS (c:=c) (g:=g) (args:=x.args) (jM (.inr U)).1 (hc.fl g Vq) (jM (.inr U)).2;generalize o9 c g x.args=fb at uS wK;refine ws ?_;refine bt ?_;refine ax ?_;refine gc uS ?_;refine ab ?_;refine aa (aO rfl (fun hp=>aj ?_) fun hp=>cT ?_)
      .have jJ:jg c l b=false:=by
        rw[C,wK];revert hp;cases g.iter<;>cases fb<;>simp
       rw[js jJ];refine SS ?_;exact aa (bJ (eu (cu (bE (aF rfl rfl)))))
      .have M:jg c l b=true:=by
        rw[C,wK];revert hp;cases g.iter<;>cases fb<;>simp
       show aq prog cZ (Z dO 17) false [] _ (Z dO 17).toList _ [];refine ab ?_;refine aa (bg (k+1,_) (av eH) ⟨oM,qb M⟩ oM)
     have U:¬ x.kind=7:=by simpa using U
     rw[if_neg U] at C;refine ws ?_;refine ab ?_;refine aa (aO rfl (fun X=>?_) fun X=>?_)
     .have X:x.kind=8:=by simpa using X
      rw[if_pos X] at C;obtain⟨MO,M5⟩:=Uk X;have p9:=p9 (c:=c) (l:=l) (r:=x.a) hl c8;cases nT:wj c l x.a with
      |none=>
       rw[nT] at p9;have M:jg c l b=true:=by rw[C];unfold vN;rw[nT]
       refine aw ?_;refine aZ ?_;refine cl p9 ?_;refine cr ?_;refine aa ⟨_,eT (i:=nx+1+1+1) (cs:=gW) (e:=48) (ah _ _ _) (l:=[(1,bc l),(2,.pt (aW dF dF c)),(14,cF c.blocks),(15,I c.blocks.length),(16,I k),(7,.pt (bw x)),(10,.pt gW),(11,B false)]) ⟨rfl,rfl,rfl,rfl,rfl,rfl,lE,rfl,trivial⟩,ep EW ?_⟩;refine iu ?_;(iterate 2 refine z fun _ _=>?_);refine ab ?_;refine z fun _ _=>?_;refine SS ?_;refine ct cG (K6 (cT ?_));show aq prog cZ (Z dO 17) false [] _ (Z dO 17).toList _ [];refine ab ?_;refine aa (bg (k+1,_) (av eH) ⟨oM,qb M⟩ oM)
      |some g'=>
       rw[nT] at p9;have pu:vN c l x= !(o2 c.aT x.b !=g'.result):=by unfold vN;rw[nT]
       obtain⟨bn,M9⟩:∃ bn:Nat,x.b=bn:=⟨x.b.toNat,oG⟩
       obtain⟨u,hu⟩:∃ u,c.aT[bn]? =some u:=⟨_,aU oG⟩
       obtain⟨kd,a,bb,to,gN,nm,ins,args,aR,zn⟩:=x;dsimp only at*
       subst M9;have Ed:o2 c.aT (bn:Int)=u:=by simp[o2,dx,hu]
       refine aw ?_;refine aZ ?_;refine cl p9 ?_;refine cr ?_;refine aa ⟨_,eT (i:=nx+1+1+1) (cs:=aM g') (e:=48) (ah _ _ _) (l:=[(1,bc l),(2,.pt (aW dF dF c)),(14,cF c.blocks),(15,I c.blocks.length),(16,I k),(7,.pt (bw ⟨kd,a,(bn:Int),to,gN,nm,ins,args,aR,zn⟩)),(10,.pt (aM g')),(11,B true)]) ⟨rfl,rfl,rfl,rfl,rfl,rfl,lE,rfl,trivial⟩,ep EW ?_⟩;refine bt ?_;refine aZ ?_;refine ct cG (aO rfl (fun hp=>aj ?_) fun hp=>cT ?_)
       .have jJ:jg c l b=false:=by
         rw[C,pu,Ed];simpa using hp
        rw[js jJ];refine SS ?_;exact aa (bJ (eu (cu (bE (aF rfl rfl)))))
       .have M:jg c l b=true:=by
         rw[C,pu,Ed];simpa using hp
        show aq prog cZ (Z dO 17) false [] _ (Z dO 17).toList _ [];refine ab ?_;refine aa (bg (k+1,_) (av eH) ⟨oM,qb M⟩ oM)
     .have X:¬ x.kind=8:=by simpa using X
      have M:jg c l b=true:=by rw[C,if_neg X]
      refine cT ?_;show aq prog cZ (Z dO 17) false [] _ (Z dO 17).toList _ [];refine ab ?_;refine aa (bg (k+1,_) (av eH) ⟨oM,qb M⟩ oM)
  .have bl:¬ k<c.blocks.length:=by simpa using h
   exact⟨nx,av trivial,fun j y hy=>hinv j y (by have:=(bK.1 hy).1;omega) hy⟩
 .rintro s ⟨nx,hg,bp⟩
  have hf:tT c l=true:=by
   unfold tT;rw[bS];intro y hy;obtain⟨j,hj⟩:=eS hy;exact bp j y hj
  rw[hf];refine⟨_,hg,aj ?_⟩;refine SS ?_;exact aa (aF rfl rfl)
theorem wL{l:List al}(hc:(∀ f∈l,fg f=0)->∀ f∈l,J3 f l)(hlen:l.length<=1000000):aA prog 30 [bc l] (.aL [I (di l).1,I (di l).2]):=by
 refine bj ah' (.cons (gP l) .nil) (.aL (.cons (.s _) (.cons (.s _) .nil))) ?_;rw[aia];refine ws ?_;refine ab ?_;refine aa (aB (aj ?_));refine ax ?_;refine aa (cR rfl (fun h=>aB (aj ?_)) fun h=>cI (aB (aw ?_)))
 .have h:60<l.length:=by
   have:(60:Int)<l.length:=by simpa using h
   omega
  have he:di l=(0,2):=by unfold di;rw[if_pos h]
  rw[he];refine ab ?_;exact aa (ed (gk rfl rfl rfl))
 have wM:¬ 60<l.length:=by
  have:¬ (60:Int)<l.length:=by simpa using h
  omega
 clear h;refine ax ?_
 refine aa (bY (fun s=>(∃ nx,aI prog s ⟨ay [(0,bc l)],fun _=>none,nx⟩)/\∀ j,j<l.length->kV l j=0) (cy (α:=Nat×Nat) (fun s=>⟨ay [(0,bc l),(12,bc l),(13,I l.length),(14,I s.1)],fun _=>none,s.2⟩)
  (fun s=>s.1<=l.length/\∀ j,j<s.1->kV l j=0) (fun s=>l.length - s.1) (0,0) (av eH) ⟨Nat.zero_le _,fun j hj=>by omega⟩ ?_) ?_)
 .rintro⟨k,nx⟩ ⟨hk,hinv⟩;dsimp only at hk hinv ⊢;refine SS ?_;refine aa ⟨_,rfl,fun h=>?_,fun h=>?_⟩
  .have af:k<l.length:=by simpa using h
   clear h;obtain⟨f,hf⟩:∃ f,l[k]? =some f:=⟨_,aU af⟩
   have qq:=qq (f:=f);have C:kV l k=if fg f=0 then(if decide (0<k)&&A1 (oU l (k - 1)) f.name then 1 else 0) else fg f:=by unfold kV;rw[hf]
   have DE:kV l k≠0->di l=(↑k,kV l k):=fun h=>by
    unfold di;rw[if_neg wM,O8 af (by simpa using h) fun j hj=>by simp[hinv j hj]]
   refine aw ?_;refine cr ?_;refine aa ⟨_,eT (i:=nx) (cs:=aM f) (e:=48) (ah _ _ _) (l:=[(0,bc l),(12,bc l),(13,I l.length),(14,I k),(4,I k),(5,.pt (aM f))]) ⟨rfl,rfl,rfl,rfl,rfl,lE,trivial⟩,aB (aj ?_)⟩;generalize fg f=e at qq C;refine SS ?_;refine cl qq ?_;refine SS ?_;refine aa (aB (aj ?_));refine ab ?_;refine aa (cR rfl (fun h=>aB (aj ?_)) fun h=>cI (ep aaV ?_))
   .have h:e≠0:=by simpa using h
    rw[if_neg h] at C;rw[DE (by rw[C];exact h),C];refine aZ ?_;exact aa (ed (cu (bE (gk rfl rfl rfl))))
   have h:e=0:=by simpa using h
   rw[if_pos h] at C;clear h qq
   have qb:kV l k=0->∀ j,j<k+1->kV l j=0:=fun h j hj=>by
    by_cases e:j=k
    .subst e;exact h
    .exact hinv j oG
   cases k with
   |zero=>
    have hz:kV l 0=0:=by rw[C];simp
    refine bu ?_;refine bd rfl rfl (KU rfl rfl oG) (fun hc=>⟨ak,rfl⟩) ?_
    (iterate 3 refine z fun _ _=>?_);refine ab ?_;refine z fun _ _=>?_;refine SS ?_
    refine ct cG (K6 (cT ?_));refine ab ?_;exact aa (bg (0+1,_) (av eH) ⟨oM,qb hz⟩ oM)
   |succ k'=>
    obtain⟨U,X⟩:∃ U,l[k']? =some U:=⟨_,aU oG⟩
    have M':oU l (k'+1 - 1)=U.name:=by unfold oU;rw[Nat.add_sub_cancel,X]
    rw[M'] at C;have wa:(((k'+1:Nat):Int) - 1=(k':Int))/\ -9223372036854775808<=(k':Int)/\(k':Int)<=9223372036854775807:=by omega
    have uo:decide ((0:Int)<((k'+1:Nat):Int))=true:=by simp
    refine cr ?_;refine bd rfl rfl (sd rfl rfl V.h V.h (u7) oN) (fun hc=>⟨ak,(se V.h (u7) oN)⟩) ?_;refine aZ ?_;refine bd rfl rfl (Si rfl rfl) (fun hc=>⟨ak,trivial⟩) ?_;refine SS ?_;refine ct cG (aO rfl (fun hp=>aj ?_) fun hp=>cT ?_)
    .have h1:kV l (k'+1)=1:=by
      rw[C,if_pos];simpa[A1] using hp
     rw[DE (by rw[h1];decide),h1];refine ax ?_;exact aa (bJ (cu (bE (gk rfl rfl rfl))))
    .have hz:kV l (k'+1)=0:=by
      rw[C,if_neg];simpa[A1] using hp
     refine ab ?_;exact aa (bg (k'+1+1,_) (av eH) ⟨oM,qb hz⟩ oM)
  .have bl:¬ k<l.length:=by simpa using h
   exact⟨⟨nx,av eH⟩,fun j hj=>hinv j oG⟩
 .rintro s ⟨⟨nx,hg⟩,bp⟩
  have j0:∀ f∈l,fg f=0:=fun f hf=>by
   obtain⟨j,hj⟩:=eS hf;have dq:=(bK.1 hj).1;have h1:=bp j dq;unfold kV at h1;rw[hj] at h1;dsimp only at h1;by_cases h2:fg f=0
   .exact h2
   .rw[if_neg h2] at h1;exact absurd h1 h2
  have hc:=hc j0;have oE:(range l.length).find? (fun i=>kV l i !=0)=none:=O9 fun j hj=>by simp[bp j hj]
  refine⟨_,hg,aB (aw ?_)⟩;clear hg;refine ax ?_
  refine aa (bY (fun s=>(∃ nx,aI prog s ⟨ay [],fun _=>none,nx⟩)/\∀ j,j<l.length->vj l j=false) (cy (α:=Nat×Nat) (fun s=>⟨ay [(0,bc l),(40,bc l),(41,I l.length),(42,I s.1)],fun _=>none,s.2⟩)
   (fun s=>s.1<=l.length/\∀ j,j<s.1->vj l j=false) (fun s=>l.length - s.1) (0,nx) (av eH) ⟨Nat.zero_le _,fun j hj=>by omega⟩ ?_) ?_)
  .rintro⟨k,nx⟩ ⟨hk,hinv⟩;dsimp only at hk hinv ⊢;refine SS ?_;refine aa ⟨_,rfl,fun h=>?_,fun h=>?_⟩
   .have af:k<l.length:=by simpa using h
    clear h;obtain⟨f,hf⟩:∃ f,l[k]? =some f:=⟨_,aU af⟩
    have HQ:=HQ (hc f (bD hf));have J:vj l k= !tT f l:=by unfold vj;rw[hf]
    refine aw ?_;refine cr ?_;refine aa ⟨_,eT (i:=nx) (cs:=aM f) (e:=48) (ah _ _ _) (l:=[(0,bc l),(40,bc l),(41,I l.length),(42,I k),(7,I k),(8,.pt (aM f))]) ⟨rfl,rfl,rfl,rfl,rfl,lE,trivial⟩,aj ?_⟩;generalize tT f l=cb at HQ J;refine ax ?_;refine cl HQ ?_;refine SS ?_;refine aa (aO rfl (fun hp=>aj ?_) fun hp=>cT ?_)
    .have J:vj l k=true:=by rw[J];simpa using hp
     have hr:di l=(↑k,82):=by
      unfold di;rw[if_neg wM,oE,O8 af J hinv]
     rw[hr];refine ax ?_;exact aa (bJ (cu (bE (gk rfl rfl rfl))))
    .have J:vj l k=false:=by rw[J];simpa using hp
     refine ab ?_;refine aa (bg (k+1,_) (av eH) ⟨oM,fun j hj=>?_⟩ oM);by_cases e:j=k
     .subst e;exact J
     .exact hinv j (by dsimp only at hj;omega)
   .have bl:¬ k<l.length:=by simpa using h
    exact⟨⟨nx,av trivial⟩,fun j hj=>hinv j oG⟩
  .rintro s ⟨⟨nx,hg⟩,M⟩
   have hr:di l=(0,0):=by
    unfold di;rw[if_neg wM,oE,O9 M]
   rw[hr];refine⟨_,hg,aj ?_⟩;refine ab ?_;exact aa (gk rfl rfl rfl)
end Go.Proofs.Tryz.K
end
namespace Go.Argus
abbrev W8:=List UInt8
def lW:List W8->W8
 |[]=>[]
 |[w]=>w
 |w::v::l=>w++32::lW (v::l)
def yl(wsq:List W8):W8:=lW wsq++[10]
def ym(C:List (List W8)):W8:=C.flatMap yl
def xM(w:W8):Prop:=(32:UInt8)∉w/\(10:UInt8)∉w
theorem KJ{α:Type}{c:α}:∀ {x y s t:List α},c∉x->c∉y->x++c::s=y++c::t->x=y/\s=t
 |[],[],s,t,_,_,h=>⟨rfl,by simpa using h⟩
 |[],b::y,s,t,_,hy,h=>by
  simp only[List.nil_append,List.cons_append,List.cons.injEq] at h;exact absurd (by rw[h.1];exact List.mem_cons_self) hy
 |a::x,[],s,t,hx,_,h=>by
  simp only[List.nil_append,List.cons_append,List.cons.injEq] at h;exact absurd (by rw[<- h.1];exact List.mem_cons_self) hx
 |a::x,b::y,s,t,hx,hy,h=>by
  simp only[List.cons_append,List.cons.injEq] at h;obtain⟨h1,h2⟩:=KJ (fun h=>hx (List.mem_cons_of_mem _ h)) (fun h=>hy (List.mem_cons_of_mem _ h)) h.2;exact⟨by rw[h.1,h1],h2⟩
theorem JD:∀ {a:List W8},(∀ w∈a,xM w)->(10:UInt8)∉lW a
 |[],_=>by simp[lW]
 |[w],h=>(h w oS).2
 |w::v::l,h=>by
  have ih:=JD (a:=v::l) fun u hu=>h u (List.mem_cons_of_mem _ hu);simp only[lW,List.mem_append,List.mem_cons,not_or];exact⟨(h w oS).2,oC,ih⟩
theorem Qc:∀ {a b:List W8},a≠[]->b≠[]->(∀ w∈a,xM w)->(∀ w∈b,xM w)->lW a=lW b->a=b
 |[],_,h,_,_,_,_=>absurd rfl h
 |_::_,[],_,h,_,_,_=>absurd rfl h
 |[w],[v],_,_,_,_,h=>by simpa[lW] using h
 |[w],v::u::l,_,_,ha,_,h=>by
  have h1:=(ha w oS).1;simp only[lW] at h;exact absurd (by rw[h];simp) h1
 |w::u::l,[v],_,_,_,hb,h=>by
  have h1:=(hb v oS).1;simp only[lW] at h;exact absurd (by rw[<- h];simp) h1
 |w::u::l,v::x::m,_,_,ha,hb,h=>by
  simp only[lW] at h;obtain⟨h1,h2⟩:=KJ (ha w oS).1 (hb v oS).1 h;have ih:=Qc (a:=u::l) (b:=x::m) oS oS (fun y hy=>ha y (List.mem_cons_of_mem _ hy)) (fun y hy=>hb y (List.mem_cons_of_mem _ hy)) h2;rw[h1,ih]
def Kf(C:List (List W8)):Prop:=∀ l∈C,l≠[]/\∀ w∈l,xM w
theorem Qd:∀ {a b:List (List W8)},Kf a->Kf b->ym a=ym b->a=b
 |[],[],_,_,_=>rfl
 |[],y::b,_,_,h=>by simp[ym,yl] at h
 |x::a,[],_,_,h=>by simp[ym,yl] at h
 |x::a,y::b,ha,hb,h=>by
  simp only[ym,List.flatMap_cons,yl,List.append_assoc,List.cons_append,List.nil_append] at h;have hx:=ha x oS;have hy:=hb y oS;obtain⟨h1,h2⟩:=KJ (JD hx.2) (JD hy.2) h;have e:=Qc hx.1 hy.1 hx.2 hy.2 h1;have ih:=Qd (fun l hl=>ha l (List.mem_cons_of_mem _ hl)) (fun l hl=>hb l (List.mem_cons_of_mem _ hl)) h2;rw[e,ih]
end Go.Argus
namespace Go.Argus
open Go
theorem Jd:∀ (u:Nat),∀ c∈Lib.decDigits u,48<=c.toNat/\c.toNat<=57:=fun u=>by
 induction u using Nat.strongRecOn with
 |_ u ih=>
  intro c hc;rw[Lib.decDigits] at hc;split at hc
  .simp only[List.mem_cons,List.not_mem_nil,or_false] at hc;subst hc;rw[UInt8.toNat_ofNat_of_lt' (by simp[UInt8.size];omega)];omega
  .rw[List.mem_append] at hc;rcases hc with hc|hc
   .exact ih (u / 10) oG c hc
   .simp only[List.mem_cons,List.not_mem_nil,or_false] at hc;subst hc;rw[UInt8.toNat_ofNat_of_lt' (by simp[UInt8.size];omega)];omega
def KL(l:List UInt8):Nat:=l.foldl (fun n c=>10*n+(c.toNat - 48)) 0
theorem Py(u:Nat):KL (Lib.decDigits u)=u:=by
 induction u using Nat.strongRecOn with
 |_ u ih=>
  rw[Lib.decDigits];split
  .rename_i h;simp only[KL,List.foldl_cons,List.foldl_nil];rw[UInt8.toNat_ofNat_of_lt' (by simp[UInt8.size];omega)];omega
  .rename_i h;have:=ih (u / 10) oG;unfold KL at this ⊢;rw[List.foldl_append,this];simp only[List.foldl_cons,List.foldl_nil];rw[UInt8.toNat_ofNat_of_lt' (by simp[UInt8.size];omega)];omega
theorem Sc{u v:Nat}(h:Lib.decDigits u=Lib.decDigits v):u=v:=by rw[<- Py u,h,Py]
theorem YA(n:Int):∀ c∈Lib.itoa n,c.toNat=45\/(48<=c.toNat/\c.toNat<=57):=fun c hc=>by
 unfold Lib.itoa at hc;split at hc
 .rcases List.mem_cons.1 hc with rfl|hc
  .exact .inl rfl
  .exact .inr (Jd _ c hc)
 .exact .inr (Jd _ c hc)
theorem abO{m n:Int}(h:Lib.itoa m=Lib.itoa n):m=n:=by
 have key:∀ a b:Nat,Lib.decDigits a≠45::Lib.decDigits b:=fun a b e=>by
  have:=Jd a 45 (by rw[e];simp);revert this;decide
 unfold Lib.itoa at h;split at h<;>split at h
 .have:=Sc (List.cons.inj h).2;omega
 .exact absurd h.symm (key _ _)
 .exact absurd h (key _ _)
 .have:=Sc h;omega
theorem YB{u:Nat}:∀ (k:Nat),u<10 ^ (k+1)->Lib.nDigits u<=k+1:=fun k h=>by
 refine Classical.byContradiction fun hn=>?_
 have h1:∀ (j v:Nat),j+1<Lib.nDigits v->10 ^ (j+1)<=v:=by
  intro j
  induction j with
  |zero=>
   intro v hv;refine Classical.byContradiction fun hc=>?_;rw[Lib.nDigits_small oG] at hv;omega
  |succ j ih=>
   intro v hv;by_cases C:v<10
   .rw[Lib.nDigits_small C] at hv;omega
   .rw[Lib.nDigits_big C] at hv;have:=ih (v / 10) oG;rw[Nat.pow_succ];omega
 have:=h1 k u oG;omega
theorem Xz(n:Int):xM (Lib.itoa n):=by
 constructor<;>intro h<;>have:=YA n _ h<;>revert this<;>decide
theorem join_eq:∀ l:List W8,Lib.join l [32]=lW l
 |[]=>rfl
 |[w]=>by rw[Lib.join_one];rfl
 |w::v::l=>by
  have ih:=join_eq (v::l);rw[Lib.join_cons] at ih ⊢;rw[lW, <- ih];simp[Lib.joinTail]
theorem Qi:∀ l:List W8,(lW l).length<=(l.map fun w=>w.length+1).sum
 |[]=>by simp[lW]
 |[w]=>by simp[lW]
 |w::v::l=>by
  have ih:=Qi (v::l);simp only[lW,List.length_append,List.length_cons,List.map_cons,List.sum_cons] at ih ⊢;omega
end Go.Argus
section
open Go Go.Abs Go.Proofs Go.Argus
namespace Go.Argus
def dS(n:Int):Prop:= -1000000000<=n/\n<=1000000000
theorem dS.i{n:Int}(h:dS n):i64 n:=by unfold dS at h;unfold i64;omega
structure xN(x:cW):Prop where
 to:dS x.to
 a:dS x.a
 b:dS x.b
 n:dS x.n
 args:∀ r∈x.args,dS r
 len:x.args.length<=1200
theorem tO{l:List Int}{r:Int}(hl:l.length<=1200)(h:jl l r):dS r:=by unfold jl at h;unfold dS;omega
theorem eF:dS 0:=by unfold dS;omega
theorem lJ{l:List Int}(h:l.length=0):(∀ r∈l,dS r)/\l.length<=1200:=by
 cases l with
 |nil=>exact⟨oS,oS⟩
 |cons a l=>simp at h
theorem Je{l:List Int}{r want of:Int}(hl:l.length<=1200)(h:o4 l r want of=true):dS r:=by
 by_cases C:want=0
 .unfold o4 at h;rw[if_pos C] at h;have:r=0:=by simpa using h
  rw[this];exact eF
 .exact tO hl (Fj h C)
theorem YC:(n7++ni).all (fun x=>decide (-1000000000<=x.2.low)&&decide (x.2.high<=1000000000))=true:=by decide
theorem Pz{l:List Int}{x:cW}{s:Shape}(hl:l.length<=1200)(hm:(x.op,s)∈n7\/(x.op,s)∈ni)(h:vq l x s=true):xN x:=by
 have hs:=bS.1 YC (x.op,s) (List.mem_append.2 hm);simp only[bf,decide_eq_true_eq] at hs;unfold vq at h;simp only[bf] at h;obtain⟨h1,h2,M,C,U⟩:=h;have hn:dS x.n:=by have:=kU.1 U;unfold dS;omega
 have J:(∀ r∈x.args,dS r)/\x.args.length<=1200:=by
  unfold wZ at C;split at C
  .rw[bf] at C;have:=kU.1 C.1;exact⟨fun r hr=>tO hl (tw C.2 r hr),oG⟩
  .split at C
   .rw[bf] at C;have:(x.args.length:Int)=1:=by simpa using C.1
    exact⟨fun r hr=>tO hl (tw C.2 r hr),oG⟩
   .exact lJ (by have:(x.args.length:Int)=0:=by simpa using C
                 omega)
 exact⟨Je hl h1,Je hl h2,Je hl M,hn,J.1,J.2⟩
theorem aac{f:al}{b:Int}{ahead:Nat}{x:cW}{phis:Bool}(hl:f.aT.length<=1200)(hs:∀ k∈f.cm,k≠0)(mP:f.cm.length<=60)(ha:ahead<=1200)(h:k6 f b x phis ahead=true):xN x:=by
 unfold k6 at h;have J:tU x=true->(∀ r∈x.args,dS r)/\x.args.length<=1200:=fun h=>lJ (by unfold tU at h;simp at h;simp[h]);split at h
 .simp only[bf,gQ] at h;obtain⟨h1,h2,C,M,h5⟩:=h;exact⟨by rw[h1];exact eF,tO hl (ke oG),by rw[C];exact eF,by rw[M];exact eF,(J h5).1,(J h5).2⟩
 split at h
 .simp only[bf,gQ] at h;obtain⟨h1,h2,C,M⟩:=h;obtain⟨X,g2,U⟩:=Fz hs M;exact⟨tO hl X,by rw[h1];exact eF,by rw[h2];exact eF,by unfold dS;omega,(J C).1,(J C).2⟩
 split at h
 .simp only[bf,gQ] at h;obtain⟨h1,h2,C,M⟩:=h;obtain⟨X,g2,U⟩:=Fz hs M;exact⟨by rw[h1];exact eF,tO hl X,by rw[h2];exact eF,by unfold dS;omega,(J C).1,(J C).2⟩
 split at h
 .simp only[bf,gQ] at h;obtain⟨_,_,U,g4,g5,g6,g7,g8⟩:=h;have hk:dy f.aT x.to≠0:=fun e=>by simp[n6,e] at U
  refine⟨tO hl (rR U),by rw[g4];exact eF,by rw[g5];exact eF,by rw[g6];exact eF,fun r hr=>?_,oG⟩
  have:dt (dy f.aT r) (dy f.aT x.to)=true:=by
   simp only[Bool.not_eq_true',List.any_eq_false] at g8;simpa using g8 r hr
  rw[gQ] at this;exact tO hl (ke (by rw[this];exact hk))
 .rw[bf] at h;cases mf:jz n7 x.op with
  |none=>rw[mf] at h;simp at h
  |some s=>rw[mf] at h;exact Pz hl (.inl (BX mf)) h.2
abbrev bW(w:ByteArray):W8:=w.data.toList
theorem ac0(s:ByteArray):∀ (n i:Nat) (r:List UInt8),s.size - i=n->ByteArray.toList.loop s i r=r.reverse++s.data.toList.drop i:=by
 intro n
 induction n with
 |zero=>
  intro i r h;unfold ByteArray.toList.loop;rw[if_neg oG,List.drop_eq_nil_of_le (by show s.data.size<=i;have:s.size=s.data.size:=rfl;omega)];simp
 |succ n ih=>
  intro i r h;unfold ByteArray.toList.loop;rw[if_pos oG,ih (i+1) _ oG];have hi:i<s.data.toList.length:=by show i<s.data.size;have:s.size=s.data.size:=rfl;omega
  have h2:i<s.data.size:=hi;rw[List.drop_eq_getElem_cons hi]
  have:s.get! i=s.data.toList[i]:=by
   show s.data[i]! =_;rw[getElem!_pos s.data i h2];rfl
  rw[this];simp
theorem qF(s:ByteArray):s.toList=s.data.toList:=by
 unfold ByteArray.toList;rw[ac0 s _ 0 [] rfl];simp
theorem vB{a b:ByteArray}(h:bW a=bW b):a=b:=by
 obtain⟨⟨l⟩⟩:=a;obtain⟨⟨m⟩⟩:=b;simp at h;simp[h]
def jb(w:ByteArray):Prop:=w.size<=120/\xM (bW w)
theorem EG{s:ByteArray}{c:UInt8}(h:c∈bW s):(c.toNat:Int)∈qH s:=List.mem_map_of_mem (f:=fun c=>(c.toNat:Int)) h
theorem Kh{s:ByteArray}(h:n5 s=true):jb s:=by
 unfold n5 at h;simp only[bf,Bool.not_eq_true',List.any_eq_false] at h;have h1:=kU.1 h.1;refine⟨oG,fun hc=>?_,fun hc=>?_⟩
 .exact absurd (h.2 _ (EG hc)) oC
 .exact absurd (h.2 _ (EG hc)) oC
theorem Ki{s:ByteArray}(h:isName s=true):jb s:=by
 unfold isName at h;simp only[bf,Bool.not_eq_true',List.any_eq_false] at h;have h1:=kU.1 h.1;refine⟨oG,fun hc=>?_,fun hc=>?_⟩
 .exact absurd (h.2 _ (EG hc)) oC
 .exact absurd (h.2 _ (EG hc)) oC
theorem Av{s:ByteArray}(h:s.toList=[]):jb s:=by
 rw[qF] at h;refine⟨?_,?_⟩
 .have:s.size=(bW s).length:=rfl;rw[this];unfold bW;rw[h];simp
 .unfold bW;rw[h];simp[xM]
structure KM(x:End):Prop where
 kind:1<=x.kind/\x.kind<=9
 a:dS x.a
 b:dS x.b
 to:dS x.to
 gN:dS x.gN
 others:dS x.others
 args:∀ r∈x.args,dS r
 len:x.args.length<=1200
 ins:xN x.ins
 aR:x.aR.length<=7
 wh:∀ w∈x.aR,dS w.to/\isName w.name=true
 name:jb x.name
theorem abP{x:End}(h:vU x=true):(x.kind=0/\x.a=0/\x.b=0/\x.to=0/\x.gN=0/\x.others= -1)/\x.args.length=0/\x.aR.length=0/\x.name.toList=[]/\xN x.ins:=by
 simp only[vU,bf,decide_eq_true_eq,Gs,beq_iff_eq] at h;obtain⟨h1,h2,h3,h4,h5,h6,h7,h8,h9,Wg,C,U,J,M,X⟩:=h;have:=lJ (l:=x.ins.args) oG;exact⟨⟨h1,h2,h3,h4,h5,h7⟩,oG,oG,h6,by rw[C];exact eF,by rw[U];exact eF,by rw[J];exact eF,by rw[M];exact eF,this.1,this.2⟩
theorem XA{f:al}{x:End}(hb:f.blocks.length<=1200)(h:nX f x=true):x.aR.length<=7/\(∀ w∈x.aR,dS w.to/\isName w.name=true)/\dS x.others:=by
 obtain⟨h1,h2,J⟩:=EO h;refine⟨h1,fun w C=>⟨by have:=h2 w C;unfold dS;omega,?_⟩,?_⟩
 .unfold nX at h;rw[bf] at h;obtain⟨i,hi⟩:=eS C;have:=bS.1 h.1 (w,i) (List.mem_zipIdx_iff_getElem?.2 hi);simp only[q7,bf] at this;exact this.1
 .by_cases h0:0<=x.others
  .have:=J h0;unfold dS;omega
  .unfold nX at h;rw[bf,bf,Bool.or_eq_true] at h;rcases h.2.2 with h|h
   .have:x.others= -1:=by simpa using h
    unfold dS;omega
   .rw[eh,kU] at h;unfold dS;omega
theorem aad{f:al}{x:End}(hl:f.aT.length<=1200)(mU:f.blocks.length<=1200)(hr:vg f=true)(h:jh f x=true):KM x:=by
 have X:∀ {r:Int},jl f.aT r->dS r:=fun h=>tO hl h;unfold jh at h;rw[bf] at h;obtain⟨h,hb⟩:=h;have hb:=abP hb;have U:∀ {t:Int},eh f t=true->dS t:=fun h=>by rw[eh,kU] at h;unfold dS;omega
 have wW:dS (-1):=by unfold dS;omega
 have hh:=XA (x:=x) mU;obtain⟨kind,a,b,to,gN,name,ins,args,aR,others⟩:=x;simp only[eD] at h hb;by_cases h1:kind=1
 .subst h1;simp only[if_true] at h hb;obtain⟨⟨b1,b2,b3,b4,b5,b6⟩,b7,b8,b9,ly⟩:=hb;have M:aR=[]:=List.length_eq_zero_iff.1 b8;subst M b2 b3 b5 b6;exact⟨(⟨oC,oC⟩:(1:Int)<=1/\(1:Int)<=9),eF,eF,U h,eF,wW,(lJ b7).1,(lJ b7).2,ly,oS,oS,Av b9⟩
 by_cases h2:kind=2
 .subst h2;simp only[Int.reduceEq,if_false,if_true,bf,gQ] at h hb;obtain⟨⟨b1,b2,b3,b4,b5,b6⟩,b7,b8,b9,ly⟩:=hb;have M:aR=[]:=List.length_eq_zero_iff.1 b8;subst M b3 b6;exact⟨(⟨oC,oC⟩:(1:Int)<=2/\(2:Int)<=9),X (ke (l:=f.aT) (r:=a) oG),eF,U h.2.1,U h.2.2,wW,(lJ b7).1,(lJ b7).2,ly,oS,oS,Av b9⟩
 by_cases C:kind=3
 .subst C;simp only[Int.reduceEq,if_false,if_true] at h hb;obtain⟨⟨b1,b2,b3,b4,b5,b6⟩,b7,b8,b9,ly⟩:=hb;have M:aR=[]:=List.length_eq_zero_iff.1 b8;subst M b3 b4 b5 b6;refine⟨(⟨oC,oC⟩:(1:Int)<=3/\(3:Int)<=9),?_,eF,eF,eF,wW,(lJ b7).1,(lJ b7).2,ly,oS,oS,Av b9⟩;split at h
  .rename_i hc;rw[gQ] at h;exact X (ke (by rw[h];exact hc.1))
  .rw[gQ] at h;show dS a;rw[h];exact wW
 by_cases J:kind=4
 .subst J;simp only[Int.reduceEq,if_false,if_true] at h hb;obtain⟨⟨b1,b2,b3,b4,b5,b6⟩,b7,b8,b9,ly⟩:=hb;have M:aR=[]:=List.length_eq_zero_iff.1 b8;subst M b2 b3 b4 b5 b6;exact⟨(⟨oC,oC⟩:(1:Int)<=4/\(4:Int)<=9),eF,eF,eF,eF,wW,(lJ b7).1,(lJ b7).2,ly,oS,oS,Ki h⟩
 by_cases h5:kind=5
 .subst h5;simp only[Int.reduceEq,if_false,if_true,bf] at h hb;obtain⟨⟨b1,b2,b3,b4,b5,b6⟩,b7,b8,b9,ly⟩:=hb;obtain⟨h1,h2,C,J⟩:=h;obtain⟨g1,g2,g3⟩:=hh J;subst b2 b3 b5;refine⟨(⟨oC,oC⟩:(1:Int)<=5/\(5:Int)<=9),eF,eF,U C,eF,g3,(lJ b7).1,(lJ b7).2,?_,g1,g2,Av b9⟩;cases mf:jz ni ins.op with
  |none=>rw[mf] at h1;simp at h1
  |some s=>rw[mf] at h2;exact Pz hl (.inr (BX mf)) h2
 by_cases h6:kind=6
 .subst h6;simp only[Int.reduceEq,if_false,if_true,bf,decide_eq_true_eq,Bool.or_eq_true,gQ] at h hb;obtain⟨⟨b1,b2,b3,b4,b5,b6⟩,b7,b8,b9,ly⟩:=hb;obtain⟨h1,h2,C,J,h5,h6⟩:=h;obtain⟨g1,g2,g3⟩:=hh h6;subst b3 b5;refine⟨(⟨oC,oC⟩:(1:Int)<=6/\(6:Int)<=9),?_,eF,U h5,eF,g3,fun r hr=>X (tw C r hr),?_,ly,g1,g2,Kh h1⟩
  .show dS a;rcases J with rfl|J
   .exact wW
   .exact X (rR J)
  .show args.length<=1200;omega
 by_cases h7:kind=7
 .subst h7;simp only[Int.reduceEq,if_false,if_true,bf,decide_eq_true_eq,gQ] at h hb;obtain⟨⟨b1,b2,b3,b4,b5,b6⟩,b7,b8,b9,ly⟩:=hb;obtain⟨h1,h2,C,J,h5⟩:=h;have M:aR=[]:=List.length_eq_zero_iff.1 b8;subst M b3 b5 b6;refine⟨(⟨oC,oC⟩:(1:Int)<=7/\(7:Int)<=9),X (ke (l:=f.aT) (r:=a) oG),eF,U h5,eF,wW,fun r hr=>X (tw C r hr),?_,ly,oS,oS,Kh h1⟩;show args.length<=1200;omega
 by_cases h8:kind=8
 .subst h8;simp only[Int.reduceEq,if_false,if_true,bf,gQ] at h hb;obtain⟨⟨b1,b2,b3,b4,b5,b6⟩,b7,b8,b9,ly⟩:=hb;obtain⟨h1,h2,C,J,h5⟩:=h;obtain⟨g1,g2,g3⟩:=hh h5;exact⟨(⟨oC,oC⟩:(1:Int)<=8/\(8:Int)<=9),X (ke (l:=f.aT) (r:=a) oG),X (rR h2),U C,U J,g3,(lJ b7).1,(lJ b7).2,ly,g1,g2,Av b9⟩
 by_cases h9:kind=9
 .subst h9;simp only[Int.reduceEq,if_false,if_true,bf,gQ] at h hb;obtain⟨⟨b1,b2,b3,b4,b5,b6⟩,b7,b8,b9,ly⟩:=hb;obtain⟨h1,h2,C⟩:=h;have M:aR=[]:=List.length_eq_zero_iff.1 b8;subst M b3 b5 b6;refine⟨(⟨oC,oC⟩:(1:Int)<=9/\(9:Int)<=9),X (ke (l:=f.aT) (r:=a) ?_),eF,U C,eF,wW,(lJ b7).1,(lJ b7).2,ly,oS,oS,Av b9⟩;rw[h2];intro e;simp[vg,e,h1] at hr
 .simp only[h1,h2,C,J,h5,h6,h7,h8,h9,if_false] at h;cases h
def eC(b:bx):Bool:=decide (b.fin.kind=6)||decide (b.fin.kind=7)
def bV(bs:List bx):List ByteArray:=(bs.filter eC).map (·.fin.name)
theorem Iq(bs:List bx)(b:bx):bV (bs++[b])=bV bs++if eC b then [b.fin.name] else []:=by
 unfold bV;rw[List.filter_append,List.map_append];cases h:eC b<;>simp[h]
theorem tk(bs:List bx):(bV bs).length<=bs.length:=by
 unfold bV;rw[List.length_map];exact List.length_filter_le _ _
end Go.Argus
end
namespace Go.Argus
open Go Go.Abs
def Ke(l:List Int):Prop:=∀ (i j:Nat) x y,i<=j->l[i]? =some x->l[j]? =some y->x<=y
def akl(l:List Int)(j k:Nat):Prop:=(∀ p q,p<q->q<=k->p≠j->q≠j->l.getD p 0<=l.getD q 0)/\∀ q,j<q->q<=k->l.getD j 0<=l.getD q 0
def UZ(l:List Int)(k:Nat):Prop:=∀ p q,p<=q->q<=k->l.getD p 0<=l.getD q 0
theorem Qb{l:List Int}{j:Nat}(h:j+1<l.length)(i:Nat):(swapAt l j).getD i 0=if i=j then l.getD (j+1) 0 else if i=j+1 then l.getD j 0 else l.getD i 0:=by
 unfold swapAt;simp only[dx,List.getElem?_set,List.length_set];by_cases e:j=i
 .subst e;rw[if_pos rfl,if_pos rfl,if_pos oG];rfl
 .rw[if_neg e,if_neg (show ¬ i=j from fun h=>e h.symm)];by_cases e2:j+1=i
  .subst e2;rw[if_pos rfl,if_pos rfl,if_pos h];rfl
  .rw[if_neg e2,if_neg (show ¬ i=j+1 from fun h=>e2 h.symm)]
theorem R7{k:Nat}:∀ {j:Nat} {l:List Int},j<=k->k<l.length->akl l j k->UZ (ow l j) k
 |0,l,_,_,h=>fun p q C hq=>by
  rw[ow];rcases Nat.lt_or_ge p q with g|g
  .by_cases hp:p=0
   .subst hp;exact h.2 q g hq
   .exact h.1 p q g hq hp oG
  .have:p=q:=by omega
   subst this;exact Int.le_refl _
 |j+1,l,hj,hk,h=>by
  rw[ow];split
  .rename_i af;have hs:=Qb (l:=l) (j:=j) oG;refine R7 oG (by simpa using hk) ⟨fun p q C hq hp M=>?_,fun q hq J=>?_⟩
   .rw[hs,hs,if_neg hp,if_neg M];by_cases e1:p=j+1
    .rw[if_pos e1,if_neg oG];exact h.1 j q oG hq oG oG
    .rw[if_neg e1];by_cases e2:q=j+1
     .rw[if_pos e2];exact h.1 p j oG oG e1 oG
     .rw[if_neg e2];exact h.1 p q C hq e1 e2
   .rw[hs,hs,if_pos rfl,if_neg oG];by_cases e2:q=j+1
    .rw[if_pos e2];omega
    .rw[if_neg e2];exact h.2 q oG J
  .rename_i U;intro p q C hq;rcases Nat.lt_or_ge p q with g|g
   .by_cases e1:p=j+1
    .subst e1;exact h.2 q g hq
    .by_cases e2:q=j+1
     .subst e2;by_cases e3:p=j
      .subst e3;omega
      .have:=h.1 p j oG oG oG oG;omega
     .exact h.1 p q g hq e1 e2
   .have:p=q:=by omega
    subst this;exact Int.le_refl _
theorem Q9{i:Nat}:∀ {j:Nat} {l:List Int},j<i->j<l.length->(ow l j).getD i 0=l.getD i 0
 |0,l,_,_=>rfl
 |j+1,l,h,hl=>by
  rw[ow];split
  .rw[Q9 oG oP,Qb oG,if_neg oG,if_neg oG]
  .rfl
theorem Ra{l:List Int}:∀ k,k<l.length->UZ (mD l k) k/\∀ i,k<i->(mD l k).getD i 0=l.getD i 0
 |0,_=>⟨fun p q C hq=>by
  have:p=q:=by omega
  subst this;exact Int.le_refl _,fun _ _=>rfl⟩
 |k+1,hk=>by
  obtain⟨h1,h2⟩:=Ra (l:=l) k oG;rw[mD];refine⟨R7 (a8 _) (by simpa using hk) ⟨fun p q C hq hp J=>h1 p q oG oG,fun q hq J=>by omega⟩,fun i hi=>?_⟩;rw[Q9 hi oP];exact h2 i oG
theorem W5(l:List Int):Ke (nt l):=fun i j x y C hx hy=>by
 obtain⟨hj,J⟩:=bK.1 hy;have hl:(nt l).length=l.length:=PT l;have h:=(Ra (l:=l) (l.length - 1) oG).1 i j C oG;have e:mD l (l.length - 1)=nt l:=rfl;rw[e,dx,dx,hx,hy] at h;exact h
theorem SP{d:List Int}(hs:Ke d):∀ t,t<=d.length->(ff d t).Pairwise (·<·)/\(0<t->∀ x∈ff d t,x<=d.getD (t - 1) 0)
 |0,_=>⟨by simp[ff],fun h=>absurd h (Nat.lt_irrefl 0)⟩
 |t+1,ht=>by
  obtain⟨h1,h2⟩:=SP hs t oG
  have hg:∀ i,i<d.length->d[i]? =some (d.getD i 0):=fun i hi=>by
   have:=aU hi;rw[dx,this];rfl
  have C:∀ x∈ff d t,x<=d.getD t 0:=fun x hx=>by
   have h0:0<t:=by
    cases t with
    |zero=>simp[ff] at hx
    |succ t=>omega
   have a:=h2 h0 x hx;have b:=hs (t - 1) t _ _ oG (hg _ oG) (hg _ oG);omega
  rw[ff];split
  .rw[List.append_nil];exact⟨h1,fun _ x hx=>by rw[Nat.add_sub_cancel];exact C x hx⟩
  .rename_i J;refine⟨?_,fun _ x hx=>?_⟩
   .rw[List.pairwise_append];refine⟨h1,oS,fun x hx y hy=>?_⟩;rw[List.mem_singleton] at hy;subst hy
    have h0:0<t:=by
     cases t with
     |zero=>simp[ff] at hx
     |succ t=>omega
    have a:=h2 h0 x hx;have b:=hs (t - 1) t _ _ oG (hg _ oG) (hg _ oG);have c:d.getD t 0≠d.getD (t - 1) 0:=fun e=>J ⟨oG,e⟩;omega
   .rw[Nat.add_sub_cancel];rw[List.mem_append,List.mem_singleton] at hx;rcases hx with hx|hx
    .exact C x hx
    .rw[hx];exact Int.le_refl _
theorem Xy{d:List Int}(hs:Ke d):(mZ d).Pairwise (·<·):=(SP hs _ (a8 _)).1
theorem Z7(x:End):(Go.Proofs.Tryz.K.nextR x).Pairwise (·<·):=Xy (W5 _)
theorem Yw{b:Nat}:∀ (l:List Int) (L:Nat->List Int),l.Pairwise (·<·)->(∀ t∈l,0<=t)->(∀ i,(L i).Pairwise (·<·)/\∀ x∈L i,x<(b:Int))->
 ∀ i,(l.foldl (jB b) L i).Pairwise (·<·)/\(∀ x∈l.foldl (jB b) L i,x<(b:Int)+1):=fun l=>by
 have key:∀ (l:List Int) (L:Nat->List Int),l.Pairwise (·<·)->(∀ t∈l,0<=t)->∀ i,l.foldl (jB b) L i=L i++(if(i:Int)∈l then [(b:Int)] else []):=fun l=>by
  induction l with
  |nil=>intro L _ _ i;simp
  |cons t l ih=>
   intro L hp h0 i;rw[List.pairwise_cons] at hp;have ht:=h0 t oS;obtain⟨C,rfl⟩:=kL ht;rw[List.foldl_cons,ih _ hp.2 (fun t h=>h0 t (by simp[h]))];unfold jB;simp only[kK,up];by_cases e:i=C
   .subst e;rw[if_pos rfl,if_neg (fun h=>by have:=hp.1 _ h;omega),if_pos oS,List.append_nil]
   .rw[if_neg e];congr 1;have:¬ (i:Int)=C:=by omega
    simp[this]
 intro L hp h0 J i;rw[key l L hp h0 i];obtain⟨h1,h2⟩:=J i;split
 .refine⟨?_,fun x hx=>?_⟩
  .rw[List.pairwise_append];exact⟨h1,oS,fun x hx y hy=>by rw[List.mem_singleton] at hy;rw[hy];exact h2 x hx⟩
  .rw[List.mem_append,List.mem_singleton] at hx;rcases hx with hx|hx
   .have:=h2 x hx;omega
   .omega
 .rw[List.append_nil];exact⟨h1,fun x hx=>by have:=h2 x hx;omega⟩
theorem Pt{bs:List bx}(h0:∀ b∈bs,∀ t∈Go.Proofs.Tryz.K.nextR b.fin,0<=t):∀ k i,(dj bs k i).Pairwise (·<·)/\∀ x∈dj bs k i,x<(k:Int)
 |0,i=>by simp[dj]
 |k+1,i=>by
  have ih:=Pt h0 k;have e:dj bs (k+1)=pI bs (dj bs k) k:=by rw[dj,List.range_succ,List.foldl_append];rfl
  rw[e];unfold pI;cases hx:bs[k]? with
  |none=>exact⟨(ih i).1,fun x hx=>by have:=(ih i).2 x hx;omega⟩
  |some b=>
   obtain⟨h1,h2⟩:=Yw (b:=k) (Go.Proofs.Tryz.K.nextR b.fin) (dj bs k) (Z7 _) (h0 b (bD hx)) ih i;exact⟨h1,fun x hx=>by have:=h2 x hx;omega⟩
theorem R8:∀ {l:List Int} {a k:Nat},l.Pairwise (·<·)->(∀ x∈l,(a:Int)<=x/\x<(k:Int))->l.length<=k - a
 |[],_,_,_,_=>Nat.zero_le _
 |x::l,a,k,hp,h=>by
  rw[List.pairwise_cons] at hp;have hx:=h x oS;obtain⟨C,rfl⟩:=kL (show 0<=x by omega)
  have:=R8 (l:=l) (a:=C+1) (k:=k) hp.2 fun y hy=>by
   have:=hp.1 y hy;have:=h y (by simp[hy]);omega
  rw[List.length_cons];omega
end Go.Argus
section
open Go Go.Abs Go.Proofs Go.Argus
namespace Go.Proofs.Tryz.K
theorem QH{σ:D->D}(h:∀ n,sub σ (.s n)=.s n)(l:List ByteArray):(l.map S).map (sub σ)=l.map S:=by
 rw[List.map_map];exact List.map_congr_left fun c _=>h _
theorem Nb{f:al}(c8:f.blocks.length<=1000000):aA prog 65 [.agg (aM f)] (bI (bV f.blocks)):=by
 refine bj aib (.cons (.agg (kQ f)) .nil) (fS _) ?_;rw[aic];refine aw ?_;refine ab ?_;refine aa (bG (dB [(0,aM f,48)] eH (l:=[(1,.pt (aM f))]) eH) (aw ?_));refine SS ?_;refine aa ⟨_,.o0 _ _ _ 3 9 rfl,aB (aw ?_)⟩;refine aZ ?_
 refine aa (bY (fun s=>∃ r nx,aI prog s ⟨ay [(3,.rs r 0 (bV f.blocks).length)],a7 [(r,.cells ((bV f.blocks).map S) 9)],nx⟩) (cy (α:=Nat×Nat×Nat)
  (fun s=>⟨ay [(3,.rs s.2.1 0 (bV (f.blocks.take s.1)).length),(7,cF f.blocks),(8,I f.blocks.length),(9,I s.1)],a7 [(s.2.1,.cells ((bV (f.blocks.take s.1)).map S) 9)],s.2.2⟩)
  (fun s=>s.1<=f.blocks.length/\s.2.1<s.2.2) (fun s=>f.blocks.length - s.1) (0,1,2)
  (bQ eH eH) ⟨Nat.zero_le _,oC⟩ ?_) ?_)
 .rintro⟨k,r,nx⟩ ⟨hk,hr⟩;dsimp only at hk hr ⊢;refine SS ?_;refine aa ⟨_,rfl,fun h=>?_,fun h=>?_⟩
  .have af:k<f.blocks.length:=by simpa using h
   clear h;obtain⟨b,hb⟩:∃ b,f.blocks[k]? =some b:=⟨_,aU af⟩
   have C:bV (f.blocks.take (k+1))=bV (f.blocks.take k)++if eC b then [b.fin.name] else []:=by
    rw[List.take_add_one,hb, <- Iq];rfl
   have pq:(bV (f.blocks.take k)).length<=1000000:=by
    have:=tk (f.blocks.take k);have:(f.blocks.take k).length<=f.blocks.length:=List.length_take_le' _ _;omega
   have M:eC b=(decide (b.fin.kind=6)||decide (b.fin.kind=7)):=rfl;generalize bV (f.blocks.take k)=cs at*
   have J:a7 [(r,Row.cells (cs.map S) 9)] r=some (.cells (cs.map S) 9):=by simp[a7]
   refine aw ?_;refine aZ ?_;refine aa ⟨_,oR (i:=nx) (cs:=bH b) (e:=59) (ah _ _ _) (l:=[(3,.rs r 0 cs.length),(7,cF f.blocks),(8,I f.blocks.length),(9,I k),(5,.pt (bH b))]) ⟨xe oG,rfl,rfl,rfl,lE,trivial⟩ (ml:=[(r,.cells (cs.map S) 9)]) ⟨J2 oG (ag oG (ag oG J)) (congrArg (Row.cells · 9) (QH (fun _=>rfl) cs)),trivial⟩,aj ?_⟩;refine dG ?_;refine ab ?_;have ap:=J;refine aa (aO rfl (fun hp=>?_) fun hp=>?_)
   .have hc:eC b=true:=by
     rw[M];revert hp;cases U:(b.fin.kind==6)<;>simp_all
    rw[if_pos hc] at C;refine jP ?_;refine iu ?_;refine aa ?_;show aq prog cZ (Z o3 7) false [] _ (Z o3 7).toList _ [];refine ab ?_;refine aa (bg (k+1,nx+1+1,nx+1+1+1) ?_ ⟨oM,?_⟩ oM)
    .dsimp only;rw[C];refine bQ ⟨?_,rfl,rfl,rfl,trivial⟩ ⟨(ah _ _ _).trans (by simp;rfl),trivial⟩;rw[List.length_append];rfl
    .dsimp only;omega
   .have hc:eC b=false:=by
     rw[M];revert hp;cases U:(b.fin.kind==6)<;>simp_all
    rw[hc,if_neg oS,List.append_nil] at C;refine cT ?_;refine ab ?_;refine aa (bg (k+1,r,nx+1) ?_ ⟨oM,?_⟩ oM)
    .dsimp only;rw[C];exact av eH
    .dsimp only;omega
  .have X:¬ k<f.blocks.length:=by simpa using h
   have:k=f.blocks.length:=by omega
   subst this;rw[List.take_length];exact⟨r,nx,av eH⟩
 .rintro s ⟨r,nx,hg⟩;refine⟨_,hg,aw ?_⟩;refine ab ?_;refine aa (bG (eT (i:=r) (cs:=(bV f.blocks).map S) (e:=9) (by simp[a7]) (l:=[(2,bI (bV f.blocks))]) ⟨?_,trivial⟩) (aF rfl rfl));exact(iJ (by rw[c9];simp)).trans oS
theorem Iu{P:Program}{Y:ea}{rf:Bool}{Q:Exit->St->Prop}{st:St}{b:Code}{c:Operand}{x y:Code}(hc:opd st.env c=.ub)(ht:AW P Y rf (.seq x b) Q st)(hf:AW P Y rf (.seq y b) Q st):AW P Y rf (.seq (.cond c x y) b) Q st:=RM hc ht hf
theorem Vt{l:List Int}(hl:l.length<=1000000):aA prog 91 [iK l] (iK l):=by
 refine bj aid (.cons (oW l) .nil) (oW l) ?_;rw[aie];refine ws ?_;refine SS ?_;cases l with
 |nil=>
  refine aa (aB (aj ?_));refine au (cV (v:=.sl [] 0) rfl) aK trivial ?_;refine au (Gn rfl) aK A2 ?_;refine aa (Iu rfl (aB (aw ?_)) (cI (aw ?_)))
  .refine SS ?_;exact aa (bG (xc (n0:=2) rfl) (ed (aF rfl rfl)))
  .have C:(([]:List Int).map U8).take (0*1)=[]:=rfl;refine ab ?_;refine iC (iw rfl rfl rfl HR c5 (px C) rfl) aK ⟨A2,rfl,oS,oC,rfl,oC,oC,oS⟩ ?_;refine SS ?_;refine aa (bG (eT (i:=1) rfl (l:=[(2,iK [])]) ⟨?_,trivial⟩) (aF rfl rfl));exact(iJ (by simp[c5])).trans oS
 |cons x J=>
  have M:(x::J).length≠0:=by simp
  generalize x::J=l at*
  have C:(l.map U8).take (l.length*1)=l.map U8:=df oS;refine aa (aB (aj ?_));refine au (cV (v:=.sl _ _) rfl) aK trivial ?_;refine au (Gp rfl M) aK A2 ?_;refine aa (uc (cI (aw ?_)));refine ab ?_;refine iC (iw rfl rfl rfl HR c5 (px C) rfl) aK ⟨A2,rfl,oS,oC,rfl,by unfold maxLen;omega,by rw[b5];omega,oS⟩ ?_;refine SS ?_;refine aa (bG (eT (i:=1) rfl (l:=[(2,iK l)]) ⟨?_,trivial⟩) (aF rfl rfl));exact(iJ (by simp[c5])).trans oS
theorem Nd{l:List ByteArray}(hl:l.length<=1000000):aA prog 92 [bI l] (bI l):=by
 refine bj aif (.cons (fS l) .nil) (fS l) ?_;rw[aih];refine ws ?_;refine SS ?_;cases l with
 |nil=>
  refine aa (aB (aj ?_));refine au (cV (v:=.sl [] 0) rfl) aK trivial ?_;refine au (Gn rfl) aK ln ?_;refine aa (Iu rfl (aB (aw ?_)) (cI (aw ?_)))
  .refine SS ?_;exact aa (bG (xc (n0:=2) rfl) (ed (aF rfl rfl)))
  .have C:(([]:List ByteArray).map S).take (0*1)=[]:=rfl;refine ab ?_;refine iC (iw rfl rfl rfl rE c9 (px C) rfl) aK ⟨ln,rfl,oS,oC,rfl,oC,oC,oS⟩ ?_;refine SS ?_;refine aa (bG (eT (i:=1) rfl (l:=[(2,bI [])]) ⟨?_,trivial⟩) (aF rfl rfl));exact(iJ (by simp[c9])).trans oS
 |cons x J=>
  have M:(x::J).length≠0:=by simp
  generalize x::J=l at*
  have C:(l.map S).take (l.length*1)=l.map S:=df oS;refine aa (aB (aj ?_));refine au (cV (v:=.sl _ _) rfl) aK trivial ?_;refine au (Gp rfl M) aK ln ?_;refine aa (uc (cI (aw ?_)));refine ab ?_;refine iC (iw rfl rfl rfl rE c9 (px C) rfl) aK ⟨ln,rfl,oS,oC,rfl,by unfold maxLen;omega,by rw[b9];omega,oS⟩ ?_;refine SS ?_;refine aa (bG (eT (i:=1) rfl (l:=[(2,bI l)]) ⟨?_,trivial⟩) (aF rfl rfl));exact(iJ (by simp[c9])).trans oS
theorem Nf{l:List iR}(hl:l.length<=1000000):aA prog 94 [lB l] (lB l):=by
 refine bj aii (.cons (jd l) .nil) (jd l) ?_;rw[aij];refine ws ?_;refine SS ?_;cases l with
 |nil=>
  refine aa (aB (aj ?_));refine au (cV (v:=.sl [] 0) rfl) aK trivial ?_;refine au (Gn rfl) aK DF ?_;refine aa (Iu rfl (aB (aw ?_)) (cI (aw ?_)))
  .refine SS ?_;exact aa (bG (xc (n0:=2) rfl) (ed (aF rfl rfl)))
  .have C:(([]:List iR).flatMap gR).take (0*2)=[]:=rfl;refine ab ?_;refine iC (iw rfl rfl rfl Ng HS (px C) rfl) aK ⟨DF,rfl,oS,oC,rfl,oC,oC,oS⟩ ?_;refine SS ?_;refine aa (bG (eT (i:=1) (cs:=[]) rfl (l:=[(2,lB [])]) ⟨?_,trivial⟩) (aF rfl rfl));exact iJ (sz:=2) rfl
 |cons x M=>
  have J:(x::M).length≠0:=by simp
  generalize x::M=l at*
  have C:(l.flatMap gR).take (l.length*2)=l.flatMap gR:=by rw[B' (f:=gR) (sz:=2) (fun _=>rfl),List.take_length]
  have U:(l.flatMap gR).length=l.length*2:=by clear C J;induction l with|nil=>rfl|cons x l ih=>rw[List.flatMap_cons,List.length_append,ih (by simp at hl;omega),List.length_cons];show 2+l.length*2=_;omega
  refine aa (aB (aj ?_));refine au (cV (v:=.sl _ _) rfl) aK trivial ?_;refine au (Gp rfl J) aK DF ?_;refine aa (uc (cI (aw ?_)));refine ab ?_;refine iC (iw rfl rfl rfl Ng HS (px C) rfl) aK ⟨DF,rfl,Nat.le_of_eq U.symm,oC,rfl,by unfold maxLen;omega,by rw[Vu];omega,oS⟩ ?_;refine SS ?_;refine aa (bG (eT (i:=1) (cs:=l.flatMap gR) rfl (l:=[(2,lB l)]) ⟨?_,trivial⟩) (aF rfl rfl));exact(iJ (by rw[HS,Nat.zero_add];exact U)).trans (by rw[Nat.zero_add];rfl)
end Go.Proofs.Tryz.K
namespace Go.Argus
structure Aw(b:bx):Prop where
 len:b.ins.length<=200
 ins:∀ x∈b.ins,xN x
 fin:KM b.fin
structure qR(f:al):Prop where
 name:jb f.name
 args:i64 f.args
 aT:f.aT.length<=1200
 cm:f.cm.length<=60
 sigs:f.signals.length<=6
 sig:∀ s∈f.signals,isName s=true
 j4:f.blocks.length<=1200
 bF:∀ b∈f.blocks,Aw b
theorem tH{f:al}(h:nb f=true):qR f:=by
 have C:=KI h;unfold nb at h;simp only[bf] at h;obtain⟨h1,h2,h3,U,h5⟩:=h;unfold tL at h1;simp only[bf] at h1;unfold xq at h2;simp only[bf,Bool.not_eq_true',decide_eq_false_iff_not,List.any_eq_false] at h2;refine⟨Kh h1.1,by have:=C.args;unfold i64;omega,C.aT,C.cm.2,oG,fun s hs=>by simpa using h2.2.2.2.2 s hs,C.j4,fun b hb=>?_⟩;obtain⟨k,hk⟩:=eS hb;have X:k<f.blocks.length:=(bK.1 hk).1;have he:=bS.1 U k (List.mem_range.2 X);unfold lH at he;rw[getD_some hk] at he;simp only[bf,Bool.not_eq_true',decide_eq_false_iff_not] at he;refine⟨oG,fun x hx=>?_,aad C.aT C.j4 h1.2.2.1 he.1⟩;obtain⟨j,hj⟩:=eS hx;have hr:=C.right k b hk j x hj;refine aac C.aT C.cm.1 C.cm.2 ?_ hr;obtain⟨J,M⟩:=Pt (bs:=f.blocks) (fun b hb t ht=>((C.bF b hb).to t ht).1) f.blocks.length k;have:=R8 (a:=0) J fun x hx=>⟨by obtain⟨b,rfl,_⟩:=IK.1 hx;omega,M x hx⟩
 have:=C.j4;omega
theorem PA(wsq:List ByteArray):bW (gV wsq)=yl (wsq.map bW):=by
 unfold gV yl bW;rw[ByteArray.data_append,Array.toList_append, <- join_eq];rfl
theorem JH:∀ C:List (List ByteArray),bW (eK C)=ym (C.map fun l=>l.map bW)
 |[]=>rfl
 |l::C=>by
  have ih:=JH C;unfold bW at ih;simp only[eK,ym,List.map_cons,List.flatMap_cons,bW,ByteArray.data_append,Array.toList_append];rw[ih];have:=PA l;unfold bW at this;rw[this];rfl
def LB(l:List ByteArray):Prop:=l≠[]/\l.length<=1210/\∀ w∈l,jb w
theorem YD{n:Int}(h:i64 n):(Lib.itoa n).length<=20:=by
 have:∀ u:Nat,u<10 ^ 19->(Lib.decDigits u).length<=19:=fun u hu=>by
  rw[Lib.decDigits_length];exact YB 18 hu
 unfold i64 at h;unfold Lib.itoa;split
 .have:=this n.natAbs oG;simp;omega
 .have:=this n.toNat oG;omega
theorem GJ{n:Int}(h:i64 n):jb (eJ n):=by
 refine⟨?_,by unfold bW eJ;simpa using Xz n⟩;have:(eJ n).size=(Lib.itoa n).length:=by unfold eJ;rfl
 have:=YD h;omega
theorem F9{l:List Int}(h:∀ n∈l,i64 n):∀ w∈l.map eJ,jb w:=fun w C=>by
 obtain⟨n,hn,rfl⟩:=List.mem_map.1 C;exact GJ (h n hn)
theorem U2(l:List Int):∀ n∈l.map iH,i64 n:=fun n hn=>by
 obtain⟨m,_,rfl⟩:=List.mem_map.1 hn;exact z8 m
theorem pN{w:ByteArray}(h:(Nat.ble w.size 120&&(!(bW w).contains 32&& !(bW w).contains 10))=true):jb w:=by
 simp only[bf,Bool.not_eq_true',List.contains_eq_mem,decide_eq_false_iff_not] at h;exact⟨bC h.1,h.2.1,h.2.2⟩
theorem Sd:jb yd/\jb TV/\jb TW/\jb AI/\jb CN/\jb E9/\jb o1/\jb sK/\jb DD/\jb GW/\jb A0/\jb TX:=by
 exact⟨pN oC,pN oC,pN oC,pN oC,pN oC,pN oC,pN oC,pN oC,pN oC,pN oC,pN oC,pN oC⟩
theorem JJ{x:cW}(h:xN x):Hk x:=fun n hn=>by
 unfold wc at hn;simp only[List.mem_cons] at hn;rcases hn with rfl|rfl|rfl|rfl|rfl|hn
 .exact z8 _
 .exact h.to.i
 .exact h.a.i
 .exact h.b.i
 .exact h.n.i
 .exact(h.args n hn).i
theorem SX{word:ByteArray}{x:cW}(C:jb word)(h:xN x):LB (nH word x):=by
 refine⟨by simp[nH],?_,fun w hm=>?_⟩
 .have:=h.len;simp[nH,wc];omega
 .rcases List.mem_cons.1 hm with rfl|hm
  .exact C
  .exact F9 (JJ h) w hm
theorem Ri{x:End}(h:KM x):∀ n∈uv x,i64 n:=fun n hn=>by
 unfold uv at hn;simp only[List.mem_cons] at hn;rcases hn with rfl|rfl|rfl|rfl|rfl|rfl|hn
 .exact z8 _
 .exact h.a.i
 .exact h.b.i
 .exact h.to.i
 .exact h.gN.i
 .exact h.others.i
 .exact(h.args n hn).i
theorem abQ{b:bx}(h:Aw b):∀ l∈lL b,LB l:=fun l hl=>by
 obtain⟨wf,wp,wi,wr,wsq,Wj,X,J,we,wn,wt,ww⟩:=Sd;unfold lL at hl;simp only[List.mem_cons,List.mem_append] at hl;rcases hl with rfl|hl|rfl|hl|hl|hl
 .exact⟨oS,oS,fun w C=>by simp at C;subst C;exact X⟩
 .obtain⟨x,hx,rfl⟩:=List.mem_map.1 hl;exact SX J (h.ins x hx)
 .refine⟨by simp[rk],?_,fun w hm=>?_⟩
  .have:=h.fin.len;simp[rk,uv];omega
  .rcases List.mem_cons.1 hm with rfl|hm
   .exact we
   .exact F9 (Ri h.fin) w hm
 .unfold jT at hl;split at hl
  .simp at hl
  .simp only[List.mem_cons,List.not_mem_nil,or_false] at hl;subst hl
   exact⟨oS,oS,fun w C=>by
    simp only[List.mem_cons,List.not_mem_nil,or_false] at C;rcases C with rfl|rfl
    .exact wn
    .exact h.fin.name⟩
 .unfold lp at hl;split at hl
  .simp only[List.mem_cons,List.not_mem_nil,or_false] at hl;subst hl;exact SX wt h.fin.ins
  .simp at hl
 .obtain⟨x,hx,rfl⟩:=List.mem_map.1 hl;obtain⟨M,U⟩:=h.fin.wh x hx
  exact⟨by simp[lQ],by simp[lQ],fun w C=>by
   simp only[lQ,List.mem_cons,List.not_mem_nil,or_false] at C;rcases C with rfl|rfl|rfl
   .exact ww
   .exact Ki U
   .exact GJ M.i⟩
theorem Se{f:al}(h:qR f):∀ l∈jS f,LB l:=fun l hl=>by
 obtain⟨M,X,U,wr,wsq,J,wb,Wl,we,wn,wt,ww⟩:=Sd;unfold jS Dr at hl;rw[List.mem_append] at hl;rcases hl with hl|hl
 .simp only[List.mem_cons,List.not_mem_nil,or_false] at hl;rcases hl with rfl|rfl|rfl|rfl
  .refine⟨oS,oS,fun w C=>?_⟩;simp only[List.mem_cons,List.not_mem_nil,or_false] at C;rcases C with rfl|rfl|rfl|rfl|rfl
   .exact M
   .exact h.name
   .unfold sx;split
    .exact U
    .exact X
   .exact GJ h.args
   .exact GJ (z8 _)
  .refine⟨oS,by have:=h.aT;simp;omega,fun w C=>?_⟩;rcases List.mem_cons.1 C with rfl|C
   .exact wr
   .exact F9 (U2 _) w C
  .refine⟨oS,by have:=h.cm;simp;omega,fun w C=>?_⟩;rcases List.mem_cons.1 C with rfl|C
   .exact wsq
   .exact F9 (U2 _) w C
  .refine⟨oS,by have:=h.sigs;simp;omega,fun w C=>?_⟩;rcases List.mem_cons.1 C with rfl|C
   .exact J
   .exact Ki (h.sig w C)
 .obtain⟨b,hb,hl⟩:=List.mem_flatMap.1 hl;exact abQ (h.bF b hb) l hl
theorem aae{l:List ByteArray}(h:LB l):(gV l).size<=150000:=by
 have h1:(gV l).size=(bW (gV l)).length:=rfl;rw[h1,PA];unfold yl;rw[List.length_append,List.length_singleton];have h2:=Qi (l.map bW)
 have C:∀ l:List ByteArray,(∀ w∈l,jb w)->((l.map bW).map fun w=>w.length+1).sum<=l.length*121:=fun l=>by
  induction l with
  |nil=>simp
  |cons a l ih=>
   intro h;have:=ih fun w J=>h w (List.mem_cons_of_mem _ J);have ha:(bW a).length<=120:=(h a oS).1;simp only[List.map_cons,List.sum_cons,List.length_cons];omega
 have:=C l h.2.2;have:=h.2.1;omega
theorem Rj:∀ {C:List (List ByteArray)},(∀ l∈C,LB l)->(eK C).size<=C.length*150000
 |[],_=>by simp[eK]
 |l::C,h=>by
  have:=Rj fun x hx=>h x (List.mem_cons_of_mem _ hx);have:=aae (h l oS);simp only[eK,ByteArray.size_append,List.length_cons];omega
theorem aaf{b:bx}(h:Aw b):(lL b).length<=220:=by
 have h1:=h.len;have h2:=h.fin.aR;have C:(jT b.fin).length<=1:=by unfold jT;split<;>simp
 have J:(lp b.fin).length<=1:=by unfold lp;split<;>simp
 simp only[lL,qZ,List.length_cons,List.length_append,List.length_map];omega
theorem abR{f:al}(h:qR f):(jS f).length<=300000:=by
 have:∀ bs:List bx,(∀ b∈bs,Aw b)->(bs.flatMap lL).length<=bs.length*220:=fun bs=>by
  induction bs with
  |nil=>simp
  |cons b bs ih=>
   intro h;have:=ih fun x hx=>h x (List.mem_cons_of_mem _ hx);have:=aaf (h b oS);simp only[List.flatMap_cons,List.length_append,List.length_cons];omega
 have:=this f.blocks h.bF;have:=h.j4;simp only[jS,Dr,List.length_append,List.length_cons,List.length_nil];omega
theorem adz{f:al}(h:qR f):CM f:=by
 refine⟨h.args,by have:=h.aT;omega,by have:=h.cm;omega,by have:=h.sigs;omega,by have:=h.j4;omega,fun b hb=>by have:=(h.bF b hb).len;omega,fun b hb x hx=>?_,fun b hb=>?_,?_⟩
 .have:=(h.bF b hb).ins x hx;exact⟨JJ this,by have:=this.len;omega⟩
 .have:=(h.bF b hb).fin;exact⟨Ri this,by have:=this.len;omega,JJ this.ins,by have:=this.ins.len;omega,by have:=this.aR;omega,fun w C=>(this.wh w C).1.i⟩
 .have h1:=Rj (Se h);have h2:=abR h;unfold lP;omega
def yI:List W8->Bool
 |w::k::_=>w==bW DD&&(k==Lib.itoa 6||k==Lib.itoa 7)
 |_=>false
theorem zP{w:W8}{l:List W8}(h:(w==bW DD)=false):yI (w::l)=false:=by
 cases l with
 |nil=>rfl
 |cons k l=>simp only[yI];rw[h];rfl
theorem adW(n:Int):bW (eJ n)=Lib.itoa n:=by simp[bW,eJ]
theorem B4{α:Type}{p:α->Bool}{l:List α}(h:∀ x∈l,p x=false):l.countP p=0:=by
 rw[List.countP_eq_zero];intro x hx;rw[h x hx];simp
theorem XB{b:bx}(h:Aw b):((lL b).map fun l=>l.map bW).countP yI=if eC b then 1 else 0:=by
 have hk:=h.fin.kind
 have e:yI ((rk b.fin).map bW)=eC b:=by
  simp only[rk,uv,List.map_cons,yI];rw[adW];have J:iH b.fin.kind=b.fin.kind:=by unfold iH IntKind.wrap;simp[IntKind.signed,IntKind.bits];omega
  rw[J]
  have C:∀ n:Int,(Lib.itoa b.fin.kind==Lib.itoa n)=decide (b.fin.kind=n):=fun n=>by
   by_cases e:b.fin.kind=n
   .rw[e];simp
   .rw[decide_eq_false e];exact beq_eq_false_iff_ne.2 fun h=>e (abO h)
  rw[C,C];simp[eC]
 simp only[lL,List.map_cons,List.map_append,List.countP_cons,List.countP_append];rw[e,zP oC,B4 (l:=(qZ b).map _),B4 (l:=(jT b.fin).map _),B4 (l:=(lp b.fin).map _),B4 (l:=(b.fin.aR.map lQ).map _)]
 .simp
 .intro l hl;simp only[List.mem_map] at hl;obtain⟨_,⟨w,_,rfl⟩,rfl⟩:=hl;exact zP oC
 .intro l hl;obtain⟨x,hx,rfl⟩:=List.mem_map.1 hl;unfold lp at hx;split at hx
  .simp only[List.mem_cons,List.not_mem_nil,or_false] at hx;subst hx;exact zP oC
  .simp at hx
 .intro l hl;obtain⟨x,hx,rfl⟩:=List.mem_map.1 hl;unfold jT at hx;split at hx
  .simp at hx
  .simp only[List.mem_cons,List.not_mem_nil,or_false] at hx;subst hx;exact zP oC
 .intro l hl;simp only[qZ,List.mem_map] at hl;obtain⟨_,⟨x,_,rfl⟩,rfl⟩:=hl;exact zP oC
theorem PB{f:al}(h:qR f):((jS f).map fun l=>l.map bW).countP yI=(bV f.blocks).length:=by
 have hb:∀ bs:List bx,(∀ b∈bs,Aw b)->((bs.flatMap lL).map fun l=>l.map bW).countP yI=(bV bs).length:=fun bs=>by
  induction bs with
  |nil=>intro _;rfl
  |cons b bs ih=>
   intro h;have ih:=ih fun x hx=>h x (List.mem_cons_of_mem _ hx);have e:=XB (h b oS);simp only[List.flatMap_cons,List.map_append,List.countP_append];rw[ih,e];unfold bV;rw[List.filter_cons];split<;>simp;omega
 unfold jS;rw[List.map_append,List.countP_append,hb f.blocks h.bF,B4,Nat.zero_add];intro l hl;unfold Dr at hl;simp only[List.map_cons,List.map_nil,List.mem_cons,List.not_mem_nil,or_false] at hl;rcases hl with rfl|rfl|rfl|rfl<;>exact zP oC
theorem Rk{f:al}(h:qR f):Kf ((jS f).map fun l=>l.map bW):=fun l hl=>by
 obtain⟨x,hx,rfl⟩:=List.mem_map.1 hl;obtain⟨h1,_,h2⟩:=Se h x hx;refine⟨by simpa using h1,fun w C=>?_⟩;obtain⟨y,hy,rfl⟩:=List.mem_map.1 C;exact(h2 y hy).2
theorem YE{f g:al}(hf:qR f)(hg:qR g)(h:lP f=lP g):(jS f).map (fun l=>l.map bW)=(jS g).map fun l=>l.map bW:=by
 refine Qd (Rk hf) (Rk hg) ?_;rw[<- JH, <- JH];exact congrArg bW h
theorem YF{f g:al}(hf:qR f)(hg:qR g)(h:lP f=lP g):(bV f.blocks).length=(bV g.blocks).length:=by
 rw[<- PB hf, <- PB hg,YE hf hg h]
end Go.Argus
namespace Go.Argus
open Go.Proofs.Tryz.K (nextR)
section
variable{to:ByteArray->ByteArray}
def cK(to:ByteArray->ByteArray)(b:bx):bx:=if eC b then { b with fin:={ b.fin with name:=to b.fin.name } } else b
def fm(f:al)(name:ByteArray)(to:ByteArray->ByteArray):al:={ f with name:=name,blocks:=f.blocks.map (cK to) }
theorem KN(b:bx):(cK to b).ins=b.ins:=by unfold cK;split<;>rfl
theorem Kj(b:bx):(cK to b).fin.kind=b.fin.kind:=by unfold cK;split<;>rfl
theorem Sf(b:bx):nextR (cK to b).fin=nextR b.fin:=by unfold cK;split<;>rfl
theorem ac1(b:bx):iA (cK to b).fin=iA b.fin:=by unfold cK;split<;>rfl
theorem IM(b:bx):mq (cK to b)=mq b:=by unfold cK;split<;>rfl
theorem adX(b:bx):gz (cK to b).fin=gz b.fin:=by unfold cK;split<;>rfl
theorem ac2(b:bx):eC (cK to b)=eC b:=by unfold eC;rw[Kj]
theorem Ga(bs:List bx)(i:Nat):(bs.map (cK to)).getD i lb=cK to (bs.getD i lb):=by
 rw[dx,dx,List.getElem?_map];cases bs[i]? <;>rfl
theorem abS(bs:List bx):pI (bs.map (cK to))=pI bs:=by
 funext L b;unfold pI;rw[List.getElem?_map];cases bs[b]? with
 |none=>rfl
 |some x=>simp only[Option.map_some,Sf]
theorem Rm(bs:List bx)(k:Nat):dj (bs.map (cK to)) k=dj bs k:=by unfold dj;rw[abS]
theorem ac3(bs:List bx):iP (bs.map (cK to))=iP bs:=by
 funext s k;unfold iP;rw[List.getElem?_map];cases bs[k]? with
 |none=>rfl
 |some x=>simp only[Option.map_some,Sf,adX,IM]
theorem YG(bs:List bx):py (bs.map (cK to))=py bs:=by funext s;unfold py;rw[ac3,List.length_map]
theorem YH(bs:List bx)(n:Nat):qL (bs.map (cK to)) n=qL bs n:=by
 induction n with
 |zero=>rfl
 |succ n ih=>funext s;simp only[qL];rw[YG,ih]
theorem ac4(bs:List bx)(a:Nat):pa (bs.map (cK to)) a=pa bs a:=by unfold pa;rw[YH,List.length_map]
theorem ac5(bs:List bx)(s:CS)(b:Nat)(y:cW):uj (bs.map (cK to)) s b y=uj bs s b y:=by
 unfold uj tK;simp only[List.length_map,Rm,Ga,ac1,IM]
theorem ac6(bs:List bx)(a:Nat):tA (bs.map (cK to)) a=tA bs a:=by
 unfold tA rQ;simp only[List.length_map,ac4,Ga,IM,KN];congr 1;funext b;congr 2;congr 1;funext y;exact ac5 bs _ b y
theorem ac7(bs:List bx)(k:Nat):oY (bs.map (cK to)) k=oY bs k:=by
 unfold oY;rw[<- List.map_take];generalize bs.take k=l
 induction l with
 |nil=>rfl
 |cons b l ih=>
  simp only[List.map_cons,List.filter_cons,Kj];split
  .simp only[List.map_cons,ih,List.cons.injEq,and_true];unfold cK;split<;>rfl
  .exact ih
theorem ac8{f:al}{C:ByteArray}{b:bx}(h:jh f b.fin=true)(hn:eC b=true->n5 (to b.fin.name)=true):jh (fm f C to) (cK to b).fin=true:=by
 have hb:∀ n,eh (fm f C to) n=eh f n:=fun n=>by simp[eh,fm]
 have hh:∀ x,nX (fm f C to) x=nX f x:=fun x=>by
  unfold nX Gt q7;simp only[hb]
 have he:∀ x,jh (fm f C to) x=jh f x:=fun x=>by
  unfold jh eD;simp only[hb,hh];rfl
 rw[he];unfold cK;split
 .rename_i hc;have J:=hn hc;unfold eC at hc;simp only[Bool.or_eq_true,decide_eq_true_eq] at hc;unfold jh at h ⊢;rcases hc with hc|hc
  .simp only[eD,hc,Int.reduceEq,if_false,if_true,bf] at h ⊢;exact⟨⟨J,h.1.2⟩,h.2⟩
  .simp only[eD,hc,Int.reduceEq,if_false,if_true,bf] at h ⊢;exact⟨⟨J,h.1.2⟩,h.2⟩
 .exact h
theorem abT{f:al}{J:ByteArray}(h:nb f=true)(h1:n5 J=true)(hn:∀ b∈f.blocks,eC b=true->n5 (to b.fin.name)=true):nb (fm f J to)=true:=by
 unfold nb at h ⊢;simp only[bf] at h ⊢;obtain⟨C,M,U,X,g5⟩:=h;refine⟨?_,M,U,bS.2 fun k hk=>?_,bS.2 fun k hk=>?_⟩
 .unfold tL at C ⊢;simp only[bf] at C ⊢;refine⟨h1,C.2.1,C.2.2.1,C.2.2.2.1,C.2.2.2.2.1,?_⟩;have:=C.2.2.2.2.2;simpa[fm] using this
 .have hk:k<f.blocks.length:=by simpa[fm] using hk
  have:=bS.1 X k (List.mem_range.2 hk);unfold lH at this ⊢;have e:(fm f J to).blocks.getD k lb=cK to (f.blocks.getD k lb):=Ga _ _;have e2:oY (fm f J to).blocks k=oY f.blocks k:=ac7 _ _;have hm:f.blocks.getD k lb∈f.blocks:=bD (eU hk);simp only[e,e2,KN,Kj];simp only[bf] at this ⊢;refine⟨ac8 this.1 (hn _ hm),this.2.1,?_⟩;have e3:(cK to (f.blocks.getD k lb)).fin.a=(f.blocks.getD k lb).fin.a:=by unfold cK;split<;>rfl
  rw[e3];exact this.2.2
 .have hk:k<f.blocks.length:=by simpa[fm] using hk
  have:=bS.1 g5 k (List.mem_range.2 hk);unfold tB at this ⊢;have e:(fm f J to).blocks.getD k lb=cK to (f.blocks.getD k lb):=Ga _ _
  have e2:qM (fm f J to)=qM f:=by
   funext b l j;unfold qM fm;simp only[Rm,List.length_map];rfl
  simp only[e,KN];rw[e2];exact this
theorem ac9{f:al}{C:ByteArray}(h:fg f=0)(h1:n5 C=true)(hn:∀ b∈f.blocks,eC b=true->n5 (to b.fin.name)=true):fg (fm f C to)=0:=by
 unfold fg at h ⊢;split at h
 .rename_i hf;rw[if_pos (abT hf h1 hn)];split at h
  .rename_i hr;rw[if_pos (by rw[show(fm f C to).blocks=f.blocks.map (cK to) from rfl,ac6];exact hr)]
  .cases h
 .cases h
theorem checked{f:al}(h:fg f=0):nb f=true:=by
 unfold fg at h;split at h
 .assumption
 .cases h
theorem Ot(bs:List bx):bV (bs.map (cK to))=(bV bs).map to:=by
 unfold bV
 induction bs with
 |nil=>rfl
 |cons b bs ih=>
  simp only[List.map_cons,List.filter_cons,ac2];split
  .rename_i h;simp only[List.map_cons,ih,List.cons.injEq,and_true];unfold cK;rw[if_pos h]
  .exact ih
end
def kP:ByteArray:=⟨#[95]⟩
def vP(f:al):al:=fm f kP fun _=>kP
def ng(f:al):ByteArray:=lP (vP f)
theorem Pc{f:al}(h:fg f=0):fg (vP f)=0:=ac9 h oC fun _ _ _=>by decide
theorem Jy{f:al}(h:fg f=0):qR (vP f):=tH (checked (Pc h))
theorem OJ{f g:al}(hf:fg f=0)(hg:fg g=0)(h:ng f=ng g):(bV f.blocks).length=(bV g.blocks).length:=by
 have:=YF (Jy hf) (Jy hg) h
 have e:∀ f:al,(bV (vP f).blocks).length=(bV f.blocks).length:=fun f=>by
  show(bV (f.blocks.map (cK _))).length=_;rw[Ot,List.length_map]
 rw[e,e] at this;exact this
theorem Yk(f:al)(C:ByteArray)(to:ByteArray->ByteArray):ng (fm f C to)=ng f:=by
 unfold ng vP fm;simp only[List.map_map];congr 3;funext b;show cK _ (cK to b)=cK _ b;unfold cK;by_cases h:eC b=true
 .have h2:eC { b with fin:={ b.fin with name:=to b.fin.name } }=true:=h;rw[if_pos h,if_pos h2,if_pos h]
 .rw[if_neg h,if_neg h]
end Go.Argus
namespace Go.Argus
def hP(l:List Int):ByteArray:=mkStr (l.map (·+33))
theorem WZ(a b:List Int):mkStr (a++b)=mkStr a++mkStr b:=by
 refine vB ?_;simp[mkStr,bW]
theorem Zf(l:List Int)(n:Int):hP (l++[n])=hP l++mkStr [n+33]:=by simp[hP,WZ]
theorem IZ(l:List Int):(hP l).size=l.length:=by
 show(hP l).data.size=_;simp[hP,mkStr]
theorem Zg{x:Int}(h:0<=x/\x<90):IntKind.i32.wrap (x+33)=x+33:=by
 unfold IntKind.wrap;simp[IntKind.signed,IntKind.bits];omega
def cS(l:List al)(sh:List ByteArray)(ca:List (List Int)):List D:=[bc l,bI sh,cg ca]
@[simp] theorem amg (l : List al) (sh : List ByteArray) (ca : List (List Int)) : (cS l sh ca).length = 3 := rfl
theorem E'(l:List al)(sh:List ByteArray)(ca:List (List Int)):∀ a∈cS l sh ca,Tr a:=.cons (gP l) (.cons (fS sh) (.cons (tz ca) .nil))
section
variable{κ:Type}[DecidableEq κ]
def jm(fs:List κ)(k:κ):Nat:=fs.idxOf k
def eE(fs:List κ)(k:κ):Bool:=decide (k∈fs)
theorem I0(a s:κ)(fs:List κ):eE (a::fs) s=(decide (a=s)||eE fs s):=by
 unfold eE;by_cases h:a=s
 .subst h;simp
 .have:s∈a::fs↔s∈fs:=by
   constructor
   .intro hm;rcases List.mem_cons.1 hm with e|e
    .exact absurd e.symm h
    .exact e
   .exact List.mem_cons_of_mem _
  rw[decide_eq_false h,Bool.false_or];exact decide_eq_decide.2 this
theorem I1(a s:κ)(fs:List κ):jm (a::fs) s=if a=s then 0 else jm fs s+1:=by
 unfold jm;rw[List.idxOf_cons];by_cases h:a=s
 .subst h;simp
 .rw[if_neg h,beq_eq_false_iff_ne.2 h];rfl
theorem QI{ks:List κ}{k:Nat}{s:κ}(h:ks[k]? =some s):
 bq (ks.take (k+1))=(if eE (bq (ks.take k)) s then bq (ks.take k) else bq (ks.take k)++[s])/\(br ks).take (k+1)=(br ks).take k++[if eE (bq (ks.take k)) s then jm (bq (ks.take k)) s else(bq (ks.take k)).length]:=by
 have h1:ks.take (k+1)=ks.take k++[s]:=by rw[List.take_add_one,h];rfl
 have h2:bq (ks.take (k+1))=(if s∈bq (ks.take k) then bq (ks.take k) else bq (ks.take k)++[s]):=by rw[h1,Zh]
 unfold eE jm;simp only[decide_eq_true_eq];refine⟨h2,?_⟩;rw[List.take_add_one,Fa h];congr 1;show [(bq ks).idxOf s]=_
 have hp:bq (ks.take (k+1))<+:bq ks:=by
  have:=OG (ks.take (k+1)) (ks.drop (k+1))
  rwa[List.take_append_drop] at this
 rw[Pa hp (by rw[qJ,h1];simp),h2];split
 .rfl
 .rename_i hn;rw[List.idxOf_append,if_neg hn];simp
end
def eQ(fs:List ByteArray):List (Value×D):=fs.zipIdx.map fun x=>(.string x.1,I (x.2:Nat))
theorem PN(s:ByteArray):∀ (fs:List ByteArray) (j:Nat),cN (.string s) ((fs.zipIdx j).map fun x=>(Value.string x.1,I (x.2:Nat)))=if eE fs s then some (jm fs s,I ((jm fs s+j:Nat):Int)) else none
 |[],j=>rfl
 |a::fs,j=>by
  have ih:=PN s fs (j+1);simp only[List.zipIdx_cons,List.map_cons,cN];rw[I0,I1];by_cases h:a=s
  .subst h;have hv:kM (Value.string a) (.string a)=true:=by show(a.data.toList==a.data.toList)=true;simp
   simp[hv]
  .have hv:kM (Value.string a) (.string s)=false:=beq_eq_false_iff_ne.2 fun e=>h (vB e);simp only[hv,h,decide_false,Bool.false_or,Bool.false_eq_true,if_false];rw[ih];cases eE fs s with
   |false=>rfl
   |true=>
    simp only[if_true,Option.map_some];rw[show jm fs s+(j+1)=jm fs s+1+j by omega]
theorem Jx(s:ByteArray)(fs:List ByteArray):cN (.string s) (eQ fs)=if eE fs s then some (jm fs s,I (jm fs s:Nat)) else none:=PN s fs 0
theorem Zi(fs:List ByteArray)(s:ByteArray):eQ (fs++[s])=eQ fs++[(.string s,I (fs.length:Nat))]:=by
 unfold eQ;rw[List.zipIdx_append,List.map_append];simp
theorem RO{s:ByteArray}{fs:List ByteArray}(h:eE fs s=false):fV (.string s) (I (fs.length:Nat)) (eQ fs)=eQ (fs++[s]):=by
 unfold fV;rw[Jx,h,Zi];rfl
theorem QJ(fs:List ByteArray):(eQ fs).length=fs.length:=by simp[eQ]
end Go.Argus
namespace Go.Proofs.Tryz.K
theorem aik{s:ByteArray}:aA prog 112 [S s] (S kP):=by
 refine bj ae5 (.cons (.s _) .nil) (Tr.s _) ?_;rw[ae6];refine ws ?_;refine SS ?_;refine er ?_;refine SS ?_;exact aa (aF rfl rfl)
theorem iY{l:List al}{sh:List ByteArray}{ca:List (List Int)}:aA prog 48 [.agg (cS l sh ca)] (I l.length):=by
 refine bj ail (.cons (.agg (E' l sh ca)) .nil) (Tr.s _) ?_;rw[aim];refine aw ?_;refine ab ?_;refine aa (bG (dB [(0,cS l sh ca,82)] eH (l:=[(1,.pt (cS l sh ca))]) eH) (aj ?_));refine aZ ?_;exact aa (aF rfl rfl)
theorem Nh{l:List Int}(h:∀ n∈l,0<=n/\n<90)(hl:l.length<=100000)(U:l≠[]):aA prog 83 [aP l] (S (hP l)):=by
 refine bj ain (.cons (du l) .nil) (Tr.s _) ?_;rw[aio];refine ws ?_;refine SS ?_;refine er ?_;refine Hb (aam rfl V.h V.h) ak ?_;refine aa (aB (aw ?_));refine ax ?_
 refine aa (bY (fun s=>∃ u q m nx,aI prog s ⟨ay [(3,.rp 0 0)],m,nx⟩/\m 0=some (.bs u (.rs q 0 (hP l).size) 183)/\m q=some (.cells (fh (hP l)) 5)) (cy (α:=Nat×Bool×D×Option Nat×Mem×Nat)
  (fun s=>⟨ay [(3,.rp 0 0),(6,aP l),(7,I l.length),(8,I s.1)],s.2.2.2.2.1,s.2.2.2.2.2⟩)
  (fun s=>s.1<=l.length/\s.2.2.2.2.1 0=some (.bs s.2.1 s.2.2.1 183)/\sZ s.2.2.2.2.1 s.2.2.1 (hP (l.take s.1)) s.2.2.2.1/\(∀ i,s.2.2.2.1=some i->i≠0/\i<s.2.2.2.2.2)/\0<s.2.2.2.2.2/\(0<s.1->s.2.2.2.1≠none)) (fun s=>l.length - s.1) (0,false,.z,none,_,_)
  (av eH) ⟨Nat.zero_le _,rfl,⟨rfl,rfl⟩,(fun i hi=>by cases hi),oM,fun h=>absurd h (Nat.lt_irrefl 0)⟩ ?_) ?_)
 .rintro⟨k,u,x,o,m,nx⟩ ⟨hk,J,hb,ho,X,M⟩;dsimp only at hk J hb ho X M ⊢;refine SS ?_;refine aa ⟨_,rfl,fun af=>?_,fun bl=>?_⟩
  .have iF:k<l.length:=by simpa using af
   clear af;obtain⟨y,hy⟩:∃ y,l[k]? =some y:=⟨_,aU iF⟩
   have C:=h y (bD hy);have hw:=Zg C;have hr:0<=IntKind.i32.wrap (y+33)/\IntKind.i32.wrap (y+33)<128:=by rw[hw];omega
   have dA:hP (l.take (k+1))=hP (l.take k)++mkStr [IntKind.i32.wrap (y+33)]:=by rw[List.take_add_one,hy,hw, <- Zf];rfl
   have bB:(hP (l.take k)).size<=100000:=by rw[IZ,List.length_take];omega
   generalize hP (l.take k)=a at*
   refine ws ?_;refine ax ?_;refine aa (fC ?_);refine ax ?_;refine rh (adj rfl V.h V.h (by first|assumption|omega)) ak ?_;refine gm (Hi (s:=mkStr [IntKind.i32.wrap (y+33)]) J kr hb ho X (by rw[show(mkStr [IntKind.i32.wrap (y+33)]).size=1 from rfl];omega)) rfl aK fun d m' ai hp=>?_;obtain⟨rfl,rfl,rfl⟩:=hp;refine aa ?_;dsimp only[St.put];refine ab ?_;refine aa (bg (k+1,true,.rs nx 0 (a++mkStr [IntKind.i32.wrap (y+33)]).size,some nx,zk m nx 0 183 (a++mkStr [IntKind.i32.wrap (y+33)]) o,nx+1) (av eH) ?_ oM);dsimp only;refine⟨oG,ah _ _ _,?_,fun i hi=>by cases hi;omega,oG,fun _=>by simp⟩;rw[dA];exact⟨rfl,(az _ _ oG).trans (ah _ _ _)⟩
  .have iF:¬ k<l.length:=by simpa using bl
   have:k=l.length:=by omega
   subst this;rw[List.take_length] at hb;cases o with
   |none=>exact absurd rfl (M (by cases l with|nil=>exact absurd rfl U|cons a l=>simp))
   |some q=>
    obtain⟨rfl,hq⟩:=hb;exact⟨u,q,m,nx,av eH,J,hq⟩
 .rintro s ⟨u,q,m,nx,hg,h0,hq⟩;refine⟨_,hg,aj ?_⟩;refine gm (Ui h0 hq (by rw[IZ];cases l with|nil=>exact absurd rfl U|cons a l=>simp) (by rw[IZ];omega)) rfl aK fun d m' ai hp=>?_;obtain⟨rfl,rfl,rfl⟩:=hp;dsimp only[St.put];refine SS ?_;exact aa (aF rfl rfl)
theorem u9:prog.underlying 9=some .string:=kr
theorem vO(s:ByteArray):cC prog 9 (.string s)=true:=by simp[cC,u9]
theorem GY(fs:List ByteArray):(eQ fs).all (fun e=>cC prog 9 e.1)=true:=by
 refine bS.2 fun e he=>?_;obtain⟨x,_,rfl⟩:=List.mem_map.1 he;exact vO _
theorem Tu:lN prog (lh prog 144)=I 0:=kr
theorem acr(s:ByteArray)(fs:List ByteArray):fv prog 144 true (cN (.string s) (eQ fs))=.aL [I (if eE fs s then(jm fs s:Nat) else 0:Int),B (eE fs s)]:=by
 rw[Jx];cases eE fs s with
 |true=>rfl
 |false=>
  show(D.aL [lN prog (lh prog 144),_])=_;rw[Tu];rfl
theorem Ee{ks:List ByteArray}(hl:ks.length<=100000):aA prog 82 [bI ks] (.aL [aP (ao (br ks)),I (bq ks).length]):=by
 refine bj aip (.cons (fS ks) .nil) (.aL (.cons (du _) (.cons (.s _) .nil))) ?_;rw[aiq];refine ws ?_;refine ab ?_;refine er ?_;refine ab ?_;refine aa (aw ?_);refine SS ?_;refine aa ⟨_,.o0 _ _ _ 5 3 rfl,aB (aw ?_)⟩;refine ax ?_
 refine aa (bY (fun s=>∃ r nx,r≠0/\aI prog s ⟨ay [(4,.mp 0),(5,.rs r 0 ks.length)],a7 [(0,.map (eQ (bq ks))),(r,.cells ((ao (br ks)).map I) 3)],nx⟩) (cy (α:=Nat×Nat×Nat)
  (fun s=>⟨ay [(4,.mp 0),(5,.rs s.2.1 0 s.1),(11,bI ks),(12,I ks.length),(13,I s.1)],a7 [(0,.map (eQ (bq (ks.take s.1)))),(s.2.1,.cells ((ao ((br ks).take s.1)).map I) 3)],s.2.2⟩)
  (fun s=>s.1<=ks.length/\0<s.2.1/\s.2.1<s.2.2) (fun s=>ks.length - s.1) (0,1,2)
  (bQ eH eH) ⟨Nat.zero_le _,oC,oC⟩ ?_) ?_)
 .rintro⟨k,r,nx⟩ ⟨hk,X,hr⟩;dsimp only at hk X hr ⊢;refine SS ?_;refine aa ⟨_,rfl,fun h=>?_,fun h=>?_⟩
  .have af:k<ks.length:=by simpa using h
   clear h;obtain⟨y,hy⟩:∃ y,ks[k]? =some y:=⟨_,aU af⟩
   obtain⟨C,J⟩:=QI hy;have DW:(bq (ks.take k)).length<=100000:=by have:=vm (ks.take k);simp at this;omega
   have U:((br ks).take k).length=k:=by simp;omega
   generalize bq (ks.take k)=fs at*
   generalize (br ks).take k=out at*
   have ap:a7 [(0,Row.map (eQ fs)),(r,.cells ((ao out).map I) 3)] 0=some (.map (eQ fs)):=rfl;have gn:a7 [(0,Row.map (eQ fs)),(r,.cells ((ao out).map I) 3)] r=some (.cells ((ao out).map I) 3):=by simp[a7];omega
   have mQ:((ao out).map I).length=k:=by simp[U]
   refine ws ?_;refine ax ?_;refine er ?_;refine ab ?_;refine au (E7 rfl ap rfl Dh (acr y fs)) aK ⟨Di,vO y,GY fs⟩ ?_;refine bu ?_;cases hm:eE fs y with
   |true=>
    rw[hm] at C J;simp only[if_true] at C J ⊢;refine aa (aB (aj ?_));refine ab ?_;refine aa (cR rfl (fun h=>by cases h) fun _=>cI (fC ?_));refine bu ?_;refine aa ?_;refine ab ?_;refine aa (bg (k+1,nx+1,nx+1+1) ?_ ⟨oM,oM,oM⟩ oM);dsimp only;rw[C,J];refine bQ eH ⟨?_,?_,trivial⟩
    .exact ag oG (ag oG (ag oG ap))
    .exact(ah _ _ _).trans (by simp;rfl)
   |false=>
    rw[hm] at C J;simp only[Bool.false_eq_true,if_false] at C J ⊢;refine aa (aB (aj ?_));refine ab ?_;refine aa (cR rfl (fun _=>aB (aj ?_)) fun h=>by cases h);refine SS ?_;refine rh (Kq rfl rfl V.h) ak ?_;refine SS ?_;rw[QJ];refine er ?_;refine ax ?_;refine bM (xC (key:=.string y) (v:=I (fs.length:Nat)) rfl ap rfl rfl Dh) aK ⟨Di,vO y,GY fs⟩ ?_;rw[RO hm];have M:up (a7 [(0,Row.map (eQ fs)),(r,.cells ((ao out).map I) 3)]) 0 (some (.map (eQ (fs++[y])))) 0=some (.map (eQ (fs++[y]))):=ah _ _ _;have gn:=ag (f:=a7 [(0,Row.map (eQ fs)),(r,.cells ((ao out).map I) 3)]) (k:=0) (v:=some (.map (eQ (fs++[y])))) oG gn;refine aa (fC ?_);refine bu ?_;refine aa ?_;refine ab ?_;refine aa (bg (k+1,nx+1,nx+1+1) ?_ ⟨oM,oM,oM⟩ oM);dsimp only;rw[C,J];refine bQ eH ⟨?_,?_,trivial⟩
    .exact ag oG (ag oG (ag oG M))
    .exact(ah _ _ _).trans (by simp;rfl)
  .have bl:¬ k<ks.length:=by simpa using h
   have:k=ks.length:=by omega
   subst this;rw[List.take_length,df oS];exact⟨r,nx,oG,av eH⟩
 .rintro s ⟨r,nx,hr,hg⟩;refine⟨_,hg,aw ?_⟩;have ap:a7 [(0,Row.map (eQ (bq ks))),(r,.cells ((ao (br ks)).map I) 3)] 0=some (.map (eQ (bq ks))):=rfl;refine ab ?_;refine rh (Kq rfl rfl V.h) ak ?_;refine ab ?_;rw[QJ];refine aa (bG (eT (i:=r) (cs:=(ao (br ks)).map I) (e:=3) (by simp[a7,hr]) (l:=[(2,aP (ao (br ks))),(3,I (bq ks).length)]) ⟨?_,rfl,trivial⟩) (gk rfl rfl rfl));exact(iJ (by rw[c3];simp)).trans oS
end Go.Proofs.Tryz.K
namespace Go.Abs
def dh(i:Nat)(cs:List D)(sz:Nat)(m:Mem):Mem:=fun j=>if j=i then none else(m j).map (Row.sub (cE i cs sz))
theorem lz{P:Program}{env:Env}{m:Mem}{nx i:Nat}{cs:List D}{e:TypeId}{l:List (Nat×D)}(hm:m i=some (.cells cs e))(hl:kX l fun t=>sub (cE i cs (P.cellsOf e)) (env t)):aI P ⟨env,m,nx⟩ ⟨ay l,dh i cs (P.cellsOf e) m,nx⟩:=
 (aI.freeze env m nx i cs e hm).trans (av hl)
theorem gS{i j sz:Nat}{cs:List D}{m:Mem}{r:Row}(h:m j=some r)(hj:j≠i)(hr:kY (fun k=>k=i) r):dh i cs sz m j=some r:=by
 unfold dh;rw[if_neg hj,h];exact congrArg some (hr i cs sz rfl)
end Go.Abs
namespace Go.Argus
theorem zK{X:Nat->Prop}{α:Type}{f:α->List D}(h:∀ x,∀ d∈f x,fG X d)(l:List α){e:TypeId}:kY X (.cells (l.flatMap f) e):=kY.cells fun d hd=>by
 obtain⟨x,_,hx⟩:=List.mem_flatMap.1 hd;exact h x d hx
theorem amm{X:Nat->Prop}(x:cW):∀ d∈cv x,fG X d:=fun d hd=>by
 simp only[cv,List.mem_cons,List.not_mem_nil,or_false] at hd;rcases hd with rfl|rfl|rfl|rfl|rfl|rfl<;>first|exact .s _|exact .sl _ _
theorem Zj{X:Nat->Prop}(x:End):∀ d∈bw x,fG X d:=fun d hd=>by
 simp only[bw,List.mem_cons,List.not_mem_nil,or_false] at hd;rcases hd with rfl|rfl|rfl|rfl|rfl|rfl|rfl|rfl|rfl|rfl|rfl|rfl|rfl|rfl|rfl<;>first|exact .s _|exact .sl _ _
theorem Xu{X:Nat->Prop}(b:bx):∀ d∈bH b,fG X d:=fun d hd=>by
 rcases List.mem_cons.1 hd with rfl|hd
 .exact .sl _ _
 .exact Zj _ d hd
def headD(f:al)(x:D):List D:=[S f.name,B f.iter,I f.args,U8 f.result,iK f.aT,iK f.cm,bI f.signals,x]
theorem X7{X:Nat->Prop}{f:al}{x:D}(h:fG X x):∀ d∈headD f x,fG X d:=fun d hd=>by
 simp only[headD,List.mem_cons,List.not_mem_nil,or_false] at hd;rcases hd with rfl|rfl|rfl|rfl|rfl|rfl|rfl|rfl<;>first|exact .s _|exact .sl _ _|exact h
theorem OH{X:Nat->Prop}:∀ d∈gW,fG X d:=fun d hd=>by
 simp only[gW,List.mem_cons,List.not_mem_nil,or_false] at hd;rcases hd with rfl|rfl|rfl|rfl|rfl|rfl|rfl|rfl<;>first|exact .s _|exact .z
def Grow(m:Mem)(lo hi:Nat)(x:D)(n:Nat)(cs:List D)(e:TypeId):Prop:=(n=0/\cs=[]/\x=.z)\/∃ r,lo<=r/\r<hi/\x=.rs r 0 n/\m r=some (.cells cs e)
theorem Grow.mono{m m':Mem}{lo hi C:Nat}{x:D}{n:Nat}{cs:List D}{e:TypeId}(h:Grow m lo hi x n cs e)(hm:∀ j,lo<=j->j<hi->m' j=m j)(hh:hi<=C):Grow m' lo C x n cs e:=by
 rcases h with h|⟨r,h1,h2,J,M⟩
 .exact .inl h
 .exact .inr ⟨r,h1,oG,J,by rw[hm r h1 h2,M]⟩
theorem Grow.nR{m:Mem}{lo hi C i sz:Nat}{x:D}{n:Nat}{cs cs':List D}{e:TypeId}(h:Grow m lo hi x n cs e)(U:hi<=i)(hh:hi<=C)(hr:kY (fun k=>k=i) (.cells cs e)):Grow (dh i cs' sz m) lo C x n cs e:=by
 rcases h with h|⟨r,h1,h2,J,M⟩
 .exact .inl h
 .exact .inr ⟨r,h1,oG,J,gS M oG hr⟩
theorem Grow.Tv{m:Mem}{lo hi i:Nat}{x:D}{n:Nat}{cs:List D}{e:TypeId}(h:Grow m lo hi x n cs e)(C:hi<=i):fG (fun k=>k=i) x:=by
 rcases h with⟨_,_,rfl⟩|⟨r,h1,h2,rfl,J⟩
 .exact .z
 .exact .rs oG
structure TB(m:Mem)(nx:Nat)(f:al)(x:D)(bs:List bx):Prop where
 r1:m 1=some (.cells gW 48)
 r2:m 2=some (.cells (headD f x) 48)
 lt:2<nx
 gr:Grow m 3 nx x bs.length (bs.flatMap bH) 59
theorem TB.mono{m m':Mem}{nx C:Nat}{f:al}{x:D}{bs:List bx}(h:TB m nx f x bs)(hm:∀ j,j<nx->m' j=m j)(hn:nx<=C):TB m' C f x bs:=
 ⟨by rw[hm 1 (by have:=h.lt;omega)];exact h.r1,by rw[hm 2 h.lt];exact h.r2,by have:=h.lt;omega,h.gr.mono (fun j _ hj=>hm j hj) hn⟩
theorem TB.nR{m:Mem}{nx C i sz:Nat}{f:al}{x:D}{bs:List bx}{cs:List D}(h:TB m nx f x bs)(hi:nx<=i)(hn:nx<=C):TB (dh i cs sz m) C f x bs:=
 ⟨gS h.r1 (by have:=h.lt;omega) (.cells OH),gS h.r2 (by have:=h.lt;omega) (.cells (X7 (h.gr.Tv hi))),by have:=h.lt;omega,h.gr.nR hi hn (zK Xu _)⟩
end Go.Argus
namespace Go.Proofs.Tryz.K
theorem zq{f:al}{name:ByteArray}{g:FuncId}{fs cs:List D}{to:ByteArray->ByteArray}(ht:Tr (.fn (.func g) fs cs))(sR:∀ X:Nat->Prop,fG X (.fn (.func g) fs cs))(hg:∀ b∈f.blocks,eC b=true->aA prog g (fs++[S b.fin.name]++cs) (S (to b.fin.name)))
 (h1:f.aT.length<=100000) (h2:f.cm.length<=100000) (h3:f.signals.length<=100000) (h4:f.blocks.length<=100000) (h5:∀ b∈f.blocks,b.ins.length<=100000/\(∀ x∈b.ins,x.args.length<=100000)/\b.fin.args.length<=100000/\b.fin.aR.length<=100000/\b.fin.ins.args.length<=100000):
 aA prog 57 [.agg (aM f),S name,.fn (.func g) fs cs] (.agg (aM (fm f name to))):=by
 have kr:=Vt (l:=f.aT) oG;have ks:=Vt (l:=f.cm) oG;have Nd:=Nd (l:=f.signals) oG;refine bj air (.cons (.agg (kQ f)) (.cons (.s _) (.cons ht .nil))) (.agg (kQ _)) ?_;rw[ais];refine aw ?_;refine ab ?_;refine aa ⟨_,oR (i:=0) (cs:=aM f) (e:=48) rfl (l:=[(1,S name),(2,.fn (.func g) fs cs),(3,.pt (aM f)),(6,.rp 1 0)]) ⟨rfl,sR _ _ _ _ rfl,lR,rfl,trivial⟩ (ml:=[(1,.cells gW 48)]) eH,aj ?_⟩;refine ax ?_;refine er ?_;refine ax ?_;refine aa (ep aaW ?_);refine ab ?_;refine qX kr rfl aK ?_;refine ab ?_;refine qX ks rfl aK ?_;refine ab ?_;refine cl Nd ?_;refine cr ?_;refine ct cG (aw ?_);refine ab ?_;have D5:∀ i (iZ:List D) sz,sub (cE i iZ sz) (.fn (.func g) fs cs)=.fn (.func g) fs cs:=fun i iZ sz=>sR (fun k=>k=i) i iZ sz rfl;generalize hF:fm f name to=F at*
 have hn:F.name=name:=by rw[<- hF];rfl
 refine aa ⟨_,bQ (l:=[(2,.fn (.func g) fs cs),(3,.pt (aM f)),(6,.rp 1 0),(7,.rp 2 0)]) eH (ml:=[(1,.cells gW 48),(2,.cells (headD F .z) 48)]) ⟨rfl,by subst hF;rfl,trivial⟩,aB (aw ?_)⟩;refine aZ ?_;have Bv:∀ k,(F.blocks.take k)=(f.blocks.take k).map (cK to):=fun k=>by rw[<- hF];exact List.map_take.symm
 have DW:F.blocks.length=f.blocks.length:=by rw[<- hF];simp[fm]
 refine aa (bY (fun s=>∃ x m nx,TB m nx F x F.blocks/\aI prog s ⟨ay [(6,.rp 1 0),(7,.rp 2 0)],m,nx⟩) (cy (α:=Nat×D×Mem×Nat)
  (fun s=>⟨ay [(2,.fn (.func g) fs cs),(6,.rp 1 0),(7,.rp 2 0),(30,cF f.blocks),(31,I f.blocks.length),(32,I s.1)],s.2.2.1,s.2.2.2⟩)
  (fun s=>s.1<=f.blocks.length/\TB s.2.2.1 s.2.2.2 F s.2.1 (F.blocks.take s.1)) (fun s=>f.blocks.length - s.1) (0,.z,_,_)
  (av eH) ⟨Nat.zero_le _,rfl,rfl,oM,.inl ⟨rfl,rfl,rfl⟩⟩ ?_) ?_)
 .rintro⟨k,x7,m,nx⟩ ⟨hk,M⟩;dsimp only at hk M ⊢;refine SS ?_;refine aa ⟨_,rfl,fun h=>?_,fun h=>?_⟩
  .have af:k<f.blocks.length:=by simpa using h
   clear h;obtain⟨b,hb⟩:∃ b,f.blocks[k]? =some b:=⟨_,aU af⟩
   have BA:b∈f.blocks:=bD hb;obtain⟨M5,M6,gv,qi,hb5⟩:=h5 b BA;have hgb:=hg b BA;have dA:F.blocks.take (k+1)=F.blocks.take k++[cK to b]:=by rw[Bv,Bv,List.take_add_one,hb,List.map_append];rfl
   refine aw ?_;refine aZ ?_;refine aa ⟨_,lz (i:=nx) (cs:=bH b) (e:=59) (ah _ _ _) (l:=[(2,.fn (.func g) fs cs),(6,.rp 1 0),(7,.rp 2 0),(30,cF f.blocks),(31,I f.blocks.length),(32,I k),(9,.pt (bH b))]) ⟨D5 _ _ _,gi (by have:=M.lt;omega),gi (by have:=M.lt;omega),rfl,rfl,rfl,lE,trivial⟩,aj ?_⟩;have HP:TB (dh nx (bH b) (prog.cellsOf 59) _) (nx+1) F x7 (F.blocks.take k):=(M.mono (m':=up (up m nx (some (.cells (a6 prog 59) 59))) nx (some (.cells (bH b) 59))) (fun j hj=>(az _ _ oG).trans (az _ _ oG)) (a8 _)).nR (a8 _) oG;have cx:=M.lt;have ait:a6 prog 59=_:=z59;rw[ait] at HP;generalize dh nx (bH b) (prog.cellsOf 59) _=m1 at*
   clear M;refine ax ?_;refine er ?_;have ap:∀ {r},up (up m1 (nx+1) r) (nx+1) (some (.cells (bH b) 59)) (nx+1)=some (.cells (lF b.ins::bw b.fin) 59):=ah _ _ _;refine SS ?_;refine bM (eg (d:=.z) (cs':=_) rfl rfl ap rfl rfl) ak (bU V.h V.h (by first|(simp;done)|exact⟨rfl,bC rfl⟩|(simp;omega)) rfl) ?_;refine aa (aB (aw ?_));refine aZ ?_
   refine aa (bY (fun s=>∃ m' C,TB m' (nx+1) F x7 (F.blocks.take k)/\m' (nx+1)=some (.cells (bH b) 59)/\nx+2<=C/\aI prog s ⟨ay [(2,.fn (.func g) fs cs),(6,.rp 1 0),(7,.rp 2 0),(9,.pt (bH b)),(10,.rp (nx+1) 0),(30,cF f.blocks),(31,I f.blocks.length),(32,I k)],m',C⟩) (cy (α:=Nat×D×Mem×Nat)
    (fun s=>⟨ay [(2,.fn (.func g) fs cs),(6,.rp 1 0),(7,.rp 2 0),(9,.pt (bH b)),(10,.rp (nx+1) 0),(30,cF f.blocks),(31,I f.blocks.length),(32,I k),(39,lF b.ins),(40,I b.ins.length),(41,I s.1)],s.2.2.1,s.2.2.2⟩)
    (fun s=>s.1<=b.ins.length/\TB s.2.2.1 (nx+1) F x7 (F.blocks.take k)/\s.2.2.1 (nx+1)=some (.cells (s.2.1::bw b.fin) 59)/\Grow s.2.2.1 (nx+2) s.2.2.2 s.2.1 s.1 ((b.ins.take s.1).flatMap cv) 54/\nx+2<=s.2.2.2) (fun s=>b.ins.length - s.1) (0,.z,_,_)
    (av eH) ⟨Nat.zero_le _,HP.mono (fun j hj=>(az _ _ oG).trans ((az _ _ oG).trans (az _ _ oG))) (a8 _),ah _ _ _,.inl ⟨rfl,rfl,rfl⟩,oM⟩ ?_) ?_)
   .rintro⟨j,y0,m',C⟩ ⟨hj,wN,hq,hG,A3⟩;dsimp only at hj wN hq hG A3 ⊢;refine SS ?_;refine aa ⟨_,rfl,fun h=>?_,fun h=>?_⟩
    .have dq:j<b.ins.length:=by simpa using h
     clear h;obtain⟨y,hy⟩:∃ y,b.ins[j]? =some y:=⟨_,aU dq⟩
     have rF:=rF (l:=y.args) (M6 y (bD hy));have Um:b.ins.take (j+1)=b.ins.take j++[y]:=by rw[List.take_add_one,hy];rfl
     have Ni:((b.ins.take j).flatMap cv).length=j*6:=by
      rw[tg (sz:=6) (fun _=>rfl),List.length_take];congr 1;omega
     generalize b.ins.take j=l0 at*
     refine ws ?_;refine aZ ?_;refine er ?_;refine SS ?_;refine au (j7 rfl (ah _ _ _) rfl V.h) ak (j8 V.h V.h rfl) ?_;refine cl rF ?_;refine SS ?_;refine bM (eg (d:=.sl _ _) (cs':=_) rfl rfl (ah _ _ _) rfl rfl) ak (bU V.h V.h (by first|(simp;done)|exact⟨rfl,bC rfl⟩|(simp;omega)) rfl) ?_;refine aa (fC ?_);have ap:∀ {a J c},up (up (up m' C a) C J) C c (nx+1)=some (.cells (y0::bw b.fin) 59):=ag oG (ag oG (ag oG hq));have kd:(y0::bw b.fin).drop 0=y0::bw b.fin:=rfl;refine aZ ?_;rcases hG with⟨rfl,Eg,rfl⟩|⟨r,rG,s4,rfl,kJ⟩
     .refine eA (Ak rfl rfl V.h V.h (j5 (ah _ _ _) rfl)) ak ⟨V.h,(by first|omega|exact bC rfl|(simp;done)|(simp;omega)),oC,(by unfold maxLen;first|omega|(simp;omega)),(by rw[Nj];first|omega|(simp;omega))⟩ ?_;have ap:∀ {a J c d e2},up (up (up (up (up m' C a) C J) C c) (C+1) d) (C+1+1) e2 (nx+1)=some (.cells (.z::bw b.fin) 59):=ag oG (ag oG (ag oG (ag oG (ag oG hq))));refine ab ?_;refine aa ?_;refine ab ?_;refine aa (bg (0+1,.rs (C+1+1) 0 1,_,C+1+1+1) (av eH) ?_ oM);dsimp only;refine⟨oG,wN.mono (fun i hi=>(az _ _ oG).trans ((az _ _ oG).trans ((az _ _ oG).trans ((az _ _ oG).trans ((az _ _ oG).trans (az _ _ oG)))))) (a8 _),ah _ _ _,.inr ⟨C+1+1,oG,oG,rfl,(az _ _ oG).trans ((ah _ _ _).trans ?_)⟩,oG⟩;rw[Um,List.flatMap_append,Eg];simp;rfl
     .have gn:∀ {a J c d},up (up (up (up m' C a) C J) C c) (C+1) d r=some (.cells (l0.flatMap cv) 54):=ag oG (ag oG (ag oG (ag oG kJ)));refine iC (iw rfl gn rfl Vv Nk (j5 (ah _ _ _) rfl) rfl) aK ⟨Un,rfl,bC rfl,oC,by rw[Ni];omega,by unfold maxLen;omega,by rw[Nj];omega,by simp;omega⟩ ?_;have ap:∀ {a J c d e1 e2},up (up (up (up (up (up m' C a) C J) C c) (C+1) d) r e1) (C+1+1) e2 (nx+1)=some (.cells (.rs r 0 j::bw b.fin) 59):=ag oG (ag oG (ag oG (ag oG (ag oG (ag oG hq)))));refine ab ?_;refine aa ?_;refine ab ?_;refine aa (bg (j+1,.rs (C+1+1) 0 (j+1),_,C+1+1+1) (av eH) ?_ oM);dsimp only;refine⟨oG,wN.mono (fun i hi=>(az _ _ oG).trans ((az _ _ oG).trans ((az _ _ oG).trans ((az _ _ oG).trans ((az _ _ oG).trans ((az _ _ oG).trans (az _ _ oG))))))) (a8 _),ah _ _ _,.inr ⟨C+1+1,oG,oG,rfl,(az _ _ oG).trans ((ah _ _ _).trans ?_)⟩,oG⟩;rw[Um,List.flatMap_append];simp;rfl
    .have bl:¬ j<b.ins.length:=by simpa using h
     have:j=b.ins.length:=by omega
     subst this;rw[List.take_length] at hG;rcases hG with⟨h0,Eg,rfl⟩|⟨r,rG,s4,rfl,kJ⟩
     .have hC:b.ins=[]:=List.length_eq_zero_iff.1 h0;refine⟨up m' (nx+1) (some (.cells (bH b) 59)),C,wN.mono (fun j hj=>az _ _ oG) (a8 _),ah _ _ _,A3,?_⟩;refine(av (l:=[(2,.fn (.func g) fs cs),(6,.rp 1 0),(7,.rp 2 0),(9,.pt (bH b)),(10,.rp (nx+1) 0),(30,cF f.blocks),(31,I f.blocks.length),(32,I k)]) eH).trans (aI.nv _ _ _ _ _ (fun t=>tG _) fun i=>?_);by_cases hi:i=nx+1
      .subst hi;refine .inr ⟨_,bH b,59,hq,ah _ _ _,rfl,fun k d d' hd fa=>?_⟩;cases k with
       |zero=>
        simp only[List.getElem?_cons_zero,aG,bH] at hd fa;subst hd fa;rw[hC];exact A4
       |succ k=>
        simp only[List.getElem?_cons_succ,bH] at hd fa;rw[hd] at fa;cases fa;exact tG _
      .exact .inl (az _ _ hi)
     .refine⟨dh r _ (prog.cellsOf 54) m',C,wN.nR oG (a8 _),?_,A3,lz kJ ⟨D5 _ _ _,gi oG,gi oG,rfl,gi oG,rfl,rfl,rfl,trivial⟩⟩;unfold dh;rw[if_neg oG,hq];show some (Row.cells (sub (cE r (b.ins.flatMap cv) (prog.cellsOf 54)) (.rs r 0 b.ins.length)::bw b.fin) 59)=_;rw[yh,Nk,List.drop_zero,B' (f:=cv) (sz:=6) (fun _=>rfl),List.take_length];rfl
   .rintro s ⟨m',C,wN,hq,A3,dR⟩;refine⟨_,dR,?_⟩;clear dR;have kA:=rF (l:=b.fin.args) gv;have Nf:=Nf (l:=b.fin.aR) oG;have kI:=rF (l:=b.fin.ins.args) hb5;refine ep Zk ?_;have ap:=hq;refine ax ?_;refine qX kA rfl aK ?_;refine ax ?_;refine cl Nf ?_;refine aZ ?_;refine qX kI rfl aK ?_;refine ax ?_;have ap:∀ {a},up m' (nx+1) a (nx+1)=a:=ah _ _ _;refine ax ?_;have ap:∀ {a J},up (up m' (nx+1) a) (nx+1) J (nx+1)=J:=ah _ _ _;refine aZ ?_;refine ct cG ?_;refine iL (fun s=>∃ U,TB U (nx+1) F x7 (F.blocks.take k)/\U (nx+1)=some (.cells (bH (cK to b)) 59)/\aI prog s ⟨ay [(2,.fn (.func g) fs cs),(6,.rp 1 0),(7,.rp 2 0),(9,.pt (bH b)),(10,.rp (nx+1) 0),(30,cF f.blocks),(31,I f.blocks.length),(32,I k)],U,C⟩) ?_ ?_
    .refine ws ?_;refine dG ?_;refine ab ?_;refine aa (aO rfl (fun hp=>sf ?_) fun hp=>cJ ?_)
     .have hc:eC b=true:=by
       show(decide (b.fin.kind=6)||decide (b.fin.kind=7))=true;revert hp;cases h6:(b.fin.kind==6)<;>simp_all
      have kc:=hgb hc;have ap:∀ {a J c},up (up (up m' (nx+1) a) (nx+1) J) (nx+1) c (nx+1)=c:=ah _ _ _;refine aZ ?_;refine cl kc ?_;refine ab ?_;refine bM (eg (d:=.s (.string _)) (cs':=_) rfl rfl ap rfl rfl) ak (bU V.h V.h (by first|(simp;done)|exact⟨rfl,bC rfl⟩|(simp;omega)) rfl) ?_;refine aa ⟨_,wN.mono (fun i hi=>(az _ _ oG).trans ((az _ _ oG).trans ((az _ _ oG).trans (az _ _ oG)))) (a8 _),?_,av eH⟩;rw[cK,if_pos hc];exact ah _ _ _
     .have hc:¬ eC b=true:=by
       show ¬ (decide (b.fin.kind=6)||decide (b.fin.kind=7))=true;revert hp;cases h6:(b.fin.kind==6)<;>simp_all
      refine⟨_,wN.mono (fun i hi=>(az _ _ oG).trans ((az _ _ oG).trans (az _ _ oG))) (a8 _),?_,av eH⟩;rw[cK,if_neg hc];exact ah _ _ _
    .rintro s ⟨U,BB,yS,dR⟩;refine⟨_,dR,fC ?_⟩;clear dR;have lk:(F.blocks.take k).length=k:=by rw[List.length_take];omega
     have lc:((F.blocks.take k).flatMap bH).length=k*16:=by rw[tg (sz:=16) (fun _=>rfl),lk]
     have ap:=BB.r2;have kd:(headD F x7).drop (0+7)=x7::[]:=rfl;refine ab ?_;have ap:=yS;refine au (eL (vs:=bH _) rfl ap V.h V.h rfl) ak (eM V.h V.h (by first|(simp;done)|omega|exact bC rfl)) ?_;refine SS ?_;rcases BB.gr with⟨h0,Eg,rfl⟩|⟨r,rG,s4,rfl,kJ⟩
     .refine eA (Ak rfl rfl V.h V.h (j5 (ah _ _ _) rfl)) ak ⟨V.h,(by first|omega|exact bC rfl|(simp;done)|(simp;omega)),oC,(by unfold maxLen;first|omega|(simp;omega)),(by rw[HT];first|omega|(simp;omega))⟩ ?_;have ap:∀ {a J},up (up U C a) (C+1) J 2=some (.cells (headD F .z) 48):=ag oG (ag oG BB.r2);refine ab ?_;refine aa ?_;refine ab ?_;refine aa (bg (k+1,.rs (C+1) 0 1,_,C+1+1) (av eH) ?_ oM);dsimp only;have sW:k=0:=by omega
      subst sW;refine⟨oG,(az _ _ oG).trans ((az _ _ oG).trans BB.r1),rfl,oG,.inr ⟨C+1,oG,oG,?_,(az _ _ oG).trans ((ah _ _ _).trans ?_)⟩⟩
      .rw[dA];rfl
      .rw[dA,List.flatMap_append,Eg];simp;rfl
     .have gn:∀ {a},up U C a r=some (.cells ((F.blocks.take k).flatMap bH) 59):=ag oG kJ;refine iC (iw rfl gn rfl Nl Eh (j5 (ah _ _ _) rfl) rfl) aK ⟨L2,rfl,bC rfl,oC,by rw[lc,lk];omega,by unfold maxLen;omega,by rw[HT];omega,by simp;omega⟩ ?_;have ap:∀ {a J c},up (up (up U C a) r J) (C+1) c 2=some (.cells (headD F (.rs r 0 (F.blocks.take k).length)) 48):=ag oG (ag oG (ag oG BB.r2));refine ab ?_;refine aa ?_;refine ab ?_;refine aa (bg (k+1,.rs (C+1) 0 ((F.blocks.take k).length+1),_,C+1+1) (av eH) ?_ oM);dsimp only;refine⟨oG,(az _ _ oG).trans ((az _ _ oG).trans ((az _ _ oG).trans BB.r1)),rfl,oG,.inr ⟨C+1,oG,oG,?_,(az _ _ oG).trans ((ah _ _ _).trans ?_)⟩⟩
      .rw[dA,List.length_append];rfl
      .rw[dA,List.flatMap_append];simp;rfl
  .have bl:¬ k<f.blocks.length:=by simpa using h
   have:k=f.blocks.length:=by omega
   subst this;rw[df oG] at M;exact⟨x7,m,nx,M,av eH⟩
 .rintro s ⟨x,m,nx,M,dR⟩
  have nN:∃ U gM,aI prog s ⟨ay [(6,.rp 1 0),(7,.rp 2 0)],U,gM⟩/\U 1=some (.cells gW 48)/\U 2=some (.cells (aM F) 48):=by
   rcases M.gr with⟨h0,Eg,rfl⟩|⟨r,rG,s4,rfl,kJ⟩
   .have hC:F.blocks=[]:=List.length_eq_zero_iff.1 h0;refine⟨up m 2 (some (.cells (aM F) 48)),nx,dR.trans (aI.nv _ _ _ _ _ (fun t=>tG _) fun i=>?_),(az _ _ oG).trans M.r1,ah _ _ _⟩;by_cases hi:i=2
    .subst hi;refine .inr ⟨_,aM F,48,M.r2,ah _ _ _,rfl,fun k d d' hd fa=>?_⟩
     match k with
     |0|1|2|3|4|5|6=>cases (show some d=some d' from hd.symm.trans fa);exact tG _
     |7=>
      have e1:(headD F .z)[7]? =some .z:=rfl;have e2:(aM F)[7]? =some (cF F.blocks):=rfl;rw[e1] at hd;rw[e2] at fa;cases hd;cases fa;rw[hC];exact A4
     |k+8=>simp[headD] at hd
    .exact .inl (az _ _ hi)
   .refine⟨dh r _ (prog.cellsOf 59) m,nx,dR.trans (lz kJ ⟨gi oG,gi oG,trivial⟩),gS M.r1 oG (.cells OH),?_⟩;unfold dh;rw[if_neg oG,M.r2];show some (Row.cells (headD F (sub (cE r (F.blocks.flatMap bH) (prog.cellsOf 59)) (.rs r 0 F.blocks.length))) 48)=_;rw[yh,Eh,List.drop_zero,B' (f:=bH) (sz:=16) (fun _=>rfl),List.take_length];rfl
  obtain⟨U,gM,Ei,q1,q2⟩:=nN;refine⟨_,Ei,aj ?_⟩;clear Ei dR;have ap:=q2;refine SS ?_;have ap:=q1;refine bM (fk (cs':=aM _) rfl rfl ap rfl) ak (bU V.h V.h (by first|(simp;done)|exact⟨rfl,bC rfl⟩|(simp;omega)) (by rfl)) ?_;exact aa (qT (gy (cs:=aM F) (vs:=aM F) rfl rfl wJ mg rfl t48 (bC rfl)) rfl)
end Go.Proofs.Tryz.K
namespace Go.Argus
theorem RP{f:al}{l:List al}(hl:l.length<=1000000)(h:∀ g∈l,fg g=0)(hf:f∈l):J3 f l:=by
 have C:=checked (h f hf);have M:=KI C
 have J:∀ b∈f.blocks,jh f b.fin=true:=fun b hb=>by
  unfold nb at C;simp only[bf] at C;obtain⟨k,hk⟩:=eS hb;have:=bS.1 C.2.2.2.1 k (List.mem_range.2 (bK.1 hk).1);unfold lH at this;rw[getD_some hk] at this;simp only[bf] at this;exact this.1
 refine⟨hl,by have:=M.j4;omega,fun b hb hk=>?_,fun b hb hk=>?_,fun b hb hk=>?_,fun g hg=>?_⟩
 .have:=J b hb;unfold jh at this;rcases hk with hk|hk<;>simp only[eD,hk,Int.reduceEq,if_false,if_true,bf,decide_eq_true_eq] at this<;>exact⟨fun r hr=>tw this.1.2.2.1 r hr,by have:=this.1.2.1;omega⟩
 .have:=J b hb;unfold jh at this;simp only[eD,hk,Int.reduceEq,if_false,if_true,bf,decide_eq_true_eq,Bool.or_eq_true,gQ] at this;rcases this.1.2.2.2.1 with h1|h1
  .omega
  .exact(rR h1).2
 .have:=J b hb;unfold jh at this;simp only[eD,hk,Int.reduceEq,if_false,if_true,bf,decide_eq_true_eq] at this;exact rR this.1.2.1
 .have:=checked (h g hg);unfold nb tL at this;simp only[bf] at this;have:=kU.1 this.1.2.1;split at this<;>omega
structure lM(l:List al):Prop where
 len:l.length<=60
 rH:∀ f∈l,fg f=0
 zE:∀ i,i+1<l.length->Op.bytesLess (oU l i).toList (oU l (i+1)).toList=true
 calls:∀ f∈l,tT f l=true
theorem sk{l:List al}(h:(di l).2=0):lM l:=by
 unfold di at h;split at h
 .cases h
 .rename_i J;split at h
  .rename_i i hi;have:=List.find?_some hi;simp only[bne_iff_ne,ne_eq] at this;exact absurd h this
  .rename_i hn;split at h
   .cases h
   .rename_i hc;rw[List.find?_eq_none] at hn hc
    have h1:∀ i,i<l.length->kV l i=0:=fun i hi=>by
     have:=hn i (List.mem_range.2 hi);simpa using this
    have C:∀ f∈l,fg f=0:=fun f hf=>by
     obtain⟨i,hi⟩:=eS hf;have:=h1 i (bK.1 hi).1;unfold kV at this;rw[hi] at this;simp only at this;split at this
     .assumption
     .exact this
    refine⟨oG,C,fun i hi=>?_,fun f hf=>?_⟩
    .have:=h1 (i+1) hi;obtain⟨f,hf⟩:∃ f,l[i+1]? =some f:=⟨_,aU hi⟩
     unfold kV at this;rw[hf] at this;simp only[C f (bD hf),if_true] at this;have e:oU l (i+1)=f.name:=by unfold oU;rw[hf]
     rw[e];cases hs:A1 (oU l i) f.name with
     |false=>unfold A1 at hs;simpa using hs
     |true=>
      rw[show i+1 - 1=i by omega,hs] at this;simp at this
    .obtain⟨i,hi⟩:=eS hf;have:=hc i (List.mem_range.2 (bK.1 hi).1);unfold vj at this;rw[hi] at this;simpa using this
theorem Rg:∀ a:List UInt8,Op.bytesLess a a=false
 |[]=>rfl
 |x::a=>by
  have:=Rg a;unfold Op.bytesLess;simp[this]
theorem Pw:∀ {a b c:List UInt8},Op.bytesLess a b=true->Op.bytesLess b c=true->Op.bytesLess a c=true
 |[],[],_,h,_=>by simp[Op.bytesLess] at h
 |_::_,[],_,h,_=>by simp[Op.bytesLess] at h
 |_,_::_,[],_,h=>by simp[Op.bytesLess] at h
 |[],_::_,_::_,_,_=>by simp[Op.bytesLess]
 |x::a,y::b,z::c,h1,h2=>by
  simp only[Op.bytesLess,Bool.or_eq_true,bf,decide_eq_true_eq,beq_iff_eq] at h1 h2 ⊢;rcases h1 with h1|⟨rfl,h1⟩
  .rcases h2 with h2|⟨rfl,h2⟩
   .exact .inl (UInt8.lt_trans h1 h2)
   .exact .inl h1
  .rcases h2 with h2|⟨rfl,h2⟩
   .exact .inl h2
   .exact .inr ⟨rfl,Pw h1 h2⟩
section
variable{κ:Type}[DecidableEq κ]
theorem JA{fs:List κ}{k:κ}:eE fs k=true↔k∈fs:=by unfold eE;rw[decide_eq_true_eq]
theorem abL{fs:List κ}{k:κ}:eE fs k=false↔k∉fs:=by unfold eE;rw[decide_eq_false_iff_not]
theorem J5{fs:List κ}{k:κ}(h:eE fs k=true):jm fs k<fs.length:=List.idxOf_lt_length_of_mem (JA.1 h)
theorem abp{fs:List κ}{k:κ}(h:eE fs k=true):fs[jm fs k]? =some k:=by
 have h1:=J5 h;rw[aU h1];exact congrArg some (List.getElem_idxOf h1)
end
abbrev gj(l:List al):List ByteArray:=l.map (·.name)
theorem Oj{l:List al}{i:Nat}{f:al}(h:l[i]? =some f):oU l i=f.name:=by unfold oU;rw[h]
theorem lM.less{l:List al}(h:lM l):∀ {i j:Nat},i<j->j<l.length->Op.bytesLess (oU l i).toList (oU l j).toList=true
 |i,0,po,_=>absurd po (Nat.not_lt_zero i)
 |i,j+1,po,hj=>by
  have h1:=h.zE j hj;by_cases e:i=j
  .subst e;exact h1
  .exact Pw (h.less (show i<j by omega) oG) h1
theorem lM.nodup{l:List al}(h:lM l):(gj l).Nodup:=by
 rw[List.nodup_iff_pairwise_ne,List.pairwise_iff_getElem];intro i j hi hj M e;have J:i<l.length:=by simpa using hi
 have C:j<l.length:=by simpa using hj
 have h1:=h.less M C;rw[Oj (aU J),Oj (aU C)] at h1;simp only[List.getElem_map] at e;rw[e,Rg] at h1;cases h1
theorem lM.fresh{l:List al}(h:lM l){k:Nat}{f:al}(hf:l[k]? =some f):eE ((gj l).take k) f.name=false:=by
 rw[abL];intro hm;obtain⟨i,hi⟩:=eS hm;have C:i<k:=by have:=(bK.1 hi).1;simp at this;omega
 rw[List.getElem?_take,if_pos C] at hi;have hk:(gj l)[k]? =some f.name:=by simp[hf]
 have:=(List.getElem?_inj (bK.1 hi).1 h.nodup).1 (hi.trans hk.symm);omega
def fA(l:List al)(s:ByteArray):Nat:=if eE (gj l) s then jm (gj l) s else 0
def aY(l:List al):List (List Nat):=l.map fun f=>(bV f.blocks).map (fA l)
def bA(l:List al):List ByteArray:=l.map ng
def c6(l:List al):List Nat:=br (bA l)
@[simp] theorem Rh (l : List al) : (aY l).length = l.length := by simp [aY]
@[simp] theorem amq (l : List al) : (c6 l).length = l.length := by simp [c6, bA]
theorem lM.known{l:List al}(h:lM l){f:al}(hf:f∈l){s:ByteArray}(hs:s∈bV f.blocks):eE (gj l) s=true:=by
 unfold bV at hs;obtain⟨b,hb,rfl⟩:=List.mem_map.1 hs;rw[List.mem_filter] at hb;have hc:=bS.1 (h.calls f hf) b hb.1;have hk:=hb.2;unfold eC at hk;simp only[Bool.or_eq_true,decide_eq_true_eq] at hk
 have C:∃ g,findF l b.fin.name=some g:=by
  unfold jg at hc;rcases hk with hk|hk
  .rw[if_pos hk] at hc;unfold yf at hc;split at hc
   .cases hc
   .rename_i g hg;exact⟨g,hg⟩
  .rw[if_neg oG,if_pos hk] at hc;unfold yg at hc;split at hc
   .cases hc
   .rename_i g hg;exact⟨g,hg⟩
 obtain⟨g,hg⟩:=C;have h1:=List.mem_of_find?_eq_some hg;have h2:=List.find?_some hg
 have:g.name=b.fin.name:=by
  simp only[beq_iff_eq] at h2;rw[qF,qF] at h2;exact vB h2
 rw[JA, <- this];exact List.mem_map_of_mem h1
theorem KF{l:List al}{s:ByteArray}(h:eE (gj l) s=true):fA l s<l.length:=by
 unfold fA;rw[if_pos h];have:=J5 h;simpa using this
theorem Ff{l:List al}{i:Nat}{f:al}(h:l[i]? =some f):(aY l).getD i []=(bV f.blocks).map (fA l):=getD_some (by simp[aY,h])
theorem lM.A7{l:List al}(h:lM l):DG (aY l):=fun i t ht=>by
 cases hf:l[i]? with
 |none=>
  have:(aY l)[i]? =none:=by simp[aY,hf]
  rw[dx,this] at ht;cases ht
 |some f=>
  rw[Ff hf] at ht;obtain⟨s,hs,rfl⟩:=List.mem_map.1 ht;rw[Rh];exact KF (h.known (bD hf) hs)
theorem lM.GZ{l:List al}(h:lM l):Lb (c6 l) (aY l):=fun a b ha hb e=>by
 rw[Rh] at ha hb;obtain⟨f,hf⟩:∃ f,l[a]? =some f:=⟨_,aU ha⟩
 obtain⟨g,hg⟩:∃ g,l[b]? =some g:=⟨_,aU hb⟩
 rw[Ff hf,Ff hg,List.length_map,List.length_map];have h1:(bA l)[a]? =some (ng f):=by simp[bA,hf]
 have h2:(bA l)[b]? =some (ng g):=by simp[bA,hg]
 refine OJ (h.rH f (bD hf)) (h.rH g (bD hg)) ((Jz h1 h2).1 ?_);have e1:(c6 l)[a]? =some ((c6 l).getD a 0):=eU (by simpa using ha);have e2:(c6 l)[b]? =some ((c6 l).getD b 0):=eU (by simpa using hb);unfold c6 at e1 e2 e;rw[e1,e2,e]
def q6(l:List al):List D:=if(di l).2=0 then cS l (bA l) ((aY l).map ao) else [.z,.z,.z]
theorem QK(l:List al):∀ a∈q6 l,Tr a:=by
 unfold q6;split
 .exact E' _ _ _
 .exact .cons .z (.cons .z (.cons .z .nil))
theorem zX{l:List al}(h:(di l).2=0):q6 l=cS l (bA l) ((aY l).map ao):=if_pos h
theorem Ca{l:List al}(h:(di l).2≠0):q6 l=[.z,.z,.z]:=if_neg h
theorem aaX{s:ByteArray}{fs:List ByteArray}{k:Nat}(hk:fs.length=k)(h:eE fs s=false):fV (.string s) (I (k:Nat)) (eQ fs)=eQ (fs++[s]):=by
 subst hk;exact RO h
structure OB(m:Mem)(q nx:Nat)(l:List al)(x1 x2:D)(sh:List ByteArray)(ca:List (List Int)):Prop where
 r0:m 0=some (.cells [.z,.z,.z] 82)
 rq:m q=some (.cells [bc l,x1,x2] 82)
 lt:0<q/\q<nx
 gr:(sh=[]/\ca=[]/\x1=.z/\x2=.z)\/∃ r1 r2,r1≠r2/\q<r1/\r1<nx/\q<r2/\r2<nx/\x1=.rs r1 0 sh.length/\x2=.rs r2 0 ca.length/\m r1=some (.cells (sh.map S) 9)/\m r2=some (.cells (ca.map aP) 43)
theorem OB.mono{m m':Mem}{q nx C:Nat}{l:List al}{x1 x2:D}{sh:List ByteArray}{ca:List (List Int)}(h:OB m q nx l x1 x2 sh ca)(hm:∀ j,j<nx->m' j=m j)(hn:nx<=C):OB m' q C l x1 x2 sh ca:=by
 refine⟨by rw[hm 0 (by have:=h.lt;omega)];exact h.r0,by rw[hm q h.lt.2];exact h.rq,by have:=h.lt;omega,?_⟩;rcases h.gr with g|⟨r1,r2,J,M,U,X,g5,g6,g7,g8,g9⟩
 .exact .inl g
 .exact .inr ⟨r1,r2,J,M,oG,X,oG,g6,g7,by rw[hm r1 U,g8],by rw[hm r2 g5,g9]⟩
theorem acs{X:Nat->Prop}(l:List ByteArray):∀ d∈l.map S,fG X d:=fun d hd=>by
 obtain⟨s,_,rfl⟩:=List.mem_map.1 hd;exact .s _
theorem Pb{X:Nat->Prop}(l:List (List Int)):∀ d∈l.map aP,fG X d:=fun d hd=>by
 obtain⟨s,_,rfl⟩:=List.mem_map.1 hd;exact .sl _ _
theorem OB.nR{m:Mem}{q nx X i sz:Nat}{l:List al}{x1 x2:D}{sh:List ByteArray}{ca:List (List Int)}{cs:List D}(h:OB m q nx l x1 x2 sh ca)(hi:nx<=i)(hn:nx<=X):OB (dh i cs sz m) q X l x1 x2 sh ca:=by
 have hz:∀ d∈[D.z,.z,.z],fG (fun k=>k=i) d:=fun d hd=>by
  simp only[List.mem_cons,List.not_mem_nil,or_false,or_self] at hd;subst hd;exact .z
 refine⟨gS h.r0 (by have:=h.lt;omega) (.cells hz),?_,by have:=h.lt;omega,?_⟩
 .refine gS h.rq (by have:=h.lt;omega) (.cells fun d hd=>?_);simp only[List.mem_cons,List.not_mem_nil,or_false] at hd;rcases h.gr with⟨_,_,C,J⟩|⟨r1,r2,C,J,g3,g4,g5,M,U,g8,g9⟩
  .subst C J;rcases hd with rfl|rfl|rfl
   .exact .sl _ _
   .exact .z
   .exact .z
  .subst M U;rcases hd with rfl|rfl|rfl
   .exact .sl _ _
   .exact .rs oG
   .exact .rs oG
 .rcases h.gr with g|⟨r1,r2,C,J,g3,g4,g5,M,U,g8,g9⟩
  .exact .inl g
  .exact .inr ⟨r1,r2,C,J,oG,g4,oG,M,U,gS g8 oG (.cells (acs _)),gS g9 oG (.cells (Pb _))⟩
end Go.Argus
namespace Go.Proofs.Tryz.K
theorem Nn{f:al}(h:fg f=0):aA prog 67 [.agg (aM f)] (S (ng f)):=by
 have hb:=tH (Go.Argus.checked h)
 have zq:aA prog 57 [.agg (aM f),S kP,.fn (.func 112) [] []] (.agg (aM (vP f))):=zq (to:=fun _=>kP) (.fn oS oS) (fun X i cs sz _=>rfl) (fun b _ _=>aik) (by have:=hb.aT;omega) (by have:=hb.cm;omega) (by have:=hb.sigs;omega) (by have:=hb.j4;omega) fun b C=>by
  have h1:=hb.bF b C;have h2:=h1.len;have J:=h1.fin.len;have M:=h1.fin.aR;have U:=h1.fin.ins.len;exact⟨oG,fun x hx=>by have:=(h1.ins x hx).len;omega,oG,oG,oG⟩
 have Hl:=Hl (f:=vP f) fun _=>adz (Jy h);rw[Pc h,if_pos rfl] at Hl;refine bj aiu (.cons (.agg (kQ f)) .nil) (Tr.s _) ?_;rw[aiv];refine aw ?_;refine ab ?_;refine aa (bG (dB [(0,aM f,48)] eH (l:=[(1,.pt (aM f))]) eH) (aj ?_));refine SS ?_;refine cl zq ?_;refine cl Hl ?_;refine SS ?_;refine au (qD (v:=.s (.string _)) rfl rfl) ak (by first|decide|simp) ?_;refine ax ?_;refine er ?_;refine ab ?_;exact aa (aF rfl rfl)
theorem aaY(s:ByteArray)(fs:List ByteArray):fv prog 144 false (cN (.string s) (eQ fs))=I (if eE fs s then(jm fs s:Nat) else 0:Nat):=by
 rw[Jx];cases eE fs s with
 |true=>rfl
 |false=>
  show lN prog (lh prog 144)=_;rw[Tu];rfl
theorem gO{l:List al}(hl:l.length<=1000):aA prog 43 [bc l] (.aL [.agg (q6 l),I (di l).2]):=by
 have wL:=wL (l:=l) (fun h f hf=>RP oG h hf) oG;refine bj aiw (.cons (gP l) .nil) (.aL (.cons (.agg (QK l)) (.cons (.s _) .nil))) ?_;rw[aix];refine ws ?_;refine ab ?_;refine aa (aB (aj ?_));refine SS ?_;refine cl wL ?_;refine bu ?_;refine aa (aB (aj ?_));refine ab ?_;have A5:=sk (l:=l);have sS:=zX (l:=l);have yB:=Ca (l:=l);generalize (di l).2=err at*
 generalize q6 l=oD at*
 refine aa (cR rfl (fun h=>aB (aj ?_)) fun h=>cI (aj ?_))
 .have h:err≠0:=by simpa using h
  rw[yB h];refine aZ ?_;exact aa (ed (mW (gy rfl rfl s5 mT rfl t82 (a8 3)) rfl rfl))
 have h:err=0:=by simpa using h
 subst h;have hL:=A5 rfl;rw[sS rfl];clear sS yB A5 wL;refine ab ?_;refine aa (aB (aw ?_));refine ax ?_
 refine aa (bY (fun s=>∃ nx,0<nx/\aI prog s ⟨ay [(0,bc l),(2,.rp 0 0),(6,.im (eQ (gj l)))],a7 [(0,.cells [.z,.z,.z] 82)],nx⟩) (cy (α:=Nat×Nat)
  (fun s=>⟨ay [(0,bc l),(2,.rp 0 0),(6,.mp 1),(25,bc l),(26,I l.length),(27,I s.1)],a7 [(0,.cells [.z,.z,.z] 82),(1,.map (eQ ((gj l).take s.1)))],s.2⟩)
  (fun s=>s.1<=l.length/\1<s.2) (fun s=>l.length - s.1) (0,_) (bQ eH eH) ⟨Nat.zero_le _,oM⟩ ?_) ?_)
 .rintro⟨k,nx⟩ ⟨hk,cx⟩;dsimp only at hk cx ⊢;refine SS ?_;refine aa ⟨_,rfl,fun h=>?_,fun h=>?_⟩
  .have af:k<l.length:=by simpa using h
   clear h;obtain⟨f,hf⟩:∃ f,l[k]? =some f:=⟨_,aU af⟩
   have MV:=hL.fresh hf;have dA:(gj l).take (k+1)=(gj l).take k++[f.name]:=by rw[List.take_add_one,List.getElem?_map,hf];rfl
   have pq:((gj l).take k).length=k:=by simp;omega
   generalize (gj l).take k=fs at*
   refine ws ?_;refine cr ?_;refine aa (fC ?_);have ap:∀ {a b},up (up (a7 [(0,.cells [.z,.z,.z] 82),(1,.map (eQ fs))]) nx a) nx b nx=b:=ah _ _ _;have ae7:∀ {a b},up (up (a7 [(0,.cells [.z,.z,.z] 82),(1,.map (eQ fs))]) nx a) nx b 1=some (.map (eQ fs)):=ag oG (ag oG rfl);have kd:(aM f).drop (0+0)=S f.name::(aM f).drop 1:=rfl;refine aZ ?_;refine bM (xC (key:=.string f.name) (v:=I (k:Nat)) rfl ae7 rfl rfl Dh) aK ⟨Di,vO _,GY fs⟩ ?_;rw[aaX pq MV];refine aa ?_;refine ab ?_;refine aa (bg (k+1,nx+1) ?_ ⟨oM,oM⟩ oM);dsimp only;rw[dA];exact bQ eH ⟨ag oG (ag oG (ag oG rfl)),ah _ _ _,trivial⟩
  .have bl:¬ k<l.length:=by simpa using h
   have:k=l.length:=by omega
   subst this;rw[df oS];exact⟨nx,oG,(aI.Cm _ _ _ 1 (eQ (gj l)) rfl).trans (bQ eH eH)⟩
 .rintro s ⟨q,No,U⟩;refine⟨_,U,aj ?_⟩;clear U;refine aZ ?_;refine aa (aB (aw ?_));refine ax ?_;have mP:(bA l).length=l.length:=by simp[bA]
  have dz:((aY l).map ao).length=l.length:=by simp
  refine aa (bY (fun s=>∃ x1 x2 m nx,OB m q nx l x1 x2 (bA l) ((aY l).map ao)/\aI prog s ⟨ay [(2,.rp 0 0),(9,.rp q 0)],m,nx⟩) (cy (α:=Nat×D×D×Mem×Nat)
   (fun s=>⟨ay [(2,.rp 0 0),(6,.im (eQ (gj l))),(9,.rp q 0),(39,bc l),(40,I l.length),(41,I s.1)],s.2.2.2.1,s.2.2.2.2⟩)
   (fun s=>s.1<=l.length/\OB s.2.2.2.1 q s.2.2.2.2 l s.2.1 s.2.2.1 ((bA l).take s.1) (((aY l).map ao).take s.1)) (fun s=>l.length - s.1) (0,.z,.z,_,_)
   (av eH) ⟨Nat.zero_le _,⟨ag oG (ag oG rfl),ah _ _ _,⟨No,oM⟩,.inl ⟨rfl,rfl,rfl,rfl⟩⟩⟩ ?_) ?_)
  .rintro⟨k,x1,x2,m,nx⟩ ⟨hk,J⟩;dsimp only at hk J ⊢;refine SS ?_;refine aa ⟨_,rfl,fun h=>?_,fun h=>?_⟩
   .have af:k<l.length:=by simpa using h
    clear h;obtain⟨f,hf⟩:∃ f,l[k]? =some f:=⟨_,aU af⟩
    have ql:=bD hf;have j0:=hL.rH f ql;have HU:=tH (Go.Argus.checked j0);have Nb:=Nb (f:=f) (by have:=HU.j4;omega);have Nn:=Nn j0;have y8:(bV f.blocks).length<=100000:=by have:=tk f.blocks;have:=HU.j4;omega
    have iX:(bA l).take (k+1)=(bA l).take k++[ng f]:=by
     have:(bA l)[k]? =some (ng f):=by simp[bA,hf]
     rw[List.take_add_one,this];rfl
    have HV:((aY l).map ao).take (k+1)=((aY l).map ao).take k++[ao ((bV f.blocks).map (fA l))]:=by
     have:((aY l).map ao)[k]? =some (ao ((bV f.blocks).map (fA l))):=by simp[aY,hf]
     rw[List.take_add_one,this];rfl
    have Np:((bA l).take k).length=k:=by rw[List.length_take];omega
    have Vw:(((aY l).map ao).take k).length=k:=by rw[List.length_take];omega
    generalize (bA l).take k=sh at*
    generalize ((aY l).map ao).take k=ca at*
    generalize bV f.blocks=cs at*
    generalize ng f=eK at*
    have amE:=J.lt;refine ws ?_;refine aZ ?_;refine aa (aw ?_);refine SS ?_;refine aa ⟨_,.o0 _ _ _ 12 3 rfl,aB (aw ?_)⟩;have ap:∀ {a b c},up (up (up m nx a) nx b) (nx+1) c nx=b:=ag oG (ah _ _ _);refine SS ?_;refine cl Nb ?_;refine ab ?_
    refine aa (bY (fun s=>∃ m' C,OB m' q nx l x1 x2 sh ca/\m' nx=some (.cells (aM f) 48)/\nx+1<=C/\aI prog s ⟨ay [(2,.rp 0 0),(6,.im (eQ (gj l))),(9,.rp q 0),(11,.rp nx 0),(12,aP (ao (cs.map (fA l)))),(39,bc l),(40,I l.length),(41,I k)],m',C⟩) (cy (α:=Nat×Nat×Mem×Nat)
     (fun s=>⟨ay [(2,.rp 0 0),(6,.im (eQ (gj l))),(9,.rp q 0),(11,.rp nx 0),(12,.rs s.2.1 0 s.1),(39,bc l),(40,I l.length),(41,I k),(46,bI cs),(47,I cs.length),(48,I s.1)],s.2.2.1,s.2.2.2⟩)
     (fun s=>s.1<=cs.length/\OB s.2.2.1 q nx l x1 x2 sh ca/\s.2.2.1 nx=some (.cells (aM f) 48)/\nx<s.2.1/\s.2.1<s.2.2.2/\s.2.2.1 s.2.1=some (.cells ((ao ((cs.take s.1).map (fA l))).map I) 3)) (fun s=>cs.length - s.1) (0,nx+1,_,_)
     (av eH) ⟨Nat.zero_le _,J.mono (fun j hj=>(az _ _ oG).trans ((az _ _ oG).trans (az _ _ oG))) (a8 _),ap,oM,oM,ah _ _ _⟩ ?_) ?_)
    .rintro⟨j,r,m',C⟩ ⟨hj,M,zi,rG,s4,kJ⟩;dsimp only at hj M zi rG s4 kJ ⊢;refine SS ?_;refine aa ⟨_,rfl,fun h=>?_,fun h=>?_⟩
     .have dq:j<cs.length:=by simpa using h
      clear h;obtain⟨y,hy⟩:∃ y,cs[j]? =some y:=⟨_,aU dq⟩
      have Vx:ao ((cs.take (j+1)).map (fA l))=ao ((cs.take j).map (fA l))++[((fA l y:Nat):Int)]:=by rw[List.take_add_one,hy];simp[ao]
      have Ni:(ao ((cs.take j).map (fA l))).length=j:=by simp;omega
      generalize ao ((cs.take j).map (fA l))=out at*
      have ap:=kJ;have mQ:(out.map I).length=j:=by simpa using Ni
      refine ws ?_;refine ax ?_;refine aa (fC ?_);refine ax ?_;refine au (zM rfl rfl Dh (aaY y (gj l))) aK ⟨Di,vO y,GY _⟩ ?_;refine ax ?_;refine aa ?_;refine ab ?_;refine aa (bg (j+1,C+1,_,C+1+1) (av eH) ?_ oM);dsimp only;refine⟨oG,M.mono (fun i hi=>(az _ _ oG).trans ((az _ _ oG).trans (az _ _ oG))) (a8 _),(az _ _ oG).trans ((az _ _ oG).trans ((az _ _ oG).trans (zi))),oG,oG,(ah _ _ _).trans ?_⟩;rw[Vx];simp;rfl
     .have bl:¬ j<cs.length:=by simpa using h
      have:j=cs.length:=by omega
      subst this;rw[List.take_length] at kJ;refine⟨dh r _ (prog.cellsOf 3) m',C,M.nR oG (a8 _),gS zi oG (.cells fun d hd=>?_),oG,lz kJ ⟨gi oG,rfl,gi oG,gi oG,?_,rfl,rfl,rfl,trivial⟩⟩
      .rw[<- List.append_nil (aM f)] at hd;simp only[aM,List.append_nil,List.mem_cons,List.not_mem_nil,or_false] at hd;rcases hd with rfl|rfl|rfl|rfl|rfl|rfl|rfl|rfl<;>first|exact .s _|exact .sl _ _
      .show sub (cE r _ (prog.cellsOf 3)) (.rs r 0 cs.length)=_;rw[yh,c3,List.drop_zero,df oS];simp
    .rintro s ⟨m',C,M,zi,HA,U⟩;refine⟨_,U,?_⟩;clear U;refine z7 Zl ?_;have ap:=M.rq;have kd:[bc l,x1,x2].drop (0+1)=x1::[x2]:=rfl;have Vy:[bc l,x1,x2].drop (0+2)=x2::[]:=rfl;refine ab ?_;have ap:=zi;refine SS ?_;refine cl Nn ?_;refine SS ?_;rcases M.gr with⟨h1,h2,rfl,rfl⟩|⟨r1,r2,g1,g2,g3,g4,g5,rfl,rfl,g8,g9⟩
     .refine eA (Ak rfl rfl V.h V.h (j5 (ah _ _ _) rfl)) ak ⟨V.h,(by first|omega|exact bC rfl|(simp;done)|(simp;omega)),oC,(by unfold maxLen;first|omega|(simp;omega)),(by rw[b9];first|omega|(simp;omega))⟩ ?_;have ap:∀ {a b},up (up m' C a) (C+1) b q=some (.cells [bc l,.z,.z] 82):=ag oG (ag oG M.rq);have kd:=Vy;refine aZ ?_;refine eA (Ak rfl rfl V.h V.h (j5 (ah _ _ _) rfl)) ak ⟨V.h,(by first|omega|exact bC rfl|(simp;done)|(simp;omega)),oC,(by unfold maxLen;first|omega|(simp;omega)),(by rw[Ej];first|omega|(simp;omega))⟩ ?_;have ap:∀ {a b c d},up (up (up (up m' C a) (C+1) b) (C+1+1) c) (C+1+1+1) d q=some (.cells [bc l,.z,.z] 82):=ag oG (ag oG (ag oG (ag oG M.rq)));refine ab ?_;have ap:∀ {a b c d e},up (up (up (up (up m' C a) (C+1) b) (C+1+1) c) (C+1+1+1) d) q e q=e:=ah _ _ _;refine ab ?_;refine ct (by simp[pE];omega) ?_;refine ab ?_;refine aa (bg (k+1,.rs (C+1) 0 1,.rs (C+1+1+1) 0 1,_,C+1+1+1+1) (av eH) ?_ oM);dsimp only;subst h1 h2;have sW:k=0:=by simpa using Np.symm
      subst sW;refine⟨oG,(az _ _ oG).trans ((az _ _ oG).trans ((az _ _ oG).trans ((az _ _ oG).trans ((az _ _ oG).trans ((az _ _ oG).trans (M.r0)))))),ah _ _ _,⟨No,oG⟩,.inr ⟨C+1,C+1+1+1,oG,oG,oG,oG,oG,?_,?_,(az _ _ oG).trans ((az _ _ oG).trans ((az _ _ oG).trans ((az _ _ oG).trans ((ah _ _ _).trans ?_)))),(az _ _ oG).trans ((az _ _ oG).trans ((ah _ _ _).trans ?_))⟩⟩
      .rw[iX];rfl
      .rw[HV];rfl
      .rw[iX];rfl
      .rw[HV];rfl
     .have kv:∀ {a},up m' C a r1=some (.cells (sh.map S) 9):=ag oG g8;refine iC (iw rfl kv rfl rE c9 (j5 (ah _ _ _) rfl) rfl) aK ⟨ln,rfl,bC rfl,oC,oS,by unfold maxLen;omega,by rw[b9];omega,by simp;omega⟩ ?_;have ap:∀ {a b c},up (up (up m' C a) r1 b) (C+1) c q=some (.cells [bc l,.rs r1 0 sh.length,.rs r2 0 ca.length] 82):=ag oG (ag oG (ag oG M.rq));have kd:=Vy;refine aZ ?_;have gn:∀ {a b c d},up (up (up (up m' C a) r1 b) (C+1) c) (C+1+1) d r2=some (.cells (ca.map aP) 43):=ag oG (ag oG (ag oG (ag oG g9)));refine iC (iw rfl gn rfl Vz s6 (j5 (ah _ _ _) rfl) rfl) aK ⟨Uo,rfl,bC rfl,oC,oS,by unfold maxLen;omega,by rw[Ej];omega,by simp;omega⟩ ?_;have ap:∀ {a b c d e f'},up (up (up (up (up (up m' C a) r1 b) (C+1) c) (C+1+1) d) r2 e) (C+1+1+1) f' q=some (.cells [bc l,.rs r1 0 sh.length,.rs r2 0 ca.length] 82):=ag oG (ag oG (ag oG (ag oG (ag oG (ag oG M.rq)))));refine ab ?_;have ap:∀ {a b c d e f' g},up (up (up (up (up (up (up m' C a) r1 b) (C+1) c) (C+1+1) d) r2 e) (C+1+1+1) f') q g q=g:=ah _ _ _;refine ab ?_;refine ct (by simp[pE];omega) ?_;refine ab ?_;refine aa (bg (k+1,.rs (C+1) 0 (sh.length+1),.rs (C+1+1+1) 0 (ca.length+1),_,C+1+1+1+1) (av eH) ?_ oM);dsimp only;refine⟨oG,(az _ _ oG).trans ((az _ _ oG).trans ((az _ _ oG).trans ((az _ _ oG).trans ((az _ _ oG).trans ((az _ _ oG).trans ((az _ _ oG).trans ((az _ _ oG).trans (M.r0)))))))),ah _ _ _,⟨No,oG⟩,.inr ⟨C+1,C+1+1+1,oG,oG,oG,oG,oG,?_,?_,(az _ _ oG).trans ((az _ _ oG).trans ((az _ _ oG).trans ((az _ _ oG).trans ((az _ _ oG).trans ((ah _ _ _).trans ?_))))),(az _ _ oG).trans ((az _ _ oG).trans ((ah _ _ _).trans ?_))⟩⟩
      .rw[iX,List.length_append];rfl
      .rw[HV,List.length_append];rfl
      .rw[iX,List.map_append];simp;rfl
      .rw[HV,List.map_append];rfl
   .have bl:¬ k<l.length:=by simpa using h
    have:k=l.length:=by omega
    subst this;rw[df oG,df oG] at J;exact⟨x1,x2,m,nx,J,av eH⟩
  .rintro s ⟨x1,x2,m,nx,J,U⟩;have af:=J.lt
   have nN:∃ m2 gM,aI prog s ⟨ay [(2,.rp 0 0),(9,.rp q 0)],m2,gM⟩/\m2 0=some (.cells [.z,.z,.z] 82)/\m2 q=some (.cells (cS l (bA l) ((aY l).map ao)) 82):=by
    rcases J.gr with⟨h1,h2,rfl,rfl⟩|⟨r1,r2,g1,g2,g3,g4,g5,rfl,rfl,g8,g9⟩
    .rw[h1,h2];refine⟨up m q (some (.cells (cS l [] []) 82)),nx,U.trans (aI.nv _ _ _ _ _ (fun t=>tG _) fun i=>?_),(az _ _ oG).trans J.r0,ah _ _ _⟩;by_cases hi:i=q
     .subst hi;refine .inr ⟨_,cS l [] [],82,J.rq,ah _ _ _,rfl,fun k d d' hd fa=>?_⟩
      match k with
      |0=>cases (show some d=some d' from hd.symm.trans fa);exact tG _
      |1|2=>
       simp only[cS,List.getElem?_cons_succ,List.getElem?_cons_zero,aG] at hd fa;subst hd fa;exact A4
      |k+3=>simp at hd
     .exact .inl (az _ _ hi)
    .have hz:∀ X,∀ d∈[D.z,.z,.z],fG X d:=fun X d hd=>by
      simp only[List.mem_cons,List.not_mem_nil,or_false,or_self] at hd;subst hd;exact .z
     have e1:dh r1 ((bA l).map S) (prog.cellsOf 9) m r2=some (.cells (((aY l).map ao).map aP) 43):=gS g9 oG (.cells (Pb _))
     have e2:dh r1 ((bA l).map S) (prog.cellsOf 9) m q=some (.cells [bc l,bI (bA l),.rs r2 0 ((aY l).map ao).length] 82):=by
      unfold dh;rw[if_neg oG,J.rq];show some (Row.cells [bc l,sub (cE r1 ((bA l).map S) (prog.cellsOf 9)) (.rs r1 0 (bA l).length),sub (cE r1 ((bA l).map S) (prog.cellsOf 9)) (.rs r2 0 ((aY l).map ao).length)] 82)=_;rw[yh,xe oG,c9,List.drop_zero,df oS]
     refine⟨dh r2 _ (prog.cellsOf 43) (dh r1 _ (prog.cellsOf 9) m),nx,U.trans ((lz (l:=[(2,.rp 0 0),(9,.rp q 0)]) g8 ⟨gi oG,gi oG,trivial⟩).trans (lz e1 ⟨gi oG,gi oG,trivial⟩)),gS (gS J.r0 oG (.cells (hz _))) oG (.cells (hz _)),?_⟩;generalize dh r1 ((bA l).map S) (prog.cellsOf 9) m=m1 at*
     unfold dh;rw[if_neg oG,e2];show some (Row.cells [bc l,bI (bA l),sub (cE r2 (((aY l).map ao).map aP) (prog.cellsOf 43)) (.rs r2 0 ((aY l).map ao).length)] 82)=_;rw[yh,s6,List.drop_zero,df oS];rfl
   obtain⟨m2,gM,Ei,q1,q2⟩:=nN;refine⟨_,Ei,aj ?_⟩;clear Ei U;have ap:=q2;refine au (eL rfl ap V.h V.h rfl) ak (eM V.h V.h (by first|(simp;done)|omega|exact bC rfl)) ?_;have ap:=q1;refine bM (fk rfl rfl ap rfl) ak (bU V.h V.h (by first|(simp;done)|exact⟨rfl,bC rfl⟩|(simp;omega)) (by rfl)) ?_;refine SS ?_;exact aa (mW (gy (cs:=cS l (bA l) ((aY l).map ao)) (vs:=cS l (bA l) ((aY l).map ao)) rfl rfl s5 mT rfl t82 (a8 3)) rfl rfl)
end Go.Proofs.Tryz.K
namespace Go.Abs
section
variable{P:Program}{Y:ea}{rf:Bool}{Q:Exit->St->Prop}{st:St}{id fR:Nat}{body:Code}{α:Type}
theorem Zm[dD Y](S:α->St)(J:α->Prop)(μ:α->Nat)(C:α)(hg:aI P st (S C))(M:J C)(h:∀ x,J x->AW P Y rf body (k9 fR id (xX P S J μ x) Q) (S x)):
 ∃ st',aI P st st'/\AW P Y rf (.block id (.loop (.block fR body))) Q st':=
 Cr (Q:=fq id Q) S J μ C hg M (fun x hx=>Qv (h x hx)) (a:=.skip) fun _ h=>h
theorem xk{k i:Nat}{r:Row}{l:List (Nat×Row)}(h:i≠k):a7 ((k,r)::l) i=a7 l i:=if_neg h
theorem Aa{k:Nat}{r:Row}{l:List (Nat×Row)}:a7 ((k,r)::l) k=some r:=if_pos rfl
theorem WT{l:Nat}(h:∃ st',aI P st st'/\AW P Y rf body Q st'):AW P Y rf (.seq (.label l) body) Q st:=h
end
end Go.Abs
namespace Go.Argus
section
variable{κ ι:Type}[DecidableEq κ][DecidableEq ι]
theorem aaZ{g:κ->ι}:∀ {fs:List κ} {k:κ},(∀ a∈fs,g a=g k->a=k)->eE (fs.map g) (g k)=eE fs k
 |[],k,_=>rfl
 |a::fs,k,h=>by
  rw[List.map_cons,I0,I0,aaZ fun b hb=>h b (List.mem_cons_of_mem _ hb)];congr 1;exact decide_eq_decide.2 ⟨h a oS,fun e=>by rw[e]⟩
theorem QL{g:κ->ι}:∀ {fs:List κ} {k:κ},(∀ a∈fs,g a=g k->a=k)->jm (fs.map g) (g k)=jm fs k
 |[],k,_=>rfl
 |a::fs,k,h=>by
  rw[List.map_cons,I1,I1,QL fun b hb=>h b (List.mem_cons_of_mem _ hb)];by_cases e:a=k
  .rw[if_pos e,if_pos (by rw[e])]
  .rw[if_neg e,if_neg fun C=>e (h a oS C)]
theorem QM{g:κ->ι}{ks:List κ}(h:∀ a∈ks,∀ b∈ks,g a=g b->a=b):bq (ks.map g)=(bq ks).map g:=by
 have key:∀ (ks acc:List κ),(∀ a∈acc++ks,∀ b∈acc++ks,g a=g b->a=b)->lC (acc.map g) (ks.map g)=(lC acc ks).map g:=fun ks=>by
  induction ks with
  |nil=>intro acc _;rfl
  |cons k ks ih=>
   intro acc h;simp only[List.map_cons,lC]
   have e:g k∈acc.map g↔k∈acc:=by
    constructor
    .intro hm;obtain⟨a,ha,e⟩:=List.mem_map.1 hm;rw[<- h a (by simp[ha]) k oS e];exact ha
    .exact fun hm=>List.mem_map_of_mem hm
   by_cases hk:k∈acc
   .rw[if_pos hk,if_pos (e.2 hk)];exact ih acc fun a ha b hb=>h a (by simp at ha ⊢;rcases ha with ha|ha<;>simp[ha]) b (by simp at hb ⊢;rcases hb with hb|hb<;>simp[hb])
   .rw[if_neg hk,if_neg fun hm=>hk (e.1 hm)];have:=ih (acc++[k]) fun a ha b hb=>h a (by simpa using ha) b (by simpa using hb)
    rwa[List.map_append] at this
 exact key ks [] (by simpa using h)
theorem aa0{g:κ->ι}{ks:List κ}(h:∀ a∈ks,∀ b∈ks,g a=g b->a=b):br (ks.map g)=br ks:=by
 have e1:∀ (l:List κ),br l=l.map (jm (bq l)):=fun l=>rfl;have e2:∀ (l:List ι),br l=l.map (jm (bq l)):=fun l=>rfl;rw[e1,e2,QM h,List.map_map];exact List.map_congr_left fun k hk=>QL fun a ha=>h a (qJ.1 ha) k hk
end
theorem aa1:∀ {a b:List Nat},(∀ n∈a,n<90)->(∀ n∈b,n<90)->hP (ao a)=hP (ao b)->a=b:=fun {a b} ha hb h=>by
 have h1:bW (hP (ao a))=bW (hP (ao b)):=congrArg bW h
 have e:∀ l:List Nat,bW (hP (ao l))=l.map fun n=>UInt8.ofNat (n+33):=fun l=>by
  simp only[hP,mkStr,ao,List.map_map,bW];refine List.map_congr_left fun n _=>?_;show UInt8.ofNat ((n:Int)+33).toNat=_;congr 1
 rw[e,e] at h1;clear e h
 induction a generalizing b with
 |nil=>cases b with
  |nil=>rfl
  |cons y b=>simp at h1
 |cons x a ih=>cases b with
  |nil=>simp at h1
  |cons y b=>
   simp only[List.map_cons,List.cons.injEq] at h1;have hx:=ha x oS;have hy:=hb y oS;have:=congrArg UInt8.toNat h1.1;rw[UInt8.toNat_ofNat_of_lt' (by simp[UInt8.size];omega),UInt8.toNat_ofNat_of_lt' (by simp[UInt8.size];omega)] at this;rw[ih (fun n hn=>ha n (List.mem_cons_of_mem _ hn)) (fun n hn=>hb n (List.mem_cons_of_mem _ hn)) h1.2,show x=y by omega]
def nq(ca:List (List Nat))(clq:List Nat):List ByteArray:=(fE ca clq).map fun k=>hP (ao k)
theorem I2{ca:List (List Nat)}{clq:List Nat}(h:∀ c∈clq,c<90):∀ k∈fE ca clq,∀ n∈k,n<90:=fun k hk n hn=>by
 have hd:∀ i,clq.getD i 0<90:=fun i=>by
  rw[dx];cases he:clq[i]? with
  |none=>decide
  |some c=>exact h c (bD he)
 obtain⟨i,_,rfl⟩:=List.mem_map.1 hk;rcases List.mem_cons.1 hn with rfl|hn
 .exact hd i
 .obtain⟨t,_,rfl⟩:=List.mem_map.1 hn;exact hd t
theorem Zn{ca:List (List Nat)}{clq:List Nat}(h:∀ c∈clq,c<90):br (nq ca clq)=br (fE ca clq)/\(bq (nq ca clq)).length=(bq (fE ca clq)).length:=by
 have hi:∀ a∈fE ca clq,∀ b∈fE ca clq,hP (ao a)=hP (ao b)->a=b:=fun a ha b hb e=>aa1 (I2 h a ha) (I2 h b hb) e;refine⟨aa0 hi,?_⟩;unfold nq;rw[QM hi,List.length_map]
theorem Pd{κ:Type}[DecidableEq κ]{ks:List κ}{n:Nat}(h:ks.length<=n):∀ c∈br ks,c<n:=fun c hc=>by
 obtain⟨i,hi⟩:=eS hc;have h1:=J4 hi;have h2:=vm ks;omega
def fN(l:List al)(sh:List ByteArray)(ca:List (List Int))(clq:List Int):List D:=[bc l,bI sh,cg ca,aP clq]
@[simp] theorem ame (l : List al) (sh : List ByteArray) (ca : List (List Int)) (clq : List Int) : (fN l sh ca clq).length = 4 := rfl
theorem EK(l:List al)(sh:List ByteArray)(ca:List (List Int))(clq:List Int):∀ a∈fN l sh ca clq,Tr a:=.cons (gP l) (.cons (fS sh) (.cons (tz ca) (.cons (du clq) .nil)))
def la(clq:List Nat)(i k:Nat):List Nat:=(range i).filter fun j=>clq.getD j 0==k
theorem X8(clq:List Nat)(i k:Nat):la clq (i+1) k=la clq i k++if clq.getD i 0==k then [i] else []:=by
 unfold la;rw[List.range_succ,List.filter_append];congr 1;simp only[List.filter_cons,List.filter_nil]
theorem aa2{clq:List Nat}{i n:Nat}(h:clq.getD i 0=n):(fun k=>(ao (la clq (i+1) k)).map I)=up (fun k=>(ao (la clq i k)).map I) n ((ao (la clq i n)++[(i:Int)]).map I):=by
 funext k;rw[X8,Cc,h];by_cases e:k=n
 .subst e;rw[if_pos rfl,if_pos oS];simp[ao]
 .rw[if_neg e,if_neg (by simpa using fun C=>e C.symm)];simp
theorem Zo(clq:List Nat)(i k:Nat):(la clq i k).length<=i:=by
 unfold la;have:=List.length_filter_le (fun j=>clq.getD j 0==k) (range i);simpa using this
theorem adA(clq:List Nat)(m:Nat):iD clq m=(range m).map fun k=>ao (la clq clq.length k):=by
 unfold iD EX la;rw[List.map_map];rfl
section
variable{κ:Type}[DecidableEq κ]
def jt(ks:List κ)(i:Nat):Nat:=(bq (ks.take i)).length
theorem aa3{ks:List κ}{i:Nat}(hi:i<ks.length):(br ks).getD i 0<=jt ks i/\jt ks (i+1)=if(br ks).getD i 0=jt ks i then jt ks i+1 else jt ks i:=by
 obtain⟨s,hs⟩:∃ s,ks[i]? =some s:=⟨_,aU hi⟩
 obtain⟨h1,h2⟩:=QI hs
 have C:(br ks)[i]? =some (if eE (bq (ks.take i)) s then jm (bq (ks.take i)) s else(bq (ks.take i)).length):=by
  have:((br ks).take (i+1))[i]? =((br ks).take i++[if eE (bq (ks.take i)) s then jm (bq (ks.take i)) s else(bq (ks.take i)).length])[i]? :=by rw[h2]
  rw[List.getElem?_take,if_pos oG,List.getElem?_append_right oP] at this;rw[this];have e:i - (List.take i (br ks)).length=0:=by simp;omega
  rw[e];rfl
 rw[rU C];unfold jt;rw[h1];cases hm:eE (bq (ks.take i)) s with
 |true=>
  have:=J5 hm;simp only[if_true];refine⟨oG,?_⟩;rw[if_neg oG]
 |false=>simp
theorem adB{ks:List κ}{i j:Nat}(hj:j<i)(hi:i<=ks.length):(br ks).getD j 0<jt ks i:=by
 have h1:(br (ks.take i))[j]? =some ((br ks).getD j 0):=by
  rw[<- Zp,List.getElem?_take,if_pos hj,eU (d:=0) oP]
 exact J4 h1
theorem Zq{ks:List κ}{i k:Nat}(hi:i<=ks.length)(hk:jt ks i<=k):la (br ks) i k=[]:=by
 unfold la;rw[List.filter_eq_nil_iff];intro j hj;have:=adB (List.mem_range.1 hj) hi;rw[beq_iff_eq];omega
end
def fT(l:List al):List Nat:=xG (c6 l) (aY l)
def ux(l:List al):List (List Int):=iD (fT l) (bq (fT l)).length
def qK(l:List al):D:=if(di l).2=0 then cg (ux l) else .z
def fY(es:List (Int×Nat)):List (Value×D):=es.map fun e=>(.int .i64 e.1,I (e.2:Nat))
theorem I3(i:Int):∀ es:List (Int×Nat),(cN (.int .i64 i) (fY es)).map (·.2)=if iS es i then some (I (fi es i:Nat)) else none
 |[]=>rfl
 |e::es=>by
  have ih:=I3 i es;have e1:fY (e::es)=(Value.int .i64 e.1,I (e.2:Nat))::fY es:=rfl;rw[e1];simp only[cN];by_cases h:e.1=i
  .have hv:kM (Value.int .i64 e.1) (.int .i64 i)=true:=by rw[h];show(IntKind.i64==IntKind.i64&&i==i)=true;simp
   have h2:iS (e::es) i=true:=by unfold iS;simp[h]
   have C:fi (e::es) i=e.2:=by unfold fi;simp[h]
   rw[if_pos hv,h2,C];rfl
  .have hv:kM (Value.int .i64 e.1) (.int .i64 i)=false:=by show(IntKind.i64==IntKind.i64&&e.1==i)=false;simp[h]
   have h2:iS (e::es) i=iS es i:=by unfold iS;simp[h]
   have C:fi (e::es) i=fi es i:=by unfold fi;simp[h]
   rw[hv,if_neg oS,h2,C, <- ih,Option.map_map];rfl
theorem Zr{es:List (Int×Nat)}{i:Int}(h:iS es i=false):fi es i=0:=by
 unfold fi;cases hf:es.find? fun e=>e.1==i with
 |none=>rfl
 |some e=>
  have h1:=List.find?_some hf;have h2:=List.mem_of_find?_eq_some hf;have:iS es i=true:=List.any_eq_true.2 ⟨e,h2,h1⟩;rw[h] at this;cases this
theorem QQ{i:Int}{n:Nat}{es:List (Int×Nat)}(h:iS es i=false):fV (.int .i64 i) (I (n:Nat)) (fY es)=fY (es++[(i,n)]):=by
 have h1:=I3 i es;rw[h] at h1;unfold fV;cases hl:cN (.int .i64 i) (fY es) with
 |none=>simp[fY]
 |some x=>rw[hl] at h1;simp at h1
def wk(p:Int->Int->Bool)(a b:List Int):Bool:=decide (a.length=b.length)&&(range a.length).all fun i=>p (a.getD i 0) (b.getD i 0)
theorem QR{l:List al}{i j:Nat}{s t:ByteArray}(hi:(bA l)[i]? =some s)(hj:(bA l)[j]? =some t):((c6 l).getD i 0==(c6 l).getD j 0)=(s.toList==t.toList):=by
 have h1:(br (bA l))[i]? =some ((c6 l).getD i 0):=eU (by have:=(bK.1 hi).1;simpa[c6] using this);have h2:(br (bA l))[j]? =some ((c6 l).getD j 0):=eU (by have:=(bK.1 hj).1;simpa[c6] using this);have h:=Jz hi hj;rw[h1,h2,aG] at h;rw[qF,qF];by_cases e:s=t
 .rw[h.2 e,e];simp
 .rw[beq_eq_false_iff_ne.2 fun C=>e (h.1 C),beq_eq_false_iff_ne.2 fun C=>e (vB C)]
theorem acu(es:List (Int×Nat))(a b:List Nat):wk (fun x y=>((fi es x:Nat):Int)==(fi es y:Nat)) (ao a) (ao b)=decide (a.map (fun(t:Nat)=>fi es t)=b.map fun(t:Nat)=>fi es t):=by
 have key:wk (fun x y=>((fi es x:Nat):Int)==(fi es y:Nat)) (ao a) (ao b)=true↔a.map (fun(t:Nat)=>fi es t)=b.map fun(t:Nat)=>fi es t:=by
  unfold wk;simp only[bf,decide_eq_true_eq,List.length_map];constructor
  .rintro⟨h1,h2⟩;refine List.ext_getElem? fun i=>?_;by_cases hi:i<a.length
   .have:=bS.1 h2 i (List.mem_range.2 hi);have ha:(ao a)[i]? =some ((a.getD i 0:Nat):Int):=by rw[List.getElem?_map,eU (d:=0) hi];rfl
    have hb:(ao b)[i]? =some ((b.getD i 0:Nat):Int):=by rw[List.getElem?_map,eU (d:=0) (show i<b.length by omega)];rfl
    rw[rU ha,rU hb] at this;rw[List.getElem?_map,List.getElem?_map,eU (d:=0) hi,eU (d:=0) (show i<b.length by omega)];have:((fi es (a.getD i 0:Nat):Nat):Int)=(fi es (b.getD i 0:Nat):Nat):=by simpa using this
    simp only[Option.map_some,aG];omega
   .rw[List.getElem?_eq_none oP,List.getElem?_eq_none oP]
  .intro h;have hl:a.length=b.length:=by simpa using congrArg List.length h
   refine⟨hl,bS.2 fun i hi=>?_⟩;have hi:i<a.length:=List.mem_range.1 hi;have ha:(ao a)[i]? =some ((a.getD i 0:Nat):Int):=by rw[List.getElem?_map,eU (d:=0) hi];rfl
   have hb:(ao b)[i]? =some ((b.getD i 0:Nat):Int):=by rw[List.getElem?_map,eU (d:=0) (show i<b.length by omega)];rfl
   rw[rU ha,rU hb];have:=congrArg (fun l=>l[i]?) h;simp only[List.getElem?_map] at this;rw[eU (d:=0) hi,eU (d:=0) (show i<b.length by omega)] at this;simp only[Option.map_some,aG] at this;rw[this];simp
 by_cases h:a.map (fun(t:Nat)=>fi es t)=b.map fun(t:Nat)=>fi es t
 .rw[decide_eq_true h,key.2 h]
 .rw[decide_eq_false h,Bool.eq_false_iff];exact fun h'=>h (key.1 h')
def zw(l:List al)(c:List (List Int)):Bool:=if(di l).2=0 then qu (c6 l) (aY l) c else false
theorem J7{sn:List Nat}{ca:List (List Nat)}{c:List (List Int)}{n:Nat}(hn:n<c.length)(h:pT ca.length c n=false):qu sn ca c=false:=by
 unfold qu;rw[qB hn h,Bool.false_and]
theorem Ch{N:Nat}{c:List (List Int)}{n:Nat}{x:List Int}(h:c[n]? =some x):pT N c n=(CP c n x&&(range x.length).all (sL N c n x)):=by unfold pT;rw[h]
theorem aa4{N:Nat}{c:List (List Int)}{n k:Nat}{x:List Int}(h:c[n]? =some x)(hk:k<x.length)(he:sL N c n x k=false):pT N c n=false:=by rw[Ch h,qB hk he,Bool.and_false]
theorem aa5(es:List (Int×Nat)):(fY es).length=es.length:=by simp[fY]
theorem acv{sn:List Nat}{ca:List (List Nat)}{c:List (List Int)}(h:(entries c).length≠ca.length):qu sn ca c=false:=by
 unfold qu;rw[decide_eq_false h];simp
theorem aa6{sn:List Nat}{ca:List (List Nat)}{c:List (List Int)}{x:List Int}(hx:x∈c)(h:tI sn ca (entries c) x=false):qu sn ca c=false:=by
 unfold qu
 have:c.all (tI sn ca (entries c))=false:=by
  rw[Bool.eq_false_iff];intro ht;rw[bS.1 ht x hx] at h;cases h
 rw[this];simp
theorem te{α:Type}{p:α->Bool}{l:List α}{k:Nat}{x:α}(hx:l[k]? =some x)(h:(l.take k).all p=true)(hp:p x=true):(l.take (k+1)).all p=true:=by
 rw[List.take_add_one,hx,List.all_append,h];simp[hp]
end Go.Argus
namespace Go.Proofs.Tryz.K
theorem zr{l:List al}{sh:List ByteArray}{ca:List (List Nat)}(h1:sh.length=l.length)(h2:ca.length=l.length)(jM:DG ca)(hn:l.length<=60)(hlen:∀ x∈ca,x.length<=10000):
 aA prog 44 [.agg (cS l sh (ca.map ao))] (.agg (fN l sh (ca.map ao) (ao (xG (br sh) ca)))):=by
 have aiy:=Ee (ks:=sh) oG;refine bj aiz (.cons (.agg (E' _ _ _)) .nil) (.agg (EK _ _ _ _)) ?_;rw[aiA];refine aw ?_;refine ab ?_;refine aa ⟨_,oR (i:=0) (cs:=cS l sh (ca.map ao)) (e:=82) rfl (l:=[(1,.pt (cS l sh (ca.map ao))),(2,.rp 1 0)]) ⟨lR,rfl,trivial⟩ (ml:=[(1,.cells [.z,.z,.z,.z] 86)]) eH,?_⟩;show AW _ _ _ _ (CD _) _;refine ws ?_;refine ab ?_;refine qX aiy rfl aK ?_;refine bu ?_;refine aa (WT ?_);have mP:(br sh).length=ca.length:=by rw[QN];omega
 have hR:xm ca ((br sh).length+1) (br sh) (bq sh).length=xG (br sh) ca:=by rw[<- Cb];rfl
 have h0s:=Pd (ks:=sh) (n:=90) oG;have h0m:=Cb sh;have fj:=vm sh;generalize xG (br sh) ca=RR at*
 refine bY (fun s=>∃ nx,1<nx/\aI prog s ⟨ay [(1,.pt (cS l sh (ca.map ao))),(2,.rp 1 0),(3,aP (ao RR))],a7 [(1,.cells [.z,.z,.z,.z] 86)],nx⟩) (Zm (α:=List Nat×Nat×Nat)
  (fun s=>⟨ay [(1,.pt (cS l sh (ca.map ao))),(2,.rp 1 0),(3,aP (ao s.1)),(4,I (s.2.1:Nat))],a7 [(1,.cells [.z,.z,.z,.z] 86)],s.2.2⟩)
  (fun s=>s.1.length=ca.length/\s.2.1=(bq s.1).length/\(∀ c∈s.1,c<90)/\(∃ eb,ca.length<eb+s.2.1/\xm ca eb s.1 s.2.1=RR)/\1<s.2.2) (fun s=>ca.length - s.2.1) (br sh,(bq sh).length,_)
  (av eH) ⟨mP,h0m.symm,h0s,⟨_,oM,hR⟩,oM⟩ ?_) ?_
 .rintro⟨clq,many,nx⟩ ⟨dz,Tw,Nq,⟨eb,hfu,X⟩,U⟩;dsimp only at dz Tw Nq hfu X U ⊢;have iY:=iY (l:=l) (sh:=sh) (ca:=ca.map ao);have iF:(nq ca clq).length=l.length:=by simp[nq];omega
  have hle:many<=ca.length:=by have:=vm clq;omega
  refine aw ?_;refine SS ?_;refine aa ⟨_,.o0 _ _ _ 5 9 rfl,aB (aw ?_)⟩;refine SS ?_;refine cl iY ?_;refine SS ?_
  refine aa (bY (fun s=>∃ nx,1<nx/\aI prog s ⟨ay [(1,.pt (cS l sh (ca.map ao))),(2,.rp 1 0),(3,aP (ao clq)),(4,I many),(5,bI (nq ca clq))],a7 [(1,.cells [.z,.z,.z,.z] 86)],nx⟩) (cy (α:=Nat×Nat×Nat)
   (fun s=>⟨ay [(1,.pt (cS l sh (ca.map ao))),(2,.rp 1 0),(3,aP (ao clq)),(4,I many),(5,.rs s.2.1 0 s.1),(19,I l.length),(20,I s.1)],a7 [(1,.cells [.z,.z,.z,.z] 86),(s.2.1,.cells (((nq ca clq).take s.1).map S) 9)],s.2.2⟩)
   (fun s=>s.1<=l.length/\1<s.2.1/\s.2.1<s.2.2) (fun s=>l.length - s.1) (0,nx,nx+1)
   (bQ eH ⟨ag oG rfl,ah _ _ _,trivial⟩) ⟨Nat.zero_le _,U,oM⟩ ?_) ?_)
  .rintro⟨i,r,nx⟩ ⟨hi,rG,s4⟩;dsimp only at hi rG s4 ⊢;refine SS ?_;refine aa ⟨_,rfl,fun h=>?_,fun h=>?_⟩
   .have eR:i<l.length:=by simpa using h
    clear h;have HW:(ao clq)[i]? =some ((clq.getD i 0:Nat):Int):=by rw[List.getElem?_map,eU (d:=0) (show i<clq.length by omega)];rfl
    have Ek:(ca.map ao)[i]? =some (ao (ca.getD i [])):=by rw[List.getElem?_map,eU (d:=[]) (show i<ca.length by omega)];rfl
    have s3:(ca.getD i []).length<=10000:=hlen _ (bD (eU (show i<ca.length by omega)))
    have dA:(nq ca clq).take (i+1)=(nq ca clq).take i++[hP (ao (sF ca clq i))]:=by
     have:(nq ca clq)[i]? =some (hP (ao (sF ca clq i))):=by
      unfold nq;rw[List.getElem?_map,Pe oG];rfl
     rw[List.take_add_one,this];rfl
    have ou:sF ca clq i=clq.getD i 0::(ca.getD i []).map fun t=>clq.getD t 0:=rfl
    have qk:∀ n∈ao (sF ca clq i),0<=n/\n<90:=fun n hn=>by
     obtain⟨c,hc,rfl⟩:=List.mem_map.1 hn;have:=I2 Nq (sF ca clq i) (List.mem_map.2 ⟨i,by simp;omega,rfl⟩) c hc;omega
    have af:(((nq ca clq).take i).map S).length=i:=by simp;omega
    have Nh:=Nh (l:=ao (sF ca clq i)) qk (by rw[ou];simp only[ao,List.length_map,List.length_cons];omega) (by rw[ou];simp[ao]);have dd:∀ t∈ca.getD i [],t<clq.length:=fun t ht=>by rw[dz];exact jM i t ht
    generalize (nq ca clq).take i=done at*
    generalize ca.getD i []=C at*
    generalize sF ca clq i=key at*
    have ae8:∀ {a},up (a7 [(1,.cells [.z,.z,.z,.z] 86),(r,.cells (done.map S) 9)]) nx a r=some (.cells (done.map S) 9):=ag oG (by simp[a7];omega);refine ws ?_;refine ab ?_;refine er ?_;refine cr ?_;refine aa (aB (aw ?_));refine iu ?_
    refine aa (bY (fun s=>∃ J,r<J/\aI prog s ⟨ay [(1,.pt (cS l sh (ca.map ao))),(2,.rp 1 0),(3,aP (ao clq)),(4,I many),(5,.rs r 0 i),(7,aP (ao key)),(19,I l.length),(20,I i)],a7 [(1,.cells [.z,.z,.z,.z] 86),(r,.cells (done.map S) 9)],J⟩) (cy (α:=Nat×Nat×Nat)
     (fun s=>⟨ay [(1,.pt (cS l sh (ca.map ao))),(2,.rp 1 0),(3,aP (ao clq)),(4,I many),(5,.rs r 0 i),(7,.rs s.2.1 0 (s.1+1)),(19,I l.length),(20,I i),(32,aP (ao C)),(33,I (ao C).length),(34,I s.1)],a7 [(1,.cells [.z,.z,.z,.z] 86),(r,.cells (done.map S) 9),(s.2.1,.cells ((ao (clq.getD i 0::(C.take s.1).map fun t=>clq.getD t 0)).map I) 3)],s.2.2⟩)
     (fun s=>s.1<=C.length/\r<s.2.1/\s.2.1<s.2.2) (fun s=>C.length - s.1) (0,nx,nx+1)
     (bQ eH ⟨ag oG rfl,ae8,ah _ _ _,trivial⟩) ⟨Nat.zero_le _,s4,oM⟩ ?_) ?_)
    .rintro⟨j,q',J⟩ ⟨hj,bN,hq2⟩;dsimp only at hj bN hq2 ⊢;refine SS ?_;refine aa ⟨_,rfl,fun h=>?_,fun h=>?_⟩
     .have dq:j<C.length:=by simpa using h
      clear h;obtain⟨t,ht⟩:∃ t,C[j]? =some t:=⟨_,aU dq⟩
      have Vx:(ao C)[j]? =some (t:Int):=by rw[List.getElem?_map,ht];rfl
      have gw:(ao clq)[t]? =some ((clq.getD t 0:Nat):Int):=by rw[List.getElem?_map,eU (d:=0) (dd t (bD ht))];rfl
      have ae9:ao (clq.getD i 0::(C.take (j+1)).map fun t=>clq.getD t 0)=ao (clq.getD i 0::(C.take j).map fun t=>clq.getD t 0)++[((clq.getD t 0:Nat):Int)]:=by rw[List.take_add_one,ht];simp only[ao,List.map_append,List.map_cons,Option.toList_some,List.map_nil,List.cons_append]
      have ae':((ao (clq.getD i 0::(C.take j).map fun t=>clq.getD t 0)).map I).length=j+1:=by simp only[ao,List.length_map,List.length_cons,List.length_take];omega
      generalize ao (clq.getD i 0::(C.take j).map fun t=>clq.getD t 0)=out at*
      have ap:a7 [(1,.cells [.z,.z,.z,.z] 86),(r,.cells (done.map S) 9),(q',.cells (out.map I) 3)] q'=some (.cells (out.map I) 3):=(xk oG).trans ((xk oG).trans Aa);have amt:out.length=j+1:=by simpa using ae'
      have afa:a7 [(1,.cells [.z,.z,.z,.z] 86),(r,.cells (done.map S) 9),(q',.cells (out.map I) 3)] r=some (.cells (done.map S) 9):=(xk oG).trans Aa;refine ws ?_;refine ax ?_;refine aa (fC ?_);refine dG ?_;refine aa ?_;refine ab ?_;refine aa (bg (j+1,J+1,J+1+1) ?_ ⟨oM,oM,oM⟩ oM);dsimp only;rw[ae9];refine bQ eH ⟨ag oG (ag oG (ag oG rfl)),ag oG (ag oG (ag oG afa)),(ah _ _ _).trans (by simp;rfl),trivial⟩
     .have bl:¬ j<C.length:=by simpa using h
      have:j=C.length:=by omega
      subst this;rw[List.take_length, <- ou];have G':key.length=C.length+1:=by rw[ou];simp
      refine⟨J,oG,oR (i:=q') (cs:=(ao key).map I) (e:=3) ((xk oG).trans ((xk oG).trans Aa)) ⟨rfl,gi oG,rfl,rfl,xe oG,?_,rfl,rfl,trivial⟩ ⟨Fb oG rfl rfl,Fb oG ((xk oG).trans Aa) (congrArg (Row.cells · 9) (QH (fun _=>rfl) done)),trivial⟩⟩;exact(iJ (by rw[c3];simp;omega)).trans (by show _=D.sl _ _;simp only[ao,List.length_map,G'])
    .rintro s ⟨J,A3,M⟩;refine⟨_,M,fC ?_⟩;clear M;have ap:a7 [(1,.cells [.z,.z,.z,.z] 86),(r,.cells (done.map S) 9)] r=some (.cells (done.map S) 9):=(xk oG).trans Aa;have ag6:done.length=i:=by simpa using af
     refine ab ?_;refine cl Nh ?_;refine ax ?_;refine aa ?_;refine ab ?_;refine aa (bg (i+1,J+1,J+1+1) ?_ ⟨oM,oM,oM⟩ oM);dsimp only;rw[dA];exact bQ eH ⟨ag oG (ag oG (ag oG rfl)),(ah _ _ _).trans (by rw[List.map_append];simp;rfl),trivial⟩
   .have bl:¬ i<l.length:=by simpa using h
    have:i=l.length:=by omega
    subst this;rw[df oG];refine⟨nx,oG,oR (i:=r) (cs:=(nq ca clq).map S) (e:=9) (by simp[a7];omega) ⟨rfl,gi oG,rfl,rfl,?_,trivial⟩ ⟨Fb oG rfl rfl,trivial⟩⟩;exact(iJ (by rw[c9,List.length_map,iF];omega)).trans (by show _=D.sl _ _;rw[iF])
  .rintro s ⟨nx,U,M⟩;refine⟨_,M,aj ?_⟩;clear M;obtain⟨yX,El⟩:=Zn (ca:=ca) Nq;have Ee:=Ee (ks:=nq ca clq) oG;rw[yX,El] at Ee;have amu:many<=(bq (fE ca clq)).length:=by rw[Tw];exact PO dz
   have amF:(bq (fE ca clq)).length<=ca.length:=by have:=vm (fE ca clq);simpa using this
   have fM:(br (fE ca clq)).length=ca.length:=by simp
   have Bn:=Cb (fE ca clq);have BC:=Pd (ks:=fE ca clq) (n:=90) oP;cases eb with
   |zero=>omega
   |succ eb=>
   unfold xm at X;generalize (bq (fE ca clq)).length=more at*
   generalize br (fE ca clq)=pw at*
   refine SS ?_;refine cl Ee ?_;refine bu ?_;refine er ?_;refine ab ?_;refine aa (aB (aj ?_));refine ax ?_;refine aa (cR rfl (fun h=>tm (ab9 oC ?_)) fun h=>cI (fC ?_))
   .have hm:more=many:=by
     have:((more:Nat):Int)=many:=by simpa using h
     omega
    rw[if_pos hm] at X;subst X;exact⟨nx,U,av eH⟩
   .have hm:¬ more=many:=by
     intro e;subst e;simp at h
    rw[if_neg hm] at X;refine ab ?_;refine aa (bg (pw,more,nx) (av eH) ⟨fM,Bn.symm,BC,⟨eb,oM,X⟩,U⟩ oM)
 .rintro s ⟨nx,U,M⟩;refine⟨_,M,aj ?_⟩;refine aZ ?_;exact aa (bJ (Fx (qT (gy (cs:=fN l sh (ca.map ao) (ao RR)) (vs:=fN l sh (ca.map ao) (ao RR)) rfl rfl BD wO rfl t86 (a8 4)) rfl)))
end Go.Proofs.Tryz.K
namespace Go.Abs
theorem jN.grow{m m':Mem}{nx M j J n:Nat}{e et:TypeId}{ρ:Nat->Nat}{L:Nat->List D}(h:jN m nx j n e et ρ L)(U:L n=[])(hj:nx<=J)(mO:J<M)(ap:m' J=some (.cells (nI ρ L n++[.z]) e))(hk:∀ q,q<nx->q≠j->m' q=m q):jN m' M J (n+1) e et ρ L:=by
 have af:∀ i,i<n+1->L i≠[]->i<n:=fun i hi C=>by
  by_cases e:i=n
  .subst e;exact absurd U C
  .omega
 refine⟨?_,mO,fun i hi C=>?_,fun i hi C=>?_,fun i hi C=>?_,fun a b ha hb zs X=>h.inj a b (af a ha zs) (af b hb X) zs X⟩
 .rw[ap];unfold nI;rw[List.range_succ,List.map_append];simp[U,jc]
 .have:=af i hi C;exact(hk _ (h.lt i this C) (h.ne i this C)).trans (h.A6 i this C)
 .have:=h.lt i (af i hi C) C;omega
 .have:=h.lt i (af i hi C) C;omega
theorem jN.nil{m:Mem}{nx j:Nat}{e et:TypeId}{ρ:Nat->Nat}{L:Nat->List D}(hm:m j=some (.cells [] e))(hj:j<nx):jN m nx j 0 e et ρ L:=
 ⟨hm,hj,fun _ h=>absurd h (Nat.not_lt_zero _),fun _ h=>absurd h (Nat.not_lt_zero _),fun _ h=>absurd h (Nat.not_lt_zero _),fun _ _ h=>absurd h (Nat.not_lt_zero _)⟩
theorem adC{P:Program}{env:Env}{m:Mem}{nx:Nat}{x y:Operand}{t e:TypeId}{a:Int}{l:List Int}(hx:(opd env x).core=aP (a::l))(hy:(opd env y).core=.s (.int .i64 1))(he:aD P t=e)(hs:P.cellsOf e=1)(ht:bi P t=true):
 Ef P (.slice t x (some y) none none) env m nx ⟨True,aP l,[],[],0⟩:=by
 have h:=JM (P:=P) (env:=env) (m:=m) (nx:=nx) (t:=t) (lo:=some y) (hi:=none) (a:=1) (b:=((a::l).length:Int)) (es':=l.map I) hx he hs (by simp[dW,hy,D.int?]) (by simp[dW]) (by
  simp only[List.map_cons,Int.reduceToNat,Nat.mul_one,List.drop_succ_cons,List.drop_zero,List.length_cons]
  exact df oS)
 have h2:(bi P t=true/\(0:Int)<=1/\(1:Int)<=((a::l).length:Int)/\((a::l).length:Int)<=((a::l).length:Int))=True:=by
  apply propext;constructor
  .exact fun _=>trivial
  .exact fun _=>⟨ht,oG,by simp;omega,oG⟩
 have C:(((a::l).length:Int) - 1).toNat=l.length:=by simp
 rw[h2,C] at h;exact h
end Go.Abs
namespace Go.Proofs.Tryz.K
theorem BE{κ:Type}[DecidableEq κ]{l:List al}{sh:List ByteArray}{ca:List (List Int)}{ks:List κ}(hl:ks.length<=1000):
 aA prog 45 [.agg (fN l sh ca (ao (br ks)))] (cg (iD (br ks) (bq ks).length)):=by
 refine bj aiB (.cons (.agg (EK _ _ _ _)) .nil) (tz _) ?_;rw[aiC];refine aw ?_;refine ab ?_;refine aa (bG (dB [(0,fN l sh ca (ao (br ks)),86)] eH (l:=[(1,.pt (fN l sh ca (ao (br ks))))]) eH) (aw ?_));refine SS ?_;refine aa ⟨_,.o0 _ _ _ 3 43 rfl,aB (aw ?_)⟩;refine aZ ?_;have dz:(ao (br ks)).length=ks.length:=by simp
 refine aa (bY (fun s=>∃ j m nx ρ,aI prog s ⟨ay [(3,.rs j 0 (jt ks ks.length))],m,nx⟩/\jN m nx j (jt ks ks.length) 43 3 ρ (fun k=>(ao (la (br ks) ks.length k)).map I)) (cy (α:=Nat×Nat×Mem×Nat)
  (fun s=>⟨ay [(3,.rs s.2.1 0 (jt ks s.1)),(7,aP (ao (br ks))),(8,I (ao (br ks)).length),(9,I s.1)],s.2.2.1,s.2.2.2⟩)
  (fun s=>s.1<=ks.length/\∃ ρ,jN s.2.2.1 s.2.2.2 s.2.1 (jt ks s.1) 43 3 ρ (fun k=>(ao (la (br ks) s.1 k)).map I)) (fun s=>ks.length - s.1) (0,1,_,2)
  (av eH) ⟨Nat.zero_le _,fun _=>0,jN.nil rfl oM⟩ ?_) ?_)
 .rintro⟨i,j,m,nx⟩ ⟨hi,ρ,M⟩;dsimp only at hi M ⊢;refine SS ?_;refine aa ⟨_,rfl,fun h=>?_,fun h=>?_⟩
  .have eR:i<ks.length:=by simpa using h
   clear h;obtain⟨c1,wP⟩:=aa3 eR;have HW:(ao (br ks))[i]? =some (((br ks).getD i 0:Nat):Int):=by rw[List.getElem?_map,eU (d:=0) (by simpa using eR)];rfl
   have VA:=aa2 (clq:=br ks) (i:=i) rfl;have aiD:=Zo (br ks) i ((br ks).getD i 0);have LL:∀ k,jt ks i<=k->la (br ks) i k=[]:=fun k hk=>Zq hi hk;have amG:jt ks i<=1000:=by have:=vm (ks.take i);simp[jt] at this ⊢;omega
   generalize hn:(br ks).getD i 0=n at*
   generalize jt ks i=c at*
   generalize la (br ks) i=L at*
   have dq:=M.zt;refine ws ?_;refine bu ?_;refine aa (iL (fun s=>∃ U m' C J,n<jt ks (i+1)/\jN m' C U (jt ks (i+1)) 43 3 J (fun k=>(ao (L k)).map I)/\aI prog s ⟨ay [(3,.rs U 0 (jt ks (i+1))),(4,I i),(5,I n),(7,aP (ao (br ks))),(8,I (ao (br ks)).length),(9,I i)],m',C⟩) ?_ ?_)
   .refine ws ?_;have ap:=M.row;refine aZ ?_;refine aa (aO rfl (fun h=>sf ?_) fun h=>cJ ?_)
    .have e:n=c:=by
      have:(n:Int)=c:=by simpa using h
      omega
     rw[if_pos e] at wP;subst e;refine ab ?_;refine iC (iw rfl (ag oG ap) rfl V.h V.h (j5 (ah _ _ _) rfl) rfl) ak ⟨V.h,rfl,(by first|omega|exact bC rfl|(simp;done)|(simp;omega)),oC,(by first|rfl|(simp;done)|(simp;omega)),(by unfold maxLen;first|omega|(simp;omega)),(by rw[Ej];first|omega|(simp;omega)),(by first|(simp;done)|(simp;omega))⟩ ?_;refine SS ?_;refine aa ⟨nx+1,_,nx+1+1,ρ,oG,?_,av ⟨?_,rfl,rfl,rfl,rfl,rfl,trivial⟩⟩
     .rw[wP];refine M.grow (by rw[LL n (a8 _)];rfl) oG oG ?_ (fun q hq uU=>?_)
      .exact(ah _ _ _).trans (by simp;rfl)
      .exact ag oG (ag oG (ag oG rfl))
     .rw[wP];rfl
    .have e:¬ n=c:=fun e=>by subst e;simp at h
     rw[if_neg e] at wP;exact⟨j,m,nx,ρ,oG,by rw[wP];exact M,by rw[wP];exact av eH⟩
   .rintro s ⟨U,m',C,J,jY,X,dR⟩;refine⟨_,dR,fC ?_⟩;clear dR;have ap:=X.row;have amH:=X.zt;have hLl:(ao (L n)).length<=i:=by simpa using aiD
    generalize wG:jt ks (i+1)=c' at*
    obtain⟨cs,kd⟩:=QO (ρ:=J) (L:=fun k=>(ao (L k)).map I) jY;by_cases hz:L n=[]
    .have zv:jc (J n) ((ao (L n)).map I)=.z:=by rw[hz];rfl
     rw[zv] at kd;refine bt ?_;refine au (mr rfl rfl (ag oG (ag oG ap)) V.h V.h) ak ⟨V.h,oG⟩ ?_;refine bM (eg (d:=.rs _ _ _) (cs':=_) rfl rfl (ag oG (ag oG ap)) rfl rfl) ak (bU V.h V.h (by first|(simp;done)|exact⟨rfl,bC rfl⟩|(simp;omega)) rfl) ?_;refine aa ?_;refine ab ?_;refine aa (bg (i+1,U,up (up (up m' C (some (.cells [I i] 3))) (C+1) (some (.cells [I i] 3))) U (some (.cells ((nI J (fun k=>(ao (L k)).map I) c').set n (.rs (C+1) 0 1)) 43)),C+2) (av ⟨?_,rfl,rfl,rfl,trivial⟩) ⟨oM,up J n (C+1),?_⟩ oM)
     .exact congrArg (fun n=>D.rs U 0 n) wG.symm
     dsimp only;rw[VA,wG];refine X.HX jY oS oG oG ?_ ?_ (fun q hq uU _=>?_)
     .rw[hz];exact ah _ _ _
     .rw[hz];exact ag oG (ah _ _ _)
     .exact ag oG (ag oG (ag oG rfl))
    .have aE:(ao (L n)).map I≠[]:=by simpa using hz
     have zv:jc (J n) ((ao (L n)).map I)=.rs (J n) 0 (ao (L n)).length:=by rw[Dj aE,List.length_map]
     rw[zv] at kd;have gn:=X.A6 n jY aE;have hρn:=X.lt n jY aE;have hρ1:=X.ne n jY aE;refine bt ?_;refine au (mr rfl rfl (ag oG (ag oG (ag oG ap))) V.h V.h) ak ⟨V.h,oG⟩ ?_;refine bM (eg (d:=.rs _ _ _) (cs':=_) rfl rfl (ag oG (ag oG (ag oG ap))) rfl rfl) ak (bU V.h V.h (by first|(simp;done)|exact⟨rfl,bC rfl⟩|(simp;omega)) rfl) ?_;refine aa ?_;refine ab ?_;refine aa (bg (i+1,U,up (up (up (up m' C (some (.cells [I i] 3))) (J n) none) (C+1) (some (.cells ((ao (L n)).map I++[I i]) 3))) U (some (.cells ((nI J (fun k=>(ao (L k)).map I) c').set n (.rs (C+1) 0 ((ao (L n)).length+1))) 43)),C+2) (av ⟨?_,rfl,rfl,rfl,trivial⟩) ⟨oM,up J n (C+1),?_⟩ oM)
     .exact congrArg (fun n=>D.rs U 0 n) wG.symm
     dsimp only;rw[VA,wG];refine X.HX jY oS oG oG ?_ ?_ (fun q hq uU zc=>?_)
     .have e:((ao (L n)++[(i:Int)]).map I).length=(ao (L n)).length+1:=by simp
      rw[e];exact ah _ _ _
     .rw[List.map_append];exact ag oG (ah _ _ _)
     .have:=zc aE;exact ag oG (ag oG (ag oG (ag oG rfl)))
  .have bl:¬ i<ks.length:=by simpa using h
   have:i=ks.length:=by omega
   subst this;exact⟨j,m,nx,ρ,av eH,M⟩
 .rintro s ⟨j,m,nx,ρ,hg,M⟩;have uO:jt ks ks.length=(bq ks).length:=by unfold jt;rw[List.take_length]
  rw[uO] at hg M;have wQ:¬ ∃ i,i<(bq ks).length/\(ao (la (br ks) ks.length i)).map I≠[]/\ρ i=j:=fun⟨i,h1,h2,h3⟩=>M.ne i h1 h2 h3;refine⟨_,hg.trans (PQ (l:=[(3,.rs j 0 (bq ks).length)]) (ml:=[]) (fun r=>∃ i,i<(bq ks).length/\(ao (la (br ks) ks.length i)).map I≠[]/\ρ i=r) M (fun _=>.map) c3 (fun i h1 h2=>⟨i,h1,h2,rfl⟩) wQ ⟨rfl,trivial⟩ (fun x hx=>?_) trivial (fun x hx=>by cases hx)),aw ?_⟩
  .simp at hx;subst hx;exact .rs wQ
  refine ab ?_;refine aa (bG (dB [(j,_,43)] ⟨Aa,trivial⟩ (l:=[(2,cg (iD (br ks) (bq ks).length))]) ⟨?_,trivial⟩) (aF rfl rfl));show sub (cE j _ (prog.cellsOf 43)) (D.rs j 0 (bq ks).length)=_;rw[iJ (by rw[s6];simp),QP,adA,QN]
theorem mh{l:List al}(hl:l.length<=1000):aA prog 16 [bc l] (.aL [qK l,I (di l).2]):=by
 have gO:=gO hl
 have M:Tr (qK l):=by
  unfold qK;split
  .exact tz _
  .exact .z
 refine bj aiE (.cons (gP l) .nil) (.aL (.cons M (.cons (.s _) .nil))) ?_;unfold qK;by_cases he:(di l).2=0
 .have J:=sk he;rw[if_pos he,he];rw[zX he,he] at gO;have X:(c6 l).length=(aY l).length:=by simp
  have zr:=zr (l:=l) (sh:=bA l) (ca:=aY l) (by simp[bA]) oS J.A7 J.len fun x hx=>by
   obtain⟨f,hf,rfl⟩:=List.mem_map.1 hx;have:=tk f.blocks;have:=(tH (Go.Argus.checked (J.rH f hf))).j4;simp;omega
  obtain⟨ks,hk,hs⟩:=PR X;have BE:=BE (l:=l) (sh:=bA l) (ca:=(aY l).map ao) (ks:=ks) (by simp at hk;omega);have U:xG (br (bA l)) (aY l)=br ks:=hs;have C:ux l=iD (br ks) (bq ks).length:=by unfold ux fT;rw[hs,Cb]
  rw[U] at zr;rw[C];rw[Up];refine ws ?_;refine ab ?_;refine er ?_;refine SS ?_;refine cl gO ?_;refine cr ?_;refine aa (aB (aj ?_));refine ab ?_;refine aa (uc (cI (aj ?_)));refine SS ?_;refine cl zr ?_;refine cl BE ?_;refine ab ?_;exact aa (gk rfl rfl rfl)
 .rw[if_neg he];rw[Ca he] at gO;generalize (di l).2=err at*
  rw[Up];refine ws ?_;refine ab ?_;refine er ?_;refine SS ?_;refine cl gO ?_;refine cr ?_;refine aa (aB (aj ?_));refine ab ?_;refine aa (cR rfl (fun h=>aB (aj ?_)) fun h=>?_)
  .refine ax ?_;exact aa (ed (gk rfl rfl rfl))
  .exfalso;revert h;simpa using he
theorem AK(i:Int):cC prog 3 (.int .i64 i)=true:=by simp[cC,u3]
theorem Dk(es:List (Int×Nat)):(fY es).all (fun e=>cC prog 3 e.1)=true:=by
 refine bS.2 fun e he=>?_;obtain⟨x,_,rfl⟩:=List.mem_map.1 he;exact AK _
theorem aiG:lN prog (lh prog 93)=I 0:=kr
theorem Tx(i:Int)(es:List (Int×Nat)):fv prog 93 true (cN (.int .i64 i) (fY es))=.aL [I (fi es i:Nat),B (iS es i)]:=by
 have h:=I3 i es;cases hl:cN (.int .i64 i) (fY es) with
 |none=>
  rw[hl] at h;cases hh:iS es i with
  |true=>rw[hh] at h;simp at h
  |false=>
   rw[Zr hh];show(D.aL [lN prog (lh prog 93),_])=_;rw[aiG];rfl
 |some x=>
  rw[hl] at h;cases hh:iS es i with
  |false=>rw[hh] at h;simp at h
  |true=>
   rw[hh] at h;simp only[Option.map_some,if_true,aG] at h;obtain⟨j,d⟩:=x;simp only at h;subst h;rfl
theorem Sz(i:Int)(es:List (Int×Nat)):fv prog 93 false (cN (.int .i64 i) (fY es))=I (fi es i:Nat):=by
 have h:=Tx i es;cases hl:cN (.int .i64 i) (fY es) with
 |none=>
  rw[hl] at h;have h:D.aL [lN prog (lh prog 93),B false]=_:=h;have h1:=(List.cons.inj (D.aL.inj h)).1;exact h1
 |some x=>
  rw[hl] at h;have h:D.aL [x.2,B true]=_:=h;exact(List.cons.inj (D.aL.inj h)).1
theorem k50{a b:Int}{es:List (Int×Nat)}:aA prog 50 [I a,I b,.pt [.im (fY es)]] (B (((fi es a:Nat):Int)==(fi es b:Nat))):=by
 refine bj aiH (.cons (.s _) (.cons (.s _) (.cons (.pt (.cons (.im fun x hx=>by obtain⟨y,_,rfl⟩:=List.mem_map.1 hx;exact .s _) .nil)) .nil))) (Tr.s _) ?_;rw[aiI];refine ws ?_;refine SS ?_;refine er ?_;refine ab ?_;refine au (zM rfl rfl A8 (Sz a es)) aK ⟨A9,AK _,Dk _⟩ ?_;refine ab ?_;refine au (zM rfl rfl A8 (Sz b es)) aK ⟨A9,AK _,Dk _⟩ ?_;refine ab ?_;exact aa (aF rfl rfl)
theorem Nr{a b:List Int}{g:FuncId}{fs cs:List D}{p:Int->Int->Bool}(ht:Tr (.fn (.func g) fs cs))(hg:∀ x y,aA prog g (fs++[I x,I y]++cs) (B (p x y)))(ha:a.length<=100000):
 aA prog 49 [aP a,aP b,.fn (.func g) fs cs] (B (wk p a b)):=by
 refine bj aiJ (.cons (du a) (.cons (du b) (.cons ht .nil))) (Tr.s _) ?_;rw[aiK];refine ws ?_;refine SS ?_;refine aa (aB (aj ?_));refine bu ?_;refine aa (cR rfl (fun h=>aB (aj ?_)) fun h=>cI (aB (aw ?_)))
 .have h:¬ a.length=b.length:=fun e=>by rw[e] at h;simp at h
  unfold wk;rw[decide_eq_false h,Bool.false_and];refine SS ?_;exact aa (ed (aF rfl rfl))
 have h:a.length=b.length:=by
  have:(a.length:Int)=b.length:=by simpa using h
  omega
 unfold wk;rw[decide_eq_true h,Bool.true_and];refine ax ?_
 refine aa (bY (fun s=>∃ m nx,aI prog s ⟨ay [],m,nx⟩/\(range a.length).all (fun i=>p (a.getD i 0) (b.getD i 0))=true) (cy (α:=Nat×Mem×Nat)
  (fun s=>⟨ay [(1,aP b),(2,.fn (.func g) fs cs),(15,aP a),(16,I a.length),(17,I s.1)],s.2.1,s.2.2⟩)
  (fun s=>s.1<=a.length/\(range s.1).all (fun i=>p (a.getD i 0) (b.getD i 0))=true) (fun s=>a.length - s.1) (0,_,_)
  (av eH) ⟨Nat.zero_le _,rfl⟩ ?_) ?_)
 .rintro⟨i,m,nx⟩ ⟨hi,C⟩;dsimp only at hi C ⊢;refine SS ?_;refine aa ⟨_,rfl,fun h=>?_,fun h=>?_⟩
  .have J:i<a.length:=by simpa using h
   obtain⟨x,hx⟩:∃ x,a[i]? =some x:=⟨_,aU J⟩
   obtain⟨y,hy⟩:∃ y,b[i]? =some y:=⟨_,aU oG⟩
   have U:=hg x y;have hp:p (a.getD i 0) (b.getD i 0)=p x y:=by rw[rU hx,rU hy]
   refine ws ?_;refine bu ?_;refine er ?_;refine bu ?_;refine er ?_;refine ax ?_;refine cl U ?_;refine SS ?_;refine aa (aO rfl (fun h=>aj ?_) fun h=>cT ?_)
   .have hf:p x y=false:=by simpa using h
    rw[qB J (hp.trans hf)];refine SS ?_;exact aa (bJ (cu (bE (aF rfl rfl))))
   .have hf:p x y=true:=by simpa using h
    refine ab ?_;exact aa (bg (i+1,m,nx) (av eH) ⟨oM,oL C (hp.trans hf)⟩ oM)
  .have X:¬ i<a.length:=by simpa using h
   have:i=a.length:=by omega
   subst this;exact⟨m,nx,av trivial,C⟩
 .rintro s ⟨m,nx,M,C⟩;rw[C];refine⟨_,M,aj ?_⟩;refine SS ?_;exact aa (aF rfl rfl)
theorem acw{l:List al}{c:List (List Int)}(hl:l.length<=1000)(he:(di l).2≠0):aA prog 18 [bc l,cg c] (.aL [B false,I (di l).2]):=by
 have gO:=gO hl;refine bj Uq (.cons (gP l) (.cons (tz c) .nil)) (.aL (.cons (.s _) (.cons (.s _) .nil))) ?_;rw[Ca he] at gO;generalize (di l).2=err at*
 rw[Ur];refine ws ?_;refine ab ?_;refine er ?_;refine SS ?_;refine cl gO ?_;refine cr ?_;refine aa (aB (aj ?_));refine ab ?_;refine aa (cR rfl (fun h=>aB (aj ?_)) fun h=>?_)
 .refine ax ?_;exact aa (ed (gk rfl rfl rfl))
 .exfalso;revert h;simpa using he
theorem adD{l:List al}{c:List (List Int)}(hl:l.length<=1000)(he:(di l).2=0)(uM:c.length<=100000)(nP:∀ x∈c,x.length<=100000):aA prog 18 [bc l,cg c] (.aL [B (qu (c6 l) (aY l) c),I 0]):=by
 have gO:=gO hl;refine bj Uq (.cons (gP l) (.cons (tz c) .nil)) (.aL (.cons (.s _) (.cons (.s _) .nil))) ?_;have hL:=sk he;rw[zX he,he] at gO;have iY:=iY (l:=l) (sh:=bA l) (ca:=(aY l).map ao);have hN:(aY l).length=l.length:=by simp
 rw[Ur];refine ws ?_;refine ab ?_;refine er ?_;refine SS ?_;refine cl gO ?_;refine cr ?_;refine aa (aB (aj ?_));refine ab ?_;refine aa (cR rfl (fun h=>by cases h) fun h=>cI (aw ?_));refine ab ?_;refine bM (eg (d:=.mp _) (cs':=[_]) rfl rfl rfl rfl rfl) ak (bU V.h V.h (by first|(simp;done)|exact⟨rfl,bC rfl⟩|(simp;omega)) rfl) ?_;refine aa ⟨_,oR (i:=0) (cs:=cS l (bA l) ((aY l).map ao)) (e:=82) rfl (l:=[(1,cg c),(6,.pt (cS l (bA l) ((aY l).map ao))),(8,.rp 2 0)]) ⟨rfl,lR,rfl,trivial⟩ (ml:=[(1,.map (fY [])),(2,.cells [.mp 1] 93)]) eH,aj ?_⟩;refine SS ?_;refine aa (aB (aw ?_));refine ax ?_
 refine aa (bY (fun s=>(∃ nx,2<nx/\aI prog s ⟨ay [(1,cg c),(6,.pt (cS l (bA l) ((aY l).map ao))),(8,.rp 2 0)],a7 [(1,.map (fY (entries c))),(2,.cells [.mp 1] 93)],nx⟩)/\(range c.length).all (pT (aY l).length c)=true) (cy (α:=Nat×Nat)
  (fun s=>⟨ay [(1,cg c),(6,.pt (cS l (bA l) ((aY l).map ao))),(8,.rp 2 0),(9,I (wY c s.1)),(29,cg c),(30,I c.length),(31,I s.1)],a7 [(1,.map (fY (entries (c.take s.1)))),(2,.cells [.mp 1] 93)],s.2⟩)
  (fun s=>s.1<=c.length/\2<s.2/\(range s.1).all (pT (aY l).length c)=true) (fun s=>c.length - s.1) (0,3)
  (bQ eH eH) ⟨Nat.zero_le _,oC,rfl⟩ ?_) ?_)
 .rintro⟨n,nx⟩ ⟨hn,J,U⟩;dsimp only at hn J U ⊢;refine SS ?_;refine aa ⟨_,rfl,fun h=>?_,fun h=>?_⟩
  .have X:n<c.length:=by simpa using h
   clear h;obtain⟨x,hx⟩:∃ x,c[n]? =some x:=⟨_,aU X⟩
   have yZ:=nP x (bD hx);refine ws ?_;refine bu ?_;cases x with
   |nil=>
    refine aa (aB (aj ?_));refine aZ ?_;(iterate 5 refine z fun _ _=>?_);refine SS ?_;refine aa (cR rfl (fun h=>aB (aj ?_)) fun h=>by cases h);have hr:pT (aY l).length c n=false:=by rw[Ch hx];rfl
    rw[J7 X hr];refine ab ?_;exact aa (ed (cu (bE (gk rfl rfl rfl))))
   |cons a C=>
    have ha:(a::C)[0]? =some a:=rfl;have zx:CP c n (a::C)=decide (wY c n<a):=rfl;have HU:wY c (n+1)=a:=by unfold wY;rw[if_neg oG,show n+1 - 1=n by omega,rU hx];rfl
    have aE:(((a::C).length:Int)==0)=false:=by simp;omega
    have Bz:=hx;generalize hxx:a::C=x at hx ha zx yZ aE;refine aa (aB (aj ?_));have nG:=aE;refine dG ?_;refine ab ?_;refine aa (cR rfl (fun h=>aB (aj ?_)) fun h=>cI (aj ?_))
    .have hr:pT (aY l).length c n=false:=by
      have h:a<=wY c n:=by simpa using h
      rw[Ch hx,zx,decide_eq_false oG,Bool.false_and]
     rw[J7 X hr];refine ab ?_;exact aa (ed (cu (bE (gk rfl rfl rfl))))
    have aiL:CP c n x=true:=by
     have h:¬ a<=wY c n:=by simpa using h
     rw[zx,decide_eq_true oG]
    clear h;refine aZ ?_;refine aa (aw ?_);refine ax ?_
    refine aa (cy (α:=Nat×Nat)
     (fun s=>⟨ay [(1,cg c),(6,.pt (cS l (bA l) ((aY l).map ao))),(8,.rp 2 0),(9,I a),(10,I n),(11,aP x),(29,cg c),(30,I c.length),(31,I n),(49,aP x),(50,I x.length),(51,I s.1)],a7 [(1,.map (fY (entries (c.take n)++(x.take s.1).map fun j=>(j,n)))),(2,.cells [.mp 1] 93)],s.2⟩)
     (fun s=>s.1<=x.length/\2<s.2/\(range s.1).all (sL (aY l).length c n x)=true) (fun s=>x.length - s.1) (0,nx)
     (bQ eH ⟨by rw[List.take_zero,List.map_nil,List.append_nil];rfl,rfl,trivial⟩) ⟨Nat.zero_le _,J,rfl⟩ ?_)
    rintro⟨k,nx⟩ ⟨hk,J,s7⟩;dsimp only at hk J s7 ⊢;refine SS ?_;refine aa ⟨_,rfl,fun h=>?_,fun h=>?_⟩
    .have iF:k<x.length:=by simpa using h
     clear h;obtain⟨i,hi⟩:∃ i,x[k]? =some i:=⟨_,aU iF⟩
     have kv:a7 [(1,Row.map (fY (entries (c.take n)++(x.take k).map fun j=>(j,n)))),(2,.cells [.mp 1] 93)] 1=some (.map (fY (entries (c.take n)++(x.take k).map fun j=>(j,n)))):=rfl;have zy:sL (aY l).length c n x k=(!(iS (entries (c.take n)++(x.take k).map fun j=>(j,n)) i)&&(decide (0<=i)&&(decide (i<(aY l).length)&&(decide (k=0)||decide (x.getD (k - 1) 0<i))))):=by unfold sL;rw[hi]
     have dA:(entries (c.take n)++(x.take (k+1)).map fun j=>(j,n))=(entries (c.take n)++(x.take k).map fun j=>(j,n))++[(i,n)]:=by rw[List.take_add_one,hi,List.map_append,List.append_assoc];rfl
     generalize (entries (c.take n)++(x.take k).map fun j=>(j,n))=es at*
     refine ws ?_;refine bu ?_;refine aa (aB (aj ?_));refine ab ?_;refine au (E7 rfl kv rfl A8 (Tx i es)) aK ⟨A9,AK i,Dk es⟩ ?_;refine bu ?_;refine aa (aB (aj ?_));have DE:sL (aY l).length c n x k=false->qu (c6 l) (aY l) c=false:=fun h=>J7 X (aa4 hx iF h);have Hm:decide ((l.length:Int)<=i)= !decide (i<((aY l).length:Int)):=by rw[hN];by_cases h:i<(l.length:Int)<;>simp[h];omega
     have oh:decide (i<(0:Int))= !decide (0<=i):=by by_cases h:0<=i<;>simp[h];omega
     cases k with
     |zero=>
      have uo:decide ((0:Int)<((0:Nat):Int))=false:=rfl;refine dG ?_;refine gc iY ?_;refine cr ?_;refine jf rfl (congrArg some (Bool.and_false _)) fun _ _=>?_;refine jf rfl (congrArg some (Bool.and_false _)) fun _ _=>?_;refine jf rfl (congrArg some (Bool.and_false _)) fun _ _=>?_;refine jf rfl (congrArg some (Bool.and_false _)) fun _ _=>?_;refine jf rfl (congrArg some (Bool.and_false _)) fun _ _=>?_;refine jf rfl (congrArg some (Bool.and_false _)) fun _ _=>?_;refine jf rfl (congrArg some (Bool.and_false _)) fun _ _=>?_;refine ab ?_;refine aa (cR rfl (fun h=>aB (aj ?_)) fun h=>cI (fC ?_))
      .rw[DE (by rw[zy];revert h;rw[Hm,oh];cases iS es i<;>cases decide (0<=i)<;>cases decide (i<((aY l).length:Int))<;>simp)];refine ab ?_;exact aa (ed (cu (cu (bE (gk rfl rfl rfl)))))
      .have M:sL (aY l).length c n x 0=true:=by rw[zy];revert h;rw[Hm,oh];cases iS es i<;>cases decide (0<=i)<;>cases decide (i<((aY l).length:Int))<;>simp
       have js:iS es i=false:=by
        rw[zy] at M;simp only[bf,Bool.not_eq_true'] at M;exact M.1
       refine ax ?_;refine bM (xC (key:=.int .i64 i) (v:=I (n:Nat)) rfl kv rfl rfl A8) aK ⟨A9,AK i,Dk es⟩ ?_;rw[QQ js];refine aa ?_;refine ab ?_;refine aa (bg (0+1,nx) ?_ ⟨oM,J,oL s7 M⟩ oM);dsimp only;rw[dA];exact bQ eH ⟨ah _ _ _,rfl,trivial⟩
     |succ k=>
      obtain⟨y,hy⟩:∃ y,x[k]? =some y:=⟨_,aU oG⟩
      have uo:decide ((0:Int)<((k+1:Nat):Int))=true:=decide_eq_true oG;have wa:((k+1:Nat):Int) - 1=(k:Nat)/\ -9223372036854775808<=((k:Nat):Int)/\((k:Nat):Int)<=9223372036854775807:=⟨oG,oG,oG⟩
      have VB:decide (i<=y)= !decide (y<i):=by by_cases h:y<i<;>simp[h];omega
      rw[show k+1 - 1=k by omega,rU hy,decide_eq_false (show ¬ k+1=0 by omega),Bool.false_or] at zy;refine dG ?_;refine gc iY ?_;refine bt ?_;refine cr ?_;refine aa (cR rfl (fun h=>aB (aj ?_)) fun h=>cI (fC ?_))
      .rw[DE (by rw[zy];revert h;rw[Hm,oh,VB];cases iS es i<;>cases decide (0<=i)<;>cases decide (i<((aY l).length:Int))<;>cases decide (y<i)<;>simp)];refine ab ?_;exact aa (ed (cu (cu (bE (gk rfl rfl rfl)))))
      .have M:sL (aY l).length c n x (k+1)=true:=by rw[zy];revert h;rw[Hm,oh,VB];cases iS es i<;>cases decide (0<=i)<;>cases decide (i<((aY l).length:Int))<;>cases decide (y<i)<;>simp
       have js:iS es i=false:=by
        rw[zy] at M;simp only[bf,Bool.not_eq_true'] at M;exact M.1
       refine ax ?_;refine bM (xC (key:=.int .i64 i) (v:=I (n:Nat)) rfl kv rfl rfl A8) aK ⟨A9,AK i,Dk es⟩ ?_;rw[QQ js];refine aa ?_;refine ab ?_;refine aa (bg ((k+1)+1,nx) ?_ ⟨oM,J,oL s7 M⟩ oM);dsimp only;rw[dA];exact bQ eH ⟨ah _ _ _,rfl,trivial⟩
    .have bl:¬ k<x.length:=by simpa using h
     have:k=x.length:=by omega
     subst this;rw[List.take_length, <- Od hx];have hrw:pT (aY l).length c n=true:=by rw[Ch hx,aiL,s7];rfl
     show aq _ _ _ _ _ _ _ _ _;refine ab ?_;refine aa (bg (n+1,nx) (bQ ⟨rfl,rfl,rfl,?_,rfl,rfl,rfl,trivial⟩ eH) ⟨oM,J,oL U hrw⟩ oM);dsimp only;rw[HU];rfl
  .have bl:¬ n<c.length:=by simpa using h
   have:n=c.length:=by omega
   subst this;rw[List.take_length];exact⟨⟨nx,J,av eH⟩,U⟩
 .rintro s ⟨⟨nx,J,dR⟩,U⟩;have Ty:=Pf U c.length (a8 _);rw[List.take_length] at Ty;obtain⟨_,aiM⟩:=Ty;have kv:a7 [(1,Row.map (fY (entries c))),(2,.cells [.mp 1] 93)] 1=some (.map (fY (entries c))):=rfl;refine⟨_,dR,aB (aj ?_)⟩;clear dR;refine SS ?_;refine rh (Kq rfl rfl V.h) ak ?_;rw[aa5];refine SS ?_;refine cl iY ?_;refine SS ?_;refine aa (cR rfl (fun h=>aB (aj ?_)) fun h=>cI (aB (aw ?_)))
  .have h:(entries c).length≠(aY l).length:=fun e=>by rw[e,hN] at h;simp at h
   rw[acv h];refine ab ?_;exact aa (ed (gk rfl rfl rfl))
  have hlen:(entries c).length=(aY l).length:=by
   have:((entries c).length:Int)=l.length:=by simpa using h
   omega
  clear h;refine ax ?_
  have kB:∀ x∈c,∀ i∈x,0<=i/\i<(l.length:Int):=fun x hx i hi=>by
   obtain⟨n,hn⟩:=eS hx;have:=aiM (i,n) (Xv.2 ⟨x,hn,hi⟩);rw[hN] at this;exact this
  have aiN:qu (c6 l) (aY l) c=c.all (tI (c6 l) (aY l) (entries c)):=by unfold qu;rw[U,decide_eq_true hlen];simp
  have pq:∀ x∈c,tI (c6 l) (aY l) (entries c) x=false->qu (c6 l) (aY l) c=false:=fun x hx h=>aa6 hx h;generalize entries c=es at*
  refine aa (bY (fun s=>(∃ m nx,aI prog s ⟨ay [],m,nx⟩)/\c.all (tI (c6 l) (aY l) es)=true) (cy (α:=Nat×Nat)
   (fun s=>⟨ay [(6,.pt (cS l (bA l) ((aY l).map ao))),(8,.pt [.im (fY es)]),(96,cg c),(97,I c.length),(98,I s.1)],fun _=>none,s.2⟩)
   (fun s=>s.1<=c.length/\(c.take s.1).all (tI (c6 l) (aY l) es)=true) (fun s=>c.length - s.1) (0,nx)
   ((aI.Cm _ _ _ 1 (fY es) rfl).trans (eT (i:=2) (cs:=[.im (fY es)]) (e:=93) rfl eH)) ⟨Nat.zero_le _,rfl⟩ ?_) ?_)
  .rintro⟨n,nx⟩ ⟨hn,s3⟩;dsimp only at hn s3 ⊢;refine SS ?_;refine aa ⟨_,rfl,fun h=>?_,fun h=>?_⟩
   .have X:n<c.length:=by simpa using h
    clear h;obtain⟨x,hx⟩:∃ x,c[n]? =some x:=⟨_,aU X⟩
    have j3:=bD hx;have qg:=bS.1 U n (List.mem_range.2 X);rw[Ch hx] at qg;refine ws ?_;refine ax ?_;cases x with
    |nil=>simp[CP] at qg
    |cons a C=>
     obtain⟨a0,aN⟩:=kB _ j3 a oS;obtain⟨p,rfl⟩:=kL a0;have amI:C.length<=100000:=by have:=nP _ j3;simp at this;omega
     have y9:p<l.length:=by omega
     have ha:((p:Int)::C)[0]? =some ((p:Nat):Int):=rfl;obtain⟨sa,Em⟩:∃ sa,(bA l)[p]? =some sa:=⟨_,aU (by simpa[bA] using y9)⟩
     have jM:((aY l).map ao)[p]? =some (ao ((aY l).getD p [])):=by rw[List.getElem?_map,eU (d:=[]) (by simpa using y9)];rfl
     refine aa (aw ?_);refine SS ?_;refine au (adC rfl rfl zl c3 AZ) aK trivial ?_;refine ab ?_
     refine aa (cy (α:=Nat×Nat)
      (fun s=>⟨ay [(6,.pt (cS l (bA l) ((aY l).map ao))),(8,.pt [.im (fY es)]),(17,aP ((p:Int)::C)),(96,cg c),(97,I c.length),(98,I n),(103,aP C),(104,I C.length),(105,I s.1)],fun _=>none,s.2⟩)
      (fun s=>s.1<=C.length/\(C.take s.1).all (AL (c6 l) (aY l) es p)=true) (fun s=>C.length - s.1) (0,nx)
      (av eH) ⟨Nat.zero_le _,rfl⟩ ?_)
     rintro⟨k,nx⟩ ⟨hk,HY⟩;dsimp only at hk HY ⊢;refine SS ?_;refine aa ⟨_,rfl,fun h=>?_,fun h=>?_⟩
     .have iF:k<C.length:=by simpa using h
      clear h;obtain⟨i,hi⟩:∃ i,C[k]? =some i:=⟨_,aU iF⟩
      obtain⟨i0,iN⟩:=kB _ j3 i (List.mem_cons_of_mem _ (bD hi));obtain⟨m,rfl⟩:=kL i0;have ir:m<l.length:=by omega
      obtain⟨si,bZ⟩:∃ si,(bA l)[m]? =some si:=⟨_,aU (by simpa[bA] using ir)⟩
      have HW:((aY l).map ao)[m]? =some (ao ((aY l).getD m [])):=by rw[List.getElem?_map,eU (d:=[]) (by simpa using ir)];rfl
      have K9:(ao ((aY l).getD m [])).length<=100000:=by
       obtain⟨f,hf⟩:∃ f,l[m]? =some f:=⟨_,aU ir⟩
       rw[Ff hf];have:=tk f.blocks;have:=(tH (Go.Argus.checked (hL.rH f (bD hf)))).j4;simp;omega
      have Nr:=Nr (a:=ao ((aY l).getD m [])) (b:=ao ((aY l).getD p [])) (g:=50) (fs:=[]) (cs:=[.pt [.im (fY es)]]) (p:=fun x y=>((fi es x:Nat):Int)==(fi es y:Nat)) (.fn oS (.cons (.pt (.cons (.im fun x hx=>by obtain⟨y,_,rfl⟩:=List.mem_map.1 hx;exact .s _) .nil)) .nil)) (fun x y=>k50) K9
      have HF:AL (c6 l) (aY l) es p m=((si.toList==sa.toList)&&wk (fun x y=>((fi es x:Nat):Int)==(fi es y:Nat)) (ao ((aY l).getD m [])) (ao ((aY l).getD p []))):=by
       unfold AL;rw[kK,kK,QR bZ Em,acu]
      generalize ao ((aY l).getD m [])=ci at*
      generalize ao ((aY l).getD p [])=cp at*
      generalize wk (fun x y=>((fi es x:Nat):Int)==(fi es y:Nat)) ci cp=ef at*
      refine ws ?_;refine ax ?_;refine aa (ep Zs ?_);refine bt ?_;refine bt ?_;refine dG ?_;refine bd rfl rfl (Kp rfl rfl) (fun hc=>⟨ak,trivial⟩) ?_;refine gc Nr ?_;refine ab ?_;refine ct cG (aO rfl (fun h=>aj ?_) fun h=>cT ?_)
      .have hb:AL (c6 l) (aY l) es p m=false:=by
        rw[HF];revert h;cases (si.toList==sa.toList)<;>cases ef<;>simp
       have hr:tI (c6 l) (aY l) es ((p:Int)::C)=false:=by
        rw[Bool.eq_false_iff];intro ht;have:=bS.1 ht (m:Int) (bD hi);simp only[List.headD_cons] at this;rw[hb] at this;cases this
       rw[pq _ j3 hr];refine ab ?_;exact aa (bJ (cu (cu (bE (gk rfl rfl rfl)))))
      .have hb:AL (c6 l) (aY l) es p m=true:=by
        rw[HF];revert h;cases (si.toList==sa.toList)<;>cases ef<;>simp
       refine ab ?_;exact aa (bg (k+1,nx) (av eH) ⟨oM,te hi HY hb⟩ oM)
     .have bl:¬ k<C.length:=by simpa using h
      rw[df oG] at HY;have hr:tI (c6 l) (aY l) es ((p:Int)::C)=true:=HY;show aq _ _ _ _ _ _ _ _ _;refine ab ?_;exact aa (bg (n+1,nx) (av eH) ⟨oM,te hx s3 hr⟩ oM)
   .have bl:¬ n<c.length:=by simpa using h
    rw[df oG] at s3;exact⟨⟨_,_,av trivial⟩,s3⟩
  .rintro s ⟨⟨m,nx,dR⟩,s3⟩;rw[aiN,s3];refine⟨_,dR,aj ?_⟩;refine ab ?_;exact aa (gk rfl rfl rfl)
theorem VC{l:List al}{c:List (List Int)}(hl:l.length<=1000)(J:c.length<=100000)(C:∀ x∈c,x.length<=100000):aA prog 18 [bc l,cg c] (.aL [B (zw l c),I (di l).2]):=by
 by_cases he:(di l).2=0
 .have:=adD hl he J C;unfold zw
  rwa[if_pos he,he]
 .have:=acw (c:=c) hl he;unfold zw
  rwa[if_neg he]
end Go.Proofs.Tryz.K
end
