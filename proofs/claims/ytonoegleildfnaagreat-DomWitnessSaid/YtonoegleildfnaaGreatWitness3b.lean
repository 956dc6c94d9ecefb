/- Part 3b of the proof; the last part says what is proved. -/
import Derived.Test.YtonoegleildfnaaGreatWitness3
import Derived.Below
import Derived.Carry
import Derived.ChangeOld
import Derived.OpenShut
set_option linter.unusedVariables false
set_option linter.unusedSimpArgs false
section
open Go Go.Abs Go.Proofs Go.Argus
namespace Go.Proofs.Tryz.K
set_option maxRecDepth 10000
theorem ahE{a:Int}:PCall prog 227 [I a] (B false):=by
 refine bc Ti (by simp[Tr.s]) (Tr.s _) ?_;rw[adQ];refine ws ?_;refine SS ?_;refine er ?_;refine aJ ?_;refine ab (ax (d:=.s (.bool _)) rfl ?_);simp[bne]
theorem ahF{a b:Int}:PCall prog 184 [I a,I b] (B (decide (a<b))):=by
 refine bc Tj (by simp[Tr.s]) (Tr.s _) ?_;rw[adR];refine ws ?_;refine SS ?_;refine er ?_;refine SS ?_;refine cl ahE ?_;refine SS ?_;(iterate 3 refine z fun _ _=>?_);refine dk ?_;exact ab (ax (d:=.s (.bool _)) rfl rfl)
theorem ahG{m:Mem}{nx i n:Nat}{l:List Int}(hi:i<nx)(hm:m i=some (.cells (l.map I) 3))(hl:l.length=n)(hn:n<=12):
 ACalls prog 178 [.rs i 0 n,I 0,I n] m nx (fun r m' nx'=>r=.tup []/\nx'=nx/\m'=up m i (some (.cells ((fN l).map I) 3))):=by
 refine yx Tk ?_;rw[adS]
 have X:up m i (some (.cells (l.map I) 3))=m:=by
  funext j;simp only[up];split
  .rename_i e;rw[e,hm]
  .rfl
 refine aw ?_;refine au ?_;refine ab (cI (α:=Nat) (fun k=>⟨az [(0,.rs i 0 n),(1,I 0),(2,I n),(6,I (k+1:Nat))],up m i (some (.cells ((nv l k).map I) 3)),nx⟩) (fun k=>k<=n - 1) (fun k=>n - k) 0 (jd eH X.symm) oG ?_);intro k hk;refine au ?_;refine ab ⟨_,rfl,fun h=>?_,fun h=>?_⟩
 .have ap:k+1<n:=by have:((k+1:Nat):Int)<n:=by simpa using h
                    omega
  refine aw ?_;refine af ?_;refine ab (acH Y4 (α:=List Int×Nat) (fun s=>⟨az [(0,.rs i 0 n),(1,I 0),(2,I n),(6,I (k+1:Nat)),(7,I s.2)],up m i (some (.cells (s.1.map I) 3)),nx⟩) (fun s=>s.1.length=n/\s.2<=k+1/\pB s.1 s.2=nv l (k+1)) (fun s=>s.2) (nv l k,k+1) (aq eH) ⟨by simp[hl],oS,rfl⟩ ?_);rintro⟨d,j⟩ ⟨hd,hj,C⟩;simp only at hd hj C;cases j with
  |zero=>
   have ja:decide ((0:Int)<((0:Nat):Int))=false:=rfl;refine aJ ?_;(iterate 10 refine z fun _ _=>?_);refine SS ?_;refine a8 bf ⟨_,rfl,fun h=>oH,fun h=>?_⟩;have C:d=nv l (k+1):=C;subst C;show AOps _ _ _ _ _ _ _ _ _;refine au ?_;exact ab (aK (k+1) (aq eH) oG oG)
  |succ j=>
   have ha:d[j+1]? =some d[j+1]:=aG oG;have hb:d[j]? =some d[j]:=aG oG;have J:d.getD (j+1) 0=d[j+1]:=by simp[bF,ha]
   have U:d.getD j 0=d[j]:=by simp[bF,hb]
   have kd:=gu (f:=I) ha;have gA:=gu (f:=I) hb;generalize hA:d[j+1]=a at ha J kd;generalize hB:d[j]=b at hb U gA;clear hA hB;have ja:decide ((0:Int)<((j+1:Nat):Int))=true:=by simp
   have pw:((j+1:Nat):Int) - 1=(j:Int)/\ -9223372036854775808<=(j:Int)/\(j:Int)<=9223372036854775807:=by omega
   refine bK ?_;refine bE rfl rfl (kV rfl rfl (up_same _ _ _) V.h V.h) (fun hc=>⟨ak,⟨V.h,oG⟩⟩) ?_;refine bE rfl rfl (fV rfl (up_same _ _ _) kd V.h) (fun hc=>⟨ak,(fW V.h V.h kd)⟩) ?_;refine au ?_;refine bE rfl rfl (kV rfl rfl (up_same _ _ _) V.h V.h) (fun hc=>⟨ak,⟨V.h,oG⟩⟩) ?_;refine bE rfl rfl (fV rfl (up_same _ _ _) gA V.h) (fun hc=>⟨ak,(fW V.h V.h gA)⟩) ?_;refine gc ahF ?_;refine SS ?_;refine a8 bf ⟨_,rfl,fun h=>?_,fun h=>?_⟩
   .have h:a<b:=by simpa using h
    refine kU Y5 ?_;refine aE ?_;refine aF (fV rfl (up_same _ _ _) gA V.h) ak (fW V.h V.h gA) ?_;refine bI ?_;refine a8 bf ?_;refine au ?_;refine ab (aK (swapAt d j,j) (jd eH ?_) ⟨by simp[hd],by simp only;omega,?_⟩ (by simp only;omega))
    .rw[la,la];simp only[swapAt,J,U,List.map_set]
    .rw[<- C];simp only[pB,J,U,if_pos h]
   .have h:¬ a<b:=by simpa using h
    have C:d=nv l (k+1):=by rw[<- C];simp only[pB,J,U,if_neg h]
    subst C;show AOps _ _ _ _ _ _ _ _ _;refine au ?_;exact ab (aK (k+1) (aq eH) oG oG)
 .have bh:¬ k+1<n:=by have h:¬ ((k+1:Nat):Int)<n:=by simpa using h
                      omega
  refine ue ⟨rfl,rfl,?_⟩;have:k=n - 1:=by omega
  subst this;simp only[fN,hl]
theorem ahH{m:Mem}{nx i n:Nat}{l:List Int}{lC:Int}(hi:i<nx)(hm:m i=some (.cells (l.map I) 3))(hl:l.length=n)(hn:n<=12):
 ACalls prog 151 [.rs i 0 n,I 0,I n,I lC] m nx (fun r m' nx'=>r=.tup []/\nx'=nx/\m'=up m i (some (.cells ((fN l).map I) 3))):=by
 refine yx Tl ?_;rw[adT];refine ws ?_;refine SS ?_;refine ab (aw ?_);refine SS ?_;refine ab ⟨_,aq (l:=[(0,.rs i 0 n),(1,I 0),(2,I n)]) eH,nY (Qs (fun s=>s=⟨az [(0,.rs i 0 n),(1,I 0),(2,I n)],m,nx⟩) (fun _=>0) rfl fun s C=>?_)⟩;subst C;refine nY (ao ?_);refine aJ ?_;refine ab (aC (ao ?_));refine SS ?_;refine UX ?_;refine ab (cH rfl (fun h=>?_) fun h=>?_)
 .refine aC (ao ?_);refine au ?_;refine kZ (ahG hi hm hl hn) rfl dd fun r m' nx' hp=>?_;obtain⟨rfl,rfl,rfl⟩:=hp;exact ab (cK (bH (aL (bH (vB ⟨rfl,rfl,rfl⟩)))))
 .have:¬ ((n:Int) - 0<=12):=by simpa using h
  omega
theorem LC{n:Nat}(hn:n<=12):∃ r,PCall prog 152 [.s (.int .u64 (IntKind.u64.wrap (n:Int)))] (I r):=by
 match n,hn with
 |0,_=>exact⟨0,lF nq 100 rfl kr⟩
 |1,_=>exact⟨1,lF nq 100 rfl kr⟩
 |2,_=>exact⟨2,lF nq 100 rfl kr⟩
 |3,_=>exact⟨2,lF nq 100 rfl kr⟩
 |4,_=>exact⟨3,lF nq 100 rfl kr⟩
 |5,_=>exact⟨3,lF nq 100 rfl kr⟩
 |6,_=>exact⟨3,lF nq 100 rfl kr⟩
 |7,_=>exact⟨3,lF nq 100 rfl kr⟩
 |8,_=>exact⟨4,lF nq 100 rfl kr⟩
 |9,_=>exact⟨4,lF nq 100 rfl kr⟩
 |10,_=>exact⟨4,lF nq 100 rfl kr⟩
 |11,_=>exact⟨4,lF nq 100 rfl kr⟩
 |12,_=>exact⟨4,lF nq 100 rfl kr⟩
theorem wC{m:Mem}{nx i n:Nat}{l:List Int}(hi:i<nx)(hm:m i=some (.cells (l.map I) 3))(hl:l.length=n)(hn:n<=12):
 ACalls prog 89 [.rs i 0 n] m nx (fun r m' nx'=>r=.tup []/\nx'=nx/\m'=up m i (some (.cells ((fN l).map I) 3))):=by
 refine yx UY ?_;rw[ahI];obtain⟨lC,LC⟩:=LC hn;have ay:=hm;refine ws ?_;refine au ?_;refine ab (gv ?_);refine au ?_;refine aF (acq rfl V.h) ak V.h ?_;refine cl LC ?_;refine kZ (ahH hi hm hl hn) rfl dd fun r m' nx' hp=>?_;obtain⟨rfl,rfl,rfl⟩:=hp;exact ab (ue ⟨rfl,rfl,rfl⟩)
end Go.Proofs.Tryz.K
namespace Go.Abs
section
variable{P:Program}{env:Env}{m:Mem}{nx:Nat}{x y:Operand}{t p:TypeId}{k:IntKind}{n n':Int}
theorem abz{j i l off:Nat}{e:TypeId}{r:Row}(hx:(opd env x).core=.rs j off l)(hy:(opd env y).core=.s (.int k (i:Int)))(hm:m j=some r)(he:elemP P t=e)(C:P.cellsOf e=1):
 Ef P (.indexAddr t x y) env m nx ⟨slT P t=true/\i<l,.rp j (off+i),[],[j],0⟩:=by
 have h:=Gw (P:=P) (env:=env) (m:=m) (nx:=nx) (t:=t) hx hy hm he C;have h1:off+((i:Int)).toNat*1=off+i:=by simp
 have h2:(slT P t=true/\(0:Int)<=(i:Int)/\(i:Int)<l)=(slT P t=true/\i<l):=by
  apply propext;constructor
  .rintro⟨a,_,b⟩;exact⟨a,oG⟩
  .rintro⟨a,b⟩;exact⟨a,oG,oG⟩
 rw[h1,h2] at h;exact h
theorem Ox{i l a:Nat}{cs:List D}{e:TypeId}(hx:(opd env x).core=.rs i 0 l)(hm:m i=some (.cells cs e))(he:elemP P t=e)(C:P.cellsOf e=1)(ha:(opd env y).core=.s (.int .i64 (a:Int))):
 Ef P (.slice t x (some y) none none) env m nx ⟨slT P t=true/\a<=l,.rs i a (l - a),[],[i],0⟩:=by
 have h:=FZ (P:=P) (env:=env) (m:=m) (nx:=nx) (t:=t) (lo:=some y) (hi:=none) (a:=(a:Int)) (b:=(l:Int)) hx hm he C (by simp[bndD,ha,D.int?]) (by simp[bndD]);have h1:0+((a:Int)).toNat*1=a:=by simp
 have h3:((l:Int) - (a:Int)).toNat=l - a:=by omega
 have h2:((slT P t=true/\1=1)/\(0:Int)<=(a:Int)/\(a:Int)<=(l:Int)/\(l:Int)<=(l:Int))=(slT P t=true/\a<=l):=by
  apply propext;constructor
  .rintro⟨⟨a,_⟩,_,b,_⟩;exact⟨a,oG⟩
  .rintro⟨a,b⟩;exact⟨⟨a,rfl⟩,oG,oG,oG⟩
 rw[h1,h2,h3] at h;exact h
theorem Y6{i l b:Nat}{cs:List D}{e:TypeId}(hx:(opd env x).core=.rs i 0 l)(hm:m i=some (.cells cs e))(he:elemP P t=e)(C:P.cellsOf e=1)(hb:(opd env y).core=.s (.int .i64 (b:Int))):
 Ef P (.slice t x none (some y) none) env m nx ⟨slT P t=true/\b<=l,.rs i 0 b,[],[i],0⟩:=by
 have h:=FZ (P:=P) (env:=env) (m:=m) (nx:=nx) (t:=t) (lo:=none) (hi:=some y) (a:=0) (b:=(b:Int)) hx hm he C (by simp[bndD]) (by simp[bndD,hb,D.int?]);have h1:0+((0:Int)).toNat*1=0:=by simp
 have h3:((b:Int) - 0).toNat=b:=by omega
 have h2:((slT P t=true/\1=1)/\(0:Int)<=0/\(0:Int)<=(b:Int)/\(b:Int)<=(l:Int))=(slT P t=true/\b<=l):=by
  apply propext;constructor
  .rintro⟨⟨a,_⟩,_,_,b⟩;exact⟨a,oG⟩
  .rintro⟨a,b⟩;exact⟨⟨a,rfl⟩,oG,oG,oG⟩
 rw[h1,h2,h3] at h;exact h
theorem abJ{i off l:Nat}{cs z:List D}{e:TypeId}(hx:(opd env x).core=.rs i off l)(hm:m i=some (.cells cs e))(he:elemP P t=e)(C:zeroP P e=z):
 Ef P (.call { callee:=.builtin .clear,args:= #[x],argTypes:= #[t] }) env m nx ⟨slT P t=true/\off+l*P.cellsOf e<=cs.length/\e=e,.tup [],[(i,some (.cells (splice cs off (replD l z)) e))],[i],0⟩:=by
 refine xy («aS»:=[.rs i off l]) rfl (by simp[hx]) ?_;simp only[builtinD,hm,C,Array.getD_eq_getD_getElem?,List.getElem?_toArray,List.getElem?_cons_zero,Option.getD_some,he]
theorem X8{cs:List D}{n k:Nat}{x:D}(hn:cs.length=n)(hk:k<=n):splice cs k (replD (n - k) [x])=cs.take k++List.replicate (n - k) x:=by
 have hr:replD (n - k) [x]=List.replicate (n - k) x:=by
  unfold replD;generalize n - k=j
  induction j with
  |zero=>rfl
  |succ j ih=>simp[List.replicate_succ,ih]
 rw[hr];unfold splice;split
 .rename_i y e;have h1:n - k=1:=by have:=congrArg List.length e;simpa using this
  rw[h1] at e ⊢;simp at e;subst e;rw[List.set_eq_take_append_cons_drop,if_pos oG,List.drop_eq_nil_of_le oG];rfl
 .rw[List.length_replicate,List.drop_eq_nil_of_le oG,List.append_nil]
end
end Go.Abs
namespace Go.Proofs.Tryz.K
set_option maxRecDepth 10000
def vL(d:List Int)(n:Nat):List D:=(kS d).map I++List.replicate (n - (kS d).length) (I 0)
def Qz(d:List Int)(n:Nat)(m:Mem)(nx i:Nat)(r:D)(m':Mem)(nx':Nat):Prop:=nx'=nx/\r=.rs i 0 (kS d).length/\m'=up m i (some (.cells (vL d n) 3))
def acI(d:List Int)(m:Mem)(nx i:Nat)(r:D)(m':Mem)(nx':Nat):Prop:=nx'=nx/\r=.rs i 0 (kS d).length/\∃ c,m'=up m i (some (.cells c 3))/\c.take (kS d).length=(kS d).map I
theorem Eo{m:Mem}{nx i n:Nat}{d:List Int}(hi:i<nx)(hm:m i=some (.cells (d.map I) 3))(hl:d.length=n)(hn:n<=100000):ACalls prog 90 [.rs i 0 n] m nx (Qz d n m nx i):=by
 refine yx BE ?_;rw[ahJ];have ay:=hm
 have B8:up m i (some (.cells (d.map I) 3))=m:=by
  funext j;simp only[up];split
  .rename_i e;rw[e,hm]
  .rfl
 have whole:fD d n=d->Qz d n m nx i (.rs i 0 n) m nx:=fun h=>by
  have h:kS d=d:=by unfold kS;rw[hl];exact h
  refine⟨rfl,by rw[h,hl],?_⟩;rw[vL,h,hl,Nat.sub_self,List.replicate_zero,List.append_nil,B8]
 refine ws ?_;refine SS ?_;refine ab (aC (ao ?_));refine au ?_;refine ab (cH rfl (fun h=>?_) fun h=>b7 (aC (aw ?_)))
 .have h:n<2:=by have h:(n:Int)<2:=by simpa using h
                 omega
  refine aC (ao ?_);refine af ?_;refine ab (cK (ax rfl (whole ?_)))
  match d,n,hl,h with
  |[],_,rfl,_=>rfl
  |[a],_,rfl,_=>rfl
 have h2:2<=n:=by have h:¬ (n:Int)<2:=by simpa using h
                  omega
 refine SS ?_;refine ab (bV (fun s=>Ghost prog s ⟨az [(0,.rs i 0 n)],m,nx⟩/\fD d n=d) (cI (α:=Nat) (fun k=>⟨az [(0,.rs i 0 n),(3,I k)],m,nx⟩) (fun k=>1<=k/\k<=n/\fD d k=d.take k) (fun k=>n - k) 1 (aq eH) ⟨oG,oG,?_⟩ ?_) ?_)
 .match d,hl with
  |a::t,_=>rfl
  |[],hl=>simp at hl;omega
 .rintro k ⟨EN,hk,C⟩;refine aJ ?_;refine ab ⟨_,rfl,fun h=>?_,fun h=>?_⟩
  .have ap:k<n:=by have h:(k:Int)<n:=by simpa using h
                   omega
   obtain⟨j,rfl⟩:∃ j,k=j+1:=⟨k - 1,oG⟩
   have ha:d[j+1]? =some d[j+1]:=aG oG;have hb:d[j]? =some d[j]:=aG oG;have ga:d.getD (j+1) 0=d[j+1]:=by simp[bF,ha]
   have gb:d.getD j 0=d[j]:=by simp[bF,hb]
   have kd:=gu (f:=I) ha;have gA:=gu (f:=I) hb;have pw:((j+1:Nat):Int) - 1=(j:Int)/\ -9223372036854775808<=(j:Int)/\(j:Int)<=9223372036854775807:=by omega
   refine c8 aam ?_;refine bI ?_;refine aF (fV rfl ay gA V.h) ak (fW V.h V.h gA) ?_;refine SS ?_;refine a8 bf (av rfl (fun h=>?_) fun h=>?_)
   .have wy:d[j+1]=d[j]:=by simpa using h
    refine ws ?_;refine af ?_;refine aF (Ox rfl ay V.h V.h rfl) ak ⟨V.h,oG⟩ ?_;refine SS ?_;refine ab (aC (aw ?_));refine SS ?_;have ahK:fD d (j+1+1)=fD d (j+1):=RZ oG oG (by rw[ga,show j+1 - 1=j by omega,gb];exact wy);have BY:(fD d (j+1)).length=j+1:=by rw[C];simp;omega
    clear kd gA pw
    refine ab (bV (fun s=>∃ (c:List Int) (k:Nat),Ghost prog s ⟨az [(0,.rs i 0 n),(3,I (k:Nat))],up m i (some (.cells (c.map I) 3)),nx⟩/\c.length=n/\k<=n/\c.take k=fD d n) (cI (α:=List Int×Nat×Nat) (fun s=>⟨az [(0,.rs i 0 n),(3,I s.2.1),(4,.rs i (j+1) (n - (j+1))),(5,I (s.2.2+1:Nat))],up m i (some (.cells (s.1.map I) 3)),nx⟩)
     (fun s=>s.1.length=n/\j+1+(s.2.2+1)<=n/\s.2.1<=j+1+s.2.2/\s.1.take s.2.1=fD d (j+1+(s.2.2+1))/\∀ p,j+1+s.2.2<=p->s.1[p]? =d[p]?) (fun s=>n - s.2.2) (d,j+1,0) (jd eH B8.symm) ⟨hl,by simp only;omega,by simp only;omega,?_,fun _ _=>rfl⟩ ?_) ?_)
    .show d.take (j+1)=fD d (j+1+1);rw[ahK,C]
    .rintro⟨c,k,q⟩ ⟨J,X,w3,w4,U⟩;simp only at J X w3 w4 U;dsimp only;refine af ?_;refine aF (Gx rfl (up_same _ _ _)) ak V.h ?_;refine SS ?_;refine ab ⟨_,rfl,fun h=>?_,fun h=>?_⟩
     .have ap:q+1<n - (j+1):=by have h:((q+1:Nat):Int)<((n - (j+1):Nat):Int):=by simpa using h
                                omega
      have xa:c[j+1+(q+1)]? =some c[j+1+(q+1)]:=aG oG;have xb:c[j+1+q]? =some c[j+1+q]:=aG oG;have ya:d.getD (j+1+(q+1)) 0=c[j+1+(q+1)]:=by rw[bF, <- U _ oG,xa];rfl
      have yb:d.getD (j+1+q) 0=c[j+1+q]:=by rw[bF, <- U _ oG,xb];rfl
      have kd:=gu (f:=I) xa;have gA:=gu (f:=I) xb;generalize hA:c[j+1+(q+1)]=a at xa ya kd;generalize hB:c[j+1+q]=b at xb yb gA;clear hA hB;have pw:((q+1:Nat):Int) - 1=(q:Int)/\ -9223372036854775808<=(q:Int)/\(q:Int)<=9223372036854775807:=by omega
      refine c8 Y7 ?_;refine bI ?_;refine aF (fV rfl (up_same _ _ _) gA V.h) ak (fW V.h V.h gA) ?_;refine SS ?_;refine a8 bf (av rfl (fun h=>?_) fun h=>?_)
      .have aM:a≠b:=by simpa using h
       have hn:=R0 (d:=d) (t:=j+1+(q+1)) (by rw[ya,show j+1+(q+1) - 1=j+1+q by omega,yb];exact aM);refine ws ?_;refine bI ?_;refine ab (eZ ?_);refine au ?_;refine ab ?_;refine au ?_;refine ab (aK (c.set k a,k+1,q+1) (jd eH ?_) ⟨by simp[J],by simp only;omega,by simp only;omega,?_,fun p hp=>?_⟩ (by simp only;omega))
       .rw[la,List.map_set]
       .show(c.set k a).take (k+1)=fD d (j+1+(q+1)+1);rw[hn,ya, <- w4,List.take_succ_eq_append_getElem oP];simp;exact List.take_set_of_le (bP k)
       .simp only at hp;show(c.set k a)[p]? =_;rw[List.getElem?_set_ne oG];exact U p oG
      .have ahL:a=b:=by simpa using h
       have hn:=RZ (d:=d) (t:=j+1+(q+1)) oG oG (by rw[ya,show j+1+(q+1) - 1=j+1+q by omega,yb];exact ahL);refine ct ?_;refine au ?_;refine ab (aK (c,k,q+1) (aq eH) ⟨J,by simp only;omega,by simp only;omega,?_,fun p hp=>U p (by simp only at hp;omega)⟩ (by simp only;omega));show c.take k=fD d (j+1+(q+1)+1);rw[hn,w4]
     .have bh:¬ q+1<n - (j+1):=by have h:¬ ((q+1:Nat):Int)<((n - (j+1):Nat):Int):=by simpa using h
                                  omega
      refine⟨c,k,.forget _ _ _ _ fun t=>nX (l:=[(0,.rs i 0 n),(3,I k)]) ⟨rfl,rfl,trivial⟩ t,J,oG,?_⟩;rw[w4];exact congrArg (fD d) oG
    .rintro s ⟨c,k,hg,J,ck,X⟩;refine⟨_,hg,ao ?_⟩;refine af ?_;refine aF (Ox rfl (up_same _ _ _) V.h V.h rfl) ak ⟨V.h,oG⟩ ?_;refine cJ (abJ rfl (up_same _ _ _) V.h V.h) ak ⟨V.h,(by rw[c3];first|(simp;done)|(simp;omega)|omega),rfl⟩ ?_;refine er ?_;refine af ?_;refine aF (Y6 rfl (up_same _ _ _) V.h V.h rfl) ak ⟨V.h,oG⟩ ?_;refine SS ?_;have cy:(kS d).length=k:=by unfold kS;rw[hl, <- X];simp;omega
     refine ab (aT (bR (aL (ax (d:=.rs i 0 k) rfl ⟨rfl,by rw[cy],(la _ _ _ _).trans ?_⟩))));rw[X8 (by rw[List.length_map,J]) ck, <- List.map_take,X,vL,cy];unfold kS;rw[hl]
   .have aM:d[j+1]≠d[j]:=by simpa using h
    refine ct ?_;refine au ?_;refine ab (aK (j+1+1) (aq eH) ⟨oG,oG,?_⟩ oG);rw[R0 (by rw[ga,show j+1 - 1=j by omega,gb];exact aM),C,ga];exact(List.take_succ_eq_append_getElem oG).symm
  .have bh:¬ k<n:=by have h:¬ (k:Int)<n:=by simpa using h
                     omega
   have:k=n:=by omega
   refine⟨.forget _ _ _ _ fun t=>nX (l:=[(0,.rs i 0 n)]) ⟨rfl,trivial⟩ t,?_⟩;rw[<- this,C,dn oG]
 .rintro s ⟨hg,C⟩;refine⟨_,hg,ao ?_⟩;refine af ?_;exact ab (ax rfl (whole C))
theorem E3{m:Mem}{nx i n:Nat}{d:List Int}(hi:i<nx)(hm:m i=some (.cells (d.map I) 3))(hl:d.length=n)(hn:n<=100000):ACalls prog 90 [.rs i 0 n] m nx (acI d m nx i):=by
 refine(Eo hi hm hl hn).mono ?_;rintro r m' nx' ⟨h1,h2,h3⟩;refine⟨h1,h2,vL d n,h3,?_⟩;rw[vL,List.take_append_of_le_length oS,dn oS]
end Go.Proofs.Tryz.K
namespace Go.Argus
def gG(x:End)(b:Int)(w:List Int):List Int:=if Be x b then hU w (eg x) else w
@[simp] theorem Oy (x : End) (b : Int) (w : List Int) : (gG x b w).length = w.length := by unfold gG; split <;> simp
def A2(l:List Int):List Int:=kS (fN l)
structure p6(x:a7):Prop where
 rd:∀ r∈bU x,0<=r/\r<1200
 sl:x.op=17\/x.op=18->0<=x.n/\x.n<80
 wr: -1000000<=bT x/\bT x<1200
 ar:x.op=10\/x.op=38->x.args.length<=1000
structure Bp(x:End):Prop where
 rd:∀ r∈bS x,0<=r/\r<1200
 wr: -1000000<=eg x/\eg x<1200
 wh:x.aH.length<=9
 a1:x.kind=5->x.ins.op=10\/x.ins.op=38->x.ins.args.length<=1000
 a2:x.kind=6\/x.kind=7->x.args.length<=1000
def jg(w:List Int)(ok:Bool)(rs:List Int):Bool:=rs.foldl (fun ok r=>ok&&ku w r.toNat) ok
def xq(w:List Int)(x:a7):List Int:=hU w (if x.op=18 then kP x.n else bT x)
def mw(s:List Int×Bool)(x:a7):List Int×Bool:=(xq s.1 x,jg s.1 s.2 (bU x)&&(x.op !=17||ku s.1 (kP x.n).toNat))
def jw(l:List a7)(w:List Int):List Int×Bool:=l.foldl mw (w,true)
def je(b:bB)(w:List Int):List Int×Bool:=((jw b.ins w).1,jg (jw b.ins w).1 (jw b.ins w).2 (bS b.fin))
theorem l7{α β:Type}{f:β->α->β}{z:β}{l:List α}{k:Nat}{x:α}(h:l[k]? =some x):(l.take (k+1)).foldl f z=f ((l.take k).foldl f z) x:=by
 rw[List.take_add_one,h,List.foldl_append];rfl
theorem Jl(l:List a7)(w:List Int):(jw l w).1.length=w.length:=by
 unfold jw;generalize true=b
 induction l generalizing w b with
 |nil=>rfl
 |cons x l ih=>rw[List.foldl_cons];exact(ih _ _).trans (by simp[xq])
theorem Ir(b:bB)(w:List Int):(je b w).1.length=w.length:=Jl _ _
def bD(l:List (List Int)):List D:=l.flatMap fun w=>w.map bp
theorem JV{sz:Nat}:∀ {l:List (List Int)} {i:Nat} {w:List Int},(∀ w∈l,w.length=sz)->l[i]? =some w->(bD l).drop (i*sz)=w.map bp++(bD (l.drop (i+1)))
 |[],i,w,_,h=>by simp at h
 |a::l,0,w,_,h=>by simp at h;subst h;simp[bD]
 |a::l,i+1,w,hs,h=>by
  have ha:(a.map bp).length=sz:=by simpa using hs a oS
  have h1:(i+1)*sz=(a.map bp).length+i*sz:=by rw[ha,Nat.add_mul];omega
  have ih:=JV (l:=l) (i:=i) (w:=w) (fun w C=>hs w (by simp[C])) (by simpa using h);unfold bD at ih ⊢;rw[List.flatMap_cons,h1, <- List.drop_drop,List.drop_left,ih,List.drop_succ_cons]
theorem zu{sz:Nat}{l:List (List Int)}{i:Nat}{w:List Int}(h:∀ w∈l,w.length=sz)(hi:l[i]? =some w):((bD l).drop (i*sz)).take sz=w.map bp:=by
 rw[JV h hi,List.take_append_of_le_length (by simp[h w (cx hi)]),dn (by simp[h w (cx hi)])]
theorem CB{sz:Nat}:∀ {l:List (List Int)},(∀ w∈l,w.length=sz)->(bD l).length=l.length*sz
 |[],_=>by simp[bD]
 |a::l,h=>by
  have:=CB (l:=l) fun w C=>h w (by simp[C]);unfold bD at this ⊢;rw[List.flatMap_cons,List.length_append,this,List.length_map,h a oS,List.length_cons,Nat.add_mul];omega
theorem rB{sz:Nat}{l:List (List Int)}{i:Nat}{w:List Int}(h:∀ w∈l,w.length=sz)(hi:l[i]? =some w):i*sz+sz<=(bD l).length:=by
 rw[CB h];have:=(bL.1 hi).1;rw[<- Nat.succ_mul];exact Nat.mul_le_mul_right _ this
theorem GR{sz:Nat}(J:2<=sz):∀ {l:List (List Int)} {i:Nat} {w v:List Int},(∀ w∈l,w.length=sz)->l[i]? =some v->w.length=sz->splice (bD l) (i*sz) (w.map bp)=bD (l.set i w):=by
 intro l i w v h hi C
 have key:splice (bD l) (i*sz) (w.map bp)=(bD l).take (i*sz)++w.map bp++(bD l).drop (i*sz+(w.map bp).length):=by
  unfold splice;split
  .rename_i x hx;have:(w.map bp).length=1:=by rw[hx];rfl
   simp at this;omega
  .rfl
 rw[key,List.length_map,C];clear key
 induction l generalizing i with
 |nil=>simp at hi
 |cons a l ih=>
  have ha:(a.map bp).length=sz:=by simpa using h a oS
  cases i with
  |zero=>
   simp only[Nat.zero_mul,List.take_zero,List.nil_append,Nat.zero_add,List.set_cons_zero];unfold bD;rw[List.flatMap_cons,List.flatMap_cons, <- ha,List.drop_left]
  |succ i=>
   have ih:=ih (i:=i) (fun w C=>h w (by simp[C])) (by simpa using hi);simp only[List.set_cons_succ];unfold bD at ih ⊢;rw[List.flatMap_cons,List.flatMap_cons, <- ih,show(i+1)*sz=(a.map bp).length+i*sz by rw[ha,Nat.add_mul];omega,List.take_length_add_append,Nat.add_assoc,List.drop_length_add_append];simp
theorem Jm(n:Nat)(w:List Int):replD n (w.map bp)=bD (List.replicate n w):=by
 unfold replD bD
 induction n with
 |zero=>rfl
 |succ n ih=>rw[List.replicate_succ,List.replicate_succ,List.flatten_cons,List.flatMap_cons,ih]
theorem q7(n:Nat)(b:Bool):replD n [B b]=(List.replicate n b).map B:=by
 unfold replD
 induction n with
 |zero=>rfl
 |succ n ih=>rw[List.replicate_succ,List.replicate_succ,List.flatten_cons,List.map_cons,ih];rfl
theorem Kk(l:List (List Int)):∀ a∈bD l,Tr a:=.flat fun w=>.map fun _=>.s _
theorem JW{sz:Nat}{l:List (List Int)}{i:Nat}{w:List Int}(h:∀ w∈l,w.length=sz)(J:w.length=sz):∀ u∈l.set i w,u.length=sz:=fun u C=>by
 rcases List.mem_or_eq_of_mem_set C with h1|h1
 .exact h u h1
 .rw[h1];exact J
theorem Jn:∀ {w v:List Int},w.length=v.length->zipV (w.map bp) (v.map bp)=some (w.map (Value.int .u64),v.map (Value.int .u64))
 |[],[],_=>rfl
 |a::w,b::v,h=>by
  have:=Jn (w:=w) (v:=v) (by simpa using h);simp[zipV,sameK,this]
theorem Jo:∀ {w v:List Int},w.length=v.length->veqs (w.map (Value.int .u64)) (v.map (Value.int .u64))=(w==v)
 |[],[],_=>rfl
 |a::w,b::v,h=>by
  have:=Jo (w:=w) (v:=v) (by simpa using h);simp[veqs,veq1,this]
theorem OA(w:List Int):(w.map (Value.int .u64)).map kindV=List.replicate w.length 0:=by
 induction w with
 |nil=>rfl
 |cons a w ih=>simpa[kindV,List.replicate_succ] using ih
end Go.Argus
namespace Go.Proofs.Tryz.K
set_option maxRecDepth 10000
theorem LD{f:FuncId}{cs:List D}{xs:List Int}(J:SeqA prog f [] cs (xs.map fun n=>[I n]))(ht:Tr (.fn (.func f) [] cs))(hlen:xs.length<=12):OCall prog 201 [.fn (.func f) [] cs] ((fN xs).map I) xs.length 3:=by
 have C:∀ a∈[.fn (.func f) [] cs],Tr a:=.cons ht .nil;refine Af Tm C (.map fun _=>.s _) ?_;rw[adU];have LB:=LB J ht oG;refine ws ?_;refine SS ?_;refine er ?_;refine SS ?_;refine Bm LB rfl dd ?_;refine SS ?_;refine er ?_;refine SS ?_;refine kZ (wC (i:=0) (l:=xs) oG rfl rfl hlen) rfl dd fun r m' nx' hp=>?_;obtain⟨rfl,rfl,rfl⟩:=hp;refine er ?_;refine af ?_;exact ab (ax rfl ⟨0,rfl,rfl⟩)
theorem v9{f:FuncId}{cs:List D}{xs:List Int}(J:SeqA prog f [] cs (xs.map fun n=>[I n]))(ht:Tr (.fn (.func f) [] cs))(hlen:xs.length<=12):PCall prog 155 [.fn (.func f) [] cs] (aB (A2 xs)):=by
 have C:∀ a∈[.fn (.func f) [] cs],Tr a:=.cons ht .nil;refine bc Tn C (dg _) ?_;rw[adV];have LD:=LD J ht hlen;refine ws ?_;refine SS ?_;refine ab (aw ?_);refine SS ?_;refine Bm LD rfl dd ?_;refine kZ (E3 (i:=0) (d:=fN xs) (n:=xs.length) oG rfl oS oG) rfl dd fun r m' nx' hp=>?_;obtain⟨rfl,rfl,c,rfl,hc⟩:=hp;refine SS ?_;refine ab (aI (bw [(0,c,3)] ⟨up_same _ _ _,trivial⟩ (l:=[(2,aB (A2 xs))]) ⟨?_,trivial⟩) (ax rfl rfl));exact lb c3 (by rw[List.drop_zero,Nat.mul_one];exact hc)
def nextR(x:Argus.End):List Int:=A2 (cX x)
theorem R1{x:Argus.End}(hlen:x.aH.length<=9):PCall prog 155 [.fn (.func 202) [] [.pt (bd x)]] (aB (nextR x)):=
 v9 (US oG) (.fn oS (.cons (.pt (jF x)) .nil)) (by have:=JT x;omega)
theorem xR{x:Argus.End}{b:Int}{w:List Int}(J:w.length=20)(hlen:x.aH.length<=1000)(hn: -1000000<=eg x/\eg x<1280):PCall prog 199 [.agg (bd x),I b,dI w] (dI (gG x b w)):=by
 have C:∀ a∈[D.agg (bd x),I b,dI w],Tr a:=.cons (.agg (jF x)) (.cons (.s _) (.cons (kx _) .nil));refine bc To C (kx _) ?_;rw[adW];have Lz:=Lz (x:=x) (b:=b) hlen;refine ws ?_;refine au ?_;refine ab (aC (ao ?_));refine af ?_;refine cl Lz ?_;refine ab (cH rfl (fun h=>?_) fun h=>b7 (ao ?_))
 .have BG:=BG (x:=x);have rI:=rI (w:=w) (n:=eg x) J hn;refine aC (c8 Y8 ?_);refine af ?_;refine cl BG ?_;refine cl rI ?_;refine SS ?_;refine a8 bf (cK (jH (jZ rfl rfl vY s3 (iI oP) t231 oP) ?_));simp[gG,h]
 .refine af ?_;refine ab (jH (jZ rfl rfl vY s3 (iI oP) t231 oP) ?_);simp[gG,h]
set_option maxHeartbeats 1000000 in
theorem oi{b:bB}{w:List Int}(hw:w.length=20)(hl:b.ins.length<=100000)(hi:∀ x∈b.ins,p6 x)(hf:Bp b.fin)(oF:∀ x∈b.ins,(bU x).length<=100000)(jz:(bS b.fin).length<=100000):PCall prog 198 [.agg (c9 b),dI w] (.tup [dI (je b w).1,B (je b w).2]):=by
 have aZ:∀ a∈[D.agg (c9 b),dI w],Tr a:=.cons (.agg (Oz b)) (.cons (kx _) .nil);refine bc Tp aZ (.tup (.cons (kx _) (.cons (.s _) .nil))) ?_;rw[adX];refine ws ?_;refine fP (ud (cs:=c9 _) rfl) ak (by first|rfl|exact vq fC fp|exact jv _|exact vK dB) ?_;refine au ?_;refine ab (aw ?_);refine SS ?_;refine ab (aI (aP (l:=[(2,.rp 0 0),(3,.rp 1 0),(4,.rp 2 0),(6,B true)]) (ml:=[(0,.cells (c9 b) 72),(1,.cells (w.map bp) 231),(2,.cells (List.replicate 20 (bp 0)) 231)]) eH eH) (aC (aw ?_)));refine aJ ?_
 refine ab (bV (fun s=>∃ n',3<=n'/\Ghost prog s ⟨az [(2,.rp 0 0),(3,.rp 1 0),(4,.rp 2 0),(6,B (jw b.ins w).2)],bm [(0,.cells (c9 b) 72),(1,.cells ((jw b.ins w).1.map bp) 231),(2,.cells (List.replicate 20 (bp 0)) 231)],n'⟩) (dM (α:=Nat×Nat)
  (fun k=>⟨az [(2,.rp 0 0),(3,.rp 1 0),(4,.rp 2 0),(6,B (jw (b.ins.take k.1) w).2),(14,dG b.ins),(15,I b.ins.length),(16,I k.1)],bm [(0,.cells (c9 b) 72),(1,.cells ((jw (b.ins.take k.1) w).1.map bp) 231),(2,.cells (List.replicate 20 (bp 0)) 231)],k.2⟩)
  (fun k=>k.1<=b.ins.length/\3<=k.2) (fun k=>b.ins.length - k.1) (0,3) (aP eH eH) ⟨oS,oS⟩ ?_) ?_)
 .rintro⟨k,N⟩ ⟨hk,hN⟩;dsimp only at hk hN ⊢;refine SS ?_;refine ab ⟨_,rfl,fun h=>?_,fun h=>?_⟩
  .have ap:k<b.ins.length:=by simpa using h
   have hx:b.ins[k]? =some b.ins[k]:=by simp[ap]
   have gV:b.ins[k]∈b.ins:=bO ap;generalize b.ins[k]=x at hx gV;obtain⟨ird,Wo,iwr,iar⟩:=hi x gV;have C:jw (b.ins.take (k+1)) w=mw (jw (b.ins.take k) w) x:=l7 hx;have hlen:(jw (b.ins.take k) w).1.length=20:=by rw[Jl,hw]
   generalize jw (b.ins.take k) w=u at C hlen;obtain⟨v,ok⟩:=u;dsimp only at hlen ⊢;refine ws ?_;refine aJ ?_;refine ab (aC (aw ?_));have qj:=qj (x:=x) iar;refine SS ?_;refine cl qj ?_;refine af ?_;have alr:=oF x gV
   refine ab (bV (fun s=>Ghost prog s ⟨az [(2,.rp 0 0),(3,.rp 1 0),(4,.rp 2 0),(6,B (jg v ok (bU x))),(8,.rp N 0),(14,dG b.ins),(15,I b.ins.length),(16,I k)],up (bm [(0,.cells (c9 b) 72),(1,.cells (v.map bp) 231),(2,.cells (List.replicate 20 (bp 0)) 231)]) N (some (.cells (a9 x) 66)),N+1⟩) (dM (α:=Nat)
    (fun j=>⟨az [(2,.rp 0 0),(3,.rp 1 0),(4,.rp 2 0),(6,B (jg v ok ((bU x).take j))),(8,.rp N 0),(14,dG b.ins),(15,I b.ins.length),(16,I k),(21,aB (bU x)),(22,I (bU x).length),(23,I j)],up (bm [(0,.cells (c9 b) 72),(1,.cells (v.map bp) 231),(2,.cells (List.replicate 20 (bp 0)) 231)]) N (some (.cells (a9 x) 66)),N+1⟩)
    (fun j=>j<=(bU x).length) (fun j=>(bU x).length - j) 0 (jd eH (la _ _ _ _)) oG ?_) ?_)
   .intro j hj;refine SS ?_;refine ab ⟨_,rfl,fun h=>?_,fun h=>?_⟩
    .have J:j<(bU x).length:=by simpa using h
     have hr:(bU x)[j]? =some (bU x)[j]:=by simp[J]
     have X:(bU x)[j]∈bU x:=bO J;generalize (bU x)[j]=r at hr X;have ow:=ird r X;obtain⟨U,rfl⟩:=cN ow.1;have lS:=lS (w:=v) (m:=U) hlen oG;refine ws ?_;refine au ?_;refine ab (eZ ?_);refine aJ ?_;refine gc lS ?_;refine af ?_;refine ab ?_;refine af ?_;refine ab (aK (j+1) (aq ⟨rfl,rfl,rfl,?_,rfl,rfl,rfl,rfl,rfl,rfl,rfl,trivial⟩) oG oG)
     have e:jg v ok ((bU x).take (j+1))=(jg v ok ((bU x).take j)&&ku v U):=by
      unfold jg;rw[l7 hr,bx]
     rw[e];generalize jg v ok ((bU x).take j)=g;cases g<;>rfl
    .have bh:¬ j<(bU x).length:=by simpa using h
     refine aq ⟨rfl,rfl,rfl,?_,rfl,rfl,rfl,rfl,trivial⟩;show B _=B _;rw[dn oG]
   .intro s hg;have C:jw (b.ins.take (k+1)) w=(xq v x,jg v ok (bU x)&&(x.op !=17||ku v (kP x.n).toNat)):=C;generalize jg v ok (bU x)=MR at hg C;have En:=En (w:=v) (x:=x) hlen (fun h=>Wo (.inr h)) (fun _=>by omega);have fin:∀ (d:Bool) env,d=(MR&&(x.op !=17||ku v (kP x.n).toNat))->jk [(2,.rp 0 0),(3,.rp 1 0),(4,.rp 2 0),(6,B d),(8,.rp N 0),(14,dG b.ins),(15,I b.ins.length),(16,I k)] env->True:=fun _ _ _ _=>trivial;refine⟨_,hg,?_⟩;cases MR with
    |false=>
     have vZ:false=true->PCall prog 244 [I x.n] (I (kP x.n)):=fun h=>by cases h
     have lS:false=true->PCall prog 200 [dI v,I (kP x.n)] (B true):=fun h=>by cases h
     refine c8 ID ?_;refine aE ?_;refine Kh rfl rfl rfl (fun hc=>⟨ak,vZ hc⟩) ?_;refine Kh rfl rfl rfl (fun hc=>⟨ak,lS hc⟩) ?_;refine au ?_;refine a8 bf (eZ ?_);refine af ?_;refine cl En ?_;refine SS ?_;refine ab ?_;refine af ?_;refine ab (aK (k+1,N+1) (aP ⟨rfl,rfl,rfl,?_,rfl,rfl,rfl,trivial⟩ ⟨ag oG (ag oG rfl),?_,ag oG (ag oG rfl),trivial⟩) ⟨oM,oM⟩ oM)
     .dsimp only;rw[C];rfl
     .dsimp only;rw[C];exact up_same _ _ _
    |true=>
     by_cases ix:x.op=17
     .have fQ:(x.op !=17)=false:=by simp[ix]
      have alB:=Wo (.inl ix);have vZ:=vZ (n:=x.n) oG;obtain⟨sn,ot⟩:=cN (show 0<=kP x.n by unfold kP;omega);have lS:=lS (w:=v) (m:=sn) hlen (by unfold kP at ot;omega);rw[<- ot] at lS;refine c8 ID ?_;refine aE ?_;refine gc vZ ?_;refine gc lS ?_;refine au ?_;refine a8 bf (eZ ?_);refine af ?_;refine cl En ?_;refine SS ?_;refine ab ?_;refine af ?_;refine ab (aK (k+1,N+1) (aP ⟨rfl,rfl,rfl,?_,rfl,rfl,rfl,trivial⟩ ⟨ag oG (ag oG rfl),?_,ag oG (ag oG rfl),trivial⟩) ⟨oM,oM⟩ oM)
      .dsimp only;rw[C,fQ,ot];rfl
      .dsimp only;rw[C];exact up_same _ _ _
     .have fQ:(x.op !=17)=true:=by simp[ix]
      have vZ:false=true->PCall prog 244 [I x.n] (I (kP x.n)):=fun h=>by cases h
      have lS:false=true->PCall prog 200 [dI v,I (kP x.n)] (B true):=fun h=>by cases h
      refine c8 ID ?_;refine bK ?_;(iterate 5 refine z fun _ _=>?_);refine au ?_;refine a8 bf (eZ ?_);refine af ?_;refine cl En ?_;refine SS ?_;refine ab ?_;refine af ?_;refine ab (aK (k+1,N+1) (aP ⟨rfl,rfl,rfl,?_,rfl,rfl,rfl,trivial⟩ ⟨ag oG (ag oG rfl),?_,ag oG (ag oG rfl),trivial⟩) ⟨oM,oM⟩ oM)
      .dsimp only;rw[C,fQ];rfl
      .dsimp only;rw[C];exact up_same _ _ _
  .have bh:¬ k<b.ins.length:=by simpa using h
   have wv:b.ins.take k=b.ins:=dn oG;refine⟨N,hN,?_⟩;rw[wv];exact aq eH
 .rintro s ⟨n',dE,hg⟩;have hlen:(jw b.ins w).1.length=20:=by rw[Jl,hw]
  have E4:je b w=((jw b.ins w).1,jg (jw b.ins w).1 (jw b.ins w).2 (bS b.fin)):=rfl;rw[E4];generalize jw b.ins w=u at hg hlen ⊢;obtain⟨v,ok⟩:=u;dsimp only at hlen hg ⊢;have uF:=uF (x:=b.fin) hf.a1 hf.a2;refine⟨_,hg,aC (aw ?_)⟩;refine af ?_;refine cl uF ?_;refine af ?_
  refine ab (bV (fun s=>Ghost prog s ⟨az [(3,.rp 1 0),(4,.rp 2 0),(6,B (jg v ok (bS b.fin)))],bm [(1,.cells (v.map bp) 231),(2,.cells (List.replicate 20 (bp 0)) 231)],n'⟩) (dM (α:=Nat)
   (fun j=>⟨az [(3,.rp 1 0),(4,.rp 2 0),(6,B (jg v ok ((bS b.fin).take j))),(53,aB (bS b.fin)),(54,I (bS b.fin).length),(55,I j)],bm [(1,.cells (v.map bp) 231),(2,.cells (List.replicate 20 (bp 0)) 231)],n'⟩)
   (fun j=>j<=(bS b.fin).length) (fun j=>(bS b.fin).length - j) 0 (aP eH eH) oG ?_) ?_)
  .intro j hj;refine SS ?_;refine ab ⟨_,rfl,fun h=>?_,fun h=>?_⟩
   .have J:j<(bS b.fin).length:=by simpa using h
    have hr:(bS b.fin)[j]? =some (bS b.fin)[j]:=by simp[J]
    have X:(bS b.fin)[j]∈bS b.fin:=bO J;generalize (bS b.fin)[j]=r at hr X;have ow:=hf.rd r X;obtain⟨U,rfl⟩:=cN ow.1;have lS:=lS (w:=v) (m:=U) hlen oG;refine ws ?_;refine au ?_;refine ab (eZ ?_);refine af ?_;refine bE rfl rfl (dx rfl rfl V.h V.h (iI (by first|rfl|exact bA rfl|(simp;done)|(simp;omega)|omega))) (fun hc=>⟨ak,(dy V.h V.h (by first|rfl|exact bA rfl|(simp;done)|(simp;omega)|omega))⟩) ?_;refine SS ?_;refine gc lS ?_;refine af ?_;refine ab ?_;refine af ?_;refine ab (aK (j+1) (aq ⟨rfl,rfl,?_,rfl,rfl,rfl,trivial⟩) oG oG)
    have e:jg v ok ((bS b.fin).take (j+1))=(jg v ok ((bS b.fin).take j)&&ku v U):=by
     unfold jg;rw[l7 hr,bx]
    rw[e];generalize jg v ok ((bS b.fin).take j)=g;cases g<;>rfl
   .have bh:¬ j<(bS b.fin).length:=by simpa using h
    refine aq ⟨rfl,rfl,?_,trivial⟩;show B _=B _;rw[dn oG]
  .intro s hg;refine⟨_,hg,ao ?_⟩;refine aJ ?_;exact ab (XV (jZ rfl rfl vY s3 (iI oP) t231 oP) rfl rfl)
end Go.Proofs.Tryz.K
end
namespace Go.Argus
open Go.Abs
theorem YF{l:List Int}{j:Nat}(hj:j+1<l.length){x:Int}:x∈swapAt l j↔x∈l:=by
 have ha:l.getD j 0=l[j]:=by simp[bF,aG (show j<l.length by omega)]
 have hb:l.getD (j+1) 0=l[j+1]:=by simp[bF,aG hj]
 unfold swapAt;rw[ha,hb];exact(List.set_set_perm (show j+1<l.length from hj) (show j<l.length by omega)).mem_iff
theorem PR{x:Int}:∀ (j:Nat) {l:List Int},j<l.length->(x∈pB l j↔x∈l)
 |0,l,_=>Iff.rfl
 |j+1,l,hj=>by
  simp only[pB];split
  .exact(PR j oP).trans (YF hj)
  .exact Iff.rfl
theorem OY{l:List Int}{x:Int}:∀ k,k<l.length->(x∈nv l k↔x∈l)
 |0,_=>Iff.rfl
 |k+1,h=>by
  simp only[nv];exact(PR (k+1) (by simpa using h)).trans (OY k oG)
theorem ZO{l:List Int}{x:Int}:x∈fN l↔x∈l:=by
 unfold fN;cases l with
 |nil=>simp[nv]
 |cons a l=>exact OY _ oS
theorem Cx{l:List Int}{x:Int}:x∈A2 l↔x∈l:=by
 unfold A2 kS;rw[Qy (bP _),List.take_length];exact ZO
theorem wrap_u64{n:Nat}(h:n<2 ^ 64):IntKind.u64.wrap (n:Int)=n:=by
 unfold IntKind.wrap;simp[IntKind.signed,IntKind.bits];omega
theorem abK{a b:Int}(ha:0<=a/\a<18446744073709551616):0<=qk a b/\qk a b<=a:=by
 unfold qk intBitsV;simp only;rw[wrap_u64 (n:=(BitVec.ofInt IntKind.u64.bits a&&& BitVec.ofInt IntKind.u64.bits b).toNat) (BitVec.isLt (w:=64) _)];obtain⟨n,rfl⟩:=cN ha.1
 have h1:(BitVec.ofInt IntKind.u64.bits (n:Int)).toNat=n:=by
  rw[BitVec.toNat_ofInt];show((n:Int) % ((2 ^ 64:Nat):Int)).toNat=n;omega
 have h2:(BitVec.ofInt IntKind.u64.bits (n:Int)&&& BitVec.ofInt IntKind.u64.bits b).toNat<=n:=by
  rw[BitVec.toNat_and,h1];exact Nat.and_le_left
 omega
end Go.Argus
section
open Go Go.Abs Go.Proofs Go.Argus
namespace Go.Abs
section
variable{P:Program}{env:Env}{m:Mem}{nx:Nat}{x y:Operand}{t p:TypeId}{k:IntKind}{n n':Int}
theorem tT{j i l sz:Nat}{e:TypeId}{r:Row}(hx:(opd env x).core=.rs j 0 l)(hy:(opd env y).core=.s (.int k (i:Int)))(hm:m j=some r)(he:elemP P t=e)(C:P.cellsOf e=sz):
 Ef P (.indexAddr t x y) env m nx ⟨slT P t=true/\i<l,.rp j (i*sz),[],[j],0⟩:=by
 have h:=Gw (P:=P) (env:=env) (m:=m) (nx:=nx) (t:=t) hx hy hm he C;have h1:0+((i:Int)).toNat*sz=i*sz:=by simp
 have h2:(slT P t=true/\(0:Int)<=(i:Int)/\(i:Int)<l)=(slT P t=true/\i<l):=by
  apply propext;constructor
  .rintro⟨a,_,b⟩;exact⟨a,oG⟩
  .rintro⟨a,b⟩;exact⟨a,oG,oG⟩
 rw[h1,h2] at h;exact h
theorem aan{ps:Array (Nat×Operand)}{e:TypeId}{l:Nat}{z:List D}(C:P.underlying t=some (.array l e))(hp:ps.toList=[])(J:zeroP P t=z):Ef P (.build t ps) env m nx ⟨tyOk P t=true/\tyOk P e=true,.agg z,[],[],0⟩:=by
 refine⟨?_,rfl,rfl⟩;simp only[aop,C,hp,J,List.map_nil,fillD,Option.map_some]
theorem Tq{xs ys:List D}{us vs:List Value}{C:List Nat}(hx:(opd env x).core=.agg xs)(hy:(opd env y).core=.agg ys)(hf:flatT P t=some C)(J:zipV xs ys=some (us,vs)){c:Bool}(hc:(!veqs us vs)=c):
 Ef P (.binOp .neq t x y p) env m nx ⟨us.map kindV=C/\P.eqGuardType P.depth t=false,.s (.bool c),[],[],0⟩:=by
 refine⟨?_,rfl,rfl⟩
 have hn:nilD P m .neq t (.agg xs) y=none:=by
  unfold nilD;split<;>first|rfl|(rename_i h;cases h)
 simp only[aop,rho,hx,hy,hn,binD,aggEqD,hf,J,hc,Option.map_some]
end
def pC(cs:List D):Prop:=∀ d∈cs,∃ v,d=.s v
theorem pC.map{α:Type}{f:α->Value}{l:List α}:pC (l.map fun x=>.s (f x)):=fun d hd=>by
 obtain⟨x,_,rfl⟩:=List.mem_map.1 hd;exact⟨_,rfl⟩
theorem CX(l:List (List Int)):pC (Go.Argus.bD l):=fun d hd=>by
 obtain⟨w,_,C⟩:=List.mem_flatMap.1 hd;obtain⟨x,_,rfl⟩:=List.mem_map.1 C;exact⟨_,rfl⟩
theorem adY{i sz:Nat}{C cs:List D}(h:pC cs):cs.map (sub (fz0 i C sz))=cs:=by
 induction cs with
 |nil=>rfl
 |cons d cs ih=>
  obtain⟨v,rfl⟩:=h d oS;rw[List.map_cons,ih fun d hd=>h d (by simp[hd])];rfl
theorem Gh{m:Mem}{i j sz:Nat}{J cs:List D}{e:TypeId}(C:j≠i)(hm:m j=some (.cells cs e))(h:pC cs):(if j=i then none else(m j).map (Row.sub (fz0 i J sz)))=some (.cells cs e):=by
 rw[if_neg C,hm];show some (Row.cells (cs.map _) e)=_;rw[adY h]
theorem R2{i sz n:Nat}{C es:List D}:sub (fz0 i C sz) (.sl es n)=.sl es n:=rfl
theorem vo{i j sz off n:Nat}{C:List D}(h:j≠i):sub (fz0 i C sz) (.rs j off n)=.rs j off n:=by
 show(if j=i then _ else D.rs j off n)=_;rw[if_neg h]
theorem j0{i sz n:Nat}{C:List D}(h:C.length=n*sz):sub (fz0 i C sz) (.rs i 0 n)=.sl C n:=by
 show(if i=i then D.sl ((C.drop 0).take (n*sz)) n else _)=_;rw[if_pos rfl,List.drop_zero,dn oG]
end Go.Abs
namespace Go.Proofs.Tryz.K
set_option maxRecDepth 10000
theorem adZ:flatT prog 231=some (List.replicate 20 0):=kr
theorem ad0:prog.eqGuardType prog.depth 231=false:=kr
theorem ad1:flatT prog 100=some (List.replicate 19 0):=kr
theorem ad2:prog.eqGuardType prog.depth 100=false:=kr
theorem ad3:zeroP prog 231=(List.replicate 20 (0:Int)).map bp:=UZ
theorem ahM:prog.underlying 231=some (.array 20 98):=kr
section
variable{env:Env}{m:Mem}{nx:Nat}{x y:Operand}{p:TypeId}
theorem ad4{w v:List Int}(hx:(opd env x).core=dI w)(hy:(opd env y).core=dI v)(h:w.length=v.length):Ef prog (.binOp .neq 231 x y p) env m nx ⟨(w.map (Value.int .u64)).map kindV=List.replicate 20 0/\prog.eqGuardType prog.depth 231=false,B (w !=v),[],[],0⟩:=
 Tq hx hy adZ (Jn h) (by rw[Jo h];rfl)
theorem ad5{w:List Int}(h:w.length=20):(w.map (Value.int .u64)).map kindV=List.replicate 20 0/\prog.eqGuardType prog.depth 231=false:=⟨by rw[OA,h],ad0⟩
theorem Ts{w v:List Int}(hx:(opd env x).core=dI w)(hy:(opd env y).core=dI v)(h:w.length=v.length):Ef prog (.binOp .neq 100 x y p) env m nx ⟨(w.map (Value.int .u64)).map kindV=List.replicate 19 0/\prog.eqGuardType prog.depth 100=false,B (w !=v),[],[],0⟩:=
 Tq hx hy ad1 (Jn h) (by rw[Jo h];rfl)
theorem Tt{w:List Int}(h:w.length=19):(w.map (Value.int .u64)).map kindV=List.replicate 19 0/\prog.eqGuardType prog.depth 100=false:=⟨by rw[OA,h],ad2⟩
end
end Go.Proofs.Tryz.K
namespace Go.Argus
open Go.Proofs.Tryz.K (nextR)
structure CS where
 ws:List (List Int)
 re:List Bool
 ch:Bool
def cO(x:End)(w:List Int)(s:CS)(n:Int):CS:=
 if s.re.getD n.toNat false=false\/hZ (s.ws.getD n.toNat []) (gG x n w)≠s.ws.getD n.toNat [] then⟨s.ws.set n.toNat (hZ (s.ws.getD n.toNat []) (gG x n w)),s.re.set n.toNat true,true⟩ else s
def dH(bs:List bB)(s:CS)(k:Nat):CS:=match bs[k]? with
 |none=>s
 |some x=>if s.re.getD k false=true then(nextR x.fin).foldl (cO x.fin (je x (s.ws.getD k [])).1) s else s
def j4(bs:List bB)(s:CS):CS:=(List.range bs.length).foldl (dH bs) ⟨s.ws,s.re,false⟩
def ng(bs:List bB):Nat->CS->CS
 |0,s=>s
 |k+1,s=>if(j4 bs s).ch=true then ng bs k (j4 bs s) else j4 bs s
def lj:Int:=18446744073709551615
def iJ:Nat->List Int
 |0=>List.replicate 20 0
 |k+1=>hU (iJ k) k
@[simp] theorem OB : ∀ k, (iJ k).length = 20
 |0=>rfl
 |k+1=>by simp[iJ,OB k]
def j5(n args:Nat):CS:=⟨(List.replicate n (List.replicate 20 lj)).set 0 (iJ args),(List.replicate n false).set 0 true,true⟩
def dK(u:Int):Prop:=0<=u/\u<18446744073709551616
structure fR(n:Nat)(s:CS):Prop where
 lw:s.ws.length=n
 lr:s.re.length=n
 jX:∀ w∈s.ws,w.length=20
 rg:∀ w∈s.ws,∀ u∈w,dK u
def nC(w:List Int):Nat:=(w.map Int.toNat).sum
def qJ(s:CS):Nat:=(s.ws.map nC).sum+s.re.count false
def oR(s:CS):Nat:=qJ s+if s.ch=true then 1 else 0
theorem JX{l:List Nat}{k x y:Nat}(h:l[k]? =some x):(l.set k y).sum+x=l.sum+y:=by
 induction l generalizing k with
 |nil=>simp at h
 |cons a l ih=>cases k with
  |zero=>simp at h;subst h;simp;omega
  |succ k=>have:=ih (k:=k) (by simpa using h);simp;omega
theorem aao{l:List Int}{k:Nat}{x y:Int}(h:l[k]? =some x):nC (l.set k y)+x.toNat=nC l+y.toNat:=by
 unfold nC;rw[List.map_set];exact JX (by simp[h])
theorem OC{a b:Int}(h:dK a):dK (qk a b)/\qk a b<=a:=by
 have:=abK (b:=b) h;exact⟨⟨this.1,by unfold dK at h;omega⟩,this.2⟩
theorem aap{α:Type}{l:List α}{k:Nat}{x:α}(h:l[k]? =some x):l.set k x=l:=by
 apply List.ext_getElem?;intro i;rw[List.getElem?_set];split
 .rename_i e;subst e;rw[if_pos (bL.1 h).1,h]
 .rfl
theorem Pz{w v:List Int}(U:∀ u∈w,dK u):∀ k,k<=w.length->(∀ u∈fk w v k,dK u)/\nC (fk w v k)<=nC w/\(fk w v k≠w->nC (fk w v k)<nC w)
 |0,_=>⟨U,bP _,fun h=>absurd rfl h⟩
 |k+1,hk=>by
  obtain⟨h1,h2,h3⟩:=Pz (v:=v) U k oG;have hl:k<(fk w v k).length:=by simp;omega
  have hx:(fk w v k)[k]? =some (fk w v k)[k]:=aG hl;have hg:(fk w v k).getD k 0=(fk w v k)[k]:=by simp[bF,hx]
  have hm:=h1 _ (bO hl);simp only[fk,hg];generalize (fk w v k)[k]=a at hx hm;obtain⟨C,r2⟩:=OC (b:=v.getD k 0) hm;generalize qk a (v.getD k 0)=y at C r2;have hs:=aao (y:=y) hx;unfold dK at C hm;refine⟨fun u X=>?_,oG,fun J=>?_⟩
  .rcases List.mem_or_eq_of_mem_set X with h|h
   .exact h1 u h
   .subst h;exact C
  .by_cases e:y=a
   .subst e;have:(fk w v k).set k y=fk w v k:=aap hx;rw[this] at J ⊢;exact h3 J
   .omega
theorem aaq{l:List (List Int)}{k:Nat}{w v:List Int}(h:l[k]? =some w):((l.set k v).map nC).sum+nC w=(l.map nC).sum+nC v:=by
 rw[List.map_set];exact JX (by simp[h])
theorem count_set{l:List Bool}{k:Nat}{b:Bool}(h:l[k]? =some b):(l.set k true).count false+(if b=true then 0 else 1)=l.count false:=by
 induction l generalizing k with
 |nil=>simp at h
 |cons a l ih=>cases k with
  |zero=>simp at h;subst h;cases a<;>simp
  |succ k=>have:=ih (k:=k) (by simpa using h);simp only[List.set_cons_succ,List.count_cons];omega
theorem FF{x:End}{w:List Int}{s:CS}{n:Nat}{t:Int}(hs:fR n s)(ht:0<=t/\t<n):fR n (cO x w s t)/\oR (cO x w s t)<=oR s:=by
 obtain⟨lw,lr,jX,rg⟩:=hs;obtain⟨k,rfl⟩:=cN ht.1;have hk:k<n:=by omega
 have hx:s.ws[k]? =some s.ws[k]:=aG oG;have hb:s.re[k]? =some s.re[k]:=aG oG;have X:s.ws.getD k []=s.ws[k]:=by simp[bF,hx]
 have U:s.re.getD k false=s.re[k]:=by simp[bF,hb]
 have hm:s.ws[k]∈s.ws:=bO _;unfold cO;simp only[bx,X,U];generalize s.ws[k]=v at hx hm;generalize s.re[k]=b at hb;have v20:=jX v hm;obtain⟨C,J,m3⟩:=Pz (v:=gG x k w) (rg v hm) 20 oG;have hl:=OD v (gG x k w)
 change (∀ u∈hZ v (gG x k w),dK u) at C
 change nC (hZ v (gG x k w))<=nC v at J
 change hZ v (gG x k w)≠v->nC (hZ v (gG x k w))<nC v at m3
 generalize hZ v (gG x k w)=u at C J m3 hl;split
 .rename_i hc;refine⟨⟨by simp[lw],by simp[lr],JW jX oG,fun y hy=>?_⟩,?_⟩
  .rcases List.mem_or_eq_of_mem_set hy with h|h
   .exact rg y h
   .subst h;exact C
  .have h1:=aaq (v:=u) hx;have h2:=count_set hb;unfold oR qJ;simp only[if_true];rcases hc with hc|hc
   .subst hc;simp only[Bool.false_eq_true,if_false] at h2;omega
   .have:=m3 hc;omega
 .exact⟨⟨lw,lr,jX,rg⟩,bP _⟩
theorem AO{α β:Type}{f:β->α->β}{J:β->Prop}{φ:β->Nat}{l:List α}(h:∀ x∈l,∀ s,J s->J (f s x)/\φ (f s x)<=φ s){s:β}(C:J s):J (l.foldl f s)/\φ (l.foldl f s)<=φ s:=by
 induction l generalizing s with
 |nil=>exact⟨C,bP _⟩
 |cons x l ih=>
  obtain⟨h1,h2⟩:=h x oS s C;obtain⟨h3,h4⟩:=ih (fun y hy=>h y (by simp[hy])) h1;exact⟨h3,Nat.le_trans h4 h2⟩
theorem wW(x:End):(nextR x).length<=x.aH.length+3:=by
 have h1:=JU (d:=fN (cX x)) (fN (cX x)).length;have h2:=JT x;rw[IN] at h1;exact Nat.le_trans (by simpa[nextR,A2,kS] using h1) h2
structure sP(n:Nat)(b:bB):Prop where
 len:b.ins.length<=100000
 ins:∀ x∈b.ins,p6 x
 fin:Bp b.fin
 rl:∀ x∈b.ins,(bU x).length<=100000
 rf:(bS b.fin).length<=100000
 to:∀ t∈nextR b.fin,0<=t/\t<n
theorem Jp{bs:List bB}{s:CS}{n k:Nat}(hb:∀ b∈bs,sP n b)(C:fR n s):fR n (dH bs s k)/\oR (dH bs s k)<=oR s:=by
 unfold dH;split
 .exact⟨C,bP _⟩
 .rename_i x hx;split
  .exact AO (J:=fR n) (φ:=oR) (fun t ht s C=>FF C ((hb x (cx hx)).to t ht)) C
  .exact⟨C,bP _⟩
theorem Cw{bs:List bB}{s:CS}{n:Nat}(hb:∀ b∈bs,sP n b)(C:fR n s):fR n (j4 bs s)/\oR (j4 bs s)<=qJ s:=by
 have:=AO (J:=fR n) (φ:=oR) (f:=dH bs) (l:=List.range bs.length) (fun k _ s C=>Jp hb C) (s:=⟨s.ws,s.re,false⟩) ⟨C.lw,C.lr,C.jX,C.rg⟩;exact this
def iB(bs:List bB)(args:Nat):CS:=ng bs (qJ (j5 bs.length args)+1) (j5 bs.length args)
theorem getD_some{α:Type}{l:List α}{k:Nat}{x d:α}(h:l[k]? =some x):l.getD k d=x:=by simp[bF,h]
theorem JY{α:Type}{n k:Nat}{x y:α}(hk:k<n):(List.replicate k x++List.replicate (n - k) y).set k x=List.replicate (k+1) x++List.replicate (n - (k+1)) y:=by
 rw[show n - k=n - (k+1)+1 by omega,List.replicate_succ,List.replicate_succ',List.append_assoc,List.singleton_append];rw[List.set_append];simp
theorem aar{α:Type}{a b:Nat}{x y z:α}(h:z∈List.replicate a x++List.replicate b y):z=x\/z=y:=by
 rcases List.mem_append.1 h with h|h
 .exact .inl (List.eq_of_mem_replicate h)
 .exact .inr (List.eq_of_mem_replicate h)
theorem XP{x:End}{w v:List Int}{s:CS}{k:Nat}{b:Bool}(hx:s.ws[k]? =some v)(hb:s.re[k]? =some b)(h:b=false\/hZ v (gG x k w)≠v):cO x w s k=⟨s.ws.set k (hZ v (gG x k w)),s.re.set k true,true⟩:=by
 unfold cO;rw[bx,getD_some hx,getD_some hb,if_pos h]
theorem X9{x:End}{w v:List Int}{s:CS}{k:Nat}{b:Bool}(hx:s.ws[k]? =some v)(hb:s.re[k]? =some b)(h:¬ (b=false\/hZ v (gG x k w)≠v)):cO x w s k=s:=by
 unfold cO;rw[bx,getD_some hx,getD_some hb,if_neg h]
theorem Iw{n args:Nat}(ha:∀ u∈iJ args,dK u):fR n (j5 n args):=by
 refine⟨by simp[j5],by simp[j5],JW (fun w J=>by rw[List.eq_of_mem_replicate J];simp) oS,fun w J u C=>?_⟩;rcases List.mem_or_eq_of_mem_set J with h|h
 .rw[List.eq_of_mem_replicate h] at C;rw[List.eq_of_mem_replicate C];simp[dK,lj]
 .rw[h] at C;exact ha u C
end Go.Argus
namespace Go.Proofs.Tryz.K
set_option maxRecDepth 10000
set_option maxHeartbeats 2000000 in
theorem BH{p q:D}{f:aA}{n args:Nat}(hp:Tr p)(hq:Tr q)(fC:p.one=true)(fp:q.one=true)(hn:f.blocks.length=n)(qF:0<n)(mO:n<=100000)(ha:f.args=args)(tl:args<=1000)(B':∀ u∈iJ args,dK u)(hb:∀ b∈f.blocks,sP n b):
 PCall prog 197 [.agg (br p q f)] (.tup [.sl (bD (iB f.blocks args).ws) n,.sl ((iB f.blocks args).re.map B) n]):=by
 have aZ:∀ a∈[D.agg (br p q f)],Tr a:=.cons (nk hp hq f) .nil;refine bc Tu aZ (.tup (.cons (.sl (Kk _)) (.cons (.sl (.map fun _=>.s _)) .nil))) ?_;rw[ad6];refine aw ?_;refine au ?_;refine ab (aI (bw [(0,br p q f,133)] eH (l:=[(1,.pt (br p q f))]) eH) (oW Y9 ?_));refine aJ ?_;refine fP (AS rfl rfl V.h V.h) ak ⟨oG,rfl,oG,by rw[U0];omega,V.h⟩ ?_;refine dk ?_;have dE:((f.blocks.length:Nat):Int).toNat=n:=hn;refine a8 bf (aI (aP (l:=[(1,.pt (br p q f)),(4,.rs 1 0 n),(5,.rs 2 0 n)]) (ml:=[(1,.cells (bD (List.replicate n (List.replicate 20 0))) 231),(2,.cells ((List.replicate n false).map B) 4)]) ⟨rfl,?_,?_,trivial⟩ ⟨?_,?_,trivial⟩) (aC (aw ?_)))
 .exact congrArg (fun k=>D.rs 1 0 k) dE
 .exact congrArg (fun k=>D.rs 2 0 k) dE
 .exact congrArg (fun c=>some (Row.cells c 231)) ((congrArg (fun k=>replD k ((List.replicate 20 (0:Int)).map bp)) dE).trans (Jm n (List.replicate 20 0)))
 .exact congrArg (fun c=>some (Row.cells c 4)) ((congrArg (fun k=>replD k [B false]) dE).trans (q7 n false))
 refine au ?_
 refine ab (bV (fun s=>Ghost prog s ⟨az [(1,.pt (br p q f)),(4,.rs 1 0 n),(5,.rs 2 0 n)],bm [(1,.cells (bD (List.replicate n (List.replicate 20 lj))) 231),(2,.cells ((List.replicate n false).map B) 4)],3⟩) (dM (α:=Nat)
  (fun k=>⟨az [(1,.pt (br p q f)),(4,.rs 1 0 n),(5,.rs 2 0 n),(27,I n),(28,I k)],bm [(1,.cells (bD (List.replicate k (List.replicate 20 lj)++List.replicate (n - k) (List.replicate 20 0))) 231),(2,.cells ((List.replicate n false).map B) 4)],3⟩)
  (fun k=>k<=n) (fun k=>n - k) 0 (aP eH eH) oG ?_) ?_)
 .intro k hk;refine SS ?_;refine ab ⟨_,rfl,fun h=>?_,fun h=>?_⟩
  .have ap:k<n:=by simpa using h
   have uG:=JY (x:=List.replicate 20 lj) (y:=List.replicate 20 (0:Int)) ap
   have hi:(List.replicate k (List.replicate 20 lj)++List.replicate (n - k) (List.replicate 20 (0:Int)))[k]? =some (List.replicate 20 0):=by
    rw[List.getElem?_append_right oS,List.length_replicate,Nat.sub_self,show n - k=n - (k+1)+1 by omega,List.replicate_succ];rfl
   have Ag:∀ w∈List.replicate k (List.replicate 20 lj)++List.replicate (n - k) (List.replicate 20 (0:Int)),w.length=20:=fun w hw=>by
    rcases aar hw with h|h<;>(rw[h];simp)
   have Lu:PCall prog 241 [] (dI (List.replicate 20 lj)):=Lu;refine ws ?_;refine af ?_;refine ab (eZ ?_);refine af ?_;refine cl Lu ?_;refine af ?_;refine ab ?_;refine af ?_;refine ab (aK (k+1) (aP eH ⟨?_,rfl,trivial⟩) oG oG);rw[<- uG];rfl
  .have bh:¬ k<n:=by simpa using h
   have:k=n:=by omega
   subst this;refine aP eH ⟨?_,rfl,trivial⟩;show some (Row.cells (bD (_++List.replicate (k - k) _)) _)=_;rw[Nat.sub_self,List.replicate_zero,List.append_nil]
 rintro s hg;refine⟨_,hg,aw ?_⟩;have hi:(List.replicate n (List.replicate 20 lj))[0]? =some (List.replicate 20 lj):=by simp[qF]
 have Ag:∀ w∈List.replicate n (List.replicate 20 lj),w.length=20:=fun w hw=>by rw[List.eq_of_mem_replicate hw];simp
 refine af ?_;refine aF (aan ahM rfl ad3) ak ⟨V.h,V.h⟩ ?_;refine aJ ?_;refine ab (aI (aP (l:=[(1,.pt (br p q f)),(4,.rs 1 0 n),(5,.rs 2 0 n)]) (ml:=[(1,.cells (bD ((List.replicate n (List.replicate 20 lj)).set 0 (iJ 0))) 231),(2,.cells (((List.replicate n false).set 0 true).map B) 4)]) eH ⟨rfl,?_,trivial⟩) (aC (aw ?_)))
 .rw[List.map_set];rfl
 clear hi;refine aJ ?_
 refine ab (bV (fun s=>Ghost prog s ⟨az [(1,.pt (br p q f)),(4,.rs 1 0 n),(5,.rs 2 0 n)],bm [(1,.cells (bD ((List.replicate n (List.replicate 20 lj)).set 0 (iJ args))) 231),(2,.cells (((List.replicate n false).set 0 true).map B) 4)],3⟩) (dM (α:=Nat)
  (fun k=>⟨az [(1,.pt (br p q f)),(4,.rs 1 0 n),(5,.rs 2 0 n),(43,I args),(44,I k)],bm [(1,.cells (bD ((List.replicate n (List.replicate 20 lj)).set 0 (iJ k))) 231),(2,.cells (((List.replicate n false).set 0 true).map B) 4)],3⟩)
  (fun k=>k<=args) (fun k=>args - k) 0 (aP ⟨rfl,rfl,rfl,congrArg I ha,rfl,trivial⟩ eH) oG ?_) ?_)
 .intro k hk;refine SS ?_;refine ab ⟨_,rfl,fun h=>?_,fun h=>?_⟩
  .have ap:k<args:=by simpa using h
   have hi:((List.replicate n (List.replicate 20 lj)).set 0 (iJ k))[0]? =some (iJ k):=by simp[qF]
   have Ag:=JW (i:=0) Ag (OB k);have rI:=rI (w:=iJ k) (n:=(k:Int)) oS oG;refine ws ?_;refine af ?_;refine ab (eZ ?_);refine au ?_;refine aF (dx rfl rfl V.h V.h (zu oN oN)) ak (dy V.h V.h (rB oN oN)) ?_;refine SS ?_;refine cl rI ?_;refine af ?_;refine ab ?_;refine af ?_;refine ab (aK (k+1) (aP eH ⟨?_,rfl,trivial⟩) oG oG);show some (Row.cells (bD ((List.set _ 0 (iJ k)).set 0 (iJ (k+1)))) _)=_;rw[List.set_set]
  .have bh:¬ k<args:=by simpa using h
   have:k=args:=by omega
   subst this;exact aq eH
 clear Ag;rintro s hg;refine⟨_,hg,aC (aw ?_)⟩;refine SS ?_;have Ah:=Iw (n:=n) B';have hR:iB f.blocks args=ng f.blocks (qJ (j5 n args)+1) (j5 n args):=by rw[iB,hn]
 generalize iB f.blocks args=R at hR ⊢
 refine ab (bV (fun s=>∃ n',Ghost prog s ⟨az [(4,.rs 1 0 n),(5,.rs 2 0 n)],bm [(1,.cells (bD R.ws) 231),(2,.cells (R.re.map B) 4)],n'⟩/\fR n R) (y7 (α:=CS×Nat)
  (fun s=>⟨az [(1,.pt (br p q f)),(4,.rs 1 0 n),(5,.rs 2 0 n),(8,B s.1.ch)],bm [(1,.cells (bD s.1.ws) 231),(2,.cells (s.1.re.map B) 4)],s.2⟩)
  (fun s=>fR n s.1/\3<=s.2/\(s.1.ch=true->∃ k,qJ s.1<k/\ng f.blocks k s.1=R)/\(s.1.ch=false->s.1=R)) (fun s=>2*qJ s.1+if s.1.ch=true then 1 else 0) (j5 n args,3)
  (aP eH eH) ⟨Ah,bP _,fun _=>⟨_,Nat.lt_succ_self _,hR.symm⟩,fun h=>by cases h⟩ ?_) ?_)
 .rintro⟨C,N0⟩ ⟨kz,mR,nM,xS⟩;dsimp only at kz mR nM xS ⊢;refine SS ?_;refine ab ⟨_,rfl,fun h0=>?_,fun h=>?_⟩
  .obtain⟨gz,Tv,xF⟩:=nM h0;obtain⟨gz,rfl⟩:∃ j,gz=j+1:=⟨gz - 1,oG⟩
   have xG:=Cw hb kz;refine ws ?_;refine SS ?_;refine ab (aw ?_);refine aV ?_
   refine ab (dM (α:=Nat×Nat)
    (fun k=>⟨az [(1,.pt (br p q f)),(4,.rs 1 0 n),(5,.rs 2 0 n),(8,B ((List.range k.1).foldl (dH f.blocks) ⟨C.ws,C.re,false⟩).ch),(58,fL f.blocks),(59,I n),(60,I k.1)],bm [(1,.cells (bD ((List.range k.1).foldl (dH f.blocks) ⟨C.ws,C.re,false⟩).ws) 231),(2,.cells (((List.range k.1).foldl (dH f.blocks) ⟨C.ws,C.re,false⟩).re.map B) 4)],k.2⟩)
    (fun k=>k.1<=n/\3<=k.2) (fun k=>n - k.1) (0,N0) (aP ⟨rfl,rfl,rfl,rfl,rfl,congrArg (fun k:Nat=>I k) hn,rfl,trivial⟩ eH) ⟨Nat.zero_le _,mR⟩ ?_)
   rintro⟨k,N⟩ ⟨hk,hN⟩;dsimp only at hk hN ⊢;have aY:=(AO (J:=fR n) (φ:=oR) (f:=dH f.blocks) (l:=List.range k) (fun k _ s hs=>Jp hb hs) (s:=⟨C.ws,C.re,false⟩) ⟨kz.lw,kz.lr,kz.jX,kz.rg⟩).1;have cq:(List.range (k+1)).foldl (dH f.blocks) ⟨C.ws,C.re,false⟩=dH f.blocks ((List.range k).foldl (dH f.blocks) ⟨C.ws,C.re,false⟩) k:=by rw[List.range_succ,List.foldl_append];rfl
   have gd:k=n->(List.range k).foldl (dH f.blocks) ⟨C.ws,C.re,false⟩=j4 f.blocks C:=fun e=>by rw[e,j4,hn]
   generalize (List.range k).foldl (dH f.blocks) ⟨C.ws,C.re,false⟩=u at aY cq gd;refine SS ?_;refine ab ⟨_,rfl,fun h=>?_,fun h=>?_⟩
   .have ap:k<n:=by simpa using h
    have hx:f.blocks[k]? =some f.blocks[k]:=aG oG;have bM:f.blocks[k]∈f.blocks:=bO _;generalize f.blocks[k]=x at hx bM;have jb:=hb x bM;have U:dH f.blocks u k=if u.re.getD k false=true then(nextR x.fin).foldl (cO x.fin (je x (u.ws.getD k [])).1) u else u:=by rw[dH,hx]
    have lw:=aY.lw;have lr:=aY.lr;have jX:=aY.jX;have hw:u.ws[k]? =some u.ws[k]:=aG oG;have fT:u.re[k]? =some u.re[k]:=aG oG;rw[getD_some hw,getD_some fT] at U;have mS:=jX _ (bO (h:=by omega):u.ws[k]∈u.ws);generalize u.ws[k]=w at hw U mS;generalize u.re[k]=b at fT U;have kd:=gu (f:=B) fT;refine ws ?_;refine bK ?_;refine ab (aC (ao ?_));refine af ?_;refine aF (kV rfl rfl (ag oG (ag oG rfl)) V.h V.h) ak ⟨V.h,oG⟩ ?_;refine aF (fV rfl (ag oG (ag oG rfl)) kd V.h) ak (fW V.h V.h kd) ?_;refine SS ?_;refine ab (cH rfl (fun h=>sk (xm ?_)) fun h=>b7 (oW X' ?_))
    .have MS:b=false:=by simpa using h
     subst MS;have U:dH f.blocks u k=u:=U;refine af ?_;refine ab (aK (k+1,N+1) (aP ⟨rfl,rfl,rfl,?_,rfl,rfl,rfl,trivial⟩ ⟨?_,?_,trivial⟩) ⟨oM,oM⟩ oM)
     .dsimp only;rw[cq,U];rfl
     .dsimp only;rw[cq,U];exact ag oG (ag oG rfl)
     .dsimp only;rw[cq,U];exact ag oG (ag oG rfl)
    have Ca:b=true:=by simpa using h
    subst Ca;have U:dH f.blocks u k=(nextR x.fin).foldl (cO x.fin (je x w).1) u:=U;have oi:=oi mS jb.len jb.ins jb.fin jb.rl jb.rf;have wa:=Ir x w;rw[mS] at wa;generalize E4:je x w=th at oi wa U;obtain⟨w',MR⟩:=th;dsimp only at wa oi U;clear kd;refine aF (dx (vs:=c9 _) rfl (up_same _ _ _) V.h V.h rfl) ak (dy V.h V.h (by first|(simp;done)|omega|exact bA rfl)) ?_;refine af ?_;refine aF (tT rfl rfl (ag oG (ag oG (up_same _ _ _))) V.h V.h) ak ⟨V.h,oG⟩ ?_;refine aF (dx rfl (ag oG (ag oG (up_same _ _ _))) V.h V.h (zu oN oN)) ak (dy V.h V.h (rB oN oN)) ?_;refine cl oi ?_;refine bK ?_;refine a8 bf (aI (jd (l:=[(1,.pt (br p q f)),(4,.rs 1 0 n),(5,.rs 2 0 n),(8,B u.ch),(10,.rp N 0),(11,.rp (N+1) 0),(58,fL f.blocks),(59,I n),(60,I k)]) (m':=up (up (bm [(1,.cells (bD u.ws) 231),(2,.cells (u.re.map B) 4)]) N (some (.cells (c9 x) 72))) (N+1) (some (.cells (w'.map bp) 231))) eH (by rw[la,la])) (aw ?_));have v8:=v8 (x:=x.fin);have v9:=R1 (x:=x.fin) jb.fin.wh
    change PCall _ _ _ (aB (nextR x.fin)) at v9
    have dF:=jb.to;have jA:=wW x.fin;have Cb:=jb.fin.wh;generalize nextR x.fin=l at v9 U dF jA;refine aF (qU rfl (ag oG (up_same _ _ _)) V.h) ak (pb V.h) ?_;refine aF (dx (vs:=bd _) rfl (ag oG (up_same _ _ _)) V.h V.h rfl) ak (dy V.h V.h (by first|(simp;done)|omega|exact bA rfl)) ?_;refine cl v8 ?_;refine cl v9 ?_;refine af ?_;have oh:dH f.blocks u k=l.foldl (cO x.fin w') u:=U
    refine ab (dM (α:=Nat×Nat)
     (fun j=>⟨az [(1,.pt (br p q f)),(4,.rs 1 0 n),(5,.rs 2 0 n),(8,B ((l.take j.1).foldl (cO x.fin w') u).ch),(10,.rp N 0),(11,.rp (N+1) 0),(58,fL f.blocks),(59,I n),(60,I k),(82,aB l),(83,I l.length),(84,I j.1)],up (up (bm [(1,.cells (bD ((l.take j.1).foldl (cO x.fin w') u).ws) 231),(2,.cells (((l.take j.1).foldl (cO x.fin w') u).re.map B) 4)]) N (some (.cells (c9 x) 72))) (N+1) (some (.cells (w'.map bp) 231)),j.2⟩)
     (fun j=>j.1<=l.length/\N+2<=j.2) (fun j=>l.length - j.1) (0,N+2) (jd eH rfl) ⟨Nat.zero_le _,bP _⟩ ?_)
    rintro⟨j,N'⟩ ⟨hj,HY⟩;dsimp only at hj HY ⊢;have HZ:=(AO (J:=fR n) (φ:=oR) (f:=cO x.fin w') (l:=l.take j) (fun t ht s hs=>FF hs (dF t (List.mem_of_mem_take ht))) aY).1;have X:∀ t,l[j]? =some t->(l.take (j+1)).foldl (cO x.fin w') u=cO x.fin w' ((l.take j).foldl (cO x.fin w') u) t:=fun t ht=>l7 ht;have pg:j=l.length->(l.take j).foldl (cO x.fin w') u=dH f.blocks u k:=fun e=>by rw[oh,dn oG]
    generalize (l.take j).foldl (cO x.fin w') u=v at HZ X pg;clear lw lr jX hw fT;have lw:=HZ.lw;have lr:=HZ.lr;have jX:=HZ.jX;refine SS ?_;refine ab ⟨_,rfl,fun h=>?_,fun h=>?_⟩
    .have cF:j<l.length:=by simpa using h
     have ht:l[j]? =some l[j]:=aG cF;have oU:=dF _ (bO cF);generalize l[j]=t at ht oU;obtain⟨i,rfl⟩:=cN oU.1;have bl:i<n:=by omega
     have hw:v.ws[i]? =some v.ws[i]:=aG oG;have fT:v.re[i]? =some v.re[i]:=aG oG;have MT:=jX _ (bO (h:=by omega):v.ws[i]∈v.ws);generalize v.ws[i]=y at hw MT;generalize v.re[i]=b at fT;have kd:=gu (f:=B) fT;have xR:=xR (x:=x.fin) (b:=(i:Int)) (w:=w') wa (by have:=jb.fin.wh;omega) (by have:=jb.fin.wr;omega);have yA:=Oy x.fin i w';rw[wa] at yA;have Hb:=Hb MT yA;have mL:=OD y (gG x.fin i w');rw[MT] at mL;have yes:=XP (x:=x.fin) (w:=w') hw fT;have no:=X9 (x:=x.fin) (w:=w') hw fT;generalize hZ y (gG x.fin i w')=z at Hb mL yes no;refine ws ?_;refine au ?_;refine ab (oW Ya ?_);refine af ?_;refine aF (tT rfl rfl (ag oG (ag oG (up_same _ _ _))) V.h V.h) ak ⟨V.h,oG⟩ ?_;refine aF (dx rfl (ag oG (ag oG (up_same _ _ _))) V.h V.h (zu oN oN)) ak (dy V.h V.h (rB oN oN)) ?_;refine aF (qU rfl (ag oG (up_same _ _ _)) V.h) ak (pb V.h) ?_;refine aF (dx (vs:=bd _) rfl (ag oG (up_same _ _ _)) V.h V.h rfl) ak (dy V.h V.h (by first|(simp;done)|omega|exact bA rfl)) ?_;refine SS ?_;refine aF (dx rfl (up_same _ _ _) V.h V.h (iI (by first|rfl|exact bA rfl|(simp;done)|(simp;omega)|omega))) ak (dy V.h V.h (by first|rfl|exact bA rfl|(simp;done)|(simp;omega)|omega)) ?_;refine cl xR ?_;refine cl Hb ?_;refine af ?_;refine a8 bf (aI (jd (l:=[(1,.pt (br p q f)),(4,.rs 1 0 n),(5,.rs 2 0 n),(8,B v.ch),(10,.rp N 0),(11,.rp (N+1) 0),(14,I i),(15,.rp N' 0),(58,fL f.blocks),(59,I n),(60,I k),(82,aB l),(83,I l.length),(84,I j)]) (m':=up (up (up (bm [(1,.cells (bD v.ws) 231),(2,.cells (v.re.map B) 4)]) N (some (.cells (c9 x) 72))) (N+1) (some (.cells (w'.map bp) 231))) N' (some (.cells (z.map bp) 231))) eH (la _ _ _ _)) (c8 Yb ?_));refine af ?_;refine aF (kV rfl rfl (ag oG (ag oG (ag oG rfl))) V.h V.h) ak ⟨V.h,oG⟩ ?_;refine aF (fV rfl (ag oG (ag oG (ag oG rfl))) kd V.h) ak (fW V.h V.h kd) ?_;refine af ?_;refine bE rfl rfl (dx rfl (up_same _ _ _) V.h V.h (iI (by first|rfl|exact bA rfl|(simp;done)|(simp;omega)|omega))) (fun hc=>⟨ak,(dy V.h V.h (by first|rfl|exact bA rfl|(simp;done)|(simp;omega)|omega))⟩) ?_;refine af ?_;refine bE rfl rfl (tT rfl rfl (ag oG (ag oG (ag oG (up_same _ _ _)))) V.h V.h) (fun hc=>⟨ak,⟨V.h,oG⟩⟩) ?_;refine bE rfl rfl (dx rfl (ag oG (ag oG (ag oG (up_same _ _ _)))) V.h V.h (zu oN oN)) (fun hc=>⟨ak,(dy V.h V.h (rB oN oN))⟩) ?_;refine bE rfl rfl (ad4 rfl rfl (by first|assumption|(simp;omega)|omega)) (fun hc=>⟨ak,(ad5 (by first|assumption|(simp;omega)|omega))⟩) ?_;refine SS ?_;refine a8 bf (av rfl (fun h=>?_) fun h=>?_)
     .have yes:=yes (by
       cases b with
       |false=>exact .inl rfl
       |true=>exact .inr (by simpa using h))
      have X:=(X _ ht).trans yes;clear yes no;refine eZ ?_;refine aJ ?_;refine aF (dx rfl (up_same _ _ _) V.h V.h (iI (by first|rfl|exact bA rfl|(simp;done)|(simp;omega)|omega))) ak (dy V.h V.h (by first|rfl|exact bA rfl|(simp;done)|(simp;omega)|omega)) ?_;refine aF (tT rfl rfl (ag oG (ag oG (ag oG (up_same _ _ _)))) V.h V.h) ak ⟨V.h,oG⟩ ?_;refine cJ (gq rfl rfl (ag oG (ag oG (ag oG (up_same _ _ _)))) (GR oC oN oN (by first|assumption|(simp;omega)|(simp;done)))) ak (CJ (by first|(simp;omega)|(simp;done)) (rB oN oN) (jv _)) ?_;refine aF (kV rfl rfl (ag oG (ag oG (ag oG (ag oG rfl)))) V.h V.h) ak ⟨V.h,oG⟩ ?_;refine cJ (iA (d:=.s (.bool _)) (cs':=_) rfl rfl (ag oG (ag oG (ag oG (ag oG rfl)))) rfl rfl) ak (dQ V.h V.h (by first|(simp;done)|exact⟨rfl,bA rfl⟩|(simp;omega)) rfl) ?_;refine SS ?_;refine ab ?_;refine af ?_
      refine ab (aK (j+1,N'+1) (aP (ml:=[(N+1,.cells (w'.map bp) 231),(N,.cells (c9 x) 72),(1,.cells (bD ((l.take (j+1)).foldl (cO x.fin w') u).ws) 231),(2,.cells (((l.take (j+1)).foldl (cO x.fin w') u).re.map B) 4)]) ⟨rfl,rfl,rfl,?_,rfl,rfl,rfl,rfl,rfl,rfl,rfl,rfl,trivial⟩
       ⟨ag oG (ag oG (ag oG (up_same _ _ _))),ag oG (ag oG (ag oG (ag oG (up_same _ _ _)))),ag oG ?_,?_,trivial⟩) ⟨oM,oM⟩ oM)
      .dsimp only;rw[X];rfl
      .rw[X];exact up_same _ _ _
      .rw[X];dsimp only;rw[List.map_set];exact up_same _ _ _
     .have no:=no (by
       cases b with
       |false=>simp at h
       |true=>simpa using h)
      have X:=(X _ ht).trans no;refine ct ?_;refine af ?_
      refine ab (aK (j+1,N'+1) (aP (ml:=[(N+1,.cells (w'.map bp) 231),(N,.cells (c9 x) 72),(1,.cells (bD ((l.take (j+1)).foldl (cO x.fin w') u).ws) 231),(2,.cells (((l.take (j+1)).foldl (cO x.fin w') u).re.map B) 4)]) ⟨rfl,rfl,rfl,?_,rfl,rfl,rfl,rfl,rfl,rfl,rfl,rfl,trivial⟩
       ⟨ag oG (up_same _ _ _),ag oG (ag oG (up_same _ _ _)),?_,?_,trivial⟩) ⟨oM,oM⟩ oM)
      .dsimp only;rw[X];rfl
      .rw[X];exact ag oG (ag oG (ag oG rfl))
      .rw[X];exact ag oG (ag oG (ag oG rfl))
    .have bh:¬ j<l.length:=by simpa using h
     have vl:=pg oG;subst vl;show AOps _ _ _ _ _ _ _ _ _;refine af ?_;refine ab (aK (k+1,N') (aP ⟨rfl,rfl,rfl,?_,rfl,rfl,rfl,trivial⟩ ⟨?_,?_,trivial⟩) ⟨oM,oM⟩ oM)
     .dsimp only;rw[cq];rfl
     .dsimp only;rw[cq];exact ag oG (ag oG rfl)
     .dsimp only;rw[cq];exact ag oG (ag oG rfl)
   .have bh:¬ k<n:=by simpa using h
    have hl:=gd oG;subst hl;refine aK (j4 f.blocks C,N) (aP eH eH) ⟨aY,hN,fun hc=>?_,fun hc=>?_⟩ ?_
    .refine⟨gz,?_,?_⟩
     .have:=xG.2;unfold oR at this;show qJ (j4 f.blocks C)<gz;rw[if_pos hc] at this;omega
     .dsimp only at hc ⊢;rw[<- xF,ng,if_pos hc]
    .dsimp only at hc ⊢;rw[<- xF,ng,if_neg (by simp[hc])]
    .have:=xG.2;unfold oR at this;dsimp only;rw[if_pos h0];split at this<;>rename_i hc
     .rw[if_pos hc];omega
     .rw[if_neg hc];omega
  .have E5:=xS h;subst E5;exact⟨N0,aP eH eH,kz⟩
 .rintro s ⟨n',hg,xT⟩;refine⟨_,hg,aw ?_⟩;refine aJ ?_;refine ab (aI (bw [(1,bD R.ws,231),(2,R.re.map B,4)] ⟨rfl,Gh oG rfl .map,trivial⟩ (l:=[(2,.sl (bD R.ws) n),(3,.sl (R.re.map B) n)]) ⟨?_,?_,trivial⟩) (dN rfl rfl rfl))
  .show sub (fz0 2 (R.re.map B) (prog.cellsOf 4)) (sub (fz0 1 (bD R.ws) (prog.cellsOf 231)) (D.rs 1 0 n))=_;rw[j0 (by rw[s3,CB xT.jX,xT.lw]),R2]
  .show sub (fz0 2 (R.re.map B) (prog.cellsOf 4)) (sub (fz0 1 (bD R.ws) (prog.cellsOf 231)) (D.rs 2 0 n))=_;rw[vo oG,j0 (by rw[c4,List.length_map,xT.lr,Nat.mul_one])]
end Go.Proofs.Tryz.K
namespace Go.Abs
def jc(r:Nat)(l:List D):D:=match l with
 |[]=>.z
 |_=>.rs r 0 l.length
theorem rD{r:Nat}{l:List D}(h:l≠[]):jc r l=.rs r 0 l.length:=by cases l with
 |nil=>exact absurd rfl h
 |cons=>rfl
def om(ρ:Nat->Nat)(L:Nat->List D)(n:Nat):List D:=(List.range n).map fun i=>jc (ρ i) (L i)
@[simp] theorem ali (ρ : Nat -> Nat) (L : Nat -> List D) (n : Nat) : (om ρ L n).length = n := by simp [om]
theorem Jq{ρ:Nat->Nat}{L:Nat->List D}{n i:Nat}(hi:i<n):∃ cs,(om ρ L n).drop i=jc (ρ i) (L i)::cs:=
 ⟨_,gu (f:=fun i=>jc (ρ i) (L i)) (by simp[hi])⟩
theorem IP{α:Type}{F:Nat->α}{n i:Nat}{x:α}:((List.range n).map F).set i x=(List.range n).map (up F i x):=by
 apply List.ext_getElem?;intro k;rw[List.getElem?_set];simp only[List.length_map,List.length_range,List.getElem?_map];split
 .rename_i e;subst e;split
  .rename_i h;simp[h,up_same]
  .rename_i h;simp[h]
 .rename_i e;by_cases hk:k<n
  .simp[hk,up_ne F x (Ne.symm e)]
  .simp[hk]
theorem abL{ρ:Nat->Nat}{L:Nat->List D}{n i r:Nat}{l:List D}(hl:l≠[]):(om ρ L n).set i (.rs r 0 l.length)=om (up ρ i r) (up L i l) n:=by
 unfold om;rw[IP];refine congrArg (fun F=>(List.range n).map F) (funext fun k=>?_);simp only[up];split
 .rw[rD hl]
 .rfl
structure gQ(m:Mem)(nx j n:Nat)(e et:TypeId)(ρ:Nat->Nat)(L:Nat->List D):Prop where
 row:m j=some (.cells (om ρ L n) e)
 kJ:j<nx
 kA:∀ i,i<n->L i≠[]->m (ρ i)=some (.cells (L i) et)
 lt:∀ i,i<n->L i≠[]->ρ i<nx
 ne:∀ i,i<n->L i≠[]->ρ i≠j
 inj:∀ i k,i<n->k<n->L i≠[]->L k≠[]->ρ i=ρ k->i=k
theorem gQ.ext{m m':Mem}{nx nx' j n:Nat}{e et:TypeId}{ρ:Nat->Nat}{L:Nat->List D}(h:gQ m nx j n e et ρ L)(hm:∀ q,q<nx->m' q=m q)(hn:nx<=nx'):gQ m' nx' j n e et ρ L:=
 ⟨(hm j h.kJ).trans h.row,Nat.lt_of_lt_of_le h.kJ hn,fun i hi hl=>(hm _ (h.lt i hi hl)).trans (h.kA i hi hl),fun i hi hl=>Nat.lt_of_lt_of_le (h.lt i hi hl) hn,h.ne,h.inj⟩
theorem gQ.Cc{m m':Mem}{nx nx' j n i r:Nat}{e et:TypeId}{ρ:Nat->Nat}{L:Nat->List D}{l:List D}(h:gQ m nx j n e et ρ L)(hi:i<n)(hl:l≠[])(hr:nx<=r)(gN:r<nx')
 (hj:m' j=some (.cells ((om ρ L n).set i (.rs r 0 l.length)) e)) (ay:m' r=some (.cells l et)) (hk:∀ q,q<nx->q≠j->(L i≠[]->q≠ρ i)->m' q=m q):gQ m' nx' j n e et (up ρ i r) (up L i l):=by
 have cF:=h.kJ
 have old:∀ k,k<n->k≠i->L k≠[]->m' (ρ k)=some (.cells (L k) et):=fun k U J C=>
  (hk _ (h.lt k U C) (h.ne k U C) fun Eg e=>J (h.inj k i U hi C Eg e)).trans (h.kA k U C)
 refine⟨by rw[hj,abL hl],oG,fun k U C=>?_,fun k U C=>?_,fun k U C=>?_,fun a b ha hb Cd Ce r8=>?_⟩
 .by_cases J:k=i
  .subst J;rw[up_same,up_same];exact ay
  .rw[up_ne _ _ J] at C ⊢;rw[up_ne _ _ J];exact old k U J C
 .by_cases J:k=i
  .subst J;rw[up_same];exact gN
  .rw[up_ne _ _ J] at C ⊢;have:=h.lt k U C;omega
 .by_cases J:k=i
  .subst J;rw[up_same];omega
  .rw[up_ne _ _ J] at C ⊢;exact h.ne k U C
 .by_cases yB:a=i
  .by_cases X:b=i
   .omega
   .subst yB;rw[up_same,up_ne _ _ X] at r8;rw[up_ne _ _ X] at Ce;have:=h.lt b hb Ce;omega
  .by_cases X:b=i
   .subst X;rw[up_same,up_ne _ _ yB] at r8;rw[up_ne _ _ yB] at Cd;have:=h.lt a ha Cd;omega
   .rw[up_ne _ _ yB] at Cd r8;rw[up_ne _ _ X] at Ce r8;exact h.inj a b ha hb Cd Ce r8
theorem Jr{m:Mem}{nx j n:Nat}{e et:TypeId}{ρ:Nat->Nat}(hj:j<nx)(hm:m j=some (.cells (List.replicate n .z) e)):gQ m nx j n e et ρ (fun _=>[]):=by
 refine⟨?_,hj,fun _ _ h=>absurd rfl h,fun _ _ h=>absurd rfl h,fun _ _ h=>absurd rfl h,fun _ _ _ _ h=>absurd rfl h⟩;rw[hm];congr 2;unfold om jc;rw[List.map_const',List.length_range]
theorem Gi(n:Nat):replD n [.z]=List.replicate n D.z:=by
 unfold replD
 induction n with
 |zero=>rfl
 |succ n ih=>rw[List.replicate_succ,List.replicate_succ,List.flatten_cons,ih];rfl
def lc(X:Nat->Prop)(d:D):Prop:=∀ i cs sz,X i->sub (fz0 i cs sz) d=d
def j8(X:Nat->Prop)(r:Row):Prop:=∀ i cs sz,X i->Row.sub (fz0 i cs sz) r=r
theorem lc.s{X:Nat->Prop}(v:Value):lc X (.s v):=fun _ _ _ _=>rfl
theorem lc.sl{X:Nat->Prop}(es:List D)(n:Nat):lc X (.sl es n):=fun _ _ _ _=>rfl
theorem lc.z{X:Nat->Prop}:lc X .z:=fun _ _ _ _=>rfl
theorem lc.u{X:Nat->Prop}:lc X .u:=fun _ _ _ _=>rfl
theorem lc.rs{X:Nat->Prop}{j off n:Nat}(h:¬ X j):lc X (.rs j off n):=fun i cs sz hi=>vo fun e=>h (e▸hi)
theorem lc.rp{X:Nat->Prop}{j off:Nat}(h:¬ X j):lc X (.rp j off):=fun i cs sz hi=>by
 show(if j=i then _ else D.rp j off)=_;exact if_neg fun(e:j=i)=>h (e▸hi)
theorem j8.cells{X:Nat->Prop}{cs:List D}{e:TypeId}(h:∀ d∈cs,lc X d):j8 X (.cells cs e):=fun i C sz hi=>by
 show Row.cells (cs.map _) e=_;congr 1
 induction cs with
 |nil=>rfl
 |cons d cs ih=>rw[List.map_cons,h d oS i C sz hi,ih fun d hd=>h d (by simp[hd])]
theorem j8.Ep{X:Nat->Prop}{cs:List D}{e:TypeId}(h:pC cs):j8 X (.cells cs e):=j8.cells fun d hd=>by obtain⟨v,rfl⟩:=h d hd;exact .s v
theorem JZ(d:D):Wk d d:=fun _ _ _ _ h=>h
theorem ahN:Wk .z (.sl [] 0):=fun F β w v hv=>by
 obtain⟨x,rfl⟩:=hv.z_inv;exact .sln x 0
theorem Oa{X:Nat->Prop}{l:List (Nat×D)}(h:∀ x∈l,lc X x.2)(t:Nat):lc X (az l t):=by
 induction l with
 |nil=>exact .u
 |cons x l ih=>
  obtain⟨k,d⟩:=x;simp only[az];split
  .exact h (k,d) oS
  .exact ih fun y hy=>h y (by simp[hy])
theorem Yc{X:Nat->Prop}{l:List (Nat×Row)}(h:∀ x∈l,j8 X x.2){q:Nat}{r:Row}(hq:bm l q=some r):j8 X r:=by
 induction l with
 |nil=>simp[bm] at hq
 |cons x l ih=>
  obtain⟨k,d⟩:=x;simp only[bm] at hq;split at hq
  .cases hq;exact h (k,r) oS
  .exact ih (fun y hy=>h y (by simp[hy])) hq
theorem Y'{l:List (Nat×Row)}{q:Nat}(h:∀ x∈l,x.1≠q):bm l q=none:=by
 induction l with
 |nil=>rfl
 |cons x l ih=>
  obtain⟨k,d⟩:=x;simp only[bm];rw[if_neg fun e=>h (k,d) oS e.symm];exact ih fun y hy=>h y (by simp[hy])
section
variable{P:Program}
open Classical in
noncomputable def kB(ml:List (Nat×Row))(j n k:Nat)(e et:TypeId)(ρ:Nat->Nat)(L:Nat->List D):Mem:=fun q=>
 if q=j then some (.cells ((List.range n).map fun i=>if i<k then .sl (L i) (L i).length else jc (ρ i) (L i)) e)
 else if h:∃ i,k<=i/\i<n/\L i≠[]/\ρ i=q then some (.cells (L (Classical.choose h)) et)
 else bm ml q
theorem aas{m:Mem}{nx j n k:Nat}{e et:TypeId}{ρ:Nat->Nat}{L:Nat->List D}{l:List (Nat×D)}{ml:List (Nat×Row)}{X:Nat->Prop}(h:gQ m nx j n e et ρ L)(hs:∀ i,pC (L i))(U:P.cellsOf et=1)
 (J:∀ i,i<n->L i≠[]->X (ρ i)) (tz:¬ X j) (hl:∀ x∈l,lc X x.2) (qE:∀ x∈ml,j8 X x.2/\¬ X x.1) (hk:k<n):
 Ghost P ⟨az l,kB ml j n k e et ρ L,nx⟩ ⟨az l,kB ml j n (k+1) e et ρ L,nx⟩:=by
 by_cases C:L k=[]
 .refine .weak _ _ _ _ _ (fun t=>JZ _) fun q=>?_;by_cases hq:q=j
  .subst hq;right;refine⟨_,_,e,by simp only[kB,if_true];rfl,by simp only[kB,if_true];rfl,oS,fun i d d' hd td=>?_⟩;simp only[List.getElem?_map,dw] at hd td;obtain⟨a,ha,rfl⟩:=hd;obtain⟨b,hb,rfl⟩:=td;rw[ha] at hb;cases hb;by_cases h1:a<k
   .rw[if_pos h1,if_pos oG];exact JZ _
   .rw[if_neg h1];by_cases h2:a=k
    .subst h2;rw[if_pos oG,C];exact ahN
    .rw[if_neg oG];exact JZ _
  .left;simp only[kB,if_neg hq]
   have:(∃ i,k+1<=i/\i<n/\L i≠[]/\ρ i=q)↔(∃ i,k<=i/\i<n/\L i≠[]/\ρ i=q):=by
    constructor
    .rintro⟨i,h1,h2⟩;exact⟨i,oG,h2⟩
    .rintro⟨i,h1,h2,h3,h4⟩
     exact⟨i,by
      rcases Nat.lt_or_ge k i with g|g
      .exact g
      .have:i=k:=by omega
       subst this;exact absurd C h3,h2,h3,h4⟩
   by_cases hc:∃ i,k<=i/\i<n/\L i≠[]/\ρ i=q
   .rw[dif_pos (this.2 hc),dif_pos hc];have e1:=Classical.choose_spec hc;have e2:=Classical.choose_spec (this.2 hc);have:Classical.choose (this.2 hc)=Classical.choose hc:=h.inj _ _ e2.2.1 e1.2.1 e2.2.2.1 e1.2.2.1 (e2.2.2.2.trans e1.2.2.2.symm);rw[this]
   .rw[dif_neg (fun h=>hc (this.1 h)),dif_neg hc]
 .have E6:ρ k≠j:=h.ne k hk C
  have ay:kB ml j n k e et ρ L (ρ k)=some (.cells (L k) et):=by
   have hc:∃ i,k<=i/\i<n/\L i≠[]/\ρ i=ρ k:=⟨k,bP _,hk,C,rfl⟩
   simp only[kB,if_neg E6,dif_pos hc];have e1:=Classical.choose_spec hc;have:Classical.choose hc=k:=h.inj _ _ e1.2.1 hk e1.2.2.1 C e1.2.2.2;rw[this]
  have hg:=Ghost.freeze (P:=P) (az l) (kB ml j n k e et ρ L) nx (ρ k) (L k) et ay;have e1:(fun t=>sub (fz0 (ρ k) (L k) (P.cellsOf et)) (az l t))=az l:=funext fun t=>Oa hl t _ _ _ (J k hk C)
  have e2:(fun q=>if q=ρ k then none else(kB ml j n k e et ρ L q).map (Row.sub (fz0 (ρ k) (L k) (P.cellsOf et))))=kB ml j n (k+1) e et ρ L:=by
   funext q;by_cases tA:q=ρ k
   .subst tA;rw[if_pos rfl]
    have hc:¬ ∃ i,k+1<=i/\i<n/\L i≠[]/\ρ i=ρ k:=by
     rintro⟨i,g1,g2,g3,g4⟩;have:=h.inj _ _ g2 hk g3 C g4;omega
    simp only[kB,if_neg E6,dif_neg hc];exact(Y' fun x hx e=>(qE x hx).2 (e▸J k hk C)).symm
   .rw[if_neg tA];by_cases qK:q=j
    .subst qK;simp only[kB,if_true,Option.map_some];congr 1;show Row.cells (List.map _ (List.map _ _)) e=_;rw[List.map_map];congr 1;refine List.map_congr_left fun i hi=>?_;have bl:i<n:=by simpa using hi
     simp only[Function.comp_apply];by_cases h1:i<k
     .rw[if_pos h1,if_pos oG];rfl
     .rw[if_neg h1];by_cases h2:i=k
      .subst h2;rw[if_pos oG,rD C,U];exact j0 oG
      .rw[if_neg oG];by_cases h3:L i=[]
       .rw[h3];rfl
       .rw[rD h3];exact vo fun e=>h2 (h.inj _ _ bl hk h3 C e)
    .simp only[kB,if_neg qK]
     have this:(∃ i,k+1<=i/\i<n/\L i≠[]/\ρ i=q)↔(∃ i,k<=i/\i<n/\L i≠[]/\ρ i=q):=by
      constructor
      .rintro⟨i,h1,h2⟩;exact⟨i,oG,h2⟩
      .rintro⟨i,h1,h2,h3,h4⟩
       exact⟨i,by
        rcases Nat.lt_or_ge k i with g|g
        .exact g
        .have:i=k:=by omega
         subst this;exact absurd h4.symm tA,h2,h3,h4⟩
     by_cases hc:∃ i,k<=i/\i<n/\L i≠[]/\ρ i=q
     .rw[dif_pos (this.2 hc),dif_pos hc];have e1:=Classical.choose_spec hc;have e2:=Classical.choose_spec (this.2 hc);have:Classical.choose (this.2 hc)=Classical.choose hc:=h.inj _ _ e2.2.1 e1.2.1 e2.2.2.1 e1.2.2.1 (e2.2.2.2.trans e1.2.2.2.symm);rw[this];exact congrArg some (j8.Ep (X:=X) (hs _) _ _ _ (J k hk C))
     .rw[dif_neg (fun h=>hc (this.1 h)),dif_neg hc];cases hm:bm ml q with
      |none=>rfl
      |some r=>exact congrArg some (Yc (fun x hx=>(qE x hx).1) hm _ _ _ (J k hk C))
  rw[e1,e2] at hg;exact hg
theorem IQ{env:Env}{m:Mem}{nx j n:Nat}{e et:TypeId}{ρ:Nat->Nat}{L:Nat->List D}{l:List (Nat×D)}{ml:List (Nat×Row)}(X:Nat->Prop)(h:gQ m nx j n e et ρ L)(U:∀ i,pC (L i))(C:P.cellsOf et=1)
 (J:∀ i,i<n->L i≠[]->X (ρ i)) (tz:¬ X j) (he:jk l env) (hl:∀ x∈l,lc X x.2) (hm:DK ml m) (qE:∀ x∈ml,j8 X x.2/\¬ X x.1):
 Ghost P ⟨env,m,nx⟩ ⟨az l,bm ((j,.cells ((List.range n).map fun i=>.sl (L i) (L i).length) e)::ml),nx⟩:=by
 have key:∀ k,k<=n->Ghost P ⟨az l,kB ml j n 0 e et ρ L,nx⟩ ⟨az l,kB ml j n k e et ρ L,nx⟩:=fun k=>by
  induction k with
  |zero=>exact fun _=>.refl _
  |succ k ih=>exact fun hk=>(ih oG).trans (aas h U C J tz hl qE oG)
 have h0:Ghost P ⟨env,m,nx⟩ ⟨az l,kB ml j n 0 e et ρ L,nx⟩:=by
  refine(Ghost.forget env _ m nx (nX he)).trans (.drop _ _ _ _ fun q=>?_);by_cases hq:q=j
  .subst hq;left;simp only[kB,if_true,Nat.not_lt_zero,if_false];exact h.row.symm
  .simp only[kB,if_neg hq];by_cases hc:∃ i,0<=i/\i<n/\L i≠[]/\ρ i=q
   .rw[dif_pos hc];have e1:=Classical.choose_spec hc;left;have:=h.kA _ e1.2.1 e1.2.2.1;rw[e1.2.2.2] at this;exact this.symm
   .rw[dif_neg hc];exact Gg hm q
 refine h0.trans ((key n (bP _)).trans (.drop _ _ _ _ fun q=>.inl ?_));by_cases hq:q=j
 .subst hq;simp only[bm,kB,if_true];congr 2;exact List.map_congr_left fun i hi=>by rw[if_pos (by simpa using hi)]
 .simp only[bm,if_neg hq,kB];rw[dif_neg];rintro⟨i,g1,g2,_⟩;omega
end
section
variable{P:Program}{env:Env}{m:Mem}{nx:Nat}{x y:Operand}{t e:TypeId}{k:IntKind}
theorem PA{w:List Int}{rest:List D}{sz:Nat}(h:w.length=sz):(w.map bp++rest).take sz=w.map bp:=by
 rw[List.take_append_of_le_length (by simp[h]),dn (by simp[h])]
theorem R3{sz n i:Nat}{l:List (List Int)}{w:List Int}(hx:(opd env x).core=.sl (bD l) n)(hy:(opd env y).core=.s (.int k i))(he:elemP P t=e)(C:P.cellsOf e=sz)(hl:∀ w∈l,w.length=sz)(J:l[i]? =some w):
 Ef P (.indexAddr t x y) env m nx ⟨slT P t=true/\0<=(i:Int)/\(i:Int)<n/\((i:Int).toNat+1)*sz<=(bD l).length,.pt (w.map bp++bD (l.drop (i+1))),[],[],0⟩:=
 KG hx hy he C (by rw[bx];exact JV hl J)
theorem R4{sz n i:Nat}{l:List (List Int)}{w:List Int}(ht:slT P t=true)(hl:∀ w∈l,w.length=sz)(C:l[i]? =some w)(hn:i<n):slT P t=true/\0<=(i:Int)/\(i:Int)<n/\((i:Int).toNat+1)*sz<=(bD l).length:=by
 have:=rB hl C;refine⟨ht,oG,oG,?_⟩;rw[bx,Nat.add_mul,Nat.one_mul];exact this
theorem ni{i:Nat}{cs:List D}{l:List (Nat×D)}(hm:m i=some (.cells cs e))(hl:jk l fun t=>sub (fz0 i cs (P.cellsOf e)) (env t)):Ghost P ⟨env,m,nx⟩ ⟨az l,fun _=>none,nx⟩:=
 bw [(i,cs,e)] ⟨hm,trivial⟩ hl
theorem fU{l:List (Nat×D)}(hl:jk l env):Ghost P ⟨env,m,nx⟩ ⟨az l,fun _=>none,nx⟩:=PB hl fun _=>.inr rfl
end
section
variable{P:Program}{env:Env}{m:Mem}{nx:Nat}{x y:Operand}{t e:TypeId}{k:IntKind}
theorem aau{α:Type}{f:α->D}{l:List α}{b:Int}(hx:(opd env x).core=.sl (l.map f) l.length)(he:elemP P t=e)(J:P.cellsOf e=1)(hb:(opd env y).core=.s (.int .i64 b))(hc:slT P t=true)(C:0<=b/\b<=l.length):
 Ef P (.slice t x none (some y) none) env m nx ⟨True,.sl ((l.take b.toNat).map f) (l.take b.toNat).length,[],[],0⟩:=by
 have h:=AZ (P:=P) (env:=env) (m:=m) (nx:=nx) (t:=t) (lo:=none) (hi:=some y) (a:=0) (b:=b) (es':=(l.take b.toNat).map f) hx he J (by simp[bndD]) (by simp[bndD,hb,D.int?]) (by simp[List.map_take])
 have h2:(slT P t=true/\(0:Int)<=0/\(0:Int)<=b/\b<=(l.length:Int))=True:=by
  apply propext;constructor
  .exact fun _=>trivial
  .exact fun _=>⟨hc,oG,C.1,C.2⟩
 have h3:(b - 0).toNat=(l.take b.toNat).length:=by rw[List.length_take];omega
 rw[h2,h3] at h;exact h
theorem wY{i j sz:Nat}{C:List D}{r:Row}(J:j≠i)(hm:m j=some r)(h:Row.sub (fz0 i C sz) r=r):(if j=i then none else(m j).map (Row.sub (fz0 i C sz)))=some r:=by
 rw[if_neg J,hm];exact congrArg some h
theorem m9{i:Nat}{cs:List D}{l:List (Nat×D)}{ml:List (Nat×Row)}(hm:m i=some (.cells cs e))(hl:jk l fun t=>sub (fz0 i cs (P.cellsOf e)) (env t))(C:DK ml fun j=>if j=i then none else(m j).map (Row.sub (fz0 i cs (P.cellsOf e)))):Ghost P ⟨env,m,nx⟩ ⟨az l,bm ml,nx⟩:=
 (Ghost.freeze env m nx i cs e hm).trans (aP hl C)
end
theorem CW{z l:List D}(C:z.length=19)(hl:l.length=19):splice z 0 l=l:=by
 unfold splice;split
 .simp at hl
 .rw[List.take_zero,List.nil_append,List.drop_eq_nil_of_le oG,List.append_nil]
end Go.Abs
namespace Go.Argus
open Go.Proofs.Tryz.K (nextR)
def dz(b:Nat)(L:Nat->List Int)(t:Int):Nat->List Int:=up L t.toNat (L t.toNat++[(b:Int)])
def pX(bs:List bB)(L:Nat->List Int)(b:Nat):Nat->List Int:=match bs[b]? with
 |none=>L
 |some x=>(nextR x.fin).foldl (dz b) L
def bN(bs:List bB)(k:Nat):Nat->List Int:=(List.range k).foldl (pX bs) fun _=>[]
def bX(bs:List bB):List (List Int):=(List.range bs.length).map (bN bs bs.length)
def bG(L:List (List Int)):D:=.sl (L.map aB) L.length
theorem y4(L:List (List Int)):Tr (bG L):=.sl (.map fun _=>dg _)
theorem Js{F:Nat->List Int}{n:Nat}:(D.sl ((List.range n).map fun i=>.sl ((F i).map I) ((F i).map I).length) n)=bG ((List.range n).map F):=by
 unfold bG;rw[List.map_map,List.length_map,List.length_range];congr 1;exact List.map_congr_left fun i _=>by simp[aB]
theorem FG{b:Nat}{L:Nat->List Int}{t:Int}{c:Nat}(h:∀ i,(L i).length<=c):∀ i,(dz b L t i).length<=c+1:=fun i=>by
 unfold dz;simp only[up];split
 .have:=h t.toNat;simp;omega
 .have:=h i;omega
theorem Kl{L:Nat->List Int}{k:Nat}{l:List Int}:(fun i=>(up L k l i).map I)=up (fun i=>(L i).map I) k (l.map I):=by
 funext i;simp only[up];split<;>rfl
theorem kO{P:Nat->Bool}{n k:Nat}(hk:k<n)(h:P k=false):(List.range n).all P=false:=by
 refine Bool.eq_false_iff.2 fun ht=>?_;have:=bJ.1 ht k (by simpa using hk);rw[h] at this;cases this
theorem jY{P:Nat->Bool}{k:Nat}(h:(List.range k).all P=true)(hk:P k=true):(List.range (k+1)).all P=true:=by
 rw[List.range_succ,List.all_append,h];simp[hk]
abbrev b9(l:List Bool):D:=.sl (l.map B) l.length
def jM:bB:=⟨[],⟨0,0,0,0,0,.empty,dT,[],[],0⟩⟩
def tU(bs:List bB)(s:CS)(b:Nat)(y:a7)(i:Nat):Bool:=
 let p:=((bN bs bs.length b).getD i 0).toNat
 !(s.re.getD p false)||ku (gG (bs.getD p jM).fin b (je (bs.getD p jM) (s.ws.getD p [])).1) (y.args.getD i 0).toNat
def vM(bs:List bB)(s:CS)(b:Nat)(y:a7):Bool:=(List.range (bN bs bs.length b).length).all (tU bs s b y)
def bC(y:a7):Bool:=y.op==19
def ss(bs:List bB)(s:CS)(b:Nat):Bool:=
 !(s.re.getD b false)||((je (bs.getD b jM) (s.ws.getD b [])).2&&((bs.getD b jM).ins.takeWhile bC).all (vM bs s b))
def wX(bs:List bB)(args:Nat):Bool:=(List.range bs.length).all (ss bs (iB bs args))
theorem takeWhile_eq{α:Type}{p:α->Bool}{l:List α}{j:Nat}(h:∀ y∈l.take j,p y=true)(h':∀ y,l[j]? =some y->p y=false):l.takeWhile p=l.take j:=by
 induction l generalizing j with
 |nil=>simp
 |cons a l ih=>cases j with
  |zero=>have:=h' a rfl;simp[this]
  |succ j=>
   have ha:=h a oS;rw[List.takeWhile_cons,if_pos ha,List.take_succ_cons,ih (j:=j) (fun y hy=>h y (by simp[hy])) (fun y hy=>h' y (by simpa using hy))]
theorem Oc{b:Nat}{p:Int}:∀ {l:List Int} {L:Nat->List Int} {i:Nat},p∈(l.foldl (dz b) L) i↔p∈L i\/(p=b/\∃ t∈l,t.toNat=i)
 |[],L,i=>by simp
 |t::l,L,i=>by
  rw[List.foldl_cons,Oc (l:=l)];unfold dz;simp only[up];by_cases h:i=t.toNat
  .subst h;simp only[if_true,List.mem_append,List.mem_singleton];constructor
   .rintro((h|h)|⟨h,u,h1,h2⟩)
    .exact .inl h
    .exact .inr ⟨h,t,oS,rfl⟩
    .exact .inr ⟨h,u,by simp[h1],h2⟩
   .rintro(h|⟨h,u,h1,h2⟩)
    .exact .inl (.inl h)
    .exact .inl (.inr h)
  .rw[if_neg h];constructor
   .rintro(h'|⟨h',u,h1,h2⟩)
    .exact .inl h'
    .exact .inr ⟨h',u,by simp[h1],h2⟩
   .rintro(h'|⟨h',u,h1,h2⟩)
    .exact .inl h'
    .rcases List.mem_cons.1 h1 with e|e
     .subst e;exact absurd h2.symm h
     .exact .inr ⟨h',u,e,h2⟩
theorem yU{bs:List bB}{p:Int}{i:Nat}:∀ {k:Nat},p∈bN bs k i↔∃ b:Nat,p=b/\b<k/\∃ x,bs[b]? =some x/\∃ t∈nextR x.fin,t.toNat=i
 |0=>by simp[bN]
 |k+1=>by
  have ih:=yU (bs:=bs) (p:=p) (i:=i) (k:=k);have e:bN bs (k+1)=pX bs (bN bs k) k:=by rw[bN,List.range_succ,List.foldl_append];rfl
  rw[e,pX];cases hx:bs[k]? with
  |none=>
   simp only;rw[ih];constructor
   .rintro⟨b,h1,h2,h3⟩;exact⟨b,h1,oG,h3⟩
   .rintro⟨b,h1,h2,x,h3,h4⟩;refine⟨b,h1,?_,x,h3,h4⟩;rcases Nat.lt_or_ge b k with g|g
    .exact g
    .have:b=k:=by omega
     subst this;rw[hx] at h3;cases h3
  |some x=>
   simp only;rw[Oc,ih];constructor
   .rintro(⟨b,h1,h2,h3⟩|⟨h1,h2⟩)
    .exact⟨b,h1,oG,h3⟩
    .exact⟨k,h1,oG,x,hx,h2⟩
   .rintro⟨b,h1,h2,C,h3,h4⟩;rcases Nat.lt_or_ge b k with g|g
    .exact .inl ⟨b,h1,g,C,h3,h4⟩
    .have:b=k:=by omega
     subst this;rw[hx] at h3;cases h3;exact .inr ⟨h1,h4⟩
theorem NN{bs:List bB}{n:Nat}(hb:∀ b∈bs,sP n b):∀ (k:Nat) {s:CS},fR n s->fR n (ng bs k s)
 |0,_,h=>h
 |k+1,s,h=>by
  rw[ng];split
  .exact NN hb k (Cw hb h).1
  .exact(Cw hb h).1
theorem aat{bs:List bB}{args:Nat}(hb:∀ b∈bs,sP bs.length b)(C:∀ u∈iJ args,dK u):fR bs.length (iB bs args):=NN hb _ (Iw C)
theorem OE{b:Nat}:∀ {l:List Int} {L:Nat->List Int} {c:Nat},(∀ i,(L i).length<=c)->∀ i,((l.foldl (dz b) L) i).length<=c+l.length
 |[],_,_,h,i=>h i
 |t::l,L,c,h,i=>by
  have:=OE (b:=b) (l:=l) (FG (t:=t) (b:=b) h) i;rw[List.foldl_cons,List.length_cons];omega
theorem FH{bs:List bB}(C:∀ b∈bs,b.fin.aH.length<=9):∀ (k i:Nat),(bN bs k i).length<=12*k
 |0,_=>by simp[bN]
 |k+1,i=>by
  have ih:=FH C k;have e:bN bs (k+1)=pX bs (bN bs k) k:=by rw[bN,List.range_succ,List.foldl_append];rfl
  rw[e,pX];cases hx:bs[k]? with
  |none=>have:=ih i;simp only;omega
  |some x=>
   have h1:=OE (l:=nextR x.fin) (b:=k) ih i;have h2:=wW x.fin;have h3:=C x (cx hx);simp only;omega
theorem AH{bs:List bB}{n k:Nat}(hn:bs.length=n)(hk:k<n):(bX bs)[k]? =some (bN bs n k):=by
 subst hn;simp[bX,hk]
def qW(f:aA):Bool:=decide (f.result=1)||(decide (f.result=2)||(decide (f.result=0)&& !f.iter))
def nZ(f:aA):Bool:=
 lN f.name&&(cY f.args 0 (if(f.aj.length:Int)<6 then(f.aj.length:Int) else 6)&&(qW f&&(!decide ((1200:Int)<f.aj.length)&&(!decide ((60:Int)<f.aW.length)&&cY f.blocks.length 1 1200))))
def q8(f:aA):Bool:=
 eR f.aj 3&&(eR (f.aj.take f.args.toNat) 2&&(eR f.aW 2&&(!decide ((6:Int)<f.signals.length)&& !f.signals.any fun s=> !isName s)))
def tV(l:List ByteArray)(i:Nat):Bool:=Op.bytesLess (l.getD i .empty).toList (l.getD (i+1) .empty).toList
def n3(f:aA):Bool:=(List.range (f.signals.length - 1)).all (tV f.signals)
def lG(bs:List bB)(k:Nat):List Int:=((bs.take k).filter fun x=>x.fin.kind==7).map fun x=>x.fin.a
def jG(f:aA)(k:Nat):Bool:=
 let x:=f.blocks.getD k jM
 jI f x.fin&&(!decide ((200:Int)<x.ins.length)&& !(x.fin.kind==7&&(lG f.blocks k).any (·==x.fin.a)))
def vr(f:aA)(b:Nat)(l:List a7)(j:Nat):Bool:=jm f b (l.getD j dT) ((l.take (j+1)).all bC) (bN f.blocks f.blocks.length b).length
def su(f:aA)(b:Nat):Bool:=(List.range (f.blocks.getD b jM).ins.length).all (vr f b (f.blocks.getD b jM).ins)
def iV(f:aA):Bool:=
 nZ f&&(q8 f&&(n3 f&&((List.range f.blocks.length).all (jG f)&&(List.range f.blocks.length).all (su f))))
def dS(f:aA):Int:=if iV f=true then(if wX f.blocks f.args.toNat=true then 0 else 81) else 80
def iY(l:List Int)(r:Int):Prop:=0<=r/\r<l.length
theorem kW{l:List Int}{r:Int}(h:cD l r≠0):iY l r:=Classical.byContradiction fun hn=>h (IS hn)
theorem oX{l:List Int}{r:Int}(h:eI l r=true):iY l r:=by
 refine kW fun e=>?_;simp[eI,e] at h
theorem yV{l rs:List Int}(h:gC l rs=true):∀ r∈rs,iY l r:=fun r hr=>oX (bJ.1 h r hr)
theorem Jt{l:List Int}{r want J:Int}(h:mn l r want J=true)(C:want≠0):iY l r:=by
 unfold mn at h;rw[if_neg C] at h;split at h
 .refine kW fun e=>?_;simp[e] at h
 .split at h
  .refine kW fun e=>?_;simp[e] at h
  .split at h
   .exact oX h
   .refine kW fun e=>?_;simp[e] at h
structure U6(l:List Int)(x:a7)(s:Shape):Prop where
 to:s.to≠0->iY l x.to
 a:s.a≠0->iY l x.a
 b:s.b≠0->iY l x.b
 args:s.args=5\/s.args=6->x.args.length<=6/\∀ r∈x.args,iY l r
theorem IT{l:List Int}{x:a7}{s:Shape}(h:pS l x s=true):U6 l x s:=by
 unfold pS at h;simp only[aO] at h;obtain⟨h1,h2,h3,h4,_⟩:=h;refine⟨Jt h1,Jt h2,Jt h3,fun C=>?_⟩;unfold qS at h4;rcases C with C|C
 .rw[if_pos C,aO] at h4;have:=kT.1 h4.1;exact⟨oG,yV h4.2⟩
 .rw[if_neg oG,if_pos C,aO] at h4;have:(x.args.length:Int)=1:=by simpa using h4.1
  exact⟨oG,yV h4.2⟩
theorem Ix{l:List (Int×Shape)}{op:Int}{s:Shape}(h:fM l op=some s):(op,s)∈l:=by
 unfold fM at h;rw[dw] at h;obtain⟨⟨o,s'⟩,h1,rfl⟩:=h;have h2:=List.find?_some h1;have h3:=List.mem_of_find?_eq_some h1;have:o=op:=by simpa using h2
 subst this;exact h3
theorem Iy{l:List Int}{x:a7}{s:Shape}(hl:l.length<=1200)(hm:(x.op,s)∈o8\/(x.op,s)∈jJ)(h:U6 l x s):p6 x:=by
 obtain⟨h1,h2,h3,h4⟩:=h;unfold iY at h1 h2 h3 h4;have hr:∀ {r:Int},0<=r/\r<l.length->0<=r/\r<1200:=fun h=>by omega
 have J:∀ {r:Int},0<=r/\r<l.length-> -1000000<=r/\r<1200:=fun h=>by omega
 obtain⟨op,to,a,b,n,args⟩:=x;dsimp only at h1 h2 h3 h4 hm;simp only[o8,jJ,List.mem_cons,b8,List.not_mem_nil,or_false] at hm;rcases hm with hm|hm
 .rcases hm with hm|hm|hm|hm|hm|hm|hm|hm|hm|hm|hm|hm|hm|hm|hm<;>obtain⟨rfl,rfl⟩:=hm<;>refine⟨fun r C=>?_,fun h=>?_,?_,fun h=>?_⟩<;>
   simp_all[bU,bT,aN,n4,q9,l9,oY]<;>first|omega|(rcases C with rfl|rfl<;>omega)|(have:=h4.2 r C;omega)
 .rcases hm with hm|hm|hm|hm|hm|hm|hm|hm|hm<;>obtain⟨rfl,rfl⟩:=hm<;>refine⟨fun r C=>?_,fun h=>?_,?_,fun h=>?_⟩<;>
   simp_all[bU,bT,aN,n4,q9,l9,oY]<;>first|omega|(rcases C with rfl|rfl<;>omega)|(rcases C with rfl|rfl|C<;>first|omega|(have:=h4.2 r C;omega))
theorem nW{a b:Int}:aR a b=true↔a=b:=by simp[aR]
theorem J0{l aW:List Int}{r n:Int}(C:∀ k∈aW,k≠0)(h:my l aW r n=true):iY l r/\0<=n/\n<aW.length:=by
 unfold my at h;rw[aO,kT] at h;obtain⟨⟨h1,h2⟩,h3⟩:=h
 have h4:cD aW n≠0:=by
  obtain⟨k,rfl⟩:=cN h1;have hk:k<aW.length:=by omega
  rw[tQ (aG hk)];exact C _ (bO hk)
 refine⟨kW ?_,h1,oG⟩;rw[show cD l r=cD aW n by simpa using h3];exact h4
theorem FE{f:aA}{b ahead:Int}{x:a7}{phis:Bool}(hl:f.aj.length<=1200)(C:∀ k∈f.aW,k≠0)(g':f.aW.length<=60)(h:jm f b x phis ahead=true):
 p6 x/\(x.op=19->(x.args.length:Int)=ahead/\phis=true/\0<b/\iY f.aj x.to/\∀ r∈x.args,cD f.aj r=cD f.aj x.to/\iY f.aj r):=by
 unfold jm at h;split at h
 .rename_i qL;simp only[aO,nW] at h;have hr:=kW (l:=f.aj) (r:=x.a) oG;unfold iY at hr;refine⟨⟨fun r h'=>?_,fun h'=>by omega,?_,fun h'=>by omega⟩,fun h'=>by omega⟩
  .simp[bU,aN,n4,qL] at h';omega
  .simp[bT,aN,l9,oY,qL]
 .rename_i qL;split at h
  .rename_i X;simp only[aO,nW] at h;obtain⟨h1,h2,h3⟩:=J0 C h.2.2.2;unfold iY at h1;refine⟨⟨fun r h'=>?_,fun h'=>by omega,?_,fun h'=>by omega⟩,fun h'=>by omega⟩
   .simp[bU,aN,n4,q9,X] at h'
   .simp[bT,aN,l9,X];omega
  .rename_i X;split at h
   .rename_i U;simp only[aO,nW] at h;obtain⟨h1,h2,h3⟩:=J0 C h.2.2.2;unfold iY at h1;refine⟨⟨fun r h'=>?_,fun h'=>by omega,?_,fun h'=>by omega⟩,fun h'=>by omega⟩
    .simp[bU,aN,n4,U] at h';omega
    .simp[bT,aN,l9,oY,U]
   .rename_i U;split at h
    .rename_i J;simp only[aO,nW,decide_eq_true_eq] at h;obtain⟨g1,g2,g3,g4,g5,g6,g7,g8⟩:=h;have hr:=oX g3;have hk:cD f.aj x.to≠0:=fun e=>by simp[eI,e] at g3
     refine⟨⟨fun r h'=>?_,fun h'=>by omega,?_,fun h'=>by omega⟩,fun _=>⟨g7,g1,g2,hr,fun r gN=>?_⟩⟩
     .simp[bU,aN,n4,q9,J] at h'
     .unfold iY at hr;simp[bT,aN,l9,J];omega
     .have:aR (cD f.aj r) (cD f.aj x.to)=true:=by
       simp only[Bool.not_eq_true',List.any_eq_false] at g8;simpa using g8 r gN
      rw[nW] at this;exact⟨this,kW (by rw[this];exact hk)⟩
    .rename_i J;rw[aO] at h;cases C:fM o8 x.op with
     |none=>rw[C] at h;simp at h
     |some s=>
      rw[C] at h;exact⟨Iy hl (.inl (Ix C)) (IT h.2),fun h'=>absurd h' J⟩
structure GU(f:aA)(x:End):Prop where
 fin:Bp x
 wh:x.aH.length<=7
 to:∀ t∈cX x,0<=t/\t<f.blocks.length
theorem IE{f:aA}{x:End}(h:nj f x=true):x.aH.length<=7/\(∀ w∈x.aH,0<=w.to/\w.to<f.blocks.length)/\(0<=x.cP->x.cP<f.blocks.length):=by
 unfold nj at h;rw[aO,aO] at h;obtain⟨h1,h2,h3⟩:=h;have h2:(x.aH.length:Int)<=7:=by simpa using h2
 refine⟨oG,fun w C=>?_,fun h0=>?_⟩
 .obtain⟨i,hi⟩:=dt C;have hm:(w,i)∈x.aH.zipIdx:=List.mem_zipIdx_iff_getElem?.2 hi;have:=bJ.1 h1 _ hm;simp only[pj,aO,cr,kT] at this;omega
 .rw[Bool.or_eq_true] at h3;rcases h3 with h3|h3
  .have:x.cP= -1:=by simpa using h3
   omega
  .rw[cr,kT] at h3;omega
theorem QA{x:End}(h:zv x=true):x.kind=0/\x.a=0/\x.b=0/\x.to=0/\x.fS=0/\x.cP= -1/\x.args.length=0/\x.aH.length=0:=by
 simp only[zv,aO,decide_eq_true_eq] at h;omega
theorem Ju{f:aA}{x:End}(hl:f.aj.length<=1200)(hr:qW f=true)(h:jI f x=true):GU f x:=by
 have lk:∀ {r:Int},iY f.aj r->0<=r/\r<1200:=fun h=>by unfold iY at h;omega
 unfold jI at h;rw[aO] at h;obtain⟨h,hb⟩:=h;have hb:=QA hb;have X:∀ {t:Int},cr f t=true->0<=t/\t<f.blocks.length:=fun h=>by rw[cr,kT] at h;omega
 obtain⟨kind,a,b,to,fS,name,ins,args,aH,cP⟩:=x;simp only[gf] at h hb;by_cases h1:kind=1
 .subst h1;simp only[if_true] at h hb;have J:=X h;have C:aH=[]:=List.length_eq_zero_iff.1 hb.2.2.2.2.2.2.2;subst C;refine⟨⟨fun r h'=>?_,?_,oS,oS,oS⟩,oS,fun t ht=>?_⟩
  .simp[bS,aN] at h'
  .simp[eg,aN]
  .simp[cX,iw,aN] at ht;subst ht;exact J
 by_cases h2:kind=2
 .subst h2;simp only[Int.reduceEq,if_false,if_true,aO,nW] at h hb;have C:aH=[]:=List.length_eq_zero_iff.1 hb.2.2.2.2.2.2.2;subst C;have Cj:=lk (kW (l:=f.aj) (r:=a) oG);have J:=X h.2.1;have E8:=X h.2.2;refine⟨⟨fun r h'=>?_,?_,oS,oS,oS⟩,oS,fun t ht=>?_⟩
  .simp[bS,aN] at h';subst h';exact Cj
  .simp[eg,aN]
  .simp[cX,iw,aN] at ht;rcases ht with rfl|rfl
   .exact J
   .exact E8
 by_cases h3:kind=3
 .subst h3;simp only[Int.reduceEq,if_false,if_true] at h hb;have C:aH=[]:=List.length_eq_zero_iff.1 hb.2.2.2.2.2.2.2;subst C;refine⟨⟨fun r h'=>?_,?_,oS,oS,oS⟩,oS,fun t ht=>?_⟩
  .simp[bS,aN] at h';obtain⟨h1,rfl⟩:=h';split at h
   .rename_i hc;rw[nW] at h;exact lk (kW (by rw[h];exact hc.1))
   .rw[nW] at h;exact absurd h h1
  .simp[eg,aN]
  .simp[cX,aN] at ht
 by_cases h4:kind=4
 .subst h4;simp only[Int.reduceEq,if_false,if_true] at h hb;have C:aH=[]:=List.length_eq_zero_iff.1 hb.2.2.2.2.2.2.2;subst C;refine⟨⟨fun r h'=>?_,?_,oS,oS,oS⟩,oS,fun t ht=>?_⟩
  .simp[bS,aN] at h'
  .simp[eg,aN]
  .simp[cX,aN] at ht
 by_cases h5:kind=5
 .subst h5;simp only[Int.reduceEq,if_false,if_true,aO] at h hb;obtain⟨g1,g2,g3,U⟩:=h;obtain⟨lY,E9,E'⟩:=IE U;have J:=X g3
  have hi:p6 ins:=by
   cases hs:fM jJ ins.op with
   |none=>rw[hs] at g1;simp at g1
   |some s=>rw[hs] at g2;exact Iy hl (.inr (Ix hs)) (IT g2)
  refine⟨⟨fun r h'=>?_,?_,?_,fun _=>hi.ar,oS⟩,lY,fun t ht=>?_⟩
  .simp[bS,aN] at h';exact hi.rd r h'
  .simp only[eg,if_true];exact hi.wr
  .dsimp only at lY ⊢;omega
  .simp[cX,iw,aN] at ht;rcases ht with rfl|⟨w,C,rfl⟩|⟨h0,rfl⟩
   .exact J
   .exact E9 w C
   .exact⟨h0,E' h0⟩
 by_cases h6:kind=6
 .subst h6;simp only[Int.reduceEq,if_false,if_true,aO,Bool.or_eq_true,nW,decide_eq_true_eq] at h hb;obtain⟨g1,g2,g3,U,g5,g6⟩:=h;obtain⟨lY,E9,E'⟩:=IE g6;have J:=X g5;have hv:=yV g3;refine⟨⟨fun r h'=>?_,?_,?_,oS,fun _=>?_⟩,lY,fun t ht=>?_⟩
  .simp[bS,aN] at h';exact lk (hv r h')
  .simp only[eg,aN];rcases U with U|U
   .simp[U]
   .have:=lk (oX U);simp;omega
  .dsimp only at lY ⊢;omega
  .dsimp only;omega
  .simp[cX,iw,aN] at ht;rcases ht with rfl|⟨w,C,rfl⟩|⟨h0,rfl⟩
   .exact J
   .exact E9 w C
   .exact⟨h0,E' h0⟩
 by_cases h7:kind=7
 .subst h7;simp only[Int.reduceEq,if_false,if_true,aO,nW,decide_eq_true_eq] at h hb;obtain⟨g1,g2,g3,U,g5⟩:=h;have C:aH=[]:=List.length_eq_zero_iff.1 hb.2.2.2.2.2.2.2;subst C;have J:=X g5;have hv:=yV g3;have Cj:=lk (kW (l:=f.aj) (r:=a) oG);refine⟨⟨fun r h'=>?_,?_,oS,oS,fun _=>?_⟩,oS,fun t ht=>?_⟩
  .simp[bS,aN] at h';exact lk (hv r h')
  .simp only[eg,aN];simp;omega
  .dsimp only;omega
  .simp[cX,iw,aN] at ht;subst ht;exact J
 by_cases h8:kind=8
 .subst h8;simp only[Int.reduceEq,if_false,if_true,aO,nW] at h hb;obtain⟨g1,g2,g3,U,g5⟩:=h;obtain⟨lY,E9,E'⟩:=IE g5;have J:=X g3;have E8:=X U;have Cj:=lk (kW (l:=f.aj) (r:=a) oG);have hrb:=lk (oX g2);refine⟨⟨fun r h'=>?_,?_,?_,oS,oS⟩,lY,fun t ht=>?_⟩
  .simp[bS,aN] at h';subst h';exact Cj
  .simp[eg,aN];omega
  .dsimp only at lY ⊢;omega
  .simp[cX,iw,aN] at ht;rcases ht with rfl|rfl|⟨w,C,rfl⟩|⟨h0,rfl⟩
   .exact J
   .exact E8
   .exact E9 w C
   .exact⟨h0,E' h0⟩
 by_cases h9:kind=9
 .subst h9;simp only[Int.reduceEq,if_false,if_true,aO,nW] at h hb;obtain⟨g1,g2,g3⟩:=h;have C:aH=[]:=List.length_eq_zero_iff.1 hb.2.2.2.2.2.2.2;subst C;have J:=X g3
  have Cj:=lk (kW (l:=f.aj) (r:=a) (by
   rw[g2];intro e
   simp[qW,e,g1] at hr))
  refine⟨⟨fun r h'=>?_,?_,oS,oS,oS⟩,oS,fun t ht=>?_⟩
  .simp[bS,aN] at h';subst h';exact Cj
  .simp[eg,aN]
  .simp[cX,iw,aN] at ht;subst ht;exact J
 .simp[h1,h2,h3,h4,h5,h6,h7,h8,h9] at h
theorem aav(a b:Int):dK (Aj a b):=by
 unfold Aj intBitsV dK;simp only;rw[wrap_u64 (n:=(BitVec.ofInt IntKind.u64.bits a||| BitVec.ofInt IntKind.u64.bits b).toNat) (BitVec.isLt (w:=64) _)];have h:(BitVec.ofInt IntKind.u64.bits a||| BitVec.ofInt IntKind.u64.bits b).toNat<18446744073709551616:=BitVec.isLt (w:=64) _;exact⟨Int.natCast_nonneg _,Int.ofNat_lt.2 h⟩
theorem Od{w:List Int}{n:Int}(h:∀ u∈w,dK u):∀ u∈hU w n,dK u:=fun u C=>by
 unfold hU at C;split at C
 .unfold iX at C;rcases List.mem_or_eq_of_mem_set C with h1|h1
  .exact h u h1
  .rw[h1];exact aav _ _
 .exact h u C
theorem FI:∀ k,∀ u∈iJ k,dK u
 |0,u,hu=>by
  rw[List.eq_of_mem_replicate hu];simp[dK]
 |k+1,u,hu=>Od (FI k) u hu
theorem p6.rl{x:a7}(h:p6 x):(bU x).length<=100000:=by
 unfold bU;split
 .simp
 .split
  .simp
  .split
   .rename_i J;have:=h.ar (.inl J);omega
   .split
    .rename_i C;have:=h.ar (.inr C);simp;omega
    .simp
theorem Bp.rf{x:End}(h:Bp x)(hi:x.kind=5->p6 x.ins):(bS x).length<=100000:=by
 unfold bS;split
 .simp
 .split
  .split<;>simp
  .split
   .rename_i h5;exact(hi h5).rl
   .split
    .rename_i C;have:=h.a2 (by simpa[aN] using C);omega
    .simp
structure jl(f:aA):Prop where
 pos:0<f.blocks.length
 lC:f.blocks.length<=1200
 aj:f.aj.length<=1200
 args:0<=f.args/\f.args<=6
 blk:∀ b∈f.blocks,sP f.blocks.length b
 ends:∀ b∈f.blocks,GU f b.fin
 right:∀ (b:Nat) x,f.blocks[b]? =some x->∀ (j:Nat) y,x.ins[j]? =some y->jm f b y ((x.ins.take (j+1)).all bC) (bN f.blocks f.blocks.length b).length=true
 aW:(∀ k∈f.aW,k≠0)/\f.aW.length<=60
 Ly:∀ b∈f.blocks,b.fin.kind=5->p6 b.fin.ins
theorem PC{l:List Int}{m:Int}(h:eR l m=true):∀ k∈l,k≠0:=fun k hk e=>by
 subst e;simp only[eR,Bool.not_eq_true',List.any_eq_false] at h;have:=h 0 hk;simp[nh] at this
theorem abN{f:aA}{x:End}(hl:f.aj.length<=1200)(h:jI f x=true)(h5:x.kind=5):p6 x.ins:=by
 unfold jI at h;rw[aO] at h;have h:=h.1;unfold gf at h;simp only[h5,Int.reduceEq,if_false,if_true,aO] at h;obtain⟨J,U,_⟩:=h;cases C:fM jJ x.ins.op with
 |none=>rw[C] at J;simp at J
 |some s=>rw[C] at U;exact Iy hl (.inr (Ix C)) (IT U)
theorem vC{f:aA}(h:iV f=true):jl f:=by
 unfold iV at h;simp only[aO] at h;obtain⟨X,hK,_,hE,hR⟩:=h;unfold nZ at X;simp only[aO,kT,Bool.not_eq_true',decide_eq_false_iff_not] at X;obtain⟨_,ha,hr,oF,g',du⟩:=X;unfold q8 at hK;simp only[aO,Bool.not_eq_true',decide_eq_false_iff_not] at hK;obtain⟨_,_,yq,_,_⟩:=hK;have J:f.aj.length<=1200:=by omega
 have U:∀ x∈f.blocks,jI f x.fin=true/\x.ins.length<=200:=fun x hx=>by
  obtain⟨k,hk⟩:=dt hx;have ap:k<f.blocks.length:=(bL.1 hk).1;have:=bJ.1 hE k (by simpa using ap);rw[jG,getD_some hk] at this;simp only[aO,Bool.not_eq_true',decide_eq_false_iff_not] at this;exact⟨this.1,oG⟩
 have C:∀ x∈f.blocks,GU f x.fin:=fun x hx=>Ju J hr (U x hx).1
 have Ww:∀ (b:Nat) x,f.blocks[b]? =some x->∀ (j:Nat) y,x.ins[j]? =some y->jm f b y ((x.ins.take (j+1)).all bC) (bN f.blocks f.blocks.length b).length=true:=fun b x hx j y hy=>by
  have ap:b<f.blocks.length:=(bL.1 hx).1;have:=bJ.1 hR b (by simpa using ap);rw[su,getD_some hx] at this;have:=bJ.1 this j (by simpa using(bL.1 hy).1);rw[vr,getD_some hy] at this;exact this
 have h5:∀ b∈f.blocks,b.fin.kind=5->p6 b.fin.ins:=fun b hb h5=>abN J (U b hb).1 h5
 have s6:∀ b∈f.blocks,∀ x∈b.ins,p6 x:=fun b hb x hx=>by
  obtain⟨k,hk⟩:=dt hb;obtain⟨j,hj⟩:=dt hx;exact(FE J (PC yq) oG (Ww k b hk j x hj)).1
 refine⟨oG,oG,J,⟨ha.1,by have:=ha.2;split at this<;>omega⟩,fun b hb=>⟨by have:=(U b hb).2;omega,s6 b hb,(C b hb).fin,fun x hx=>(s6 b hb x hx).rl,(C b hb).fin.rf (h5 b hb),fun t ht=>(C b hb).to t (Cx.1 ht)⟩,C,Ww,⟨PC yq,oG⟩,h5⟩
theorem jl.Ck{f:aA}(h:jl f){b:Nat}{x:bB}(hx:f.blocks[b]? =some x){y:a7}(hy:y∈x.ins)(C:y.op=19):y.args.length=(bN f.blocks f.blocks.length b).length/\∀ r∈y.args,0<=r/\r<1280:=by
 obtain⟨j,hj⟩:=dt hy;obtain⟨h1,_,_,_,h2⟩:=(FE h.aj h.aW.1 h.aW.2 (h.right b x hx j y hj)).2 C;refine⟨oG,fun r hr=>?_⟩;have:=(h2 r hr).2;unfold iY at this;have:=h.aj;omega
end Go.Argus
namespace Go.Proofs.Tryz.K
set_option maxRecDepth 10000
set_option maxHeartbeats 1000000 in
theorem Cf{p q:D}{f:aA}{n:Nat}(hp:Tr p)(hq:Tr q)(fC:p.one=true)(fp:q.one=true)(hn:f.blocks.length=n)(mO:n<=100000)(hw:∀ b∈f.blocks,b.fin.aH.length<=9)(ht:∀ b∈f.blocks,∀ t∈nextR b.fin,0<=t/\t<n):
 PCall prog 97 [.agg (br p q f)] (bG (bX f.blocks)):=by
 have aZ:∀ a∈[D.agg (br p q f)],Tr a:=.cons (nk hp hq f) .nil;refine bc U1 aZ (y4 _) ?_;rw[ahO];refine aw ?_;refine af ?_;refine ab (aI (bw [(0,br p q f,133)] eH (l:=[(1,.pt (br p q f))]) eH) (aw ?_));refine bK ?_;have dE:((f.blocks.length:Nat):Int).toNat=n:=hn;refine ab (aI (aP (l:=[(1,.pt (br p q f)),(3,.rs 1 0 n)]) (ml:=[(1,.cells (List.replicate n .z) 27)]) ⟨rfl,congrArg (fun k=>D.rs 1 0 k) dE,trivial⟩ ⟨?_,trivial⟩) (aC (aw ?_)))
 .exact congrArg (fun c=>some (Row.cells c 27)) ((congrArg (fun k=>replD k [D.z]) dE).trans (Gi n))
 refine aV ?_
 refine ab (bV (fun s=>∃ m nx ρ,Ghost prog s ⟨az [(3,.rs 1 0 n)],m,nx⟩/\gQ m nx 1 n 27 3 ρ (fun i=>(bN f.blocks n i).map I)) (dM (α:=Nat×Mem×Nat)
  (fun k=>⟨az [(1,.pt (br p q f)),(3,.rs 1 0 n),(15,fL f.blocks),(16,I n),(17,I k.1)],k.2.1,k.2.2⟩)
  (fun k=>k.1<=n/\(∃ ρ,gQ k.2.1 k.2.2 1 n 27 3 ρ (fun i=>(bN f.blocks k.1 i).map I))/\∀ i,(bN f.blocks k.1 i).length<=12*k.1) (fun k=>n - k.1) (0,bm [(1,.cells (List.replicate n .z) 27)],2)
  (aq ⟨rfl,rfl,rfl,congrArg (fun k:Nat=>I k) hn,rfl,trivial⟩) ⟨Nat.zero_le _,⟨fun _=>0,Jr (show 1<2 by decide) rfl⟩,fun _=>bP _⟩ ?_) ?_)
 .rintro⟨k,m,nx⟩ ⟨hk,⟨ρ,C⟩,hlen⟩;dsimp only at hk C hlen ⊢;have ay:=C.row;have cF:=C.kJ;refine SS ?_;refine ab ⟨_,rfl,fun h=>?_,fun h=>?_⟩
  .have ap:k<n:=by simpa using h
   have hx:f.blocks[k]? =some f.blocks[k]:=aG oG;have bM:f.blocks[k]∈f.blocks:=bO _;generalize f.blocks[k]=x at hx bM
   have cq:bN f.blocks (k+1)=(nextR x.fin).foldl (dz k) (bN f.blocks k):=by
    rw[bN,List.range_succ,List.foldl_append];show pX f.blocks _ k=_;rw[pX,hx];rfl
   generalize bN f.blocks k=L0 at C hlen ay cq;refine ws ?_;refine bK ?_;have v8:=v8 (x:=x.fin);have v9:=R1 (x:=x.fin) (hw x bM)
   change PCall _ _ _ (aB (nextR x.fin)) at v9
   have dF:=ht x bM;have jA:=wW x.fin;have Cb:=hw x bM;generalize nextR x.fin=l at v9 dF jA cq;refine ab (aw ?_);refine SS ?_;refine aF (dx (vs:=bd _) rfl (up_same _ _ _) V.h V.h rfl) ak (dy V.h V.h (by first|(simp;done)|omega|exact bA rfl)) ?_;refine cl v8 ?_;refine cl v9 ?_;refine af ?_
   refine ab (dM (α:=Nat×Mem×Nat)
    (fun j=>⟨az [(1,.pt (br p q f)),(3,.rs 1 0 n),(4,I k),(15,fL f.blocks),(16,I n),(17,I k),(25,aB l),(26,I l.length),(27,I j.1)],j.2.1,j.2.2⟩)
    (fun j=>j.1<=l.length/\(∃ ρ,gQ j.2.1 j.2.2 1 n 27 3 ρ (fun i=>((l.take j.1).foldl (dz k) L0 i).map I))/\∀ i,((l.take j.1).foldl (dz k) L0 i).length<=12*k+j.1) (fun j=>l.length - j.1) (0,up m nx (some (.cells (c9 x) 72)),nx+1)
    (jd eH (la _ _ _ _)) ⟨Nat.zero_le _,⟨ρ,C.ext (fun q hq=>ag oG rfl) oM⟩,hlen⟩ ?_)
   clear C ay hlen;rintro⟨j,m,nx⟩ ⟨hj,⟨ρ,C⟩,hlen⟩;dsimp only at hj C hlen ⊢;have ay:=C.row;have cF:=C.kJ;have X:∀ t,l[j]? =some t->(l.take (j+1)).foldl (dz k) L0=dz k ((l.take j).foldl (dz k) L0) t:=fun t ht=>l7 ht;have pg:j=l.length->(l.take j).foldl (dz k) L0=bN f.blocks (k+1):=fun e=>by rw[cq,dn oG]
   generalize (l.take j).foldl (dz k) L0=L at C hlen ay X pg;refine SS ?_;refine ab ⟨_,rfl,fun h=>?_,fun h=>?_⟩
   .have xU:j<l.length:=by simpa using h
    have wD:l[j]? =some l[j]:=aG xU;have oU:=dF _ (bO xU);generalize l[j]=t at wD oU;obtain⟨i,rfl⟩:=cN oU.1;have J:i<n:=by omega
    have hL:=hlen i;have X:(l.take (j+1)).foldl (dz k) L0=up L i (L i++[(k:Int)]):=X _ wD
    have sO:∀ i,((l.take (j+1)).foldl (dz k) L0 i).length<=12*k+(j+1):=fun a=>by
     rw[X];exact FG (t:=(i:Int)) hlen a
    have yC:(fun a=>((l.take (j+1)).foldl (dz k) L0 a).map I)=up (fun a=>(L a).map I) i ((L i++[(k:Int)]).map I):=by rw[X];exact Kl
    obtain⟨cs,kd⟩:=Jq (ρ:=ρ) (L:=fun i=>(L i).map I) J;refine ws ?_;refine au ?_;refine ab (eZ ?_);by_cases hz:L i=[]
    .have tB:jc (ρ i) ((L i).map I)=.z:=by rw[hz];rfl
     rw[tB] at kd;refine aE ?_;refine af ?_;refine ab ?_;refine af ?_;refine ab (aK (j+1,up (up (up m nx (some (.cells [I k] 3))) (nx+1) (some (.cells [I k] 3))) 1 (some (.cells ((om ρ (fun i=>(L i).map I) n).set i (.rs (nx+1) 0 1)) 27)),nx+2) (aq eH) ⟨oM,⟨up ρ i (nx+1),?_⟩,sO⟩ oM);dsimp only;rw[yC];refine C.Cc J oS oG oG ?_ ?_ (fun q hq qK _=>?_)
     .rw[hz];exact up_same _ _ _
     .rw[hz];exact ag oG (up_same _ _ _)
     .exact ag oG (ag oG (ag oG rfl))
    .have U:(L i).map I≠[]:=by simpa using hz
     have tB:jc (ρ i) ((L i).map I)=.rs (ρ i) 0 (L i).length:=by rw[rD U,List.length_map]
     rw[tB] at kd;have cQ:=C.kA i J U;have Cg:=C.lt i J U;have Wp:=C.ne i J U;refine aE ?_;refine af ?_;refine ab ?_;refine af ?_;refine ab (aK (j+1,up (up (up (up m nx (some (.cells [I k] 3))) (ρ i) none) (nx+1) (some (.cells ((L i).map I++[I k]) 3))) 1 (some (.cells ((om ρ (fun i=>(L i).map I) n).set i (.rs (nx+1) 0 ((L i).length+1))) 27)),nx+2) (aq eH) ⟨oM,⟨up ρ i (nx+1),?_⟩,sO⟩ oM);dsimp only;rw[yC];refine C.Cc J oS oG oG ?_ ?_ (fun q hq qK oE=>?_)
     .rw[List.length_map,List.length_append];exact up_same _ _ _
     .rw[List.map_append];exact ag oG (up_same _ _ _)
     .have:=oE U;exact ag oG (ag oG (ag oG (ag oG rfl)))
   .have bh:¬ j<l.length:=by simpa using h
    have vl:=pg oG;subst vl;show AOps _ _ _ _ _ _ _ _ _;refine af ?_;refine ab (aK (k+1,m,nx) (aq eH) ⟨oM,⟨ρ,C⟩,fun i=>by have:=hlen i;dsimp only at this ⊢;omega⟩ oM)
  .have bh:¬ k<n:=by simpa using h
   have:k=n:=by omega
   subst this;exact⟨m,nx,ρ,aq eH,C⟩
 .rintro s ⟨m,nx,ρ,hg,C⟩;have tz:¬ ∃ i,i<n/\(bN f.blocks n i).map I≠[]/\ρ i=1:=fun⟨i,h1,h2,h3⟩=>C.ne i h1 h2 h3;refine⟨_,hg.trans (IQ (l:=[(3,.rs 1 0 n)]) (ml:=[]) (fun r=>∃ i,i<n/\(bN f.blocks n i).map I≠[]/\ρ i=r) C (fun _=>.map) c3 (fun i h1 h2=>⟨i,h1,h2,rfl⟩) tz ⟨rfl,trivial⟩ (fun x hx=>?_) trivial (fun x hx=>by cases hx)),aw ?_⟩
  .simp at hx;subst hx;exact .rs tz
  refine af ?_;refine ab (aI (bw [(1,_,27)] eH (l:=[(2,bG (bX f.blocks))]) ⟨?_,trivial⟩) (ax rfl rfl));show sub (fz0 1 _ (prog.cellsOf 27)) (D.rs 1 0 n)=_;rw[j0 (by rw[Ch];simp),Js,bX,hn]
set_option maxHeartbeats 1000000 in
theorem Hg{p q:D}{f:aA}{n args:Nat}(hp:Tr p)(hq:Tr q)(fC:p.one=true)(fp:q.one=true)(hn:f.blocks.length=n)(qF:0<n)(mO:n<=100000)(ha:f.args=args)(tl:args<=1000)(B':∀ u∈iJ args,dK u)(hb:∀ b∈f.blocks,sP n b)
 (zG:∀ b x,f.blocks[b]? =some x->∀ y∈x.ins,y.op=19->y.args.length=(bN f.blocks n b).length/\∀ r∈y.args,0<=r/\r<1280):
 PCall prog 154 [.agg (br p q f)] (B (wX f.blocks args)):=by
 have aZ:∀ a∈[D.agg (br p q f)],Tr a:=.cons (nk hp hq f) .nil;have BH:=BH hp hq fC fp hn qF mO ha tl B' hb;have Cf:=Cf hp hq fC fp hn mO (fun b h=>(hb b h).fin.wh) (fun b h=>(hb b h).to);have U3:fR n (iB f.blocks args):=by subst hn;exact aat hb B'
 refine bc TD aZ (.s _) ?_;rw[aed];refine aw ?_;refine af ?_;refine ab (aI (bw [(0,br p q f,133)] eH (l:=[(1,.pt (br p q f))]) eH) ?_);have nA:wX f.blocks args=(List.range n).all (ss f.blocks (iB f.blocks args)):=by rw[wX,hn]
 rw[nA];clear nA;generalize iB f.blocks args=R at BH U3 ⊢;obtain⟨lw,lr,jX,rg⟩:=U3;have BH:PCall prog 197 [.agg (br p q f)] (.tup [.sl (bD R.ws) n,b9 R.re]):=by unfold b9;rw[lr];exact BH
 show AW _ _ _ _ (scopeQ _) _;refine ws ?_;refine SS ?_;refine cl BH ?_;refine aV ?_;refine ab (aw ?_);refine SS ?_;refine cl Cf ?_;refine SS ?_;refine ab (aI (fU (l:=[(1,.pt (br p q f)),(3,.sl (bD R.ws) n),(4,b9 R.re),(5,bG (bX f.blocks))]) eH) (XN (aC (aw ?_))));refine aV ?_
 refine ab (bV (fun s=>(List.range n).all (ss f.blocks R)=true) (dM (α:=Nat×Nat)
  (fun k=>⟨az [(1,.pt (br p q f)),(3,.sl (bD R.ws) n),(4,b9 R.re),(5,bG (bX f.blocks)),(25,fL f.blocks),(26,I n),(27,I k.1)],fun _=>none,k.2⟩)
  (fun k=>k.1<=n/\(List.range k.1).all (ss f.blocks R)=true) (fun k=>n - k.1) (0,1) (fU ⟨rfl,rfl,rfl,rfl,rfl,congrArg (fun k:Nat=>I k) hn,rfl,trivial⟩) ⟨Nat.zero_le _,rfl⟩ ?_) ?_)
 .rintro⟨k,N⟩ ⟨hk,bQ⟩;dsimp only at hk bQ ⊢;refine SS ?_;refine ab ⟨_,rfl,fun h=>?_,fun h=>?_⟩
  .have ap:k<n:=by simpa using h
   have hx:f.blocks[k]? =some f.blocks[k]:=aG oG;have bM:f.blocks[k]∈f.blocks:=bO _;generalize f.blocks[k]=x at hx bM;have jb:=hb x bM;have gm:=zG k x hx;have hw:R.ws[k]? =some R.ws[k]:=aG oG;have fT:R.re[k]? =some R.re[k]:=aG oG;have mS:=jX _ (bO (h:=by omega):R.ws[k]∈R.ws)
   have U:ss f.blocks R k=(!R.re[k]||((je x R.ws[k]).2&&(x.ins.takeWhile bC).all (vM f.blocks R k))):=by
    rw[ss,getD_some hw,getD_some fT,getD_some hx]
   generalize R.ws[k]=w at hw mS U;generalize R.re[k]=b at fT U;refine aw ?_;refine bK ?_;refine ab (aI (ni (i:=N) (l:=[(1,.pt (br p q f)),(3,.sl (bD R.ws) n),(4,b9 R.re),(5,bG (bX f.blocks)),(6,I k),(7,.pt (c9 x)),(25,fL f.blocks),(26,I n),(27,I k)]) (up_same _ _ _) ⟨rfl,rfl,rfl,rfl,rfl,lP,rfl,rfl,rfl,trivial⟩) (aC (ao ?_)));refine aV ?_;refine ab (cH rfl (fun h=>sk (xm ?_)) fun h=>b7 (aC (oW Za ?_)))
   .have MS:b=false:=by simpa using h
    subst MS;refine af ?_;refine ab (aK (k+1,N+1) (fU eH) ⟨oM,jY bQ (by rw[U];rfl)⟩ oM)
   have Ca:b=true:=by simpa using h
   subst Ca;have oi:=oi mS jb.len jb.ins jb.fin jb.rl jb.rf;have wa:=Ir x w;rw[mS] at wa;generalize je x w=th at oi U wa;obtain⟨w1,ok⟩:=th;dsimp only at oi U wa;refine au ?_;refine U4 ?_;refine U5 ?_;refine cl oi ?_;refine bK ?_;refine a8 bf (aI (fU (l:=[(1,.pt (br p q f)),(3,.sl (bD R.ws) n),(4,b9 R.re),(5,bG (bX f.blocks)),(6,I k),(7,.pt (c9 x)),(9,B ok),(25,fL f.blocks),(26,I n),(27,I k)]) eH) (aC (ao ?_)));refine af ?_;refine ab (cH rfl (fun h=>?_) fun h=>b7 (aw ?_))
   .have aY:ok=false:=by simpa using h
    subst aY;refine aC (ao ?_);refine SS ?_;refine ab (cK (bR (aL (JQ (ax (d:=B false) rfl ?_)))));rw[kO ap (by rw[U];rfl)]
   have aY:ok=true:=by simpa using h
   subst aY;have U:ss f.blocks R k=(x.ins.takeWhile bC).all (vM f.blocks R k):=U;refine aJ ?_;have jA:=jb.len
   refine ab (dM (α:=Nat×Nat)
    (fun j=>⟨az [(1,.pt (br p q f)),(3,.sl (bD R.ws) n),(4,b9 R.re),(5,bG (bX f.blocks)),(6,I k),(25,fL f.blocks),(26,I n),(27,I k),(49,dG x.ins),(50,I x.ins.length),(51,I j.1)],fun _=>none,j.2⟩)
    (fun j=>j.1<=x.ins.length/\(∀ y∈x.ins.take j.1,bC y=true)/\(x.ins.take j.1).all (vM f.blocks R k)=true) (fun j=>x.ins.length - j.1) (0,_) (fU eH) ⟨Nat.zero_le _,oS,oS⟩ ?_)
   rintro⟨j,N⟩ ⟨hj,BI,Es⟩;dsimp only at hj BI Es ⊢;refine SS ?_;refine ab ⟨_,rfl,fun h=>?_,fun h=>?_⟩
   .have cF:j<x.ins.length:=by simpa using h
    have hy:x.ins[j]? =some x.ins[j]:=aG cF;have iy:x.ins[j]∈x.ins:=bO cF;generalize x.ins[j]=y at hy iy;refine aw ?_;refine aJ ?_;refine ab (aI (ni (i:=N) (l:=[(1,.pt (br p q f)),(3,.sl (bD R.ws) n),(4,b9 R.re),(5,bG (bX f.blocks)),(6,I k),(11,.pt (a9 y)),(25,fL f.blocks),(26,I n),(27,I k),(49,dG x.ins),(50,I x.ins.length),(51,I j)]) (up_same _ _ _) ⟨rfl,rfl,rfl,rfl,rfl,lP,rfl,rfl,rfl,rfl,rfl,rfl,trivial⟩) (aC (ao ?_)));refine au ?_;refine ab (cH rfl (fun h=>sk (adm oC oC (xm ?_))) fun h=>b7 (aw ?_))
    .have aM:y.op≠19:=by simpa using h
     refine af ?_;refine ab (aK (k+1,_) (fU eH) ⟨oM,jY bQ ?_⟩ oM);rw[U,takeWhile_eq BI (fun y' h'=>by rw[hy] at h';cases h';simpa[bC] using aM)];exact Es
    have cG:y.op=19:=by simpa using h
    obtain⟨iS,z9⟩:=gm y iy cG;have hA:=AH hn ap
    have E7:∀ p∈bN f.blocks n k,∃ C:Nat,p=C/\C<n:=fun p hp=>by
     obtain⟨b,h1,h2,_⟩:=yU.1 hp;exact⟨b,h1,h2⟩
    have MU:vM f.blocks R k y=(List.range (bN f.blocks n k).length).all (tU f.blocks R k y):=by rw[vM,hn]
    have J:∀ i,tU f.blocks R k y i=(!(R.re.getD ((bN f.blocks n k).getD i 0).toNat false)||ku (gG (f.blocks.getD ((bN f.blocks n k).getD i 0).toNat jM).fin k (je (f.blocks.getD ((bN f.blocks n k).getD i 0).toNat jM) (R.ws.getD ((bN f.blocks n k).getD i 0).toNat [])).1) (y.args.getD i 0).toNat):=fun i=>by rw[tU,hn]
    have yD:=FH (fun b h=>(hb b h).fin.wh) n k;generalize bN f.blocks n k=A at iS hA E7 MU J yD
    have acJ:∀ i,i<A.length->tU f.blocks R k y i=false->(List.range n).all (ss f.blocks R)=false:=fun i hi he=>by
     refine kO ap ?_;rw[U];refine Bool.eq_false_iff.2 fun ht=>?_
     have ahU:y∈x.ins.takeWhile bC:=by
      have:x.ins.take (j+1)=x.ins.take j++[y]:=by rw[List.take_add_one,hy];rfl
      have h2:x.ins=x.ins.take (j+1)++x.ins.drop (j+1):=(List.take_append_drop _ _).symm;rw[h2,this,List.takeWhile_append_of_pos]
      .simp
      .intro z hz;rcases List.mem_append.1 hz with h|h
       .exact BI z h
       .rw[List.mem_singleton.1 h];simp[bC,cG]
     have:=bJ.1 ht y ahU;rw[MU,kO hi he] at this;cases this
    refine bK ?_
    refine ab (dM (α:=Nat×Nat)
     (fun i=>⟨az [(1,.pt (br p q f)),(3,.sl (bD R.ws) n),(4,b9 R.re),(5,bG (bX f.blocks)),(6,I k),(11,.pt (a9 y)),(25,fL f.blocks),(26,I n),(27,I k),(49,dG x.ins),(50,I x.ins.length),(51,I j),(61,aB A),(62,I A.length),(63,I i.1)],fun _=>none,i.2⟩)
     (fun i=>i.1<=A.length/\(List.range i.1).all (tU f.blocks R k y)=true) (fun i=>A.length - i.1) (0,_) (fU eH) ⟨Nat.zero_le _,rfl⟩ ?_)
    rintro⟨i,N⟩ ⟨hi,KT⟩;dsimp only at hi KT ⊢;refine SS ?_;refine ab ⟨_,rfl,fun h=>?_,fun h=>?_⟩
    .have fB:i<A.length:=by simpa using h
     have Ci:A[i]? =some A[i]:=aG fB;obtain⟨C,tx,g9⟩:=E7 _ (bO fB);rw[tx] at Ci;clear tx;have u7:f.blocks[C]? =some f.blocks[C]:=aG oG;have ql:f.blocks[C]∈f.blocks:=bO _;have Wq:R.ws[C]? =some R.ws[C]:=aG oG;have Wr:R.re[C]? =some R.re[C]:=aG oG;have LH:=jX _ (bO (h:=by omega):R.ws[C]∈R.ws);have Ai:y.args[i]? =some y.args[i]:=aG oG;have yz:=z9 _ (bO (h:=by omega):y.args[i]∈y.args);have J:=J i;rw[getD_some Ci,bx,getD_some u7,getD_some Wq,getD_some Wr,getD_some Ai] at J;generalize f.blocks[C]=xp at u7 ql J;generalize R.ws[C]=wp at Wq LH J;generalize R.re[C]=rb at Wr J;generalize y.args[i]=r at Ai yz J;obtain⟨rn,rfl⟩:=cN yz.1;rw[bx] at J;have zH:=hb xp ql;have oi:=Go.Proofs.Tryz.K.oi LH zH.len zH.ins zH.fin zH.rl zH.rf;have Et:=Ir xp wp;rw[LH] at Et;generalize je xp wp=tp at oi J Et;obtain⟨w2,ok2⟩:=tp;dsimp only at oi J Et;have xR:=xR (x:=xp.fin) (b:=(k:Int)) (w:=w2) Et (by have:=zH.fin.wh;omega) (by have:=zH.fin.wr;omega);have nJ:=Oy xp.fin k w2;rw[Et] at nJ;generalize gG xp.fin k w2=w3 at xR nJ J;have lS:=lS (w:=w3) (m:=rn) nJ oG;refine ws ?_;refine aV ?_;refine ab (oW Yd ?_);refine bI ?_;refine U4 ?_;refine U5 ?_;refine cl oi ?_;refine bK ?_;refine a8 bf (aI (ni (i:=N) (l:=[(1,.pt (br p q f)),(3,.sl (bD R.ws) n),(4,b9 R.re),(5,bG (bX f.blocks)),(6,I k),(11,.pt (a9 y)),(12,I i),(13,I C),(14,.pt (w2.map bp)),(25,fL f.blocks),(26,I n),(27,I k),(49,dG x.ins),(50,I x.ins.length),(51,I j),(61,aB A),(62,I A.length),(63,I i)]) (up_same _ _ _) ⟨rfl,rfl,rfl,rfl,rfl,rfl,rfl,rfl,lP,rfl,rfl,rfl,rfl,rfl,rfl,rfl,rfl,rfl,trivial⟩) (c8 Ye ?_))
     have uu:∀ v:Bool,v=tU f.blocks R k y i->(v=false->(List.range n).all (ss f.blocks R)=false)/\(v=true->(List.range (i+1)).all (tU f.blocks R k y)=true):=fun v hv=>by
      subst hv;exact⟨acJ i fB,fun h=>jY KT h⟩
     cases rb with
     |false=>
      obtain⟨_,X⟩:=uu true J.symm;have X:=X rfl;refine aE ?_;refine aJ ?_;refine bE rfl rfl (ma rfl V.h V.h (R5 (by first|rfl|exact bA rfl|(simp;done)|(simp;omega)|omega))) (fun hc=>⟨ak,(me V.h V.h (by first|rfl|exact bA rfl|(simp;done)|(simp;omega)|omega))⟩) ?_;refine gc xR ?_;refine aV ?_;refine gc lS ?_;refine af ?_;refine a8 bf (av rfl (fun h=>oH) fun h=>ct ?_);refine af ?_;refine ab (aK (i+1,_) (fU eH) ⟨oM,X⟩ oM)
     |true=>
      obtain⟨eQ,X⟩:=uu (ku w3 rn) J.symm;generalize ku w3 rn=hv at lS eQ X;refine aE ?_;refine aJ ?_;refine bE rfl rfl (ma rfl V.h V.h (R5 (by first|rfl|exact bA rfl|(simp;done)|(simp;omega)|omega))) (fun hc=>⟨ak,(me V.h V.h (by first|rfl|exact bA rfl|(simp;done)|(simp;omega)|omega))⟩) ?_;refine gc xR ?_;refine aV ?_;refine gc lS ?_;refine af ?_;refine a8 bf (av rfl (fun h=>?_) fun h=>ct ?_)
      .have hf:hv=false:=by simpa using h
       refine ws ?_;refine SS ?_;refine ab (aT (bR (bR (bR (aL (JQ (ax (d:=B false) rfl ?_)))))));rw[eQ hf]
      .have ht:hv=true:=by simpa using h
       have X:=X ht;refine af ?_;refine ab (aK (i+1,_) (fU eH) ⟨oM,X⟩ oM)
    .have bh:¬ i<A.length:=by simpa using h
     have hiA:i=A.length:=by omega
     subst hiA;show AOps _ _ _ _ _ _ _ _ _;refine af ?_;refine ab (aK (j+1,_) (fU eH) ⟨oM,fun z hz=>?_,?_⟩ oM)
     .dsimp only at hz;rw[List.take_add_one,hy] at hz;rcases List.mem_append.1 hz with h|h
      .exact BI z h
      .rw[List.mem_singleton.1 h];simp[bC,cG]
     .dsimp only;rw[List.take_add_one,hy,List.all_append,Es];simpa[MU] using KT
   .have bh:¬ j<x.ins.length:=by simpa using h
    have z5:j=x.ins.length:=by omega
    subst z5;show AOps _ _ _ _ _ _ _ _ _;refine af ?_;refine ab (aK (k+1,_) (fU eH) ⟨oM,jY bQ ?_⟩ oM);rw[List.take_length] at BI Es;rw[U,takeWhile_eq (j:=x.ins.length) (by rw[List.take_length];exact BI) (fun y h=>by simp at h),List.take_length];exact Es
  .have bh:¬ k<n:=by simpa using h
   have:k=n:=by omega
   subst this;exact bQ
 .rintro⟨env,m,nx⟩ bQ;refine⟨_,.refl _,ao ?_⟩;refine SS ?_;refine ab (JQ (ax (d:=B true) rfl ?_));rw[bQ]
end Go.Proofs.Tryz.K
namespace Go.Argus
theorem Ws:∀ b1 b2 b3 b4 b5 b6:Bool,(if(if(if(if(if(!b1)=true then true else !b2)=true then true else !b3)=true then true else b4)=true then true else b5)=true then true else !b6)= !(b1&&(b2&&(b3&&(!b4&&(!b5&&b6))))):=by decide
theorem Wt:∀ b1 b2 b3 b4 b5:Bool,(if(if(if(if(!b1)=true then true else !b2)=true then true else !b3)=true then true else b4)=true then true else b5)= !(b1&&(b2&&(b3&&(!b4&& !b5)))):=by decide
theorem hd3:∀ b1 b2 b3 b4:Bool,(if(if b1=true then true else b2)=true then true else if b3=true then !b4 else false)=(b1||(b2||(b3&& !b4))):=by decide
def nN(l:List Int):List (Value×D):=l.map fun a=>(.int .i64 a,B true)
theorem J1(a:Int):∀ l:List Int,(lookD (.int .i64 a) (nN l)).map (·.2)=if(l.any (·==a))=true then some (B true) else none
 |[]=>rfl
 |b::l=>by
  have ih:=J1 a l;unfold nN at ih ⊢;simp only[List.map_cons,lookD,veq,veq1,List.any_cons,beq_self_eq_true,Bool.true_and] at ih ⊢;by_cases h:b=a
  .subst h;simp
  .have hb:(b==a)=false:=by simpa using h
   simp only[hb,Bool.false_eq_true,if_false,Option.map_map,Bool.false_or];exact ih
theorem acK{P:Program}{t:TypeId}(C:zeroD P (melP P t)=B false)(a:Int)(l:List Int):gotD P t false (lookD (.int .i64 a) (nN l))=B (l.any (·==a)):=by
 have h:=J1 a l;cases h1:lookD (.int .i64 a) (nN l) with
 |none=>
  rw[h1] at h;cases h2:l.any (·==a) with
  |true=>rw[h2] at h;simp at h
  |false=>simp[gotD,C]
 |some x=>
  rw[h1] at h;cases h2:l.any (·==a) with
  |false=>rw[h2] at h;simp at h
  |true=>rw[h2] at h;simp at h;simp[gotD,h]
theorem acL{a:Int}{l:List Int}(h:l.any (·==a)=false):putD (.int .i64 a) (B true) (nN l)=nN (l++[a]):=by
 have h1:=J1 a l;rw[h] at h1;unfold putD;cases h2:lookD (.int .i64 a) (nN l) with
 |none=>simp[nN]
 |some x=>rw[h2] at h1;simp at h1
theorem QB{P:Program}{kt:TypeId}(hk:P.underlying kt=some (.int .i64))(l:List Int):(nN l).all (fun e=>keyP P kt e.1)=true:=by
 refine bJ.2 fun x hx=>?_;obtain⟨y,_,rfl⟩:=List.mem_map.1 hx;simp[keyP,hk]
theorem DL{P:Program}{kt:TypeId}(hk:P.underlying kt=some (.int .i64))(a:Int):keyP P kt (.int .i64 a)=true:=by simp[keyP,hk]
theorem abM{i sz:Nat}{C:List D}(l:List Int):Row.sub (fz0 i C sz) (.map (nN l))=.map (nN l):=by
 show Row.map ((nN l).map _)=_;unfold nN;rw[List.map_map];rfl
theorem XB{bs:List bB}{k:Nat}{x:bB}(hx:bs[k]? =some x):lG bs (k+1)=if(x.fin.kind==7)=true then lG bs k++[x.fin.a] else lG bs k:=by
 unfold lG;rw[List.take_add_one,hx];by_cases h:(x.fin.kind==7)=true
 .simp[h]
 .simp[h]
end Go.Argus
namespace Go.Proofs.Tryz.K
set_option maxRecDepth 10000
theorem u9:prog.underlying 3=some (.int .i64):=kr
theorem aee:zeroD prog (melP prog 127)=B false:=kr
set_option maxHeartbeats 1000000 in
theorem LI{f:aA}:PCall prog 153 [.agg (aD f)] (B (iV f)):=by
 have aZ:∀ a∈[D.agg (aD f)],Tr a:=.cons (.agg (fu f)) .nil;refine bc TE aZ (.s _) ?_;rw[aef];refine aw ?_;refine af ?_;refine ab (aI (ni (i:=0) (l:=[(1,.pt (aD f))]) rfl eH) (aw ?_));have LJ:=LJ (f:=f);refine SS ?_;refine cl LJ ?_;refine SS ?_;refine cJ (gq (cs':=br _ _ _) rfl rfl rfl rfl) ak (dQ V.h V.h (by first|(simp;done)|exact⟨rfl,bA rfl⟩|(simp;omega)) (by rfl)) ?_;refine ab (aI (ni (i:=1) (l:=[(1,.pt (aD f)),(3,.pt (br P0 Q0 f))]) rfl eH) (aw ?_));refine aE ?_;refine bI ?_;refine af ?_;refine ab (aI (fU (l:=[(1,.pt (aD f)),(3,.pt (br P0 Q0 f)),(4,B (qW f))]) ⟨rfl,rfl,congrArg B (hd3 (f.result==1) (f.result==2) (f.result==0) f.iter),trivial⟩) (aC (ao ?_)));have ahV:iV f=(nZ f&&(q8 f&&(n3 f&&((List.range f.blocks.length).all (jG f)&&(List.range f.blocks.length).all (su f))))):=rfl;rw[ahV];have hH:nZ f=(lN f.name&&(cY f.args 0 (if(f.aj.length:Int)<6 then(f.aj.length:Int) else 6)&&(qW f&&(!decide ((1200:Int)<f.aj.length)&&(!decide ((60:Int)<f.aW.length)&&cY f.blocks.length 1 1200))))):=rfl;generalize nA:qW f=Wu at hH ⊢;refine af ?_;refine cl s5 ?_;refine dk ?_;refine bE rfl rfl (SV rfl rfl) (fun hc=>⟨ak,rfl⟩) ?_;refine gc mU ?_;refine aE ?_;refine aE ?_;refine aJ ?_;refine gc mU ?_;refine af ?_;refine ab (cH rfl (fun h=>?_) fun h=>b7 (aC (ao ?_)))
 .have h:=(Ws _ _ _ _ _ _).symm.trans h;rw[<- hH] at h;have h:nZ f=false:=by simpa using h
  refine aC (ao ?_);refine SS ?_;refine ab (cK (ax (d:=B false) rfl ?_));rw[h];rfl
 have h:=(Ws _ _ _ _ _ _).symm.trans h;rw[<- hH] at h;have J:nZ f=true:=by simpa using h
 rw[J,Bool.true_and];rw[hH] at J;simp only[aO,kT,Bool.not_eq_true',decide_eq_false_iff_not] at J;obtain⟨_,ha,hr,oF,X,du⟩:=J;subst hr;clear h hH
 have tl:0<=f.args/\f.args<=f.aj.length/\f.args<=6:=by
  split at ha<;>omega
 have hK:q8 f=(eR f.aj 3&&(eR (f.aj.take f.args.toNat) 2&&(eR f.aW 2&&(!decide ((6:Int)<f.signals.length)&& !f.signals.any fun s=> !isName s)))):=rfl;have Ha:=Ha (l:=f.signals) (g:=193) (fs:=[]) (cs:=[]) (p:=fun s=> !isName s) (.fn oS oS) (fun x _=>ahS);have ha2:0<=f.args/\f.args<=f.aj.length:=⟨tl.1,tl.2.1⟩
 refine af ?_;refine cl LF ?_;refine bK ?_;refine bE rfl rfl (aau rfl Wv c5 rfl U7 ha2) (fun hc=>⟨(by repeat' (first|exact trivial|exact hc|exact rfl|refine And.intro ?_ ?_)),trivial⟩) ?_;refine gc LF ?_;refine aV ?_;refine gc LF ?_;refine aE ?_;refine af ?_;refine gc Ha ?_;refine SS ?_;refine ab (cH rfl (fun h=>?_) fun h=>b7 (aC (aw ?_)))
 .have h:=(Wt _ _ _ _ _).symm.trans h;rw[<- hK] at h;have h:q8 f=false:=by simpa using h
  refine aC (ao ?_);refine SS ?_;refine ab (cK (ax (d:=B false) rfl ?_));rw[h];rfl
 have h:=(Wt _ _ _ _ _).symm.trans h;rw[<- hK] at h;have J:q8 f=true:=by simpa using h
 rw[J,Bool.true_and];rw[hK] at J;simp only[aO,Bool.not_eq_true',decide_eq_false_iff_not] at J;obtain⟨_,_,yq,hsg,_⟩:=J;clear h hK Ha;have hS:n3 f=(List.range (f.signals.length - 1)).all (tV f.signals):=rfl;rw[hS];have ot:f.signals.length<=6:=by omega
 refine SS ?_;refine ab (bV (fun s=>Ghost prog s ⟨az [(1,.pt (aD f)),(3,.pt (br P0 Q0 f))],fun _=>none,2⟩/\(List.range (f.signals.length - 1)).all (tV f.signals)=true) (cI (α:=Nat) (fun k=>⟨az [(1,.pt (aD f)),(3,.pt (br P0 Q0 f)),(5,I (k+1:Nat))],fun _=>none,2⟩) (fun k=>k<=f.signals.length - 1/\(List.range k).all (tV f.signals)=true) (fun k=>f.signals.length - k) 0 (fU eH) ⟨Nat.zero_le _,rfl⟩ ?_) ?_)
 .rintro k ⟨hk,C⟩;refine aV ?_;refine ab ⟨_,rfl,fun h=>?_,fun h=>?_⟩
  .have ap:k+1<f.signals.length:=by have:((k+1:Nat):Int)<f.signals.length:=by simpa using h
                                    omega
   have h1:f.signals[k]? =some f.signals[k]:=aG oG;have h2:f.signals[k+1]? =some f.signals[k+1]:=aG oG;have X:tV f.signals k=Op.bytesLess f.signals[k].toList f.signals[k+1].toList:=by rw[tV,getD_some h1,getD_some h2]
   generalize f.signals[k]=s1 at h1 X;generalize f.signals[k+1]=s2 at h2 X;have pw:((k+1:Nat):Int) - 1=(k:Int)/\ -9223372036854775808<=(k:Int)/\(k:Int)<=9223372036854775807:=by omega
   refine c8 Yf ?_;refine aE ?_;refine af ?_;refine aF (RC rfl rfl) ak trivial ?_;refine a8 bf (av rfl (fun h=>?_) fun h=>ct ?_)
   .have hf:tV f.signals k=false:=by rw[X];simpa using h
    refine ws ?_;refine SS ?_;refine ab (aT (bR (aL (ax (d:=B false) rfl ?_))));rw[kO oG hf];rfl
   .have ht:tV f.signals k=true:=by rw[X];simpa using h
    refine au ?_;exact ab (aK (k+1) (fU eH) ⟨oG,jY C ht⟩ oG)
  .have bh:¬ k+1<f.signals.length:=by intro J;simp at h;omega
   have:k=f.signals.length - 1:=by omega
   subst this;exact⟨fU eH,C⟩
 rintro s ⟨hg,C⟩;rw[C,Bool.true_and];clear C hS;refine⟨_,hg,aw ?_⟩;refine af ?_;refine ab (aI (aP (l:=[(1,.pt (aD f)),(3,.pt (br P0 Q0 f)),(6,.mp 2)]) (ml:=[(2,.map (nN []))]) eH eH) (aC (aw ?_)));refine aJ ?_;generalize hn:f.blocks.length=n at du ⊢;refine ab (bV (fun s=>∃ N,Ghost prog s ⟨az [(1,.pt (aD f)),(3,.pt (br P0 Q0 f))],fun _=>none,N⟩/\(List.range n).all (jG f)=true) (dM (α:=Nat×Nat) (fun k=>⟨az [(1,.pt (aD f)),(3,.pt (br P0 Q0 f)),(6,.mp 2),(123,fL f.blocks),(124,I n),(125,I k.1)],bm [(2,.map (nN (lG f.blocks k.1)))],k.2⟩) (fun k=>k.1<=n/\(List.range k.1).all (jG f)=true/\3<=k.2) (fun k=>n - k.1) (0,3) (aP eH eH) ⟨Nat.zero_le _,rfl,bP _⟩ ?_) ?_)
 .rintro⟨k,N⟩ ⟨hk,C,hN⟩;dsimp only at hk C hN ⊢;refine SS ?_;refine ab ⟨_,rfl,fun h=>?_,fun h=>?_⟩
  .have ap:k<n:=by simpa using h
   have hx:f.blocks[k]? =some f.blocks[k]:=aG oG;generalize f.blocks[k]=x at hx;have U:jG f k=(jI f x.fin&&(!decide ((200:Int)<x.ins.length)&& !(x.fin.kind==7&&(lG f.blocks k).any (·==x.fin.a)))):=by rw[jG,getD_some hx]
   have kK:=XB hx;have Hh:=Hh (f:=f) (x:=x.fin);generalize lG f.blocks k=l at U kK;refine aw ?_;refine aJ ?_;refine ab (aI (m9 (i:=N) (l:=[(1,.pt (aD f)),(3,.pt (br P0 Q0 f)),(6,.mp 2),(8,.pt (c9 x)),(123,fL f.blocks),(124,I n),(125,I k)]) (ml:=[(2,.map (nN l))]) (up_same _ _ _) ⟨rfl,rfl,rfl,lP,rfl,rfl,rfl,trivial⟩ ⟨wY oG (ag oG (ag oG rfl)) (abM l),trivial⟩) (aC (ao ?_)));generalize jI f x.fin=e at Hh U;refine au ?_;refine cl Hh ?_;refine dk ?_;refine ab (cH rfl (fun h=>?_) fun h=>b7 (ao ?_))
   .have hf:jG f k=false:=by
     rw[U];cases e with
     |false=>rfl
     |true=>have:decide ((200:Int)<x.ins.length)=true:=by simpa using h
            rw[this];rfl
    refine aC (ao ?_);refine SS ?_;refine ab (cK (bR (aL (ax (d:=B false) rfl ?_))));rw[kO ap hf];rfl
   have U:jG f k= !(x.fin.kind==7&&l.any (·==x.fin.a)):=by
    rw[U];cases e with
    |false=>simp at h
    |true=>have:decide ((200:Int)<x.ins.length)=false:=by simpa using h
           rw[this];rfl
   refine aJ ?_;refine ab (av rfl (fun h7=>?_) fun h7=>ct ?_)
   .rw[h7] at U kK;refine aC (ao ?_);refine aJ ?_;refine aF (Jb rfl rfl rfl KU (acK aee _ _)) dd ⟨KV,DL u9 _,QB u9 _⟩ ?_;refine ab (cH rfl (fun h=>?_) fun h=>b7 (eZ ?_))
    .have hf:jG f k=false:=by rw[U,h];rfl
     refine aC (ao ?_);refine SS ?_;refine ab (cK (bR (aL (ax (d:=B false) rfl ?_))));rw[kO ap hf];rfl
    .have ht:jG f k=true:=by rw[U,h];rfl
     refine aJ ?_;refine cJ (RK rfl rfl rfl rfl KU) dd ⟨KV,DL u9 _,QB u9 _⟩ ?_;refine ab ?_;refine af ?_;refine ab (aK (k+1,_) (aP eH ⟨?_,trivial⟩) ⟨oM,jY C ht,oM⟩ oM);dsimp only;rw[kK,if_pos rfl, <- acL h];exact up_same _ _ _
   .rw[h7] at U kK;refine af ?_;refine ab (aK (k+1,_) (aP eH ⟨?_,trivial⟩) ⟨oM,jY C U,oM⟩ oM);dsimp only;rw[kK,if_neg oS];rfl
  .have bh:¬ k<n:=by simpa using h
   have:k=n:=by omega
   subst this;exact⟨N,fU eH,C⟩
 rintro s ⟨N,hg,C⟩;rw[C,Bool.true_and]
 have hE:∀ x∈f.blocks,GU f x.fin:=fun x hx=>by
  obtain⟨k,hk⟩:=dt hx;have ap:k<n:=by rw[<- hn];exact(bL.1 hk).1
  have:=bJ.1 C k (by simpa using ap);rw[jG,getD_some hk] at this;simp only[aO] at this;exact Ju oG nA this.1
 have Cf:=Cf (f:=f) mz mA rfl rfl hn oG (fun b h=>by have:=(hE b h).wh;omega) (fun b h t ht=>hn▸(hE b h).to t (Cx.1 ht));refine⟨_,hg,ao ?_⟩;refine SS ?_;refine cl Cf ?_;refine SS ?_;refine ab (aC (aw ?_));refine aJ ?_;refine ab (bV (fun s=>(List.range n).all (su f)=true) (dM (α:=Nat×Nat) (fun k=>⟨az [(1,.pt (aD f)),(3,.pt (br P0 Q0 f)),(9,bG (bX f.blocks)),(157,fL f.blocks),(158,I n),(159,I k.1)],fun _=>none,k.2⟩) (fun k=>k.1<=n/\(List.range k.1).all (su f)=true) (fun k=>n - k.1) (0,N) (fU ⟨rfl,rfl,rfl,rfl,congrArg (fun k:Nat=>I k) hn,rfl,trivial⟩) ⟨Nat.zero_le _,rfl⟩ ?_) ?_)
 .rintro⟨k,N⟩ ⟨hk,C⟩;dsimp only at hk C ⊢;refine SS ?_;refine ab ⟨_,rfl,fun h=>?_,fun h=>?_⟩
  .have ap:k<n:=by simpa using h
   have hx:f.blocks[k]? =some f.blocks[k]:=aG oG;have bM:f.blocks[k]∈f.blocks:=bO _;generalize f.blocks[k]=x at hx bM;have hA:=AH hn ap;have mV:su f k=(List.range x.ins.length).all (vr f k x.ins):=by rw[su,getD_some hx]
   have pH:∀ j,vr f k x.ins j=jm f k (x.ins.getD j dT) ((x.ins.take (j+1)).all bC) (bN f.blocks n k).length:=fun j=>by rw[vr,hn]
   generalize bN f.blocks n k=A at hA pH;refine aw ?_;refine bK ?_;refine ab (aI (ni (i:=N) (l:=[(1,.pt (aD f)),(3,.pt (br P0 Q0 f)),(9,bG (bX f.blocks)),(10,I k),(11,.pt (c9 x)),(157,fL f.blocks),(158,I n),(159,I k)]) (up_same _ _ _) ⟨rfl,rfl,rfl,rfl,lP,rfl,rfl,rfl,trivial⟩) (ao ?_));refine SS ?_;refine ab (aw ?_);refine aJ ?_
   have fF:x.ins.length<=200:=by
    have:=bJ.1 ‹(List.range n).all (jG f)=true› k (by simpa using ap);rw[jG,getD_some hx] at this;simp only[aO,Bool.not_eq_true',decide_eq_false_iff_not] at this;omega
   refine ab (dM (α:=Nat×Nat) (fun j=>⟨az [(1,.pt (aD f)),(3,.pt (br P0 Q0 f)),(9,bG (bX f.blocks)),(10,I k),(12,B ((x.ins.take j.1).all bC)),(157,fL f.blocks),(158,I n),(159,I k),(165,dG x.ins),(166,I x.ins.length),(167,I j.1)],fun _=>none,j.2⟩) (fun j=>j.1<=x.ins.length/\(List.range j.1).all (vr f k x.ins)=true) (fun j=>x.ins.length - j.1) (0,N+1) (fU eH) ⟨Nat.zero_le _,rfl⟩ ?_);rintro⟨j,N⟩ ⟨hj,KW⟩;dsimp only at hj KW ⊢;refine SS ?_;refine ab ⟨_,rfl,fun h=>?_,fun h=>?_⟩
   .have cF:j<x.ins.length:=by simpa using h
    have hy:x.ins[j]? =some x.ins[j]:=aG cF;generalize x.ins[j]=y at hy;have eY:(x.ins.take (j+1)).all bC=((x.ins.take j).all bC&&bC y):=by rw[List.take_add_one,hy,List.all_append];simp
    have pH:=pH j;rw[getD_some hy] at pH;generalize (x.ins.take j).all bC=ph at eY;refine aw ?_;refine aJ ?_;refine ab (aI (ni (i:=N) (l:=[(1,.pt (aD f)),(3,.pt (br P0 Q0 f)),(9,bG (bX f.blocks)),(10,I k),(12,B ph),(14,.pt (a9 y)),(157,fL f.blocks),(158,I n),(159,I k),(165,dG x.ins),(166,I x.ins.length),(167,I j)]) (up_same _ _ _) ⟨rfl,rfl,rfl,rfl,rfl,lP,rfl,rfl,rfl,rfl,rfl,rfl,trivial⟩) (aw ?_));refine dk ?_;refine ab (aI (fU (l:=[(1,.pt (aD f)),(3,.pt (br P0 Q0 f)),(9,bG (bX f.blocks)),(10,I k),(12,B ((x.ins.take (j+1)).all bC)),(14,.pt (a9 y)),(157,fL f.blocks),(158,I n),(159,I k),(165,dG x.ins),(166,I x.ins.length),(167,I j)]) ⟨rfl,rfl,rfl,rfl,?_,rfl,rfl,rfl,rfl,rfl,rfl,rfl,trivial⟩) (c8 Yg ?_))
    .rw[eY];cases ph<;>rfl
    have Hi:=Hi (f:=f) (b:=(k:Int)) (ahead:=(A.length:Int)) (x:=y) (phis:=(x.ins.take (j+1)).all bC);rw[<- pH] at Hi;refine aE ?_;refine cl Hi ?_;refine SS ?_;refine a8 bf (av rfl (fun h=>?_) fun h=>ct ?_)
    .have hf:vr f k x.ins j=false:=by simpa using h
     refine ws ?_;refine SS ?_;refine ab (aT (bR (bR (aL (ax (d:=B false) rfl ?_)))));rw[kO ap (by rw[mV];exact kO cF hf)]
    .have ht:vr f k x.ins j=true:=by simpa using h
     refine af ?_;exact ab (aK (j+1,_) (fU eH) ⟨oM,jY KW ht⟩ oM)
   .have bh:¬ j<x.ins.length:=by simpa using h
    have z5:j=x.ins.length:=by omega
    subst z5;show AOps _ _ _ _ _ _ _ _ _;refine af ?_;exact ab (aK (k+1,_) (fU eH) ⟨oM,jY oN (mV.trans KW)⟩ oM)
  .have bh:¬ k<n:=by simpa using h
   have:k=n:=by omega
   subst this;show(List.range k).all (su f)=true
   assumption
 .rintro⟨env,m,nx⟩ C;refine⟨_,.refl _,ao ?_⟩;refine SS ?_;refine ab (ax (d:=B true) rfl ?_);rw[C]
theorem yE{f:aA}:PCall prog 95 [.agg (aD f)] (I (dS f)):=by
 have U:∀ a∈[D.agg (aD f)],Tr a:=.cons (.agg (fu f)) .nil;refine bc U9 U (.s _) ?_;rw[ahW];have LI:=LI (f:=f);refine aw ?_;refine af ?_;refine ab (aI (ni (i:=0) (l:=[(1,.pt (aD f))]) rfl eH) (l8 (ao ?_)));refine SS ?_;refine cl LI ?_;refine af ?_;refine ab (av rfl (fun h=>ao ?_) fun h=>ao ?_)
 .have hf:iV f=false:=by simpa using h
  refine SS ?_;refine ab (aT (bH (aL (ax (d:=I 80) rfl ?_))));rw[dS,if_neg (by simp[hf])]
 .have hf:iV f=true:=by simpa using h
  have C:=vC hf;obtain⟨args,ha⟩:=cN C.args.1;have tl:=C.args.2;have Hg:=Hg (p:=.s (.map none)) (q:=.s (.map none)) (f:=f) (.s _) (.s _) rfl rfl rfl C.pos (by have:=C.lC;omega) ha oG (FI args) C.blk (fun b x hx y hy X=>C.Ck hx hy X);have J:dS f=if wX f.blocks args=true then 0 else 81:=by rw[dS,if_pos hf,ha,bx]
  generalize wX f.blocks args=r at Hg J;refine SS ?_;refine U' ?_;refine cl Hg ?_;refine af ?_;refine ab (av rfl (fun h=>ao ?_) fun h=>lL (ao ?_))
  .have hr:r=false:=by simpa using h
   refine SS ?_;refine ab (aT (bH (aL (ax (d:=I 81) rfl ?_))));rw[J,hr];rfl
  .have hr:r=true:=by simpa using h
   refine SS ?_;refine ab (aT (ax (d:=I 0) rfl ?_));rw[J,hr];rfl
end Go.Proofs.Tryz.K
namespace Go.Argus
def GV(a b:Int):Int:=intBitsV .andNot .u64 a b
def zw(w:List Int)(m:Nat):List Int:=w.set (m / 64) (GV (w.getD (m / 64) 0) (IntKind.u64.wrap (1*2 ^ (min (m % 64) 64))))
def ia(w:List Int)(n:Int):List Int:=if 0<=n then zw w n.toNat else w
def ki(w v:List Int):Nat->List Int
 |0=>w
 |k+1=>(ki w v k).set k (Aj ((ki w v k).getD k 0) (v.getD k 0))
def p7(w v:List Int):List Int:=ki w v 19
@[simp] theorem alc (w : List Int) (m : Nat) : (zw w m).length = w.length := by simp [zw]
@[simp] theorem ald (w : List Int) (n : Int) : (ia w n).length = w.length := by unfold ia; split <;> simp
@[simp] theorem OF (w v : List Int) : ∀ k, (ki w v k).length = w.length
 |0=>rfl
 |k+1=>by simp[ki,OF w v k]
@[simp] theorem ale (w v : List Int) : (p7 w v).length = w.length := OF w v 19
end Go.Argus
namespace Go.Proofs.Tryz.K
set_option maxRecDepth 10000
theorem y3{off:Nat}{vs cs:List D}(hv:vs.length=19)(hl:off+19<=cs.length)(C:vs.all D.one=true):tyOk prog 100=true/\vs.length=prog.cellsOf 100/\off+prog.cellsOf 100<=cs.length/\vs.all D.one=true:=by
 rw[xV];exact⟨t100,hv,hl,C⟩
theorem Fa{w:List Int}{m:Nat}(J:w.length=19)(hm:m<1216):PCall prog 82 [dI w,I m] (B (ku w m)):=by
 have C:∀ a∈[dI w,I m],Tr a:=.cons (kx _) (.cons (.s _) .nil);have hi:w[m / 64]? =some w[m / 64]:=aG oG;have hg:w.getD (m / 64) 0=w[m / 64]:=by simp[bF,hi]
 have Ej:=D4 (m:=m) oG;have Ek:=D5 m;have kd:=gu (f:=bp) hi;refine bc Va C (Tr.s _) ?_;rw[ahX];refine ws ?_;refine af ?_;refine er ?_;refine bK ?_;refine aF (SN rfl rfl) ak oG ?_;refine au ?_;refine ab (ax (d:=.s (.bool _)) rfl ?_);unfold ku;rw[hg];rfl
theorem s7{w:List Int}{m:Nat}(J:w.length=19)(hm:m<1216):PCall prog 133 [dI w,I m] (dI (iX w m)):=by
 have C:∀ a∈[dI w,I m],Tr a:=.cons (kx _) (.cons (.s _) .nil);have hi:w[m / 64]? =some w[m / 64]:=aG oG;have hg:w.getD (m / 64) 0=w[m / 64]:=by simp[bF,hi]
 have Ej:=D4 (m:=m) oG;have Ek:=D5 m;have kd:=gu (f:=bp) hi;refine bc TF C (kx _) ?_;rw[aeg];refine ws ?_;refine af ?_;refine ab (c8 Zb ?_);refine bI ?_;refine af ?_;refine a8 bf (ao ?_);refine af ?_;refine ab (jH (jZ rfl rfl Eu xV (iI (by first|rfl|simp;omega)) t100 oP) ?_);simp only[iX,hg,dI,List.map_set];rfl
theorem we{w:List Int}{n:Int}(J:w.length=19)(hn: -1000000<=n/\n<1216):PCall prog 135 [dI w,I n] (dI (ia w n)):=by
 have C:∀ a∈[dI w,I n],Tr a:=.cons (kx _) (.cons (.s _) .nil);refine bc TG C (kx _) ?_;rw[aeh];refine ws ?_;refine af ?_;refine ab (aC (ao ?_));by_cases h0:0<=n
 .obtain⟨m,rfl⟩:=cN h0;have hm:m<1216:=by omega
  have hi:w[m / 64]? =some w[m / 64]:=aG oG;have hg:w.getD (m / 64) 0=w[m / 64]:=by simp[bF,hi]
  have Ej:=D4 (m:=m) oG;have Ek:=D5 m;have kd:=gu (f:=bp) hi;have uD:decide (0<=(m:Int))=true:=by simp
  refine af ?_;refine ab (gU (c8 Zc ?_));refine dk ?_;refine aF (Z2 rfl rfl) ak rfl ?_;refine af ?_;refine a8 bf (ao ?_);refine af ?_;refine ab (jH (jZ rfl rfl Eu xV (iI (by first|rfl|simp;omega)) t100 oP) ?_);simp only[ia,h0,if_true,bx,zw,hg,dI,List.map_set];rfl
 .have uD:decide (0<=n)=false:=by simpa using h0
  refine af ?_;refine ab (hP (b7 (ao ?_)));refine af ?_;refine ab (jH (jZ rfl rfl Eu xV (iI oP) t100 oP) ?_);simp only[ia,h0,if_false]
theorem Hk{w v:List Int}(C:w.length=19)(hv:v.length=19):PCall prog 134 [dI w,dI v] (dI (p7 w v)):=by
 have X:∀ a∈[dI w,dI v],Tr a:=.cons (kx _) (.cons (kx _) .nil);refine bc TH X (kx _) ?_;rw[aei];refine ws ?_;refine au ?_;refine ab (aC (aw ?_));refine SS ?_
 refine ab (bV (fun s=>Ghost prog s ⟨az [(2,.rp 0 0),(3,.rp 1 0),(4,.rp 2 0)],bm [(0,.cells ((p7 w v).map bp) 100),(1,.cells (v.map bp) 100),(2,.cells (List.replicate 19 (bp 0)) 100)],3⟩) (dM (α:=Nat)
  (fun k=>⟨az [(2,.rp 0 0),(3,.rp 1 0),(4,.rp 2 0),(6,I k)],bm [(0,.cells ((ki w v k).map bp) 100),(1,.cells (v.map bp) 100),(2,.cells (List.replicate 19 (bp 0)) 100)],3⟩)
  (fun k=>k<=19) (fun k=>19 - k) 0 (aP eH eH) oG ?_) ?_)
 .intro k hk;refine SS ?_;refine ab ⟨_,rfl,fun h=>?_,fun h=>?_⟩
  .have ap:k<19:=by have h:(k:Int)<19:=by simpa using h
                    omega
   have mL:(ki w v k).length=19:=by simp[C]
   have hi:(ki w v k)[k]? =some (ki w v k)[k]:=aG oG;have hj:v[k]? =some v[k]:=aG oG;have hg:(ki w v k).getD k 0=(ki w v k)[k]:=by simp[bF,hi]
   have J:v.getD k 0=v[k]:=by simp[bF,hj]
   have kd:=gu (f:=bp) hi;have gA:=gu (f:=bp) hj;refine ws ?_;refine af ?_;refine ab (kU Zd ?_);refine aV ?_;refine aF (fV rfl rfl gA V.h) ak (fW V.h V.h gA) ?_;refine au ?_;refine a8 bf ?_;refine af ?_;refine ab (aK (k+1) (aP eH ⟨?_,rfl,rfl,trivial⟩) oG oG);rw[up_same];simp only[ki,hg,J,List.map_set];rfl
  .have bh:¬ k<19:=by intro hh;simp at h;omega
   have:k=19:=by omega
   subst this;exact .forget _ _ _ _ fun t=>nX (l:=[(2,.rp 0 0),(3,.rp 1 0),(4,.rp 2 0)]) ⟨rfl,rfl,rfl,trivial⟩ t
 .intro s hg;have U:(p7 w v).length=19:=by simp[C]
  generalize p7 w v=u at hg U ⊢;refine⟨_,hg,ao ?_⟩;refine af ?_;refine ab (jH (jZ rfl rfl Eu xV (iI oP) t100 oP) ?_);rfl
end Go.Proofs.Tryz.K
end
namespace Go.Argus
open Go Go.Abs
theorem Nx(v:BitVec 64)(i:Nat):(IntKind.u64.wrap (v.toNat:Int)).toNat.testBit i=v.getLsbD i:=by
 rw[wrap_u64 v.isLt,bx,BitVec.testBit_toNat]
theorem Cs{a:Int}(ha:dK a)(i:Nat):(BitVec.ofInt 64 a).getLsbD i=a.toNat.testBit i:=by
 obtain⟨n,rfl⟩:=cN ha.1;have h:=ha.2;rw[<- BitVec.testBit_toNat,BitVec.toNat_ofInt];congr 1;omega
theorem Uy{a b:Int}(ha:dK a)(hb:dK b)(i:Nat):(Aj a b).toNat.testBit i=(a.toNat.testBit i||b.toNat.testBit i):=by
 have:Aj a b=IntKind.u64.wrap (((BitVec.ofInt 64 a||| BitVec.ofInt 64 b).toNat:Nat):Int):=rfl;rw[this,Nx,BitVec.getLsbD_or,Cs ha,Cs hb]
theorem SA{a b:Int}(ha:dK a)(hb:dK b)(i:Nat):(qk a b).toNat.testBit i=(a.toNat.testBit i&&b.toNat.testBit i):=by
 have:qk a b=IntKind.u64.wrap (((BitVec.ofInt 64 a&&& BitVec.ofInt 64 b).toNat:Nat):Int):=rfl;rw[this,Nx,BitVec.getLsbD_and,Cs ha,Cs hb]
theorem aca{a b:Int}(ha:dK a)(hb:dK b)(i:Nat):(GV a b).toNat.testBit i=(a.toNat.testBit i&& !(b.toNat.testBit i)):=by
 have:GV a b=IntKind.u64.wrap (((BitVec.ofInt 64 a&&& ~~~ BitVec.ofInt 64 b).toNat:Nat):Int):=rfl;rw[this,Nx,BitVec.getLsbD_and,Cs ha,BitVec.getLsbD_not,Cs hb];by_cases h:i<64
 .simp[h]
 .have:a.toNat.testBit i=false:=by
   apply Nat.testBit_lt_two_pow;have:=ha.2;have:=ha.1;have h2:2 ^ 64<=2 ^ i:=Nat.pow_le_pow_right oG oG;omega
  simp[this]
theorem I4(v:BitVec 64):dK (IntKind.u64.wrap (v.toNat:Int)):=by
 rw[wrap_u64 v.isLt];have:=v.isLt;unfold dK;omega
theorem YI(a b:Int):dK (GV a b):=I4 (BitVec.ofInt 64 a&&& ~~~ BitVec.ofInt 64 b)
theorem O5(a b:Int):dK (Aj a b):=I4 (BitVec.ofInt 64 a||| BitVec.ofInt 64 b)
theorem Rp{k:Nat}(hk:k<64):IntKind.u64.wrap (1*2 ^ (min k 64))=((2 ^ k:Nat):Int):=by
 have h1:min k 64=k:=by omega
 have h2:(2:Nat) ^ k<2 ^ 64:=Nat.pow_lt_pow_right oG hk;rw[h1,Int.one_mul, <- wrap_u64 h2]
 norm_cast
def bk(w:List Int)(r:Nat):Bool:=(w.getD (r / 64) 0).toNat.testBit (r % 64)
def dY(w:List Int):Prop:=∀ u∈w,dK u
theorem dY.get{w:List Int}(h:dY w)(i:Nat):dK (w.getD i 0):=by
 rw[bF];cases hx:w[i]? with
 |none=>exact⟨oS,oS⟩
 |some u=>exact h u (cx hx)
theorem Qc{k:Nat}(hk:k<64):dK ((2 ^ k:Nat):Int):=by
 have h2:(2:Nat) ^ k<2 ^ 64:=Nat.pow_lt_pow_right oG hk;generalize (2:Nat) ^ k=z at h2;unfold dK;omega
theorem F6{w:List Int}(h:dY w)(m:Nat):ku w m=bk w m:=by
 have C:=h.get (m / 64);unfold ku bk;generalize w.getD (m / 64) 0=u at C;have hk:min (m % 64) 64=m % 64:=by omega
 rw[hk];obtain⟨n,rfl⟩:=cN C.1
 have e:((n:Int).fdiv (2 ^ (m % 64)))=((n / 2 ^ (m % 64):Nat):Int):=by
  rw[Int.fdiv_eq_ediv_of_nonneg _ (Int.le_of_lt (Int.pow_pos oG)),Int.natCast_ediv,Int.natCast_pow];rfl
 rw[e];have hd:n / 2 ^ (m % 64)<=n:=Nat.div_le_self _ _
 have hq:dK ((n / 2 ^ (m % 64):Nat):Int):=by
  have:=C.2;revert hd;generalize n / 2 ^ (m % 64)=z;intro hd;unfold dK;omega
 have h1:dK 1:=by unfold dK;omega
 have hb:∀ i,(qk ((n / 2 ^ (m % 64):Nat):Int) 1).toNat.testBit i=(n.testBit (m % 64)&&decide (i=0)):=fun i=>by
  rw[SA hq h1,bx];by_cases hi:i=0
  .subst hi;simp[Nat.testBit_eq_decide_div_mod_eq]
  .have:(1:Int).toNat.testBit i=false:=by
    show Nat.testBit 1 i=false;cases i with
    |zero=>omega
    |succ j=>simp[Nat.testBit_succ]
   rw[this];simp[hi]
 have hp:dK (qk ((n / 2 ^ (m % 64):Nat):Int) 1):=I4 (BitVec.ofInt 64 _&&& BitVec.ofInt 64 1);generalize qk ((n / 2 ^ (m % 64):Nat):Int) 1=z at hb hp;obtain⟨q,rfl⟩:=cN hp.1;simp only[bx] at hb ⊢;cases hn:n.testBit (m % 64) with
 |false=>
  have:q=0:=Nat.eq_of_testBit_eq fun i=>by rw[hb i,hn];simp
  subst this;rfl
 |true=>
  have:q=1:=Nat.eq_of_testBit_eq fun i=>by
   rw[hb i,hn];cases i with
   |zero=>simp
   |succ j=>simp[Nat.testBit_succ]
  subst this;rfl
theorem Gs{w:List Int}{i:Nat}{u:Int}(hi:i<w.length)(r:Nat):bk (w.set i u) r=if r / 64=i then u.toNat.testBit (r % 64) else bk w r:=by
 unfold bk;simp only[bF,List.getElem?_set];split
 .rename_i h;subst h;simp[hi]
 .rename_i h;rw[if_neg fun e=>h e.symm]
theorem PY{w:List Int}(h:dY w){m:Nat}(hm:m / 64<w.length)(r:Nat):bk (iX w m) r=(bk w r||decide (r=m)):=by
 have hk:m % 64<64:=by omega
 unfold iX;rw[Rp hk,Gs hm];split
 .rename_i e;rw[Uy (h.get _) (Qc hk),bx,Nat.testBit_two_pow,bk,e];congr 1;apply decide_eq_decide.2;omega
 .rename_i e;have:¬ r=m:=fun h=>e (by rw[h]);simp[this]
theorem aa5{w:List Int}(h:dY w){m:Nat}(hm:m / 64<w.length)(r:Nat):bk (zw w m) r=(bk w r&& !decide (r=m)):=by
 have hk:m % 64<64:=by omega
 unfold zw;rw[Rp hk,Gs hm];split
 .rename_i e;rw[aca (h.get _) (Qc hk),bx,Nat.testBit_two_pow,bk,e];congr 2;apply decide_eq_decide.2;omega
 .rename_i e;have:¬ r=m:=fun h=>e (by rw[h]);simp[this]
theorem dY.set{w:List Int}(h:dY w){i:Nat}{u:Int}(C:dK u):dY (w.set i u):=fun x hx=>by
 rcases List.mem_or_eq_of_mem_set hx with h1|h1
 .exact h x h1
 .subst h1;exact C
theorem dY.with{w:List Int}(h:dY w)(m:Nat):dY (iX w m):=h.set (O5 _ _)
theorem dY.less{w:List Int}(h:dY w)(m:Nat):dY (zw w m):=h.set (YI _ _)
theorem dY.ia{w:List Int}(h:dY w)(n:Int):dY (ia w n):=by
 unfold Argus.ia;split
 .exact h.less _
 .exact h
theorem dY.ki{w v:List Int}(h:dY w):∀ k,dY (ki w v k)
 |0=>h
 |k+1=>(dY.ki h k).set (O5 _ _)
theorem O6{w:List Int}(h:dY w){n:Int}(hn:n<64*w.length)(r:Nat):bk (ia w n) r=(bk w r&& !decide ((r:Int)=n)):=by
 unfold ia;split
 .rename_i h0;rw[aa5 h oG];congr 2;apply decide_eq_decide.2;omega
 .have:¬ (r:Int)=n:=by omega
  simp[this]
theorem O7{w v:List Int}(h:dY w)(hv:dY v):∀ k,k<=w.length->∀ r,bk (ki w v k) r=(bk w r||(decide (r / 64<k)&&bk v r))
 |0,_,r=>by simp[ki]
 |k+1,hk,r=>by
  have ih:=O7 h hv k oG;rw[ki,Gs oP];split
  .rename_i e;have h1:=ih r;have h2:¬ r / 64<k:=by omega
   simp only[h2,decide_false,Bool.false_and,Bool.or_false] at h1;unfold bk at h1;rw[e] at h1;rw[Uy ((dY.ki h k).get _) (hv.get _),h1];unfold bk;rw[e];simp
  .rename_i e;rw[ih r];have:decide (r / 64<k)=decide (r / 64<k+1):=decide_eq_decide.2 oG;rw[this]
theorem aa6{w v:List Int}(h:dY w)(hv:dY v)(C:w.length=19)(J:v.length=19)(r:Nat):bk (p7 w v) r=(bk w r||bk v r):=by
 unfold p7;rw[O7 h hv 19 oG];by_cases hr:r / 64<19
 .simp[hr]
 .have:bk v r=false:=by
   unfold bk;rw[bF,List.getElem?_eq_none oG];simp
  simp[this]
theorem I3{w v:List Int}(h:dY w)(hv:dY v)(hl:w.length=v.length)(he:∀ r,bk w r=bk v r):w=v:=by
 apply List.ext_getElem hl;intro i h1 h2;have e1:w.getD i 0=w[i]:=by simp[bF,aG h1]
 have e2:v.getD i 0=v[i]:=by simp[bF,aG h2]
 have a:=h w[i] oS;have b:=hv v[i] oS
 have:w[i].toNat=v[i].toNat:=Nat.eq_of_testBit_eq fun k=>by
  by_cases hk:k<64
  .have:=he (i*64+k);unfold bk at this;rw[show(i*64+k) / 64=i by omega,show(i*64+k) % 64=k by omega,e1,e2] at this;exact this
  .have h2:2 ^ 64<=2 ^ k:=Nat.pow_le_pow_right oG oG;unfold dK at a b;rw[Nat.testBit_lt_two_pow oG,Nat.testBit_lt_two_pow oG]
 unfold dK at a b;omega
theorem JE(n r:Nat):bk (List.replicate n 0) r=false:=by
 unfold bk;rw[bF,List.getElem?_replicate];split<;>simp
theorem ZS(n:Nat):dY (List.replicate n 0):=fun u C=>by
 rw[List.eq_of_mem_replicate C];simp[dK]
section
variable(beh:Nat->List Int)(dP:Nat->Bool->Int)(dL:Nat->Nat->Int)
inductive Lv:Nat->Prop
 |here {b:Nat}:dP b true=1->Lv b
 |read {b:Nat} {c:Int}:dP b true=0->c∈beh b->dL b c.toNat=1->Lv b
 |on {b:Nat} {c:Int}:dP b true=0->c∈beh b->dL b c.toNat=0->Lv c.toNat->Lv b
def nD(dW:Nat->Bool)(iT:Nat->Bool->Bool)(prev:Option Int):List Int->Bool
 |[]=>false
 |b::t=>
  let go:=if dP b.toNat prev.isNone=2 then false
   else if dP b.toNat prev.isNone=1 then(if t=[] then true else if iT b.toNat prev.isNone then false else nD dW iT (some b) t)
   else(if t=[] then false else nD dW iT (some b) t)
  match prev with
  |none=>go
  |some a=>if dL a.toNat b.toNat=1/\t=[] then true else if dL a.toNat b.toNat=2\/(dL a.toNat b.toNat=1/\dW b.toNat=true) then false else go
def wZ:List Int->Prop
 |[]=>True
 |[_]=>True
 |a::b::t=>b∈beh a.toNat/\wZ (b::t)
variable{beh dP dL}{dW:Nat->Bool}{iT:Nat->Bool->Bool}
structure Ec(beh:Nat->List Int)(dP:Nat->Bool->Int)(dL:Nat->Nat->Int):Prop where
 f3:∀ b p,dP b p=0\/dP b p=1\/dP b p=2
 e3:∀ a c,dL a c=0\/dL a c=1\/dL a c=2
 ph:∀ a c,c∈beh a->dL a c.toNat=0->dP c.toNat false=dP c.toNat true
theorem Pb(h3:Ec beh dP dL):∀ (t:List Int) (a b:Int),b∈beh a.toNat->wZ beh (b::t)->nD dP dL dW iT (some a) (b::t)=true->
 dL a.toNat b.toNat=1\/(dL a.toNat b.toNat=0/\Lv beh dP dL b.toNat)
 |t,a,b,hb,hw,hc=>by
  rcases h3.e3 a.toNat b.toNat with he|he|he
  .refine .inr ⟨he,?_⟩;have J:=h3.ph _ _ hb he;rw[nD] at hc;simp only[he,Option.isNone_some] at hc;rw[if_neg oG,if_neg oG,J] at hc;rcases h3.f3 b.toNat true with hf|hf|hf
   .rw[hf,if_neg oG,if_neg oG] at hc;cases t with
    |nil=>simp at hc
    |cons c t=>
     rw[if_neg oS] at hc;obtain⟨C,U⟩:=hw;rcases Pb h3 t b c C U hc with h1|⟨h1,h2⟩
     .exact .read hf C h1
     .exact .on hf C h1 h2
   .exact .here hf
   .rw[hf,if_pos rfl] at hc;cases hc
  .exact .inl he
  .rw[nD] at hc;simp only[he] at hc;rw[if_neg oG,if_pos oS] at hc;cases hc
theorem alm(h3:Ec beh dP dL){t:List Int}{b:Int}(J:wZ beh (b::t))(hc:nD dP dL dW iT none (b::t)=true):Lv beh dP dL b.toNat:=by
 rw[nD] at hc;simp only[Option.isNone_none] at hc;rcases h3.f3 b.toNat true with hf|hf|hf
 .rw[hf,if_neg oG,if_neg oG] at hc;cases t with
  |nil=>simp at hc
  |cons c t=>
   rw[if_neg oS] at hc;obtain⟨C,U⟩:=J;rcases Pb h3 t b c C U hc with h1|⟨h1,h2⟩
   .exact .read hf C h1
   .exact .on hf C h1 h2
 .exact .here hf
 .rw[hf,if_pos rfl] at hc;cases hc
def zA(beh:Nat->List Int)(dP:Nat->Bool->Int)(dL:Nat->Nat->Int):List Int->Prop
 |[]=>False
 |[b]=>dP b.toNat true=1
 |b::c::t=>dP b.toNat true=0/\c∈beh b.toNat/\((dL b.toNat c.toNat=1/\t=[])\/(dL b.toNat c.toNat=0/\zA beh dP dL (c::t)))
theorem Oi(h3:Ec beh dP dL):∀ (t:List Int) (a b:Int),b∈beh a.toNat->((dL a.toNat b.toNat=1/\t=[])\/(dL a.toNat b.toNat=0/\zA beh dP dL (b::t)))->
 nD dP dL dW iT (some a) (b::t)=true
 |t,a,b,hb,h=>by
  rw[nD];rcases h with⟨h1,h2⟩|⟨h1,h2⟩
  .simp[h1,h2]
  .have C:=h3.ph _ _ hb h1;simp only[h1,Option.isNone_some,C];rw[if_neg oG,if_neg oG];cases t with
   |nil=>
    have hf:dP b.toNat true=1:=h2;rw[hf,if_neg oG,if_pos rfl,if_pos rfl]
   |cons c t=>
    obtain⟨hf,hc,hr⟩:=h2;rw[hf,if_neg oG,if_neg oG,if_neg oS];exact Oi h3 t b c hc hr
theorem YK(h3:Ec beh dP dL){way:List Int}(h:zA beh dP dL way):nD dP dL dW iT none way=true:=by
 match way,h with
 |[b],h=>
  have hf:dP b.toNat true=1:=h;rw[nD];simp[hf]
 |b::c::t,⟨hf,hc,hr⟩=>
  rw[nD];simp only[Option.isNone_none,hf];rw[if_neg oG,if_neg oG,if_neg oS];exact Oi h3 t b c hc hr
theorem NQ:∀ {way:List Int},zA beh dP dL way->wZ beh way
 |[b],_=>trivial
 |b::c::t,⟨_,hc,hr⟩=>by
  refine⟨hc,?_⟩;rcases hr with⟨_,rfl⟩|⟨_,h⟩
  .trivial
  .exact NQ h
inductive GP(beh:Nat->List Int)(dP:Nat->Bool->Int)(dL:Nat->Nat->Int)(b0:Int):List Int->Int->Prop
 |one:GP beh dP dL b0 [b0] b0
 |snoc {p:List Int} {a c:Int}:GP beh dP dL b0 p a->dP a.toNat true=0->c∈beh a.toNat->dL a.toNat c.toNat=0->GP beh dP dL b0 (p++[c]) c
theorem GP.V0{b0:Int}{p:List Int}{b:Int}(h:GP beh dP dL b0 p b):∀ q,zA beh dP dL (b::q)->zA beh dP dL (p++q):=by
 induction h with
 |one=>intro q hq;exact hq
 |snoc h1 h2 h3 h4 ih=>
  intro q hq;rw[List.append_assoc];exact ih _ ⟨h2,h3,.inr ⟨h4,hq⟩⟩
theorem GP.head{b0:Int}{p:List Int}{b:Int}(h:GP beh dP dL b0 p b):∃ t,p=b0::t:=by
 induction h with
 |one=>exact⟨[],rfl⟩
 |snoc _ _ _ _ ih=>
  obtain⟨t,rfl⟩:=ih;exact⟨t++_,rfl⟩
theorem Xy{V:Nat->Prop}(C:∀ b,V b->dP b true≠1/\(dP b true=0->∀ c∈beh b,dL b c.toNat≠1/\(dL b c.toNat=0->V c.toNat))){b:Nat}(hb:V b):¬ Lv beh dP dL b:=by
 intro h
 induction h with
 |here h=>exact(C _ hb).1 h
 |read h1 h2 h3=>exact((C _ hb).2 h1 _ h2).1 h3
 |on h1 h2 h3 _ ih=>exact ih (((C _ hb).2 h1 _ h2).2 h3)
end
end Go.Argus
