/- Part 5. -/
import Derived.Test.YtnagfmlifobdiaaGreatDoorTells4
import Derived.Handed
import Derived.LaidLaws
import Derived.Stop.Joined
import Derived.Test.YtnagfmlifobdiaaGreatDoorRows
set_option linter.all false
set_option maxHeartbeats 8000000
set_option maxRecDepth 10000
open List(range)
section
open Go Go.Abs Go.Proofs Go.Argus
namespace Go.Argus
def eU(l:List au):List Nat:=nk (bU l) (aO l)
def oz(l:List au):List (List Int):=hM (eU l) (bm (eU l)).length
def qM(l:List au):D:=if(cW l).2=0 then bT (oz l) else .z
def gf(es:List (Int×Nat)):List (Value×D):=es.map fun e=>(.int .i64 e.1,I (e.2:Nat))
theorem IU(i:Int):∀ es:List (Int×Nat),(cQ (.int .i64 i) (gf es)).map (·.2)=if iM es i then some (I (fk es i:Nat)) else none
 |[]=>rfl
 |e::es=>by
  have ih:=IU i es;have e1:gf (e::es)=(Value.int .i64 e.1,I (e.2:Nat))::gf es:=rfl;rw[e1];simp only[cQ];by_cases h:e.1=i
  .have hv:kJ (Value.int .i64 e.1) (.int .i64 i)=true:=by rw[h];show(IntKind.i64==IntKind.i64&&i==i)=true;simp
   have h2:iM (e::es) i=true:=by unfold iM;simp[h]
   have C:fk (e::es) i=e.2:=by unfold fk;simp[h]
   rw[if_pos hv,h2,C];rfl
  .have hv:kJ (Value.int .i64 e.1) (.int .i64 i)=false:=by show(IntKind.i64==IntKind.i64&&e.1==i)=false;simp[h]
   have h2:iM (e::es) i=iM es i:=by unfold iM;simp[h]
   have C:fk (e::es) i=fk es i:=by unfold fk;simp[h]
   rw[hv,if_neg oS,h2,C, <- ih,Option.map_map];rfl
theorem Zh{es:List (Int×Nat)}{i:Int}(h:iM es i=false):fk es i=0:=by
 unfold fk;cases hf:es.find? fun e=>e.1==i with
 |none=>rfl
 |some e=>
  have h1:=List.find?_some hf;have h2:=List.mem_of_find?_eq_some hf;have:iM es i=true:=List.any_eq_true.2 ⟨e,h2,h1⟩;rw[h] at this;cases this
theorem Qu{i:Int}{n:Nat}{es:List (Int×Nat)}(h:iM es i=false):fY (.int .i64 i) (I (n:Nat)) (gf es)=gf (es++[(i,n)]):=by
 have h1:=IU i es;rw[h] at h1;unfold fY;cases hl:cQ (.int .i64 i) (gf es) with
 |none=>simp[gf]
 |some x=>rw[hl] at h1;simp at h1
def wl(p:Int->Int->Bool)(a b:List Int):Bool:=decide (a.length=b.length)&&(range a.length).all fun i=>p (a.getD i 0) (b.getD i 0)
theorem E4{l:List au}{i j:Nat}{s t:ByteArray}(hi:(br l)[i]? =some s)(hj:(br l)[j]? =some t):((bU l).getD i 0==(bU l).getD j 0)=(s.toList==t.toList):=by
 have h1:(bp (br l))[i]? =some ((bU l).getD i 0):=dn (by have:=(bM.1 hi).1;simpa[bU] using this);have h2:(bp (br l))[j]? =some ((bU l).getD j 0):=dn (by have:=(bM.1 hj).1;simpa[bU] using this);have h:=E5 hi hj;rw[h1,h2,aH] at h;rw[tv,tv];by_cases e:s=t
 .rw[h.2 e,e];simp
 .rw[beq_eq_false_iff_ne.2 fun C=>e (h.1 C),beq_eq_false_iff_ne.2 fun C=>e (xE C)]
theorem acj(es:List (Int×Nat))(a b:List Nat):wl (fun x y=>((fk es x:Nat):Int)==(fk es y:Nat)) (ap a) (ap b)=decide (a.map (fun(t:Nat)=>fk es t)=b.map fun(t:Nat)=>fk es t):=by
 have key:wl (fun x y=>((fk es x:Nat):Int)==(fk es y:Nat)) (ap a) (ap b)=true↔a.map (fun(t:Nat)=>fk es t)=b.map fun(t:Nat)=>fk es t:=by
  unfold wl;simp only[ba,decide_eq_true_eq,List.length_map];constructor
  .rintro⟨h1,h2⟩;refine List.ext_getElem? fun i=>?_;by_cases hi:i<a.length
   .have:=bV.1 h2 i (List.mem_range.2 hi);have ha:(ap a)[i]? =some ((a.getD i 0:Nat):Int):=by rw[List.getElem?_map,dn (d:=0) hi];rfl
    have hb:(ap b)[i]? =some ((b.getD i 0:Nat):Int):=by rw[List.getElem?_map,dn (d:=0) (show i<b.length by omega)];rfl
    rw[tI ha,tI hb] at this;rw[List.getElem?_map,List.getElem?_map,dn (d:=0) hi,dn (d:=0) (show i<b.length by omega)];have:((fk es (a.getD i 0:Nat):Nat):Int)=(fk es (b.getD i 0:Nat):Nat):=by simpa using this
    simp only[Option.map_some,aH];omega
   .rw[List.getElem?_eq_none oP,List.getElem?_eq_none oP]
  .intro h;have hl:a.length=b.length:=by simpa using congrArg List.length h
   refine⟨hl,bV.2 fun i hi=>?_⟩;have hi:i<a.length:=List.mem_range.1 hi;have ha:(ap a)[i]? =some ((a.getD i 0:Nat):Int):=by rw[List.getElem?_map,dn (d:=0) hi];rfl
   have hb:(ap b)[i]? =some ((b.getD i 0:Nat):Int):=by rw[List.getElem?_map,dn (d:=0) (show i<b.length by omega)];rfl
   rw[tI ha,tI hb];have:=congrArg (fun l=>l[i]?) h;simp only[List.getElem?_map] at this;rw[dn (d:=0) hi,dn (d:=0) (show i<b.length by omega)] at this;simp only[Option.map_some,aH] at this;rw[this];simp
 by_cases h:a.map (fun(t:Nat)=>fk es t)=b.map fun(t:Nat)=>fk es t
 .rw[decide_eq_true h,key.2 h]
 .rw[decide_eq_false h,Bool.eq_false_iff];exact fun h'=>h (key.1 h')
def zm(l:List au)(c:List (List Int)):Bool:=if(cW l).2=0 then qw (bU l) (aO l) c else false
theorem JT{sn:List Nat}{ca:List (List Nat)}{c:List (List Int)}{n:Nat}(hn:n<c.length)(h:pX ca.length c n=false):qw sn ca c=false:=by
 unfold qw;rw[qC hn h,Bool.false_and]
theorem B9{N:Nat}{c:List (List Int)}{n:Nat}{x:List Int}(h:c[n]? =some x):pX N c n=(CH c n x&&(range x.length).all (sQ N c n x)):=by unfold pX;rw[h]
theorem aaU{N:Nat}{c:List (List Int)}{n k:Nat}{x:List Int}(h:c[n]? =some x)(hk:k<x.length)(he:sQ N c n x k=false):pX N c n=false:=by rw[B9 h,qC hk he,Bool.and_false]
theorem aaV(es:List (Int×Nat)):(gf es).length=es.length:=by simp[gf]
theorem ack{sn:List Nat}{ca:List (List Nat)}{c:List (List Int)}(h:(entries c).length≠ca.length):qw sn ca c=false:=by
 unfold qw;rw[decide_eq_false h];simp
theorem aaW{sn:List Nat}{ca:List (List Nat)}{c:List (List Int)}{x:List Int}(hx:x∈c)(h:tJ sn ca (entries c) x=false):qw sn ca c=false:=by
 unfold qw
 have:c.all (tJ sn ca (entries c))=false:=by
  rw[Bool.eq_false_iff];intro ht;rw[bV.1 ht x hx] at h;cases h
 rw[this];simp
theorem uZ{α:Type}{p:α->Bool}{l:List α}{k:Nat}{x:α}(hx:l[k]? =some x)(h:(l.take k).all p=true)(hp:p x=true):(l.take (k+1)).all p=true:=by
 rw[List.take_add_one,hx,List.all_append,h];simp[hp]
end Go.Argus
namespace Go.Proofs.Tryz.K
theorem s9{l:List au}(hl:l.length<=1000):aD prog 16 [bi l] (.aM [qM l,I (cW l).2]):=by
 have gO:=gO hl
 have M:Tr (qM l):=by
  unfold qM;split
  .exact qL _
  .exact .z
 refine bj aiy (.cons (iB l) .nil) (.aM (.cons M (.cons (.s _) .nil))) ?_;unfold qM;by_cases he:(cW l).2=0
 .have J:=tW he;rw[if_pos he,he];rw[xe he,he] at gO;have X:(bU l).length=(aO l).length:=by simp
  have zh:=zh (l:=l) (sh:=br l) (ca:=aO l) (by simp[br]) oS J.po J.len fun x hx=>by
   obtain⟨f,hf,rfl⟩:=List.mem_map.1 hx;have:=wX f.blocks;have:=(tH (Go.Argus.checked (J.rK f hf))).j7;simp;omega
  obtain⟨ks,hk,hs⟩:=IV X;have By:=By (l:=l) (sh:=br l) (ca:=(aO l).map ap) (ks:=ks) (by simp at hk;omega);have U:nk (bp (br l)) (aO l)=bp ks:=hs;have C:oz l=hM (bp ks) (bm ks).length:=by unfold oz eU;rw[hs,zH]
  rw[U] at zh;rw[C];rw[T'];refine ws ?_;refine ag ?_;refine er ?_;refine SS ?_;refine cl gO ?_;refine cm ?_;refine af (aC (aj ?_));refine ag ?_;refine af (nv (bX (aj ?_)));refine SS ?_;refine cl zh ?_;refine cl By ?_;refine ag ?_;exact af (fH rfl rfl rfl)
 .rw[if_neg he];rw[B4 he] at gO;generalize (cW l).2=err at*
  rw[T'];refine ws ?_;refine ag ?_;refine er ?_;refine SS ?_;refine cl gO ?_;refine cm ?_;refine af (aC (aj ?_));refine ag ?_;refine af (ct rfl (fun h=>aC (aj ?_)) fun h=>?_)
  .refine ay ?_;exact af (ew (fH rfl rfl rfl))
  .exfalso;revert h;simpa using he
theorem AD(i:Int):cI prog 3 (.int .i64 i)=true:=by simp[cI,u3]
theorem Db(es:List (Int×Nat)):(gf es).all (fun e=>cI prog 3 e.1)=true:=by
 refine bV.2 fun e he=>?_;obtain⟨x,_,rfl⟩:=List.mem_map.1 he;exact AD _
theorem aiA:lM prog (la prog 93)=I 0:=kr
theorem Tg(i:Int)(es:List (Int×Nat)):fz prog 93 true (cQ (.int .i64 i) (gf es))=.aM [I (fk es i:Nat),B (iM es i)]:=by
 have h:=IU i es;cases hl:cQ (.int .i64 i) (gf es) with
 |none=>
  rw[hl] at h;cases hh:iM es i with
  |true=>rw[hh] at h;simp at h
  |false=>
   rw[Zh hh];show(D.aM [lM prog (la prog 93),_])=_;rw[aiA];rfl
 |some x=>
  rw[hl] at h;cases hh:iM es i with
  |false=>rw[hh] at h;simp at h
  |true=>
   rw[hh] at h;simp only[Option.map_some,if_true,aH] at h;obtain⟨j,d⟩:=x;simp only at h;subst h;rfl
theorem Sf(i:Int)(es:List (Int×Nat)):fz prog 93 false (cQ (.int .i64 i) (gf es))=I (fk es i:Nat):=by
 have h:=Tg i es;cases hl:cQ (.int .i64 i) (gf es) with
 |none=>
  rw[hl] at h;have h:D.aM [lM prog (la prog 93),B false]=_:=h;have h1:=(List.cons.inj (D.aM.inj h)).1;exact h1
 |some x=>
  rw[hl] at h;have h:D.aM [x.2,B true]=_:=h;exact(List.cons.inj (D.aM.inj h)).1
theorem k50{a b:Int}{es:List (Int×Nat)}:aD prog 50 [I a,I b,.pt [.im (gf es)]] (B (((fk es a:Nat):Int)==(fk es b:Nat))):=by
 refine bj aiB (.cons (.s _) (.cons (.s _) (.cons (.pt (.cons (.im fun x hx=>by obtain⟨y,_,rfl⟩:=List.mem_map.1 hx;exact .s _) .nil)) .nil))) (Tr.s _) ?_;rw[aiC];refine ws ?_;refine SS ?_;refine er ?_;refine ag ?_;refine ax (zE rfl rfl AZ (Sf a es)) aP ⟨A0,AD _,Db _⟩ ?_;refine ag ?_;refine ax (zE rfl rfl AZ (Sf b es)) aP ⟨A0,AD _,Db _⟩ ?_;refine ag ?_;exact af (aJ rfl rfl)
theorem M9{a b:List Int}{g:FuncId}{fs cs:List D}{p:Int->Int->Bool}(ht:Tr (.fn (.func g) fs cs))(hg:∀ x y,aD prog g (fs++[I x,I y]++cs) (B (p x y)))(ha:a.length<=100000):
 aD prog 49 [aQ a,aQ b,.fn (.func g) fs cs] (B (wl p a b)):=by
 refine bj aiD (.cons (c6 a) (.cons (c6 b) (.cons ht .nil))) (Tr.s _) ?_;rw[aiE];refine ws ?_;refine SS ?_;refine af (aC (aj ?_));refine bA ?_;refine af (ct rfl (fun h=>aC (aj ?_)) fun h=>bX (aC (az ?_)))
 .have h:¬ a.length=b.length:=fun e=>by rw[e] at h;simp at h
  unfold wl;rw[decide_eq_false h,Bool.false_and];refine SS ?_;exact af (ew (aJ rfl rfl))
 have h:a.length=b.length:=by
  have:(a.length:Int)=b.length:=by simpa using h
  omega
 unfold wl;rw[decide_eq_true h,Bool.true_and];refine ay ?_
 refine af (cz (fun s=>∃ m nx,aL prog s ⟨aA [],m,nx⟩/\(range a.length).all (fun i=>p (a.getD i 0) (b.getD i 0))=true) (cy (α:=Nat×Mem×Nat)
  (fun s=>⟨aA [(1,aQ b),(2,.fn (.func g) fs cs),(15,aQ a),(16,I a.length),(17,I s.1)],s.2.1,s.2.2⟩)
  (fun s=>s.1<=a.length/\(range s.1).all (fun i=>p (a.getD i 0) (b.getD i 0))=true) (fun s=>a.length - s.1) (0,_,_)
  (aw eH) ⟨Nat.zero_le _,rfl⟩ ?_) ?_)
 .rintro⟨i,m,nx⟩ ⟨hi,C⟩;dsimp only at hi C ⊢;refine SS ?_;refine af ⟨_,rfl,fun h=>?_,fun h=>?_⟩
  .have J:i<a.length:=by simpa using h
   obtain⟨x,hx⟩:∃ x,a[i]? =some x:=⟨_,a8 J⟩
   obtain⟨y,hy⟩:∃ y,b[i]? =some y:=⟨_,a8 oG⟩
   have U:=hg x y;have hp:p (a.getD i 0) (b.getD i 0)=p x y:=by rw[tI hx,tI hy]
   refine ws ?_;refine bA ?_;refine er ?_;refine bA ?_;refine er ?_;refine ay ?_;refine cl U ?_;refine SS ?_;refine af (aR rfl (fun h=>aj ?_) fun h=>c7 ?_)
   .have hf:p x y=false:=by simpa using h
    rw[qC J (hp.trans hf)];refine SS ?_;exact af (bH (cv (bD (aJ rfl rfl))))
   .have hf:p x y=true:=by simpa using h
    refine ag ?_;exact af (bh (i+1,m,nx) (aw eH) ⟨oM,oV C (hp.trans hf)⟩ oM)
  .have X:¬ i<a.length:=by simpa using h
   have:i=a.length:=by omega
   subst this;exact⟨m,nx,aw trivial,C⟩
 .rintro s ⟨m,nx,M,C⟩;rw[C];refine⟨_,M,aj ?_⟩;refine SS ?_;exact af (aJ rfl rfl)
end Go.Proofs.Tryz.K
namespace Go.Abs
theorem adu{P:Program}{env:Env}{m:Mem}{nx:Nat}{x y:Operand}{t e:TypeId}{a:Int}{l:List Int}(hx:(opd env x).core=aQ (a::l))(hy:(opd env y).core=.s (.int .i64 1))(he:aF P t=e)(hs:P.cellsOf e=1)(ht:bg P t=true):
 Ef P (.slice t x (some y) none none) env m nx ⟨True,aQ l,[],[],0⟩:=by
 have h:=JB (P:=P) (env:=env) (m:=m) (nx:=nx) (t:=t) (lo:=some y) (hi:=none) (a:=1) (b:=((a::l).length:Int)) (es':=l.map I) hx he hs (by simp[dX,hy,D.int?]) (by simp[dX]) (by
  simp only[List.map_cons,Int.reduceToNat,Nat.mul_one,List.drop_succ_cons,List.drop_zero,List.length_cons]
  exact dv oS)
 have h2:(bg P t=true/\(0:Int)<=1/\(1:Int)<=((a::l).length:Int)/\((a::l).length:Int)<=((a::l).length:Int))=True:=by
  apply propext;constructor
  .exact fun _=>trivial
  .exact fun _=>⟨ht,oG,by simp;omega,oG⟩
 have C:(((a::l).length:Int) - 1).toNat=l.length:=by simp
 rw[h2,C] at h;exact h
end Go.Abs
namespace Go.Proofs.Tryz.K
theorem acm{l:List au}{c:List (List Int)}(hl:l.length<=1000)(he:(cW l).2≠0):aD prog 18 [bi l,bT c] (.aM [B false,I (cW l).2]):=by
 have gO:=gO hl;refine bj Ua (.cons (iB l) (.cons (qL c) .nil)) (.aM (.cons (.s _) (.cons (.s _) .nil))) ?_;rw[B4 he] at gO;generalize (cW l).2=err at*
 rw[Ub];refine ws ?_;refine ag ?_;refine er ?_;refine SS ?_;refine cl gO ?_;refine cm ?_;refine af (aC (aj ?_));refine ag ?_;refine af (ct rfl (fun h=>aC (aj ?_)) fun h=>?_)
 .refine ay ?_;exact af (ew (fH rfl rfl rfl))
 .exfalso;revert h;simpa using he
theorem adv{l:List au}{c:List (List Int)}(hl:l.length<=1000)(he:(cW l).2=0)(sZ:c.length<=100000)(mR:∀ x∈c,x.length<=100000):aD prog 18 [bi l,bT c] (.aM [B (qw (bU l) (aO l) c),I 0]):=by
 have gO:=gO hl;refine bj Ua (.cons (iB l) (.cons (qL c) .nil)) (.aM (.cons (.s _) (.cons (.s _) .nil))) ?_;have hL:=tW he;rw[xe he,he] at gO;have iV:=iV (l:=l) (sh:=br l) (ca:=(aO l).map ap);have hN:(aO l).length=l.length:=by simp
 rw[Ub];refine ws ?_;refine ag ?_;refine er ?_;refine SS ?_;refine cl gO ?_;refine cm ?_;refine af (aC (aj ?_));refine ag ?_;refine af (ct rfl (fun h=>by cases h) fun h=>bX (az ?_));refine ag ?_;refine bL (eF (d:=.mp _) (cs':=[_]) rfl rfl rfl rfl rfl) ak (bY V.h V.h (by first|(simp;done)|exact⟨rfl,bF rfl⟩|(simp;omega)) rfl) ?_;refine af ⟨_,qG (i:=0) (cs:=cM l (br l) ((aO l).map ap)) (e:=82) rfl (l:=[(1,bT c),(6,.pt (cM l (br l) ((aO l).map ap))),(8,.rp 2 0)]) ⟨rfl,lQ,rfl,trivial⟩ (ml:=[(1,.map (gf [])),(2,.cells [.mp 1] 93)]) eH,aj ?_⟩;refine SS ?_;refine af (aC (az ?_));refine ay ?_
 refine af (cz (fun s=>(∃ nx,2<nx/\aL prog s ⟨aA [(1,bT c),(6,.pt (cM l (br l) ((aO l).map ap))),(8,.rp 2 0)],bu [(1,.map (gf (entries c))),(2,.cells [.mp 1] 93)],nx⟩)/\(range c.length).all (pX (aO l).length c)=true) (cy (α:=Nat×Nat)
  (fun s=>⟨aA [(1,bT c),(6,.pt (cM l (br l) ((aO l).map ap))),(8,.rp 2 0),(9,I (wY c s.1)),(29,bT c),(30,I c.length),(31,I s.1)],bu [(1,.map (gf (entries (c.take s.1)))),(2,.cells [.mp 1] 93)],s.2⟩)
  (fun s=>s.1<=c.length/\2<s.2/\(range s.1).all (pX (aO l).length c)=true) (fun s=>c.length - s.1) (0,3)
  (cq eH eH) ⟨Nat.zero_le _,oC,rfl⟩ ?_) ?_)
 .rintro⟨n,nx⟩ ⟨hn,J,U⟩;dsimp only at hn J U ⊢;refine SS ?_;refine af ⟨_,rfl,fun h=>?_,fun h=>?_⟩
  .have X:n<c.length:=by simpa using h
   clear h;obtain⟨x,hx⟩:∃ x,c[n]? =some x:=⟨_,a8 X⟩
   have wG:=mR x (bz hx);refine ws ?_;refine bA ?_;cases x with
   |nil=>
    refine af (aC (aj ?_));refine aV ?_;(iterate 5 refine z fun _ _=>?_);refine SS ?_;refine af (ct rfl (fun h=>aC (aj ?_)) fun h=>by cases h);have hr:pX (aO l).length c n=false:=by rw[B9 hx];rfl
    rw[JT X hr];refine ag ?_;exact af (ew (cv (bD (fH rfl rfl rfl))))
   |cons a C=>
    have ha:(a::C)[0]? =some a:=rfl;have Na:CH c n (a::C)=decide (wY c n<a):=rfl;have HP:wY c (n+1)=a:=by unfold wY;rw[if_neg oG,show n+1 - 1=n by omega,tI hx];rfl
    have aG:(((a::C).length:Int)==0)=false:=by simp;omega
    have Bt:=hx;generalize hxx:a::C=x at hx ha Na wG aG;refine af (aC (aj ?_));have l7:=aG;refine dM ?_;refine ag ?_;refine af (ct rfl (fun h=>aC (aj ?_)) fun h=>bX (aj ?_))
    .have hr:pX (aO l).length c n=false:=by
      have h:a<=wY c n:=by simpa using h
      rw[B9 hx,Na,decide_eq_false oG,Bool.false_and]
     rw[JT X hr];refine ag ?_;exact af (ew (cv (bD (fH rfl rfl rfl))))
    have aiF:CH c n x=true:=by
     have h:¬ a<=wY c n:=by simpa using h
     rw[Na,decide_eq_true oG]
    clear h;refine aV ?_;refine af (az ?_);refine ay ?_
    refine af (cy (α:=Nat×Nat)
     (fun s=>⟨aA [(1,bT c),(6,.pt (cM l (br l) ((aO l).map ap))),(8,.rp 2 0),(9,I a),(10,I n),(11,aQ x),(29,bT c),(30,I c.length),(31,I n),(49,aQ x),(50,I x.length),(51,I s.1)],bu [(1,.map (gf (entries (c.take n)++(x.take s.1).map fun j=>(j,n)))),(2,.cells [.mp 1] 93)],s.2⟩)
     (fun s=>s.1<=x.length/\2<s.2/\(range s.1).all (sQ (aO l).length c n x)=true) (fun s=>x.length - s.1) (0,nx)
     (cq eH ⟨by rw[List.take_zero,List.map_nil,List.append_nil];rfl,rfl,trivial⟩) ⟨Nat.zero_le _,J,rfl⟩ ?_)
    rintro⟨k,nx⟩ ⟨hk,J,ta⟩;dsimp only at hk J ta ⊢;refine SS ?_;refine af ⟨_,rfl,fun h=>?_,fun h=>?_⟩
    .have gM:k<x.length:=by simpa using h
     clear h;obtain⟨i,hi⟩:∃ i,x[k]? =some i:=⟨_,a8 gM⟩
     have kx:bu [(1,Row.map (gf (entries (c.take n)++(x.take k).map fun j=>(j,n)))),(2,.cells [.mp 1] 93)] 1=some (.map (gf (entries (c.take n)++(x.take k).map fun j=>(j,n)))):=rfl;have zn:sQ (aO l).length c n x k=(!(iM (entries (c.take n)++(x.take k).map fun j=>(j,n)) i)&&(decide (0<=i)&&(decide (i<(aO l).length)&&(decide (k=0)||decide (x.getD (k - 1) 0<i))))):=by unfold sQ;rw[hi]
     have fu:(entries (c.take n)++(x.take (k+1)).map fun j=>(j,n))=(entries (c.take n)++(x.take k).map fun j=>(j,n))++[(i,n)]:=by rw[List.take_add_one,hi,List.map_append,List.append_assoc];rfl
     generalize (entries (c.take n)++(x.take k).map fun j=>(j,n))=es at*
     refine ws ?_;refine bA ?_;refine af (aC (aj ?_));refine ag ?_;refine ax (EW rfl kx rfl AZ (Tg i es)) aP ⟨A0,AD i,Db es⟩ ?_;refine bA ?_;refine af (aC (aj ?_));have Dv:sQ (aO l).length c n x k=false->qw (bU l) (aO l) c=false:=fun h=>JT X (aaU hx gM h);have Hf:decide ((l.length:Int)<=i)= !decide (i<((aO l).length:Int)):=by rw[hN];by_cases h:i<(l.length:Int)<;>simp[h];omega
     have oq:decide (i<(0:Int))= !decide (0<=i):=by by_cases h:0<=i<;>simp[h];omega
     cases k with
     |zero=>
      have wa:decide ((0:Int)<((0:Nat):Int))=false:=rfl;refine dM ?_;refine gc iV ?_;refine cm ?_;refine jf rfl (congrArg some (Bool.and_false _)) fun _ _=>?_;refine jf rfl (congrArg some (Bool.and_false _)) fun _ _=>?_;refine jf rfl (congrArg some (Bool.and_false _)) fun _ _=>?_;refine jf rfl (congrArg some (Bool.and_false _)) fun _ _=>?_;refine jf rfl (congrArg some (Bool.and_false _)) fun _ _=>?_;refine jf rfl (congrArg some (Bool.and_false _)) fun _ _=>?_;refine jf rfl (congrArg some (Bool.and_false _)) fun _ _=>?_;refine ag ?_;refine af (ct rfl (fun h=>aC (aj ?_)) fun h=>bX (fF ?_))
      .rw[Dv (by rw[zn];revert h;rw[Hf,oq];cases iM es i<;>cases decide (0<=i)<;>cases decide (i<((aO l).length:Int))<;>simp)];refine ag ?_;exact af (ew (cv (cv (bD (fH rfl rfl rfl)))))
      .have M:sQ (aO l).length c n x 0=true:=by rw[zn];revert h;rw[Hf,oq];cases iM es i<;>cases decide (0<=i)<;>cases decide (i<((aO l).length:Int))<;>simp
       have iU:iM es i=false:=by
        rw[zn] at M;simp only[ba,Bool.not_eq_true'] at M;exact M.1
       refine ay ?_;refine bL (xB (key:=.int .i64 i) (v:=I (n:Nat)) rfl kx rfl rfl AZ) aP ⟨A0,AD i,Db es⟩ ?_;rw[Qu iU];refine af ?_;refine ag ?_;refine af (bh (0+1,nx) ?_ ⟨oM,J,oV ta M⟩ oM);dsimp only;rw[fu];exact cq eH ⟨al _ _ _,rfl,trivial⟩
     |succ k=>
      obtain⟨y,hy⟩:∃ y,x[k]? =some y:=⟨_,a8 oG⟩
      have wa:decide ((0:Int)<((k+1:Nat):Int))=true:=decide_eq_true oG;have wc:((k+1:Nat):Int) - 1=(k:Nat)/\ -9223372036854775808<=((k:Nat):Int)/\((k:Nat):Int)<=9223372036854775807:=⟨oG,oG,oG⟩
      have Vn:decide (i<=y)= !decide (y<i):=by by_cases h:y<i<;>simp[h];omega
      rw[show k+1 - 1=k by omega,tI hy,decide_eq_false (show ¬ k+1=0 by omega),Bool.false_or] at zn;refine dM ?_;refine gc iV ?_;refine bt ?_;refine cm ?_;refine af (ct rfl (fun h=>aC (aj ?_)) fun h=>bX (fF ?_))
      .rw[Dv (by rw[zn];revert h;rw[Hf,oq,Vn];cases iM es i<;>cases decide (0<=i)<;>cases decide (i<((aO l).length:Int))<;>cases decide (y<i)<;>simp)];refine ag ?_;exact af (ew (cv (cv (bD (fH rfl rfl rfl)))))
      .have M:sQ (aO l).length c n x (k+1)=true:=by rw[zn];revert h;rw[Hf,oq,Vn];cases iM es i<;>cases decide (0<=i)<;>cases decide (i<((aO l).length:Int))<;>cases decide (y<i)<;>simp
       have iU:iM es i=false:=by
        rw[zn] at M;simp only[ba,Bool.not_eq_true'] at M;exact M.1
       refine ay ?_;refine bL (xB (key:=.int .i64 i) (v:=I (n:Nat)) rfl kx rfl rfl AZ) aP ⟨A0,AD i,Db es⟩ ?_;rw[Qu iU];refine af ?_;refine ag ?_;refine af (bh ((k+1)+1,nx) ?_ ⟨oM,J,oV ta M⟩ oM);dsimp only;rw[fu];exact cq eH ⟨al _ _ _,rfl,trivial⟩
    .have bq:¬ k<x.length:=by simpa using h
     have:k=x.length:=by omega
     subst this;rw[List.take_length, <- NO hx];have hrw:pX (aO l).length c n=true:=by rw[B9 hx,aiF,ta];rfl
     show av _ _ _ _ _ _ _ _ _;refine ag ?_;refine af (bh (n+1,nx) (cq ⟨rfl,rfl,rfl,?_,rfl,rfl,rfl,trivial⟩ eH) ⟨oM,J,oV U hrw⟩ oM);dsimp only;rw[HP];rfl
  .have bq:¬ n<c.length:=by simpa using h
   have:n=c.length:=by omega
   subst this;rw[List.take_length];exact⟨⟨nx,J,aw eH⟩,U⟩
 .rintro s ⟨⟨nx,J,dG⟩,U⟩;have Th:=OP U c.length (bc _);rw[List.take_length] at Th;obtain⟨_,aiG⟩:=Th;have kx:bu [(1,Row.map (gf (entries c))),(2,.cells [.mp 1] 93)] 1=some (.map (gf (entries c))):=rfl;refine⟨_,dG,aC (aj ?_)⟩;clear dG;refine SS ?_;refine rh (Kc rfl rfl V.h) ak ?_;rw[aaV];refine SS ?_;refine cl iV ?_;refine SS ?_;refine af (ct rfl (fun h=>aC (aj ?_)) fun h=>bX (aC (az ?_)))
  .have h:(entries c).length≠(aO l).length:=fun e=>by rw[e,hN] at h;simp at h
   rw[ack h];refine ag ?_;exact af (ew (fH rfl rfl rfl))
  have hlen:(entries c).length=(aO l).length:=by
   have:((entries c).length:Int)=l.length:=by simpa using h
   omega
  clear h;refine ay ?_
  have l5:∀ x∈c,∀ i∈x,0<=i/\i<(l.length:Int):=fun x hx i hi=>by
   obtain⟨n,hn⟩:=ep hx;have:=aiG (i,n) (Xk.2 ⟨x,hn,hi⟩);rw[hN] at this;exact this
  have aiH:qw (bU l) (aO l) c=c.all (tJ (bU l) (aO l) (entries c)):=by unfold qw;rw[U,decide_eq_true hlen];simp
  have rG:∀ x∈c,tJ (bU l) (aO l) (entries c) x=false->qw (bU l) (aO l) c=false:=fun x hx h=>aaW hx h;generalize entries c=es at*
  refine af (cz (fun s=>(∃ m nx,aL prog s ⟨aA [],m,nx⟩)/\c.all (tJ (bU l) (aO l) es)=true) (cy (α:=Nat×Nat)
   (fun s=>⟨aA [(6,.pt (cM l (br l) ((aO l).map ap))),(8,.pt [.im (gf es)]),(96,bT c),(97,I c.length),(98,I s.1)],fun _=>none,s.2⟩)
   (fun s=>s.1<=c.length/\(c.take s.1).all (tJ (bU l) (aO l) es)=true) (fun s=>c.length - s.1) (0,nx)
   ((aL.Ce _ _ _ 1 (gf es) rfl).trans (fv (i:=2) (cs:=[.im (gf es)]) (e:=93) rfl eH)) ⟨Nat.zero_le _,rfl⟩ ?_) ?_)
  .rintro⟨n,nx⟩ ⟨hn,s6⟩;dsimp only at hn s6 ⊢;refine SS ?_;refine af ⟨_,rfl,fun h=>?_,fun h=>?_⟩
   .have X:n<c.length:=by simpa using h
    clear h;obtain⟨x,hx⟩:∃ x,c[n]? =some x:=⟨_,a8 X⟩
    have j6:=bz hx;have Ba:=bV.1 U n (List.mem_range.2 X);rw[B9 hx] at Ba;refine ws ?_;refine ay ?_;cases x with
    |nil=>simp[CH] at Ba
    |cons a C=>
     obtain⟨a0,aN⟩:=l5 _ j6 a oS;obtain⟨p,rfl⟩:=iQ a0;have amz:C.length<=100000:=by have:=mR _ j6;simp at this;omega
     have yX:p<l.length:=by omega
     have ha:((p:Int)::C)[0]? =some ((p:Nat):Int):=rfl;obtain⟨sa,uU⟩:∃ sa,(br l)[p]? =some sa:=⟨_,a8 (by simpa[br] using yX)⟩
     have dD:((aO l).map ap)[p]? =some (ap ((aO l).getD p [])):=by rw[List.getElem?_map,dn (d:=[]) (by simpa using yX)];rfl
     refine af (az ?_);refine SS ?_;refine ax (adu rfl rfl Bs c3 AQ) aP trivial ?_;refine ag ?_
     refine af (cy (α:=Nat×Nat)
      (fun s=>⟨aA [(6,.pt (cM l (br l) ((aO l).map ap))),(8,.pt [.im (gf es)]),(17,aQ ((p:Int)::C)),(96,bT c),(97,I c.length),(98,I n),(103,aQ C),(104,I C.length),(105,I s.1)],fun _=>none,s.2⟩)
      (fun s=>s.1<=C.length/\(C.take s.1).all (AE (bU l) (aO l) es p)=true) (fun s=>C.length - s.1) (0,nx)
      (aw eH) ⟨Nat.zero_le _,rfl⟩ ?_)
     rintro⟨k,nx⟩ ⟨hk,HT⟩;dsimp only at hk HT ⊢;refine SS ?_;refine af ⟨_,rfl,fun h=>?_,fun h=>?_⟩
     .have gM:k<C.length:=by simpa using h
      clear h;obtain⟨i,hi⟩:∃ i,C[k]? =some i:=⟨_,a8 gM⟩
      obtain⟨i0,iN⟩:=l5 _ j6 i (List.mem_cons_of_mem _ (bz hi));obtain⟨m,rfl⟩:=iQ i0;have ig:m<l.length:=by omega
      obtain⟨si,cn⟩:∃ si,(br l)[m]? =some si:=⟨_,a8 (by simpa[br] using ig)⟩
      have HR:((aO l).map ap)[m]? =some (ap ((aO l).getD m [])):=by rw[List.getElem?_map,dn (d:=[]) (by simpa using ig)];rfl
      have KV:(ap ((aO l).getD m [])).length<=100000:=by
       obtain⟨f,hf⟩:∃ f,l[m]? =some f:=⟨_,a8 ig⟩
       rw[E6 hf];have:=wX f.blocks;have:=(tH (Go.Argus.checked (hL.rK f (bz hf)))).j7;simp;omega
      have M9:=M9 (a:=ap ((aO l).getD m [])) (b:=ap ((aO l).getD p [])) (g:=50) (fs:=[]) (cs:=[.pt [.im (gf es)]]) (p:=fun x y=>((fk es x:Nat):Int)==(fk es y:Nat)) (.fn oS (.cons (.pt (.cons (.im fun x hx=>by obtain⟨y,_,rfl⟩:=List.mem_map.1 hx;exact .s _) .nil)) .nil)) (fun x y=>k50) KV
      have Hz:AE (bU l) (aO l) es p m=((si.toList==sa.toList)&&wl (fun x y=>((fk es x:Nat):Int)==(fk es y:Nat)) (ap ((aO l).getD m [])) (ap ((aO l).getD p []))):=by
       unfold AE;rw[iv,iv,E4 cn uU,acj]
      generalize ap ((aO l).getD m [])=ci at*
      generalize ap ((aO l).getD p [])=cp at*
      generalize wl (fun x y=>((fk es x:Nat):Int)==(fk es y:Nat)) ci cp=ef at*
      refine ws ?_;refine ay ?_;refine af (eg Zi ?_);refine bt ?_;refine bt ?_;refine dM ?_;refine bw rfl rfl (Kb rfl rfl) (fun hc=>⟨ak,trivial⟩) ?_;refine gc M9 ?_;refine ag ?_;refine cu cE (aR rfl (fun h=>aj ?_) fun h=>c7 ?_)
      .have hb:AE (bU l) (aO l) es p m=false:=by
        rw[Hz];revert h;cases (si.toList==sa.toList)<;>cases ef<;>simp
       have hr:tJ (bU l) (aO l) es ((p:Int)::C)=false:=by
        rw[Bool.eq_false_iff];intro ht;have:=bV.1 ht (m:Int) (bz hi);simp only[List.headD_cons] at this;rw[hb] at this;cases this
       rw[rG _ j6 hr];refine ag ?_;exact af (bH (cv (cv (bD (fH rfl rfl rfl)))))
      .have hb:AE (bU l) (aO l) es p m=true:=by
        rw[Hz];revert h;cases (si.toList==sa.toList)<;>cases ef<;>simp
       refine ag ?_;exact af (bh (k+1,nx) (aw eH) ⟨oM,uZ hi HT hb⟩ oM)
     .have bq:¬ k<C.length:=by simpa using h
      rw[dv oG] at HT;have hr:tJ (bU l) (aO l) es ((p:Int)::C)=true:=HT;show av _ _ _ _ _ _ _ _ _;refine ag ?_;exact af (bh (n+1,nx) (aw eH) ⟨oM,uZ hx s6 hr⟩ oM)
   .have bq:¬ n<c.length:=by simpa using h
    rw[dv oG] at s6;exact⟨⟨_,_,aw trivial⟩,s6⟩
  .rintro s ⟨⟨m,nx,dG⟩,s6⟩;rw[aiH,s6];refine⟨_,dG,aj ?_⟩;refine ag ?_;exact af (fH rfl rfl rfl)
theorem Vo{l:List au}{c:List (List Int)}(hl:l.length<=1000)(J:c.length<=100000)(C:∀ x∈c,x.length<=100000):aD prog 18 [bi l,bT c] (.aM [B (zm l c),I (cW l).2]):=by
 by_cases he:(cW l).2=0
 .have:=adv hl he J C;unfold zm
  rwa[if_pos he,he]
 .have:=acm (c:=c) hl he;unfold zm
  rwa[if_neg he]
end Go.Proofs.Tryz.K
end
namespace Go.Abs
section
variable{P:Program}{F:Nat->Prop}{fn:Func}
def JL(I:(Nat->Prop)->Mem->Nat->Prop):Prop:=∀ (S:Nat->Prop) m nx (C:Nat->Prop) m' ao,I S m nx->nx<=ao->(∀ i,i<nx->¬ S i->m' i=m i)->(∀ i,C i->S i\/(nx<=i/\i<ao))->I C m' ao
def JM(I:(Nat->Prop)->Mem->Nat->Prop):Prop:=∀ (S:Nat->Prop) m nx (q:Nat) (σ:D->D),S q->I S m nx->I S (fun j=>if j=q then none else(m j).map (Row.sub σ)) nx
def Qf(I:Nat->(Nat->Prop)->Mem->Nat->Prop)(Stop:Mem->Nat->Prop)(k:Nat)(S:Nat->Prop)(m:Mem)(nx:Nat)(d:D)(m':Mem)(C:Nat):Prop:=
 ((d=.s (.bool true)/\I (k+1) S m' C)\/(d=.s (.bool false)/\Stop m' C))/\nx<=C/\∀ i,S i->m' i=m i
def G9(P:Program)(f:FuncId)(fs cs:List D)(xs:List (List D)):Prop:=
 n3 P f=true/\∀ (F:Nat->Prop) (l:Nat) (I:Nat->(Nat->Prop)->Mem->Nat->Prop) (Stop:Mem->Nat->Prop) (m:Mem) (nx:Nat) (β:aE) (w:World) (vs:Array Value),(∀ k,JL (I k))->(∀ k,JM (I k))->se Stop->
  aK P F m β w->(∀ i,nx<=i->β i=none)->Rs F β w (fs++[.fn (.yield l) [] []]++cs) vs->
  (∀ k x S m nx,xs[k]? =some x->(∀ i,S i->i<nx)->I k S m nx->ns P F β w l x m nx (Qf I Stop k S m nx))->I 0 (fun _=>False) m nx->
  Calls P f vs w fun e w'=>∃ v d m' C β',e=.returned v/\((∃ S,I xs.length S m' C)\/Stop m' C)/\aK P F m' β' w'/\(∀ i,C<=i->β' i=none)/\R F β' w' d v/\Step β w β' w'/\nx<=C/\∀ i,i<nx->β i=none->β' i=none
def SW(J:Nat)(xs:List (List D))(I:Nat->(Nat->Prop)->Mem->Nat->Prop)(Stop:Mem->Nat->Prop):eb:=fun l args m nx dY=>
 l=J/\∃ k S,xs[k]? =some args/\(∀ i,S i->i<nx)/\I k S m nx/\∀ d m' C,Qf I Stop k S m nx d m' C->dY d m' C
instance{l:Nat}{xs:List (List D)}{I:Nat->(Nat->Prop)->Mem->Nat->Prop}{Stop:Mem->Nat->Prop}:dA (SW l xs I Stop):=⟨fun _ _ _ _ _ _ hk ⟨h1,k,S,h2,C,J,M⟩=>⟨h1,k,S,h2,C,J,fun d m nx h=>hk _ _ _ (M d m nx h)⟩⟩
theorem ab8(gW:P.follows .mixedOrders=true){f:FuncId}{c:Code}(hf:lb P f fn c){fs cs:List D}(hn:Nat.ble (fs.length+1+cs.length) fn.ntmps=true){xs:List (List D)}
 (h:∀ (l:Nat) (I:Nat->(Nat->Prop)->Mem->Nat->Prop) (Stop:Mem->Nat->Prop) (m:Mem) (nx:Nat),(∀ k,JL (I k))->(∀ k,JM (I k))->se Stop->I 0 (fun _=>False) m nx->
  AW P (SW l xs I Stop) true c (gX P fn.results.toList fun _ st=>(∃ S,I xs.length S st.mem st.nx)\/Stop st.mem st.nx) ⟨io (fs++[.fn (.yield l) [] []]++cs),m,nx⟩):G9 P f fs cs xs:=
 ⟨hf.he,fun F l I Stop m nx β w vs hI hF M hm X hR hy h0=>
  (zL gW hf.hf hf.hb hf.ah (by simpa[Nat.add_assoc,Nat.add_comm,Nat.add_left_comm] using hn) (h l I Stop m nx hI hF M h0) (fun l' args m' U K hK=>by
   obtain⟨rfl,k,S,h1,h2,C,J⟩:=hK
   exact(hy k args S m' U h1 h2 C).mono J) hm X hR).mono fun e w' ⟨v,d,st',β',h1,h2,C,J,h5,h6,h7,h8⟩=>⟨v,d,st'.mem,st'.nx,β',h1,h2,J,h5,C,h6,h7,h8⟩⟩
def AX(P:Program)(Y:eb):Code->(Exit->St->Prop)->St->Prop
 | .seq a b,Q,st=>AX P Y a (fM (fun st'=>∃ C,aL P st' C/\AX P Y b Q C) Q) st
 | .block id b,Q,st=>AX P Y b (fx id Q) st
 | .rangeFunc g ps assign body,Q,st=>(opd st.env g).ask/\∃ f fs cs xs,∃ I:Nat->Mem->Nat->Prop,(opd st.env g).core=.fn (.func f) fs cs/\G9 P f fs cs xs/\(∀ x∈xs,x.length=ps.size/\∀ d∈x,Tr d)/\I 0 st.mem st.nx/\
   (∀ k m nx x,xs[k]? =some x->I k m nx->AW P cZ false assign (Cg fun s=>AW P cZ false body (xA st.env (I (k+1)) Q) s) ⟨nj st.env ps.toList x,m,nx⟩)/\
   ∀ m nx,I xs.length m nx->Q .normal ⟨st.env,m,nx⟩
 |c,Q,st=>AW P Y true c Q st
theorem View.adl{il n₀:Nat}{f:Nat->Option Nat}{mc:Mem}{nc:Nat}{m:Mem}{nx:Nat}(h:View il n₀ f mc nc m nx){β:aE}{w:World}(hm:aK P F m β w)(hn:∀ i,nx<=i->β i=none){l:Nat}{o o':Obj}(hl:m il=some (.raw l o))
 {m':Mem} {M:Nat} {β':aE} {w':World} (fC:aK P (hidden F β f) m' β' w') (hs:pc l (β.via f) w β' w') (ic:∀ i,M<=i->β' i=none) (hle:nc<=M) (hg:∀ i,i<nc->(β.via f) i=none->β' i=none) (ho:w'.heap[l]? =some o'):
 ∃ f' J gJ C,View il n₀ f' m' M J gJ/\J il=some (.raw l o')/\aK P F J C w'/\(∀ i,gJ<=i->C i=none)/\Step β w C w'/\nx<=gJ/\(∀ i,i<nx->β i=none->C i=none)/\
  (∀ i j,f' i=some j->f i=some j\/nx<=j)/\∀ j,j<nx->j≠il->(∀ i,f i≠some j)->J j=m j:=by
 obtain⟨yG,rv,DK,ah⟩:=hm.pT hl
 let f':Nat->Option Nat:=fun i=>if i<nc then f i else if i<M then some (nx+(i - nc)) else none
 have qX:∀ i,i<nc->f' i=f i:=fun i hi=>by simp[f',hi]
 have xM:∀ i,nc<=i->i<M->f' i=some (nx+(i - nc)):=fun i h1 h2=>by simp[f',h2,Nat.not_lt.2 h1]
 have CN:∀ i,M<=i->f' i=none:=fun i h1=>by simp[f',Nat.not_lt.2 h1,Nat.not_lt.2 (Nat.le_trans hle h1)]
 have X:∀ i j,f' i=some j->(f i=some j/\i<nc/\j<nx)\/(nc<=i/\i<M/\j=nx+(i - nc)):=fun i j hf=>by
  rcases Nat.lt_or_ge i nc with h1|h1
  .rw[qX i h1] at hf;exact .inl ⟨hf,h.lY hf |>.1,(h.lY hf).2.1⟩
  .rcases Nat.lt_or_ge i M with h2|h2
   .rw[xM i h1 h2] at hf;cases hf;exact .inr ⟨h1,h2,rfl⟩
   .rw[CN i h2] at hf;cases hf
 have xN:∀ i i' j,f' i=some j->f' i'=some j->i=i':=fun i i' j h1 h2=>by
  rcases X i j h1 with⟨a1,a2,a3⟩|⟨a1,a2,a3⟩<;>rcases X i' j h2 with⟨b1,b2,b3⟩|⟨b1,b2,b3⟩
  .exact h.inj i i' j a1 b1
  .omega
  .omega
  .omega
 let inv:Nat->Option Nat:=fun j=>(range M).find? fun i=>f' i==some j
 have mF:∀ i j,inv j=some i->f' i=some j:=fun i j hi=>((EE xN).1 i hi).1;have yj:∀ i j,f' i=some j->inv j=some i:=fun i j hf=>(EE xN).2 i (by rcases X i j hf with h1|h1<;>omega) hf
 have Ld:∀ j,inv j=none->∀ i,f i≠some j:=fun j hj i hf=>by
  have:=yj i j (by rw[qX i (h.lY hf).1];exact hf);rw[hj] at this;cases this
 let C:aE:=fun j=>match inv j with|some i=>β' i|none=>β j
 let J:Mem:=fun j=>match inv j with|some i=>(m' i).map (Row.lX f')|none=>if j=il then some (.raw l o') else m j
 have βs:∀ i j,f' i=some j->C j=β' i:=fun i j hf=>by simp[C,yj i j hf]
 have βn:∀ j,inv j=none->C j=β j:=fun j hj=>by simp[C,hj]
 have J8:inv il=none:=by
  cases hi:inv il with
  |none=>rfl
  |some i=>
   rcases X i il (mF i il hi) with⟨a1,a2,a3⟩|⟨a1,a2,a3⟩
   .exact absurd rfl (h.lY a1).2.2
   .have:=h.lt;omega
 have via:C.via f'=β':=by
  funext i;simp only[aE.via];cases hf:f' i with
  |some j=>exact βs i j hf
  |none=>
   rcases Nat.lt_or_ge i M with h1|h1
   .rcases Nat.lt_or_ge i nc with h2|h2
    .obtain⟨j,h3,_⟩:=h.wC i h2;rw[qX i h2,h3] at hf;cases hf
    .rw[xM i h2 h1] at hf;cases hf
   .exact(ic i h1).symm
 have look:∀ j p,C j=some p->(∃ i,inv j=some i/\f' i=some j/\β' i=some p)\/(inv j=none/\β j=some p):=fun j p hp=>by
  cases hi:inv j with
  |some i=>exact .inl ⟨i,rfl,mF i j hi,by rw[<- βs i j (mF i j hi)];exact hp⟩
  |none=>exact .inr ⟨rfl,by rw[<- βn j hi];exact hp⟩
 have Le:∀ b,β.free b->b≠l:=fun b hb e=>hb il _ yG (e▸rfl)
 have dd:∀ b,b<w.heap.size->β.free b->w'.heap[b]? =w.heap[b]? /\C.free b:=fun b hb hf=>by
  obtain⟨h1,h2⟩:=hs.dd b hb (Le b hf) (aE.oZ hf f);refine⟨h1,fun j p hp=>?_⟩;rcases look j p hp with⟨i,_,_,U⟩|⟨_,U⟩
  .exact h2 i p U
  .exact hf j p U
 have keep:∀ j p,β j=some p->C j=some p\/C j=some .dead:=fun j p hp=>by
  cases hi:inv j with
  |none=>exact .inl ((βn j hi).trans hp)
  |some i=>
   have hf:=mF i j hi;rw[βs i j hf];rcases X i j hf with⟨a1,a2,a3⟩|⟨a1,a2,a3⟩
   .exact hs.keep i p (by simp[aE.via,a1,hp])
   .rw[hn j oG] at hp;cases hp
 have own:∀ j p b,inv j=none->β j=some p->p.bG=some b->hidden F β f b/\(b≠l->b<w.heap.size/\w'.heap[b]? =w.heap[b]?):=fun j p b hj hp hb=>by
  obtain⟨h1,h2⟩:=h.vj hm (Ld j hj) hp hb;exact⟨h2,fun aG=>⟨hm.lt j p b hp hb,(hs.dd b (hm.lt j p b hp hb) aG h1).1⟩⟩
 refine⟨f',J,nx+(M - nc),C,⟨Nat.le_trans h.low hle,by have:=h.lt;omega,fun i hi=>?_,fun i hi=>?_,CN,xN,fun i r hi=>?_⟩,?_,⟨fun j r hj=>?_,fun i j p q b hp hq e e'=>?_,fun j p b hp e=>?_,fun j p b hp e hF=>?_,?_⟩,fun i hi=>?_,⟨hs.size,dd,keep,hs.out⟩,oG,fun i hi hb=>?_,fun i j hf=>?_,fun j hj aG iU=>?_⟩
 .rw[qX i (Nat.lt_of_lt_of_le hi h.low)];exact h.id i hi
 .rcases Nat.lt_or_ge i nc with h1|h1
  .obtain⟨j,h2,h3,U⟩:=h.wC i h1;exact⟨j,by rw[qX i h1];exact h2,oG,U⟩
  .exact⟨_,xM i h1 hi,oG,by have:=h.lt;omega⟩
 .obtain⟨p,hp,_⟩:=fC.row i r hi
  have:∃ j,f' i=some j:=by
   rw[<- via] at hp;obtain⟨j,h1,_⟩:=Option.bind_eq_some_iff.1 hp;exact⟨j,h1⟩
  obtain⟨j,hj⟩:=this;exact⟨j,hj,by simp[J,yj i j hj,hi]⟩
 .simp[J,J8]
 .cases hi:inv j with
  |some i=>
   simp only[J,hi,cU] at hj;obtain⟨r0,wD,rfl⟩:=hj;obtain⟨p,hp,hr⟩:=fC.row i r0 wD;refine⟨p,(βs i j (mF i j hi)).trans hp,cB.GY (F':=hidden F β f) (by rw[via];exact hr) (fun b hb=>.inl hb) fun b g1 g2=>?_⟩;obtain⟨k,q,hq,yH⟩:=I6 g1;rcases look k q hq with⟨i',_,_,U⟩|⟨h3,U⟩
   .exact absurd yH (g2 i' q (by rw[via];exact U))
   .exact(own k q b h3 U yH).1
  |none=>
   simp only[J,hi] at hj;split at hj
   .rename_i e;subst e;cases hj;exact⟨.raw l,(βn j hi).trans yG,.raw l o' ho⟩
   .rename_i aG;obtain⟨p,hp,hr⟩:=hm.row j r hj;refine⟨p,(βn j hi).trans hp,hr.gen hs.size (fun b hb g1 g2=>⟨tE (dd b hb g2).1,(dd b hb g2).2,g1⟩) (fun i p _=>keep i p) fun b hb=>?_⟩;exact((own j p b hi hp hb).2 fun e=>aG (hm.inj j il p _ b hp yG hb (e▸rfl))).2
 .rcases look i p hp with⟨i',a1,a2,a3⟩|⟨a1,a2⟩<;>rcases look j q hq with⟨j',b1,b2,b3⟩|⟨b1,b2⟩
  .have:=fC.inj i' j' p q b a3 b3 e e';subst this;rw[a2] at b2;cases b2;rfl
  .exact absurd (own j q b b1 b2 e').1 (fC.nf i' p b a3 e)
  .exact absurd (own i p b a1 a2 e).1 (fC.nf j' q b b3 e')
  .exact hm.inj i j p q b a2 b2 e e'
 .rcases look j p hp with⟨i',a1,a2,a3⟩|⟨a1,a2⟩
  .exact fC.lt i' p b a3 e
  .exact Nat.lt_of_lt_of_le (hm.lt j p b a2 e) hs.size
 .rcases look j p hp with⟨i',a1,a2,a3⟩|⟨a1,a2⟩
  .exact fC.nf i' p b a3 e (.inl hF)
  .exact hm.nf j p b a2 e hF
 .exact hm.fb.next (fun b hb=>Nat.lt_of_lt_of_le (hm.fb.lt b hb) hs.size) (fun _ h=>h) fun t _ hF=>(dd _ (hm.fb.lt _ hF) fun i p hp e=>hm.nf i p _ hp e hF).1
 .cases cx:inv i with
  |none=>exact(βn i cx).trans (hn i oG)
  |some i0=>
   rcases X i0 i (mF i0 i cx) with⟨a1,a2,a3⟩|⟨a1,a2,a3⟩<;>omega
 .cases cx:inv i with
  |none=>exact(βn i cx).trans hb
  |some i0=>
   have hf:=mF i0 i cx;rw[βs i0 i hf];rcases X i0 i hf with⟨a1,a2,a3⟩|⟨a1,a2,a3⟩
   .exact hg i0 a2 (by simp[aE.via,a1,hb])
   .omega
 .rcases X i j hf with⟨a1,_,_⟩|⟨_,_,a3⟩
  .exact .inl a1
  .exact .inr oG
 .have hi:inv j=none:=by
   cases hi:inv j with
   |none=>rfl
   |some i=>
    rcases X i j (mF i j hi) with⟨a1,_,_⟩|⟨_,_,a3⟩
    .exact absurd a1 (iU i)
    .omega
  simp[J,hi,aG]
theorem View.ahb{il n₀:Nat}{f:Nat->Option Nat}{mc:Mem}{nc:Nat}{m m':Mem}{nx J:Nat}(h:View il n₀ f mc nc m nx)(C:nx<=J)(he:∀ i j,f i=some j->m' j=m j):View il n₀ f mc nc m' J:=
 ⟨h.low,Nat.lt_of_lt_of_le h.lt C,h.id,fun i hi=>by
  obtain⟨j,h1,h2,M⟩:=h.wC i hi;exact⟨j,h1,oG,M⟩,h.out,h.inj,fun i r hi=>by
  obtain⟨j,h1,h2⟩:=h.rows i r hi
  exact⟨j,h1,(he i j h1).trans h2⟩⟩
def xi(il l:Nat)(n₀:Nat)(o:Obj)(I:Mem->Nat->Prop)(S:Nat->Prop)(m:Mem)(nx:Nat):Prop:=∃ f mc nc,View il n₀ f mc nc m nx/\m il=some (.raw l o)/\I mc nc/\¬ S il/\∀ i j,f i=some j->¬ S j
theorem xi.closed{il l n₀:Nat}{o:Obj}{I:Mem->Nat->Prop}:JL (xi il l n₀ o I):=by
 rintro S m nx X m' ao ⟨f,mc,nc,h1,h2,U,J,M⟩ C he hs;refine⟨f,mc,nc,h1.ahb C fun i j hf=>he j (h1.lY hf).2.1 (M i j hf),(he il h1.lt J).trans h2,U,fun e=>?_,fun i j hf e=>?_⟩
 .rcases hs il e with h|h
  .exact J h
  .have:=h1.lt;omega
 .rcases hs j e with h|h
  .exact M i j hf h
  .have:=(h1.lY hf).2.1;omega
theorem aav(f:Nat->Option Nat)(σ:D->D)(r:Row):(r.lX f).sub σ=r.lX f:=by cases r<;>rfl
theorem xi.nV{il l n₀:Nat}{o:Obj}{I:Mem->Nat->Prop}:JM (xi il l n₀ o I):=by
 rintro S m nx q σ hq ⟨f,mc,nc,h1,h2,U,C,J⟩;have M:il≠q:=fun e=>C (e▸hq);refine⟨f,mc,nc,⟨h1.low,h1.lt,h1.id,h1.wC,h1.out,h1.inj,fun i r hi=>?_⟩,?_,U,C,J⟩
 .obtain⟨j,a1,a2⟩:=h1.rows i r hi;refine⟨j,a1,?_⟩;have hj:j≠q:=fun e=>J i j a1 (e▸hq);simp only[if_neg hj,a2,Option.map_some,aav]
 .simp only[if_neg M,h2,Option.map_some];rfl
theorem aaw(gW:P.follows .mixedOrders=true):∀ (c:Code) (F:Nat->Prop) (n:Nat) (Y:eb) (N₀:Nat) (β₀:aE) (w₀:World) (a₀:Act),
 (∀ l args m nx K,Y l args m nx K->ns P F β₀ w₀ l args m nx K)->gA a₀.tmps.size c=true->∀ (Q:Exit->St->Prop) (st:St) (β:aE) (w:World) (a:Act),
 AX P Y c Q st->ek P F st β w a->oE N₀ β₀ w₀ a₀ st β w a->c.wpIn (Fe none) n P (SE P F N₀ β₀ w₀ a₀ Q) a w:=by
 intro c
 induction c with
 |seq x y Bb Bc=>
  intro F n Y N₀ β₀ w₀ a₀ hY ah Q st β w a h hs cn;simp only[gA,ba] at ah;refine wpIn_seq (wpIn_mono (Bb F n Y N₀ β₀ w₀ a₀ hY ah.1 _ st β w a h hs cn) fun e a' w' hp=>?_);obtain⟨st',β',hq,cK,dK⟩:=hp;cases e with
  |normal=>
   obtain⟨fK,hg,hy⟩:=hq;obtain⟨dS,pi,CO⟩:=Ij hg cK;exact Bc F n Y N₀ β₀ w₀ a₀ hY ah.2 Q fK dS w' a' hy pi (dK.since CO)
  |_=>exact⟨st',β',hq,cK,dK⟩
 |block id b ih=>
  intro F n Y N₀ β₀ w₀ a₀ hY ah Q st β w a h hs cn;refine wpIn_block (wpIn_mono (ih F n Y N₀ β₀ w₀ a₀ hY ah _ st β w a h hs cn) fun e a' w' hp=>?_);obtain⟨st',β',hq,cK,dK⟩:=hp;cases e with
  |exit i=>
   simp only[fx] at hq;simp only[Exit.inBlock];split at hq
   .rename_i hi;rw[if_pos hi];exact⟨st',β',hq,cK,dK⟩
   .rename_i hi;rw[if_neg hi];exact⟨st',β',hq,cK,dK⟩
  |_=>exact⟨st',β',hq,cK,dK⟩
 |rangeFunc g ps assign body uC uD=>
  intro F n Y N₀ β₀ w₀ a₀ hY ah Q st β w a h hs cn;obtain⟨env,mem,nx⟩:=st;obtain⟨iI,f,fs,cs,xs,I,tZ,yk,xO,yI,tQ,xP⟩:=h;simp only at iI tZ yI tQ xP;simp only[gA,ba,bV,Nat.blt_eq] at ah;obtain⟨ry,Lg,Lh⟩:=ah;have bC:a.tmps.size=a₀.tmps.size:=cn.size;have hR:=(hs.e.opd g).tD _ iI;simp only[tZ] at hR;refine wpIn_rangeFunc fun fn ru=>?_;obtain⟨C,kz⟩:∃ C:LoopState->Option Code->Loop,C=fun st pe=>{ state:=st,pending:=pe,fn,tmps:=a.tmps,params:=ps,assign,body,defers:=w.heap.size }:=⟨_,rfl⟩
  obtain⟨U,rz⟩:∃ U,(w.alloc (.deferred (some []))).alloc (.loop (C .ready none))=U:=⟨_,rfl⟩
  obtain⟨us,vs,d,yJ,oF,hu,hv,lZ,hinv⟩:=NR (P:=P) hR yk.1 (w.heap.size+1) U;have hn:∀ i,nx<=i->β i=none:=hs.n;have uE:∀ t∈uk,t.1≠w.heap.size+1:=fun t ht e=>by have:=hs.m.fb.lt _ (hs.m.fb.ma t ht).1;omega
  have DK:¬ F (w.heap.size+1):=fun e=>by have:=hs.m.fb.lt _ e;omega
  let X:Nat->Option Nat:=fun i=>if i<nx then some i else none
  have Dk:β.via X=β:=by
   funext i;simp only[aE.via,X];split
   .rfl
   .exact(hn i oG).symm
  have kH:aK P F (fun i=>(mem i).map (Row.lX X)) β w:=⟨fun i r hi=>by
   simp only[cU] at hi;obtain⟨r0,h1,rfl⟩:=hi;obtain⟨p,hp,hr⟩:=hs.m.row i r0 h1
   exact⟨p,hp,cB.GY (F':=F) (by rw[Dk];exact hr) (fun _ h=>h) fun b g1 g2=>absurd (Dk▸g2) g1⟩,hs.m.inj,hs.m.lt,hs.m.nf,hs.m.fb⟩
  have uF:Step β w β (w.alloc (.deferred (some []))):=zJ oS fun b hb=>heap_alloc_old w _ hb;have iP:aK P F (fun i=>(mem i).map (Row.lX X)) β (w.alloc (.deferred (some []))):=kH.ext oS fun b hb=>heap_alloc_old w _ hb
  have Mg:aK P F (up (fun i=>(mem i).map (Row.lX X)) nx (some (.raw (w.heap.size+1) (.loop (C .ready none))))) (up β nx (some (.raw (w.heap.size+1)))) U:=by
   rw[<- rz];refine iP.alloc (hn nx (bc _)) _ _ _ (fun b hb=>by simp only[Pl.bG,aH] at hb;simp;omega) (.raw _ _ ?_);have:=World.alloc_heap_new (w.alloc (.deferred (some []))) (.loop (C .ready none))
   rwa[World.size_alloc] at this
  have mO:Step β w (up β nx (some (.raw (w.heap.size+1)))) U:=by
   rw[<- rz];exact uF.trans (zA iP _ (hn nx (bc _)) _ (fun b hb=>by simp only[Pl.bG,aH] at hb;simp;omega))
  have Mh:U.heap[w.heap.size]? =some (.deferred (some [])):=by
   rw[<- rz];rw[heap_alloc_old _ _ oS];exact World.alloc_heap_new w _
  have Cu:aE.free (up β nx (some (.raw (w.heap.size+1)))) w.heap.size:=
   qD (fun i p hp e=>by have:=hs.m.lt i p _ hp e;omega) (by rintro q hq;cases hq;simp[Pl.bG])
  have ag1:U.heap.size=w.heap.size+2:=by rw[<- rz];simp
  have Jz:∀ i,nx<=i->mem i=none:=fun i hi=>by
   cases hm:mem i with
   |none=>rfl
   |some row=>
    obtain⟨p,hp,_⟩:=hs.m.row i row hm;rw[hn i hi] at hp;cases hp
  have own:∀ {f:Nat->Option Nat} {mc:Mem} {nc:Nat} {m:Mem} {gL:Nat} {M:aE} {w2:World},View nx nx f mc nc m gL->Step (up β nx (some (.raw (w.heap.size+1)))) U M w2->
   ∀ {d:D} {v:Value},R F β w d v->R (hidden F M f) (M.via f) w2 d v:=fun {_ _ _ _ _ _ _} J c8 {d v} h=>by
   have yl:=mO.trans c8;refine h.gen yl.size (fun b hb hf kZ=>?_) fun i p _ hp=>?_
   .obtain⟨g1,g2⟩:=yl.dd b hb kZ;exact⟨tE g1,aE.oZ g2 _,fun e=>e.elim hf fun e=>e.1 g2⟩
   .have hi:i<nx:=by
     rcases Nat.lt_or_ge i nx with h1|h1
     .exact h1
     .rw[hn i h1] at hp;cases hp
    simp only[aE.via,J.id i hi,Option.bind_some];exact yl.keep i p hp
  refine⟨w.heap.size+1,[mark w.heap.size],U,d,U,f,_,U,?_,lZ,fun f' _=>trivial,hinv,fun hd=>by simp at hd,I7 ?_⟩
  .rw[<- rz,kz];exact run_enterLoop_outer _ _ _ _ _
  refine(yk.2 F (w.heap.size+1) (fun k S=>xi nx (w.heap.size+1) nx (.loop (C .ready none)) (I k) S) (fun m k=>∃ c,vu nx (w.heap.size+1) nx (.loop (C .done (some c))) (Jump env Q c) m k)
   (up (fun i=>(mem i).map (Row.lX X)) nx (some (.raw (w.heap.size+1) (.loop (C .ready none))))) (nx+1) (up β nx (some (.raw (w.heap.size+1)))) U _ (fun k=>xi.closed) (fun k=>xi.nV) ?_ Mg ?_ ?_ ?_ ?_).mono ?_
  .rintro m k m' k' ⟨c,hc⟩ hle he;exact⟨c,vu.closed m k m' k' hc hle he⟩
  .intro i hi;rw[aB _ _ (show i≠nx by omega)];exact hn i oG
  .refine Rs.append (Rs.append ?_ ?_) ?_
   .exact⟨by simp[yJ],fun k d v hd hv=>(hu k d v hd (by simpa using hv)).step mO⟩
   .refine⟨rfl,fun k d v hd hv=>?_⟩;cases k with
    |zero=>
     simp only[List.getElem?_cons_zero,aH] at hd;simp only[List.getElem?_toArray,List.getElem?_cons_zero,aH] at hv;subst hd;subst hv;exact .fn _ [] [] [] [] rfl rfl oS oS
    |succ k=>simp at hd
   .exact⟨by simp[oF],fun k d v hd DL=>(hv k d v hd (by simpa using DL)).step mO⟩
  .rintro k x S m k' hx TT ⟨g,mc,nc,J,eD,Mi,TU,U0⟩ M w2 uG Li ie Hv uH;obtain⟨DM,qY,_,ym⟩:=ie.pT eD;have Lj:uG.size=ps.size:=by rw[uH.1];exact(xO x (bz hx)).1
   have hy:=run_yield (P:=P) (args:=uG) qY (by rw[kz];exact Lj);simp only[kz,Pc] at hy;refine⟨fn,_,assign,body,hy,fun n'=>?_⟩;obtain⟨yK,j3⟩:=J.enter ie;have rA:hidden F M g (w.heap.size+1):=(J.vj ie (fun i e=>(J.lY e).2.2 rfl) DM rfl).2;have Cv:(M.via g).free (w.heap.size+1):=(J.vj ie (fun i e=>(J.lY e).2.2 rfl) DM rfl).1;have Mj:gI (hidden F M g) (M.via g) w2 env { tmps:=a.tmps,defers:=[] }:=fun t=>own J Li (hs.e t)
   obtain⟨Mk,Dl⟩:=Ip ps.toList x uG.toList env a.tmps (by simp[uH.1]) (fun j d v hd hv=>
    ((xO x (bz hx)).2 d (bz hd) F M w2 v (uH.2 j d v hd (by simpa using hv))).gen (bc _)
     (fun b _ hb _=>⟨ku.refl _ b,aE.oZ (u6 hb).2 _,fun e=>e.elim (u6 hb).1 fun e=>e.1 (u6 hb).2⟩) (fun i p _ hp=>by cases hp)) (fun t ht=>by rw[bC];exact ry t ht) Mj
   have Lk:=ER gW assign (hidden F M g) (some (w.heap.size+1)) n' cZ false nc (M.via g) w2
    { tmps:=(ps.toList.zip uG.toList).foldl (fun tmps (t,a)=>tmps.setIfInBounds t a) a.tmps,defers:=[] } oS (fun _ _ _ _ _ h=>h.elim) (by show gA (Array.size _) assign=true;rw[Dl,bC];exact Lg) _ ⟨nj env ps.toList x,mc,nc⟩ (M.via g) w2 _
    (tQ k mc nc x hx Mi) ⟨Mk,yK,j3⟩ (fX.refl ⟨nj env ps.toList x,mc,nc⟩ _ _ _).yF
   refine roundIn_of_wpIn trivial (wpIn_mono Lk fun e a3 w3 hp=>?_);obtain⟨iu,β3,yL,Bd,gu⟩:=hp;cases e with
   |normal=>
    have xQ:w.heap.size+1<w3.heap.size:=Nat.lt_of_lt_of_le ym gu.step.size;have Kz:w3.heap[w.heap.size+1]? =some (.loop (C .ready none)):=(gu.step.dd _ ym Cv).1.trans qY;refine⟨_,run_beginRound Kz (by rw[kz]),?_⟩;have Ll:=Bd.om (l:=w.heap.size+1) rA uE (.loop { C .ready none with state:=.busy });have KA:=ER gW body (hidden F M g) (some (w.heap.size+1)) n' cZ false iu.nx β3 _ a3 oS (fun _ _ _ _ _ h=>h.elim) (by rw[gu.size];show gA (Array.size _) body=true;rw[Dl,bC];exact Lh) _ iu β3 _ a3 yL Ll (fX.refl iu _ _ _).yF;refine wpIn_mono KA fun e a4 w4 Ml=>?_;obtain⟨DN,β4,uI,DO,ql⟩:=Ml;have KB:w.heap.size+1<w4.heap.size:=Nat.lt_of_lt_of_le (by simpa using xQ) ql.step.size
    have KC:w4.heap[w.heap.size+1]? =some (.loop { C .ready none with state:=.busy }):=
     (ql.step.dd _ (by simpa using xQ) (gu.step.dd _ ym Cv).2).1.trans (World.putObj_heap_same xQ)
    have fin:∀ (jump:Option Code) (K:D->Mem->Nat->Prop),(∀ f' dL gJ,View nx nx f' DN.mem DN.nx dL gJ->dL nx=some (.raw (w.heap.size+1) (.loop (C (if jump.isNone then .ready else .done) jump)))->k'<=gJ->(∀ i,S i->dL i=m i)->(∀ i j,f' i=some j->¬ S j)->K (.s (.bool jump.isNone)) dL gJ)->
     ∃ v w',(Instr.endRound (w.heap.size+1) jump).run P w4=.ok v w'/\∃ v' d m' ao β',Ending.returned v=.returned v'/\K d m' ao/\aK P F m' β' w'/\(∀ i,ao<=i->β' i=none)/\R F β' w' d v'/\Step M w2 β' w'/\k'<=ao/\∀ i,i<k'->M i=none->β' i=none:=fun jump K hK=>by
     have di:=run_endRound (P:=P) jump KC;have e1:∀ s p,({ ({ C .ready none with state:=.busy }:Loop) with state:=s,pending:=p }:Loop)=C s p:=fun s p=>by rw[kz]
     rw[e1] at di
     obtain⟨f',dL,gJ,dS,v1,v2,v3,v4,v5,v6,v7,v8,v9⟩:=J.adl ie Hv eD (o':=.loop (C (if jump.isNone then .ready else .done) jump)) (DO.m.om rA uE _)
      (((gu.step.x _).trans (pc.put _ β3 w3 _)).trans ((ql.step.x _).trans (pc.put _ β4 w4 _))) DO.n (Nat.le_trans gu.le ql.le) (fun i hi hb=>ql.grow i (Nat.lt_of_lt_of_le hi gu.le) (gu.grow i hi hb)) (World.putObj_heap_same KB)
     exact⟨_,_,di,.bool jump.isNone,_,dL,gJ,dS,rfl,hK f' dL gJ v1 v2 v6 (fun i hi=>v9 i (TT i hi) (fun e=>TU (e▸hi)) fun j hj=>U0 j i hj hi) (fun i j hf hj=>(v8 i j hf).elim (fun h=>U0 i j h hj) fun h=>by have:=TT j hj;omega),v3,v4,.s _ rfl,v5,v6,v7⟩
    cases e with
    |normal=>exact fin none _ fun f' dL gJ v1 v2 v6 v8 v9=>⟨.inl ⟨rfl,f',_,_,v1,v2,uI,TU,v9⟩,v6,v8⟩
    |ret=>exact fin (some .ret) _ fun f' dL gJ v1 v2 v6 v8 _=>⟨.inr ⟨rfl,.ret,f',_,_,v1,v2,uI⟩,v6,v8⟩
    |exit id=>exact fin (some (.exit id)) _ fun f' dL gJ v1 v2 v6 v8 _=>⟨.inr ⟨rfl,.exit id,f',_,_,v1,v2,uI⟩,v6,v8⟩
    |_=>exact uI.elim
   |_=>exact yL.elim
  .refine⟨X,mem,nx,⟨bc _,oG,fun i hi=>by simp[X,hi],fun i hi=>⟨i,by simp[X,hi],oG,oG⟩,fun i hi=>by simp[X,Nat.not_lt.2 hi],fun i i' j h1 h2=>?_,fun i r hi=>?_⟩,al _ _ _,yI,id,fun _ _ _=>id⟩
   .simp only[X,Option.ite_none_right_eq_some,aH] at h1 h2;omega
   .have ah:i<nx:=by
     rcases Nat.lt_or_ge i nx with h1|h1
     .exact h1
     .rw[Jz i h1] at hi;cases hi
    exact⟨i,by simp[X,ah],by rw[aB _ _ (show i≠nx by omega),hi];rfl⟩
  .rintro e w6 ⟨v,d6,m6,Mm,β6,rfl,Dm,pv,hn6,_,kB,ag2,Lm⟩
   have fin:∀ {g:Nat->Option Nat} {mc:Mem} {nc:Nat} (o':Obj),View nx nx g mc nc m6 Mm->
    ek P F ⟨env,mc,nc⟩ (β6.via g) (w6.putObj (w.heap.size+1) o') { a with defers:=[mark w.heap.size]++a.defers }/\
    oE N₀ β₀ w₀ a₀ ⟨env,mc,nc⟩ (β6.via g) (w6.putObj (w.heap.size+1) o') { a with defers:=[mark w.heap.size]++a.defers }:=fun {g mc nc} o' J=>by
    obtain⟨yK,j3⟩:=J.enter pv
    have rA:hidden F β6 g (w.heap.size+1):=by
     have hβ:β6 nx=some (.raw (w.heap.size+1))\/β6 nx=some .dead:=kB.keep nx _ (al _ _ _);rcases hβ with hβ|hβ
     .exact(J.vj pv (fun i e=>(J.lY e).2.2 rfl) hβ rfl).2
     .exfalso;rcases Dm with⟨_,f',Mn,gq,_,yn,_,_⟩|⟨c,f',Mn,gq,_,yn,_⟩
      .rw[(pv.pT yn).1] at hβ;cases hβ
      .rw[(pv.pT yn).1] at hβ;cases hβ
    refine⟨⟨fun t=>((own J kB (hs.e t)).om rA o').nD fun b hb=>.inl hb,(yK.om rA uE o').nD (fun b hb=>.inl hb) fun t ht=>(hs.m.fb.ma t ht).1,j3⟩,cn.trans ⟨⟨?_,fun b hb hf=>?_,fun i p hp=>?_,(mO.out.trans kB.out).trans ⟨rfl,rfl⟩⟩,J.low,fun i hi hb=>?_,rfl,[mark w.heap.size],rfl,?_⟩⟩
    .have:=kB.size;simp;omega
    .obtain⟨g1,g2⟩:=mO.dd b hb hf;obtain⟨g3,g4⟩:=kB.dd b oG g2;exact⟨(World.putObj_heap_other oG).trans (g3.trans g1),aE.oZ g4 _⟩
    .have hi:i<nx:=by
      rcases Nat.lt_or_ge i nx with h1|h1
      .exact h1
      .rw[hn i h1] at hp;cases hp
     simp only[aE.via,J.id i hi,Option.bind_some];exact(mO.trans kB).keep i p hp
    .have hi:i<nx:=hi;simp only[aE.via,J.id i hi,Option.bind_some];exact Lm i oG (by rw[aB _ _ oG];exact hb)
    .refine⟨w.heap.size,rfl,bc _,?_,?_,?_,trivial⟩
     .have:=kB.size;simp;omega
     .exact(World.putObj_heap_other oG).trans ((kB.dd _ oG Cu).1.trans Mh)
     .exact aE.oZ (kB.dd _ oG Cu).2 _
   rcases Dm with⟨_,g,mc,nc,J,eD,hI,_⟩|⟨c,g,mc,nc,J,eD,hj⟩
   .have di:(Instr.endLoop (w.heap.size+1)).run P w6=.ok none (w6.putObj (w.heap.size+1) (.loop (C .exhausted none))):=by
     have:=run_endLoop (P:=P) (pv.pT eD).2.1 (by rw[kz];simp);rw[kz] at this ⊢;exact this
    obtain⟨g1,g2⟩:=fin (.loop (C .exhausted none)) J;exact⟨none,_,di,⟨env,mc,nc⟩,_,xP mc nc hI,g1,g2⟩
   .have di:(Instr.endLoop (w.heap.size+1)).run P w6=.ok (some c) (w6.putObj (w.heap.size+1) (.loop (C .exhausted (some c)))):=by
     have:=run_endLoop (P:=P) (pv.pT eD).2.1 (by rw[kz];simp);rw[kz] at this ⊢;exact this
    obtain⟨g1,g2⟩:=fin (.loop (C .exhausted (some c))) J;refine⟨some c,_,di,?_⟩;cases c with
    |ret=>exact wpIn_ret ⟨⟨env,mc,nc⟩,_,hj,g1,g2⟩
    |exit id=>exact wpIn_exit ⟨⟨env,mc,nc⟩,_,hj,g1,g2⟩
    |_=>exact hj.elim
 |_=>exact fun F n Y N₀ β₀ w₀ a₀ hY ah Q st β w a h hs cn=>ER gW _ F none n Y true N₀ β₀ w₀ a₀ (fun _=>rfl) hY ah Q st β w a h hs cn
theorem aax(gW:P.follows .mixedOrders=true){Y:eb}{f:FuncId}{c:Code}(hf:P.funcs[f]? =some fn)(hb:fn.body=some c)(ah:gA fn.ntmps c=true){args:List D}(hn:Nat.ble args.length fn.ntmps=true){m:Mem}{nx:Nat}{K:D->St->Prop}
 (h:AX P Y c (gX P fn.results.toList K) ⟨io args,m,nx⟩) {β:aE} {w:World} {vs:Array Value} (hY:∀ l args m nx K,Y l args m nx K->ns P F β w l args m nx K) (hm:aK P F m β w) (cC:∀ i,nx<=i->β i=none) (C:Rs F β w args vs):
 Calls P f vs w fun e w'=>∃ v d st' β',e=.returned v/\K d st'/\R F β' w' d v/\aK P F st'.mem β' w'/\(∀ i,st'.nx<=i->β' i=none)/\Step β w β' w'/\nx<=st'.nx/\∀ i,i<nx->β i=none->β' i=none:=by
 have hle:args.length<=fn.ntmps:=by simpa using hn
 refine(callsIn_wide (n:=0)).1 (callsIn_of_wp_marks hf hb trivial ?_)
 have bC:(vs++Array.replicate (fn.ntmps - vs.size) undef).size=fn.ntmps:=by
  simp only[Array.size_append,Array.size_replicate,C.1];omega
 let a₀:Act:={ tmps:=vs++Array.replicate (fn.ntmps - vs.size) undef,defers:=[] }
 have hE:gI F β w (io args) a₀:=fun t=>by
  unfold io;rcases Nat.lt_or_ge t args.length with ah|bq
  .have h1:args.getD t .u=args[t]:=by simp[ah]
   have h2:a₀.tmps.getD t undef=vs[t]'(by rw[C.1];exact ah):=by
    show(vs++Array.replicate (fn.ntmps - vs.size) undef).getD t undef=_;have U:t<vs.size:=by rw[C.1];exact ah
    simp[Array.getD_eq_getD_getElem?,Array.getElem?_append_left U,U]
   rw[h1,h2];exact C.2 t _ _ (by simp[ah]) (by simp[C.1,ah])
  .have h1:args.getD t .u=.u:=by simp[bq]
   rw[h1];exact .u _
 have:=aaw gW c F 0 Y nx β w a₀ hY (by show gA (vs++Array.replicate (fn.ntmps - vs.size) undef).size c=true;rw[bC];exact ah) _ ⟨io args,m,nx⟩ β w a₀ h ⟨hE,hm,cC⟩ (fX.refl ⟨io args,m,nx⟩ β w a₀).yF;refine wpIn_mono this fun e a' w' hp=>?_;obtain⟨st',β',hq,cK,J⟩:=hp
 have X:(nH P st' fn.results.toList [] fun ds=>K (p7 ds) st')->LeavesInM (Fe none) 0 P fn a'.tmps (fun e w'=>∃ v d st' β',e=.returned v/\K d st'/\R F β' w' d v/\aK P F st'.mem β' w'/\(∀ i,st'.nx<=i->β' i=none)/\Step β w β' w'/\nx<=st'.nx/\∀ i,i<nx->β i=none->β' i=none) a'.defers .returning w':=fun hq=>by
  obtain⟨ds,h1,h2⟩:=J.defers;rw[h1,show a₀.defers=[] from rfl,List.append_nil];refine Ig ds _ w' h2 cK J.step fun w'' M KI=>?_;obtain⟨v,d,g1,g2,g3⟩:=N3 (K:=fun d=>K d st') M hq;exact⟨v,g1,v,d,st',β',rfl,g2,g3,M.m,M.n,KI,J.le,J.grow⟩
 cases e with
 |normal=>exact X hq
 |ret=>exact X hq
 |_=>exact hq.elim
theorem aay(C:P.follows .mixedOrders=true){f:FuncId}{c:Code}(hf:lb P f fn c){args:List D}(hn:Nat.ble args.length fn.ntmps=true)(ht:∀ a∈args,Tr a){r:D}(hr:Tr r)
 (h:AX P cZ c (gX P fn.results.toList fun d _=>d=r) ⟨io args,fun _=>none,0⟩):aD P f args r:=
 ⟨hf.he,ht,fun F w vs U X=>(aax C hf.hf hf.hb hf.ah hn h (fun _ _ _ _ _ h=>h.elim) (EG U) (fun _ _=>rfl) X).mono fun e w' hp=>by
  obtain⟨v,d,st',β',h1,rfl,J,h4,h5,M,h7,h8⟩:=hp
  exact⟨v,h1,hr.At J,Er M⟩⟩
end
end Go.Abs
section
open Go Go.Abs Go.Proofs Go.Argus
namespace Go.Argus
def fI(x:PW):List D:=[I x.1.1,I x.1.2,aQ (ap x.2)]
@[simp] theorem OQ (x : PW) : (fI x).length = 3 := rfl
theorem EO:∀ l:List PW,(l.flatMap fI).length=l.length*3
 |[]=>rfl
 |x::l=>by rw[List.flatMap_cons,List.length_append,EO l,OQ,List.length_cons];omega
theorem OR(pre O:List PW):((pre++O).flatMap fI).drop (pre.length*3)=O.flatMap fI:=by
 rw[List.flatMap_append, <- EO pre,List.drop_left]
theorem IW{X:Nat->Prop}(x:PW):∀ d∈fI x,fJ X d:=fun d hd=>by
 simp only[fI,List.mem_cons,List.not_mem_nil,or_false] at hd;rcases hd with rfl|rfl|rfl<;>first|exact .s _|exact .sl _ _
def og(p:Nat×Nat):Value:=.agg #[.int .i64 p.1,.int .i64 p.2]
def l8(S:List (Nat×Nat)):List (Value×D):=S.map fun p=>(og p,B true)
theorem Iy{X:Nat->Prop}(S:List (Nat×Nat)):lK X (.map (l8 S)):=fun i cs sz _=>by
 simp[Row.sub,l8,sub,pg,cJ]
def CI(x:PW):List D:=[.agg [I x.1.1,I x.1.2],aQ (ap x.2)]
def fB(n:Nat)(a:Int):Bool:=decide (0<=a)&&decide (a<n)
theorem Rv{α:Type}{p:α->Bool}:∀ {l:List α} {k:Nat} {x:α},l[k]? =some x->p x=true->(∀ j y,j<k->l[j]? =some y->p y=false)->l.find? p=some x
 |[],k,x,h,_,_=>by simp at h
 |y::l,0,x,h,hp,_=>by
  simp only[List.getElem?_cons_zero,aH] at h;subst h;simp[hp]
 |y::l,k+1,x,h,hp,hj=>by
  have:=hj 0 y oG rfl;rw[List.find?_cons,this];exact Rv (by simpa using h) hp fun j C J hz=>hj (j+1) C oG (by simpa using hz)
def kW(l:List au)(a b:Int):List D:=
 if(cW l).2=0 then(if fB l.length a&&fB l.length b then(match pL (bU l) (aO l) a.toNat b.toNat with
  |some x=>[aQ (ap x.2),B true,I 0]
  |none=>[.z,B false,I 0]) else [.z,B false,I 1]) else [.z,B false,I (cW l).2]
theorem Zl(l:List au)(a b:Int):∀ d∈kW l a b,Tr d:=by
 unfold kW;split
 .split
  .split
   .exact .cons (c6 _) (.cons (.s _) (.cons (.s _) .nil))
   .exact .cons .z (.cons (.s _) (.cons (.s _) .nil))
  .exact .cons .z (.cons (.s _) (.cons (.s _) .nil))
 .exact .cons .z (.cons (.s _) (.cons (.s _) .nil))
def sx(l:List au)(a b:Int)(way:List Int):Bool:=decide ((cW l).2=0)&&(fB l.length a&&fB l.length b)&&gG (bU l) (aO l) a.toNat b.toNat way
def qi(l:List au)(a b:Int):Int:=if(cW l).2=0 then(if fB l.length a&&fB l.length b then 0 else 1) else(cW l).2
theorem Sg{l:List au}{a b:Int}(h:qi l a b=0):(cW l).2=0/\∃ p q:Nat,a=p/\b=q/\p<l.length/\q<l.length:=by
 unfold qi at h;split at h
 .rename_i h0;split at h
  .rename_i h1;simp only[fB,ba,decide_eq_true_eq] at h1;obtain⟨⟨a0,a1⟩,b0,b1⟩:=h1;obtain⟨p,rfl⟩:=iQ a0;obtain⟨q,rfl⟩:=iQ b0;exact⟨h0,p,q,rfl,rfl,oG,oG⟩
  .cases h
 .rename_i h0;exact absurd h h0
theorem Rw{l:List au}{a b:Int}{way:List Int}(h:qi l a b≠0):sx l a b way=false:=by
 unfold sx;unfold qi at h;split at h
 .split at h
  .exact absurd rfl h
  .rename_i h1;have:(fB l.length a&&fB l.length b)=false:=by simpa using h1
   rw[this];simp
 .rename_i h0;rw[decide_eq_false h0];simp
theorem Gk{l:List au}{p q:Nat}{way:List Int}(h0:(cW l).2=0)(hp:p<l.length)(hq:q<l.length):sx l p q way=gG (bU l) (aO l) p q way:=by
 unfold sx fB;rw[iv,iv,decide_eq_true h0,decide_eq_true (show(0:Int)<=p by omega),decide_eq_true (show(0:Int)<=q by omega),decide_eq_true (show(p:Int)<l.length by omega),decide_eq_true (show(q:Int)<l.length by omega)];simp
theorem Zm{sn:List Nat}{ca:List (List Nat)}{way:List Int}{k:Nat}{x:Int}{p q:Nat}(hx:way[k]? =some x):gG sn ca p q (way.drop k)=(sn.getD p 0==sn.getD q 0&&(decide (0<=x)&&(decide (x<(ca.getD p []).length)&&gG sn ca (iE ca (p,q) x.toNat).1 (iE ca (p,q) x.toNat).2 (way.drop (k+1))))):=by
 obtain⟨hk,rfl⟩:=bM.1 hx;rw[List.drop_eq_getElem_cons hk];rfl
def te(l:List au)(keep:List ByteArray)(i:Nat):Bool:=keep.any fun x=>((l.map fun f:au=>f.name).getD i (⟨#[]⟩:ByteArray)).toList==x.toList
def ij(l:List au)(i:Nat):ByteArray:=(l.map fun f:au=>f.name).getD i (⟨#[]⟩:ByteArray)
def mK(n:Nat)(f:Nat->Bool)(g:Nat->ByteArray):Mem:=bu [(1,.cells ((range n).map fun i=>B (f i)) 4),(2,.cells [.rs 1 0 n] 92),(3,.cells ((range n).map fun i=>S (g i)) 9)]
theorem Qw{n:Nat}{f f':Nat->Bool}{g g':Nat->ByteArray}(hf:∀ i,i<n->f i=f' i)(hg:∀ i,i<n->g i=g' i):mK n f g=mK n f' g':=by
 unfold mK;have e1:((range n).map fun i=>B (f i))=(range n).map fun i=>B (f' i):=List.map_congr_left fun i hi=>by rw[hf i (List.mem_range.1 hi)]
 have e2:((range n).map fun i=>S (g i))=(range n).map fun i=>S (g' i):=List.map_congr_left fun i hi=>by rw[hg i (List.mem_range.1 hi)]
 rw[e1,e2]
theorem E7{P:Program}{env:Env}{m:Mem}{nx n:Nat}{f:Nat->Bool}{g:Nat->ByteArray}{l:List (Nat×D)}(he:kV l env)(h1:m 1=some (.cells ((range n).map fun i=>B (f i)) 4))(h2:m 2=some (.cells [.rs 1 0 n] 92))(C:m 3=some (.cells ((range n).map fun i=>S (g i)) 9)):
 aL P ⟨env,m,nx⟩ ⟨aA l,mK n f g,nx⟩:=cq he ⟨h1,h2,C,trivial⟩
theorem X0{α:Type}{n y:Nat}(g:Nat->α)(h:y<n):∃ cs,((range n).map g).drop y=g y::cs:=by
 rw[List.drop_eq_getElem_cons (by simpa using h)];simp only[List.getElem_map,List.getElem_range];exact⟨_,rfl⟩
theorem Zo{α:Type}{p:α->Bool}{l:List α}{y:α}(h:l.find? p=some y):∃ k:Nat,l[k]? =some y/\mH p l=k:=by
 obtain⟨hp,k,hk,he,hj⟩:=List.find?_eq_some_iff_getElem.1 h;have hx:l[k]? =some y:=by rw[a8 hk,he]
 exact⟨k,hx,tu hx hp fun j J C hz=>by
  have:=hj j C;obtain⟨h1,rfl⟩:=bM.1 hz
  simpa using this⟩
end Go.Argus
namespace Go.Abs
theorem acn{P:Program}{env:Env}{m:Mem}{nx:Nat}{t:TypeId}{x y:Operand}{k:IntKind}{j off l sz:Nat}{e:TypeId}{r:Row}(hx:(opd env x).core=.rs j off l)(hy:(opd env y).core=.s (.int k 0))(hm:m j=some r)(he:aF P t=e)(hs:P.cellsOf e=sz):
 Ef P (.indexAddr t x y) env m nx ⟨bg P t=true/\0<l,.rp j off,[],[j],0⟩:=by
 have h:=F8 (P:=P) (env:=env) (m:=m) (nx:=nx) (t:=t) hx hy hm he hs;have h1:off+(0:Int).toNat*sz=off:=by simp
 have h2:(bg P t=true/\(0:Int)<=0/\(0:Int)<l)=(bg P t=true/\0<l):=by
  simp
 rw[h1,h2] at h;exact h
end Go.Abs
namespace Go.Proofs.Tryz.K
theorem afb:vH prog 121=some [0,0]:=kr
theorem afc:prog.eqGuardType prog.depth 121=false:=kr
theorem afd:lM prog (la prog 172)=B false:=kr
theorem aco(C J a b:Nat):gK [.int .i64 C,.int .i64 J] [.int .i64 a,.int .i64 b]=decide ((C,J)=(a,b)):=by
 rw[Bool.eq_iff_iff];simp[gK,p0];omega
theorem acp{P:Program}{d:Nat}{fs:List Field}{cs:List Value}{G:Nat×Nat->Option (List Lit)}{ts:List (Nat×Nat)}(h:fs.map (fun f=>(f.type,f.offset))=ts)(C:∀ t o,G (t,o)=P.keyLits d t ((cs.drop o).take (P.cellsOf t))):
 fs.mapM (fun f=>P.keyLits d f.type ((cs.drop f.offset).take (P.cellsOf f.type)))=ts.mapM G:=by
 rw[<- h,List.mapM_map];congr 1;funext f;exact(C _ _).symm
theorem Uc(d:Nat){a:Int}(h: -9223372036854775808<=a/\a<=9223372036854775807):prog.keyLits (d+1) 3 [.int .i64 a]=some [.int .i64 a]:=by
 have u3:prog.underlying 3=some (.int .i64):=kr
 have C:(Lit.int .i64 a).wf=true:=by
  have e1:IntKind.i64.min= -9223372036854775808:=kr;have e2:IntKind.i64.max=9223372036854775807:=kr;simp[Lit.wf,e1,e2,h]
 simp only[Program.keyLits,u3,C,and_self,if_true]
theorem Ti:∃ fs:Array Field,prog.underlying 121=some (.struct fs)/\prog.cellsOf 121=2/\fs.all (·.name !="_")=true/\fs.toList.map (fun f=>(f.type,f.offset))=[(3,0),(3,1)]:=
 ⟨match prog.underlying 121 with|some (.struct fs)=>fs|_=> #[],by kernel_rfl,by kernel_rfl,by kernel_rfl,by kernel_rfl⟩
theorem afe(d:Nat){a b:Int}(h: -9223372036854775808<=a/\a<=9223372036854775807)(h': -9223372036854775808<=b/\b<=9223372036854775807):prog.keyLits (d+2) 121 [.int .i64 a,.int .i64 b]=some [.int .i64 a,.int .i64 b]:=by
 obtain⟨fs,hu,hc,hn,hf⟩:=Ti;have c3:prog.cellsOf 3=1:=kr;unfold Program.keyLits;simp only[hu];rw[if_pos ⟨by rw[hc];rfl,hn⟩,acp (G:=fun p=>prog.keyLits (d+1) p.1 (([.int .i64 a,.int .i64 b].drop p.2).take (prog.cellsOf p.1))) hf fun _ _=>by dsimp only];simp[c3,Uc d h,Uc d h']
theorem aiI:∃ d,prog.types.size+1=d+2:=⟨prog.types.size - 1,by
 have:Nat.ble 1 prog.types.size=true:=kr;have:=bF this
 omega⟩
theorem Kl(p:Nat×Nat)(h:p.1<=1000000/\p.2<=1000000):cI prog 121 (og p)=true:=by
 obtain⟨fs,hu,hc,_,_⟩:=Ti;have hk:prog.keyType 121=true:=kr;obtain⟨d,hd⟩:=aiI;simp only[cI,og,hu,keyOf,hk,Value.formed,hc,hd];have:=afe d (a:=p.1) (b:=p.2) oG oG;simp[Value.cells,this]
theorem Tj{S:List (Nat×Nat)}(h:∀ p∈S,p.1<=1000000/\p.2<=1000000):(l8 S).all (fun e=>cI prog 121 e.1)=true:=by
 refine bV.2 fun e he=>?_;obtain⟨x,hx,rfl⟩:=List.mem_map.1 he;exact Kl x (h x hx)
theorem acq(p q:Nat×Nat):kJ (og p) (og q)=decide (p=q):=by
 rw[Bool.eq_iff_iff];simp[og,kJ,gK,p0,Prod.ext_iff];omega
theorem Km(q:Nat×Nat):∀ S:List (Nat×Nat),(cQ (og q) (l8 S)).map (·.2)=if q∈S then some (B true) else none
 |[]=>rfl
 |p::S=>by
  have ih:=Km q S;have e1:l8 (p::S)=(og p,B true)::l8 S:=rfl;rw[e1];simp only[cQ];rw[acq];by_cases h:p=q
  .subst h;simp
  .have h':¬ q=p:=fun e=>h e.symm;simp only[decide_eq_false h,Bool.false_eq_true,if_false,Option.map_map,List.mem_cons,h',false_or];rw[<- ih];rfl
theorem aff(q:Nat×Nat)(S:List (Nat×Nat)):fz prog 172 false (cQ (og q) (l8 S))=B (decide (q∈S)):=by
 have h:=Km q S;by_cases hq:q∈S
 .rw[if_pos hq] at h;cases hl:cQ (og q) (l8 S) with
  |none=>rw[hl] at h;cases h
  |some x=>
   rw[hl] at h;simp only[Option.map_some,aH] at h;rw[decide_eq_true hq];simp[fz,h]
 .rw[if_neg hq] at h;cases hl:cQ (og q) (l8 S) with
  |none=>rw[decide_eq_false hq];simp[fz,afd]
  |some x=>rw[hl] at h;cases h
theorem afg{q:Nat×Nat}{S:List (Nat×Nat)}(h:q∉S):fY (og q) (B true) (l8 S)=l8 (S++[q]):=by
 have h1:=Km q S;rw[if_neg h] at h1;unfold fY;cases hl:cQ (og q) (l8 S) with
 |none=>simp[l8]
 |some x=>rw[hl] at h1;cases h1
theorem Nb{l:List au}{sh:List ByteArray}{ca:List (List Int)}{a b:Int}:aD prog 71 [.agg (cM l sh ca),.agg [I a,I b]] (.fn (.func 114) [] [.pt [I a,I b],.pt (cM l sh ca)]):=by
 have t1:∀ d∈[I a,I b],Tr d:=.cons (.s _) (.cons (.s _) .nil);have t2:=E0 l sh ca;refine bj aiJ (.cons (.agg t2) (.cons (.agg t1) .nil)) (.fn oS (.cons (.pt t1) (.cons (.pt t2) .nil))) ?_;rw[aiK];refine az ?_;refine eC (sg (cs:=cM l sh ca) rfl) aP (by first|rfl|exact rR eE bN|exact nJ _|exact ud rF) ?_;refine eC (sg (cs:=[I a,I b]) rfl) aP (by first|rfl|exact rR eE bN|exact nJ _|exact ud rF) ?_;refine ax (jT (v:=.s .nilFunc) rfl) ak trivial ?_;refine af (bJ (dE [(0,cM l sh ca,82),(1,[I a,I b],121)] eH (l:=[(2,.pt (cM l sh ca)),(3,.pt [I a,I b])]) eH) (aj ?_));refine SS ?_;refine ax (jT (v:=.fn _ _ _) rfl) ak trivial ?_;exact af (aJ rfl rfl)
structure WS where
 k:Nat
 S:Nat->Prop
 m:Mem
 nx:Nat
 j:Nat
 pre:List PW
 seen:List (Nat×Nat)
 O:List PW
structure WI(I':(Nat->Prop)->Mem->Nat->Prop)(r:Nat)(s:WS):Prop where
 inv:I' s.S s.m s.nx
 slt:∀ i,s.S i->i<s.nx
 sr:s.S r
 sj:s.S s.j
 ne:s.j≠r
 amA:s.m r=some (.map (l8 s.seen))
 amB:s.m s.j=some (.cells ((s.pre++s.O).flatMap fI) 174)
structure WP(sn:List Nat)(ca:List (List Nat))(fr:Nat×Nat)(wsq:List PW)(k:Nat)(seen:List (Nat×Nat))(O pre:List PW):Prop where
 go:∃ Y f,wsq=Y++sw sn ca fr f (seen,O)/\Y.length=k/\BI sn ca fr Y seen O/\ca.length*ca.length<f+k
 len:∀ y∈O,y.2.length<=seen.length
 pre:pre.length<=k
theorem WP.next{sn:List Nat}{ca:List (List Nat)}{fr:Nat×Nat}{wsq:List PW}{k:Nat}{seen C:List (Nat×Nat)}{x:PW}{O J pre M:List PW}(ah:∀ w p,mJ sn ca fr w p->p.1<ca.length/\p.2<ca.length)(h:WP sn ca fr wsq k seen (x::O) pre)
 (hn:vP sn ca fr (seen,x::O)=(C,J)) (hl:∀ y∈J,y.2.length<=C.length) (hp:M.length<=k+1):WP sn ca fr wsq (k+1) C J M/\wsq[k]? =some x:=by
 obtain⟨⟨Y,f,h1,h2,U,h4⟩,_,_⟩:=h;have:=Gj U ah;simp only[List.length_cons] at this;obtain⟨f,rfl⟩:∃ g,f=g+1:=⟨f - 1,oG⟩
 have e:sw sn ca fr (f+1) (seen,x::O)=x::sw sn ca fr f (vP sn ca fr (seen,x::O)):=rfl;have X:=Ru U;rw[e,hn] at h1;rw[hn] at X;refine⟨⟨⟨Y++[x],f,by rw[h1];simp,by simp[h2],X,oG⟩,hl,hp⟩,?_⟩;rw[h1, <- h2,List.getElem?_append_right (bc _)];simp
theorem WP.end{sn:List Nat}{ca:List (List Nat)}{fr:Nat×Nat}{wsq:List PW}{k:Nat}{seen:List (Nat×Nat)}{pre:List PW}(h:WP sn ca fr wsq k seen [] pre):wsq.length=k:=by
 obtain⟨⟨Y,f,h1,h2,C,J⟩,_,_⟩:=h;rw[h1];cases f<;>simp[sw,h2]
theorem Qv{ca:List (List Nat)}{fr p:Nat×Nat}{x:PW}{S:List (Nat×Nat)}{O:List PW}{k:Nat}(hp:iE ca x.1 k=p)(h:¬ (p≠fr/\p∉S)):vQ ca fr x (S,O) k=(S,O):=by
 unfold vQ;rw[hp,if_neg h]
theorem Zj{ca:List (List Nat)}{fr p:Nat×Nat}{x:PW}{S:List (Nat×Nat)}{O:List PW}{k:Nat}(hp:iE ca x.1 k=p)(h1:p≠fr)(h2:p∉S):vQ ca fr x (S,O) k=(S++[p],O++[(p,x.2++[k])]):=by
 unfold vQ;rw[hp,if_pos ⟨h1,h2⟩]
def Vp(l:Nat)(fl:List au)(sh:List ByteArray)(ca:List (List Nat))(a b r:Nat)(s:WS):St:=
 ⟨aA [(0,.fn (.yield l) [] []),(1,.pt [I a,I b]),(2,.pt (cM fl sh (ca.map ap))),(4,.mp r),(5,.rs s.j (s.pre.length*3) s.O.length)],s.m,s.nx⟩
theorem aiL{fl:List au}{sh:List ByteArray}{ca:List (List Nat)}{a b:Nat}(lp:sh.length=ca.length)(hN:ca.length<=1000)(dD:pk ca)(hlen:vS (bp sh) ca)(ha:a<ca.length)(hb:b<ca.length)(dy:∀ x∈ca,x.length<=100000):
 G9 prog 114 [] [.pt [I a,I b],.pt (cM fl sh (ca.map ap))] ((mC (bp sh) ca a b).map CI):=by
 refine ab8 mixed afh kr fun l I' Stop m nx hI hF CU h0=>?_;rw[afi];refine ws ?_;refine ag ?_;refine af (az ?_);refine aV ?_;generalize eY:bp sh=sn at*
 have ah:∀ w p,mJ sn ca (a,b) w p->p.1<ca.length/\p.2<ca.length:=fun w p=>JU dD hlen ha hb;refine af ?_;have gZ:aQ (ap [])=.sl [] 0:=rfl
 refine(nt (α:=WS) (Vp l fl sh ca a b nx)
  (fun s=>WI (I' s.k) nx s/\WP sn ca (a,b) (mC sn ca a b) s.k s.seen s.O s.pre) (fun s=>(mC sn ca a b).length - s.k) ⟨0,fun i=>i=nx\/i=nx+1,up (up m nx (some (.map []))) (nx+1) (some (.cells (fI ((a,b),[])) 174)),nx+2,nx+1,[],[],[((a,b),[])]⟩
  ((aw (l:=[(0,.fn (.yield l) [] []),(1,.pt [I a,I b]),(2,.pt (cM fl sh (ca.map ap))),(4,.mp nx),(5,.rs (nx+1) 0 1)]) eH).trans (.nD _ _ _ _ _ (fun _ _ _ _ _ h=>h) fun i=>?_))
  ⟨⟨hI 0 _ m nx (fun i=>i=nx\/i=nx+1) (up (up m nx (some (.map []))) (nx+1) (some (.cells (fI ((a,b),[])) 174))) (nx+2) h0 oG (fun i hi _=>ai oG (ai oG rfl)) fun i hi=>.inr oG,fun i hi=>by dsimp only at hi ⊢;omega,.inl rfl,.inr rfl,oM,ai oG (al _ _ _),al _ _ _⟩,⟨⟨[],ca.length*ca.length+2,rfl,rfl,?_,oG⟩,fun y hy=>?_,bc _⟩⟩ ?_)
 .by_cases hi:i=nx+1
  .subst hi;refine .inr ⟨_,fI ((a,b),[]),174,al _ _ _,al _ _ _,rfl,fun k d d' hd eZ=>?_⟩
   match k with
   |0=>cases hd;cases eZ;exact fun _ _ _ _ h=>h
   |1=>cases hd;cases eZ;exact fun _ _ _ _ h=>h
   |2=>cases hd;cases eZ;exact AV
   |k+3=>cases hd
  .exact .inl ((aB _ _ hi).trans (aB _ _ hi).symm)
 .refine⟨fun x hx=>?_,rfl,oS,oS,fun x hx y hy=>?_,fun x hx=>by simp at hx⟩
  .simp only[List.nil_append,List.mem_cons,List.not_mem_nil,or_false] at hx;subst hx;exact .nil
  .simp only[List.mem_cons,List.not_mem_nil,or_false] at hx hy;subst hx hy;omega
 .simp only[List.mem_cons,List.not_mem_nil,or_false] at hy;subst hy;exact bc _
 .rintro⟨k,S,m,C,j,pre,seen,O⟩ ⟨⟨hinv,qg,tc,td,aG,kx,aq⟩,Bz⟩;dsimp only at hinv qg tc td aG kx aq Bz;obtain⟨⟨Yd,f,nR,hYk,hB,hf⟩,Tk,ra⟩:=id Bz;unfold Vp;dsimp only;have dk:=Gj hB ah;have hNN:ca.length*ca.length<=1000000:=Nat.mul_le_mul hN hN;refine ay ?_;refine af ⟨_,rfl,fun h=>?_,fun h=>?_⟩
  .cases O with
   |nil=>simp at h
   |cons x O=>
    clear h
    have hd:(((pre++x::O).flatMap fI).drop (pre.length*3)).take 3=fI x:=by
     rw[OR,List.flatMap_cons];exact List.take_left' (OQ x)
    refine az ?_;refine SS ?_;refine ax (acn rfl rfl aq A1 ux) aP ⟨AF,oS⟩ ?_;refine ax (ff rfl aq Ue ux hd) aP (fh t174 ux (by rw[EO];simp;omega)) ?_;refine eC (Fj Hg) aP t174 ?_;refine bL (fg rfl rfl (al _ _ _) rfl) aP (bY t174 ux oS (by rfl)) ?_;obtain⟨U,rL⟩:∃ U:Nat->Prop,U=fun i=>S i\/i=C:=⟨_,rfl⟩
    have mg:=qg _ td;have uS:=qg _ tc;have adw:∀ y∈O,y.2.length<=seen.length:=fun y hy=>Tk y (List.mem_cons_of_mem _ hy)
    have Uf:(mC sn ca a b)[k]? =some x:=by
     obtain⟨⟨Y,f,h1,h2,h3,h4⟩,_,_⟩:=Bz;obtain⟨f,rfl⟩:∃ g,f=g+1:=⟨f - 1,by simp at dk;omega⟩
     rw[h1, <- h2,List.getElem?_append_right (bc _)];simp[sw]
    have zo:((mC sn ca a b).map CI)[k]? =some (CI x):=by rw[List.getElem?_map,Uf];rfl
    have gM:k<(mC sn ca a b).length:=(bM.1 Uf).1;obtain⟨m2,ie⟩:∃ m2,m2=up (up m C (some (Row.cells [D.s (Value.int IntKind.i64 0),D.s (Value.int IntKind.i64 0),D.z] 174))) C (some (Row.cells (fI x) 174)):=⟨_,rfl⟩
    have oA:∀ i,i≠C->m2 i=m i:=fun i hi=>by rw[ie,aB _ _ hi,aB _ _ hi]
    have aiM:m2 C=some (Row.cells (fI x) 174):=by rw[ie];exact al _ _ _
    have wm:U nx:=by rw[rL];exact .inl tc
    have yv:U j:=by rw[rL];exact .inl td
    have ye:∀ i,U i->i<C+1:=fun i hi=>by
     rw[rL] at hi;rcases hi with hi|hi
     .have:=qg i hi;omega
     .omega
    have AG:I' k U (de C (fI x) (prog.cellsOf 174) m2) (C+1):=hF k U m2 (C+1) C _ (by rw[rL];exact .inr rfl) (hI k S m C U m2 (C+1) hinv oG (fun i hi _=>oA i oG) fun i hi=>by
     rw[rL] at hi;rcases hi with hi|hi
     .exact .inl hi
     .exact .inr oG)
    have vB:de C (fI x) (prog.cellsOf 174) m2 nx=some (.map (l8 seen)):=gS ((oA nx oG).trans kx) oG (Iy seen);have qW:de C (fI x) (prog.cellsOf 174) m2 j=some (.cells ((pre++x::O).flatMap fI) 174):=gS ((oA j oG).trans aq) oG (BT IW _);refine af ⟨⟨aA [(0,.fn (.yield l) [] []),(1,.pt [I a,I b]),(2,.pt (cM fl sh (ca.map ap))),(4,.mp nx),(5,.rs j (pre.length*3) (x::O).length),(6,.pt (fI x))],de C (fI x) (prog.cellsOf 174) m2,C+1⟩,?_,?_⟩
    .subst ie;exact lv (i:=C) (cs:=fI x) (e:=174) (al _ _ _) ⟨rfl,rfl,rfl,rfl,if_neg oG,if_pos rfl,trivial⟩
    clear aiM oA ie kx aq hinv qg tc td;generalize de C (fI x) (prog.cellsOf 174) m2=m at*
    refine aC (aj ?_);refine bA ?_;refine Ly rfl rfl aP ⟨rfl,k,U,zo,ye,AG,fun d m' ao hp=>?_⟩;obtain⟨hp,AU,jE⟩:=hp;rcases hp with⟨rfl,hp⟩|⟨rfl,hp⟩
    .refine SS ?_;refine af (ct rfl (fun h=>oH) fun h=>?_);have kx:=(jE nx wm).trans vB;have aq:=(jE j yv).trans qW;clear jE vB qW;obtain⟨zp,BA⟩:=ah _ _ (hB.lead x oS);obtain⟨sa,uU⟩:∃ sa,sh[x.1.1]? =some sa:=⟨_,a8 oG⟩
     obtain⟨sb,zq⟩:∃ sb,sh[x.1.2]? =some sb:=⟨_,a8 oG⟩
     have jo:(sn.getD x.1.1 0=sn.getD x.1.2 0)↔sa=sb:=by
      have:=E5 uU zq;rw[eY] at this;rw[<- this];have l1:x.1.1<sn.length:=by rw[<- eY];simpa using(by omega:x.1.1<sh.length)
      have l2:x.1.2<sn.length:=by rw[<- eY];simpa using(by omega:x.1.2<sh.length)
      rw[dn (d:=0) l1,dn (d:=0) l2,aH]
     have aiN:(ca.map ap)[x.1.1]? =some (ap (ca.getD x.1.1 [])):=by rw[List.getElem?_map,dn (d:=[]) zp];rfl
     have aiO:(ca.map ap)[x.1.2]? =some (ap (ca.getD x.1.2 [])):=by rw[List.getElem?_map,dn (d:=[]) BA];rfl
     refine bX (aC (eg Zk ?_));refine bt ?_;refine cm ?_;refine cu cE (ct rfl (fun h=>?_) fun h=>?_)
     .have aiP:=aG
      have aG:¬ sn.getD x.1.1 0=sn.getD x.1.2 0:=fun e=>by
       rw[jo] at e;subst e;simp at h
      refine tm (Ge ?_);refine SS ?_;refine ax (EV rfl aq A1 ux (a:=1) (b:=((x::O).length:Nat)) rfl rfl) aP ⟨⟨AF,rfl⟩,oG,by rw[List.length_cons];omega,Int.le_refl _⟩ ?_;refine ax (jT (v:=.rs _ _ _) rfl) aP trivial ?_;refine af (bh ⟨k+1,U,m',ao,j,pre++[x],seen,O⟩ (aw ⟨rfl,rfl,rfl,rfl,?_,trivial⟩) ⟨⟨hp,fun i hi=>by have:=ye i hi;dsimp only;omega,wm,yv,aiP,kx,by rw[List.append_assoc];exact aq⟩,(Bz.next ah (by unfold vP;simp only[if_neg aG];rfl) adw oP).1⟩ oM);show D.rs j (pre.length*3+(1:Int).toNat*3) (((x::O).length:Int) - 1).toNat=D.rs j ((pre++[x]).length*3) O.length;congr 1
      .simp;omega
      .simp
     .have s4:sn.getD x.1.1 0=sn.getD x.1.2 0:=by
       rw[jo];have:sa.toList=sb.toList:=by simpa using h
       rw[tv,tv] at this;exact xE this
      refine bX (az ?_);refine bt ?_;have hcx:ap (ca.getD x.1.1 [])=ap (ca.getD x.1.1 []):=rfl;have fP:(ap (ca.getD x.1.1 [])).length=(ca.getD x.1.1 []).length:=by simp
      have amC:(ca.getD x.1.2 []).length=(ca.getD x.1.1 []).length:=(hlen _ _ zp BA s4).symm;have y6:(ca.getD x.1.1 []).length<=100000:=dy _ (bz (dn (d:=[]) zp))
      refine af (cy (α:=Nat×WS) (fun s=>⟨aA [(0,.fn (.yield l) [] []),(1,.pt [I a,I b]),(2,.pt (cM fl sh (ca.map ap))),(4,.mp nx),(5,.rs s.2.j (s.2.pre.length*3) s.2.O.length),(6,.pt (fI x)),(50,aQ (ap (ca.getD x.1.1 []))),(51,I (ap (ca.getD x.1.1 [])).length),(52,I s.1)],s.2.m,s.2.nx⟩)
       (fun s=>WI (I' (k+1)) nx s.2/\s.1<=(ca.getD x.1.1 []).length/\o1 ca (a,b) x (seen,x::O) s.1=(s.2.seen,s.2.O)/\s.2.pre.length<=k/\∀ y∈s.2.O,y.2.length<=s.2.seen.length) (fun s=>(ca.getD x.1.1 []).length - s.1) (0,⟨k+1,U,m',ao,j,pre,seen,x::O⟩)
       (aw eH) ⟨⟨hp,fun i hi=>by have:=ye i hi;dsimp only;omega,wm,yv,aG,kx,aq⟩,Nat.zero_le _,rfl,ra,Tk⟩ ?_)
      clear kx aq hp zo;rintro⟨i,⟨k2,S,m,C,j,pre,oh,O2⟩⟩ ⟨⟨hinv,qg,tc,td,aG,kx,aq⟩,hi,hE,ra,Ai⟩;dsimp only at hinv qg tc td aG kx aq hi hE ra Ai ⊢;obtain⟨O',D2,BB,gu,_⟩:=JV s4 (hB.lead x oS) i hi hB;rw[hE] at D2 BB;dsimp only at D2 BB;subst D2;have Ug:=Gj BB ah
      have amD:oh.length<=1000000:=by
       have:=congrArg List.length BB.od;simp at this Ug;omega
      have uK:∀ p∈oh,p.1<=1000000/\p.2<=1000000:=fun p hp=>by
       have:p∈(Yd++x::O').map (·.1):=by rw[BB.od];exact List.mem_cons_of_mem _ hp
       obtain⟨y,hy,rfl⟩:=List.mem_map.1 this;have:=ah _ _ (BB.lead y hy);omega
      refine SS ?_;refine af ⟨_,rfl,fun h=>?_,fun h=>?_⟩
      .have eD:i<(ca.getD x.1.1 []).length:=by simpa using h
       clear h;have sZ:(ap (ca.getD x.1.1 []))[i]? =some (((ca.getD x.1.1 []).getD i 0:Nat):Int):=by rw[List.getElem?_map,dn (d:=0) eD];rfl
       have mR:(ap (ca.getD x.1.2 []))[i]? =some (((ca.getD x.1.2 []).getD i 0:Nat):Int):=by rw[List.getElem?_map,dn (d:=0) oG];rfl
       refine ws ?_;refine bA ?_;refine af (az ?_);refine bt ?_;refine ag ?_;refine ax (EU Uh Tl Hh rfl rfl) aP ⟨t121,Tm⟩ ?_;refine eC (Fj Hh) aP t121 ?_;refine bL (fg rfl rfl (al _ _ _) rfl) aP (bY t121 LQ ⟨rfl,bc 2⟩ (by rfl)) ?_;obtain⟨U,rL⟩:∃ U:Nat->Prop,U=fun i=>S i\/i=C:=⟨_,rfl⟩
       have mg:=qg _ td;have uS:=qg _ tc;obtain⟨J,eE⟩:∃ J,J=(ca.getD x.1.1 []).getD i 0:=⟨_,rfl⟩
       obtain⟨M,HU⟩:∃ M,M=(ca.getD x.1.2 []).getD i 0:=⟨_,rfl⟩
       have Nc:(J,M).1<=1000000/\(J,M).2<=1000000:=by
        have h1:=dD x.1.1 _ (bz (dn (d:=0) eD));have h2:=dD x.1.2 _ (bz (dn (d:=0) (show i<(ca.getD x.1.2 []).length by omega)));rw[<- eE] at h1;rw[<- HU] at h2;dsimp only;omega
       have Nd:o1 ca (a,b) x (seen,x::O) (i+1)=vQ ca (a,b) x (oh,x::O') i:=by
        rw[<- hE];unfold o1;rw[List.range_succ,List.foldl_append];rfl
       have KX:iE ca x.1 i=(J,M):=by rw[eE,HU];rfl
       obtain⟨m2,ie⟩:∃ m2,m2=up (up m C (some (Row.cells [D.s (Value.int IntKind.i64 0),D.s (Value.int IntKind.i64 0)] 121))) C (some (Row.cells [I J,I M] 121)):=⟨_,rfl⟩
       have oA:∀ i,i≠C->m2 i=m i:=fun i hi=>by rw[ie,aB _ _ hi,aB _ _ hi]
       have wm:U nx:=by rw[rL];exact .inl tc
       have yv:U j:=by rw[rL];exact .inl td
       have ye:∀ i,U i->i<C+1:=fun i hi=>by
        rw[rL] at hi;rcases hi with hi|hi
        .have:=qg i hi;omega
        .omega
       have AG:I' (k+1) U (de C [I J,I M] (prog.cellsOf 121) m2) (C+1):=hF (k+1) U m2 (C+1) C _ (by rw[rL];exact .inr rfl) (hI (k+1) S m C U m2 (C+1) hinv oG (fun i hi _=>oA i oG) fun i hi=>by
        rw[rL] at hi;rcases hi with hi|hi
        .exact .inl hi
        .exact .inr oG)
       have vB:de C [I J,I M] (prog.cellsOf 121) m2 nx=some (.map (l8 oh)):=gS ((oA nx oG).trans kx) oG (Iy oh);have qW:de C [I J,I M] (prog.cellsOf 121) m2 j=some (.cells ((pre++x::O').flatMap fI) 174):=gS ((oA j oG).trans aq) oG (BT IW _);refine af ⟨⟨aA [(0,.fn (.yield l) [] []),(1,.pt [I a,I b]),(2,.pt (cM fl sh (ca.map ap))),(4,.mp nx),(5,.rs j (pre.length*3) (x::O').length),(6,.pt (fI x)),(7,I i),(9,.pt [I J,I M]),(50,aQ (ap (ca.getD x.1.1 []))),(51,I (ap (ca.getD x.1.1 [])).length),(52,I i)],de C [I J,I M] (prog.cellsOf 121) m2,C+1⟩,?_,?_⟩
       .subst ie eE HU;exact lv (i:=C) (cs:=[I ((ca.getD x.1.1 []).getD i 0:Nat),I ((ca.getD x.1.2 []).getD i 0:Nat)]) (e:=121) (al _ _ _) ⟨rfl,rfl,rfl,rfl,if_neg oG,rfl,rfl,if_pos rfl,rfl,rfl,rfl,trivial⟩
       clear oA ie kx aq hinv qg tc td eE HU;generalize de C [I J,I M] (prog.cellsOf 121) m2=m at*
       refine ws ?_;refine ag ?_;refine ax (Tn (c:= !decide ((J,M)=(a,b))) rfl rfl afb rfl (by rw[aco])) aP ⟨rfl,afc⟩ ?_;refine ax (dO (v:=.s (.bool _)) rfl) aP trivial ?_;by_cases HV:(J,M)=(a,b)
       .rw[decide_eq_true HV];iterate 2 refine z fun _ _=>?_
        refine jf rfl rfl fun _ _=>?_;refine z fun _ _=>?_;refine SS ?_;refine af (aR rfl (fun h=>oH) fun h=>c7 ?_);show av _ _ _ _ _ _ _ _ _;refine ax (GG rfl rfl oG) aP rfl ?_;refine ax (dO (v:=.s (.int _ _)) rfl) aP trivial ?_;exact af (bh (i+1,⟨k2,U,m,C+1,j,pre,oh,x::O'⟩) (aw eH) ⟨⟨AG,ye,wm,yv,aG,vB,qW⟩,oM,by rw[Nd,Qv KX (fun e=>e.1 HV)],ra,Ai⟩ oM)
       .rw[decide_eq_false HV];refine bw rfl rfl (dO (v:=.mp _) rfl) (fun hc=>⟨ak,trivial⟩) ?_;refine SS ?_;refine bw rfl rfl (EW rfl vB rfl KY (aff (J,M) oh)) (fun hc=>⟨(by repeat' (first|exact trivial|exact hc|exact rfl|refine And.intro ?_ ?_)),⟨KZ,Kl _ Nc,Tj uK⟩⟩) ?_;refine ag ?_;refine af (aR rfl (fun h=>aj ?_) fun h=>c7 ?_)
        .have Bw:(J,M)∉oh:=by simpa using h
         clear h;have hxw:x.2.length<=oh.length:=Ai x oS;have amE:O'.length<=1000000:=by simp at Ug;omega
         refine ag ?_;refine bL (xB (key:=og (J,M)) (v:=B true) rfl vB rfl rfl KY) aP ⟨KZ,Kl _ Nc,Tj uK⟩ ?_;refine af (zU XZ ?_);rw[afg Bw];refine dM ?_;refine ag ?_;refine rh (ad3 rfl rfl rfl V.h (by rw[Bs,c3];simp)) ak ?_;refine SS ?_;refine eC (tq (cs:=[_]) Bs c3 z3 rfl rfl) aP ⟨rfl,oC,AQ,oC⟩ ?_;refine G5 (abS rfl Bs c3 (kN (al _ _ _) rfl).ok (bF rfl) AQ oS oC oC (by unfold maxLen;simp;omega) (by rw[b3];simp;omega)) aP ?_;refine ax (EU Ui To Hg rfl rfl) aP ⟨t174,Tp⟩ ?_;refine eC (tq A1 ux Hg rfl rfl) aP ⟨rfl,oC,AF,oC⟩ ?_;have gT:∀ {a b c d},up (up (up (up m nx a) (C+1) b) (C+1+1) c) (C+1+1+1) d j=some (.cells ((pre++x::O').flatMap fI) 174):=ai oG (ai oG (ai oG (ai oG qW)));refine jq (je rfl gT rfl A1 ux (kN (al _ _ _) rfl) rfl) aP ⟨AF,rfl,bF rfl,oC,by rw[EO];simp;omega,by unfold maxLen;simp;omega,by rw[Uj];simp;omega,by simp;omega⟩ ?_;refine ax (jT (v:=.rs _ _ _) rfl) aP trivial ?_;refine cu cE ?_;refine ax (GG rfl rfl oG) aP rfl ?_;refine ax (dO (v:=.s (.int _ _)) rfl) aP trivial ?_;obtain⟨m3,Ea⟩:∃ m3,m3=up (up (up (up (up (up m nx (some (.map (l8 (oh++[(J,M)]))))) (C+1) (some (.cells [I i] 3))) (C+1+1) (some (.cells ((ap x.2).map I++[I i]) 3))) (C+1+1+1) (some (.cells [I J,I M,.rs (C+1+1) 0 ((ap x.2).length+1)] 174))) j none) (C+1+1+1+1) (some (.cells (((pre++x::O').flatMap fI).drop (pre.length*3)++[I J,I M,.rs (C+1+1) 0 ((ap x.2).length+1)]) 174)):=⟨_,rfl⟩
         refine af (bh (i+1,⟨k2,fun q=>U q\/(C+1<=q/\q<C+1+1+1+1+1),de (C+1+1) ((ap x.2).map I++[I i]) (prog.cellsOf 3) m3,C+1+1+1+1+1,C+1+1+1+1,[],oh++[(J,M)],x::(O'++[((J,M),x.2++[i])])⟩) ?_ ⟨⟨?_,?_,?_,?_,?_,?_,?_⟩,?_,?_,?_,?_⟩ oM)
         .have hr:m3 (C+1+1)=some (.cells ((ap x.2).map I++[I i]) 3):=by rw[Ea];exact ai oG (ai oG (ai oG (al _ _ _)))
          clear AG vB qW gT;subst Ea;refine lv (i:=C+1+1) (cs:=(ap x.2).map I++[I i]) (e:=3) hr ⟨rfl,rfl,rfl,rfl,?_,rfl,rfl,rfl,rfl,trivial⟩;refine(zP oG).trans ?_;show D.rs (C+1+1+1+1) 0 _=D.rs (C+1+1+1+1) 0 _;congr 1;simp
         .refine hF (k+1) _ m3 _ (C+1+1) _ (.inr oG) (hI (k+1) U m (C+1) _ m3 (C+1+1+1+1+1) AG oG (fun q hq Vq=>?_) fun q hq=>hq);have q1:q≠j:=fun e=>Vq (e▸yv);have q2:q≠nx:=fun e=>Vq (e▸wm);rw[Ea,aB _ _ oG,aB _ _ q1,aB _ _ oG,aB _ _ oG,aB _ _ oG,aB _ _ q2]
         .intro q hq;dsimp only at hq ⊢;rcases hq with hq|hq
          .have:=ye q hq;omega
          .exact hq.2
         .exact .inl wm
         .exact .inr oM
         .dsimp only;omega
         .refine gS ?_ oG (Iy _);rw[Ea];exact ai oG (ai oG (ai oG (ai oG (ai oG (al _ _ _)))))
         .have dq:=BT (X:=fun k=>k=C+1+1) IW (x::O') (e:=174) (C+1+1) ((ap x.2).map I++[I i]) (prog.cellsOf 3) rfl;simp only[Row.sub,Row.cells.injEq,and_true] at dq;dsimp only;unfold de;rw[if_neg oG,Ea,al];simp only[Option.map_some,Row.sub];rw[OR,List.map_append,dq]
          have e1:([]++x::(O'++[((J,M),x.2++[i])])).flatMap fI=(x::O').flatMap fI++fI ((J,M),x.2++[i]):=by
           rw[List.nil_append, <- List.cons_append,List.flatMap_append];simp
          rw[e1]
          have e2:sub (cJ (C+1+1) ((ap x.2).map I++[I i]) (prog.cellsOf 3)) (.rs (C+1+1) 0 ((ap x.2).length+1))=aQ (ap (x.2++[i])):=by
           rw[jR (by rw[c3];simp)];simp[aQ,ap]
          have e3:∀ n:Int,sub (cJ (C+1+1) ((ap x.2).map I++[I i]) (prog.cellsOf 3)) (I n)=I n:=fun _=>rfl;simp only[List.map_cons,List.map_nil,e2,e3];rfl
         .dsimp only;omega
         .dsimp only;rw[Nd,Zj KX HV Bw];rfl
         .exact Nat.zero_le _
         .intro y hy;dsimp only at hy ⊢;rw[<- List.cons_append,List.mem_append] at hy;rw[List.length_append];rcases hy with hy|hy
          .have:=Ai y hy;omega
          .simp only[List.mem_cons,List.not_mem_nil,or_false] at hy;subst hy;simp;omega
        .have Bw:(J,M)∈oh:=by simpa using h
         show av _ _ _ _ _ _ _ _ _;refine ax (GG rfl rfl oG) aP rfl ?_;refine ax (dO (v:=.s (.int _ _)) rfl) aP trivial ?_;exact af (bh (i+1,⟨k2,U,m,C+1,j,pre,oh,x::O'⟩) (aw eH) ⟨⟨AG,ye,wm,yv,aG,vB,qW⟩,oM,by rw[Nd,Qv KX (fun e=>e.2 Bw)],ra,Ai⟩ oM)
      .have bq:¬ i<(ca.getD x.1.1 []).length:=by simpa using h
       have:i=(ca.getD x.1.1 []).length:=by omega
       subst this;refine SS ?_;refine ax (EV rfl aq A1 ux (a:=1) (b:=((x::O').length:Nat)) rfl rfl) aP ⟨⟨AF,rfl⟩,oG,by rw[List.length_cons];omega,Int.le_refl _⟩ ?_;refine ax (jT (v:=.rs _ _ _) rfl) aP trivial ?_;refine af (bh ⟨k+1,S,m,C,j,pre++[x],oh,O'⟩ (aw ⟨rfl,rfl,rfl,rfl,?_,trivial⟩) ⟨⟨hinv,qg,tc,td,aG,kx,by rw[List.append_assoc];exact aq⟩,(Bz.next ah (by unfold vP;simp only[if_pos s4];rw[hE];rfl) (fun y hy=>Ai y (List.mem_cons_of_mem _ hy)) oP).1⟩ oM);show D.rs j (pre.length*3+(1:Int).toNat*3) (((x::O').length:Int) - 1).toNat=D.rs j ((pre++[x]).length*3) O'.length;congr 1
       .simp;omega
       .simp
    .refine SS ?_;exact af (ct rfl (fun h=>tR (bH (bD (cv (vy (.inr hp)))))) fun h=>oH)
  .cases O with
   |nil=>
    refine vz (Or.inl ⟨S,?_⟩);rw[List.length_map,Bz.end];exact hinv
   |cons x O=>simp at h
theorem oQ{l:List au}{a b:Int}(hl:l.length<=1000):aD prog 70 [bi l,I a,I b] (.aM [.agg (oe l),I (if(cW l).2=0 then(if fB l.length a&&fB l.length b then 0 else 1) else(cW l).2)]):=by
 have gO:=gO hl;refine bj aiQ (.cons (iB l) (.cons (.s _) (.cons (.s _) .nil))) (.aM (.cons (.agg (Qp l)) (.cons (.s _) .nil))) ?_;rw[aiR];refine ws ?_;refine ag ?_;refine er ?_;have J:=xe (l:=l);have M:=B4 (l:=l);generalize (cW l).2=err at*
 by_cases he:err=0
 .have C:=J he;rw[C] at gO ⊢;subst he;refine SS ?_;refine cl gO ?_;refine cm ?_;have iV:=iV (l:=l) (sh:=br l) (ca:=(aO l).map ap);have l7:((0:Int)==0)=true:=rfl;refine af (aC (aj ?_));refine dM ?_;refine gc iV ?_;refine bt ?_;refine gc iV ?_;refine ay ?_
  have hb:(if(if(if decide (a<0)=true then true else decide ((l.length:Int)<=a))=true then true else decide (b<0))=true then true else decide ((l.length:Int)<=b))= !(fB l.length a&&fB l.length b):=by
   unfold fB;rw[Bool.eq_iff_iff];simp;omega
  rw[hb];refine af (ct rfl (fun h=>?_) fun h=>?_)
  .have h:(fB l.length a&&fB l.length b)=false:=by revert h;cases (fB l.length a&&fB l.length b)<;>simp
   rw[h,if_pos rfl,if_neg oS];refine ws ?_;refine SS ?_;refine er ?_;refine aV ?_;exact af (bH (mY (gP rfl rfl s7 mh rfl t82 (bc 3)) rfl rfl))
  .have h:(fB l.length a&&fB l.length b)=true:=by simpa using h
   rw[h,if_pos rfl,if_pos rfl];refine bX (aj ?_);refine aV ?_;exact af (bH (mY (gP rfl rfl s7 mh rfl t82 (bc 3)) rfl rfl))
 .have C:=M he;rw[C] at gO ⊢;have l7:(err==0)=false:=by simpa using he
  refine SS ?_;refine cl gO ?_;refine cm ?_;refine af (aC (aj ?_));have iV:(false==true)=true->aD prog 48 [.agg [.z,.z,.z]] (I 0):=fun h=>by cases h
  refine ax (dO (v:=.s (.int _ _)) rfl) aP trivial ?_
  (first|refine ax (Ag rfl rfl l7) aP rfl ?_|refine ax (Ag rfl rfl CV) aP rfl ?_|refine ax (GF rfl rfl) aP rfl ?_)
  refine ax (dO (v:=.s (.bool _)) rfl) aP trivial ?_
  (first|refine bw rfl rfl (dO (v:=.s (.int _ _)) rfl) (fun hc=>⟨(by repeat' (first|exact trivial|exact hc|exact rfl|refine And.intro ?_ ?_)),trivial⟩) ?_)
  (first|refine bw rfl rfl (adx rfl rfl aiS) (fun hc=>⟨(by repeat' (first|exact trivial|exact hc|exact rfl|refine And.intro ?_ ?_)),rfl⟩) ?_|refine bw rfl rfl (GD rfl rfl) (fun hc=>⟨(by repeat' (first|exact trivial|exact hc|exact rfl|refine And.intro ?_ ?_)),rfl⟩) ?_)
  (first|refine bw rfl rfl (dO (v:=.s (.bool _)) rfl) (fun hc=>⟨(by repeat' (first|exact trivial|exact hc|exact rfl|refine And.intro ?_ ?_)),trivial⟩) ?_)
  (first|refine bw rfl rfl (dO (v:=.s (.int _ _)) rfl) (fun hc=>⟨(by repeat' (first|exact trivial|exact hc|exact rfl|refine And.intro ?_ ?_)),trivial⟩) ?_)
  (first|refine bw rfl rfl (j8 rfl s7 mh rfl) (fun hc=>⟨(by repeat' (first|exact trivial|exact hc|exact rfl|refine And.intro ?_ ?_)),(kb t82 mh oS)⟩) ?_|refine bw rfl rfl (ff rfl rfl s7 mh rfl) (fun hc=>⟨(by repeat' (first|exact trivial|exact hc|exact rfl|refine And.intro ?_ ?_)),(fh t82 mh (by first|(simp;done)|omega|exact bF rfl))⟩) ?_)
  (first|refine tU rfl rfl rfl (fun hc=>⟨(by repeat' (first|exact trivial|exact hc|exact rfl|refine And.intro ?_ ?_)),iV⟩) ?_|refine tU rfl rfl rfl (fun hc=>⟨(by repeat' (first|exact trivial|exact hc|exact rfl|refine And.intro ?_ ?_)),iV hc⟩) ?_|refine sv iV rfl rfl rfl rfl (aiT rfl) aP ?_|refine tU rfl rfl rfl (fun hc=>⟨(by repeat' (first|exact trivial|exact hc|exact rfl|refine And.intro ?_ ?_)),LR⟩) ?_|refine sv LR rfl rfl rfl rfl (afj rfl) aP ?_)
  (first|refine bw rfl rfl (Ah rfl rfl uq) (fun hc=>⟨(by repeat' (first|exact trivial|exact hc|exact rfl|refine And.intro ?_ ?_)),rfl⟩) ?_|refine bw rfl rfl (CT rfl rfl) (fun hc=>⟨(by repeat' (first|exact trivial|exact hc|exact rfl|refine And.intro ?_ ?_)),rfl⟩) ?_)
  (first|refine EK rfl rfl rfl rfl (by first|exact fun _=>trivial|exact fun _=>rfl|exact fun hc=>hc) (by first|exact fun _=>trivial|exact fun _=>rfl|exact fun hc=>hc) ?_|refine EL rfl rfl rfl rfl (by first|exact fun _=>trivial|exact fun _=>rfl|exact fun hc=>hc) (by first|exact fun _=>trivial|exact fun _=>rfl|exact fun hc=>hc) ?_|refine EY rfl rfl rfl rfl rfl (by first|exact fun _=>trivial|exact fun _=>rfl|exact fun hc=>hc) (fun hc h=>by first|exact trivial|exact rfl|exact hc|(show Eq _ _;rw[hc,h];rfl)|(show Eq _ _;rw[h,hc];rfl)|(show Eq _ _;simp[hc,h];done)|(show Eq _ _;simp_all;done)) (fun hc h=>by first|exact trivial|exact rfl|exact hc|(show Eq _ _;rw[hc,h];rfl)|(show Eq _ _;rw[h,hc];rfl)|(show Eq _ _;simp[hc,h];done)|(show Eq _ _;simp_all;done)) ?_)
  (first|refine bw rfl rfl (dO (v:=.s (.bool _)) rfl) (fun hc=>⟨(by repeat' (first|exact trivial|exact hc|exact rfl|refine And.intro ?_ ?_)),trivial⟩) ?_)
  (first|refine bw rfl rfl (dO (v:=.s (.int _ _)) rfl) (fun hc=>⟨(by repeat' (first|exact trivial|exact hc|exact rfl|refine And.intro ?_ ?_)),trivial⟩) ?_)
  (first|refine bw rfl rfl (adx rfl rfl aiS) (fun hc=>⟨(by repeat' (first|exact trivial|exact hc|exact rfl|refine And.intro ?_ ?_)),rfl⟩) ?_|refine bw rfl rfl (GD rfl rfl) (fun hc=>⟨(by repeat' (first|exact trivial|exact hc|exact rfl|refine And.intro ?_ ?_)),rfl⟩) ?_)
  (first|refine EK rfl rfl rfl rfl (by first|exact fun _=>trivial|exact fun _=>rfl|exact fun hc=>hc) (by first|exact fun _=>trivial|exact fun _=>rfl|exact fun hc=>hc) ?_|refine EL rfl rfl rfl rfl (by first|exact fun _=>trivial|exact fun _=>rfl|exact fun hc=>hc) (by first|exact fun _=>trivial|exact fun _=>rfl|exact fun hc=>hc) ?_|refine EY rfl rfl rfl rfl rfl (by first|exact fun _=>trivial|exact fun _=>rfl|exact fun hc=>hc) (fun hc h=>by first|exact trivial|exact rfl|exact hc|(show Eq _ _;rw[hc,h];rfl)|(show Eq _ _;rw[h,hc];rfl)|(show Eq _ _;simp[hc,h];done)|(show Eq _ _;simp_all;done)) (fun hc h=>by first|exact trivial|exact rfl|exact hc|(show Eq _ _;rw[hc,h];rfl)|(show Eq _ _;rw[h,hc];rfl)|(show Eq _ _;simp[hc,h];done)|(show Eq _ _;simp_all;done)) ?_)
  (first|refine bw rfl rfl (dO (v:=.s (.bool _)) rfl) (fun hc=>⟨(by repeat' (first|exact trivial|exact hc|exact rfl|refine And.intro ?_ ?_)),trivial⟩) ?_)
  (first|refine bw rfl rfl (dO (v:=.s (.int _ _)) rfl) (fun hc=>⟨(by repeat' (first|exact trivial|exact hc|exact rfl|refine And.intro ?_ ?_)),trivial⟩) ?_)
  (first|refine bw rfl rfl (j8 rfl s7 mh rfl) (fun hc=>⟨(by repeat' (first|exact trivial|exact hc|exact rfl|refine And.intro ?_ ?_)),(kb t82 mh oS)⟩) ?_|refine bw rfl rfl (ff rfl rfl s7 mh rfl) (fun hc=>⟨(by repeat' (first|exact trivial|exact hc|exact rfl|refine And.intro ?_ ?_)),(fh t82 mh (by first|(simp;done)|omega|exact bF rfl))⟩) ?_)
  (first|refine tU rfl rfl rfl (fun hc=>⟨(by repeat' (first|exact trivial|exact hc|exact rfl|refine And.intro ?_ ?_)),iV⟩) ?_|refine tU rfl rfl rfl (fun hc=>⟨(by repeat' (first|exact trivial|exact hc|exact rfl|refine And.intro ?_ ?_)),iV hc⟩) ?_|refine sv iV rfl rfl rfl rfl (aiT rfl) aP ?_|refine tU rfl rfl rfl (fun hc=>⟨(by repeat' (first|exact trivial|exact hc|exact rfl|refine And.intro ?_ ?_)),LR⟩) ?_|refine sv LR rfl rfl rfl rfl (afj rfl) aP ?_)
  (first|refine bw rfl rfl (Ah rfl rfl uq) (fun hc=>⟨(by repeat' (first|exact trivial|exact hc|exact rfl|refine And.intro ?_ ?_)),rfl⟩) ?_|refine bw rfl rfl (CT rfl rfl) (fun hc=>⟨(by repeat' (first|exact trivial|exact hc|exact rfl|refine And.intro ?_ ?_)),rfl⟩) ?_)
  (first|refine EK rfl rfl rfl rfl (by first|exact fun _=>trivial|exact fun _=>rfl|exact fun hc=>hc) (by first|exact fun _=>trivial|exact fun _=>rfl|exact fun hc=>hc) ?_|refine EL rfl rfl rfl rfl (by first|exact fun _=>trivial|exact fun _=>rfl|exact fun hc=>hc) (by first|exact fun _=>trivial|exact fun _=>rfl|exact fun hc=>hc) ?_|refine EY rfl rfl rfl rfl rfl (by first|exact fun _=>trivial|exact fun _=>rfl|exact fun hc=>hc) (fun hc h=>by first|exact trivial|exact rfl|exact hc|(show Eq _ _;rw[hc,h];rfl)|(show Eq _ _;rw[h,hc];rfl)|(show Eq _ _;simp[hc,h];done)|(show Eq _ _;simp_all;done)) (fun hc h=>by first|exact trivial|exact rfl|exact hc|(show Eq _ _;rw[hc,h];rfl)|(show Eq _ _;rw[h,hc];rfl)|(show Eq _ _;simp[hc,h];done)|(show Eq _ _;simp_all;done)) ?_)
  (first|refine Qi rfl rfl (by first|exact trivial|exact rfl) ?_|refine Qj rfl rfl (by first|exact trivial|exact rfl) ?_|refine Rm rfl rfl rfl (fun h=>by first|exact trivial|exact rfl|exact h|(show Eq _ _;rw[h];rfl)|(show Eq _ _;simp[h];done)|(show Eq _ _;simp_all;done)) (fun h=>by first|exact trivial|exact rfl|exact h|(show Eq _ _;rw[h];rfl)|(show Eq _ _;simp[h];done)|(show Eq _ _;simp_all;done)) ?_)
  refine af (ct rfl (fun h=>(by revert h;simp)) fun h=>bX (aj ?_));rw[if_neg he];refine aV ?_;exact af (bH (mY (gP rfl rfl s7 mh rfl t82 (bc 3)) rfl rfl))
end Go.Proofs.Tryz.K
namespace Go.Abs
section
variable{P:Program}{Y:eb}{Q:Exit->St->Prop}{st:St}{b:Code}
theorem K0{a:Code}(h:AX P Y a (fM (fun st'=>∃ C,aL P st' C/\AX P Y b Q C) Q) st):AX P Y (.seq a b) Q st:=h
theorem AH[dA Y]{ops:Array Oper}{id:Nat}(h:av P Y ops false [] (eQ fun st=>∃ st',aL P st st'/\AX P Y b Q st') ops.toList st []):AX P Y (.seq (.region id ops false) b) Q st:=by
 show AW P Y true (.region id ops false) _ st;exact ly (rf:=true) (av.iJ h fun _ h=>h)
theorem afk(h:Q .ret st):AX P Y .ret Q st:=h
theorem acr{env:Env}{I:Mem->Nat->Prop}(h:Q .ret ⟨env,st.mem,st.nx⟩):xA env I Q .ret st:=h
theorem Kn{a1 a2 a3:Nat}{t1 t2 t3:TypeId}{K:D->St->Prop}{C J M:D}(h1:∃ p,nG P st (.cell a1 t1)=some (p,C)/\p)(h2:∃ p,nG P st (.cell a2 t2)=some (p,J)/\p)(U:∃ p,nG P st (.cell a3 t3)=some (p,M)/\p)(h:K (.aM [C,J,M]) st):
 gX P [.cell a1 t1,.cell a2 t2,.cell a3 t3] K .ret st:=by
 obtain⟨X,a1,b1⟩:=h1;obtain⟨p2,a2,b2⟩:=h2;obtain⟨p3,a3,b3⟩:=U;simp only[gX,nH,a1,a2,a3];exact⟨b1,b2,b3,h⟩
end
def NM:Value->Value->Bool
 | .int k n,.int k' n'=>decide (k=k')&&decide (n=n')
 | .bool a,.bool b=>a==b
 | .string a,.string b=>decide (a=b)
 |_,_=>false
theorem adM{a b:Value}(h:NM a b=true):a=b:=by
 unfold NM at h;split at h
 .rw[ba,decide_eq_true_eq,decide_eq_true_eq] at h;rw[h.1,h.2]
 .rw[show _=_ from eq_of_beq h]
 .rw[of_decide_eq_true h]
 .cases h
def uB(g:D->D->Bool):List D->List D->Bool
 |[],[]=>true
 |a::xs,b::bs=>g a b&&uB g xs bs
 |_,_=>false
def zv:Nat->D->D->Bool
 |0,_,_=>false
 |_+1,.s a,.s b=>NM a b
 |_+1,.z,.z=>true
 |_+1,.sl [] 0,.z=>true
 |k+1,.agg a,.agg b=>uB (zv k) a b
 |k+1,.aM a,.aM b=>uB (zv k) a b
 |k+1,.sl a n,.sl b m=>Nat.beq n m&&uB (zv k) a b
 |k+1,.pt a,.pt b=>uB (zv k) a b
 |_+1,_,_=>false
theorem Cb{g:D->D->Bool}:∀ {xs bs:List D},uB g xs bs=true->xs.length=bs.length/\∀ (k:Nat) a,xs[k]? =some a->∃ b,bs[k]? =some b/\g a b=true
 |[],[],_=>⟨rfl,fun k a h=>by simp at h⟩
 |a::xs,b::bs,h=>by
  simp only[uB,ba] at h;obtain⟨h1,h2⟩:=Cb h.2;refine⟨by simp[h1],fun k x hx=>?_⟩;cases k with
  |zero=>simp at hx;subst hx;exact⟨b,rfl,h.1⟩
  |succ k=>exact h2 k x (by simpa using hx)
 |[],_::_,h=>by simp[uB] at h
 |_::_,[],h=>by simp[uB] at h
theorem Dd{F:Nat->Prop}{β:aE}{w:World}:∀ (k:Nat) {a b:D} {v:Value},zv k a b=true->R F β w b v->R F β w a v
 |0,a,b,v,h,_=>by simp[zv] at h
 |k+1,a,b,v,h,hv=>by
  unfold zv at h;split at h
  .cases h
  .rename_i e;rw[adM h];exact hv
  .exact hv
  .obtain⟨x,rfl⟩:=hv.tY;exact .gg x 0
  .rename_i a b e;cases e;obtain⟨h1,h2⟩:=Cb h;cases hv with
   |agg _ vs hl hh=>
    refine .agg _ vs oG fun j d u hd hu=>?_;obtain⟨C,hb,hg⟩:=h2 j d hd;exact Dd k hg (hh j C u hb hu)
  .rename_i a b e;cases e;obtain⟨h1,h2⟩:=Cb h;cases hv with
   |aM _ vs hl hh=>
    refine .aM _ vs oG fun j d u hd hu=>?_;obtain⟨C,hb,hg⟩:=h2 j d hd;exact Dd k hg (hh j C u hb hu)
  .rename_i a n b m e;cases e;rw[ba] at h;have BE:n=m:=Nat.eq_of_beq_eq_true h.1;obtain⟨h1,h2⟩:=Cb h.2;subst BE;cases hv with
   |gg a' cap=>
    have:a=[]:=List.length_eq_zero_iff.1 (by simpa using h1);subst this;exact .gg _ _
   |sl _ _ C o cap us J M U g4 g5 X g7=>
    refine .sl _ _ C o cap us J M U g4 g5 (fun j hj=>X j oG) fun j d hd=>?_;obtain⟨d',hb,hg⟩:=h2 j d hd;exact Dd k hg (g7 j d' hb)
  .rename_i a b e;cases e;obtain⟨h1,h2⟩:=Cb h;cases hv with
   |pt _ C o us J M U X g7=>
    refine .pt _ C o us J M U (fun j hj=>X j oG) fun j d hd=>?_;obtain⟨d',hb,hg⟩:=h2 j d hd;exact Dd k hg (g7 j d' hb)
  .cases h
end Go.Abs
namespace Go.Proofs.Tryz.K
theorem jQ{l:List au}{a b:Int}(hl:l.length<=1000):aD prog 35 [bi l,I a,I b] (.aM (kW l a b)):=by
 have oQ:=oQ (a:=a) (b:=b) hl;refine aay mixed aiU kr (.cons (iB l) (.cons (.s _) (.cons (.s _) .nil))) (.aM (Zl l a b)) ?_;rw[aiV];have oJ:=xe (l:=l);have rm:=B4 (l:=l);have sP:=tW (l:=l);obtain⟨err,C⟩:∃ err,err=(if(cW l).2=0 then(if fB l.length a&&fB l.length b then 0 else 1) else(cW l).2):=⟨_,rfl⟩
 rw[<- C] at oQ;by_cases he:err=0
 .have h0:(cW l).2=0:=by
   by_cases h:(cW l).2=0
   .exact h
   .rw[if_neg h] at C;omega
  have iI:(fB l.length a&&fB l.length b)=true:=by
   rw[if_pos h0] at C;cases h:(fB l.length a&&fB l.length b) with
   |true=>rfl
   |false=>rw[h] at C;simp at C;omega
  have J:=sP h0;rw[oJ h0] at oQ;unfold kW;rw[if_pos h0,if_pos iI];rw[he] at oQ;simp only[fB,ba,decide_eq_true_eq] at iI;obtain⟨⟨a0,a1⟩,b0,b1⟩:=iI;obtain⟨p,rfl⟩:=iQ a0;obtain⟨q,rfl⟩:=iQ b0;refine AH ?_;refine ay ?_;refine af ⟨_,.refl _,AH ?_⟩;refine ay ?_;refine cl oQ ?_;refine cm ?_;refine af ⟨_,.refl _,K0 (aj ?_)⟩;refine ag ?_;refine af (aR rfl (fun h=>oH) fun h=>cO ⟨_,.refl _,K0 (AH ?_)⟩);have Nb:=Nb (l:=l) (sh:=br l) (ca:=(aO l).map ap) (a:=(p:Int)) (b:=(q:Int));refine aV ?_;refine cl Nb ?_
  have wR:G9 prog 114 [] [.pt [I p,I q],.pt (cM l (br l) ((aO l).map ap))] ((mC (bU l) (aO l) p q).map CI):=aiL (by simp[br]) oP J.po J.vT oP oP fun x hx=>by
   obtain⟨f,hf,rfl⟩:=List.mem_map.1 hx;have:=wX f.blocks;have:=(tH (Go.Argus.checked (J.rK f hf))).j7;simp;omega
  obtain⟨U,X⟩:∃ U:Mem,U=up (up (up (up (up (fun _=>none) 0 (some (Row.cells [D.z] 43))) 1 (some (Row.cells [B false] 4))) 2 (some (Row.cells [I 0] 27))) 3 (some (Row.cells [D.z,D.z,D.z] 82))) 3 (some (Row.cells (cM l (br l) ((aO l).map ap)) 82)):=⟨_,rfl⟩
  refine af ⟨⟨aA [(6,.rp 0 0),(7,.rp 1 0),(8,.rp 2 0),(9,.pt (cM l (br l) ((aO l).map ap))),(27,.fn (.func 114) [] [.pt [I p,I q],.pt (cM l (br l) ((aO l).map ap))])],de 3 (cM l (br l) ((aO l).map ap)) (prog.cellsOf 82) U,4⟩,?_,?_⟩
  .subst X;exact lv (i:=3) (cs:=cM l (br l) ((aO l).map ap)) (e:=82) rfl eH
  have r0:de 3 (cM l (br l) ((aO l).map ap)) (prog.cellsOf 82) U 0=some (.cells [.z] 43):=by rw[X];rfl
  have r1:de 3 (cM l (br l) ((aO l).map ap)) (prog.cellsOf 82) U 1=some (.cells [B false] 4):=by rw[X];rfl
  have r2:de 3 (cM l (br l) ((aO l).map ap)) (prog.cellsOf 82) U 2=some (.cells [I 0] 27):=by rw[X];rfl
  generalize de 3 (cM l (br l) ((aO l).map ap)) (prog.cellsOf 82) U=m5 at*
  clear X oJ rm sP C;rw[iv,iv];refine⟨trivial,114,[],_,_,fun k m nx=>m 0=some (.cells [.z] 43)/\m 1=some (.cells [B false] 4)/\m 2=some (.cells [I 0] 27)/\3<=nx/\∀ j x,j<k->(mC (bU l) (aO l) p q)[j]? =some x->(bU l).getD x.1.1 0=(bU l).getD x.1.2 0,rfl,wR,fun x hx=>?_,⟨r0,r1,r2,oM,fun j x hj=>by omega⟩,?_,?_⟩
  .obtain⟨y,_,rfl⟩:=List.mem_map.1 hx;exact⟨rfl,.cons (.agg (.cons (.s _) (.cons (.s _) .nil))) (.cons (c6 _) .nil)⟩
  .rintro k m nx x hx ⟨r0,r1,r2,cC,Hi⟩;rw[List.getElem?_map,cU] at hx;obtain⟨x,hx,rfl⟩:=hx;refine az ?_;refine eC (Fj Hh) aP t121 ?_;refine bL (fg rfl rfl (al _ _ _) rfl) aP (bY t121 LQ ⟨rfl,bc 2⟩ (by rfl)) ?_;have hB:BI (bU l) (aO l) (p,q) (mC (bU l) (aO l) p q) ((Cm (a:=p) (b:=q) J.po J.vT oP oP).choose) []:=(Cm J.po J.vT oP oP).choose_spec;obtain⟨zp,BA⟩:=JU J.po J.vT oP oP (hB.lead x (by rw[List.append_nil];exact bz hx));clear hB;obtain⟨sa,uU⟩:∃ sa,(br l)[x.1.1]? =some sa:=⟨_,a8 (by simpa[br] using zp)⟩
   obtain⟨sb,zq⟩:∃ sb,(br l)[x.1.2]? =some sb:=⟨_,a8 (by simpa[br] using BA)⟩
   have jo:=E4 uU zq;obtain⟨M,ie⟩:∃ M,M=up (up m nx (some (Row.cells [I 0,I 0] 121))) nx (some (Row.cells [I x.1.1,I x.1.2] 121)):=⟨_,rfl⟩
   have oA:∀ i,i≠nx->M i=m i:=fun i hi=>by rw[ie,aB _ _ hi,aB _ _ hi]
   have r0:de nx [I x.1.1,I x.1.2] (prog.cellsOf 121) M 0=some (.cells [.z] 43):=gS ((oA 0 oG).trans r0) oG (.cells fun d hd=>by simp at hd;subst hd;exact .z);have r1:de nx [I x.1.1,I x.1.2] (prog.cellsOf 121) M 1=some (.cells [B false] 4):=gS ((oA 1 oG).trans r1) oG (.cells fun d hd=>by simp at hd;subst hd;exact .s _);have r2:de nx [I x.1.1,I x.1.2] (prog.cellsOf 121) M 2=some (.cells [I 0] 27):=gS ((oA 2 oG).trans r2) oG (.cells fun d hd=>by simp at hd;subst hd;exact .s _);refine af ⟨⟨aA [(6,.rp 0 0),(7,.rp 1 0),(8,.rp 2 0),(9,.pt (cM l (br l) ((aO l).map ap))),(11,.pt [I x.1.1,I x.1.2]),(29,aQ (ap x.2))],de nx [I x.1.1,I x.1.2] (prog.cellsOf 121) M,nx+1⟩,?_,?_⟩
   .clear r0 r1 r2 oA;subst ie;exact lv (i:=nx) (cs:=[I x.1.1,I x.1.2]) (e:=121) (al _ _ _) ⟨gk oG,gk oG,gk oG,rfl,lQ,rfl,trivial⟩
   generalize de nx [I x.1.1,I x.1.2] (prog.cellsOf 121) M=m at*
   refine xD ?_;refine SS ?_;refine af (show AW _ _ _ _ _ _ from pE (eg aaX ?_));refine bt ?_;refine aV ?_;refine cu cE (aR rfl (fun h=>aj ?_) fun h=>c7 ?_)
   .have yO:pL (bU l) (aO l) p q=some x:=by
     have aG:((bU l).getD x.1.1 0==(bU l).getD x.1.2 0)=false:=by
      rw[jo];revert h;cases (sa.toList==sb.toList)<;>simp
     refine Rv hx (by simpa using aG) fun j y hj hy=>?_;have:=Hi j y hj hy;rw[this];exact bne_self_eq_false _
    rw[yO];refine SS ?_;refine bL (eF (d:=.sl _ _) (cs':=[_]) rfl rfl r0 rfl rfl) aP (bY t43 s8 ⟨rfl,bF rfl⟩ rfl) ?_;refine bL (eF (d:=.s (.bool _)) (cs':=[_]) rfl rfl r1 rfl rfl) aP (bY t4 c4 ⟨rfl,bF rfl⟩ rfl) ?_;refine bL (eF (d:=.s (.int _ _)) (cs':=[_]) rfl rfl r2 rfl rfl) aP (bY t27 BC ⟨rfl,bF rfl⟩ rfl) ?_;refine af (bH (ez (acr (ez (bD ?_)))));exact Kn (tl (v:=aQ (ap x.2)) rfl rfl HW s8 rfl t43) (tl rfl rfl a4 c4 rfl t4) (tl rfl rfl HX BC rfl t27) rfl
   .refine⟨r0,r1,r2,oM,fun j y hj hy=>?_⟩;by_cases sV:j<k
    .exact Hi j y sV hy
    .have:j=k:=by omega
     subst this;rw[hx] at hy;cases hy
     have he:((bU l).getD x.1.1 0==(bU l).getD x.1.2 0)=true:=by
      rw[jo];revert h;cases (sa.toList==sb.toList)<;>simp
     simpa using he
  .rintro m nx ⟨r0,r1,r2,cC,Hi⟩;refine⟨_,.refl _,AH ?_⟩
   have yO:pL (bU l) (aO l) p q=none:=by
    unfold pL;refine List.find?_eq_none.2 fun y hy=>?_;obtain⟨j,hj⟩:=ep hy;have dw:j<((mC (bU l) (aO l) p q).map CI).length:=by rw[List.length_map];exact(bM.1 hj).1
    have:=Hi j y dw hj;rw[this];simp
   rw[yO];refine bL (eF (d:=.z) (cs':=[_]) rfl rfl r0 rfl rfl) aP (bY t43 s8 ⟨rfl,bF rfl⟩ rfl) ?_;refine bL (eF (d:=.s (.bool _)) (cs':=[_]) rfl rfl r1 rfl rfl) aP (bY t4 c4 ⟨rfl,bF rfl⟩ rfl) ?_;refine bL (eF (d:=.s (.int _ _)) (cs':=[_]) rfl rfl r2 rfl rfl) aP (bY t27 BC ⟨rfl,bF rfl⟩ rfl) ?_;refine af ⟨_,.refl _,afk ?_⟩;exact Kn (tl (v:=.z) rfl rfl HW s8 rfl t43) (tl rfl rfl a4 c4 rfl t4) (tl rfl rfl HX BC rfl t27) rfl
 .have hO:∃ o:List D,oe l=o/\o.length=3/\o.all D.one=true:=by
   refine⟨_,rfl,?_⟩;unfold oe;split<;>exact⟨rfl,rfl⟩
  have lZ:kW l a b=[.z,B false,I err]:=by
   unfold kW;rw[C];split
   .rename_i h0;split
    .rename_i h1;rw[if_pos h0,if_pos h1] at C;exact absurd C he
    .rfl
   .rfl
  rw[lZ];obtain⟨o,ho,Ec,rD⟩:=hO;rw[ho] at oQ;clear oJ rm sP C lZ;refine AH ?_;refine ay ?_;refine af ⟨_,.refl _,AH ?_⟩;refine ay ?_;refine cl oQ ?_;refine aV ?_;refine bL (fg rfl rfl rfl rfl) aP (bY t82 mh ⟨Ec,oS⟩ rD) ?_;refine SS ?_;refine af ⟨_,.refl _,K0 (aj ?_)⟩;refine ag ?_;refine af (aR rfl (fun h=>aj ?_) fun h=>absurd (by simpa using h) he);refine SS ?_;refine bL (eF (d:=.z) (cs':=[_]) rfl rfl rfl rfl rfl) ak (bY V.h V.h (by first|(simp;done)|exact⟨rfl,bF rfl⟩|(simp;omega)) rfl) ?_;refine bL (eF (d:=.s (.bool _)) (cs':=[_]) rfl rfl rfl rfl rfl) ak (bY V.h V.h (by first|(simp;done)|exact⟨rfl,bF rfl⟩|(simp;omega)) rfl) ?_;refine SS ?_;exact af (bH (bD (Kn (tl (v:=.z) rfl rfl HW s8 rfl t43) (tl rfl rfl a4 c4 rfl t4) (tl rfl rfl HX BC rfl t27) rfl)))
theorem uV{l:List au}{a b:Int}{way:List Int}(hl:l.length<=1000):aD prog 37 [bi l,I a,I b,aQ way] (.aM [B (sx l a b way),I (qi l a b)]):=by
 refine mo Uk.he (.cons (iB l) (.cons (.s _) (.cons (.s _) (.cons (c6 _) .nil)))) fun eI=>?_;have hw:=(eI (aQ way) oS).sl.1;unfold maxLen at hw;have oQ:aD prog 70 [bi l,I a,I b] (.aM [.agg (oe l),I (qi l a b)]):=oQ (a:=a) (b:=b) hl;refine bj Uk (.cons (iB l) (.cons (.s _) (.cons (.s _) (.cons (c6 _) .nil)))) (.aM (.cons (.s _) (.cons (.s _) .nil))) ?_;rw[aiW];have oJ:=xe (l:=l);have sP:=tW (l:=l);have X:=Sg (l:=l) (a:=a) (b:=b);have rm:=Rw (l:=l) (a:=a) (b:=b) (way:=way);generalize qi l a b=err at*
 by_cases he:err=0
 .obtain⟨h0,p,q,rfl,rfl,hp,hq⟩:=X he;subst he;have M:=sP h0;rw[oJ h0] at oQ;rw[Gk h0 hp hq];clear oJ sP X rm;refine ws ?_;refine ag ?_;refine er ?_;refine ay ?_;refine cl oQ ?_;refine cm ?_;refine af (aC (aj ?_));refine ag ?_;refine af (ct rfl (fun h=>oH) fun h=>bX (aC (az ?_)));refine ay ?_;have amF:(bU l).length=l.length:=by simp[bU,br]
  have amG:(aO l).length=l.length:=by simp
  have mV:∀ x∈aO l,x.length<=100000:=fun x hx=>by
   obtain⟨f,hf,rfl⟩:=List.mem_map.1 hx;have:=wX f.blocks;have:=(tH (Go.Argus.checked (M.rK f hf))).j7;simp;omega
  have lZ:∃ r,r=gG (bU l) (aO l) p q way:=⟨_,rfl⟩
  obtain⟨r,hr⟩:=lZ;rw[<- hr]
  refine af (cz (fun s=>∃ (p q nx:Nat),aL prog s ⟨aA [(1,I p),(2,I q),(10,.pt (cM l (br l) ((aO l).map ap)))],fun _=>none,nx⟩/\p<l.length/\q<l.length/\r= !((bU l).getD p 0==(bU l).getD q 0)) (cy (α:=Nat×Nat×Nat×Nat)
   (fun s=>⟨aA [(1,I s.2.1),(2,I s.2.2.1),(10,.pt (cM l (br l) ((aO l).map ap))),(24,aQ way),(25,I way.length),(26,I s.1)],fun _=>none,s.2.2.2⟩)
   (fun s=>s.1<=way.length/\s.2.1<l.length/\s.2.2.1<l.length/\r=gG (bU l) (aO l) s.2.1 s.2.2.1 (way.drop s.1)) (fun s=>way.length - s.1) (0,p,q,1)
   (dE [(0,cM l (br l) ((aO l).map ap),82)] eH eH) ⟨Nat.zero_le _,hp,hq,hr⟩ ?_) ?_)
  .clear hp hq hr;rintro⟨k,p,q,nx⟩ ⟨hk,hp,hq,hr⟩;dsimp only at hk hp hq hr ⊢;refine SS ?_;refine af ⟨_,rfl,fun h=>?_,fun h=>?_⟩
   .have gM:k<way.length:=by simpa using h
    clear h;obtain⟨x,hx⟩:∃ x,way[k]? =some x:=⟨_,a8 gM⟩
    obtain⟨C,uU⟩:∃ C,(br l)[p]? =some C:=⟨_,a8 (by simpa[br] using hp)⟩
    obtain⟨J,zq⟩:∃ J,(br l)[q]? =some J:=⟨_,a8 (by simpa[br] using hq)⟩
    have jo:=E4 uU zq;have aiN:((aO l).map ap)[p]? =some (ap ((aO l).getD p [])):=by rw[List.getElem?_map,dn (d:=[]) oG];rfl
    have aiO:((aO l).map ap)[q]? =some (ap ((aO l).getD q [])):=by rw[List.getElem?_map,dn (d:=[]) oG];rfl
    have hl1:(ap ((aO l).getD p [])).length<=100000:=by simpa using mV _ (bz (dn (d:=[]) (show p<(aO l).length by omega)))
    rw[Zm hx,jo] at hr;refine ws ?_;refine ay ?_;refine af (aC (eg aaY ?_));refine bt ?_;refine bt ?_;refine fV ?_;refine cu cE (ct rfl (fun h=>?_) fun h=>?_)
    .have Ko:r=false:=by
      rw[hr];revert h;cases (C.toList==J.toList) with
      |false=>simp
      |true=>
       intro h;by_cases h1:x<0
       .rw[decide_eq_false (show ¬ 0<=x by omega)];simp
       .by_cases h2:x<(((aO l).getD p []).length:Int)
        .exfalso;revert h;simp[h1];simp at h2;omega
        .rw[decide_eq_false h2];simp
     rw[Ko];refine aC (aj ?_);refine ag ?_;exact af (tR (bH (bD (cv (bD (fH rfl rfl rfl))))))
    .have hb:(C.toList==J.toList)=true/\0<=x/\x<(((aO l).getD p []).length:Int):=by
      revert h;cases (C.toList==J.toList) with
      |false=>simp
      |true=>
       intro h;refine⟨rfl,?_⟩;by_cases h1:x<0
       .exfalso;revert h;simp[h1]
       .refine⟨oG,?_⟩;revert h;simp[h1]
     obtain⟨hs,x0,x1⟩:=hb;obtain⟨i,rfl⟩:=iQ x0;have U:i<((aO l).getD p []).length:=by omega
     have eY:(bU l).getD p 0=(bU l).getD q 0:=by
      have:((bU l).getD p 0==(bU l).getD q 0)=true:=by rw[jo];exact hs
      simpa using this
     have Vr:i<((aO l).getD q []).length:=by
      rw[<- M.vT p q oG oG eY];exact U
     have sZ:(ap ((aO l).getD p []))[i]? =some ((((aO l).getD p []).getD i 0:Nat):Int):=by rw[List.getElem?_map,dn (d:=0) U];rfl
     have mR:(ap ((aO l).getD q []))[i]? =some ((((aO l).getD q []).getD i 0:Nat):Int):=by rw[List.getElem?_map,dn (d:=0) Vr];rfl
     have pw:=M.po p _ (bz (dn (d:=0) U));have fm:=M.po q _ (bz (dn (d:=0) Vr));rw[hs,decide_eq_true x0,decide_eq_true x1,iv] at hr;simp only[Bool.true_and] at hr;refine bX (zU aaZ ?_);refine bt ?_;refine bt ?_;refine cu cE ?_;refine ag ?_;exact af (bh (k+1,((aO l).getD p []).getD i 0,((aO l).getD q []).getD i 0,nx) (aw eH) ⟨oM,oM,oM,hr⟩ oM)
   .have bq:¬ k<way.length:=by simpa using h
    refine⟨p,q,nx,aw eH,hp,hq,?_⟩;rw[List.drop_eq_nil_of_le oG] at hr;exact hr
  .rintro s ⟨p,q,nx,dG,hp,hq,hr⟩;obtain⟨C,uU⟩:∃ C,(br l)[p]? =some C:=⟨_,a8 (by simpa[br] using hp)⟩
   obtain⟨J,zq⟩:∃ J,(br l)[q]? =some J:=⟨_,a8 (by simpa[br] using hq)⟩
   rw[E4 uU zq] at hr;rw[hr];refine⟨_,dG,eg Zn ?_⟩;refine bt ?_;refine aV ?_;exact cu cE (bH (fH rfl rfl rfl))
 .have hO:∃ o:List D,oe l=o/\o.length=3/\o.all D.one=true:=by
   refine⟨_,rfl,?_⟩;unfold oe;split<;>exact⟨rfl,rfl⟩
  rw[rm he];obtain⟨o,ho,Ec,rD⟩:=hO;rw[ho] at oQ;clear oJ rm sP X;refine ws ?_;refine ag ?_;refine er ?_;refine ay ?_;refine cl oQ ?_;refine aV ?_;refine bL (fg rfl rfl rfl rfl) aP (bY t82 mh ⟨Ec,oS⟩ rD) ?_;refine SS ?_;refine af (aC (aj ?_));refine ag ?_;refine af (ct rfl (fun h=>aC (aj ?_)) fun h=>absurd (by simpa using h) he);refine ay ?_;exact af (tR (bH (bD (fH rfl rfl rfl))))
end Go.Proofs.Tryz.K
end
namespace Go.Abs
section
variable{P:Program}{m:Mem}{rds:List Nat}
theorem adm{i off:Nat}{cs es es':List D}{e:TypeId}(hm:m i=some (.cells cs e))(hi:i∈rds)(M:cs.drop off=es)(hlen:es'.length=es.length)(hs:∀ (k:Nat) (d d':D),es[k]? =some d->es'[k]? =some d'->Sn P rds m d d'):Sn P rds m (.rp i off) (.pt es'):=fun F β w v hl hv=>by
 subst M;obtain⟨p,hp,hr,U⟩:=hl i hi _ hm;cases hv with
 |qk _ _ _ h1 _=>rw[h1] at hp;cases hp;cases hr
 |rp _ _ b o len room sz h1=>
  rw[h1] at hp;cases hp
  have ah:b<w.heap.size:=by
   cases hr with
   |cells _ _ _ _ _ _ c hb _ _ _ _=>exact(Array.getElem?_eq_some_iff.1 hb).1
  obtain⟨J,U1,bC,_⟩:=hr.rd;obtain⟨us,X,u2⟩:=J.drop off;refine .pt _ b (o+off) us (U b rfl) (fun k q hq=>by cases hq) ah (by rw[hlen];exact X) fun k d hk=>?_;have C:k<(cs.drop off).length:=by rw[<- hlen];exact(bM.1 hk).1
  exact hs k (cs.drop off)[k] d (a8 C) hk _ _ _ _ hl (u2 k _ (a8 C))
theorem aed{f:Fn}{fs cs cs':List D}(hf:∀ a∈fs,Tr a)(hlen:cs'.length=cs.length)(hs:∀ (k:Nat) (d d':D),cs[k]? =some d->cs'[k]? =some d'->Sn P rds m d d'):Sn P rds m (.fn f fs cs) (.fn f fs cs'):=fun F β w v hl hv=>by
 cases hv with
 |fn _ _ _ us vs M J h1 h2=>
  refine .fn f fs cs' us vs M (by rw[hlen];exact J) (fun k d v hd hv=>(hf d (bz hd)).At (h1 k d v hd hv)) fun k d v hd hv=>?_;have C:k<cs.length:=by rw[<- hlen];exact(bM.1 hd).1
  exact hs k cs[k] d (a8 C) hd _ _ _ _ hl (h2 k _ v (a8 C) hv)
end
section
variable{P:Program}{m:Mem}{nx:Nat}
def less(rds:List Nat)(m:Mem):Mem:=fun i=>if i∈rds then none else m i
theorem YH{f:FuncId}{rds:List Nat}{args U:List D}{r:D}(eY:jr P rds m args U)(hc:aD P f U r):
 fG P f args m nx (fun d m' ao=>d=r/\m'=less rds m/\ao=nx):=by
 refine⟨hc.1,fun F β w vs hm hβ hR=>?_⟩
 let F':Nat->Prop:=fun b=>F b\/∃ i p,i∉rds/\β i=some p/\p.bG=some b
 let β':aE:=fun i=>if i∈rds then(β i).map fun _=>.dead else β i
 have M:∀ b,¬ F b->β.free b->¬ F' b:=fun b h1 h2 h=>by
  rcases h with h|⟨i,p,_,hi,hb⟩
  .exact h1 h
  .exact h2 i p hi hb
 have Mx:FB F' w:=⟨fun b hb=>by
  rcases hb with hb|⟨i,p,_,hi,hb⟩
  .exact hm.fb.lt b hb
  .exact hm.lt i p b hi hb,fun t ht=>⟨.inl (hm.fb.ma t ht).1,(hm.fb.ma t ht).2⟩⟩
 have gen:∀ {d:D} {v:Value},R F β w d v->R F' β w d v:=fun h=>h.gen (bc _) (fun b _ h1 h2=>⟨ku.refl w b,h2,M b h1 h2⟩) fun _ _ _ h=>.inl h
 obtain⟨h1,h2⟩:=CM (P:=P) (F:=F') (β:=β) (w:=w) (fun i hi r hr=>by
  obtain⟨p,hp,aq⟩:=hm.row i r hr;refine⟨p,hp,aq.gen (bc _) (fun b _ h1 h2=>⟨ku.refl w b,h2,M b h1 h2⟩) (fun _ _ _ h=>.inl h) (fun _ _=>rfl),fun b hb h=>?_⟩;rcases h with h|⟨j,q,hj,hq,yH⟩
  .exact hm.nf i p b hp hb h
  .exact hj (hm.inj i j p q b hp hq hb yH▸hi)) eY
 refine(hc.2.2 F' w vs Mx ⟨by rw[hR.1,h1],fun k d v hd hv=>?_⟩).mono ?_
 .have ah:k<args.length:=by rw[h1];exact(bM.1 hd).1
  exact h2 k args[k] d (by simp[ah]) hd v (gen (hR.2 k args[k] v (by simp[ah]) hv))
 rintro e w' ⟨v,he,hv,hk⟩
 have C:∀ {i p b},β' i=some p->p.bG=some b->i∉rds/\β i=some p:=fun {i p b} hp hb=>by
  by_cases hi:i∈rds
  .have:β' i=(β i).map fun _=>.dead:=if_pos hi;rw[this] at hp;obtain⟨q,_,rfl⟩:=cU.1 hp;cases hb
  .exact⟨hi,(if_neg hi:β' i=β i)▸hp⟩
 have hs:Step β w β' w':=by
  refine⟨hk.1,fun b hb hf=>⟨hk.2.1 b hb,fun i p hp J=>?_⟩,fun i p hp=>?_,hk.2.2⟩
  .exact hf i p (C hp J).2 J
  .by_cases hi:i∈rds
   .right;have:β' i=(β i).map fun _=>.dead:=if_pos hi;rw[this,hp];rfl
   .left;exact(if_neg hi:β' i=β i).trans hp
 refine⟨v,r,less rds m,nx,β',he,⟨rfl,rfl,rfl⟩,?_,fun i hi=>?_,?_,hs,bc _,fun i _ hi=>?_⟩
 .refine⟨fun i r hi=>?_,fun i j p q b hp hq e X=>?_,fun i p b hp e=>?_,fun i p b hp e=>?_,(hm.kept hk).fb⟩
  .unfold less at hi;split at hi
   .cases hi
   .rename_i hn;obtain⟨p,hp,aq⟩:=hm.row i r hi;exact⟨p,(if_neg hn:β' i=β i).trans hp,aq.step hs fun b hb=>hk.2.1 b (hm.lt i p b hp hb)⟩
  .exact hm.inj i j p q b (C hp e).2 (C hq X).2 e X
  .exact Nat.lt_of_lt_of_le (hm.lt i p b (C hp e).2 e) hk.1
  .exact hm.nf i p b (C hp e).2 e
 .have h0:=hβ i hi;show(if i∈rds then(β i).map fun _=>Pl.dead else β i)=none;rw[h0];split<;>rfl
 .refine hv.gen (bc _) (fun b _ h1 _=>⟨ku.refl w' b,fun i p hp J=>?_,fun h=>h1 (.inl h)⟩) fun i p _ h=>by cases h
  exact h1 (.inr ⟨i,p,(C hp J).1,(C hp J).2,J⟩)
 .show(if i∈rds then(β i).map fun _=>Pl.dead else β i)=none;rw[hi];split<;>rfl
theorem kv.adf{f:FuncId}{args es:List D}{n:Nat}{t:TypeId}(h:kv P f args es n t)(ht:Tr (.sl (es.take (n*P.cellsOf t)) n)):aD P f args (.sl (es.take (n*P.cellsOf t)) n):=by
 refine⟨h.1,h.2.1,fun F w vs C hR=>(h.2.2 F w vs C hR).mono ?_⟩;rintro e w' ⟨v,p,h1,h2,U,h4,h5,J⟩;refine⟨v,h1,?_,J⟩
 have b0:∀ {i q},up gz 0 (some p) i=some q->i=0/\q=p:=fun {i q} hi=>by
  by_cases e:i=0
  .subst e;rw[al] at hi;cases hi;exact⟨rfl,rfl⟩
  .rw[aB _ _ e] at hi;cases hi
 have hm:aK P F (up (fun _=>none) 0 (some (.cells es t))) (up gz 0 (some p)) w':=by
  refine⟨fun i r hi=>?_,fun i j q q' b hq X _ _=>(b0 hq).1.trans (b0 X).1.symm,fun i q b hq e=>?_,fun i q b hq e=>?_,C.next (fun b hb=>Nat.lt_of_lt_of_le (C.lt b hb) J.1) (fun _ h=>h) fun _ _ hb=>J.2.1 _ (C.lt _ hb)⟩
  .by_cases e:i=0
   .subst e;rw[al] at hi;cases hi;refine⟨p,al _ _ _,h4.gen (bc _) (fun b _ M _=>⟨ku.refl w' b,fun i q hq hb=>?_,fun C=>M (.inl C)⟩) (fun i q _ hq=>by cases hq) fun _ _=>rfl⟩;exact M (.inr ((b0 hq).2▸hb))
   .rw[aB _ _ e] at hi;cases hi
  .rw[(b0 hq).2] at e;exact(U b e).2
  .rw[(b0 hq).2] at e;intro hb;have:=C.lt b hb;have:=(U b e).1;omega
 have:=PU hm (al _ _ _) rfl h5;have e:cJ 0 es (P.cellsOf t) (.rs 0 0 n)=.sl (es.take (n*P.cellsOf t)) n:=by simp[cJ]
 rw[e] at this;exact ht.At this
theorem YI{f:FuncId}{args:List D}{r r':D}(hc:aD P f args r)(h:Wk r r'):aD P f args r':=
 ⟨hc.1,hc.2.1,fun F w vs C J=>(hc.2.2 F w vs C J).mono fun _ w' ⟨v,he,hv,hk⟩=>⟨v,he,h F gz w' v hv,hk⟩⟩
end
end Go.Abs
section
open Go Go.Abs Go.Proofs Go.Argus
namespace Go.Proofs.Tryz.K
set_option maxHeartbeats 1000000
theorem LU{l:List ByteArray}{s:ByteArray}:aD prog 122 [bZ l,S s] (I (mH (fun x=>s.toList==x.toList) l)):=by
 refine mo Tq.he (.cons (jb _) (.cons (.s _) .nil)) fun C=>?_;have hlen:=(C (bZ l) oS).sl.1;unfold maxLen at hlen;refine bj Tq (.cons (jb _) (.cons (.s _) .nil)) (Tr.s _) ?_;rw[afl];refine ws ?_;refine SS ?_;refine af (aC (az ?_));refine ay ?_
 refine af (cz (fun t=>aL prog t ⟨aA [],fun _=>none,0⟩/\∀ (j:Nat) y,l[j]? =some y->(s.toList==y.toList)=false) (cy (α:=Nat) (fun k=>⟨aA [(0,bZ l),(1,S s),(7,I l.length),(8,I k)],fun _=>none,0⟩)
  (fun k=>k<=l.length/\∀ j y,j<k->l[j]? =some y->(s.toList==y.toList)=false) (fun k=>l.length - k) 0 (aw eH) ⟨oG,fun j y hj=>by omega⟩ ?_) ?_)
 .rintro k ⟨hk,hinv⟩;refine SS ?_;refine af ⟨_,rfl,fun h=>?_,fun h=>?_⟩
  .have ah:k<l.length:=by simpa using h
   have hx:l[k]? =some l[k]:=by simp[ah]
   generalize l[k]=x at hx;refine ws ?_;refine ag ?_;refine er ?_;refine cm ?_;refine af (aR rfl (fun hp=>?_) fun hp=>?_)
   .refine ws ?_;refine ag ?_;refine af (bH (cv (bD (aJ rfl ?_))));rw[tu hx hp hinv];rfl
   .refine c7 ?_;refine ag ?_;refine af (bh (k+1) (aw eH) ⟨oG,fun j y hj hy=>?_⟩ oG);by_cases e:j=k
    .subst e;rw[hx] at hy;cases hy;exact hp
    .exact hinv j y oG hy
  .have M:¬ k<l.length:=by simpa using h
   exact⟨.forget _ _ _ _ fun _=>.inr rfl,fun j y hy=>hinv j y (by have:=(bM.1 hy).1;omega) hy⟩
 .rintro s ⟨hg,J⟩;refine⟨_,hg,aj ?_⟩;refine SS ?_;refine af (aJ rfl ?_);rw[w9 J];rfl
theorem HY{l:List ByteArray}{s:ByteArray}:aD prog 88 [bZ l,S s] (B (l.any fun x=>s.toList==x.toList)):=by
 have LU:=LU (l:=l) (s:=s);refine bj aiX (.cons (jb _) (.cons (.s _) .nil)) (Tr.s _) ?_;rw[aiY];refine ws ?_;refine SS ?_;refine er ?_;refine ag ?_;refine cl LU ?_;refine ag ?_;refine af (aJ rfl ?_);rw[<- zO];rfl
theorem k87{f:au}{s:ByteArray}:aD prog 87 [.agg (aY f),.pt [S s]] (B (f.name.toList==s.toList)):=by
 refine bj aiZ (.cons (.agg (nb f)) (.cons (.pt (.cons (.s _) .nil)) .nil)) (Tr.s _) ?_;rw[ai0];refine az ?_;refine ag ?_;refine af (bJ (dE [(0,aY f,48)] eH (l:=[(1,.pt [S s]),(2,.pt (aY f))]) eH) (aj ?_));refine bA ?_;exact af (aJ rfl rfl)
theorem HZ{l:List au}{g:FuncId}{fs cs:List D}{p:au->Bool}(hl:l.length<=1000000)(ht:Tr (.fn (.func g) fs cs))(hg:∀ x∈l,aD prog g (fs++[.agg (aY x)]++cs) (B (p x))):aD prog 86 [bi l,.fn (.func g) fs cs] (B (l.any p)):=by
 have yu:=yu hl ht hg;refine bj ai1 (.cons (iB _) (.cons ht .nil)) (Tr.s _) ?_;rw[ai2];refine ws ?_;refine SS ?_;refine er ?_;refine ag ?_;refine cl yu ?_;refine ag ?_;refine af (aJ rfl ?_);rw[<- zO];rfl
def jm(l:List au)(keep:List ByteArray):Int:=if(cW l).2≠0 then(cW l).2 else if keep.length>60 then 2 else if keep.all (fun s=>l.any fun f=>f.name.toList==s.toList) then 0 else 5
def nA(l:List au)(keep:List ByteArray):List D:=if jm l keep=0 then fQ l (br l) ((aO l).map ap) (ap (eU l)) else [.z,.z,.z,.z]
theorem aa0(l:List au)(keep:List ByteArray):∀ a∈nA l keep,Tr a:=by
 unfold nA;split
 .exact Ey _ _ _ _
 .exact .cons .z (.cons .z (.cons .z (.cons .z .nil)))
theorem rM{l:List au}{keep:List ByteArray}(hl:l.length<=1000):aD prog 55 [bi l,bZ keep] (.aM [.agg (nA l keep),I (jm l keep)]):=by
 have gO:=gO hl;refine bj ai3 (.cons (iB l) (.cons (jb _) .nil)) (.aM (.cons (.agg (aa0 l keep)) (.cons (.s _) .nil))) ?_;rw[ai4];unfold nA;refine ws ?_;refine ag ?_;refine er ?_;by_cases he:(cW l).2=0
 .have X:=tW he;rw[xe he,he] at gO;have M:jm l keep=if keep.length>60 then 2 else if keep.all (fun s=>l.any fun f=>f.name.toList==s.toList) then 0 else 5:=by unfold jm;rw[if_neg (fun h=>h he)]
  rw[M];clear M;refine SS ?_;refine cl gO ?_;refine cm ?_;refine af (aC (aj ?_));refine ag ?_;refine af (ct rfl (fun h=>oH) fun h=>bX (aC (aj ?_)));refine ay ?_;refine af (ct rfl (fun h=>?_) fun h=>?_)
  .have h:keep.length>60:=by
    have:(60:Int)<keep.length:=by simpa using h
    omega
   rw[if_pos h];refine aC (aj ?_);refine ay ?_;exact af (tR (bH (bD (mY (gP rfl rfl Bx wO rfl t86 (bc 4)) rfl rfl))))
  .have wL:¬ keep.length>60:=by
    have:¬ (60:Int)<keep.length:=by simpa using h
    omega
   rw[if_neg wL];obtain⟨q,hq⟩:∃ q:ByteArray->Bool,q=fun s=>l.any fun f=>f.name.toList==s.toList:=⟨_,rfl⟩
   rw[<- hq];refine bX (aC (az ?_));refine ay ?_;obtain⟨ml,J⟩:∃ ml,ml=[(0,Row.cells [D.z,D.z,D.z,D.z] 86),(1,Row.cells (cM l (br l) ((aO l).map ap)) 82)]:=⟨_,rfl⟩
   refine af (cz (fun s=>(∃ nx,1<nx/\aL prog s ⟨aA [(4,.rp 0 0),(6,.rp 1 0)],bu ml,nx⟩)/\keep.all q=true) (cy (α:=Nat×Nat)
    (fun s=>⟨aA [(0,bi l),(4,.rp 0 0),(6,.rp 1 0),(23,bZ keep),(24,I keep.length),(25,I s.1)],bu ml,s.2⟩)
    (fun s=>1<s.2/\s.1<=keep.length/\(keep.take s.1).all q=true) (fun s=>keep.length - s.1) (0,2)
    (cq eH (by subst J;exact eH)) ⟨oM,Nat.zero_le _,rfl⟩ ?_) ?_)
   .rintro⟨n,nx⟩ ⟨U,hn,C⟩;dsimp only at U hn C ⊢;refine SS ?_;refine af ⟨_,rfl,fun h=>?_,fun h=>?_⟩
    .have fP:n<keep.length:=by simpa using h
     clear h;obtain⟨x,hx⟩:∃ x,keep[n]? =some x:=⟨_,a8 fP⟩
     refine az ?_;refine ay ?_;refine bL (eF (d:=.s (.string _)) (cs':=[_]) rfl rfl (al _ _ _) rfl rfl) aP (bY t9 c9 ⟨rfl,bF rfl⟩ rfl) ?_
     have h0:∀ {u v},de nx [S x] (prog.cellsOf 9) (up (up (bu ml) nx u) nx v) 0=bu ml 0:=fun {u v}=>by
      rw[J];exact gS ((ai oG (ai oG rfl))) oG (.cells fun d hd=>by simp at hd;subst hd;exact .z)
     have h1:∀ {u v},de nx [S x] (prog.cellsOf 9) (up (up (bu ml) nx u) nx v) 1=bu ml 1:=fun {u v}=>by
      rw[J];exact gS ((ai oG (ai oG rfl))) oG (.cells fun d hd=>by simp[cM] at hd;rcases hd with rfl|rfl|rfl<;>exact .sl _ _)
     refine af ⟨⟨aA [(0,bi l),(4,.rp 0 0),(6,.rp 1 0),(9,.pt [S x]),(23,bZ keep),(24,I keep.length),(25,I n)],bu ml,nx+1⟩,?_,?_⟩
     .refine(lv (i:=nx) (cs:=[S x]) (e:=9) (al _ _ _) (l:=[(0,bi l),(4,.rp 0 0),(6,.rp 1 0),(9,.pt [S x]),(23,bZ keep),(24,I keep.length),(25,I n)]) ⟨rfl,gk oG,gk oG,lQ,rfl,rfl,rfl,trivial⟩).trans (cq eH ?_);subst J;exact⟨h0,h1,trivial⟩
     have HZ:=HZ (l:=l) (g:=87) (fs:=[]) (cs:=[.pt [S x]]) (p:=fun f=>f.name.toList==x.toList) oG (.fn oS (.cons (.pt (.cons (.s _) .nil)) .nil)) fun f _=>k87;have hqx:q x=l.any fun f=>f.name.toList==x.toList:=by rw[hq]
     rw[<- hqx] at HZ;refine ws ?_;refine ag ?_;refine cl HZ ?_;refine SS ?_;refine af (aR rfl (fun h=>aj ?_) fun h=>c7 ?_)
     .have hqf:q x=false:=by simpa using h
      have BD:¬ keep.all q=true:=fun e=>by
       have:=bV.1 e x (bz hx);rw[hqf] at this;cases this
      rw[if_neg BD];subst J;refine ay ?_;exact af (bH (cv (bD (mY (gP rfl rfl Bx wO rfl t86 (bc 4)) rfl rfl))))
     .have hqt:q x=true:=by simpa using h
      show av _ _ _ _ _ _ _ _ _;refine ag ?_;exact af (bh (n+1,nx+1) (aw eH) ⟨oM,oM,uZ hx C hqt⟩ oM)
    .have bq:¬ n<keep.length:=by simpa using h
     rw[dv oG] at C;exact⟨⟨nx,U,aw eH⟩,C⟩
   .rintro s ⟨⟨nx,U,dG⟩,C⟩;rw[if_pos C];subst J;refine⟨_,dG,aj ?_⟩
    have zh:=zh (l:=l) (sh:=br l) (ca:=aO l) (by simp[br]) oS X.po X.len fun x hx=>by
     obtain⟨f,hf,rfl⟩:=List.mem_map.1 hx;have:=wX f.blocks;have:=(tH (Go.Argus.checked (X.rK f hf))).j7;simp;omega
    refine SS ?_;refine cl zh ?_;refine ag ?_;exact af (bH (mY (gP rfl rfl Bx wO rfl t86 (bc 4)) rfl rfl))
 .have M:jm l keep=(cW l).2:=by unfold jm;rw[if_pos he]
  rw[M,if_neg he]
  have hO:∃ o:List D,oe l=o/\o.length=3/\o.all D.one=true:=by
   refine⟨_,rfl,?_⟩;unfold oe;split<;>exact⟨rfl,rfl⟩
  obtain⟨o,ho,Ec,rD⟩:=hO;rw[ho] at gO;clear M;refine SS ?_;refine cl gO ?_;refine aV ?_;refine bL (fg rfl rfl rfl rfl) aP (bY t82 mh ⟨Ec,oS⟩ rD) ?_;refine SS ?_;refine af (aC (aj ?_));refine ag ?_;refine af (ct rfl (fun h=>aC (aj ?_)) fun h=>absurd (by simpa using h) he);refine aV ?_;exact af (tR (bH (bD (mY (gP rfl rfl Bx wO rfl t86 (bc 4)) rfl rfl))))
theorem k90{l:List Bool}{i:Nat}{b:Bool}(hi:l[i]? =some b):aD prog 90 [I i,.pt [.sl (l.map B) l.length]] (B b):=by
 have ht:Tr (.sl (l.map B) l.length):=.sl (.map fun _=>.s _);refine bj ai5 (.cons (.s _) (.cons (.pt (.cons ht .nil)) .nil)) (Tr.s _) ?_;rw[ai6];refine ws ?_;refine SS ?_;refine er ?_;refine bA ?_;exact af (aJ rfl rfl)
end Go.Proofs.Tryz.K
end
namespace Go.Argus
def bB(clq:List Nat)(t:Nat):List Nat:=(range clq.length).filter fun i=>clq.getD i 0==t
def sS(kp:Nat->Bool)(x:List Nat):Nat:=(x.find? kp).getD (x.headD 0)
def jY(clq:List Nat)(kp:Nat->Bool)(i:Nat):Bool:=kp i||(!(bB clq (clq.getD i 0)).any kp&&(bB clq (clq.getD i 0)).headD 0==i)
def ug(clq:List Nat)(kp:Nat->Bool)(i:Nat):Nat:=sS kp (bB clq (clq.getD i 0))
section
variable{clq:List Nat}{kp:Nat->Bool}{t:Nat}
theorem kO{i:Nat}:i∈bB clq t↔i<clq.length/\clq.getD i 0=t:=by unfold bB;simp
theorem abz(h:bB clq t≠[]):(bB clq t).headD 0∈bB clq t:=by
 cases hx:bB clq t with
 |nil=>exact absurd hx h
 |cons a l=>simp
theorem PN{i:Nat}(hi:clq.getD i 0=t)(h:(bB clq t).any kp=true):jY clq kp i=kp i:=by
 unfold jY;rw[hi,h];simp
theorem O5{i:Nat}(hi:i∈bB clq t)(h:(bB clq t).any kp=false):jY clq kp i=((bB clq t).headD 0==i):=by
 unfold jY;rw[(kO.1 hi).2,h]
 have:kp i=false:=by
  rw[Bool.eq_false_iff]
  exact fun e=>by
   have:=List.any_eq_true.2 ⟨i,hi,e⟩;rw[h] at this;cases this
 rw[this];simp
theorem Zt(C:bB clq t≠[]):(bB clq t).find? (jY clq kp)=some (sS kp (bB clq t)):=by
 cases ha:(bB clq t).any kp with
 |true=>
  have e:(bB clq t).find? (jY clq kp)=(bB clq t).find? kp:=by
   have:∀ l:List Nat,(∀ i∈l,jY clq kp i=kp i)->l.find? (jY clq kp)=l.find? kp:=fun l h=>by
    induction l with
    |nil=>rfl
    |cons a l ih=>
     rw[List.find?_cons,List.find?_cons,h a oS,ih fun i hi=>h i (List.mem_cons_of_mem _ hi)]
   exact this _ fun i hi=>PN (kO.1 hi).2 ha
  rw[e];obtain⟨i,hi,hk⟩:=List.any_eq_true.1 ha;cases hf:(bB clq t).find? kp with
  |none=>exact absurd hk (by have:=List.find?_eq_none.1 hf i hi;simpa using this)
  |some y=>unfold sS;rw[hf];rfl
 |false=>
  have hn:(bB clq t).find? kp=none:=List.find?_eq_none.2 fun i hi hk=>by
   have:=List.any_eq_true.2 ⟨i,hi,hk⟩;rw[ha] at this;cases this
  have hl:∀ i∈bB clq t,jY clq kp i=((bB clq t).headD 0==i):=fun i hi=>O5 hi ha;unfold sS;rw[hn];cases hx:bB clq t with
  |nil=>exact absurd hx C
  |cons a l=>
   rw[hx] at hl;have:=hl a oS;rw[List.find?_cons,this];simp
def gH(clq:List Nat)(kp:Nat->Bool)(t j:Nat)(i:Nat):Bool:=if clq.getD i 0<t then jY clq kp i else((bB clq t).take j).contains i&&kp i
theorem NV{l:List Nat}{j y k:Nat}(hy:l[j]? =some y):(l.take (j+1)).contains k=((l.take j).contains k||k==y):=by
 rw[List.take_add_one,hy,Option.toList_some,List.contains_eq_mem,List.contains_eq_mem,Bool.eq_iff_iff];simp
theorem BU{i:Nat}:gH clq kp t 0 i=(decide (clq.getD i 0<t)&&jY clq kp i):=by
 unfold gH;by_cases h:clq.getD i 0<t
 .rw[if_pos h,decide_eq_true h];simp
 .rw[if_neg h,decide_eq_false h];simp
theorem OS{j y k:Nat}(hy:(bB clq t)[j]? =some y):gH clq kp t (j+1) k=if k=y then kp y else gH clq kp t j k:=by
 have hm:=kO.1 (bz hy);unfold gH;rw[NV hy];by_cases hk:k=y
 .subst hk;rw[if_neg oG,if_pos rfl];simp
 .have hb:(k==y)=false:=by simpa using hk
  rw[if_neg hk,hb,Bool.or_false]
theorem Zr{k:Nat}(hk:k<clq.length)(h:(bB clq t).any kp=true):gH clq kp t (bB clq t).length k=gH clq kp (t+1) 0 k:=by
 rw[BU];unfold gH;rw[List.take_length];by_cases h1:clq.getD k 0<t
 .rw[if_pos h1,decide_eq_true oG];simp
 .rw[if_neg h1];by_cases h2:clq.getD k 0=t
  .rw[decide_eq_true oG,PN h2 h,List.contains_eq_mem,decide_eq_true (kO.2 ⟨hk,h2⟩)]
  .rw[decide_eq_false oG,List.contains_eq_mem,decide_eq_false fun e=>h2 (kO.1 e).2];simp
theorem X2{k:Nat}(hk:k<clq.length)(h:(bB clq t).any kp=false):(if k=(bB clq t).headD 0/\bB clq t≠[] then true else gH clq kp t (bB clq t).length k)=gH clq kp (t+1) 0 k:=by
 rw[BU];unfold gH;rw[List.take_length];by_cases h2:clq.getD k 0=t
 .have hm:k∈bB clq t:=kO.2 ⟨hk,h2⟩;have C:bB clq t≠[]:=fun e=>by rw[e] at hm;cases hm
  have J:kp k=false:=by
   rw[Bool.eq_false_iff]
   exact fun e=>by
    have:=List.any_eq_true.2 ⟨k,hm,e⟩;rw[h] at this;cases this
  rw[decide_eq_true oG,O5 hm h,if_neg (show ¬ clq.getD k 0<t by omega),J];by_cases he:k=(bB clq t).headD 0
  .rw[if_pos ⟨he,C⟩, <- he];simp
  .rw[if_neg fun e=>he e.1];have:((bB clq t).headD 0==k)=false:=by simpa using fun e:_=_=>he e.symm
   rw[this];simp
 .have hn:¬ (k=(bB clq t).headD 0/\bB clq t≠[]):=fun⟨e1,e2⟩=>by
   have:=abz e2;rw[<- e1] at this;exact h2 (kO.1 this).2
  rw[if_neg hn];by_cases h1:clq.getD k 0<t
  .rw[if_pos h1,decide_eq_true oG];simp
  .rw[if_neg h1,decide_eq_false oG,List.contains_eq_mem,decide_eq_false fun e=>h2 (kO.1 e).2];simp
def jZ(clq:List Nat)(kp:Nat->Bool)(C:Nat->ByteArray)(t j:Nat)(i:Nat):ByteArray:=if clq.getD i 0<t then C (ug clq kp i) else if((bB clq t).take j).contains i then C (sS kp (bB clq t)) else⟨#[]⟩
theorem X3{C:Nat->ByteArray}{j y k:Nat}(hy:(bB clq t)[j]? =some y):jZ clq kp C t (j+1) k=if k=y then C (sS kp (bB clq t)) else jZ clq kp C t j k:=by
 have hm:=kO.1 (bz hy);unfold jZ;rw[NV hy];by_cases hk:k=y
 .subst hk;rw[if_neg oG,if_pos rfl];simp
 .have hb:(k==y)=false:=by simpa using hk
  rw[if_neg hk,hb,Bool.or_false]
theorem Zu{C:Nat->ByteArray}{k:Nat}(hk:k<clq.length):jZ clq kp C t (bB clq t).length k=jZ clq kp C (t+1) 0 k:=by
 unfold jZ;rw[List.take_length];by_cases h1:clq.getD k 0<t
 .rw[if_pos h1,if_pos oG]
 .rw[if_neg h1];by_cases h2:clq.getD k 0=t
  .rw[if_pos (show clq.getD k 0<t+1 by omega),List.contains_eq_mem,decide_eq_true (kO.2 ⟨hk,h2⟩)];unfold ug;rw[h2];rfl
  .rw[if_neg (show ¬ clq.getD k 0<t+1 by omega),List.contains_eq_mem,decide_eq_false fun e=>h2 (kO.1 e).2];simp
theorem IX{α:Type}{n i:Nat}{f:Nat->α}{v:α}:((range n).map f).set i v=(range n).map fun k=>if k=i then v else f k:=by
 refine List.ext_getElem? fun k=>?_;rw[List.getElem?_set];by_cases hk:k<n
 .by_cases e:i=k
  .subst e;simp[hk]
  .have C:¬ k=i:=fun h=>e h.symm;simp[hk,e,C]
 .by_cases e:i=k
  .subst e;simp[hk]
  .simp[hk,e]
end
end Go.Argus
section
open Go Go.Abs Go.Proofs Go.Argus
namespace Go.Proofs.Tryz.K
theorem Ed{κ:Type}[DecidableEq κ]{l:List au}{sh:List ByteArray}{ca:List (List Int)}{ks:List κ}{keep:List ByteArray}(hl:l.length<=1000)(qo:ks.length=l.length)(Nc:keep.length<=60):
 aD prog 56 [.agg (fQ l sh ca (ap (bp ks))),bZ keep] (.aM [.sl ((range l.length).map fun i=>B (jY (bp ks) (te l keep) i)) l.length,.sl ((range l.length).map fun i=>S (ij l (ug (bp ks) (te l keep) i))) l.length]):=by
 have By:=By (l:=l) (sh:=sh) (ca:=ca) (ks:=ks) oG;have iV:=iV (l:=l) (sh:=sh) (ca:=ca);refine bj ai7 (.cons (.agg (Ey _ _ _ _)) (.cons (jb _) .nil)) (.aM (.cons (.sl (.map fun _=>.s _)) (.cons (.sl (.map fun _=>.s _)) .nil))) ?_;rw[ai8];refine az ?_;refine ay ?_;refine af (bJ (dE [(0,fQ l sh ca (ap (bp ks)),86)] eH (l:=[(1,bZ keep),(2,.pt (fQ l sh ca (ap (bp ks))))]) eH) (aj ?_));refine ag ?_;refine cl iV ?_;refine eC (B7 rfl rfl V.h V.h) ak ⟨oG,rfl,oG,by rw[b4];omega,V.h⟩ ?_;refine SS ?_;refine bL (eF (d:=.rs _ _ _) (cs':=[_]) rfl rfl rfl rfl rfl) ak (bY V.h V.h (by first|(simp;done)|exact⟨rfl,bF rfl⟩|(simp;omega)) rfl) ?_;refine er ?_;refine ag ?_;refine cl iV ?_;refine eC (B7 rfl rfl V.h V.h) ak ⟨oG,rfl,oG,by rw[b9];omega,V.h⟩ ?_;refine SS ?_;refine af (aC (az ?_));refine SS ?_;refine cl By ?_;refine ag ?_;obtain⟨clq,M⟩:∃ clq,clq=bp ks:=⟨_,rfl⟩
 obtain⟨K,hK⟩:∃ K,K=(bm ks).length:=⟨_,rfl⟩
 obtain⟨kp,Ul⟩:∃ kp,kp=te l keep:=⟨_,rfl⟩
 obtain⟨n,hn⟩:∃ n,n=l.length:=⟨_,rfl⟩
 have KV:clq.length=n:=by rw[M,hn];simpa using qo
 have hK1:K<=1000:=by have:=vo ks;omega
 have aG:∀ t,t<K->bB clq t≠[]:=fun t ht e=>by
  obtain⟨i,hi⟩:=Zp (ks:=ks) (show t<(bm ks).length by omega);have:i∈bB clq t:=kO.2 ⟨by rw[M];exact(bM.1 hi).1,by rw[M];rw[du,hi];rfl⟩;rw[e] at this;cases this
 have Um:∀ i,i<n->clq.getD i 0<K:=fun i hi=>by rw[M,hK];exact Fs (dn (by rw[<- KV,M] at hi;exact hi))
 rw[<- M, <- hK, <- Ul, <- hn]
 have Un:∀ (d:D) (n:Nat),dz n [d]=(range n).map fun _=>d:=fun d n=>by
  induction n with
  |zero=>rfl
  |succ n ih=>rw[List.range_succ,List.map_append, <- ih];simp[dz,List.replicate_succ']
 refine af (cz (fun s=>aL prog s ⟨aA [(6,.rp 2 0),(7,.rs 3 0 n)],mK n (gH clq kp K 0) (jZ clq kp (ij l) K 0),4⟩) (cy (α:=Nat)
  (fun t=>⟨aA [(1,bZ keep),(2,.pt (fQ l sh ca (ap clq))),(6,.rp 2 0),(7,.rs 3 0 n),(25,bT (hM clq K)),(26,I (hM clq K).length),(27,I t)],mK n (gH clq kp t 0) (jZ clq kp (ij l) t 0),4⟩)
  (fun t=>t<=K) (fun t=>K - t) 0
  (cq ⟨rfl,rfl,rfl,by rw[hn];rfl,rfl,rfl,rfl,trivial⟩ ⟨?_,by rw[hn];rfl,?_,trivial⟩) (Nat.zero_le _) ?_) ?_)
 .show some (Row.cells (dz n [B false]) 4)=_;rw[Un];have:((range n).map fun _=>B false)=(range n).map fun i=>B (gH clq kp 0 0 i):=List.map_congr_left fun i _=>by rw[BU,decide_eq_false (Nat.not_lt_zero _)];rfl
  rw[this]
 .show some (Row.cells (dz n [S "".toUTF8]) 9)=_;rw[Un];have:((range n).map fun _=>S "".toUTF8)=(range n).map fun i=>S (jZ clq kp (ij l) 0 0 i):=List.map_congr_left fun i _=>by unfold jZ;rw[if_neg (Nat.not_lt_zero _),List.take_zero];rfl
  rw[this]
 .intro t ht;have hOl:(hM clq K).length=K:=aa1 _ _;refine SS ?_;refine af ⟨_,rfl,fun h=>?_,fun h=>?_⟩
  .have Vs:t<K:=by
    have:(t:Int)<(hM clq K).length:=by simpa using h
    omega
   clear h;have hx:(hM clq K)[t]? =some (ap (bB clq t)):=Jp Vs;have Hj:=aG t Vs
   have wG:(bB clq t).length<=1000:=by
    have:(bB clq t).length<=(range clq.length).length:=List.length_filter_le _ _;simp at this;omega
   have amH:(ap (bB clq t)).length<=1000:=by simpa using wG
   refine ws ?_;refine ay ?_;refine er ?_;refine SS ?_;refine af (aC (az ?_));refine ay ?_
   refine af (cz (fun s=>aL prog s ⟨aA [(1,bZ keep),(2,.pt (fQ l sh ca (ap clq))),(6,.rp 2 0),(7,.rs 3 0 n),(9,aQ (ap (bB clq t))),(10,B ((bB clq t).any kp)),(25,bT (hM clq K)),(26,I (hM clq K).length),(27,I t)],mK n (gH clq kp t (bB clq t).length) (jZ clq kp (ij l) t 0),4⟩) (cy (α:=Nat)
    (fun j=>⟨aA [(1,bZ keep),(2,.pt (fQ l sh ca (ap clq))),(6,.rp 2 0),(7,.rs 3 0 n),(9,aQ (ap (bB clq t))),(10,B (((bB clq t).take j).any kp)),(25,bT (hM clq K)),(26,I (hM clq K).length),(27,I t),(31,aQ (ap (bB clq t))),(32,I (ap (bB clq t)).length),(33,I j)],mK n (gH clq kp t j) (jZ clq kp (ij l) t 0),4⟩)
    (fun j=>j<=(bB clq t).length) (fun j=>(bB clq t).length - j) 0
    (aw eH) (Nat.zero_le _) ?_) ?_)
   .intro j hj;refine SS ?_;refine af ⟨_,rfl,fun h=>?_,fun h=>?_⟩
    .have dw:j<(bB clq t).length:=by simpa using h
     clear h;obtain⟨y,hy⟩:∃ y,(bB clq t)[j]? =some y:=⟨_,a8 dw⟩
     have X:y<n:=by have:=(kO.1 (bz hy)).1;omega
     have Vt:(ap (bB clq t))[j]? =some ((y:Nat):Int):=by rw[List.getElem?_map,hy];rfl
     obtain⟨f,hf⟩:∃ f,l[y]? =some f:=⟨_,a8 oG⟩
     have yR:kp y=keep.any fun x=>f.name.toList==x.toList:=by
      rw[Ul];unfold te;rw[du,List.getElem?_map,hf];rfl
     have HY:=HY (l:=keep) (s:=f.name);rw[<- yR] at HY;refine ws ?_;refine ay ?_;refine af (eg Zq ?_);unfold mK;refine dM ?_;refine ag ?_;refine cl HY ?_;refine ax (mr rfl rfl rfl Ee c4) aP ⟨Dx,oG⟩ ?_;refine bL (eF (d:=B (kp y)) rfl rfl rfl rfl IX) aP (bY t4 c4 ⟨rfl,by simp;omega⟩ rfl) ?_;refine cu cE (fF ?_)
     have C:((range n).map fun k=>if k=y then B (kp y) else B (gH clq kp t j k))=(range n).map fun k=>B (gH clq kp t (j+1) k):=List.map_congr_left fun k _=>by
      rw[OS hy];split<;>rfl
     rw[C];have kd:=X0 (fun k=>B (gH clq kp t (j+1) k)) X;rw[OS (k:=y) hy,if_pos rfl] at kd;obtain⟨cs,kd⟩:=kd
     have Hk:((bB clq t).take (j+1)).any kp=(((bB clq t).take j).any kp||kp y):=by
      rw[List.take_add_one,hy];simp
     cases hs:((bB clq t).take j).any kp with
     |true=>
      rw[hs] at Hk;refine ag ?_;refine jf rfl rfl fun _ _=>?_;refine jf rfl rfl fun _ _=>?_;refine jf rfl rfl fun _ _=>?_;refine jf rfl rfl fun _ _=>?_;refine ag ?_;refine af ?_;refine ag ?_;exact af (bh (j+1) (E7 ⟨rfl,rfl,rfl,rfl,rfl,by rw[Hk];rfl,rfl,rfl,rfl,rfl,rfl,rfl,trivial⟩ rfl rfl rfl) oG oG)
     |false=>
      rw[hs] at Hk;refine aV ?_;refine bw rfl rfl (mr rfl rfl rfl Ee c4) (fun hc=>⟨(by repeat' (first|exact trivial|exact hc|exact rfl|refine And.intro ?_ ?_)),⟨Dx,oG⟩⟩) ?_;refine bw rfl rfl (j9 rfl rfl kd a4) (fun hc=>⟨(by repeat' (first|exact trivial|exact hc|exact rfl|refine And.intro ?_ ?_)),(ka t4 c4 kd)⟩) ?_;refine ag ?_;refine af ?_;refine ag ?_;exact af (bh (j+1) (E7 ⟨rfl,rfl,rfl,rfl,rfl,by rw[Hk];rfl,rfl,rfl,rfl,rfl,rfl,rfl,trivial⟩ rfl rfl rfl) oG oG)
    .have U:j=(bB clq t).length:=by
      have:¬ (j:Int)<(ap (bB clq t)).length:=by simpa using h
      simp at this;omega
     subst U;rw[List.take_length];exact aw eH
   .intro s hg;refine⟨_,hg,aC (aj ?_)⟩;refine ag ?_;obtain⟨J,H2⟩:∃ J,(bB clq t)[0]? =some J:=⟨_,a8 (List.length_pos_iff.2 Hj)⟩
    have ai9:(bB clq t).headD 0=J:=by
     cases Vu:bB clq t with
     |nil=>exact absurd Vu Hj
     |cons a l2=>rw[Vu] at H2;simpa using H2
    have amI:J<n:=by have:=(kO.1 (bz H2)).1;omega
    have Vt:(ap (bB clq t))[0]? =some ((J:Nat):Int):=by rw[List.getElem?_map,H2];rfl
    refine af (iC (fun s=>aL prog s ⟨aA [(1,bZ keep),(2,.pt (fQ l sh ca (ap clq))),(6,.rp 2 0),(7,.rs 3 0 n),(9,aQ (ap (bB clq t))),(25,bT (hM clq K)),(26,I (hM clq K).length),(27,I t)],mK n (gH clq kp (t+1) 0) (jZ clq kp (ij l) t 0),4⟩) ?_ ?_)
    .cases hs:(bB clq t).any kp with
     |true=>
      refine aR rfl (fun h=>oH) fun h=>cO ?_;rw[Qw (f':=gH clq kp (t+1) 0) (fun k hk=>Zr oG hs) fun _ _=>rfl];exact aw eH
     |false=>
      refine aR rfl (fun h=>?_) fun h=>oH;unfold mK;refine ab9 Zs ?_;refine aV ?_;refine ax (mr rfl rfl rfl Ee c4) aP ⟨Dx,oG⟩ ?_;refine bL (eF (d:=B true) rfl rfl rfl rfl IX) aP (bY t4 c4 ⟨rfl,by simp;omega⟩ rfl) ?_
      have C:((range n).map fun k=>if k=J then B true else B (gH clq kp t (bB clq t).length k))=(range n).map fun k=>B (gH clq kp (t+1) 0 k):=List.map_congr_left fun k hk=>by
       rw[<- X2 (by have:=List.mem_range.1 hk;omega) hs,ai9];by_cases e:k=J
       .rw[if_pos e,if_pos ⟨e,Hj⟩]
       .rw[if_neg e,if_neg fun h=>e h.1]
      rw[C];exact cu cE (E7 eH rfl rfl rfl)
    .intro s hg;obtain⟨fl,C⟩:∃ fl,fl=gH clq kp (t+1) 0:=⟨_,rfl⟩
     have Ts:(bB clq t).find? fl=some (sS kp (bB clq t)):=by
      rw[<- Zt Hj]
      have:∀ l:List Nat,(∀ i∈l,fl i=jY clq kp i)->l.find? fl=l.find? (jY clq kp):=fun l h=>by
       induction l with
       |nil=>rfl
       |cons a l ih=>rw[List.find?_cons,List.find?_cons,h a oS,ih fun i hi=>h i (List.mem_cons_of_mem _ hi)]
      exact this _ fun i hi=>by rw[C,BU,(kO.1 hi).2,decide_eq_true (Nat.lt_succ_self t),Bool.true_and]
     obtain⟨p,hp⟩:∃ p:Int->Bool,p=fun i=>fl i.toNat:=⟨_,rfl⟩
     have ady:(ap (bB clq t)).find? p=some ((sS kp (bB clq t):Nat):Int):=by
      have e:(p ∘ fun(n:Nat)=>(n:Int))=fl:=by funext i;rw[hp];rfl
      rw[List.find?_map,e,Ts];rfl
     obtain⟨ix,hix,ai'⟩:=Zo ady;have Uo:∀ d∈(range n).map (fun i=>B (fl i)),Tr d:=.map fun _=>.s _
     have y8:=y8 (l:=ap (bB clq t)) (g:=90) (fs:=[]) (cs:=[.pt [.sl ((range n).map fun i=>B (fl i)) n]]) (p:=p) (.fn oS (.cons (.pt (.cons (.sl Uo) .nil)) .nil)) fun i hi=>by
      obtain⟨y,hy,rfl⟩:=List.mem_map.1 hi;have X:y<n:=by have:=(kO.1 hy).1;omega
      have:=k90 (l:=(range n).map fl) (i:=y) (b:=fl y) (by simp[X]);rw[List.map_map,List.length_map,List.length_range] at this;have e:p ((y:Nat):Int)=fl y:=by rw[hp];rfl
      rw[e];exact this
     rw[ai'] at y8
     have M':sS kp (bB clq t)<n:=by
      have:=List.mem_of_find?_eq_some Ts;have:=(kO.1 this).1;omega
     obtain⟨rp,Bj⟩:∃ rp,rp=sS kp (bB clq t):=⟨_,rfl⟩
     rw[<- Bj] at hix M';rw[<- C] at hg;refine⟨_,hg,aj ?_⟩
     have eY:jr prog [1,2] (mK n fl (jZ clq kp (ij l) t 0)) [aQ (ap (bB clq t)),.fn (.func 90) [] [.rp 2 0]] [aQ (ap (bB clq t)),.fn (.func 90) [] [.pt [.sl ((range n).map fun i=>B (fl i)) n]]]:=
      ⟨cN (c6 _),aed oS rfl fun k d d' hd eZ=>(by
       match k with
       |0=>
        cases hd;cases eZ
        exact adm (i:=2) (off:=0) (cs:=[.rs 1 0 n]) (e:=92) rfl oS rfl rfl fun k d d' hd eZ=>(by
         match k with
         |0=>
          cases hd;cases eZ;exact Aw (i:=1) (cs:=(range n).map fun i=>B (fl i)) (e:=4) rfl oS (by rw[c4,List.drop_zero,dv oS]) Uo
         |k+1=>cases hd)
       |k+1=>cases hd),trivial⟩
     refine ay ?_;refine SY y8 rfl eY rfl aP ?_;refine ay ?_;refine af (az ?_);refine ay ?_
     refine af (cy (α:=Nat)
      (fun j=>⟨aA [(1,bZ keep),(2,.pt (fQ l sh ca (ap clq))),(6,.rp 2 0),(7,.rs 3 0 n),(13,I rp),(25,bT (hM clq K)),(26,I (hM clq K).length),(27,I t),(70,aQ (ap (bB clq t))),(71,I (ap (bB clq t)).length),(72,I j)],mK n fl (jZ clq kp (ij l) t j),4⟩)
      (fun j=>j<=(bB clq t).length) (fun j=>(bB clq t).length - j) 0
      (aw eH) (Nat.zero_le _) ?_)
     intro j hj;refine SS ?_;refine af ⟨_,rfl,fun h=>?_,fun h=>?_⟩
     .have dw:j<(bB clq t).length:=by simpa using h
      clear h;obtain⟨y,hy⟩:∃ y,(bB clq t)[j]? =some y:=⟨_,a8 dw⟩
      have X:y<n:=by have:=(kO.1 (bz hy)).1;omega
      have Vt:(ap (bB clq t))[j]? =some ((y:Nat):Int):=by rw[List.getElem?_map,hy];rfl
      obtain⟨f,hf⟩:∃ f,l[rp]? =some f:=⟨_,a8 oG⟩
      have BE:ij l rp=f.name:=by
       unfold ij;rw[du,List.getElem?_map,hf];rfl
      refine ws ?_;refine ay ?_;refine af (fF ?_);unfold mK;refine bt ?_;refine ax (mr rfl rfl rfl rI c9) aP ⟨uu,oG⟩ ?_;refine bL (eF (d:=S f.name) rfl rfl rfl rfl IX) aP (bY t9 c9 ⟨rfl,by simp;omega⟩ rfl) ?_
      have fP:((range n).map fun k=>if k=y then S f.name else S (jZ clq kp (ij l) t j k))=(range n).map fun k=>S (jZ clq kp (ij l) t (j+1) k):=List.map_congr_left fun k _=>by
       rw[X3 hy, <- Bj,BE];split<;>rfl
      rw[fP];refine af ?_;refine ag ?_;exact af (bh (j+1) (E7 eH rfl rfl rfl) oG oG)
     .have U:j=(bB clq t).length:=by
       have:¬ (j:Int)<(ap (bB clq t)).length:=by simpa using h
       simp at this;omega
      subst U;show av _ _ _ _ _ _ _ _ _;refine ag ?_;rw[Qw (f':=gH clq kp (t+1) 0) (g':=jZ clq kp (ij l) (t+1) 0) (fun _ _=>by rw[C]) fun k hk=>Zu oG];exact af (bh (t+1) (aw eH) oG oG)
  .have U:t=K:=by
    have:¬ (t:Int)<(hM clq K).length:=by simpa using h
    omega
   subst U;exact aw eH
 .intro s hg;have e1:((range n).map fun i=>B (gH clq kp K 0 i))=(range n).map fun i=>B (jY clq kp i):=List.map_congr_left fun i hi=>by rw[BU,decide_eq_true (Um i (List.mem_range.1 hi))];rfl
  have e2:((range n).map fun i=>S (jZ clq kp (ij l) K 0 i))=(range n).map fun i=>S (ij l (ug clq kp i)):=List.map_congr_left fun i hi=>by unfold jZ;rw[if_pos (Um i (List.mem_range.1 hi))]
  unfold mK at hg;rw[e1,e2] at hg;refine⟨_,hg,az ?_⟩;refine aV ?_
  refine af ⟨_,(lv (i:=1) (e:=4) rfl (l:=[(4,.sl ((range n).map fun i=>B (jY clq kp i)) n),(5,.rs 3 0 n)]) ⟨jR (by rw[c4];simp),zP oC,trivial⟩).trans
   (lv (i:=3) (cs:=(range n).map fun i=>S (ij l (ug clq kp i))) (e:=9) (gS rfl oC (.cells fun d hd=>by obtain⟨x,_,rfl⟩:=List.mem_map.1 hd;exact .s _)) (l:=[(4,.sl ((range n).map fun i=>B (jY clq kp i)) n),(5,.sl ((range n).map fun i=>S (ij l (ug clq kp i))) n)]) ⟨rfl,jR (by rw[c9];simp),trivial⟩),bH (fH rfl rfl rfl)⟩
end Go.Proofs.Tryz.K
namespace Go.Argus
def mw(l:List au)(keep:List ByteArray):List ByteArray:=(range l.length).map fun i=>ij l (ug (eU l) (te l keep) i)
def oi(l:List au)(keep:List ByteArray):List Bool:=(range l.length).map fun i=>jY (eU l) (te l keep) i
def A2(k v:ByteArray):List (ByteArray×ByteArray)->List (ByteArray×ByteArray)
 |[]=>[(k,v)]
 |e::es=>if e.1=k then(k,v)::es else e::A2 k v es
def Dy(es:List (ByteArray×ByteArray))(k:ByteArray):ByteArray:=match es.find? fun e=>decide (e.1=k) with
 |some e=>e.2
 |none=>"".toUTF8
def hP(es:List (ByteArray×ByteArray)):List (Value×D):=es.map fun e=>(.string e.1,S e.2)
def nZ(l:List au)(C:Nat->ByteArray)(t:Nat):List (ByteArray×ByteArray):=(range t).foldl (fun es i=>A2 (ij l i) (C i) es) []
theorem aa2(l:List au)(C:Nat->ByteArray)(t:Nat):nZ l C (t+1)=A2 (ij l t) (C t) (nZ l C t):=by
 unfold nZ;rw[List.range_succ,List.foldl_append];rfl
def nn(l:List au)(lf:Nat->Bool)(to:ByteArray->ByteArray)(t:Nat):List au:=(range t).filterMap fun i=>if lf i then(l[i]?).map fun f=>ik f f.name to else none
def CJ(l:List au)(keep:List ByteArray):List au:=nn l (jY (eU l) (te l keep)) (Dy (nZ l (fun i=>ij l (ug (eU l) (te l keep) i)) l.length)) l.length
theorem Of{l:List au}{lf:Nat->Bool}{to:ByteArray->ByteArray}{t:Nat}{f:au}(h:l[t]? =some f):nn l lf to (t+1)=nn l lf to t++(if lf t then [ik f f.name to] else []):=by
 unfold nn;rw[List.range_succ,List.filterMap_append];congr 1;simp only[List.filterMap_cons,List.filterMap_nil,h,Option.map_some];cases lf t<;>rfl
theorem Ry(a b:ByteArray):kJ (.string a) (.string b)=decide (a=b):=by
 by_cases h:a=b
 .subst h;rw[decide_eq_true rfl];show(a.data.toList==a.data.toList)=true;simp
 .rw[decide_eq_false h];exact beq_eq_false_iff_ne.2 fun e=>h (xE e)
theorem Zv(k:Value)(d:D)(e:Value×D)(es:List (Value×D)):fY k d (e::es)=if kJ e.1 k then(k,d)::es else e::fY k d es:=by
 unfold fY;obtain⟨a,b⟩:=e;simp only[cQ];cases kJ a k with
 |true=>simp
 |false=>
  simp only[Bool.false_eq_true,if_false];cases cQ k es with
  |none=>rfl
  |some x=>rfl
theorem Tt(k v:ByteArray):∀ es:List (ByteArray×ByteArray),fY (.string k) (S v) (hP es)=hP (A2 k v es)
 |[]=>rfl
 |e::es=>by
  have e1:hP (e::es)=(Value.string e.1,S e.2)::hP es:=rfl;have e2:A2 k v (e::es)=if e.1=k then(k,v)::es else e::A2 k v es:=rfl
  rw[e1,Zv,Ry,Tt k v es,e2];by_cases h:e.1=k
  .rw[decide_eq_true h,if_pos rfl,if_pos h];rfl
  .rw[decide_eq_false h,if_neg h];rfl
theorem Si(k:ByteArray):∀ es:List (ByteArray×ByteArray),(cQ (.string k) (hP es)).map (·.2)=(es.find? fun e=>decide (e.1=k)).map fun e=>S e.2
 |[]=>rfl
 |e::es=>by
  have e1:hP (e::es)=(Value.string e.1,S e.2)::hP es:=rfl;have ih:=Si k es;rw[e1,List.find?_cons];simp only[cQ];rw[Ry];by_cases h:e.1=k
  .rw[decide_eq_true h];rfl
  .rw[decide_eq_false h];simp only[Bool.false_eq_true,if_false,Option.map_map];rw[<- ih];rfl
theorem Vz:∀ a b c d e:Bool,(if(if(if(if a=true then true else b)=true then true else c)=true then true else d)=true then true else e)=(a||(b||(c||(d||e)))):=by decide
def Dz(f:au):Bool:=decide (12<(f.blocks.length:Int))||(decide (20<(f.aW.length:Int))||(decide (10<(f.cr.length:Int))||(decide (8<(f.signals.length:Int))||decide (130<(f.name.size:Int)))))
def DA(b:bI):Bool:=decide (8<(b.ins.length:Int))||(decide (8<(b.fin.aU.length:Int))||(decide (8<(b.fin.args.length:Int))||(decide (130<(b.fin.name.size:Int))||decide (8<(b.fin.ins.args.length:Int)))))
def A3(y:cV):Bool:=decide (14<(y.args.length:Int))
def DB(w:iK):Bool:=decide (20<(w.name.size:Int))
def A4(s:ByteArray):Bool:=decide (20<(s.size:Int))
def yw(b:bI):Bool:= !DA b&&(b.ins.all (fun y=> !A3 y)&&b.fin.aU.all (fun w=> !DB w))
def wo(f:au):Bool:= !Dz f&&(f.signals.all (fun s=> !A4 s)&&f.blocks.all yw)
def uy(l:List au):Bool:=l.all wo&&(decide ((l.length:Int)<=10)||(decide (60<(l.length:Int))&&decide ((l.length:Int)<=63)))
theorem acs{l:List au}(h:uy l=true):l.length<=63:=by
 unfold uy at h;simp only[ba,Bool.or_eq_true,decide_eq_true_eq] at h;omega
theorem Cn{α:Type}{p:α->Bool}{l:List α}{x:α}(hx:x∈l)(h:p x=false):l.all p=false:=by
 rw[Bool.eq_false_iff];intro ht;rw[bV.1 ht x hx] at h;cases h
theorem acu{a b:ByteArray}(h:(!(a.toList==b.toList))=false):a=b:=by
 have h:a.toList=b.toList:=by simpa using h
 rw[tv,tv] at h;exact xE h
def Sj:Argus.End:=⟨3, -1,0,0,0,⟨#[]⟩,xF,[],[], -1⟩
def Kp(c:ByteArray):Argus.End:=⟨6, -1,0,1,0,c,xF,[],[], -1⟩
def iF(C c:ByteArray):au:=⟨C,false,0,0,[],[],[],[⟨[],Kp c⟩,⟨[],Sj⟩]⟩
def Dc(C:ByteArray):au:=⟨C,false,0,0,[],[],[],[⟨[],Sj⟩]⟩
abbrev sA:ByteArray:=⟨#[97]⟩
abbrev sB:ByteArray:=⟨#[98]⟩
abbrev sC:ByteArray:=⟨#[99]⟩
abbrev sD:ByteArray:=⟨#[100]⟩
abbrev sE:ByteArray:=⟨#[101]⟩
def dJ:List au:=[iF sA sB,iF sB sA,iF sC sD,Dc sD,iF sE sC]
theorem pF:cW dJ=(0,0):=kr
theorem zX:aO dJ=[[1],[0],[3],[],[2]]:=kr
theorem Zy(C c:ByteArray):yd (iF C c)=iF kM kM:=rfl
theorem aa8{κ:Type}[DecidableEq κ]{s t:κ}(h:s≠t):bp [s,s,s,t,s]=[0,0,0,1,0]:=by
 have h':t≠s:=fun e=>h e.symm
 have e:bm [s,s,s,t,s]=[s,t]:=by
  simp[bm,lA,h,h']
 unfold bp;rw[e];simp[List.idxOf_cons,beq_eq_false_iff_ne.2 h,beq_eq_false_iff_ne.2 h']
theorem zY:bU dJ=[0,0,0,1,0]:=by
 have h0:=tW (l:=dJ) (by rw[pF]);have hp:∀ C c,pK (iF C c)=lO (iF kM kM):=fun C c=>congrArg lO (Zy C c)
 have J:lO (iF kM kM)≠pK (Dc sD):=fun e=>by
  have:=Og (f:=iF sA sB) (g:=Dc sD) (h0.rK _ (by simp[dJ])) (h0.rK _ (by simp[dJ])) ((hp _ _).trans e);revert this;decide
 unfold bU
 have:br dJ=[lO (iF kM kM),lO (iF kM kM),lO (iF kM kM),pK (Dc sD),lO (iF kM kM)]:=by
  unfold br dJ;simp only[List.map_cons,List.map_nil,hp]
 rw[this];exact aa8 J
theorem IA:eU dJ=[0,0,1,2,3]:=by
 unfold eU;rw[zY,zX]
 kernel_rfl
theorem aa9:qM dJ=bT [[0,1],[2],[3],[4]]:=by
 unfold qM oz;rw[pF,IA]
 kernel_rfl
theorem aa':zm dJ [[0],[1],[2],[3],[4]]=true:=by
 unfold zm;rw[pF,zY,zX]
 kernel_rfl
theorem aba:zm dJ [[0,1,2],[3],[4]]=false:=by
 unfold zm;rw[pF,zY,zX]
 kernel_rfl
theorem abb:kW dJ 0 4=[aQ [0,0],B true,I 0]:=by
 unfold kW;rw[pF,zY,zX]
 kernel_rfl
theorem abc:kW dJ 0 1=[.z,B false,I 0]:=by
 unfold kW;rw[pF,zY,zX]
 kernel_rfl
theorem abd:kW dJ 3 0=[aQ [],B true,I 0]:=by
 unfold kW;rw[pF,zY,zX]
 kernel_rfl
def ui:List au:=[iF sA sA,iF sC sD,Dc sD,iF sE sC]
theorem X6:CJ dJ [sE]=ui:=by
 unfold CJ;rw[IA]
 kernel_rfl
theorem X7:mw dJ [sB]=[sB,sB,sC,sD,sE]:=by
 unfold mw;rw[IA]
 kernel_rfl
theorem GR(l:List au):(bU l).length=(aO l).length:=by simp[bU,br,aO]
theorem Gl(l:List au):(aO l).length=l.length:=by simp[aO]
theorem Zz(l:List au):(eU l).length=l.length:=by
 unfold eU;rw[X8 (GR l),Gl]
theorem abe{l:List au}{i:Nat}(h:i<l.length):(eU l).getD i 0<(bm (eU l)).length:=by
 obtain⟨ks,h1,h2⟩:=IV (GR l);have e:eU l=bp ks:=h2;have hi:i<(bp ks).length:=by rw[Jo,h1,Gl];exact h
 rw[e,zH];exact Fs (dn hi)
theorem Rz{l:List au}{i:Nat}(h:i<l.length):atR (oz l) (i:Int)=((eU l).getD i 0:Nat):=adB (by rw[Zz];exact h) (abe h)
structure adC(l:List au)(a b:Int)(way:List Int):Prop where
 err:qi l a b≠0->kW l a b=[.z,B false,I (qi l a b)]/\sx l a b way=false
 one:qi l a b=0->(cW l).2=0/\
  ((atR (oz l) a=atR (oz l) b/\kW l a b=[.z,B false,I 0]/\sx l a b way=false)\/
   (atR (oz l) a≠atR (oz l) b/\∃ x:List Int,kW l a b=[aQ x,B true,I 0]/\sx l a b x=true/\(sx l a b way=true->x.length<=way.length)))
theorem acx(l:List au)(a b:Int)(way:List Int):adC l a b way:=by
 refine⟨fun h=>⟨?_,Rw h⟩,fun h=>?_⟩
 .unfold kW qi at*
  split
  .rename_i h0;rw[if_pos h0] at h;split
   .rename_i h1;rw[if_pos h1] at h;exact absurd rfl h
   .rename_i h1;rfl
  .rename_i h0;rfl
 .obtain⟨h0,p,q,rfl,rfl,hp,hq⟩:=Sg h;refine⟨h0,?_⟩;have C:=tW h0
  have iI:(fB l.length (p:Int)&&fB l.length (q:Int))=true:=by
   unfold fB;simp only[ba,decide_eq_true_eq];omega
  have M:p<(aO l).length:=by rw[Gl];exact hp
  have J:q<(aO l).length:=by rw[Gl];exact hq
  have hD:∀ r,pL (bU l) (aO l) p q=r->kW l p q=match r with
   |some x=>[aQ (ap x.2),B true,I 0]
   |none=>[.z,B false,I 0]:=fun r hr=>by
   subst hr;unfold kW;rw[if_pos h0,if_pos iI];rfl
  have X:∀ {x y:Nat},x<l.length->y<l.length->(atR (oz l) (x:Int)=atR (oz l) (y:Int)↔(eU l).getD x 0=(eU l).getD y 0):=fun {x y} hx hy=>by
   rw[Rz hx,Rz hy];exact⟨fun h=>by omega,fun h=>by rw[h]⟩
  have jl:=X9 (GR l) C.po C.vT M J;cases hr:pL (bU l) (aO l) p q with
  |none=>
   have hs:=jl.1 hr;refine .inl ⟨(X hp hq).2 hs,hD _ hr,?_⟩;rw[Gk h0 hp hq];exact Jq C.po (N1 (GR l) C.po) M J hs
  |some x=>
   refine .inr ⟨fun e=>?_,ap x.2,hD _ hr,?_,fun hw=>?_⟩
   .have:=jl.2 ((X hp hq).1 e);rw[hr] at this;cases this
   .rw[Gk h0 hp hq];exact OT C.po C.vT M J hr
   .rw[Gk h0 hp hq] at hw;obtain⟨y,hy,U⟩:=Oh C.po C.vT M J hw;rw[hr] at hy;cases hy;simpa[ap] using U
end Go.Argus
namespace Go.Proofs.Tryz.K
theorem Rx{l:List au}{keep:List ByteArray}(h:jm l keep=0):(cW l).2=0/\keep.length<=60:=by
 unfold jm at h;split at h
 .rename_i h1;exact absurd h h1
 .rename_i h1;split at h
  .cases h
  .rename_i h2;exact⟨Decidable.not_not.1 h1,oG⟩
theorem Up{l:List au}{keep:List ByteArray}(hl:l.length<=1000)(h:jm l keep=0):aD prog 56 [.agg (nA l keep),bZ keep] (.aM [.sl ((oi l keep).map B) l.length,.sl ((mw l keep).map S) l.length]):=by
 obtain⟨h0,M⟩:=Rx h;have J:(bU l).length=(aO l).length:=by simp[bU,br]
 obtain⟨ks,hk,hs⟩:=IV J;have C:eU l=bp ks:=hs;have:=Ed (l:=l) (sh:=br l) (ca:=(aO l).map ap) (ks:=ks) (keep:=keep) hl (by simp at hk;omega) M;unfold nA oi mw;rw[if_pos h,List.map_map,List.map_map,C];exact this
theorem Nf{l:List au}{keep:List ByteArray}(hl:l.length<=1000):aD prog 24 [bi l,bZ keep] (.aM [if jm l keep=0 then bZ (mw l keep) else .z,I (jm l keep)]):=by
 have rM:=rM (keep:=keep) hl
 have bf:Tr (if jm l keep=0 then bZ (mw l keep) else .z):=by
  split
  .exact jb _
  .exact .z
 refine bj aja (.cons (iB l) (.cons (jb _) .nil)) (.aM (.cons bf (.cons (.s _) .nil))) ?_;rw[ajb]
 have U:(nA l keep).length=4/\(nA l keep).all D.one=true:=by
  unfold nA;split<;>exact⟨rfl,rfl⟩
 have M:=Up (keep:=keep) hl;obtain⟨J,Eg⟩:∃ J,J=nA l keep:=⟨_,rfl⟩
 obtain⟨C,X⟩:∃ C,C=mw l keep:=⟨_,rfl⟩
 have fP:C.length=l.length:=by rw[X];simp[mw]
 rw[<- Eg] at rM U M;rw[<- X] at M ⊢;generalize jm l keep=err at*
 refine ws ?_;refine ag ?_;refine er ?_
 obtain⟨x1,x2,x3,x4,rfl⟩:∃ a b c d,J=[a,b,c,d]:=by
  match J,U.1 with
  |[a,b,c,d],_=>exact⟨a,b,c,d,rfl⟩
 refine ag ?_;refine cl rM ?_;refine aV ?_;refine bL (fg rfl rfl rfl rfl) aP (bY t86 wO ⟨rfl,oS⟩ U.2) ?_;refine SS ?_;refine af (aC (aj ?_));refine ag ?_;refine af (ct rfl (fun h=>aC (aj ?_)) fun h=>bX (aj ?_))
 .have he:err≠0:=by simpa using h
  rw[if_neg he];refine ay ?_;exact af (tR (bH (bD (fH rfl rfl rfl))))
 .have he:err=0:=by simpa using h
  have Ed:=M he;rw[if_pos he];refine ag ?_;refine cl Ed ?_;refine bA ?_;refine er ?_;refine ay ?_;have e:bZ C=.sl (C.map S) l.length:=by rw[show bZ C=.sl (C.map S) C.length from rfl,fP]
  rw[he,e];exact af (bH (fH rfl rfl rfl))
theorem afm:lM prog (la prog 105)=S "".toUTF8:=kr
theorem afn(k:ByteArray)(es:List (ByteArray×ByteArray)):fz prog 105 false (cQ (.string k) (hP es))=S (Dy es k):=by
 have h:=Si k es;unfold Dy;cases hf:es.find? fun e=>decide (e.1=k) with
 |none=>
  rw[hf] at h;cases hl:cQ (.string k) (hP es) with
  |none=>simp[fz,afm]
  |some x=>rw[hl] at h;cases h
 |some e=>
  rw[hf] at h;cases hl:cQ (.string k) (hP es) with
  |none=>rw[hl] at h;cases h
  |some x=>
   rw[hl] at h;simp only[Option.map_some,aH] at h;simp[fz,h]
theorem K2(es:List (ByteArray×ByteArray)):(hP es).all (fun e=>cI prog 9 e.1)=true:=by
 refine bV.2 fun e he=>?_;obtain⟨x,_,rfl⟩:=List.mem_map.1 he;exact vO _
theorem X4{X:Nat->Prop}(es:List (ByteArray×ByteArray)):lK X (.map (hP es)):=fun i cs sz _=>by
 simp[Row.sub,hP,sub,pg,cJ]
theorem k58{s:ByteArray}{es:List (ByteArray×ByteArray)}:aD prog 58 [S s,.pt [.im (hP es)]] (S (Dy es s)):=by
 have C:Tr (.im (hP es)):=.im fun x hx=>by obtain⟨y,_,rfl⟩:=List.mem_map.1 hx;exact .s _
 refine bj ajc (.cons (.s _) (.cons (.pt (.cons C .nil)) .nil)) (Tr.s _) ?_;rw[ajd];refine ws ?_;refine SS ?_;refine er ?_;have J:=afn s es;have M:=K2 es;refine ag ?_;refine ax (zE rfl rfl K3 J) aP ⟨K4,vO s,K2 _⟩ ?_;refine SS ?_;exact af (aJ rfl rfl)
theorem Iz:∀ l:List au,(l.flatMap aY).length=l.length*8
 |[]=>rfl
 |x::l=>by rw[List.flatMap_cons,List.length_append,Iz l,List.length_cons];show 8+_=_;omega
theorem X5{X:Nat->Prop}(f:au):∀ d∈aY f,fJ X d:=fun d hd=>by
 simp only[aY,List.mem_cons,List.not_mem_nil,or_false] at hd;rcases hd with rfl|rfl|rfl|rfl|rfl|rfl|rfl|rfl<;>first|exact .s _|exact .sl _ _
theorem Ng{l:List au}{keep:List ByteArray}(hl:l.length<=1000):aD prog 22 [bi l,bZ keep] (.aM [if jm l keep=0 then bi (CJ l keep) else .z,I (jm l keep)]):=by
 have rM:=rM (keep:=keep) hl
 have bf:Tr (if jm l keep=0 then bi (CJ l keep) else .z):=by
  split
  .exact iB _
  .exact .z
 refine bj aje (.cons (iB l) (.cons (jb _) .nil)) (.aM (.cons bf (.cons (.s _) .nil))) ?_;rw[ajf];refine ws ?_;refine ag ?_;refine er ?_;by_cases he:jm l keep=0
 .have BF:=Up (keep:=keep) hl he;obtain⟨h0,_⟩:=Rx he;have hL:=tW h0;rw[if_pos he,he];rw[he] at rM;have Eg:nA l keep=fQ l (br l) ((aO l).map ap) (ap (eU l)):=if_pos he;rw[Eg] at rM BF;have Ed:=BF;obtain⟨zc,Lx⟩:∃ zc,zc=fQ l (br l) ((aO l).map ap) (ap (eU l)):=⟨_,rfl⟩
  refine ag ?_;refine cl rM ?_;refine cm ?_;refine af (aC (aj ?_));refine ag ?_;refine af (ct rfl (fun h=>oH) fun h=>bX (az ?_));refine ag ?_;refine cl Ed ?_;refine bA ?_;refine af (bJ (dE [(0,fQ l (br l) ((aO l).map ap) (ap (eU l)),86)] eH (l:=[(6,.pt (fQ l (br l) ((aO l).map ap) (ap (eU l)))),(8,.sl ((oi l keep).map B) l.length),(9,.sl ((mw l keep).map S) l.length)]) eH) (aj ?_));refine ag ?_;refine bL (eF (d:=.mp _) (cs':=[_]) rfl rfl rfl rfl rfl) ak (bY V.h V.h (by first|(simp;done)|exact⟨rfl,bF rfl⟩|(simp;omega)) rfl) ?_;refine af (aC (az ?_));refine bA ?_;obtain⟨C,BE⟩:∃ C:Nat->ByteArray,C=fun i=>ij l (ug (eU l) (te l keep) i):=⟨_,rfl⟩
  obtain⟨cD,Vw⟩:∃ cD,cD=[(6,D.pt (fQ l (br l) ((aO l).map ap) (ap (eU l)))),(8,D.sl ((oi l keep).map B) l.length),(9,D.sl ((mw l keep).map S) l.length)]:=⟨_,rfl⟩
  refine af (cz (fun s=>∃ nx,3<=nx/\aL prog s ⟨aA [(6,D.pt (fQ l (br l) ((aO l).map ap) (ap (eU l)))),(8,D.sl ((oi l keep).map B) l.length),(10,.rp 2 0)],bu [(1,.map (hP (nZ l C l.length))),(2,.cells [.mp 1] 105)],nx⟩) (cy (α:=Nat×Nat)
   (fun s=>⟨aA [(6,D.pt (fQ l (br l) ((aO l).map ap) (ap (eU l)))),(8,D.sl ((oi l keep).map B) l.length),(9,D.sl ((mw l keep).map S) l.length),(10,.rp 2 0),(34,bi l),(35,I l.length),(36,I s.1)],bu [(1,.map (hP (nZ l C s.1))),(2,.cells [.mp 1] 105)],s.2⟩)
   (fun s=>s.1<=l.length/\3<=s.2) (fun s=>l.length - s.1) (0,3)
   (cq eH eH) ⟨Nat.zero_le _,oM⟩ ?_) ?_)
  .rintro⟨t,nx⟩ ⟨ht,cC⟩;dsimp only at ht cC ⊢;refine SS ?_;refine af ⟨_,rfl,fun h=>?_,fun h=>?_⟩
   .have zs:t<l.length:=by simpa using h
    clear h;obtain⟨f,hf⟩:∃ f,l[t]? =some f:=⟨_,a8 zs⟩
    have hnt:(mw l keep)[t]? =some (C t):=by rw[BE];unfold mw;simp[zs]
    have hft:ij l t=f.name:=by unfold ij;rw[du,List.getElem?_map,hf];rfl
    refine az ?_;refine bA ?_;refine bL (fg (cs':=aY f) rfl rfl (al _ _ _) rfl) aP (bY t48 oO oS rfl) ?_;obtain⟨ml,U⟩:∃ ml,ml=[(1,Row.map (hP (nZ l C t))),(2,Row.cells [D.mp 1] 105)]:=⟨_,rfl⟩
    rw[<- U]
    have h1:∀ {u v},de nx (aY f) (prog.cellsOf 48) (up (up (bu ml) nx u) nx v) 1=bu ml 1:=fun {u v}=>by
     rw[U];exact gS (ai oG (ai oG rfl)) oG (X4 _)
    have h2:∀ {u v},de nx (aY f) (prog.cellsOf 48) (up (up (bu ml) nx u) nx v) 2=bu ml 2:=fun {u v}=>by
     rw[U];exact gS (ai oG (ai oG rfl)) oG (fun i cs sz _=>rfl)
    refine af ⟨⟨aA [(6,D.pt (fQ l (br l) ((aO l).map ap) (ap (eU l)))),(8,D.sl ((oi l keep).map B) l.length),(9,D.sl ((mw l keep).map S) l.length),(10,.rp 2 0),(11,I t),(12,.pt (aY f)),(34,bi l),(35,I l.length),(36,I t)],bu ml,nx+1⟩,?_,?_⟩
    .refine(lv (i:=nx) (cs:=aY f) (e:=48) (al _ _ _) (l:=[(6,D.pt (fQ l (br l) ((aO l).map ap) (ap (eU l)))),(8,D.sl ((oi l keep).map B) l.length),(9,D.sl ((mw l keep).map S) l.length),(10,.rp 2 0),(11,I t),(12,.pt (aY f)),(34,bi l),(35,I l.length),(36,I t)]) ⟨rfl,rfl,rfl,gk oG,rfl,lQ,rfl,rfl,rfl,trivial⟩).trans (cq eH ?_);subst U;exact⟨h1,h2,trivial⟩
    clear h1 h2;subst U;refine zU aa3 ?_;refine bA ?_;refine ax (Ga (n:=l.length) (i:=t) rfl rfl rI c9 hnt) aP ⟨uu,oG,oG,by simp[mw];omega⟩ ?_;refine SS ?_;refine bL (xB (key:=.string f.name) (v:=S (C t)) rfl rfl rfl rfl K3) aP ⟨K4,vO _,K2 _⟩ ?_;refine cu cE ?_;refine ag ?_;refine af (bh (t+1,nx+1) (cq eH ⟨?_,rfl,trivial⟩) ⟨oM,oM⟩ oM);rw[aa2,hft, <- Tt];rfl
   .have bq:t=l.length:=by
     have:¬ (t:Int)<l.length:=by simpa using h
     omega
    subst bq;exact⟨nx,cC,aw eH⟩
  .rintro s ⟨nx,cC,hg⟩;refine⟨_,(hg.trans (aL.Ce _ _ _ 1 (hP (nZ l C l.length)) rfl)).trans (fv (i:=2) (cs:=[.im (hP (nZ l C l.length))]) (e:=105) rfl (l:=[(6,D.pt (fQ l (br l) ((aO l).map ap) (ap (eU l)))),(8,D.sl ((oi l keep).map B) l.length),(10,.pt [.im (hP (nZ l C l.length))])]) eH),aj ?_⟩;refine SS ?_;refine af (aC (az ?_));refine bA ?_;obtain⟨to,iX⟩:∃ to,to=Dy (nZ l C l.length):=⟨_,rfl⟩
   obtain⟨lf,Vx⟩:∃ lf,lf=jY (eU l) (te l keep):=⟨_,rfl⟩
   have hmL:CJ l keep=nn l lf to l.length:=by rw[Vx,iX,BE];rfl
   rw[hmL]
   have uE:∀ t,(nn l lf to t).length<=t:=fun t=>by
    unfold nn;exact Nat.le_trans (List.length_filterMap_le _ _) oS
   refine af (cz (fun s=>∃ x m ao H4,ao<=H4/\aL prog s ⟨aA [(13,x)],m,H4⟩/\Grow m 0 ao x (nn l lf to l.length).length ((nn l lf to l.length).flatMap aY) 48) (cy (α:=Nat×D×Mem×Nat)
    (fun s=>⟨aA [(6,D.pt (fQ l (br l) ((aO l).map ap) (ap (eU l)))),(8,D.sl ((oi l keep).map B) l.length),(10,.pt [.im (hP (nZ l C l.length))]),(13,s.2.1),(51,bi l),(52,I l.length),(53,I s.1)],s.2.2.1,s.2.2.2⟩)
    (fun s=>s.1<=l.length/\Grow s.2.2.1 0 s.2.2.2 s.2.1 (nn l lf to s.1).length ((nn l lf to s.1).flatMap aY) 48) (fun s=>l.length - s.1) (0,.z,_,nx)
    (aw eH) ⟨Nat.zero_le _,.inl ⟨rfl,rfl,rfl⟩⟩ ?_) ?_)
   .rintro⟨t,x,m,nx⟩ ⟨ht,J⟩;dsimp only at ht J ⊢;refine SS ?_;refine af ⟨_,rfl,fun h=>?_,fun h=>?_⟩
    .have zs:t<l.length:=by simpa using h
     clear h;obtain⟨f,hf⟩:∃ f,l[t]? =some f:=⟨_,a8 zs⟩
     have uL:=bz hf;have ah:(oi l keep)[t]? =some (lf t):=by rw[Vx];unfold oi;simp[zs]
     refine az ?_;refine bA ?_;refine bL (fg (cs':=aY f) rfl rfl (al _ _ _) rfl) aP (bY t48 oO oS rfl) ?_;have dq:∀ g:List au,lK (fun k=>k=nx) (.cells (g.flatMap aY) 48):=fun g=>BT X5 g;refine af ⟨⟨aA [(6,D.pt (fQ l (br l) ((aO l).map ap) (ap (eU l)))),(8,D.sl ((oi l keep).map B) l.length),(10,.pt [.im (hP (nZ l C l.length))]),(13,x),(14,I t),(15,.pt (aY f)),(51,bi l),(52,I l.length),(53,I t)],de nx (aY f) (prog.cellsOf 48) (up (up m nx (some (.cells jG 48))) nx (some (.cells (aY f) 48))),nx+1⟩,?_,?_⟩
     .exact lv (i:=nx) (cs:=aY f) (e:=48) (al _ _ _) ⟨rfl,rfl,rfl,J.Te (bc _) nx _ _ rfl,rfl,lQ,rfl,rfl,rfl,trivial⟩
     have Vy:Grow (de nx (aY f) (prog.cellsOf 48) (up (up m nx (some (.cells jG 48))) nx (some (.cells (aY f) 48)))) 0 (nx+1) x (nn l lf to t).length ((nn l lf to t).flatMap aY) 48:=
      (J.mono (fun j _ hj=>(aB _ _ oG).trans (aB _ _ oG)) (bc _)).nV (bc _) (Nat.le_succ _) (dq _)
     generalize de nx (aY f) (prog.cellsOf 48) (up (up m nx (some (.cells jG 48))) nx (some (.cells (aY f) 48)))=m2 at*
     refine ws ?_;refine ag ?_;refine ax (Ga (n:=l.length) (i:=t) rfl rfl Ee c4 ah) aP ⟨Dx,oG,oG,by simp[oi];omega⟩ ?_;refine SS ?_;refine af (aR rfl (fun h=>fF ?_) fun h=>c7 ?_)
     .have ajg:lf t=true:=by simpa using h
      have hb:=tH (Go.Argus.checked (hL.rK f uL));have ajh:Tr (.fn (.func 58) [] [.pt [.im (hP (nZ l C l.length))]]):=.fn oS (.cons (.pt (.cons (.im fun x hx=>by obtain⟨y,_,rfl⟩:=List.mem_map.1 hx;exact .s _) .nil)) .nil)
      have zg:aD prog 57 [.agg (aY f),S f.name,.fn (.func 58) [] [.pt [.im (hP (nZ l C l.length))]]] (.agg (aY (ik f f.name to))):=zg (to:=to) ajh (fun X i cs sz _=>rfl) (fun b _ _=>by rw[iX];exact k58) (by have:=hb.aW;omega) (by have:=hb.cr;omega) (by have:=hb.sigs;omega) (by have:=hb.j7;omega) fun b Bu=>by
       have h1:=hb.bG b Bu;have h2:=h1.len;have h3:=h1.fin.len;have h4:=h1.fin.aU;have h5:=h1.fin.ins.len;exact⟨oG,fun x hx=>by have:=(h1.ins x hx).len;omega,oG,oG,oG⟩
      have DV:=Of (to:=to) (lf:=lf) hf;rw[ajg,if_pos rfl] at DV;have hTt:=uE t;generalize ik f f.name to=tf at*
      generalize nn l lf to t=T at*
      rcases Vy with⟨M,g2,rfl⟩|⟨r,M,g2,rfl,g3⟩
      .refine ax (dO (v:=.z) rfl) ak trivial ?_;refine aV ?_;refine cl zg ?_;refine SS ?_;refine eC (Ac rfl rfl V.h V.h (kN (al _ _ _) rfl)) ak ⟨V.h,(by first|omega|exact bF rfl|(simp;done)|(simp;omega)),oC,(by unfold maxLen;first|omega|(simp;omega)),(by rw[Nh];first|omega|(simp;omega))⟩ ?_;refine SS ?_;refine af ?_;refine ag ?_;refine af (bh (t+1,.rs (nx+1+1) 0 1,_,nx+1+1+1) (aw eH) ⟨oM,?_⟩ oM);dsimp only;have Ni:T=[]:=List.length_eq_zero_iff.1 M;rw[DV,Ni];refine .inr ⟨nx+1+1,oG,oG,rfl,(al _ _ _).trans ?_⟩;simp;rfl
      .have gT:∀ {a},up m2 (nx+1) a r=some (.cells (T.flatMap aY) 48):=ai oG g3;refine bA ?_;refine cl zg ?_;refine SS ?_;refine jq (je rfl gT rfl H5 oO (kN (al _ _ _) rfl) rfl) aP ⟨Hl,rfl,bF rfl,oC,by rw[Iz];omega,by unfold maxLen;omega,by rw[Nh];omega,by simp;omega⟩ ?_;refine SS ?_;refine af ?_;refine ag ?_;refine af (bh (t+1,.rs (nx+1+1) 0 (T.length+1),_,nx+1+1+1) (aw eH) ⟨oM,?_⟩ oM);dsimp only;rw[DV];refine .inr ⟨nx+1+1,oG,oG,oS,(al _ _ _).trans ?_⟩;rw[List.flatMap_append];simp;rfl
     .have aji:lf t=false:=by simpa using h
      show av _ _ _ _ _ _ _ _ _;refine ag ?_;refine af (bh (t+1,x,m2,nx+1) (aw eH) ⟨oM,?_⟩ oM);dsimp only;rw[Of hf,aji];simpa using Vy
    .have bq:t=l.length:=by
      have:¬ (t:Int)<l.length:=by simpa using h
      omega
     subst bq;exact⟨x,m,nx,nx,bc _,aw eH,J⟩
   .rintro s ⟨x,m,ao,H4,y5,hg,J⟩;generalize nn l lf to l.length=T at*
    have nR:∃ m2 gL,aL prog s ⟨aA [(13,bi T)],m2,gL⟩:=by
     rcases J with⟨M,g2,rfl⟩|⟨r,M,g2,rfl,g3⟩
     .have Ni:T=[]:=List.length_eq_zero_iff.1 M;subst Ni;refine⟨m,H4,hg.trans (.nD _ _ _ _ _ (fun t=>?_) fun i=>.inl rfl)⟩;by_cases h:t=13
      .subst h;exact AV
      .have e:aA [(13,D.z)] t=aA [(13,bi [])] t:=by simp[aA,h]
       rw[e];exact fun _ _ _ _ h=>h
     .exact⟨_,_,hg.trans (lv (i:=r) (e:=48) g3 (l:=[(13,bi T)]) ⟨jR (by rw[oO,Iz]),trivial⟩)⟩
    obtain⟨m2,gL,dG⟩:=nR;refine⟨_,dG,aj ?_⟩;refine ay ?_;exact af (bH (fH rfl rfl rfl))
 .rw[if_neg he]
  have zr:(nA l keep).length=4/\(nA l keep).all D.one=true:=by
   unfold nA;split<;>exact⟨rfl,rfl⟩
  obtain⟨kD,Eg⟩:∃ kD,kD=nA l keep:=⟨_,rfl⟩
  rw[<- Eg] at rM zr;generalize jm l keep=err at*
  obtain⟨x1,x2,x3,x4,rfl⟩:∃ a b c d,kD=[a,b,c,d]:=by
   match kD,zr.1 with
   |[a,b,c,d],_=>exact⟨a,b,c,d,rfl⟩
  refine ag ?_;refine cl rM ?_;refine aV ?_;refine bL (fg rfl rfl rfl rfl) aP (bY t86 wO ⟨rfl,oS⟩ zr.2) ?_;refine SS ?_;refine af (aC (aj ?_));refine ag ?_;refine af (ct rfl (fun h=>aC (aj ?_)) fun h=>absurd (by simpa using h) he);refine ay ?_;exact af (tR (bH (bD (fH rfl rfl rfl))))
theorem Xl{x:List Int}{i:Nat}{n:Int}(h:x[i]? =some n):(x.any fun i=>i==n)=true:=by
 simpa using bz h
theorem k28{c:List (List Int)}{n:Int}:aD prog 28 [bT c,I n] (I (atR c n)):=by
 unfold atR;refine mo Uq.he (.cons (qL _) (.cons (.s _) .nil)) fun J=>?_;have hlen:=(J (bT c) oS).sl.1
 have U:∀ x∈c,x.length<=9223372036854775807:=fun x hx=>by
  have:=((J (bT c) oS).sl.2 (aQ x) (List.mem_map_of_mem hx)).sl.1;unfold maxLen at this;omega
 unfold maxLen at hlen;refine bj Uq (.cons (qL _) (.cons (.s _) .nil)) (Tr.s _) ?_;rw[ajo];refine ws ?_;refine SS ?_;refine af (aC (az ?_));refine SS ?_
 refine af (cz (fun s=>(∃ nx,aL prog s ⟨aA [],fun _=>none,nx⟩)/\∀ (j:Nat) y,c[j]? =some y->(y.any fun i=>i==n)=false) (nt (α:=Nat) (fun k=>⟨aA [(0,bT c),(1,I n),(5,I k)],fun _=>none,0⟩)
  (fun k=>k<=c.length/\∀ j y,j<k->c[j]? =some y->(y.any fun i=>i==n)=false) (fun k=>c.length - k) 0 (aw eH) ⟨oG,fun j y hj=>by omega⟩ ?_) ?_)
 .rintro k ⟨hk,C⟩;refine aV ?_;refine af ⟨_,rfl,fun h=>?_,fun h=>?_⟩
  .have ah:k<c.length:=by simpa using h
   obtain⟨x,hx⟩:∃ x,c[k]? =some x:=⟨_,a8 ah⟩
   have wG:=U x (bz hx);refine az ?_;refine SS ?_
   refine af (nt (α:=Nat) (fun i=>⟨aA [(0,bT c),(1,I n),(5,I k),(6,I i)],fun _=>none,0⟩)
    (fun i=>i<=x.length/\∀ j y,j<i->x[j]? =some y->y≠n) (fun i=>x.length - i) 0 (aw eH) ⟨oG,fun j y hj=>by omega⟩ ?_)
   rintro i ⟨hi,M⟩;refine fV ?_;refine af ⟨_,rfl,fun h=>?_,fun h=>?_⟩
   .have eD:i<x.length:=by simpa using h
    obtain⟨v,hv⟩:∃ v,x[i]? =some v:=⟨_,a8 eD⟩
    refine ws ?_;refine bt ?_;refine af (aR rfl (fun hp=>aj ?_) fun hp=>c7 ?_)
    .have he:v=n:=by simpa using hp
     subst he;refine ag ?_;refine af (bH (cv (cv (bD (aJ rfl ?_)))));rw[tu hx (Xl hv) C];rfl
    .have he:v≠n:=by simpa using hp
     show av _ _ _ _ _ _ _ _ _;refine ay ?_;refine af (bh (i+1) (aw eH) ⟨oG,fun j y hj hy=>?_⟩ oG);by_cases e:j=i
     .subst e;rw[hv] at hy;cases hy;exact he
     .exact M j y oG hy
   .have X:¬ i<x.length:=by simpa using h
    show av _ _ _ _ _ _ _ _ _;refine ay ?_;refine af (bh (k+1) (aw eH) ⟨oG,fun j y hj hy=>?_⟩ oG);by_cases e:j=k
    .subst e;rw[hx] at hy;cases hy;rw[Bool.eq_false_iff];intro hc;have:n∈x:=by simpa using hc
     obtain⟨q,hq⟩:=ep this;exact M q n (by have:=(bM.1 hq).1;omega) hq rfl
    .exact C j y oG hy
  .have X:¬ k<c.length:=by simpa using h
   exact⟨⟨0,aw trivial⟩,fun j y hy=>C j y (by have:=(bM.1 hy).1;omega) hy⟩
 .rintro s ⟨⟨nx,hg⟩,C⟩;refine⟨_,hg,aj ?_⟩;refine SS ?_;refine af (aJ rfl ?_);rw[w9 C];rfl
theorem H6{l:List au}:aD prog 13 [bi l] (B (uy l)):=by
 refine mo Ur.he (.cons (iB l) .nil) fun eI=>?_;have hlen:=(eI (bi l) oS).sl.1;unfold maxLen at hlen;refine bj Ur (.cons (iB l) .nil) (Tr.s _) ?_;rw[ajp];refine ws ?_;refine SS ?_;refine af (aC (az ?_));refine SS ?_
 refine af (cz (fun s=>(∃ nx,aL prog s ⟨aA [(0,bi l)],fun _=>none,nx⟩)/\l.all wo=true) (nt (α:=Nat×Nat) (fun s=>⟨aA [(0,bi l),(3,I s.1)],fun _=>none,s.2⟩)
  (fun s=>s.1<=l.length/\(l.take s.1).all wo=true) (fun s=>l.length - s.1) (0,0) (aw eH) ⟨Nat.zero_le _,rfl⟩ ?_) ?_)
 .rintro⟨t,nx⟩ ⟨ht,J⟩;dsimp only at ht J ⊢;refine aV ?_;refine af ⟨_,rfl,fun h=>?_,fun h=>?_⟩
  .have zs:t<l.length:=by simpa using h
   clear h;obtain⟨f,hf⟩:∃ f,l[t]? =some f:=⟨_,a8 zs⟩
   have U:wo f=false->uy l=false:=fun hb=>by
    unfold uy;rw[Cn (bz hf) hb];rfl
   refine az ?_;refine bA ?_;refine bL (fg (cs':=aY f) rfl rfl (al _ _ _) rfl) aP (bY t48 oO oS rfl) ?_;refine af (bJ (fv (i:=nx) (l:=[(0,bi l),(3,I t),(4,.pt (aY f))]) (al _ _ _) ⟨rfl,rfl,lQ,trivial⟩) (aC (aj ?_)));refine bt ?_;refine bt ?_;refine fV ?_;refine bw rfl rfl (Ka rfl) (fun hc=>⟨ak,V.h⟩) ?_;refine ag ?_;have hd:Dz f=_:=(Vz (decide (12<(f.blocks.length:Int))) (decide (20<(f.aW.length:Int))) (decide (10<(f.cr.length:Int))) (decide (8<(f.signals.length:Int))) (decide (130<(f.name.size:Int)))).symm;refine af (ct rfl (fun h=>?_) fun h=>bX (aC (az ?_)))
   .have hb:Dz f=true:=hd.trans h;refine aC (aj ?_);refine SS ?_;refine af (ew (cv (bD (aJ (d:=B false) rfl ?_))));rw[U (by unfold wo;rw[hb];rfl)]
   have hH:Dz f=false:=hd.trans h;clear hd h
   have amm:f.blocks.length<=100000/\f.signals.length<=100000:=by
    unfold Dz at hH;simp only[Bool.or_eq_false_iff,decide_eq_false_iff_not] at hH;omega
   refine SS ?_
   refine af (cz (fun s=>aL prog s ⟨aA [(0,bi l),(3,I t),(4,.pt (aY f))],fun _=>none,nx+1⟩/\f.signals.all (fun s=> !A4 s)=true) (nt (α:=Nat) (fun k=>⟨aA [(0,bi l),(3,I t),(4,.pt (aY f)),(5,I k)],fun _=>none,nx+1⟩)
    (fun k=>k<=f.signals.length/\(f.signals.take k).all (fun s=> !A4 s)=true) (fun k=>f.signals.length - k) 0 (aw eH) ⟨Nat.zero_le _,rfl⟩ ?_) ?_)
   .rintro k ⟨hk,hinv⟩;refine bA ?_;refine af ⟨_,rfl,fun h=>?_,fun h=>?_⟩
    .have ah:k<f.signals.length:=by simpa using h
     obtain⟨x,hx⟩:∃ x,f.signals[k]? =some x:=⟨_,a8 ah⟩
     refine ws ?_;refine fV ?_;refine af (aR rfl (fun hp=>aj ?_) fun hp=>c7 ?_)
     .have hp:A4 x=true:=hp;refine SS ?_;refine af (bH (cv (bD (cv (bD (aJ (d:=B false) rfl ?_))))));rw[U (by unfold wo;rw[Cn (p:=fun s=> !A4 s) (bz hx) (by rw[hp];rfl)];simp)]
     .have hp:A4 x=false:=hp;show av _ _ _ _ _ _ _ _ _;refine ay ?_;exact af (bh (k+1) (aw eH) ⟨oG,uZ hx hinv (by rw[hp];rfl)⟩ oG)
    .have M:¬ k<f.signals.length:=by simpa using h
     rw[dv oG] at hinv;exact⟨aw eH,hinv⟩
   rintro s ⟨hg,ajq⟩;refine⟨_,hg,az ?_⟩;refine SS ?_
   refine af (nt (α:=Nat×Nat) (fun s=>⟨aA [(0,bi l),(3,I t),(4,.pt (aY f)),(6,I s.1)],fun _=>none,s.2⟩)
    (fun s=>s.1<=f.blocks.length/\(f.blocks.take s.1).all yw=true) (fun s=>f.blocks.length - s.1) (0,nx+1) (aw eH) ⟨Nat.zero_le _,rfl⟩ ?_)
   rintro⟨k,ny⟩ ⟨hk,hinv⟩;dsimp only at hk hinv ⊢;refine bA ?_;refine af ⟨_,rfl,fun h=>?_,fun h=>?_⟩
   .have ah:k<f.blocks.length:=by simpa using h
    clear h;obtain⟨x,hx⟩:∃ x,f.blocks[k]? =some x:=⟨_,a8 ah⟩
    have X:yw x=false->uy l=false:=fun hb=>U (by unfold wo;rw[Cn (bz hx) hb];simp);refine az ?_;refine fV ?_;refine af (bJ (fv (i:=ny) (l:=[(0,bi l),(3,I t),(4,.pt (aY f)),(6,I k),(7,.pt (bS x))]) (al _ _ _) ⟨rfl,rfl,rfl,rfl,lQ,trivial⟩) (aC (aj ?_)));refine bt ?_;refine bt ?_;refine aV ?_;refine bw rfl rfl (Ka rfl) (fun hc=>⟨ak,V.h⟩) ?_;refine dM ?_;refine ag ?_;have hd:DA x=_:=(Vz (decide (8<(x.ins.length:Int))) (decide (8<(x.fin.aU.length:Int))) (decide (8<(x.fin.args.length:Int))) (decide (130<(x.fin.name.size:Int))) (decide (8<(x.fin.ins.args.length:Int)))).symm;refine af (ct rfl (fun h=>?_) fun h=>bX (aC (az ?_)))
    .have hb:DA x=true:=hd.trans h;refine aC (aj ?_);refine SS ?_;refine af (ew (cv (cv (bD (aJ (d:=B false) rfl ?_)))));rw[X (by unfold yw;rw[hb];rfl)]
    have hK:DA x=false:=hd.trans h;clear hd h
    have eD:x.ins.length<=100000/\x.fin.aU.length<=100000:=by
     unfold DA at hK;simp only[Bool.or_eq_false_iff,decide_eq_false_iff_not] at hK;omega
    refine SS ?_
    refine af (cz (fun s=>aL prog s ⟨aA [(0,bi l),(3,I t),(4,.pt (aY f)),(6,I k),(7,.pt (bS x))],fun _=>none,ny+1⟩/\x.ins.all (fun y=> !A3 y)=true) (nt (α:=Nat) (fun j=>⟨aA [(0,bi l),(3,I t),(4,.pt (aY f)),(6,I k),(7,.pt (bS x)),(8,I j)],fun _=>none,ny+1⟩)
     (fun j=>j<=x.ins.length/\(x.ins.take j).all (fun y=> !A3 y)=true) (fun j=>x.ins.length - j) 0 (aw eH) ⟨Nat.zero_le _,rfl⟩ ?_) ?_)
    .rintro j ⟨hj,C⟩;refine bA ?_;refine af ⟨_,rfl,fun h=>?_,fun h=>?_⟩
     .have dw:j<x.ins.length:=by simpa using h
      obtain⟨y,hy⟩:∃ y,x.ins[j]? =some y:=⟨_,a8 dw⟩
      refine ws ?_;refine dM ?_;refine af (aR rfl (fun hp=>aj ?_) fun hp=>c7 ?_)
      .have hp:A3 y=true:=hp;refine SS ?_;refine af (bH (cv (bD (cv (cv (bD (aJ (d:=B false) rfl ?_)))))));rw[X (by unfold yw;rw[Cn (p:=fun y=> !A3 y) (bz hy) (by rw[hp];rfl)];simp)]
      .have hp:A3 y=false:=hp;show av _ _ _ _ _ _ _ _ _;refine ay ?_;exact af (bh (j+1) (aw eH) ⟨oG,uZ hy C (by rw[hp];rfl)⟩ oG)
     .have M:¬ j<x.ins.length:=by simpa using h
      rw[dv oG] at C;exact⟨aw eH,C⟩
    rintro s ⟨hg,Hm⟩;refine⟨_,hg,az ?_⟩;refine SS ?_
    refine af (nt (α:=Nat) (fun j=>⟨aA [(0,bi l),(3,I t),(4,.pt (aY f)),(6,I k),(7,.pt (bS x)),(9,I j)],fun _=>none,ny+1⟩)
     (fun j=>j<=x.fin.aU.length/\(x.fin.aU.take j).all (fun y=> !DB y)=true) (fun j=>x.fin.aU.length - j) 0 (aw eH) ⟨Nat.zero_le _,rfl⟩ ?_)
    rintro j ⟨hj,C⟩;refine cm ?_;refine af ⟨_,rfl,fun h=>?_,fun h=>?_⟩
    .have dw:j<x.fin.aU.length:=by simpa using h
     obtain⟨y,hy⟩:∃ y,x.fin.aU[j]? =some y:=⟨_,a8 dw⟩
     refine ws ?_;refine bt ?_;refine af (aR rfl (fun hp=>aj ?_) fun hp=>c7 ?_)
     .have hp:DB y=true:=hp;refine SS ?_;refine af (bH (cv (cv (cv (bD (aJ (d:=B false) rfl ?_))))));rw[X (by unfold yw;rw[Cn (p:=fun w=> !DB w) (bz hy) (by rw[hp];rfl)];simp)]
     .have hp:DB y=false:=hp;show av _ _ _ _ _ _ _ _ _;refine ay ?_;exact af (bh (j+1) (aw eH) ⟨oG,uZ hy C (by rw[hp];rfl)⟩ oG)
    .have M:¬ j<x.fin.aU.length:=by simpa using h
     rw[dv oG] at C;show av _ _ _ _ _ _ _ _ _;refine ay ?_;refine af (bh (k+1,ny+1) (aw eH) ⟨oM,uZ hx hinv ?_⟩ oM);unfold yw;rw[hK,Hm,C];rfl
   .have M:¬ k<f.blocks.length:=by simpa using h
    rw[dv oG] at hinv;show av _ _ _ _ _ _ _ _ _;refine ay ?_;refine af (bh (t+1,ny) (aw eH) ⟨oM,uZ hf J ?_⟩ oM);unfold wo;rw[hH,ajq,hinv];rfl
  .have M:¬ t<l.length:=by simpa using h
   rw[dv oG] at J;exact⟨⟨nx,aw eH⟩,J⟩
 .rintro s ⟨⟨nx,hg⟩,J⟩
  have hb:uy l=(decide ((l.length:Int)<=10)||(decide (60<(l.length:Int))&&decide ((l.length:Int)<=63))):=by
   unfold uy;rw[J,Bool.true_and]
  rw[hb];refine⟨_,hg,aj ?_⟩;refine bt ?_;refine bA ?_;refine af (aJ rfl ?_);show B _=B _;congr 1;cases decide ((l.length:Int)<=10)<;>cases decide ((60:Int)<l.length)<;>rfl
theorem Nj{a b:List Int}:aD prog 72 [aQ a,aQ b] (B (decide (a=b))):=by
 have J:∀ x∈[aQ a,aQ b],Tr x:=.cons (c6 _) (.cons (c6 _) .nil);refine mo Us.he J fun M=>?_;have hlen:=(M (aQ a) oS).sl.1;unfold maxLen at hlen;refine bj Us J (Tr.s _) ?_;rw[ajr];refine ws ?_;refine SS ?_;refine af (aC (aj ?_));refine bA ?_;refine af (ct rfl (fun h=>?_) fun h=>bX (aC (az ?_)))
 .refine aC (aj ?_);refine SS ?_;refine af (ew (aJ (d:=B false) rfl ?_));have C:a≠b:=fun e=>by subst e;simp at h
  rw[decide_eq_false C]
 have me:a.length=b.length:=by
  have:¬ ((a.length:Int)≠(b.length:Int)):=by simpa using h
  omega
 clear h;refine SS ?_
 refine af (cz (fun s=>aL prog s ⟨aA [],fun _=>none,0⟩/\a=b) (nt (α:=Nat) (fun k=>⟨aA [(0,aQ a),(1,aQ b),(5,I k)],fun _=>none,0⟩)
  (fun k=>k<=a.length/\∀ j,j<k->a[j]? =b[j]?) (fun k=>a.length - k) 0 (aw eH) ⟨oG,fun j hj=>by omega⟩ ?_) ?_)
 .rintro k ⟨hk,hinv⟩;refine aV ?_;refine af ⟨_,rfl,fun h=>?_,fun h=>?_⟩
  .have ah:k<a.length:=by simpa using h
   have hx:a[k]? =some a[k]:=a8 ah;have hy:b[k]? =some b[k]:=a8 oG;generalize a[k]=x at hx;generalize b[k]=y at hy;refine eg aa5 ?_;refine bt ?_;refine cu cE (aR rfl (fun hp=>?_) fun hp=>?_)
   .refine ws ?_;refine SS ?_;refine af (bH (cv (bD (aJ (d:=B false) rfl ?_))))
    have C:a≠b:=fun e=>by
     subst e;rw[hx] at hy;cases hy;simp at hp
    rw[decide_eq_false C]
   .refine c7 ?_;refine ay ?_;refine af (bh (k+1) (aw eH) ⟨oG,fun j hj=>?_⟩ oG);by_cases e:j=k
    .subst e;rw[hx,hy];congr 1;simpa using hp
    .exact hinv j oG
  .have X:¬ k<a.length:=by simpa using h
   refine⟨fR (l:=[]) trivial,List.ext_getElem? fun j=>?_⟩;by_cases hj:j<k
   .exact hinv j hj
   .rw[List.getElem?_eq_none oG,List.getElem?_eq_none oG]
 .rintro s ⟨hg,U⟩;refine⟨_,hg,aj ?_⟩;refine SS ?_;refine af (aJ (d:=B true) rfl ?_);rw[decide_eq_true U]
theorem BG{a b:List Int}:aD prog 39 [aQ a,aQ b] (B (decide (a=b))):=by
 have C:∀ x∈[aQ a,aQ b],Tr x:=.cons (c6 _) (.cons (c6 _) .nil);have Nj:=Nj (a:=a) (b:=b);refine bj ajs C (Tr.s _) ?_;rw[ajt];refine ws ?_;refine SS ?_;refine er ?_;refine ag ?_;refine cl Nj ?_;refine SS ?_;exact af (aJ rfl rfl)
theorem Nk{a b:List (List Int)}:aD prog 20 [bT a,bT b] (B (decide (a=b))):=by
 have J:∀ x∈[bT a,bT b],Tr x:=.cons (qL _) (.cons (qL _) .nil);refine mo Ut.he J fun M=>?_;have hlen:=(M (bT a) oS).sl.1;unfold maxLen at hlen;refine bj Ut J (Tr.s _) ?_;rw[aju];refine ws ?_;refine SS ?_;refine af (aC (aj ?_));refine bA ?_;refine af (ct rfl (fun h=>?_) fun h=>bX (aC (az ?_)))
 .refine aC (aj ?_);refine SS ?_;refine af (ew (aJ (d:=B false) rfl ?_));have C:a≠b:=fun e=>by subst e;simp at h
  rw[decide_eq_false C]
 have me:a.length=b.length:=by
  have:¬ ((a.length:Int)≠(b.length:Int)):=by simpa using h
  omega
 clear h;refine SS ?_
 refine af (cz (fun s=>aL prog s ⟨aA [],fun _=>none,0⟩/\a=b) (nt (α:=Nat) (fun k=>⟨aA [(0,bT a),(1,bT b),(5,I k)],fun _=>none,0⟩)
  (fun k=>k<=a.length/\∀ j,j<k->a[j]? =b[j]?) (fun k=>a.length - k) 0 (aw eH) ⟨oG,fun j hj=>by omega⟩ ?_) ?_)
 .rintro k ⟨hk,hinv⟩;refine aV ?_;refine af ⟨_,rfl,fun h=>?_,fun h=>?_⟩
  .have ah:k<a.length:=by simpa using h
   have hx:a[k]? =some a[k]:=a8 ah;have hy:b[k]? =some b[k]:=a8 oG;generalize a[k]=x at hx;generalize b[k]=y at hy;have BG:=BG (a:=x) (b:=y);refine eg aa6 ?_;refine dM ?_;refine cl BG ?_;refine SS ?_;refine cu cE (aR rfl (fun hp=>?_) fun hp=>?_)
   .refine ws ?_;refine SS ?_;refine af (bH (cv (bD (aJ (d:=B false) rfl ?_))))
    have C:a≠b:=fun e=>by
     subst e;rw[hx] at hy;cases hy;simp at hp
    rw[decide_eq_false C]
   .refine c7 ?_;refine ay ?_;refine af (bh (k+1) (aw eH) ⟨oG,fun j hj=>?_⟩ oG);by_cases e:j=k
    .subst e;rw[hx,hy];congr 1;simpa using hp
    .exact hinv j oG
  .have X:¬ k<a.length:=by simpa using h
   refine⟨fR (l:=[]) trivial,List.ext_getElem? fun j=>?_⟩;by_cases hj:j<k
   .exact hinv j hj
   .rw[List.getElem?_eq_none oG,List.getElem?_eq_none oG]
 .rintro s ⟨hg,U⟩;refine⟨_,hg,aj ?_⟩;refine SS ?_;refine af (aJ (d:=B true) rfl ?_);rw[decide_eq_true U]
theorem ajv{l:List (List Int)}:aD prog 20 [bT l,bT l] (B true):=by
 have:=Nk (a:=l) (b:=l)
 rwa[decide_eq_true rfl] at this
theorem Nl{a b:List ByteArray}:aD prog 27 [bZ a,bZ b] (B (decide (a=b))):=by
 have J:∀ x∈[bZ a,bZ b],Tr x:=.cons (jb _) (.cons (jb _) .nil);refine mo Uu.he J fun M=>?_;have hlen:=(M (bZ a) oS).sl.1;unfold maxLen at hlen;refine bj Uu J (Tr.s _) ?_;rw[ajw];refine ws ?_;refine SS ?_;refine af (aC (aj ?_));refine bA ?_;refine af (ct rfl (fun h=>?_) fun h=>bX (aC (az ?_)))
 .refine aC (aj ?_);refine SS ?_;refine af (ew (aJ (d:=B false) rfl ?_));have C:a≠b:=fun e=>by subst e;simp at h
  rw[decide_eq_false C]
 have me:a.length=b.length:=by
  have:¬ ((a.length:Int)≠(b.length:Int)):=by simpa using h
  omega
 clear h;refine SS ?_
 refine af (cz (fun s=>aL prog s ⟨aA [],fun _=>none,0⟩/\a=b) (nt (α:=Nat) (fun k=>⟨aA [(0,bZ a),(1,bZ b),(5,I k)],fun _=>none,0⟩)
  (fun k=>k<=a.length/\∀ j,j<k->a[j]? =b[j]?) (fun k=>a.length - k) 0 (aw eH) ⟨oG,fun j hj=>by omega⟩ ?_) ?_)
 .rintro k ⟨hk,hinv⟩;refine aV ?_;refine af ⟨_,rfl,fun h=>?_,fun h=>?_⟩
  .have ah:k<a.length:=by simpa using h
   have hx:a[k]? =some a[k]:=a8 ah;have hy:b[k]? =some b[k]:=a8 oG;generalize a[k]=x at hx;generalize b[k]=y at hy;refine eg aa7 ?_;refine bt ?_;refine cu cE (aR rfl (fun hp=>?_) fun hp=>?_)
   .refine ws ?_;refine SS ?_;refine af (bH (cv (bD (aJ (d:=B false) rfl ?_))))
    have C:a≠b:=fun e=>by
     subst e;rw[hx] at hy;cases hy;have hp:(!(x.toList==x.toList))=true:=hp;simp at hp
    rw[decide_eq_false C]
   .refine c7 ?_;refine ay ?_;refine af (bh (k+1) (aw eH) ⟨oG,fun j hj=>?_⟩ oG);by_cases e:j=k
    .subst e;rw[hx,hy];congr 1;exact acu hp
    .exact hinv j oG
  .have X:¬ k<a.length:=by simpa using h
   refine⟨fR (l:=[]) trivial,List.ext_getElem? fun j=>?_⟩;by_cases hj:j<k
   .exact hinv j hj
   .rw[List.getElem?_eq_none oG,List.getElem?_eq_none oG]
 .rintro s ⟨hg,U⟩;refine⟨_,hg,aj ?_⟩;refine SS ?_;refine af (aJ (d:=B true) rfl ?_);rw[decide_eq_true U]
end Go.Proofs.Tryz.K
end
namespace Go.Argus
open Go.Abs
abbrev iH:Sh:=.int .i64
abbrev DH:Sh:=.int .u8
abbrev Dj:Sh:=.pair DH (.pair iH (.pair iH (.pair iH (.pair iH (.pair (.sl iH) .unit)))))
abbrev GA:Sh:=.pair .str (.pair iH .unit)
abbrev GV:Sh:=.pair DH (.pair iH (.pair iH (.pair iH (.pair iH (.pair .str (.pair Dj (.pair (.sl iH) (.pair (.sl GA) (.pair iH .unit)))))))))
abbrev F1:Sh:=.pair (.sl Dj) (.pair GV .unit)
abbrev vC:Sh:=.pair .str (.pair .bool (.pair iH (.pair DH (.pair (.sl DH) (.pair (.sl DH) (.pair (.sl .str) (.pair (.sl F1) .unit)))))))
def Lb(x:Dj.val):cV:=⟨x.1,x.2.1,x.2.2.1,x.2.2.2.1,x.2.2.2.2.1,x.2.2.2.2.2.1⟩
def Sz(x:GA.val):iK:=⟨x.1,x.2.1⟩
def TI(x:GV.val):End:=⟨x.1,x.2.1,x.2.2.1,x.2.2.2.1,x.2.2.2.2.1,x.2.2.2.2.2.1,Lb x.2.2.2.2.2.2.1,x.2.2.2.2.2.2.2.1,List.map Sz x.2.2.2.2.2.2.2.2.1,x.2.2.2.2.2.2.2.2.2.1⟩
def RN(x:F1.val):bI:=⟨List.map Lb x.1,TI x.2.1⟩
def SA(x:vC.val):au:=⟨x.1,x.2.1,x.2.2.1,x.2.2.2.1,x.2.2.2.2.1,x.2.2.2.2.2.1,x.2.2.2.2.2.2.1,List.map RN x.2.2.2.2.2.2.2.1⟩
theorem CL{k:IntKind}(l:List Int):D.sl (List.flatMap (Sh.enc (.int k)) l) l.length=.sl (l.map fun n=>.s (.int k n)) l.length:=congrArg (D.sl · l.length) (Jw (fun n=>D.s (.int k n)) l)
theorem adP(l:List ByteArray):D.sl (List.flatMap (Sh.enc .str) l) l.length=bZ l:=congrArg (D.sl · l.length) (Jw S l)
theorem GW{s:Sh}{β:Type}{g:β->List D}{h:s.val->β}(he:∀ x,s.enc x=g (h x))(l:List s.val):D.sl (List.flatMap s.enc l) l.length=.sl ((l.map h).flatMap g) (l.map h).length:=by
 rw[O1 he l,List.length_map]
theorem c1'{α β:Type}(f:α->β){a a':α}(h:a=a'):f a=f a':=by rw[h]
theorem wP{α β γ:Type}(f:α->β->γ){a a':α}{b C:β}(h:a=a')(h2:b=C):f a b=f a' C:=by rw[h,h2]
theorem c3'{α β γ δ:Type}(f:α->β->γ->δ){a a':α}{b C:β}{c J:γ}(h:a=a')(h2:b=C)(M:c=J):f a b c=f a' C J:=by rw[h,h2,M]
theorem c4'{α β γ δ ε:Type}(f:α->β->γ->δ->ε){a a':α}{b C:β}{c J:γ}{d d':δ}(h:a=a')(h2:b=C)(M:c=J)(U:d=d'):f a b c d=f a' C J d':=by rw[h,h2,M,U]
theorem abt(l:List Int):(Sh.sl iH).arg l=aQ l:=CL l
theorem RO(x:Dj.val):Dj.enc x=cA (Lb x):=
 c1' (fun q=>[U8 x.1,I x.2.1,I x.2.2.1,I x.2.2.2.1,I x.2.2.2.2.1,q]) (CL (k:=.i64) x.2.2.2.2.2.1)
theorem abx(x:GA.val):GA.enc x=gR (Sz x):=rfl
theorem acQ(x:GV.val):GV.enc x=bE (TI x):=
 c3' (fun a b c=>[U8 x.1,I x.2.1,I x.2.2.1,I x.2.2.2.1,I x.2.2.2.2.1,S x.2.2.2.2.2.1]++(a++[b,c,I x.2.2.2.2.2.2.2.2.2.1])) (RO x.2.2.2.2.2.2.1) (CL (k:=.i64) x.2.2.2.2.2.2.2.1) (GW abx x.2.2.2.2.2.2.2.2.1)
theorem ZW(x:F1.val):F1.enc x=bS (RN x):=by
 have:=wP (fun a b=>a::(b++[])) (GW RO x.1) (acQ x.2.1);refine Eq.trans this ?_;rw[List.append_nil];rfl
theorem ZX(x:vC.val):vC.enc x=aY (SA x):=
 c4' (fun a b c d=>[S x.1,B x.2.1,I x.2.2.1,U8 x.2.2.2.1,a,b,c,d]) (CL (k:=.u8) x.2.2.2.2.1) (CL (k:=.u8) x.2.2.2.2.2.1) (adP x.2.2.2.2.2.2.1) (GW ZW x.2.2.2.2.2.2.2.1)
theorem ZO(l:List vC.val):(Sh.sl vC).arg l=bi (l.map SA):=GW ZX l
end Go.Argus
namespace Go.Proofs.YtnagfmlifobdiaaGreatDoor
open Go.Abs Go.Argus
set_option maxRecDepth 100000
theorem aj9:ownKnob Tryz.prog.godebug=none:=kr
theorem laidOut:laidOutB Tryz.prog=true:=kr
theorem agO: Tryz.prog.underlying 4=some .bool:=kr
noncomputable abbrev vW:List (String×DataW Unit):=Rows.shareTellsRow.laid
def SB:List Int:=[1,10,100,1000,10000,100000,1000000,10000000,100000000,1000000000,10000000000,100000000000,1000000000000,10000000000000,100000000000000,1000000000000000,10000000000000000,100000000000000000,1000000000000000000,10000000000000000000]
theorem Yo:∃ C,(C,DataW.agg (SB.map fun n=>DataW.lit (.int .u64 n)))∈vW/\ Tryz.prog.globalNamed C=some 0:=⟨_,.tail _ (.tail _ (.head _)),by kernel_rfl⟩
theorem O3(w:World):laidMetH Tryz.prog vW w=laidMet Tryz.prog vW w:=MakeChecks.laidMetH_plain _ _ _ kr
theorem acO{W:World}(h:laidMetH Tryz.prog vW W):FB (fun b=>b=0) W/\Di (fun b=>b=0) W:=by
 rw[O3] at h;obtain⟨J,hm,hg⟩:=Yo;obtain⟨ty,ht⟩:=Yp (t:=200) (e:=199) h hm hg kr kr kr kr kr oC;refine⟨⟨fun b hb=>?_,fun t C=>?_⟩,fun b o u hb hu=>?_⟩
 .subst hb;exact(Array.getElem?_eq_some_iff.1 ht).1
 .simp only[uk,List.mem_singleton] at C;subst C;exact⟨rfl,ty,_,ht⟩
 .subst hb;unfold World.cell? at hu;rw[ht] at hu;simp only at hu;have hu:((SB.map (Value.int .u64 ·)).toArray)[o]? =some u:=hu;rw[List.getElem?_toArray,List.getElem?_map] at hu;obtain⟨n,_,rfl⟩:=cU.1 hu;exact⟨n,rfl⟩
def akd:DataW Unit->Value
 | .lit (.int k n)=>.int k n
 |_=>undef
def ake:DataW Unit->Array Value
 | .agg ps=>(ps.map akd).toArray
 |_=> #[]
noncomputable def PF(os:Os):World:=
 let C:=World.holding Tryz.prog os ⟨#[], #[],[]⟩
 let f (d:DataW Unit):Obj->Obj:=fun
     | .cells _ t frozen=>.cells (ake d) t frozen
     |o=>o
 { C with heap:=((C.heap.modify 0 (f Rows.laid_internal_strconv_uint64pow10)).modify 2 (f Rows.laid_math_bits_deBruijn32tab)).modify 3 (f Rows.laid_math_bits_deBruijn64tab) }
theorem WC(os:Os)(args:Array Value):laidMetH Tryz.prog vW ((PF os).forCall (fun _ _=>0) ⟨#[],args,[]⟩).memory:=by
 rw[O3];exact laidMet_of_run' 8 kr kr
end Go.Proofs.YtnagfmlifobdiaaGreatDoor
section
open Go Go.Abs Go.Proofs Go.Argus
namespace Go.Proofs.Tryz.K
set_option maxRecDepth 100000
theorem acv:jm dJ [sE]=0:=by
 unfold jm;rw[pF]
 kernel_rfl
theorem acw:jm dJ [sB]=0:=by
 unfold jm;rw[pF]
 kernel_rfl
noncomputable def Nn:List (FuncId×Func×Code):=[(42, Tryz.f42,Sk),(81, Tryz.f81,Sl)]
theorem adA:∀ x∈Nn,lb prog x.1 x.2.1 x.2.2:=fun x hx=>by
 simp only[Nn,List.mem_cons,List.not_mem_nil,or_false] at hx;rcases hx with rfl|rfl
 .exact ajx
 .exact ajy
noncomputable def cxS:Ctx:=⟨fun f=>(Nn.find? fun x=>Nat.beq x.1 f).map (·.2),fun _ _ _=>none,fun _ _=>none⟩
theorem Sm:cxS.Ok prog:=⟨mixed,fun f fn c h=>by
 obtain⟨x,hx,he⟩:=cU.1 h;have h0:=List.find?_some hx;have h1:x.1=f:=Nat.eq_of_beq_eq_true h0;have:=adA x (List.mem_of_find?_eq_some hx);rw[h1,he] at this
 exact this,fun _ _ _ _ h=>oH,fun _ _ _ h=>oH⟩
def ajz(x:Argus.End):List D:=[U8 x.kind,I x.a,I x.b,I x.to,I x.gN,S x.name,U8 0,I 0,I 0,I 0,I 0,.z,.z,.z,I x.others]
def VA(f:au):List D:=[S f.name,B false,I 0,U8 0,.z,.z,.z,.sl (f.blocks.flatMap fun b=>.z::ajz b.fin) f.blocks.length]
theorem No:aD prog 42 [] (bi dJ):=by
 have h:kv prog 42 [] (dJ.flatMap VA) 5 48:=(Ez Sm (R4 Sm 1000) (args:=[]) oS).2 _ _ _ kr;have ht:Tr (.sl ((dJ.flatMap VA).take (5*prog.cellsOf 48)) 5):=pI (n:=12) kr;exact YI (h.adf ht) fun F β w v hv=>Dd 20 kr hv
theorem nV{f:FuncId}{rds:List Nat}{args C:List D}{r:D}{m:Mem}{nx:Nat}(hc:aD prog f C r)(h:gY (cG prog m 12) args=some (C,rds)):fG prog f args m nx (fun d m' J=>d=r/\m'=less rds m/\J=nx):=
 YH (BN h fun _ hi=>hi) hc
theorem So{s:ByteArray}{env:Env}{x y:Operand}{m:Mem}{nx:Nat}{t p:TypeId}(hx:(opd env x).core=S s)(hy:(opd env y).core=S s):Ef prog (.binOp .eql t x y p) env m nx ⟨True,B true,[],[],0⟩:=by
 have h:=J' (P:=prog) (env:=env) (m:=m) (nx:=nx) (t:=t) (p:=p) hx hy
 rwa[show(s.toList==s.toList)=true by simp] at h
theorem Eh:aD prog 15 [] (B true):=by
 have hl:dJ.length<=1000:=by decide
 have s9:aD prog 16 [bi dJ] (.aM [bT [[0,1],[2],[3],[4]],I 0]):=by
  have:=s9 (l:=dJ) hl;rw[aa9,pF] at this;exact this
 have J:aD prog 18 [bi dJ,bT [[0],[1],[2],[3],[4]]] (.aM [B true,I 0]):=by
  have:=Vo (l:=dJ) (c:=[[0],[1],[2],[3],[4]]) hl oC oC;rw[aa',pF] at this;exact this
 have M:aD prog 18 [bi dJ,bT [[0,1,2],[3],[4]]] (.aM [B false,I 0]):=by
  have:=Vo (l:=dJ) (c:=[[0,1,2],[3],[4]]) hl oC oC;rw[aba,pF] at this;exact this
 have U:aD prog 35 [bi dJ,I 0,I 4] (.aM [aQ [0,0],B true,I 0]):=by
  have:=jQ (l:=dJ) (a:=0) (b:=4) hl;rw[abb] at this;exact this
 have X:aD prog 35 [bi dJ,I 0,I 1] (.aM [.z,B false,I 0]):=by
  have:=jQ (l:=dJ) (a:=0) (b:=1) hl;rw[abc] at this;exact this
 have ajE:aD prog 35 [bi dJ,I 3,I 0] (.aM [aQ [],B true,I 0]):=by
  have:=jQ (l:=dJ) (a:=3) (b:=0) hl;rw[abd] at this;exact this
 have Ng:aD prog 22 [bi dJ,bZ [sE]] (.aM [bi ui,I 0]):=by
  have:=Ng (l:=dJ) (keep:=[sE]) hl;rw[acv,if_pos rfl,X6] at this;exact this
 have Nf:aD prog 24 [bi dJ,bZ [sB]] (.aM [bZ [sB,sB,sC,sD,sE],I 0]):=by
  have:=Nf (l:=dJ) (keep:=[sB]) hl;rw[acw,if_pos rfl,X7] at this;exact this
 have No:=No;refine bj ajF .nil (Tr.s _) ?_;rw[ajG];refine ws ?_;refine SS ?_;refine er ?_;refine cl No ?_;refine SS ?_;refine er ?_;refine SS ?_;refine cl s9 ?_;refine bA ?_;refine af (az ?_);refine fV ?_;refine gm (nV (rds:=[5,0,1,2,3,4]) J kr) rfl aP fun d m' C hp=>?_;obtain⟨rfl,rfl,rfl⟩:=hp;refine bA ?_;refine af ⟨_,fR (l:=[(1,bi dJ),(2,bT [[0,1],[2],[3],[4]]),(3,I 0),(4,B true),(5,I 0)]) eH,az ?_⟩;refine bA ?_;refine gm (nV (rds:=[9,6,7,8]) M kr) rfl aP fun d m' C hp=>?_;obtain⟨rfl,rfl,rfl⟩:=hp;refine bA ?_;refine af ⟨_,fR (l:=[(1,bi dJ),(2,bT [[0,1],[2],[3],[4]]),(3,I 0),(4,B true),(5,I 0),(6,B false),(7,I 0)]) eH,aj ?_⟩;have jQ:=U;refine SS ?_;refine cl jQ ?_;refine fV ?_;clear jQ;refine er ?_;have jQ:=X;refine SS ?_;refine cl jQ ?_;refine fV ?_;clear jQ;refine er ?_;have jQ:=ajE;refine SS ?_;refine cl jQ ?_;refine fV ?_;clear jQ;refine af (az ?_);refine ag ?_;refine gm (nV (rds:=[10]) Ng kr) rfl aP fun d m' C hp=>?_;obtain⟨rfl,rfl,rfl⟩:=hp;refine bA ?_;refine af ⟨_,fR (l:=[(1,bi dJ),(2,bT [[0,1],[2],[3],[4]]),(3,I 0),(4,B true),(5,I 0),(6,B false),(7,I 0),(8,aQ [0,0]),(9,B true),(10,I 0),(12,B false),(13,I 0),(14,aQ []),(15,B true),(16,I 0),(17,bi ui),(18,I 0)]) eH,az ?_⟩;refine ag ?_;refine gm (nV (rds:=[11]) Nf kr) rfl aP fun d m' C hp=>?_;obtain⟨rfl,rfl,rfl⟩:=hp;refine bA ?_;refine af ⟨_,fR (l:=[(2,bT [[0,1],[2],[3],[4]]),(3,I 0),(4,B true),(5,I 0),(6,B false),(7,I 0),(8,aQ [0,0]),(9,B true),(10,I 0),(12,B false),(13,I 0),(14,aQ []),(15,B true),(16,I 0),(17,bi ui),(18,I 0),(19,bZ [sB,sB,sC,sD,sE]),(20,I 0)]) eH,aC (aj ?_)⟩;refine bt ?_;refine bt ?_;refine bt ?_;refine ay ?_;refine af (nv (bX (az ?_)));have Nk:aD prog 20 [bT [[0,1],[2],[3],[4]],bT [[0,1],[2],[3],[4]]] (B true):=ajv;have BG:aD prog 39 [aQ [0,0],aQ [0,0]] (B true):=BG (a:=[0,0]) (b:=[0,0])
 have Nl:aD prog 27 [bZ [sB,sB,sC,sD,sE],bZ [sB,sB,sC,sD,sE]] (B true):=by
  have:=Nl (a:=[sB,sB,sC,sD,sE]) (b:=[sB,sB,sC,sD,sE])
  rwa[decide_eq_true rfl] at this
 refine cm ?_;refine gm (nV (rds:=[16,12,13,14,15]) Nk kr) rfl aP fun d m' C hp=>?_;obtain⟨rfl,rfl,rfl⟩:=hp;refine bt ?_;refine Kj rfl rfl (tq (cs:=[_,_]) V.h V.h V.h rfl rfl) ak ⟨rfl,oC,V.h,oC⟩ ?_;refine sv (rds:=[17]) BG rfl rfl rfl rfl (BN (n:=12) (r:=[17]) kr fun _ hi=>hi) aP ?_;refine bt ?_;refine dM ?_;refine af ⟨_,fR (l:=[(17,bi ui),(19,bZ [sB,sB,sC,sD,sE]),(21,B true)]) eH,aj ?_⟩;refine dM ?_;refine bw rfl rfl (sk (l:=ui) (i:=0) (z:=iF sA sA) rfl rfl H5 oO (vd) rfl) (fun hc=>⟨(by repeat' (first|exact trivial|exact hc|exact rfl|refine And.intro ?_ ?_)),sq (l:=ui) (i:=0) (z:=iF sA sA) Hl (vd) rfl⟩) ?_;refine ag ?_;refine bw rfl rfl (sk (l:=(iF sA sA).blocks) (i:=0) (z:=⟨[],Kp sA⟩) rfl rfl M5 HO (u7) rfl) (fun hc=>⟨(by repeat' (first|exact trivial|exact hc|exact rfl|refine And.intro ?_ ?_)),sq (l:=(iF sA sA).blocks) (i:=0) (z:=⟨[],Kp sA⟩) LM (u7) rfl⟩) ?_;refine ay ?_;refine bw (v:=B true) rfl rfl (So (s:=sA) rfl rfl) (fun hc=>⟨(by repeat' (first|exact trivial|exact hc|exact rfl|refine And.intro ?_ ?_)),trivial⟩) ?_;refine ay ?_;refine bw rfl rfl (sk (l:=ui) (i:=3) (z:=iF sE sC) rfl rfl H5 oO (vd) rfl) (fun hc=>⟨(by repeat' (first|exact trivial|exact hc|exact rfl|refine And.intro ?_ ?_)),sq (l:=ui) (i:=3) (z:=iF sE sC) Hl (vd) rfl⟩) ?_;refine ag ?_;refine bw (v:=B true) rfl rfl (So (s:=sE) rfl rfl) (fun hc=>⟨(by repeat' (first|exact trivial|exact hc|exact rfl|refine And.intro ?_ ?_)),trivial⟩) ?_;refine ay ?_;refine Kj rfl rfl (tq V.h V.h V.h rfl rfl) ak ⟨rfl,oC,V.h,oC⟩ ?_;refine sv (rds:=[18]) Nl rfl rfl rfl rfl (BN (n:=12) (r:=[18]) kr fun _ hi=>hi) aP ?_;refine ag ?_;exact af (aJ rfl rfl)
end Go.Proofs.Tryz.K
end
namespace Go.Proofs.Tryz.K
open Go.Abs
theorem ajI:kq=(S1 (G1 kq 0) (S1 (S1 (G1 kq 1) (C1 26 (S1 (G1 kq 2) .ret) K1)) (S1 (G1 kq 3) (S1 (G1 kq 4) (S1 (G1 kq 5) (S1 (S1 (G1 kq 6) (C1 51 (S1 (G1 kq 7) .ret) K1)) (S1 (S1 (G1 kq 8) (C1 57 (S1 (G1 kq 9) .ret) K1)) (S1 (G1 kq 10) (S1 (S1 (G1 kq 11) (C1 89 (S1 (G1 kq 12) .ret) K1)) (S1 (S1 (G1 kq 13) (C1 91 (S1 (G1 kq 14) .ret) K1)) (S1 (G1 kq 15) (S1 (G1 kq 16) .ret)))))))))))):=kr
end Go.Proofs.Tryz.K
section
open Go Go.Abs Go.Proofs Go.Argus
namespace Go.Proofs.Tryz.K
theorem k11{l:List au}{a b:Int}{way:List Int}:aD prog 11 [bi l,I a,I b,aQ way] (B true):=by
 have H6:=H6 (l:=l);refine bj ajH (.cons (iB l) (.cons (.s _) (.cons (.s _) (.cons (c6 way) .nil)))) (Tr.s _) ?_;rw[ajI];have nT:=acs (l:=l);generalize uy l=fw at*
 refine ws ?_;refine SS ?_;refine af (aC (aj ?_));refine SS ?_;refine cl H6 ?_;refine cm ?_;refine af (ct rfl (fun h=>aC (aj ?_)) fun h=>bX (aj ?_))
 .refine cl Eh ?_;refine SS ?_;exact af (ew (aJ rfl rfl))
 have hb:fw=true/\way.length<=30:=by
  revert h;by_cases hw:(30:Int)<way.length
  .rw[decide_eq_true hw];cases fw<;>simp
  .cases fw<;>simp[hw];omega
 obtain⟨rfl,hwl⟩:=hb;clear h H6;have nT:=nT rfl;have s9:=s9 (l:=l) oG;have jQ:=jQ (l:=l) (a:=a) (b:=b) oG;have uV:=uV (l:=l) (a:=a) (b:=b) (way:=way) oG;have X:=fun w=>Go.Proofs.Tryz.K.uV (l:=l) (a:=a) (b:=b) (way:=w) oG;have hT:=acx l a b way;have hE:=hT.err;have hO:=hT.one;clear hT;have Np:(cW l).2=0->qM l=bT (oz l):=fun h=>if_pos h;have LY:=fun n=>Go.Proofs.Tryz.K.k28 (c:=oz l) (n:=n);have U:=LY a;have Nq:=LY b;clear LY;generalize sx l a b way=ok at*
 generalize qi l a b=f at*
 by_cases hf:f=0
 .subst hf;obtain⟨h0,hO⟩:=hO rfl;clear hE;rw[Np h0,h0] at s9;clear Np h0;generalize oz l=C at*
  rcases hO with⟨zo,J,rfl⟩|⟨zo,x,J,hx,M⟩
  .rw[J] at jQ;clear J X;rw[zo] at U;generalize atR C b=ab at*
   clear zo;have l7:(ab==ab)=true:=by simp
   refine SS ?_;refine cl s9 ?_;refine bA ?_;refine er ?_;refine ay ?_;refine cl jQ ?_;refine fV ?_;refine er ?_;refine aV ?_;refine cl uV ?_;refine bA ?_;refine af (aC (aj ?_));refine ay ?_;refine af (nv (bX (aC (aj ?_))));refine cm ?_;refine af (nv (bX (aj ?_)));refine ag ?_;refine nu U rfl aP ?_;refine ag ?_;refine nu Nq rfl aP ?_;refine ag ?_;refine af (aC (aj ?_));refine ag ?_;refine ax (R0 rfl rfl) ak V.h ?_;refine fV ?_;refine Uw ?_;refine Ux ?_;refine aV ?_;refine af (nv (bX (aC (aj ?_))));refine ag ?_;refine af (GL (aC (aj ?_)));refine cl Eh ?_;refine SS ?_;refine Uw ?_;refine Ux ?_;refine ay ?_;exact af (ew (aJ rfl rfl))
  .have Uy:=X x;rw[hx] at Uy;rw[J] at jQ;clear J X hx;generalize atR C b=ab at*
   generalize atR C a=aa at*
   have l7:(aa==ab)=false:=by simpa using zo
   refine SS ?_;refine cl s9 ?_;refine bA ?_;refine er ?_;refine ay ?_;refine cl jQ ?_;refine fV ?_;refine er ?_;refine aV ?_;refine cl uV ?_;refine bA ?_;refine af (aC (aj ?_));refine ay ?_;refine af (nv (bX (aC (aj ?_))));refine cm ?_;refine af (nv (bX (aj ?_)));refine ag ?_;refine nu U rfl aP ?_;refine ag ?_;refine nu Nq rfl aP ?_;refine ag ?_;refine af (aC (aj ?_));refine ag ?_;refine ax (R0 rfl rfl) ak V.h ?_;refine bt ?_;refine aV ?_;refine af (ct rfl (fun h=>?_) fun _=>bX (aC (aj ?_)))
   .exfalso;revert h M;cases ok
    .simp
    .intro M h;have:=M rfl;simp at h;omega
   refine ag ?_;refine af (nv (bX (aj ?_)));have uV:=Uy;refine aV ?_;refine cl uV ?_;refine bA ?_;refine er ?_;refine cl Eh ?_;refine dM ?_;exact af (aJ rfl rfl)
 .obtain⟨J,rfl⟩:=hE hf;rw[J] at jQ;clear hO Np J X U Nq;have ru:(f !=0)=true:=by simpa using hf
  generalize (cW l).2=e at*
  have Vw:qM l=.z\/∃ C,qM l=bT C:=by
   unfold qM;split
   .exact .inr ⟨_,rfl⟩
   .exact .inl rfl
  generalize qM l=cD at*
  rcases Vw with rfl|⟨C,rfl⟩
  .have sN:(f !=f)=false:=by simp
   refine SS ?_;refine cl s9 ?_;refine bA ?_;refine er ?_;refine ay ?_;refine cl jQ ?_;refine fV ?_;refine er ?_;refine aV ?_;refine cl uV ?_;refine bA ?_;refine af (aC (aj ?_));refine ay ?_;refine af (nv (bX (aC (aj ?_))));clear sN;refine cm ?_;refine af (ct rfl (fun _=>aC (aj ?_)) fun h=>?_)
   .refine cl Eh ?_;refine bt ?_;exact af (ew (aJ rfl rfl))
   .exfalso;revert h;simp[hf]
  .have sN:(f !=f)=false:=by simp
   refine SS ?_;refine cl s9 ?_;refine bA ?_;refine er ?_;refine ay ?_;refine cl jQ ?_;refine fV ?_;refine er ?_;refine aV ?_;refine cl uV ?_;refine bA ?_;refine af (aC (aj ?_));refine ay ?_;refine af (nv (bX (aC (aj ?_))));clear sN;refine cm ?_;refine af (ct rfl (fun _=>aC (aj ?_)) fun h=>?_)
   .refine cl Eh ?_;refine bt ?_;exact af (ew (aJ rfl rfl))
   .exfalso;revert h;simp[hf]
end Go.Proofs.Tryz.K
end
