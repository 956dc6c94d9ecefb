/- Part 5. -/
import Derived.Test.YtnagfmlifobdiaaGreatDoorCoarsest4
import Derived.Handed
import Derived.LaidLaws
import Derived.Stop.Joined
import Derived.Test.YtnagfmlifobdiaaGreatDoorRows
set_option linter.all false
set_option maxHeartbeats 8000000
set_option maxRecDepth 10000
open List(range)
section
open Go Go.Abs Go.Proofs Go.Argus
namespace Go.Argus
def eD(l:List ap):List Nat:=lP (cX l) (aZ l)
def mL(l:List ap):List (List Int):=eu (eD l) (aV (eD l)).length
def tm(l:List ap):D:=if(dc l).2=0 then bM (mL l) else .z
def gd(es:List (Int×Nat)):List (Value×D):=es.map fun e=>(.int .i64 e.1,I (e.2:Nat))
theorem IZ(i:Int):∀ es:List (Int×Nat),(cM (.int .i64 i) (gd es)).map (·.2)=if iG es i then some (I (dR es i:Nat)) else none
 |[]=>rfl
 |e::es=>by
  have ih:=IZ i es;have e1:gd (e::es)=(Value.int .i64 e.1,I (e.2:Nat))::gd es:=rfl;rw[e1];simp only[cM];by_cases h:e.1=i
  .have hv:kH (Value.int .i64 e.1) (.int .i64 i)=true:=by rw[h];show(IntKind.i64==IntKind.i64&&i==i)=true;simp
   have h2:iG (e::es) i=true:=by unfold iG;simp[h]
   have C:dR (e::es) i=e.2:=by unfold dR;simp[h]
   rw[if_pos hv,h2,C];rfl
  .have hv:kH (Value.int .i64 e.1) (.int .i64 i)=false:=by show(IntKind.i64==IntKind.i64&&e.1==i)=false;simp[h]
   have h2:iG (e::es) i=iG es i:=by unfold iG;simp[h]
   have C:dR (e::es) i=dR es i:=by unfold dR;simp[h]
   rw[hv,if_neg oS,h2,C, <- ih,Option.map_map];rfl
theorem Zm{es:List (Int×Nat)}{i:Int}(h:iG es i=false):dR es i=0:=by
 unfold dR;cases hf:es.find? fun e=>e.1==i with
 |none=>rfl
 |some e=>
  have h1:=List.find?_some hf;have h2:=List.mem_of_find?_eq_some hf;have:iG es i=true:=List.any_eq_true.2 ⟨e,h2,h1⟩;rw[h] at this;cases this
theorem Qv{i:Int}{n:Nat}{es:List (Int×Nat)}(h:iG es i=false):fX (.int .i64 i) (I (n:Nat)) (gd es)=gd (es++[(i,n)]):=by
 have h1:=IZ i es;rw[h] at h1;unfold fX;cases hl:cM (.int .i64 i) (gd es) with
 |none=>simp[gd]
 |some x=>rw[hl] at h1;simp at h1
def wc(p:Int->Int->Bool)(a b:List Int):Bool:=decide (a.length=b.length)&&(range a.length).all fun i=>p (a.getD i 0) (b.getD i 0)
theorem Qw{l:List ap}{i j:Nat}{s t:ByteArray}(hi:(bB l)[i]? =some s)(hj:(bB l)[j]? =some t):((cX l).getD i 0==(cX l).getD j 0)=(s.toList==t.toList):=by
 have h1:(aT (bB l))[i]? =some ((cX l).getD i 0):=dZ (by have:=(bC.1 hi).1;simpa[cX] using this);have h2:(aT (bB l))[j]? =some ((cX l).getD j 0):=dZ (by have:=(bC.1 hj).1;simpa[cX] using this);have h:=B' hi hj;rw[h1,h2,aH] at h;rw[te,te];by_cases e:s=t
 .rw[h.2 e,e];simp
 .rw[beq_eq_false_iff_ne.2 fun C=>e (h.1 C),beq_eq_false_iff_ne.2 fun C=>e (xE C)]
theorem acd(es:List (Int×Nat))(a b:List Nat):wc (fun x y=>((dR es x:Nat):Int)==(dR es y:Nat)) (al a) (al b)=decide (a.map (fun(t:Nat)=>dR es t)=b.map fun(t:Nat)=>dR es t):=by
 have key:wc (fun x y=>((dR es x:Nat):Int)==(dR es y:Nat)) (al a) (al b)=true↔a.map (fun(t:Nat)=>dR es t)=b.map fun(t:Nat)=>dR es t:=by
  unfold wc;simp only[bc,decide_eq_true_eq,List.length_map];constructor
  .rintro⟨h1,h2⟩;refine List.ext_getElem? fun i=>?_;by_cases hi:i<a.length
   .have:=bQ.1 h2 i (List.mem_range.2 hi);have ha:(al a)[i]? =some ((a.getD i 0:Nat):Int):=by rw[List.getElem?_map,dZ (d:=0) hi];rfl
    have hb:(al b)[i]? =some ((b.getD i 0:Nat):Int):=by rw[List.getElem?_map,dZ (d:=0) (show i<b.length by omega)];rfl
    rw[ng ha,ng hb] at this;rw[List.getElem?_map,List.getElem?_map,dZ (d:=0) hi,dZ (d:=0) (show i<b.length by omega)];have:((dR es (a.getD i 0:Nat):Nat):Int)=(dR es (b.getD i 0:Nat):Nat):=by simpa using this
    simp only[Option.map_some,aH];omega
   .rw[List.getElem?_eq_none oP,List.getElem?_eq_none oP]
  .intro h;have hl:a.length=b.length:=by simpa using congrArg List.length h
   refine⟨hl,bQ.2 fun i hi=>?_⟩;have hi:i<a.length:=List.mem_range.1 hi;have ha:(al a)[i]? =some ((a.getD i 0:Nat):Int):=by rw[List.getElem?_map,dZ (d:=0) hi];rfl
   have hb:(al b)[i]? =some ((b.getD i 0:Nat):Int):=by rw[List.getElem?_map,dZ (d:=0) (show i<b.length by omega)];rfl
   rw[ng ha,ng hb];have:=congrArg (fun l=>l[i]?) h;simp only[List.getElem?_map] at this;rw[dZ (d:=0) hi,dZ (d:=0) (show i<b.length by omega)] at this;simp only[Option.map_some,aH] at this;rw[this];simp
 by_cases h:a.map (fun(t:Nat)=>dR es t)=b.map fun(t:Nat)=>dR es t
 .rw[decide_eq_true h,key.2 h]
 .rw[decide_eq_false h,Bool.eq_false_iff];exact fun h'=>h (key.1 h')
def oF(l:List ap)(c:List (List Int)):Bool:=if(dc l).2=0 then lx (cX l) (aZ l) c else false
theorem JU{sn:List Nat}{ca:List (List Nat)}{c:List (List Int)}{n:Nat}(hn:n<c.length)(h:mD ca.length c n=false):lx sn ca c=false:=by
 unfold lx;rw[qw hn h,Bool.false_and]
theorem Ca{N:Nat}{c:List (List Int)}{n:Nat}{x:List Int}(h:c[n]? =some x):mD N c n=(Ak c n x&&(range x.length).all (rh N c n x)):=by unfold mD;rw[h]
theorem aaV{N:Nat}{c:List (List Int)}{n k:Nat}{x:List Int}(h:c[n]? =some x)(hk:k<x.length)(he:rh N c n x k=false):mD N c n=false:=by rw[Ca h,qw hk he,Bool.and_false]
theorem aaW(es:List (Int×Nat)):(gd es).length=es.length:=by simp[gd]
theorem ace{sn:List Nat}{ca:List (List Nat)}{c:List (List Int)}(h:(entries c).length≠ca.length):lx sn ca c=false:=by
 unfold lx;rw[decide_eq_false h];simp
theorem aaX{sn:List Nat}{ca:List (List Nat)}{c:List (List Int)}{x:List Int}(hx:x∈c)(h:qK sn ca (entries c) x=false):lx sn ca c=false:=by
 unfold lx
 have:c.all (qK sn ca (entries c))=false:=by
  rw[Bool.eq_false_iff];intro ht;rw[bQ.1 ht x hx] at h;cases h
 rw[this];simp
theorem s7{α:Type}{p:α->Bool}{l:List α}{k:Nat}{x:α}(hx:l[k]? =some x)(h:(l.take k).all p=true)(hp:p x=true):(l.take (k+1)).all p=true:=by
 rw[List.take_add_one,hx,List.all_append,h];simp[hp]
end Go.Argus
namespace Go.Proofs.Tryz.K
theorem wP{l:List ap}(hl:l.length<=1000):aB prog 16 [bj l] (.aL [tm l,I (dc l).2]):=by
 have gM:=gM hl
 have M:Tr (tm l):=by
  unfold tm;split
  .exact nX _
  .exact .z
 refine bl aiv (.cons (js l) .nil) (.aL (.cons M (.cons (.s _) .nil))) ?_;unfold tm;by_cases he:(dc l).2=0
 .have C:=tN he;rw[if_pos he,he];rw[zT he,he] at gM;have X:(cX l).length=(aZ l).length:=by simp
  have zj:=zj (l:=l) (sh:=bB l) (ca:=aZ l) (by simp[bB]) oS C.wg C.len fun x hx=>by
   obtain⟨f,hf,rfl⟩:=List.mem_map.1 hx;have:=zA f.blocks;have:=(vf (Go.Argus.checked (C.sW f hf))).kN;simp;omega
  obtain⟨ks,hk,hs⟩:=ER X;have Bx:=Bx (l:=l) (sh:=bB l) (ca:=(aZ l).map al) (ks:=ks) (by simp at hk;omega);have U:lP (aT (bB l)) (aZ l)=aT ks:=hs;have J:mL l=eu (aT ks) (aV ks).length:=by unfold mL eD;rw[hs,xc]
  rw[U] at zj;rw[J];rw[Ud];refine ws ?_;refine ab ?_;refine er ?_;refine SS ?_;refine cl gM ?_;refine cw ?_;refine aa (aF (aj ?_));refine ab ?_;refine aa (qU (cx (aj ?_)));refine SS ?_;refine cl zj ?_;refine cl Bx ?_;refine ab ?_;exact aa (gl rfl rfl rfl)
 .rw[if_neg he];rw[B3 he] at gM;generalize (dc l).2=err at*
  rw[Ud];refine ws ?_;refine ab ?_;refine er ?_;refine SS ?_;refine cl gM ?_;refine cw ?_;refine aa (aF (aj ?_));refine ab ?_;refine aa (cQ rfl (fun h=>aF (aj ?_)) fun h=>?_)
  .refine ax ?_;exact aa (eQ (gl rfl rfl rfl))
  .exfalso;revert h;simpa using he
theorem AG(i:Int):cE prog 3 (.int .i64 i)=true:=by simp[cE,u3]
theorem Dg(es:List (Int×Nat)):(gd es).all (fun e=>cE prog 3 e.1)=true:=by
 refine bQ.2 fun e he=>?_;obtain⟨x,_,rfl⟩:=List.mem_map.1 he;exact AG _
theorem aiw:lQ prog (lb prog 93)=I 0:=kr
theorem Ti(i:Int)(es:List (Int×Nat)):fy prog 93 true (cM (.int .i64 i) (gd es))=.aL [I (dR es i:Nat),B (iG es i)]:=by
 have h:=IZ i es;cases hl:cM (.int .i64 i) (gd es) with
 |none=>
  rw[hl] at h;cases hh:iG es i with
  |true=>rw[hh] at h;simp at h
  |false=>
   rw[Zm hh];show(D.aL [lQ prog (lb prog 93),_])=_;rw[aiw];rfl
 |some x=>
  rw[hl] at h;cases hh:iG es i with
  |false=>rw[hh] at h;simp at h
  |true=>
   rw[hh] at h;simp only[Option.map_some,if_true,aH] at h;obtain⟨j,d⟩:=x;simp only at h;subst h;rfl
theorem Si(i:Int)(es:List (Int×Nat)):fy prog 93 false (cM (.int .i64 i) (gd es))=I (dR es i:Nat):=by
 have h:=Ti i es;cases hl:cM (.int .i64 i) (gd es) with
 |none=>
  rw[hl] at h;have h:D.aL [lQ prog (lb prog 93),B false]=_:=h;have h1:=(List.cons.inj (D.aL.inj h)).1;exact h1
 |some x=>
  rw[hl] at h;have h:D.aL [x.2,B true]=_:=h;exact(List.cons.inj (D.aL.inj h)).1
theorem k50{a b:Int}{es:List (Int×Nat)}:aB prog 50 [I a,I b,.pt [.im (gd es)]] (B (((dR es a:Nat):Int)==(dR es b:Nat))):=by
 refine bl aix (.cons (.s _) (.cons (.s _) (.cons (.pt (.cons (.im fun x hx=>by obtain⟨y,_,rfl⟩:=List.mem_map.1 hx;exact .s _) .nil)) .nil))) (Tr.s _) ?_;rw[aiy];refine ws ?_;refine SS ?_;refine er ?_;refine ab ?_;refine aw (zG rfl rfl A1 (Si a es)) aM ⟨A2,AG _,Dg _⟩ ?_;refine ab ?_;refine aw (zG rfl rfl A1 (Si b es)) aM ⟨A2,AG _,Dg _⟩ ?_;refine ab ?_;exact aa (aI rfl rfl)
theorem M'{a b:List Int}{g:FuncId}{fs cs:List D}{p:Int->Int->Bool}(ht:Tr (.fn (.func g) fs cs))(hg:∀ x y,aB prog g (fs++[I x,I y]++cs) (B (p x y)))(ha:a.length<=100000):
 aB prog 49 [aP a,aP b,.fn (.func g) fs cs] (B (wc p a b)):=by
 refine bl aiz (.cons (dn a) (.cons (dn b) (.cons ht .nil))) (Tr.s _) ?_;rw[aiA];refine ws ?_;refine SS ?_;refine aa (aF (aj ?_));refine bx ?_;refine aa (cQ rfl (fun h=>aF (aj ?_)) fun h=>cx (aF (az ?_)))
 .have h:¬ a.length=b.length:=fun e=>by rw[e] at h;simp at h
  unfold wc;rw[decide_eq_false h,Bool.false_and];refine SS ?_;exact aa (eQ (aI rfl rfl))
 have h:a.length=b.length:=by
  have:(a.length:Int)=b.length:=by simpa using h
  omega
 unfold wc;rw[decide_eq_true h,Bool.true_and];refine ax ?_
 refine aa (cn (fun s=>∃ m nx,aJ prog s ⟨ay [],m,nx⟩/\(range a.length).all (fun i=>p (a.getD i 0) (b.getD i 0))=true) (cy (α:=Nat×Mem×Nat)
  (fun s=>⟨ay [(1,aP b),(2,.fn (.func g) fs cs),(15,aP a),(16,I a.length),(17,I s.1)],s.2.1,s.2.2⟩)
  (fun s=>s.1<=a.length/\(range s.1).all (fun i=>p (a.getD i 0) (b.getD i 0))=true) (fun s=>a.length - s.1) (0,_,_)
  (au eH) ⟨Nat.zero_le _,rfl⟩ ?_) ?_)
 .rintro⟨i,m,nx⟩ ⟨hi,C⟩;dsimp only at hi C ⊢;refine SS ?_;refine aa ⟨_,rfl,fun h=>?_,fun h=>?_⟩
  .have J:i<a.length:=by simpa using h
   obtain⟨x,hx⟩:∃ x,a[i]? =some x:=⟨_,a7 J⟩
   obtain⟨y,hy⟩:∃ y,b[i]? =some y:=⟨_,a7 oG⟩
   have U:=hg x y;have hp:p (a.getD i 0) (b.getD i 0)=p x y:=by rw[ng hx,ng hy]
   refine ws ?_;refine bx ?_;refine er ?_;refine bx ?_;refine er ?_;refine ax ?_;refine cl U ?_;refine SS ?_;refine aa (aO rfl (fun h=>aj ?_) fun h=>cT ?_)
   .have hf:p x y=false:=by simpa using h
    rw[qw J (hp.trans hf)];refine SS ?_;exact aa (bH (cm (bE (aI rfl rfl))))
   .have hf:p x y=true:=by simpa using h
    refine ab ?_;exact aa (bi (i+1,m,nx) (au eH) ⟨oM,oL C (hp.trans hf)⟩ oM)
  .have X:¬ i<a.length:=by simpa using h
   have:i=a.length:=by omega
   subst this;exact⟨m,nx,au trivial,C⟩
 .rintro s ⟨m,nx,M,C⟩;rw[C];refine⟨_,M,aj ?_⟩;refine SS ?_;exact aa (aI rfl rfl)
end Go.Proofs.Tryz.K
namespace Go.Abs
theorem adp{P:Program}{env:Env}{m:Mem}{nx:Nat}{x y:Operand}{t e:TypeId}{a:Int}{l:List Int}(hx:(opd env x).core=aP (a::l))(hy:(opd env y).core=.s (.int .i64 1))(he:aD P t=e)(hs:P.cellsOf e=1)(ht:bh P t=true):
 Ef P (.slice t x (some y) none none) env m nx ⟨True,aP l,[],[],0⟩:=by
 have h:=JC (P:=P) (env:=env) (m:=m) (nx:=nx) (t:=t) (lo:=some y) (hi:=none) (a:=1) (b:=((a::l).length:Int)) (es':=l.map I) hx he hs (by simp[dW,hy,D.int?]) (by simp[dW]) (by
  simp only[List.map_cons,Int.reduceToNat,Nat.mul_one,List.drop_succ_cons,List.drop_zero,List.length_cons]
  exact dt oS)
 have h2:(bh P t=true/\(0:Int)<=1/\(1:Int)<=((a::l).length:Int)/\((a::l).length:Int)<=((a::l).length:Int))=True:=by
  apply propext;constructor
  .exact fun _=>trivial
  .exact fun _=>⟨ht,oG,by simp;omega,oG⟩
 have C:(((a::l).length:Int) - 1).toNat=l.length:=by simp
 rw[h2,C] at h;exact h
end Go.Abs
namespace Go.Proofs.Tryz.K
theorem acf{l:List ap}{c:List (List Int)}(hl:l.length<=1000)(he:(dc l).2≠0):aB prog 18 [bj l,bM c] (.aL [B false,I (dc l).2]):=by
 have gM:=gM hl;refine bl Ue (.cons (js l) (.cons (nX c) .nil)) (.aL (.cons (.s _) (.cons (.s _) .nil))) ?_;rw[B3 he] at gM;generalize (dc l).2=err at*
 rw[Uf];refine ws ?_;refine ab ?_;refine er ?_;refine SS ?_;refine cl gM ?_;refine cw ?_;refine aa (aF (aj ?_));refine ab ?_;refine aa (cQ rfl (fun h=>aF (aj ?_)) fun h=>?_)
 .refine ax ?_;exact aa (eQ (gl rfl rfl rfl))
 .exfalso;revert h;simpa using he
theorem adq{l:List ap}{c:List (List Int)}(hl:l.length<=1000)(he:(dc l).2=0)(sR:c.length<=100000)(lu:∀ x∈c,x.length<=100000):aB prog 18 [bj l,bM c] (.aL [B (lx (cX l) (aZ l) c),I 0]):=by
 have gM:=gM hl;refine bl Ue (.cons (js l) (.cons (nX c) .nil)) (.aL (.cons (.s _) (.cons (.s _) .nil))) ?_;have hL:=tN he;rw[zT he,he] at gM;have iP:=iP (l:=l) (sh:=bB l) (ca:=(aZ l).map al);have hN:(aZ l).length=l.length:=by simp
 rw[Uf];refine ws ?_;refine ab ?_;refine er ?_;refine SS ?_;refine cl gM ?_;refine cw ?_;refine aa (aF (aj ?_));refine ab ?_;refine aa (cQ rfl (fun h=>by cases h) fun h=>cx (az ?_));refine ab ?_;refine bN (eK (d:=.mp _) (cs':=[_]) rfl rfl rfl rfl rfl) ak (bX V.h V.h (by first|(simp;done)|exact⟨rfl,bF rfl⟩|(simp;omega)) rfl) ?_;refine aa ⟨_,qB (i:=0) (cs:=cR l (bB l) ((aZ l).map al)) (e:=82) rfl (l:=[(1,bM c),(6,.pt (cR l (bB l) ((aZ l).map al))),(8,.rp 2 0)]) ⟨rfl,lU,rfl,trivial⟩ (ml:=[(1,.map (gd [])),(2,.cells [.mp 1] 93)]) eH,aj ?_⟩;refine SS ?_;refine aa (aF (az ?_));refine ax ?_
 refine aa (cn (fun s=>(∃ nx,2<nx/\aJ prog s ⟨ay [(1,bM c),(6,.pt (cR l (bB l) ((aZ l).map al))),(8,.rp 2 0)],br [(1,.map (gd (entries c))),(2,.cells [.mp 1] 93)],nx⟩)/\(range c.length).all (mD (aZ l).length c)=true) (cy (α:=Nat×Nat)
  (fun s=>⟨ay [(1,bM c),(6,.pt (cR l (bB l) ((aZ l).map al))),(8,.rp 2 0),(9,I (s8 c s.1)),(29,bM c),(30,I c.length),(31,I s.1)],br [(1,.map (gd (entries (c.take s.1)))),(2,.cells [.mp 1] 93)],s.2⟩)
  (fun s=>s.1<=c.length/\2<s.2/\(range s.1).all (mD (aZ l).length c)=true) (fun s=>c.length - s.1) (0,3)
  (bZ eH eH) ⟨Nat.zero_le _,oC,rfl⟩ ?_) ?_)
 .rintro⟨n,nx⟩ ⟨hn,J,U⟩;dsimp only at hn J U ⊢;refine SS ?_;refine aa ⟨_,rfl,fun h=>?_,fun h=>?_⟩
  .have X:n<c.length:=by simpa using h
   clear h;obtain⟨x,hx⟩:∃ x,c[n]? =some x:=⟨_,a7 X⟩
   have sL:=lu x (bu hx);refine ws ?_;refine bx ?_;cases x with
   |nil=>
    refine aa (aF (aj ?_));refine ba ?_;(iterate 5 refine z fun _ _=>?_);refine SS ?_;refine aa (cQ rfl (fun h=>aF (aj ?_)) fun h=>by cases h);have hr:mD (aZ l).length c n=false:=by rw[Ca hx];rfl
    rw[JU X hr];refine ab ?_;exact aa (eQ (cm (bE (gl rfl rfl rfl))))
   |cons a C=>
    have ha:(a::C)[0]? =some a:=rfl;have Nb:Ak c n (a::C)=decide (s8 c n<a):=rfl;have HR:s8 c (n+1)=a:=by unfold s8;rw[if_neg oG,show n+1 - 1=n by omega,ng hx];rfl
    have aE:(((a::C).length:Int)==0)=false:=by simp;omega
    have Bs:=hx;generalize hxx:a::C=x at hx ha Nb sL aE;refine aa (aF (aj ?_));have nG:=aE;refine dJ ?_;refine ab ?_;refine aa (cQ rfl (fun h=>aF (aj ?_)) fun h=>cx (aj ?_))
    .have hr:mD (aZ l).length c n=false:=by
      have h:a<=s8 c n:=by simpa using h
      rw[Ca hx,Nb,decide_eq_false oG,Bool.false_and]
     rw[JU X hr];refine ab ?_;exact aa (eQ (cm (bE (gl rfl rfl rfl))))
    have aiB:Ak c n x=true:=by
     have h:¬ a<=s8 c n:=by simpa using h
     rw[Nb,decide_eq_true oG]
    clear h;refine ba ?_;refine aa (az ?_);refine ax ?_
    refine aa (cy (α:=Nat×Nat)
     (fun s=>⟨ay [(1,bM c),(6,.pt (cR l (bB l) ((aZ l).map al))),(8,.rp 2 0),(9,I a),(10,I n),(11,aP x),(29,bM c),(30,I c.length),(31,I n),(49,aP x),(50,I x.length),(51,I s.1)],br [(1,.map (gd (entries (c.take n)++(x.take s.1).map fun j=>(j,n)))),(2,.cells [.mp 1] 93)],s.2⟩)
     (fun s=>s.1<=x.length/\2<s.2/\(range s.1).all (rh (aZ l).length c n x)=true) (fun s=>x.length - s.1) (0,nx)
     (bZ eH ⟨by rw[List.take_zero,List.map_nil,List.append_nil];rfl,rfl,trivial⟩) ⟨Nat.zero_le _,J,rfl⟩ ?_)
    rintro⟨k,nx⟩ ⟨hk,J,sY⟩;dsimp only at hk J sY ⊢;refine SS ?_;refine aa ⟨_,rfl,fun h=>?_,fun h=>?_⟩
    .have gj:k<x.length:=by simpa using h
     clear h;obtain⟨i,hi⟩:∃ i,x[k]? =some i:=⟨_,a7 gj⟩
     have ku:br [(1,Row.map (gd (entries (c.take n)++(x.take k).map fun j=>(j,n)))),(2,.cells [.mp 1] 93)] 1=some (.map (gd (entries (c.take n)++(x.take k).map fun j=>(j,n)))):=rfl;have zo:rh (aZ l).length c n x k=(!(iG (entries (c.take n)++(x.take k).map fun j=>(j,n)) i)&&(decide (0<=i)&&(decide (i<(aZ l).length)&&(decide (k=0)||decide (x.getD (k - 1) 0<i))))):=by unfold rh;rw[hi]
     have fm:(entries (c.take n)++(x.take (k+1)).map fun j=>(j,n))=(entries (c.take n)++(x.take k).map fun j=>(j,n))++[(i,n)]:=by rw[List.take_add_one,hi,List.map_append,List.append_assoc];rfl
     generalize (entries (c.take n)++(x.take k).map fun j=>(j,n))=es at*
     refine ws ?_;refine bx ?_;refine aa (aF (aj ?_));refine ab ?_;refine aw (E2 rfl ku rfl A1 (Ti i es)) aM ⟨A2,AG i,Dg es⟩ ?_;refine bx ?_;refine aa (aF (aj ?_));have DA:rh (aZ l).length c n x k=false->lx (cX l) (aZ l) c=false:=fun h=>JU X (aaV hx gj h);have Hi:decide ((l.length:Int)<=i)= !decide (i<((aZ l).length:Int)):=by rw[hN];by_cases h:i<(l.length:Int)<;>simp[h];omega
     have og:decide (i<(0:Int))= !decide (0<=i):=by by_cases h:0<=i<;>simp[h];omega
     cases k with
     |zero=>
      have vW:decide ((0:Int)<((0:Nat):Int))=false:=rfl;refine dJ ?_;refine gc iP ?_;refine cw ?_;refine iY rfl (congrArg some (Bool.and_false _)) fun _ _=>?_;refine iY rfl (congrArg some (Bool.and_false _)) fun _ _=>?_;refine iY rfl (congrArg some (Bool.and_false _)) fun _ _=>?_;refine iY rfl (congrArg some (Bool.and_false _)) fun _ _=>?_;refine iY rfl (congrArg some (Bool.and_false _)) fun _ _=>?_;refine iY rfl (congrArg some (Bool.and_false _)) fun _ _=>?_;refine iY rfl (congrArg some (Bool.and_false _)) fun _ _=>?_;refine ab ?_;refine aa (cQ rfl (fun h=>aF (aj ?_)) fun h=>cx (fF ?_))
      .rw[DA (by rw[zo];revert h;rw[Hi,og];cases iG es i<;>cases decide (0<=i)<;>cases decide (i<((aZ l).length:Int))<;>simp)];refine ab ?_;exact aa (eQ (cm (cm (bE (gl rfl rfl rfl)))))
      .have M:rh (aZ l).length c n x 0=true:=by rw[zo];revert h;rw[Hi,og];cases iG es i<;>cases decide (0<=i)<;>cases decide (i<((aZ l).length:Int))<;>simp
       have iM:iG es i=false:=by
        rw[zo] at M;simp only[bc,Bool.not_eq_true'] at M;exact M.1
       refine ax ?_;refine bN (xA (key:=.int .i64 i) (v:=I (n:Nat)) rfl ku rfl rfl A1) aM ⟨A2,AG i,Dg es⟩ ?_;rw[Qv iM];refine aa ?_;refine ab ?_;refine aa (bi (0+1,nx) ?_ ⟨oM,J,oL sY M⟩ oM);dsimp only;rw[fm];exact bZ eH ⟨ah _ _ _,rfl,trivial⟩
     |succ k=>
      obtain⟨y,hy⟩:∃ y,x[k]? =some y:=⟨_,a7 oG⟩
      have vW:decide ((0:Int)<((k+1:Nat):Int))=true:=decide_eq_true oG;have vX:((k+1:Nat):Int) - 1=(k:Nat)/\ -9223372036854775808<=((k:Nat):Int)/\((k:Nat):Int)<=9223372036854775807:=⟨oG,oG,oG⟩
      have Vp:decide (i<=y)= !decide (y<i):=by by_cases h:y<i<;>simp[h];omega
      rw[show k+1 - 1=k by omega,ng hy,decide_eq_false (show ¬ k+1=0 by omega),Bool.false_or] at zo;refine dJ ?_;refine gc iP ?_;refine bw ?_;refine cw ?_;refine aa (cQ rfl (fun h=>aF (aj ?_)) fun h=>cx (fF ?_))
      .rw[DA (by rw[zo];revert h;rw[Hi,og,Vp];cases iG es i<;>cases decide (0<=i)<;>cases decide (i<((aZ l).length:Int))<;>cases decide (y<i)<;>simp)];refine ab ?_;exact aa (eQ (cm (cm (bE (gl rfl rfl rfl)))))
      .have M:rh (aZ l).length c n x (k+1)=true:=by rw[zo];revert h;rw[Hi,og,Vp];cases iG es i<;>cases decide (0<=i)<;>cases decide (i<((aZ l).length:Int))<;>cases decide (y<i)<;>simp
       have iM:iG es i=false:=by
        rw[zo] at M;simp only[bc,Bool.not_eq_true'] at M;exact M.1
       refine ax ?_;refine bN (xA (key:=.int .i64 i) (v:=I (n:Nat)) rfl ku rfl rfl A1) aM ⟨A2,AG i,Dg es⟩ ?_;rw[Qv iM];refine aa ?_;refine ab ?_;refine aa (bi ((k+1)+1,nx) ?_ ⟨oM,J,oL sY M⟩ oM);dsimp only;rw[fm];exact bZ eH ⟨ah _ _ _,rfl,trivial⟩
    .have bq:¬ k<x.length:=by simpa using h
     have:k=x.length:=by omega
     subst this;rw[List.take_length, <- NR hx];have hrw:mD (aZ l).length c n=true:=by rw[Ca hx,aiB,sY];rfl
     show aq _ _ _ _ _ _ _ _ _;refine ab ?_;refine aa (bi (n+1,nx) (bZ ⟨rfl,rfl,rfl,?_,rfl,rfl,rfl,trivial⟩ eH) ⟨oM,J,oL U hrw⟩ oM);dsimp only;rw[HR];rfl
  .have bq:¬ n<c.length:=by simpa using h
   have:n=c.length:=by omega
   subst this;rw[List.take_length];exact⟨⟨nx,J,au eH⟩,U⟩
 .rintro s ⟨⟨nx,J,dQ⟩,U⟩;have Tj:=EG U c.length (bd _);rw[List.take_length] at Tj;obtain⟨_,aiC⟩:=Tj;have ku:br [(1,Row.map (gd (entries c))),(2,.cells [.mp 1] 93)] 1=some (.map (gd (entries c))):=rfl;refine⟨_,dQ,aF (aj ?_)⟩;clear dQ;refine SS ?_;refine q8 (Ke rfl rfl V.h) ak ?_;rw[aaW];refine SS ?_;refine cl iP ?_;refine SS ?_;refine aa (cQ rfl (fun h=>aF (aj ?_)) fun h=>cx (aF (az ?_)))
  .have h:(entries c).length≠(aZ l).length:=fun e=>by rw[e,hN] at h;simp at h
   rw[ace h];refine ab ?_;exact aa (eQ (gl rfl rfl rfl))
  have hlen:(entries c).length=(aZ l).length:=by
   have:((entries c).length:Int)=l.length:=by simpa using h
   omega
  clear h;refine ax ?_
  have jh:∀ x∈c,∀ i∈x,0<=i/\i<(l.length:Int):=fun x hx i hi=>by
   obtain⟨n,hn⟩:=dw hx;have:=aiC (i,n) (uT.2 ⟨x,hn,hi⟩);rw[hN] at this;exact this
  have aiD:lx (cX l) (aZ l) c=c.all (qK (cX l) (aZ l) (entries c)):=by unfold lx;rw[U,decide_eq_true hlen];simp
  have rC:∀ x∈c,qK (cX l) (aZ l) (entries c) x=false->lx (cX l) (aZ l) c=false:=fun x hx h=>aaX hx h;generalize entries c=es at*
  refine aa (cn (fun s=>(∃ m nx,aJ prog s ⟨ay [],m,nx⟩)/\c.all (qK (cX l) (aZ l) es)=true) (cy (α:=Nat×Nat)
   (fun s=>⟨ay [(6,.pt (cR l (bB l) ((aZ l).map al))),(8,.pt [.im (gd es)]),(96,bM c),(97,I c.length),(98,I s.1)],fun _=>none,s.2⟩)
   (fun s=>s.1<=c.length/\(c.take s.1).all (qK (cX l) (aZ l) es)=true) (fun s=>c.length - s.1) (0,nx)
   ((aJ.Ch _ _ _ 1 (gd es) rfl).trans (fu (i:=2) (cs:=[.im (gd es)]) (e:=93) rfl eH)) ⟨Nat.zero_le _,rfl⟩ ?_) ?_)
  .rintro⟨n,nx⟩ ⟨hn,qm⟩;dsimp only at hn qm ⊢;refine SS ?_;refine aa ⟨_,rfl,fun h=>?_,fun h=>?_⟩
   .have X:n<c.length:=by simpa using h
    clear h;obtain⟨x,hx⟩:∃ x,c[n]? =some x:=⟨_,a7 X⟩
    have iO:=bu hx;have Bc:=bQ.1 U n (List.mem_range.2 X);rw[Ca hx] at Bc;refine ws ?_;refine ax ?_;cases x with
    |nil=>simp[Ak] at Bc
    |cons a C=>
     obtain⟨a0,aN⟩:=jh _ iO a oS;obtain⟨p,rfl⟩:=jH a0;have amy:C.length<=100000:=by have:=lu _ iO;simp at this;omega
     have yY:p<l.length:=by omega
     have ha:((p:Int)::C)[0]? =some ((p:Nat):Int):=rfl;obtain⟨sa,Ed⟩:∃ sa,(bB l)[p]? =some sa:=⟨_,a7 (by simpa[bB] using yY)⟩
     have fD:((aZ l).map al)[p]? =some (al ((aZ l).getD p [])):=by rw[List.getElem?_map,dZ (d:=[]) (by simpa using yY)];rfl
     refine aa (az ?_);refine SS ?_;refine aw (adp rfl rfl wH c3 yu) aM trivial ?_;refine ab ?_
     refine aa (cy (α:=Nat×Nat)
      (fun s=>⟨ay [(6,.pt (cR l (bB l) ((aZ l).map al))),(8,.pt [.im (gd es)]),(17,aP ((p:Int)::C)),(96,bM c),(97,I c.length),(98,I n),(103,aP C),(104,I C.length),(105,I s.1)],fun _=>none,s.2⟩)
      (fun s=>s.1<=C.length/\(C.take s.1).all (vL (cX l) (aZ l) es p)=true) (fun s=>C.length - s.1) (0,nx)
      (au eH) ⟨Nat.zero_le _,rfl⟩ ?_)
     rintro⟨k,nx⟩ ⟨hk,HV⟩;dsimp only at hk HV ⊢;refine SS ?_;refine aa ⟨_,rfl,fun h=>?_,fun h=>?_⟩
     .have gj:k<C.length:=by simpa using h
      clear h;obtain⟨i,hi⟩:∃ i,C[k]? =some i:=⟨_,a7 gj⟩
      obtain⟨i0,iN⟩:=jh _ iO i (List.mem_cons_of_mem _ (bu hi));obtain⟨m,rfl⟩:=jH i0;have ia:m<l.length:=by omega
      obtain⟨si,bY⟩:∃ si,(bB l)[m]? =some si:=⟨_,a7 (by simpa[bB] using ia)⟩
      have HT:((aZ l).map al)[m]? =some (al ((aZ l).getD m [])):=by rw[List.getElem?_map,dZ (d:=[]) (by simpa using ia)];rfl
      have KV:(al ((aZ l).getD m [])).length<=100000:=by
       obtain⟨f,hf⟩:∃ f,l[m]? =some f:=⟨_,a7 ia⟩
       rw[E8 hf];have:=zA f.blocks;have:=(vf (Go.Argus.checked (hL.sW f (bu hf)))).kN;simp;omega
      have M':=M' (a:=al ((aZ l).getD m [])) (b:=al ((aZ l).getD p [])) (g:=50) (fs:=[]) (cs:=[.pt [.im (gd es)]]) (p:=fun x y=>((dR es x:Nat):Int)==(dR es y:Nat)) (.fn oS (.cons (.pt (.cons (.im fun x hx=>by obtain⟨y,_,rfl⟩:=List.mem_map.1 hx;exact .s _) .nil)) .nil)) (fun x y=>k50) KV
      have HB:vL (cX l) (aZ l) es p m=((si.toList==sa.toList)&&wc (fun x y=>((dR es x:Nat):Int)==(dR es y:Nat)) (al ((aZ l).getD m [])) (al ((aZ l).getD p []))):=by
       unfold vL;rw[jZ,jZ,Qw bY Ed,acd]
      generalize al ((aZ l).getD m [])=ci at*
      generalize al ((aZ l).getD p [])=cp at*
      generalize wc (fun x y=>((dR es x:Nat):Int)==(dR es y:Nat)) ci cp=ef at*
      refine ws ?_;refine ax ?_;refine aa (eA Zn ?_);refine bw ?_;refine bw ?_;refine dJ ?_;refine bt rfl rfl (Kd rfl rfl) (fun hc=>⟨ak,trivial⟩) ?_;refine gc M' ?_;refine ab ?_;refine cz cJ (aO rfl (fun h=>aj ?_) fun h=>cT ?_)
      .have hb:vL (cX l) (aZ l) es p m=false:=by
        rw[HB];revert h;cases (si.toList==sa.toList)<;>cases ef<;>simp
       have hr:qK (cX l) (aZ l) es ((p:Int)::C)=false:=by
        rw[Bool.eq_false_iff];intro ht;have:=bQ.1 ht (m:Int) (bu hi);simp only[List.headD_cons] at this;rw[hb] at this;cases this
       rw[rC _ iO hr];refine ab ?_;exact aa (bH (cm (cm (bE (gl rfl rfl rfl)))))
      .have hb:vL (cX l) (aZ l) es p m=true:=by
        rw[HB];revert h;cases (si.toList==sa.toList)<;>cases ef<;>simp
       refine ab ?_;exact aa (bi (k+1,nx) (au eH) ⟨oM,s7 hi HV hb⟩ oM)
     .have bq:¬ k<C.length:=by simpa using h
      rw[dt oG] at HV;have hr:qK (cX l) (aZ l) es ((p:Int)::C)=true:=HV;show aq _ _ _ _ _ _ _ _ _;refine ab ?_;exact aa (bi (n+1,nx) (au eH) ⟨oM,s7 hx qm hr⟩ oM)
   .have bq:¬ n<c.length:=by simpa using h
    rw[dt oG] at qm;exact⟨⟨_,_,au trivial⟩,qm⟩
  .rintro s ⟨⟨m,nx,dQ⟩,qm⟩;rw[aiD,qm];refine⟨_,dQ,aj ?_⟩;refine ab ?_;exact aa (gl rfl rfl rfl)
theorem uQ{l:List ap}{c:List (List Int)}(hl:l.length<=1000)(J:c.length<=100000)(C:∀ x∈c,x.length<=100000):aB prog 18 [bj l,bM c] (.aL [B (oF l c),I (dc l).2]):=by
 by_cases he:(dc l).2=0
 .have:=adq hl he J C;unfold oF
  rwa[if_pos he,he]
 .have:=acf (c:=c) hl he;unfold oF
  rwa[if_neg he]
end Go.Proofs.Tryz.K
end
namespace Go.Abs
section
variable{P:Program}{F:Nat->Prop}{fn:Func}
def JM(I:(Nat->Prop)->Mem->Nat->Prop):Prop:=∀ (S:Nat->Prop) m nx (C:Nat->Prop) m' ai,I S m nx->nx<=ai->(∀ i,i<nx->¬ S i->m' i=m i)->(∀ i,C i->S i\/(nx<=i/\i<ai))->I C m' ai
def JN(I:(Nat->Prop)->Mem->Nat->Prop):Prop:=∀ (S:Nat->Prop) m nx (q:Nat) (σ:D->D),S q->I S m nx->I S (fun j=>if j=q then none else(m j).map (Row.sub σ)) nx
def Qg(I:Nat->(Nat->Prop)->Mem->Nat->Prop)(Stop:Mem->Nat->Prop)(k:Nat)(S:Nat->Prop)(m:Mem)(nx:Nat)(d:D)(m':Mem)(C:Nat):Prop:=
 ((d=.s (.bool true)/\I (k+1) S m' C)\/(d=.s (.bool false)/\Stop m' C))/\nx<=C/\∀ i,S i->m' i=m i
def Hb(P:Program)(f:FuncId)(fs cs:List D)(xs:List (List D)):Prop:=
 nZ P f=true/\∀ (F:Nat->Prop) (l:Nat) (I:Nat->(Nat->Prop)->Mem->Nat->Prop) (Stop:Mem->Nat->Prop) (m:Mem) (nx:Nat) (β:aC) (w:World) (vs:Array Value),(∀ k,JM (I k))->(∀ k,JN (I k))->qQ Stop->
  aK P F m β w->(∀ i,nx<=i->β i=none)->Rs F β w (fs++[.fn (.yield l) [] []]++cs) vs->
  (∀ k x S m nx,xs[k]? =some x->(∀ i,S i->i<nx)->I k S m nx->nq P F β w l x m nx (Qg I Stop k S m nx))->I 0 (fun _=>False) m nx->
  Calls P f vs w fun e w'=>∃ v d m' C β',e=.returned v/\((∃ S,I xs.length S m' C)\/Stop m' C)/\aK P F m' β' w'/\(∀ i,C<=i->β' i=none)/\R F β' w' d v/\Step β w β' w'/\nx<=C/\∀ i,i<nx->β i=none->β' i=none
def SY(J:Nat)(xs:List (List D))(I:Nat->(Nat->Prop)->Mem->Nat->Prop)(Stop:Mem->Nat->Prop):eg:=fun l args m nx dX=>
 l=J/\∃ k S,xs[k]? =some args/\(∀ i,S i->i<nx)/\I k S m nx/\∀ d m' C,Qg I Stop k S m nx d m' C->dX d m' C
instance{l:Nat}{xs:List (List D)}{I:Nat->(Nat->Prop)->Mem->Nat->Prop}{Stop:Mem->Nat->Prop}:dy (SY l xs I Stop):=⟨fun _ _ _ _ _ _ hk ⟨h1,k,S,h2,C,J,M⟩=>⟨h1,k,S,h2,C,J,fun d m nx h=>hk _ _ _ (M d m nx h)⟩⟩
theorem ab2(gU:P.follows .mixedOrders=true){f:FuncId}{c:Code}(hf:ld P f fn c){fs cs:List D}(hn:Nat.ble (fs.length+1+cs.length) fn.ntmps=true){xs:List (List D)}
 (h:∀ (l:Nat) (I:Nat->(Nat->Prop)->Mem->Nat->Prop) (Stop:Mem->Nat->Prop) (m:Mem) (nx:Nat),(∀ k,JM (I k))->(∀ k,JN (I k))->qQ Stop->I 0 (fun _=>False) m nx->
  AW P (SY l xs I Stop) true c (gV P fn.results.toList fun _ st=>(∃ S,I xs.length S st.mem st.nx)\/Stop st.mem st.nx) ⟨ig (fs++[.fn (.yield l) [] []]++cs),m,nx⟩):Hb P f fs cs xs:=
 ⟨hf.he,fun F l I Stop m nx β w vs hI hF M hm X hR hy h0=>
  (zM gU hf.hf hf.hb hf.af (by simpa[Nat.add_assoc,Nat.add_comm,Nat.add_left_comm] using hn) (h l I Stop m nx hI hF M h0) (fun l' args m' U K hK=>by
   obtain⟨rfl,k,S,h1,h2,C,J⟩:=hK
   exact(hy k args S m' U h1 h2 C).mono J) hm X hR).mono fun e w' ⟨v,d,st',β',h1,h2,C,J,h5,h6,h7,h8⟩=>⟨v,d,st'.mem,st'.nx,β',h1,h2,J,h5,C,h6,h7,h8⟩⟩
def AX(P:Program)(Y:eg):Code->(Exit->St->Prop)->St->Prop
 | .seq a b,Q,st=>AX P Y a (fL (fun st'=>∃ C,aJ P st' C/\AX P Y b Q C) Q) st
 | .block id b,Q,st=>AX P Y b (fv id Q) st
 | .rangeFunc g ps assign body,Q,st=>(opd st.env g).ask/\∃ f fs cs xs,∃ I:Nat->Mem->Nat->Prop,(opd st.env g).core=.fn (.func f) fs cs/\Hb P f fs cs xs/\(∀ x∈xs,x.length=ps.size/\∀ d∈x,Tr d)/\I 0 st.mem st.nx/\
   (∀ k m nx x,xs[k]? =some x->I k m nx->AW P cY false assign (Cj fun s=>AW P cY false body (xz st.env (I (k+1)) Q) s) ⟨ni st.env ps.toList x,m,nx⟩)/\
   ∀ m nx,I xs.length m nx->Q .normal ⟨st.env,m,nx⟩
 |c,Q,st=>AW P Y true c Q st
theorem View.adg{il n₀:Nat}{f:Nat->Option Nat}{mc:Mem}{nc:Nat}{m:Mem}{nx:Nat}(h:View il n₀ f mc nc m nx){β:aC}{w:World}(hm:aK P F m β w)(hn:∀ i,nx<=i->β i=none){l:Nat}{o o':Obj}(hl:m il=some (.raw l o))
 {m':Mem} {M:Nat} {β':aC} {w':World} (fB:aK P (hidden F β f) m' β' w') (hs:o7 l (β.via f) w β' w') (hM:∀ i,M<=i->β' i=none) (hle:nc<=M) (hg:∀ i,i<nc->(β.via f) i=none->β' i=none) (ho:w'.heap[l]? =some o'):
 ∃ f' J gI C,View il n₀ f' m' M J gI/\J il=some (.raw l o')/\aK P F J C w'/\(∀ i,gI<=i->C i=none)/\Step β w C w'/\nx<=gI/\(∀ i,i<nx->β i=none->C i=none)/\
  (∀ i j,f' i=some j->f i=some j\/nx<=j)/\∀ j,j<nx->j≠il->(∀ i,f i≠some j)->J j=m j:=by
 obtain⟨yH,rk,DO,af⟩:=hm.pO hl
 let f':Nat->Option Nat:=fun i=>if i<nc then f i else if i<M then some (nx+(i - nc)) else none
 have qS:∀ i,i<nc->f' i=f i:=fun i hi=>by simp[f',hi]
 have xM:∀ i,nc<=i->i<M->f' i=some (nx+(i - nc)):=fun i h1 h2=>by simp[f',h2,Nat.not_lt.2 h1]
 have CR:∀ i,M<=i->f' i=none:=fun i h1=>by simp[f',Nat.not_lt.2 h1,Nat.not_lt.2 (Nat.le_trans hle h1)]
 have X:∀ i j,f' i=some j->(f i=some j/\i<nc/\j<nx)\/(nc<=i/\i<M/\j=nx+(i - nc)):=fun i j hf=>by
  rcases Nat.lt_or_ge i nc with h1|h1
  .rw[qS i h1] at hf;exact .inl ⟨hf,h.l7 hf |>.1,(h.l7 hf).2.1⟩
  .rcases Nat.lt_or_ge i M with h2|h2
   .rw[xM i h1 h2] at hf;cases hf;exact .inr ⟨h1,h2,rfl⟩
   .rw[CR i h2] at hf;cases hf
 have xN:∀ i i' j,f' i=some j->f' i'=some j->i=i':=fun i i' j h1 h2=>by
  rcases X i j h1 with⟨a1,a2,a3⟩|⟨a1,a2,a3⟩<;>rcases X i' j h2 with⟨b1,b2,b3⟩|⟨b1,b2,b3⟩
  .exact h.inj i i' j a1 b1
  .omega
  .omega
  .omega
 let inv:Nat->Option Nat:=fun j=>(range M).find? fun i=>f' i==some j
 have mG:∀ i j,inv j=some i->f' i=some j:=fun i j hi=>((EJ xN).1 i hi).1;have yj:∀ i j,f' i=some j->inv j=some i:=fun i j hf=>(EJ xN).2 i (by rcases X i j hf with h1|h1<;>omega) hf
 have Le:∀ j,inv j=none->∀ i,f i≠some j:=fun j hj i hf=>by
  have:=yj i j (by rw[qS i (h.l7 hf).1];exact hf);rw[hj] at this;cases this
 let C:aC:=fun j=>match inv j with|some i=>β' i|none=>β j
 let J:Mem:=fun j=>match inv j with|some i=>(m' i).map (Row.l6 f')|none=>if j=il then some (.raw l o') else m j
 have βs:∀ i j,f' i=some j->C j=β' i:=fun i j hf=>by simp[C,yj i j hf]
 have βn:∀ j,inv j=none->C j=β j:=fun j hj=>by simp[C,hj]
 have J':inv il=none:=by
  cases hi:inv il with
  |none=>rfl
  |some i=>
   rcases X i il (mG i il hi) with⟨a1,a2,a3⟩|⟨a1,a2,a3⟩
   .exact absurd rfl (h.l7 a1).2.2
   .have:=h.lt;omega
 have via:C.via f'=β':=by
  funext i;simp only[aC.via];cases hf:f' i with
  |some j=>exact βs i j hf
  |none=>
   rcases Nat.lt_or_ge i M with h1|h1
   .rcases Nat.lt_or_ge i nc with h2|h2
    .obtain⟨j,h3,_⟩:=h.wz i h2;rw[qS i h2,h3] at hf;cases hf
    .rw[xM i h2 h1] at hf;cases hf
   .exact(hM i h1).symm
 have look:∀ j p,C j=some p->(∃ i,inv j=some i/\f' i=some j/\β' i=some p)\/(inv j=none/\β j=some p):=fun j p hp=>by
  cases hi:inv j with
  |some i=>exact .inl ⟨i,rfl,mG i j hi,by rw[<- βs i j (mG i j hi)];exact hp⟩
  |none=>exact .inr ⟨rfl,by rw[<- βn j hi];exact hp⟩
 have Lf:∀ b,β.free b->b≠l:=fun b hb e=>hb il _ yH (e▸rfl)
 have c7:∀ b,b<w.heap.size->β.free b->w'.heap[b]? =w.heap[b]? /\C.free b:=fun b hb hf=>by
  obtain⟨h1,h2⟩:=hs.c7 b hb (Lf b hf) (aC.oU hf f);refine⟨h1,fun j p hp=>?_⟩;rcases look j p hp with⟨i,_,_,U⟩|⟨_,U⟩
  .exact h2 i p U
  .exact hf j p U
 have keep:∀ j p,β j=some p->C j=some p\/C j=some .dead:=fun j p hp=>by
  cases hi:inv j with
  |none=>exact .inl ((βn j hi).trans hp)
  |some i=>
   have hf:=mG i j hi;rw[βs i j hf];rcases X i j hf with⟨a1,a2,a3⟩|⟨a1,a2,a3⟩
   .exact hs.keep i p (by simp[aC.via,a1,hp])
   .rw[hn j oG] at hp;cases hp
 have own:∀ j p b,inv j=none->β j=some p->p.bG=some b->hidden F β f b/\(b≠l->b<w.heap.size/\w'.heap[b]? =w.heap[b]?):=fun j p b hj hp hb=>by
  obtain⟨h1,h2⟩:=h.vd hm (Le j hj) hp hb;exact⟨h2,fun aE=>⟨hm.lt j p b hp hb,(hs.c7 b (hm.lt j p b hp hb) aE h1).1⟩⟩
 refine⟨f',J,nx+(M - nc),C,⟨Nat.le_trans h.low hle,by have:=h.lt;omega,fun i hi=>?_,fun i hi=>?_,CR,xN,fun i r hi=>?_⟩,?_,⟨fun j r hj=>?_,fun i j p q b hp hq e e'=>?_,fun j p b hp e=>?_,fun j p b hp e hF=>?_,?_⟩,fun i hi=>?_,⟨hs.size,c7,keep,hs.out⟩,oG,fun i hi hb=>?_,fun i j hf=>?_,fun j hj aE iM=>?_⟩
 .rw[qS i (Nat.lt_of_lt_of_le hi h.low)];exact h.id i hi
 .rcases Nat.lt_or_ge i nc with h1|h1
  .obtain⟨j,h2,h3,U⟩:=h.wz i h1;exact⟨j,by rw[qS i h1];exact h2,oG,U⟩
  .exact⟨_,xM i h1 hi,oG,by have:=h.lt;omega⟩
 .obtain⟨p,hp,_⟩:=fB.row i r hi
  have:∃ j,f' i=some j:=by
   rw[<- via] at hp;obtain⟨j,h1,_⟩:=Option.bind_eq_some_iff.1 hp;exact⟨j,h1⟩
  obtain⟨j,hj⟩:=this;exact⟨j,hj,by simp[J,yj i j hj,hi]⟩
 .simp[J,J']
 .cases hi:inv j with
  |some i=>
   simp only[J,hi,cO] at hj;obtain⟨r0,wA,rfl⟩:=hj;obtain⟨p,hp,hr⟩:=fB.row i r0 wA;refine⟨p,(βs i j (mG i j hi)).trans hp,cu.G3 (F':=hidden F β f) (by rw[via];exact hr) (fun b hb=>.inl hb) fun b g1 g2=>?_⟩;obtain⟨k,q,hq,yI⟩:=Ja g1;rcases look k q hq with⟨i',_,_,U⟩|⟨h3,U⟩
   .exact absurd yI (g2 i' q (by rw[via];exact U))
   .exact(own k q b h3 U yI).1
  |none=>
   simp only[J,hi] at hj;split at hj
   .rename_i e;subst e;cases hj;exact⟨.raw l,(βn j hi).trans yH,.raw l o' ho⟩
   .rename_i aE;obtain⟨p,hp,hr⟩:=hm.row j r hj;refine⟨p,(βn j hi).trans hp,hr.gen hs.size (fun b hb g1 g2=>⟨tx (c7 b hb g2).1,(c7 b hb g2).2,g1⟩) (fun i p _=>keep i p) fun b hb=>?_⟩;exact((own j p b hi hp hb).2 fun e=>aE (hm.inj j il p _ b hp yH hb (e▸rfl))).2
 .rcases look i p hp with⟨i',a1,a2,a3⟩|⟨a1,a2⟩<;>rcases look j q hq with⟨j',b1,b2,b3⟩|⟨b1,b2⟩
  .have:=fB.inj i' j' p q b a3 b3 e e';subst this;rw[a2] at b2;cases b2;rfl
  .exact absurd (own j q b b1 b2 e').1 (fB.nf i' p b a3 e)
  .exact absurd (own i p b a1 a2 e).1 (fB.nf j' q b b3 e')
  .exact hm.inj i j p q b a2 b2 e e'
 .rcases look j p hp with⟨i',a1,a2,a3⟩|⟨a1,a2⟩
  .exact fB.lt i' p b a3 e
  .exact Nat.lt_of_lt_of_le (hm.lt j p b a2 e) hs.size
 .rcases look j p hp with⟨i',a1,a2,a3⟩|⟨a1,a2⟩
  .exact fB.nf i' p b a3 e (.inl hF)
  .exact hm.nf j p b a2 e hF
 .exact hm.fb.next (fun b hb=>Nat.lt_of_lt_of_le (hm.fb.lt b hb) hs.size) (fun _ h=>h) fun t _ hF=>(c7 _ (hm.fb.lt _ hF) fun i p hp e=>hm.nf i p _ hp e hF).1
 .cases cr:inv i with
  |none=>exact(βn i cr).trans (hn i oG)
  |some i0=>
   rcases X i0 i (mG i0 i cr) with⟨a1,a2,a3⟩|⟨a1,a2,a3⟩<;>omega
 .cases cr:inv i with
  |none=>exact(βn i cr).trans hb
  |some i0=>
   have hf:=mG i0 i cr;rw[βs i0 i hf];rcases X i0 i hf with⟨a1,a2,a3⟩|⟨a1,a2,a3⟩
   .exact hg i0 a2 (by simp[aC.via,a1,hb])
   .omega
 .rcases X i j hf with⟨a1,_,_⟩|⟨_,_,a3⟩
  .exact .inl a1
  .exact .inr oG
 .have hi:inv j=none:=by
   cases hi:inv j with
   |none=>rfl
   |some i=>
    rcases X i j (mG i j hi) with⟨a1,_,_⟩|⟨_,_,a3⟩
    .exact absurd a1 (iM i)
    .omega
  simp[J,hi,aE]
theorem View.ag9{il n₀:Nat}{f:Nat->Option Nat}{mc:Mem}{nc:Nat}{m m':Mem}{nx J:Nat}(h:View il n₀ f mc nc m nx)(C:nx<=J)(he:∀ i j,f i=some j->m' j=m j):View il n₀ f mc nc m' J:=
 ⟨h.low,Nat.lt_of_lt_of_le h.lt C,h.id,fun i hi=>by
  obtain⟨j,h1,h2,M⟩:=h.wz i hi;exact⟨j,h1,oG,M⟩,h.out,h.inj,fun i r hi=>by
  obtain⟨j,h1,h2⟩:=h.rows i r hi
  exact⟨j,h1,(he i j h1).trans h2⟩⟩
def xh(il l:Nat)(n₀:Nat)(o:Obj)(I:Mem->Nat->Prop)(S:Nat->Prop)(m:Mem)(nx:Nat):Prop:=∃ f mc nc,View il n₀ f mc nc m nx/\m il=some (.raw l o)/\I mc nc/\¬ S il/\∀ i j,f i=some j->¬ S j
theorem xh.closed{il l n₀:Nat}{o:Obj}{I:Mem->Nat->Prop}:JM (xh il l n₀ o I):=by
 rintro S m nx X m' ai ⟨f,mc,nc,h1,h2,U,J,M⟩ C he hs;refine⟨f,mc,nc,h1.ag9 C fun i j hf=>he j (h1.l7 hf).2.1 (M i j hf),(he il h1.lt J).trans h2,U,fun e=>?_,fun i j hf e=>?_⟩
 .rcases hs il e with h|h
  .exact J h
  .have:=h1.lt;omega
 .rcases hs j e with h|h
  .exact M i j hf h
  .have:=(h1.l7 hf).2.1;omega
theorem aaw(f:Nat->Option Nat)(σ:D->D)(r:Row):(r.l6 f).sub σ=r.l6 f:=by cases r<;>rfl
theorem xh.nR{il l n₀:Nat}{o:Obj}{I:Mem->Nat->Prop}:JN (xh il l n₀ o I):=by
 rintro S m nx q σ hq ⟨f,mc,nc,h1,h2,U,C,J⟩;have M:il≠q:=fun e=>C (e▸hq);refine⟨f,mc,nc,⟨h1.low,h1.lt,h1.id,h1.wz,h1.out,h1.inj,fun i r hi=>?_⟩,?_,U,C,J⟩
 .obtain⟨j,a1,a2⟩:=h1.rows i r hi;refine⟨j,a1,?_⟩;have hj:j≠q:=fun e=>J i j a1 (e▸hq);simp only[if_neg hj,a2,Option.map_some,aaw]
 .simp only[if_neg M,h2,Option.map_some];rfl
theorem aax(gU:P.follows .mixedOrders=true):∀ (c:Code) (F:Nat->Prop) (n:Nat) (Y:eg) (N₀:Nat) (β₀:aC) (w₀:World) (a₀:Act),
 (∀ l args m nx K,Y l args m nx K->nq P F β₀ w₀ l args m nx K)->gA a₀.tmps.size c=true->∀ (Q:Exit->St->Prop) (st:St) (β:aC) (w:World) (a:Act),
 AX P Y c Q st->ew P F st β w a->ov N₀ β₀ w₀ a₀ st β w a->c.wpIn (Fe none) n P (SG P F N₀ β₀ w₀ a₀ Q) a w:=by
 intro c
 induction c with
 |seq x y Bd Be=>
  intro F n Y N₀ β₀ w₀ a₀ hY af Q st β w a h hs bY;simp only[gA,bc] at af;refine wpIn_seq (wpIn_mono (Bd F n Y N₀ β₀ w₀ a₀ hY af.1 _ st β w a h hs bY) fun e a' w' hp=>?_);obtain⟨st',β',hq,cK,dH⟩:=hp;cases e with
  |normal=>
   obtain⟨fJ,hg,hy⟩:=hq;obtain⟨dP,pc,CT⟩:=Io hg cK;exact Be F n Y N₀ β₀ w₀ a₀ hY af.2 Q fJ dP w' a' hy pc (dH.since CT)
  |_=>exact⟨st',β',hq,cK,dH⟩
 |block id b ih=>
  intro F n Y N₀ β₀ w₀ a₀ hY af Q st β w a h hs bY;refine wpIn_block (wpIn_mono (ih F n Y N₀ β₀ w₀ a₀ hY af _ st β w a h hs bY) fun e a' w' hp=>?_);obtain⟨st',β',hq,cK,dH⟩:=hp;cases e with
  |exit i=>
   simp only[fv] at hq;simp only[Exit.inBlock];split at hq
   .rename_i hi;rw[if_pos hi];exact⟨st',β',hq,cK,dH⟩
   .rename_i hi;rw[if_neg hi];exact⟨st',β',hq,cK,dH⟩
  |_=>exact⟨st',β',hq,cK,dH⟩
 |rangeFunc g ps assign body uw ux=>
  intro F n Y N₀ β₀ w₀ a₀ hY af Q st β w a h hs bY;obtain⟨env,mem,nx⟩:=st;obtain⟨jB,f,fs,cs,xs,I,tR,yk,xO,yJ,tI,xP⟩:=h;simp only at jB tR yJ tI xP;simp only[gA,bc,bQ,Nat.blt_eq] at af;obtain⟨rm,Lh,Li⟩:=af;have bA:a.tmps.size=a₀.tmps.size:=bY.size;have hR:=(hs.e.opd g).tw _ jB;simp only[tR] at hR;refine wpIn_rangeFunc fun fn sK=>?_;obtain⟨C,kx⟩:∃ C:LoopState->Option Code->Loop,C=fun st pe=>{ state:=st,pending:=pe,fn,tmps:=a.tmps,params:=ps,assign,body,defers:=w.heap.size }:=⟨_,rfl⟩
  obtain⟨U,rr⟩:∃ U,(w.alloc (.deferred (some []))).alloc (.loop (C .ready none))=U:=⟨_,rfl⟩
  obtain⟨us,vs,d,yK,ow,hu,hv,nz,hinv⟩:=NU (P:=P) hR yk.1 (w.heap.size+1) U;have hn:∀ i,nx<=i->β i=none:=hs.n;have uy:∀ t∈uc,t.1≠w.heap.size+1:=fun t ht e=>by have:=hs.m.fb.lt _ (hs.m.fb.me t ht).1;omega
  have DO:¬ F (w.heap.size+1):=fun e=>by have:=hs.m.fb.lt _ e;omega
  let X:Nat->Option Nat:=fun i=>if i<nx then some i else none
  have Dq:β.via X=β:=by
   funext i;simp only[aC.via,X];split
   .rfl
   .exact(hn i oG).symm
  have kG:aK P F (fun i=>(mem i).map (Row.l6 X)) β w:=⟨fun i r hi=>by
   simp only[cO] at hi;obtain⟨r0,h1,rfl⟩:=hi;obtain⟨p,hp,hr⟩:=hs.m.row i r0 h1
   exact⟨p,hp,cu.G3 (F':=F) (by rw[Dq];exact hr) (fun _ h=>h) fun b g1 g2=>absurd (Dq▸g2) g1⟩,hs.m.inj,hs.m.lt,hs.m.nf,hs.m.fb⟩
  have uz:Step β w β (w.alloc (.deferred (some []))):=zK oS fun b hb=>heap_alloc_old w _ hb;have iI:aK P F (fun i=>(mem i).map (Row.l6 X)) β (w.alloc (.deferred (some []))):=kG.ext oS fun b hb=>heap_alloc_old w _ hb
  have Mh:aK P F (up (fun i=>(mem i).map (Row.l6 X)) nx (some (.raw (w.heap.size+1) (.loop (C .ready none))))) (up β nx (some (.raw (w.heap.size+1)))) U:=by
   rw[<- rr];refine iI.alloc (hn nx (bd _)) _ _ _ (fun b hb=>by simp only[Pl.bG,aH] at hb;simp;omega) (.raw _ _ ?_);have:=World.alloc_heap_new (w.alloc (.deferred (some []))) (.loop (C .ready none))
   rwa[World.size_alloc] at this
  have mP:Step β w (up β nx (some (.raw (w.heap.size+1)))) U:=by
   rw[<- rr];exact uz.trans (zB iI _ (hn nx (bd _)) _ (fun b hb=>by simp only[Pl.bG,aH] at hb;simp;omega))
  have Mi:U.heap[w.heap.size]? =some (.deferred (some [])):=by
   rw[<- rr];rw[heap_alloc_old _ _ oS];exact World.alloc_heap_new w _
  have Cy:aC.free (up β nx (some (.raw (w.heap.size+1)))) w.heap.size:=
   qz (fun i p hp e=>by have:=hs.m.lt i p _ hp e;omega) (by rintro q hq;cases hq;simp[Pl.bG])
  have agY:U.heap.size=w.heap.size+2:=by rw[<- rr];simp
  have JA:∀ i,nx<=i->mem i=none:=fun i hi=>by
   cases hm:mem i with
   |none=>rfl
   |some row=>
    obtain⟨p,hp,_⟩:=hs.m.row i row hm;rw[hn i hi] at hp;cases hp
  have own:∀ {f:Nat->Option Nat} {mc:Mem} {nc:Nat} {m:Mem} {gK:Nat} {M:aC} {w2:World},View nx nx f mc nc m gK->Step (up β nx (some (.raw (w.heap.size+1)))) U M w2->
   ∀ {d:D} {v:Value},R F β w d v->R (hidden F M f) (M.via f) w2 d v:=fun {_ _ _ _ _ _ _} J cZ {d v} h=>by
   have yl:=mP.trans cZ;refine h.gen yl.size (fun b hb hf kZ=>?_) fun i p _ hp=>?_
   .obtain⟨g1,g2⟩:=yl.c7 b hb kZ;exact⟨tx g1,aC.oU g2 _,fun e=>e.elim hf fun e=>e.1 g2⟩
   .have hi:i<nx:=by
     rcases Nat.lt_or_ge i nx with h1|h1
     .exact h1
     .rw[hn i h1] at hp;cases hp
    simp only[aC.via,J.id i hi,Option.bind_some];exact yl.keep i p hp
  refine⟨w.heap.size+1,[mark w.heap.size],U,d,U,f,_,U,?_,nz,fun f' _=>trivial,hinv,fun hd=>by simp at hd,Jb ?_⟩
  .rw[<- rr,kx];exact run_enterLoop_outer _ _ _ _ _
  refine(yk.2 F (w.heap.size+1) (fun k S=>xh nx (w.heap.size+1) nx (.loop (C .ready none)) (I k) S) (fun m k=>∃ c,vm nx (w.heap.size+1) nx (.loop (C .done (some c))) (Jump env Q c) m k)
   (up (fun i=>(mem i).map (Row.l6 X)) nx (some (.raw (w.heap.size+1) (.loop (C .ready none))))) (nx+1) (up β nx (some (.raw (w.heap.size+1)))) U _ (fun k=>xh.closed) (fun k=>xh.nR) ?_ Mh ?_ ?_ ?_ ?_).mono ?_
  .rintro m k m' k' ⟨c,hc⟩ hle he;exact⟨c,vm.closed m k m' k' hc hle he⟩
  .intro i hi;rw[aA _ _ (show i≠nx by omega)];exact hn i oG
  .refine Rs.append (Rs.append ?_ ?_) ?_
   .exact⟨by simp[yK],fun k d v hd hv=>(hu k d v hd (by simpa using hv)).step mP⟩
   .refine⟨rfl,fun k d v hd hv=>?_⟩;cases k with
    |zero=>
     simp only[List.getElem?_cons_zero,aH] at hd;simp only[List.getElem?_toArray,List.getElem?_cons_zero,aH] at hv;subst hd;subst hv;exact .fn _ [] [] [] [] rfl rfl oS oS
    |succ k=>simp at hd
   .exact⟨by simp[ow],fun k d v hd DP=>(hv k d v hd (by simpa using DP)).step mP⟩
  .rintro k x S m k' hx TX ⟨g,mc,nc,J,ei,Mj,TY,U2⟩ M w2 uA Lj hP Hx uB;obtain⟨DQ,qT,_,ym⟩:=hP.pO ei;have Lk:uA.size=ps.size:=by rw[uB.1];exact(xO x (bu hx)).1
   have hy:=run_yield (P:=P) (args:=uA) qT (by rw[kx];exact Lk);simp only[kx,Pa] at hy;refine⟨fn,_,assign,body,hy,fun n'=>?_⟩;obtain⟨yL,jY⟩:=J.enter hP;have ru:hidden F M g (w.heap.size+1):=(J.vd hP (fun i e=>(J.l7 e).2.2 rfl) DQ rfl).2;have Cz:(M.via g).free (w.heap.size+1):=(J.vd hP (fun i e=>(J.l7 e).2.2 rfl) DQ rfl).1;have Mk:gH (hidden F M g) (M.via g) w2 env { tmps:=a.tmps,defers:=[] }:=fun t=>own J Lj (hs.e t)
   obtain⟨Ml,Dr⟩:=It ps.toList x uA.toList env a.tmps (by simp[uB.1]) (fun j d v hd hv=>
    ((xO x (bu hx)).2 d (bu hd) F M w2 v (uB.2 j d v hd (by simpa using hv))).gen (bd _)
     (fun b _ hb _=>⟨ki.refl _ b,aC.oU (uU hb).2 _,fun e=>e.elim (uU hb).1 fun e=>e.1 (uU hb).2⟩) (fun i p _ hp=>by cases hp)) (fun t ht=>by rw[bA];exact rm t ht) Mk
   have Ll:=EW gU assign (hidden F M g) (some (w.heap.size+1)) n' cY false nc (M.via g) w2
    { tmps:=(ps.toList.zip uA.toList).foldl (fun tmps (t,a)=>tmps.setIfInBounds t a) a.tmps,defers:=[] } oS (fun _ _ _ _ _ h=>h.elim) (by show gA (Array.size _) assign=true;rw[Dr,bA];exact Lh) _ ⟨ni env ps.toList x,mc,nc⟩ (M.via g) w2 _
    (tI k mc nc x hx Mj) ⟨Ml,yL,jY⟩ (fW.refl ⟨ni env ps.toList x,mc,nc⟩ _ _ _).yG
   refine roundIn_of_wpIn trivial (wpIn_mono Ll fun e a3 w3 hp=>?_);obtain⟨iq,β3,yM,Bf,gv⟩:=hp;cases e with
   |normal=>
    have xQ:w.heap.size+1<w3.heap.size:=Nat.lt_of_lt_of_le ym gv.step.size;have KB:w3.heap[w.heap.size+1]? =some (.loop (C .ready none)):=(gv.step.c7 _ ym Cz).1.trans qT;refine⟨_,run_beginRound KB (by rw[kx]),?_⟩;have Lm:=Bf.oe (l:=w.heap.size+1) ru uy (.loop { C .ready none with state:=.busy });have KC:=EW gU body (hidden F M g) (some (w.heap.size+1)) n' cY false iq.nx β3 _ a3 oS (fun _ _ _ _ _ h=>h.elim) (by rw[gv.size];show gA (Array.size _) body=true;rw[Dr,bA];exact Li) _ iq β3 _ a3 yM Lm (fW.refl iq _ _ _).yG;refine wpIn_mono KC fun e a4 w4 Mm=>?_;obtain⟨DR,β4,uC,DT,qf⟩:=Mm;have KD:w.heap.size+1<w4.heap.size:=Nat.lt_of_lt_of_le (by simpa using xQ) qf.step.size
    have KE:w4.heap[w.heap.size+1]? =some (.loop { C .ready none with state:=.busy }):=
     (qf.step.c7 _ (by simpa using xQ) (gv.step.c7 _ ym Cz).2).1.trans (World.putObj_heap_same xQ)
    have fin:∀ (jump:Option Code) (K:D->Mem->Nat->Prop),(∀ f' dI gI,View nx nx f' DR.mem DR.nx dI gI->dI nx=some (.raw (w.heap.size+1) (.loop (C (if jump.isNone then .ready else .done) jump)))->k'<=gI->(∀ i,S i->dI i=m i)->(∀ i j,f' i=some j->¬ S j)->K (.s (.bool jump.isNone)) dI gI)->
     ∃ v w',(Instr.endRound (w.heap.size+1) jump).run P w4=.ok v w'/\∃ v' d m' ai β',Ending.returned v=.returned v'/\K d m' ai/\aK P F m' β' w'/\(∀ i,ai<=i->β' i=none)/\R F β' w' d v'/\Step M w2 β' w'/\k'<=ai/\∀ i,i<k'->M i=none->β' i=none:=fun jump K hK=>by
     have df:=run_endRound (P:=P) jump KE;have e1:∀ s p,({ ({ C .ready none with state:=.busy }:Loop) with state:=s,pending:=p }:Loop)=C s p:=fun s p=>by rw[kx]
     rw[e1] at df
     obtain⟨f',dI,gI,dP,v1,v2,v3,v4,v5,v6,v7,v8,v9⟩:=J.adg hP Hx ei (o':=.loop (C (if jump.isNone then .ready else .done) jump)) (DT.m.oe ru uy _)
      (((gv.step.x _).trans (o7.put _ β3 w3 _)).trans ((qf.step.x _).trans (o7.put _ β4 w4 _))) DT.n (Nat.le_trans gv.le qf.le) (fun i hi hb=>qf.grow i (Nat.lt_of_lt_of_le hi gv.le) (gv.grow i hi hb)) (World.putObj_heap_same KD)
     exact⟨_,_,df,.bool jump.isNone,_,dI,gI,dP,rfl,hK f' dI gI v1 v2 v6 (fun i hi=>v9 i (TX i hi) (fun e=>TY (e▸hi)) fun j hj=>U2 j i hj hi) (fun i j hf hj=>(v8 i j hf).elim (fun h=>U2 i j h hj) fun h=>by have:=TX j hj;omega),v3,v4,.s _ rfl,v5,v6,v7⟩
    cases e with
    |normal=>exact fin none _ fun f' dI gI v1 v2 v6 v8 v9=>⟨.inl ⟨rfl,f',_,_,v1,v2,uC,TY,v9⟩,v6,v8⟩
    |ret=>exact fin (some .ret) _ fun f' dI gI v1 v2 v6 v8 _=>⟨.inr ⟨rfl,.ret,f',_,_,v1,v2,uC⟩,v6,v8⟩
    |exit id=>exact fin (some (.exit id)) _ fun f' dI gI v1 v2 v6 v8 _=>⟨.inr ⟨rfl,.exit id,f',_,_,v1,v2,uC⟩,v6,v8⟩
    |_=>exact uC.elim
   |_=>exact yM.elim
  .refine⟨X,mem,nx,⟨bd _,oG,fun i hi=>by simp[X,hi],fun i hi=>⟨i,by simp[X,hi],oG,oG⟩,fun i hi=>by simp[X,Nat.not_lt.2 hi],fun i i' j h1 h2=>?_,fun i r hi=>?_⟩,ah _ _ _,yJ,id,fun _ _ _=>id⟩
   .simp only[X,Option.ite_none_right_eq_some,aH] at h1 h2;omega
   .have af:i<nx:=by
     rcases Nat.lt_or_ge i nx with h1|h1
     .exact h1
     .rw[JA i h1] at hi;cases hi
    exact⟨i,by simp[X,af],by rw[aA _ _ (show i≠nx by omega),hi];rfl⟩
  .rintro e w6 ⟨v,d6,m6,Mn,β6,rfl,Ds,pj,hn6,_,ky,agZ,Ln⟩
   have fin:∀ {g:Nat->Option Nat} {mc:Mem} {nc:Nat} (o':Obj),View nx nx g mc nc m6 Mn->
    ew P F ⟨env,mc,nc⟩ (β6.via g) (w6.putObj (w.heap.size+1) o') { a with defers:=[mark w.heap.size]++a.defers }/\
    ov N₀ β₀ w₀ a₀ ⟨env,mc,nc⟩ (β6.via g) (w6.putObj (w.heap.size+1) o') { a with defers:=[mark w.heap.size]++a.defers }:=fun {g mc nc} o' J=>by
    obtain⟨yL,jY⟩:=J.enter pj
    have ru:hidden F β6 g (w.heap.size+1):=by
     have hβ:β6 nx=some (.raw (w.heap.size+1))\/β6 nx=some .dead:=ky.keep nx _ (ah _ _ _);rcases hβ with hβ|hβ
     .exact(J.vd pj (fun i e=>(J.l7 e).2.2 rfl) hβ rfl).2
     .exfalso;rcases Ds with⟨_,f',Mo,gu,_,yn,_,_⟩|⟨c,f',Mo,gu,_,yn,_⟩
      .rw[(pj.pO yn).1] at hβ;cases hβ
      .rw[(pj.pO yn).1] at hβ;cases hβ
    refine⟨⟨fun t=>((own J ky (hs.e t)).oe ru o').nw fun b hb=>.inl hb,(yL.oe ru uy o').nw (fun b hb=>.inl hb) fun t ht=>(hs.m.fb.me t ht).1,jY⟩,bY.trans ⟨⟨?_,fun b hb hf=>?_,fun i p hp=>?_,(mP.out.trans ky.out).trans ⟨rfl,rfl⟩⟩,J.low,fun i hi hb=>?_,rfl,[mark w.heap.size],rfl,?_⟩⟩
    .have:=ky.size;simp;omega
    .obtain⟨g1,g2⟩:=mP.c7 b hb hf;obtain⟨g3,g4⟩:=ky.c7 b oG g2;exact⟨(World.putObj_heap_other oG).trans (g3.trans g1),aC.oU g4 _⟩
    .have hi:i<nx:=by
      rcases Nat.lt_or_ge i nx with h1|h1
      .exact h1
      .rw[hn i h1] at hp;cases hp
     simp only[aC.via,J.id i hi,Option.bind_some];exact(mP.trans ky).keep i p hp
    .have hi:i<nx:=hi;simp only[aC.via,J.id i hi,Option.bind_some];exact Ln i oG (by rw[aA _ _ oG];exact hb)
    .refine⟨w.heap.size,rfl,bd _,?_,?_,?_,trivial⟩
     .have:=ky.size;simp;omega
     .exact(World.putObj_heap_other oG).trans ((ky.c7 _ oG Cy).1.trans Mi)
     .exact aC.oU (ky.c7 _ oG Cy).2 _
   rcases Ds with⟨_,g,mc,nc,J,ei,hI,_⟩|⟨c,g,mc,nc,J,ei,hj⟩
   .have df:(Instr.endLoop (w.heap.size+1)).run P w6=.ok none (w6.putObj (w.heap.size+1) (.loop (C .exhausted none))):=by
     have:=run_endLoop (P:=P) (pj.pO ei).2.1 (by rw[kx];simp);rw[kx] at this ⊢;exact this
    obtain⟨g1,g2⟩:=fin (.loop (C .exhausted none)) J;exact⟨none,_,df,⟨env,mc,nc⟩,_,xP mc nc hI,g1,g2⟩
   .have df:(Instr.endLoop (w.heap.size+1)).run P w6=.ok (some c) (w6.putObj (w.heap.size+1) (.loop (C .exhausted (some c)))):=by
     have:=run_endLoop (P:=P) (pj.pO ei).2.1 (by rw[kx];simp);rw[kx] at this ⊢;exact this
    obtain⟨g1,g2⟩:=fin (.loop (C .exhausted (some c))) J;refine⟨some c,_,df,?_⟩;cases c with
    |ret=>exact wpIn_ret ⟨⟨env,mc,nc⟩,_,hj,g1,g2⟩
    |exit id=>exact wpIn_exit ⟨⟨env,mc,nc⟩,_,hj,g1,g2⟩
    |_=>exact hj.elim
 |_=>exact fun F n Y N₀ β₀ w₀ a₀ hY af Q st β w a h hs bY=>EW gU _ F none n Y true N₀ β₀ w₀ a₀ (fun _=>rfl) hY af Q st β w a h hs bY
theorem aay(gU:P.follows .mixedOrders=true){Y:eg}{f:FuncId}{c:Code}(hf:P.funcs[f]? =some fn)(hb:fn.body=some c)(af:gA fn.ntmps c=true){args:List D}(hn:Nat.ble args.length fn.ntmps=true){m:Mem}{nx:Nat}{K:D->St->Prop}
 (h:AX P Y c (gV P fn.results.toList K) ⟨ig args,m,nx⟩) {β:aC} {w:World} {vs:Array Value} (hY:∀ l args m nx K,Y l args m nx K->nq P F β w l args m nx K) (hm:aK P F m β w) (cv:∀ i,nx<=i->β i=none) (C:Rs F β w args vs):
 Calls P f vs w fun e w'=>∃ v d st' β',e=.returned v/\K d st'/\R F β' w' d v/\aK P F st'.mem β' w'/\(∀ i,st'.nx<=i->β' i=none)/\Step β w β' w'/\nx<=st'.nx/\∀ i,i<nx->β i=none->β' i=none:=by
 have hle:args.length<=fn.ntmps:=by simpa using hn
 refine(callsIn_wide (n:=0)).1 (callsIn_of_wp_marks hf hb trivial ?_)
 have bA:(vs++Array.replicate (fn.ntmps - vs.size) undef).size=fn.ntmps:=by
  simp only[Array.size_append,Array.size_replicate,C.1];omega
 let a₀:Act:={ tmps:=vs++Array.replicate (fn.ntmps - vs.size) undef,defers:=[] }
 have hE:gH F β w (ig args) a₀:=fun t=>by
  unfold ig;rcases Nat.lt_or_ge t args.length with af|bq
  .have h1:args.getD t .u=args[t]:=by simp[af]
   have h2:a₀.tmps.getD t undef=vs[t]'(by rw[C.1];exact af):=by
    show(vs++Array.replicate (fn.ntmps - vs.size) undef).getD t undef=_;have U:t<vs.size:=by rw[C.1];exact af
    simp[Array.getD_eq_getD_getElem?,Array.getElem?_append_left U,U]
   rw[h1,h2];exact C.2 t _ _ (by simp[af]) (by simp[C.1,af])
  .have h1:args.getD t .u=.u:=by simp[bq]
   rw[h1];exact .u _
 have:=aax gU c F 0 Y nx β w a₀ hY (by show gA (vs++Array.replicate (fn.ntmps - vs.size) undef).size c=true;rw[bA];exact af) _ ⟨ig args,m,nx⟩ β w a₀ h ⟨hE,hm,cv⟩ (fW.refl ⟨ig args,m,nx⟩ β w a₀).yG;refine wpIn_mono this fun e a' w' hp=>?_;obtain⟨st',β',hq,cK,J⟩:=hp
 have X:(nD P st' fn.results.toList [] fun ds=>K (pY ds) st')->LeavesInM (Fe none) 0 P fn a'.tmps (fun e w'=>∃ v d st' β',e=.returned v/\K d st'/\R F β' w' d v/\aK P F st'.mem β' w'/\(∀ i,st'.nx<=i->β' i=none)/\Step β w β' w'/\nx<=st'.nx/\∀ i,i<nx->β i=none->β' i=none) a'.defers .returning w':=fun hq=>by
  obtain⟨ds,h1,h2⟩:=J.defers;rw[h1,show a₀.defers=[] from rfl,List.append_nil];refine Ik ds _ w' h2 cK J.step fun w'' M KK=>?_;obtain⟨v,d,g1,g2,g3⟩:=N5 (K:=fun d=>K d st') M hq;exact⟨v,g1,v,d,st',β',rfl,g2,g3,M.m,M.n,KK,J.le,J.grow⟩
 cases e with
 |normal=>exact X hq
 |ret=>exact X hq
 |_=>exact hq.elim
theorem aaz(C:P.follows .mixedOrders=true){f:FuncId}{c:Code}(hf:ld P f fn c){args:List D}(hn:Nat.ble args.length fn.ntmps=true)(ht:∀ a∈args,Tr a){r:D}(hr:Tr r)
 (h:AX P cY c (gV P fn.results.toList fun d _=>d=r) ⟨ig args,fun _=>none,0⟩):aB P f args r:=
 ⟨hf.he,ht,fun F w vs U X=>(aay C hf.hf hf.hb hf.af hn h (fun _ _ _ _ _ h=>h.elim) (EL U) (fun _ _=>rfl) X).mono fun e w' hp=>by
  obtain⟨v,d,st',β',h1,rfl,J,h4,h5,M,h7,h8⟩:=hp
  exact⟨v,h1,hr.Aw J,Eu M⟩⟩
end
end Go.Abs
section
open Go Go.Abs Go.Proofs Go.Argus
namespace Go.Argus
def fH(x:PW):List D:=[I x.1.1,I x.1.2,aP (al x.2)]
@[simp] theorem OO (x : PW) : (fH x).length = 3 := rfl
theorem ES:∀ l:List PW,(l.flatMap fH).length=l.length*3
 |[]=>rfl
 |x::l=>by rw[List.flatMap_cons,List.length_append,ES l,OO,List.length_cons];omega
theorem OP(pre O:List PW):((pre++O).flatMap fH).drop (pre.length*3)=O.flatMap fH:=by
 rw[List.flatMap_append, <- ES pre,List.drop_left]
theorem I0{X:Nat->Prop}(x:PW):∀ d∈fH x,fI X d:=fun d hd=>by
 simp only[fH,List.mem_cons,List.not_mem_nil,or_false] at hd;rcases hd with rfl|rfl|rfl<;>first|exact .s _|exact .sl _ _
def n9(p:Nat×Nat):Value:=.agg #[.int .i64 p.1,.int .i64 p.2]
def l9(S:List (Nat×Nat)):List (Value×D):=S.map fun p=>(n9 p,B true)
theorem ID{X:Nat->Prop}(S:List (Nat×Nat)):lO X (.map (l9 S)):=fun i cs sz _=>by
 simp[Row.sub,l9,sub,pb,cF]
def CM(x:PW):List D:=[.agg [I x.1.1,I x.1.2],aP (al x.2)]
def jW(n:Nat)(a:Int):Bool:=decide (0<=a)&&decide (a<n)
theorem Rz{α:Type}{p:α->Bool}:∀ {l:List α} {k:Nat} {x:α},l[k]? =some x->p x=true->(∀ j y,j<k->l[j]? =some y->p y=false)->l.find? p=some x
 |[],k,x,h,_,_=>by simp at h
 |y::l,0,x,h,hp,_=>by
  simp only[List.getElem?_cons_zero,aH] at h;subst h;simp[hp]
 |y::l,k+1,x,h,hp,hj=>by
  have:=hj 0 y oG rfl;rw[List.find?_cons,this];exact Rz (by simpa using h) hp fun j C J hz=>hj (j+1) C oG (by simpa using hz)
def pG(l:List ap)(a b:Int):List D:=
 if(dc l).2=0 then(if jW l.length a&&jW l.length b then(match Gm (cX l) (aZ l) a.toNat b.toNat with
  |some x=>[aP (al x.2),B true,I 0]
  |none=>[.z,B false,I 0]) else [.z,B false,I 1]) else [.z,B false,I (dc l).2]
theorem Zq(l:List ap)(a b:Int):∀ d∈pG l a b,Tr d:=by
 unfold pG;split
 .split
  .split
   .exact .cons (dn _) (.cons (.s _) (.cons (.s _) .nil))
   .exact .cons .z (.cons (.s _) (.cons (.s _) .nil))
  .exact .cons .z (.cons (.s _) (.cons (.s _) .nil))
 .exact .cons .z (.cons (.s _) (.cons (.s _) .nil))
def s4(l:List ap)(keep:List ByteArray)(i:Nat):Bool:=keep.any fun x=>((l.map fun f:ap=>f.name).getD i (⟨#[]⟩:ByteArray)).toList==x.toList
def ic(l:List ap)(i:Nat):ByteArray:=(l.map fun f:ap=>f.name).getD i (⟨#[]⟩:ByteArray)
def mK(n:Nat)(f:Nat->Bool)(g:Nat->ByteArray):Mem:=br [(1,.cells ((range n).map fun i=>B (f i)) 4),(2,.cells [.rs 1 0 n] 92),(3,.cells ((range n).map fun i=>S (g i)) 9)]
theorem Qy{n:Nat}{f f':Nat->Bool}{g g':Nat->ByteArray}(hf:∀ i,i<n->f i=f' i)(hg:∀ i,i<n->g i=g' i):mK n f g=mK n f' g':=by
 unfold mK;have e1:((range n).map fun i=>B (f i))=(range n).map fun i=>B (f' i):=List.map_congr_left fun i hi=>by rw[hf i (List.mem_range.1 hi)]
 have e2:((range n).map fun i=>S (g i))=(range n).map fun i=>S (g' i):=List.map_congr_left fun i hi=>by rw[hg i (List.mem_range.1 hi)]
 rw[e1,e2]
theorem E9{P:Program}{env:Env}{m:Mem}{nx n:Nat}{f:Nat->Bool}{g:Nat->ByteArray}{l:List (Nat×D)}(he:kW l env)(h1:m 1=some (.cells ((range n).map fun i=>B (f i)) 4))(h2:m 2=some (.cells [.rs 1 0 n] 92))(C:m 3=some (.cells ((range n).map fun i=>S (g i)) 9)):
 aJ P ⟨env,m,nx⟩ ⟨ay l,mK n f g,nx⟩:=bZ he ⟨h1,h2,C,trivial⟩
theorem X4{α:Type}{n y:Nat}(g:Nat->α)(h:y<n):∃ cs,((range n).map g).drop y=g y::cs:=by
 rw[List.drop_eq_getElem_cons (by simpa using h)];simp only[List.getElem_map,List.getElem_range];exact⟨_,rfl⟩
theorem Zr{α:Type}{p:α->Bool}{l:List α}{y:α}(h:l.find? p=some y):∃ k:Nat,l[k]? =some y/\mI p l=k:=by
 obtain⟨hp,k,hk,he,hj⟩:=List.find?_eq_some_iff_getElem.1 h;have hx:l[k]? =some y:=by rw[a7 hk,he]
 exact⟨k,hx,td hx hp fun j J C hz=>by
  have:=hj j C;obtain⟨h1,rfl⟩:=bC.1 hz
  simpa using this⟩
end Go.Argus
namespace Go.Abs
theorem acg{P:Program}{env:Env}{m:Mem}{nx:Nat}{t:TypeId}{x y:Operand}{k:IntKind}{j off l sz:Nat}{e:TypeId}{r:Row}(hx:(opd env x).core=.rs j off l)(hy:(opd env y).core=.s (.int k 0))(hm:m j=some r)(he:aD P t=e)(hs:P.cellsOf e=sz):
 Ef P (.indexAddr t x y) env m nx ⟨bh P t=true/\0<l,.rp j off,[],[j],0⟩:=by
 have h:=Gb (P:=P) (env:=env) (m:=m) (nx:=nx) (t:=t) hx hy hm he hs;have h1:off+(0:Int).toNat*sz=off:=by simp
 have h2:(bh P t=true/\(0:Int)<=0/\(0:Int)<l)=(bh P t=true/\0<l):=by
  simp
 rw[h1,h2] at h;exact h
end Go.Abs
namespace Go.Proofs.Tryz.K
theorem ae9:vD prog 121=some [0,0]:=kr
theorem ae':prog.eqGuardType prog.depth 121=false:=kr
theorem afa:lQ prog (lb prog 172)=B false:=kr
theorem ach(C J a b:Nat):gJ [.int .i64 C,.int .i64 J] [.int .i64 a,.int .i64 b]=decide ((C,J)=(a,b)):=by
 rw[Bool.eq_iff_iff];simp[gJ,pW];omega
theorem aci{P:Program}{d:Nat}{fs:List Field}{cs:List Value}{G:Nat×Nat->Option (List Lit)}{ts:List (Nat×Nat)}(h:fs.map (fun f=>(f.type,f.offset))=ts)(C:∀ t o,G (t,o)=P.keyLits d t ((cs.drop o).take (P.cellsOf t))):
 fs.mapM (fun f=>P.keyLits d f.type ((cs.drop f.offset).take (P.cellsOf f.type)))=ts.mapM G:=by
 rw[<- h,List.mapM_map];congr 1;funext f;exact(C _ _).symm
theorem Ug(d:Nat){a:Int}(h: -9223372036854775808<=a/\a<=9223372036854775807):prog.keyLits (d+1) 3 [.int .i64 a]=some [.int .i64 a]:=by
 have u3:prog.underlying 3=some (.int .i64):=kr
 have C:(Lit.int .i64 a).wf=true:=by
  have e1:IntKind.i64.min= -9223372036854775808:=kr;have e2:IntKind.i64.max=9223372036854775807:=kr;simp[Lit.wf,e1,e2,h]
 simp only[Program.keyLits,u3,C,and_self,if_true]
theorem Tk:∃ fs:Array Field,prog.underlying 121=some (.struct fs)/\prog.cellsOf 121=2/\fs.all (·.name !="_")=true/\fs.toList.map (fun f=>(f.type,f.offset))=[(3,0),(3,1)]:=
 ⟨match prog.underlying 121 with|some (.struct fs)=>fs|_=> #[],by kernel_rfl,by kernel_rfl,by kernel_rfl,by kernel_rfl⟩
theorem afb(d:Nat){a b:Int}(h: -9223372036854775808<=a/\a<=9223372036854775807)(h': -9223372036854775808<=b/\b<=9223372036854775807):prog.keyLits (d+2) 121 [.int .i64 a,.int .i64 b]=some [.int .i64 a,.int .i64 b]:=by
 obtain⟨fs,hu,hc,hn,hf⟩:=Tk;have c3:prog.cellsOf 3=1:=kr;unfold Program.keyLits;simp only[hu];rw[if_pos ⟨by rw[hc];rfl,hn⟩,aci (G:=fun p=>prog.keyLits (d+1) p.1 (([.int .i64 a,.int .i64 b].drop p.2).take (prog.cellsOf p.1))) hf fun _ _=>by dsimp only];simp[c3,Ug d h,Ug d h']
theorem aiE:∃ d,prog.types.size+1=d+2:=⟨prog.types.size - 1,by
 have:Nat.ble 1 prog.types.size=true:=kr;have:=bF this
 omega⟩
theorem Kn(p:Nat×Nat)(h:p.1<=1000000/\p.2<=1000000):cE prog 121 (n9 p)=true:=by
 obtain⟨fs,hu,hc,_,_⟩:=Tk;have hk:prog.keyType 121=true:=kr;obtain⟨d,hd⟩:=aiE;simp only[cE,n9,hu,keyOf,hk,Value.formed,hc,hd];have:=afb d (a:=p.1) (b:=p.2) oG oG;simp[Value.cells,this]
theorem Tl{S:List (Nat×Nat)}(h:∀ p∈S,p.1<=1000000/\p.2<=1000000):(l9 S).all (fun e=>cE prog 121 e.1)=true:=by
 refine bQ.2 fun e he=>?_;obtain⟨x,hx,rfl⟩:=List.mem_map.1 he;exact Kn x (h x hx)
theorem acj(p q:Nat×Nat):kH (n9 p) (n9 q)=decide (p=q):=by
 rw[Bool.eq_iff_iff];simp[n9,kH,gJ,pW,Prod.ext_iff];omega
theorem Ko(q:Nat×Nat):∀ S:List (Nat×Nat),(cM (n9 q) (l9 S)).map (·.2)=if q∈S then some (B true) else none
 |[]=>rfl
 |p::S=>by
  have ih:=Ko q S;have e1:l9 (p::S)=(n9 p,B true)::l9 S:=rfl;rw[e1];simp only[cM];rw[acj];by_cases h:p=q
  .subst h;simp
  .have h':¬ q=p:=fun e=>h e.symm;simp only[decide_eq_false h,Bool.false_eq_true,if_false,Option.map_map,List.mem_cons,h',false_or];rw[<- ih];rfl
theorem afc(q:Nat×Nat)(S:List (Nat×Nat)):fy prog 172 false (cM (n9 q) (l9 S))=B (decide (q∈S)):=by
 have h:=Ko q S;by_cases hq:q∈S
 .rw[if_pos hq] at h;cases hl:cM (n9 q) (l9 S) with
  |none=>rw[hl] at h;cases h
  |some x=>
   rw[hl] at h;simp only[Option.map_some,aH] at h;rw[decide_eq_true hq];simp[fy,h]
 .rw[if_neg hq] at h;cases hl:cM (n9 q) (l9 S) with
  |none=>rw[decide_eq_false hq];simp[fy,afa]
  |some x=>rw[hl] at h;cases h
theorem afd{q:Nat×Nat}{S:List (Nat×Nat)}(h:q∉S):fX (n9 q) (B true) (l9 S)=l9 (S++[q]):=by
 have h1:=Ko q S;rw[if_neg h] at h1;unfold fX;cases hl:cM (n9 q) (l9 S) with
 |none=>simp[l9]
 |some x=>rw[hl] at h1;cases h1
theorem Nc{l:List ap}{sh:List ByteArray}{ca:List (List Int)}{a b:Int}:aB prog 71 [.agg (cR l sh ca),.agg [I a,I b]] (.fn (.func 114) [] [.pt [I a,I b],.pt (cR l sh ca)]):=by
 have t1:∀ d∈[I a,I b],Tr d:=.cons (.s _) (.cons (.s _) .nil);have t2:=E6 l sh ca;refine bl aiF (.cons (.agg t2) (.cons (.agg t1) .nil)) (.fn oS (.cons (.pt t1) (.cons (.pt t2) .nil))) ?_;rw[aiG];refine az ?_;refine eI (r6 (cs:=cR l sh ca) rfl) aM (by first|rfl|exact rL eJ bL|exact nF _|exact tU rB) ?_;refine eI (r6 (cs:=[I a,I b]) rfl) aM (by first|rfl|exact rL eJ bL|exact nF _|exact tU rB) ?_;refine aw (jO (v:=.s .nilFunc) rfl) ak trivial ?_;refine aa (bJ (dD [(0,cR l sh ca,82),(1,[I a,I b],121)] eH (l:=[(2,.pt (cR l sh ca)),(3,.pt [I a,I b])]) eH) (aj ?_));refine SS ?_;refine aw (jO (v:=.fn _ _ _) rfl) ak trivial ?_;exact aa (aI rfl rfl)
structure WS where
 k:Nat
 S:Nat->Prop
 m:Mem
 nx:Nat
 j:Nat
 pre:List PW
 seen:List (Nat×Nat)
 O:List PW
structure WI(I':(Nat->Prop)->Mem->Nat->Prop)(r:Nat)(s:WS):Prop where
 inv:I' s.S s.m s.nx
 slt:∀ i,s.S i->i<s.nx
 sr:s.S r
 sj:s.S s.j
 ne:s.j≠r
 amz:s.m r=some (.map (l9 s.seen))
 amA:s.m s.j=some (.cells ((s.pre++s.O).flatMap fH) 174)
structure WP(sn:List Nat)(ca:List (List Nat))(fr:Nat×Nat)(wsq:List PW)(k:Nat)(seen:List (Nat×Nat))(O pre:List PW):Prop where
 go:∃ Y f,wsq=Y++sf sn ca fr f (seen,O)/\Y.length=k/\BI sn ca fr Y seen O/\ca.length*ca.length<f+k
 len:∀ y∈O,y.2.length<=seen.length
 pre:pre.length<=k
theorem WP.next{sn:List Nat}{ca:List (List Nat)}{fr:Nat×Nat}{wsq:List PW}{k:Nat}{seen C:List (Nat×Nat)}{x:PW}{O J pre M:List PW}(af:∀ w p,sG sn ca fr w p->p.1<ca.length/\p.2<ca.length)(h:WP sn ca fr wsq k seen (x::O) pre)
 (hn:vM sn ca fr (seen,x::O)=(C,J)) (hl:∀ y∈J,y.2.length<=C.length) (hp:M.length<=k+1):WP sn ca fr wsq (k+1) C J M/\wsq[k]? =some x:=by
 obtain⟨⟨Y,f,h1,h2,U,h4⟩,_,_⟩:=h;have:=Gl U af;simp only[List.length_cons] at this;obtain⟨f,rfl⟩:∃ g,f=g+1:=⟨f - 1,oG⟩
 have e:sf sn ca fr (f+1) (seen,x::O)=x::sf sn ca fr f (vM sn ca fr (seen,x::O)):=rfl;have X:=Ry U;rw[e,hn] at h1;rw[hn] at X;refine⟨⟨⟨Y++[x],f,by rw[h1];simp,by simp[h2],X,oG⟩,hl,hp⟩,?_⟩;rw[h1, <- h2,List.getElem?_append_right (bd _)];simp
theorem WP.end{sn:List Nat}{ca:List (List Nat)}{fr:Nat×Nat}{wsq:List PW}{k:Nat}{seen:List (Nat×Nat)}{pre:List PW}(h:WP sn ca fr wsq k seen [] pre):wsq.length=k:=by
 obtain⟨⟨Y,f,h1,h2,C,J⟩,_,_⟩:=h;rw[h1];cases f<;>simp[sf,h2]
theorem Qx{ca:List (List Nat)}{fr p:Nat×Nat}{x:PW}{S:List (Nat×Nat)}{O:List PW}{k:Nat}(hp:oa ca x.1 k=p)(h:¬ (p≠fr/\p∉S)):vN ca fr x (S,O) k=(S,O):=by
 unfold vN;rw[hp,if_neg h]
theorem Zo{ca:List (List Nat)}{fr p:Nat×Nat}{x:PW}{S:List (Nat×Nat)}{O:List PW}{k:Nat}(hp:oa ca x.1 k=p)(h1:p≠fr)(h2:p∉S):vN ca fr x (S,O) k=(S++[p],O++[(p,x.2++[k])]):=by
 unfold vN;rw[hp,if_pos ⟨h1,h2⟩]
def Vq(l:Nat)(fl:List ap)(sh:List ByteArray)(ca:List (List Nat))(a b r:Nat)(s:WS):St:=
 ⟨ay [(0,.fn (.yield l) [] []),(1,.pt [I a,I b]),(2,.pt (cR fl sh (ca.map al))),(4,.mp r),(5,.rs s.j (s.pre.length*3) s.O.length)],s.m,s.nx⟩
theorem aiH{fl:List ap}{sh:List ByteArray}{ca:List (List Nat)}{a b:Nat}(nP:sh.length=ca.length)(hN:ca.length<=1000)(fD:uk ca)(hlen:KX (aT sh) ca)(ha:a<ca.length)(hb:b<ca.length)(di:∀ x∈ca,x.length<=100000):
 Hb prog 114 [] [.pt [I a,I b],.pt (cR fl sh (ca.map al))] ((pT (aT sh) ca a b).map CM):=by
 refine ab2 mixed afe kr fun l I' Stop m nx hI hF CY h0=>?_;rw[aff];refine ws ?_;refine ab ?_;refine aa (az ?_);refine ba ?_;generalize fA:aT sh=sn at*
 have af:∀ w p,sG sn ca (a,b) w p->p.1<ca.length/\p.2<ca.length:=fun w p=>JV fD hlen ha hb;refine aa ?_;have gX:aP (al [])=.sl [] 0:=rfl
 refine(k7 (α:=WS) (Vq l fl sh ca a b nx)
  (fun s=>WI (I' s.k) nx s/\WP sn ca (a,b) (pT sn ca a b) s.k s.seen s.O s.pre) (fun s=>(pT sn ca a b).length - s.k) ⟨0,fun i=>i=nx\/i=nx+1,up (up m nx (some (.map []))) (nx+1) (some (.cells (fH ((a,b),[])) 174)),nx+2,nx+1,[],[],[((a,b),[])]⟩
  ((au (l:=[(0,.fn (.yield l) [] []),(1,.pt [I a,I b]),(2,.pt (cR fl sh (ca.map al))),(4,.mp nx),(5,.rs (nx+1) 0 1)]) eH).trans (.nw _ _ _ _ _ (fun _ _ _ _ _ h=>h) fun i=>?_))
  ⟨⟨hI 0 _ m nx (fun i=>i=nx\/i=nx+1) (up (up m nx (some (.map []))) (nx+1) (some (.cells (fH ((a,b),[])) 174))) (nx+2) h0 oG (fun i hi _=>ag oG (ag oG rfl)) fun i hi=>.inr oG,fun i hi=>by dsimp only at hi ⊢;omega,.inl rfl,.inr rfl,oM,ag oG (ah _ _ _),ah _ _ _⟩,⟨⟨[],ca.length*ca.length+2,rfl,rfl,?_,oG⟩,fun y hy=>?_,bd _⟩⟩ ?_)
 .by_cases hi:i=nx+1
  .subst hi;refine .inr ⟨_,fH ((a,b),[]),174,ah _ _ _,ah _ _ _,rfl,fun k d d' hd fa=>?_⟩
   match k with
   |0=>cases hd;cases fa;exact fun _ _ _ _ h=>h
   |1=>cases hd;cases fa;exact fun _ _ _ _ h=>h
   |2=>cases hd;cases fa;exact AY
   |k+3=>cases hd
  .exact .inl ((aA _ _ hi).trans (aA _ _ hi).symm)
 .refine⟨fun x hx=>?_,rfl,oS,oS,fun x hx y hy=>?_,fun x hx=>by simp at hx⟩
  .simp only[List.nil_append,List.mem_cons,List.not_mem_nil,or_false] at hx;subst hx;exact .nil
  .simp only[List.mem_cons,List.not_mem_nil,or_false] at hx hy;subst hx hy;omega
 .simp only[List.mem_cons,List.not_mem_nil,or_false] at hy;subst hy;exact bd _
 .rintro⟨k,S,m,C,j,pre,seen,O⟩ ⟨⟨hinv,qb,sZ,s3,aE,ku,ao⟩,By⟩;dsimp only at hinv qb sZ s3 aE ku ao By;obtain⟨⟨Yd,f,nN,hYk,hB,hf⟩,Tm,q7⟩:=id By;unfold Vq;dsimp only;have dk:=Gl hB af;have hNN:ca.length*ca.length<=1000000:=Nat.mul_le_mul hN hN;refine ax ?_;refine aa ⟨_,rfl,fun h=>?_,fun h=>?_⟩
  .cases O with
   |nil=>simp at h
   |cons x O=>
    clear h
    have hd:(((pre++x::O).flatMap fH).drop (pre.length*3)).take 3=fH x:=by
     rw[OP,List.flatMap_cons];exact List.take_left' (OO x)
    refine az ?_;refine SS ?_;refine aw (acg rfl rfl ao A3 um) aM ⟨AH,oS⟩ ?_;refine aw (fg rfl ao Ui um hd) aM (fh t174 um (by rw[ES];simp;omega)) ?_;refine eI (Fo Hj) aM t174 ?_;refine bN (fq rfl rfl (ah _ _ _) rfl) aM (bX t174 um oS (by rfl)) ?_;obtain⟨U,rG⟩:∃ U:Nat->Prop,U=fun i=>S i\/i=C:=⟨_,rfl⟩
    have lp:=qb _ s3;have uO:=qb _ sZ;have adr:∀ y∈O,y.2.length<=seen.length:=fun y hy=>Tm y (List.mem_cons_of_mem _ hy)
    have Uj:(pT sn ca a b)[k]? =some x:=by
     obtain⟨⟨Y,f,h1,h2,h3,h4⟩,_,_⟩:=By;obtain⟨f,rfl⟩:∃ g,f=g+1:=⟨f - 1,by simp at dk;omega⟩
     rw[h1, <- h2,List.getElem?_append_right (bd _)];simp[sf]
    have Ee:((pT sn ca a b).map CM)[k]? =some (CM x):=by rw[List.getElem?_map,Uj];rfl
    have gj:k<(pT sn ca a b).length:=(bC.1 Uj).1;obtain⟨m2,hP⟩:∃ m2,m2=up (up m C (some (Row.cells [D.s (Value.int IntKind.i64 0),D.s (Value.int IntKind.i64 0),D.z] 174))) C (some (Row.cells (fH x) 174)):=⟨_,rfl⟩
    have ot:∀ i,i≠C->m2 i=m i:=fun i hi=>by rw[hP,aA _ _ hi,aA _ _ hi]
    have aiI:m2 C=some (Row.cells (fH x) 174):=by rw[hP];exact ah _ _ _
    have wj:U nx:=by rw[rG];exact .inl sZ
    have yx:U j:=by rw[rG];exact .inl s3
    have ye:∀ i,U i->i<C+1:=fun i hi=>by
     rw[rG] at hi;rcases hi with hi|hi
     .have:=qb i hi;omega
     .omega
    have AI:I' k U (c8 C (fH x) (prog.cellsOf 174) m2) (C+1):=hF k U m2 (C+1) C _ (by rw[rG];exact .inr rfl) (hI k S m C U m2 (C+1) hinv oG (fun i hi _=>ot i oG) fun i hi=>by
     rw[rG] at hi;rcases hi with hi|hi
     .exact .inl hi
     .exact .inr oG)
    have vu:c8 C (fH x) (prog.cellsOf 174) m2 nx=some (.map (l9 seen)):=gQ ((ot nx oG).trans ku) oG (ID seen);have qR:c8 C (fH x) (prog.cellsOf 174) m2 j=some (.cells ((pre++x::O).flatMap fH) 174):=gQ ((ot j oG).trans ao) oG (BS I0 _);refine aa ⟨⟨ay [(0,.fn (.yield l) [] []),(1,.pt [I a,I b]),(2,.pt (cR fl sh (ca.map al))),(4,.mp nx),(5,.rs j (pre.length*3) (x::O).length),(6,.pt (fH x))],c8 C (fH x) (prog.cellsOf 174) m2,C+1⟩,?_,?_⟩
    .subst hP;exact lz (i:=C) (cs:=fH x) (e:=174) (ah _ _ _) ⟨rfl,rfl,rfl,rfl,if_neg oG,if_pos rfl,trivial⟩
    clear aiI ot hP ku ao hinv qb sZ s3;generalize c8 C (fH x) (prog.cellsOf 174) m2=m at*
    refine aF (aj ?_);refine bx ?_;refine Lz rfl rfl aM ⟨rfl,k,U,Ee,ye,AI,fun d m' ai hp=>?_⟩;obtain⟨hp,AV,jy⟩:=hp;rcases hp with⟨rfl,hp⟩|⟨rfl,hp⟩
    .refine SS ?_;refine aa (cQ rfl (fun h=>oH) fun h=>?_);have ku:=(jy nx wj).trans vu;have ao:=(jy j yx).trans qR;clear jy vu qR;obtain⟨zp,Bz⟩:=af _ _ (hB.lead x oS);obtain⟨sa,Ed⟩:∃ sa,sh[x.1.1]? =some sa:=⟨_,a7 oG⟩
     obtain⟨sb,Nd⟩:∃ sb,sh[x.1.2]? =some sb:=⟨_,a7 oG⟩
     have kz:(sn.getD x.1.1 0=sn.getD x.1.2 0)↔sa=sb:=by
      have:=B' Ed Nd;rw[fA] at this;rw[<- this];have l1:x.1.1<sn.length:=by rw[<- fA];simpa using(by omega:x.1.1<sh.length)
      have l2:x.1.2<sn.length:=by rw[<- fA];simpa using(by omega:x.1.2<sh.length)
      rw[dZ (d:=0) l1,dZ (d:=0) l2,aH]
     have amB:(ca.map al)[x.1.1]? =some (al (ca.getD x.1.1 [])):=by rw[List.getElem?_map,dZ (d:=[]) zp];rfl
     have amC:(ca.map al)[x.1.2]? =some (al (ca.getD x.1.2 [])):=by rw[List.getElem?_map,dZ (d:=[]) Bz];rfl
     refine cx (aF (eA Zp ?_));refine bw ?_;refine cw ?_;refine cz cJ (cQ rfl (fun h=>?_) fun h=>?_)
     .have aiJ:=aE
      have aE:¬ sn.getD x.1.1 0=sn.getD x.1.2 0:=fun e=>by
       rw[kz] at e;subst e;simp at h
      refine ta (Gg ?_);refine SS ?_;refine aw (E0 rfl ao A3 um (a:=1) (b:=((x::O).length:Nat)) rfl rfl) aM ⟨⟨AH,rfl⟩,oG,by rw[List.length_cons];omega,Int.le_refl _⟩ ?_;refine aw (jO (v:=.rs _ _ _) rfl) aM trivial ?_;refine aa (bi ⟨k+1,U,m',ai,j,pre++[x],seen,O⟩ (au ⟨rfl,rfl,rfl,rfl,?_,trivial⟩) ⟨⟨hp,fun i hi=>by have:=ye i hi;dsimp only;omega,wj,yx,aiJ,ku,by rw[List.append_assoc];exact ao⟩,(By.next af (by unfold vM;simp only[if_neg aE];rfl) adr oP).1⟩ oM);show D.rs j (pre.length*3+(1:Int).toNat*3) (((x::O).length:Int) - 1).toNat=D.rs j ((pre++[x]).length*3) O.length;congr 1
      .simp;omega
      .simp
     .have sT:sn.getD x.1.1 0=sn.getD x.1.2 0:=by
       rw[kz];have:sa.toList=sb.toList:=by simpa using h
       rw[te,te] at this;exact xE this
      refine cx (az ?_);refine bw ?_;have hcx:al (ca.getD x.1.1 [])=al (ca.getD x.1.1 []):=rfl;have fO:(al (ca.getD x.1.1 [])).length=(ca.getD x.1.1 []).length:=by simp
      have amD:(ca.getD x.1.2 []).length=(ca.getD x.1.1 []).length:=(hlen _ _ zp Bz sT).symm;have y8:(ca.getD x.1.1 []).length<=100000:=di _ (bu (dZ (d:=[]) zp))
      refine aa (cy (α:=Nat×WS) (fun s=>⟨ay [(0,.fn (.yield l) [] []),(1,.pt [I a,I b]),(2,.pt (cR fl sh (ca.map al))),(4,.mp nx),(5,.rs s.2.j (s.2.pre.length*3) s.2.O.length),(6,.pt (fH x)),(50,aP (al (ca.getD x.1.1 []))),(51,I (al (ca.getD x.1.1 [])).length),(52,I s.1)],s.2.m,s.2.nx⟩)
       (fun s=>WI (I' (k+1)) nx s.2/\s.1<=(ca.getD x.1.1 []).length/\oW ca (a,b) x (seen,x::O) s.1=(s.2.seen,s.2.O)/\s.2.pre.length<=k/\∀ y∈s.2.O,y.2.length<=s.2.seen.length) (fun s=>(ca.getD x.1.1 []).length - s.1) (0,⟨k+1,U,m',ai,j,pre,seen,x::O⟩)
       (au eH) ⟨⟨hp,fun i hi=>by have:=ye i hi;dsimp only;omega,wj,yx,aE,ku,ao⟩,Nat.zero_le _,rfl,q7,Tm⟩ ?_)
      clear ku ao hp Ee;rintro⟨i,⟨k2,S,m,C,j,pre,oc,O2⟩⟩ ⟨⟨hinv,qb,sZ,s3,aE,ku,ao⟩,hi,hE,q7,Al⟩;dsimp only at hinv qb sZ s3 aE ku ao hi hE q7 Al ⊢;obtain⟨O',D6,BA,gv,_⟩:=JW sT (hB.lead x oS) i hi hB;rw[hE] at D6 BA;dsimp only at D6 BA;subst D6;have Uk:=Gl BA af
      have amE:oc.length<=1000000:=by
       have:=congrArg List.length BA.pR;simp at this Uk;omega
      have uE:∀ p∈oc,p.1<=1000000/\p.2<=1000000:=fun p hp=>by
       have:p∈(Yd++x::O').map (·.1):=by rw[BA.pR];exact List.mem_cons_of_mem _ hp
       obtain⟨y,hy,rfl⟩:=List.mem_map.1 this;have:=af _ _ (BA.lead y hy);omega
      refine SS ?_;refine aa ⟨_,rfl,fun h=>?_,fun h=>?_⟩
      .have ei:i<(ca.getD x.1.1 []).length:=by simpa using h
       clear h;have sR:(al (ca.getD x.1.1 []))[i]? =some (((ca.getD x.1.1 []).getD i 0:Nat):Int):=by rw[List.getElem?_map,dZ (d:=0) ei];rfl
       have lu:(al (ca.getD x.1.2 []))[i]? =some (((ca.getD x.1.2 []).getD i 0:Nat):Int):=by rw[List.getElem?_map,dZ (d:=0) oG];rfl
       refine ws ?_;refine bx ?_;refine aa (az ?_);refine bw ?_;refine ab ?_;refine aw (EZ Ul Tn Hk rfl rfl) aM ⟨t121,To⟩ ?_;refine eI (Fo Hk) aM t121 ?_;refine bN (fq rfl rfl (ah _ _ _) rfl) aM (bX t121 LS ⟨rfl,bd 2⟩ (by rfl)) ?_;obtain⟨U,rG⟩:∃ U:Nat->Prop,U=fun i=>S i\/i=C:=⟨_,rfl⟩
       have lp:=qb _ s3;have uO:=qb _ sZ;obtain⟨J,eJ⟩:∃ J,J=(ca.getD x.1.1 []).getD i 0:=⟨_,rfl⟩
       obtain⟨M,HW⟩:∃ M,M=(ca.getD x.1.2 []).getD i 0:=⟨_,rfl⟩
       have Nf:(J,M).1<=1000000/\(J,M).2<=1000000:=by
        have h1:=fD x.1.1 _ (bu (dZ (d:=0) ei));have h2:=fD x.1.2 _ (bu (dZ (d:=0) (show i<(ca.getD x.1.2 []).length by omega)));rw[<- eJ] at h1;rw[<- HW] at h2;dsimp only;omega
       have Ng:oW ca (a,b) x (seen,x::O) (i+1)=vN ca (a,b) x (oc,x::O') i:=by
        rw[<- hE];unfold oW;rw[List.range_succ,List.foldl_append];rfl
       have KY:oa ca x.1 i=(J,M):=by rw[eJ,HW];rfl
       obtain⟨m2,hP⟩:∃ m2,m2=up (up m C (some (Row.cells [D.s (Value.int IntKind.i64 0),D.s (Value.int IntKind.i64 0)] 121))) C (some (Row.cells [I J,I M] 121)):=⟨_,rfl⟩
       have ot:∀ i,i≠C->m2 i=m i:=fun i hi=>by rw[hP,aA _ _ hi,aA _ _ hi]
       have wj:U nx:=by rw[rG];exact .inl sZ
       have yx:U j:=by rw[rG];exact .inl s3
       have ye:∀ i,U i->i<C+1:=fun i hi=>by
        rw[rG] at hi;rcases hi with hi|hi
        .have:=qb i hi;omega
        .omega
       have AI:I' (k+1) U (c8 C [I J,I M] (prog.cellsOf 121) m2) (C+1):=hF (k+1) U m2 (C+1) C _ (by rw[rG];exact .inr rfl) (hI (k+1) S m C U m2 (C+1) hinv oG (fun i hi _=>ot i oG) fun i hi=>by
        rw[rG] at hi;rcases hi with hi|hi
        .exact .inl hi
        .exact .inr oG)
       have vu:c8 C [I J,I M] (prog.cellsOf 121) m2 nx=some (.map (l9 oc)):=gQ ((ot nx oG).trans ku) oG (ID oc);have qR:c8 C [I J,I M] (prog.cellsOf 121) m2 j=some (.cells ((pre++x::O').flatMap fH) 174):=gQ ((ot j oG).trans ao) oG (BS I0 _);refine aa ⟨⟨ay [(0,.fn (.yield l) [] []),(1,.pt [I a,I b]),(2,.pt (cR fl sh (ca.map al))),(4,.mp nx),(5,.rs j (pre.length*3) (x::O').length),(6,.pt (fH x)),(7,I i),(9,.pt [I J,I M]),(50,aP (al (ca.getD x.1.1 []))),(51,I (al (ca.getD x.1.1 [])).length),(52,I i)],c8 C [I J,I M] (prog.cellsOf 121) m2,C+1⟩,?_,?_⟩
       .subst hP eJ HW;exact lz (i:=C) (cs:=[I ((ca.getD x.1.1 []).getD i 0:Nat),I ((ca.getD x.1.2 []).getD i 0:Nat)]) (e:=121) (ah _ _ _) ⟨rfl,rfl,rfl,rfl,if_neg oG,rfl,rfl,if_pos rfl,rfl,rfl,rfl,trivial⟩
       clear ot hP ku ao hinv qb sZ s3 eJ HW;generalize c8 C [I J,I M] (prog.cellsOf 121) m2=m at*
       refine ws ?_;refine ab ?_;refine aw (Tp (c:= !decide ((J,M)=(a,b))) rfl rfl ae9 rfl (by rw[ach])) aM ⟨rfl,ae'⟩ ?_;refine aw (dL (v:=.s (.bool _)) rfl) aM trivial ?_;by_cases HX:(J,M)=(a,b)
       .rw[decide_eq_true HX];iterate 2 refine z fun _ _=>?_
        refine iY rfl rfl fun _ _=>?_;refine z fun _ _=>?_;refine SS ?_;refine aa (aO rfl (fun h=>oH) fun h=>cT ?_);show aq _ _ _ _ _ _ _ _ _;refine aw (GH rfl rfl oG) aM rfl ?_;refine aw (dL (v:=.s (.int _ _)) rfl) aM trivial ?_;exact aa (bi (i+1,⟨k2,U,m,C+1,j,pre,oc,x::O'⟩) (au eH) ⟨⟨AI,ye,wj,yx,aE,vu,qR⟩,oM,by rw[Ng,Qx KY (fun e=>e.1 HX)],q7,Al⟩ oM)
       .rw[decide_eq_false HX];refine bt rfl rfl (dL (v:=.mp _) rfl) (fun hc=>⟨ak,trivial⟩) ?_;refine SS ?_;refine bt rfl rfl (E2 rfl vu rfl KZ (afc (J,M) oc)) (fun hc=>⟨(by repeat' (first|exact trivial|exact hc|exact rfl|refine And.intro ?_ ?_)),⟨K0,Kn _ Nf,Tl uE⟩⟩) ?_;refine ab ?_;refine aa (aO rfl (fun h=>aj ?_) fun h=>cT ?_)
        .have Bv:(J,M)∉oc:=by simpa using h
         clear h;have hxw:x.2.length<=oc.length:=Al x oS;have amF:O'.length<=1000000:=by simp at Uk;omega
         refine ab ?_;refine bN (xA (key:=n9 (J,M)) (v:=B true) rfl vu rfl rfl KZ) aM ⟨K0,Kn _ Nf,Tl uE⟩ ?_;refine aa (Co X3 ?_);rw[afd Bv];refine dJ ?_;refine ab ?_;refine q8 (ad0 rfl rfl rfl V.h (by rw[wH,c3];simp)) ak ?_;refine SS ?_;refine eI (tc (cs:=[_]) wH c3 z3 rfl rfl) aM ⟨rfl,oC,yu,oC⟩ ?_;refine G8 (abM rfl wH c3 (kO (ah _ _ _) rfl).ok (bF rfl) yu oS oC oC (by unfold maxLen;simp;omega) (by rw[b3];simp;omega)) aM ?_;refine aw (EZ Um Tq Hj rfl rfl) aM ⟨t174,Ts⟩ ?_;refine eI (tc A3 um Hj rfl rfl) aM ⟨rfl,oC,AH,oC⟩ ?_;have gR:∀ {a b c d},up (up (up (up m nx a) (C+1) b) (C+1+1) c) (C+1+1+1) d j=some (.cells ((pre++x::O').flatMap fH) 174):=ag oG (ag oG (ag oG (ag oG qR)));refine ji (iX rfl gR rfl A3 um (kO (ah _ _ _) rfl) rfl) aM ⟨AH,rfl,bF rfl,oC,by rw[ES];simp;omega,by unfold maxLen;simp;omega,by rw[Un];simp;omega,by simp;omega⟩ ?_;refine aw (jO (v:=.rs _ _ _) rfl) aM trivial ?_;refine cz cJ ?_;refine aw (GH rfl rfl oG) aM rfl ?_;refine aw (dL (v:=.s (.int _ _)) rfl) aM trivial ?_;obtain⟨m3,Eg⟩:∃ m3,m3=up (up (up (up (up (up m nx (some (.map (l9 (oc++[(J,M)]))))) (C+1) (some (.cells [I i] 3))) (C+1+1) (some (.cells ((al x.2).map I++[I i]) 3))) (C+1+1+1) (some (.cells [I J,I M,.rs (C+1+1) 0 ((al x.2).length+1)] 174))) j none) (C+1+1+1+1) (some (.cells (((pre++x::O').flatMap fH).drop (pre.length*3)++[I J,I M,.rs (C+1+1) 0 ((al x.2).length+1)]) 174)):=⟨_,rfl⟩
         refine aa (bi (i+1,⟨k2,fun q=>U q\/(C+1<=q/\q<C+1+1+1+1+1),c8 (C+1+1) ((al x.2).map I++[I i]) (prog.cellsOf 3) m3,C+1+1+1+1+1,C+1+1+1+1,[],oc++[(J,M)],x::(O'++[((J,M),x.2++[i])])⟩) ?_ ⟨⟨?_,?_,?_,?_,?_,?_,?_⟩,?_,?_,?_,?_⟩ oM)
         .have hr:m3 (C+1+1)=some (.cells ((al x.2).map I++[I i]) 3):=by rw[Eg];exact ag oG (ag oG (ag oG (ah _ _ _)))
          clear AI vu qR gR;subst Eg;refine lz (i:=C+1+1) (cs:=(al x.2).map I++[I i]) (e:=3) hr ⟨rfl,rfl,rfl,rfl,?_,rfl,rfl,rfl,rfl,trivial⟩;refine(zR oG).trans ?_;show D.rs (C+1+1+1+1) 0 _=D.rs (C+1+1+1+1) 0 _;congr 1;simp
         .refine hF (k+1) _ m3 _ (C+1+1) _ (.inr oG) (hI (k+1) U m (C+1) _ m3 (C+1+1+1+1+1) AI oG (fun q hq Vr=>?_) fun q hq=>hq);have q1:q≠j:=fun e=>Vr (e▸yx);have q2:q≠nx:=fun e=>Vr (e▸wj);rw[Eg,aA _ _ oG,aA _ _ q1,aA _ _ oG,aA _ _ oG,aA _ _ oG,aA _ _ q2]
         .intro q hq;dsimp only at hq ⊢;rcases hq with hq|hq
          .have:=ye q hq;omega
          .exact hq.2
         .exact .inl wj
         .exact .inr oM
         .dsimp only;omega
         .refine gQ ?_ oG (ID _);rw[Eg];exact ag oG (ag oG (ag oG (ag oG (ag oG (ah _ _ _)))))
         .have dq:=BS (X:=fun k=>k=C+1+1) I0 (x::O') (e:=174) (C+1+1) ((al x.2).map I++[I i]) (prog.cellsOf 3) rfl;simp only[Row.sub,Row.cells.injEq,and_true] at dq;dsimp only;unfold c8;rw[if_neg oG,Eg,ah];simp only[Option.map_some,Row.sub];rw[OP,List.map_append,dq]
          have e1:([]++x::(O'++[((J,M),x.2++[i])])).flatMap fH=(x::O').flatMap fH++fH ((J,M),x.2++[i]):=by
           rw[List.nil_append, <- List.cons_append,List.flatMap_append];simp
          rw[e1]
          have e2:sub (cF (C+1+1) ((al x.2).map I++[I i]) (prog.cellsOf 3)) (.rs (C+1+1) 0 ((al x.2).length+1))=aP (al (x.2++[i])):=by
           rw[jM (by rw[c3];simp)];simp[aP,al]
          have e3:∀ n:Int,sub (cF (C+1+1) ((al x.2).map I++[I i]) (prog.cellsOf 3)) (I n)=I n:=fun _=>rfl;simp only[List.map_cons,List.map_nil,e2,e3];rfl
         .dsimp only;omega
         .dsimp only;rw[Ng,Zo KY HX Bv];rfl
         .exact Nat.zero_le _
         .intro y hy;dsimp only at hy ⊢;rw[<- List.cons_append,List.mem_append] at hy;rw[List.length_append];rcases hy with hy|hy
          .have:=Al y hy;omega
          .simp only[List.mem_cons,List.not_mem_nil,or_false] at hy;subst hy;simp;omega
        .have Bv:(J,M)∈oc:=by simpa using h
         show aq _ _ _ _ _ _ _ _ _;refine aw (GH rfl rfl oG) aM rfl ?_;refine aw (dL (v:=.s (.int _ _)) rfl) aM trivial ?_;exact aa (bi (i+1,⟨k2,U,m,C+1,j,pre,oc,x::O'⟩) (au eH) ⟨⟨AI,ye,wj,yx,aE,vu,qR⟩,oM,by rw[Ng,Qx KY (fun e=>e.2 Bv)],q7,Al⟩ oM)
      .have bq:¬ i<(ca.getD x.1.1 []).length:=by simpa using h
       have:i=(ca.getD x.1.1 []).length:=by omega
       subst this;refine SS ?_;refine aw (E0 rfl ao A3 um (a:=1) (b:=((x::O').length:Nat)) rfl rfl) aM ⟨⟨AH,rfl⟩,oG,by rw[List.length_cons];omega,Int.le_refl _⟩ ?_;refine aw (jO (v:=.rs _ _ _) rfl) aM trivial ?_;refine aa (bi ⟨k+1,S,m,C,j,pre++[x],oc,O'⟩ (au ⟨rfl,rfl,rfl,rfl,?_,trivial⟩) ⟨⟨hinv,qb,sZ,s3,aE,ku,by rw[List.append_assoc];exact ao⟩,(By.next af (by unfold vM;simp only[if_pos sT];rw[hE];rfl) (fun y hy=>Al y (List.mem_cons_of_mem _ hy)) oP).1⟩ oM);show D.rs j (pre.length*3+(1:Int).toNat*3) (((x::O').length:Int) - 1).toNat=D.rs j ((pre++[x]).length*3) O'.length;congr 1
       .simp;omega
       .simp
    .refine SS ?_;exact aa (cQ rfl (fun h=>xB (bH (bE (cm (vq (.inr hp)))))) fun h=>oH)
  .cases O with
   |nil=>
    refine vr (Or.inl ⟨S,?_⟩);rw[List.length_map,By.end];exact hinv
   |cons x O=>simp at h
theorem wQ{l:List ap}{a b:Int}(hl:l.length<=1000):aB prog 70 [bj l,I a,I b] (.aL [.agg (qX l),I (if(dc l).2=0 then(if jW l.length a&&jW l.length b then 0 else 1) else(dc l).2)]):=by
 have gM:=gM hl;refine bl aiK (.cons (js l) (.cons (.s _) (.cons (.s _) .nil))) (.aL (.cons (.agg (Qq l)) (.cons (.s _) .nil))) ?_;rw[aiL];refine ws ?_;refine ab ?_;refine er ?_;have J:=zT (l:=l);have M:=B3 (l:=l);generalize (dc l).2=err at*
 by_cases he:err=0
 .have C:=J he;rw[C] at gM ⊢;subst he;refine SS ?_;refine cl gM ?_;refine cw ?_;have iP:=iP (l:=l) (sh:=bB l) (ca:=(aZ l).map al);have nG:((0:Int)==0)=true:=rfl;refine aa (aF (aj ?_));refine dJ ?_;refine gc iP ?_;refine bw ?_;refine gc iP ?_;refine ax ?_
  have hb:(if(if(if decide (a<0)=true then true else decide ((l.length:Int)<=a))=true then true else decide (b<0))=true then true else decide ((l.length:Int)<=b))= !(jW l.length a&&jW l.length b):=by
   unfold jW;rw[Bool.eq_iff_iff];simp;omega
  rw[hb];refine aa (cQ rfl (fun h=>?_) fun h=>?_)
  .have h:(jW l.length a&&jW l.length b)=false:=by revert h;cases (jW l.length a&&jW l.length b)<;>simp
   rw[h,if_pos rfl,if_neg oS];refine ws ?_;refine SS ?_;refine er ?_;refine ba ?_;exact aa (bH (mX (gN rfl rfl sV mU rfl t82 (bd 3)) rfl rfl))
  .have h:(jW l.length a&&jW l.length b)=true:=by simpa using h
   rw[h,if_pos rfl,if_pos rfl];refine cx (aj ?_);refine ba ?_;exact aa (bH (mX (gN rfl rfl sV mU rfl t82 (bd 3)) rfl rfl))
 .have C:=M he;rw[C] at gM ⊢;have nG:(err==0)=false:=by simpa using he
  refine SS ?_;refine cl gM ?_;refine cw ?_;refine aa (aF (aj ?_));have iP:(false==true)=true->aB prog 48 [.agg [.z,.z,.z]] (I 0):=fun h=>by cases h
  refine aw (dL (v:=.s (.int _ _)) rfl) aM trivial ?_
  (first|refine aw (Ai rfl rfl nG) aM rfl ?_|refine aw (Ai rfl rfl CZ) aM rfl ?_|refine aw (GG rfl rfl) aM rfl ?_)
  refine aw (dL (v:=.s (.bool _)) rfl) aM trivial ?_
  (first|refine bt rfl rfl (dL (v:=.s (.int _ _)) rfl) (fun hc=>⟨(by repeat' (first|exact trivial|exact hc|exact rfl|refine And.intro ?_ ?_)),trivial⟩) ?_)
  (first|refine bt rfl rfl (ads rfl rfl aiM) (fun hc=>⟨(by repeat' (first|exact trivial|exact hc|exact rfl|refine And.intro ?_ ?_)),rfl⟩) ?_|refine bt rfl rfl (GF rfl rfl) (fun hc=>⟨(by repeat' (first|exact trivial|exact hc|exact rfl|refine And.intro ?_ ?_)),rfl⟩) ?_)
  (first|refine bt rfl rfl (dL (v:=.s (.bool _)) rfl) (fun hc=>⟨(by repeat' (first|exact trivial|exact hc|exact rfl|refine And.intro ?_ ?_)),trivial⟩) ?_)
  (first|refine bt rfl rfl (dL (v:=.s (.int _ _)) rfl) (fun hc=>⟨(by repeat' (first|exact trivial|exact hc|exact rfl|refine And.intro ?_ ?_)),trivial⟩) ?_)
  (first|refine bt rfl rfl (j4 rfl sV mU rfl) (fun hc=>⟨(by repeat' (first|exact trivial|exact hc|exact rfl|refine And.intro ?_ ?_)),(j7 t82 mU oS)⟩) ?_|refine bt rfl rfl (fg rfl rfl sV mU rfl) (fun hc=>⟨(by repeat' (first|exact trivial|exact hc|exact rfl|refine And.intro ?_ ?_)),(fh t82 mU (by first|(simp;done)|omega|exact bF rfl))⟩) ?_)
  (first|refine tL rfl rfl rfl (fun hc=>⟨(by repeat' (first|exact trivial|exact hc|exact rfl|refine And.intro ?_ ?_)),iP⟩) ?_|refine tL rfl rfl rfl (fun hc=>⟨(by repeat' (first|exact trivial|exact hc|exact rfl|refine And.intro ?_ ?_)),iP hc⟩) ?_|refine se iP rfl rfl rfl rfl (aiN rfl) aM ?_|refine tL rfl rfl rfl (fun hc=>⟨(by repeat' (first|exact trivial|exact hc|exact rfl|refine And.intro ?_ ?_)),LU⟩) ?_|refine se LU rfl rfl rfl rfl (afg rfl) aM ?_)
  (first|refine bt rfl rfl (Aj rfl rfl uf) (fun hc=>⟨(by repeat' (first|exact trivial|exact hc|exact rfl|refine And.intro ?_ ?_)),rfl⟩) ?_|refine bt rfl rfl (CX rfl rfl) (fun hc=>⟨(by repeat' (first|exact trivial|exact hc|exact rfl|refine And.intro ?_ ?_)),rfl⟩) ?_)
  (first|refine B0 rfl rfl rfl rfl (by first|exact fun _=>trivial|exact fun _=>rfl|exact fun hc=>hc) (by first|exact fun _=>trivial|exact fun _=>rfl|exact fun hc=>hc) ?_|refine EP rfl rfl rfl rfl (by first|exact fun _=>trivial|exact fun _=>rfl|exact fun hc=>hc) (by first|exact fun _=>trivial|exact fun _=>rfl|exact fun hc=>hc) ?_|refine E4 rfl rfl rfl rfl rfl (by first|exact fun _=>trivial|exact fun _=>rfl|exact fun hc=>hc) (fun hc h=>by first|exact trivial|exact rfl|exact hc|(show Eq _ _;rw[hc,h];rfl)|(show Eq _ _;rw[h,hc];rfl)|(show Eq _ _;simp[hc,h];done)|(show Eq _ _;simp_all;done)) (fun hc h=>by first|exact trivial|exact rfl|exact hc|(show Eq _ _;rw[hc,h];rfl)|(show Eq _ _;rw[h,hc];rfl)|(show Eq _ _;simp[hc,h];done)|(show Eq _ _;simp_all;done)) ?_)
  (first|refine bt rfl rfl (dL (v:=.s (.bool _)) rfl) (fun hc=>⟨(by repeat' (first|exact trivial|exact hc|exact rfl|refine And.intro ?_ ?_)),trivial⟩) ?_)
  (first|refine bt rfl rfl (dL (v:=.s (.int _ _)) rfl) (fun hc=>⟨(by repeat' (first|exact trivial|exact hc|exact rfl|refine And.intro ?_ ?_)),trivial⟩) ?_)
  (first|refine bt rfl rfl (ads rfl rfl aiM) (fun hc=>⟨(by repeat' (first|exact trivial|exact hc|exact rfl|refine And.intro ?_ ?_)),rfl⟩) ?_|refine bt rfl rfl (GF rfl rfl) (fun hc=>⟨(by repeat' (first|exact trivial|exact hc|exact rfl|refine And.intro ?_ ?_)),rfl⟩) ?_)
  (first|refine B0 rfl rfl rfl rfl (by first|exact fun _=>trivial|exact fun _=>rfl|exact fun hc=>hc) (by first|exact fun _=>trivial|exact fun _=>rfl|exact fun hc=>hc) ?_|refine EP rfl rfl rfl rfl (by first|exact fun _=>trivial|exact fun _=>rfl|exact fun hc=>hc) (by first|exact fun _=>trivial|exact fun _=>rfl|exact fun hc=>hc) ?_|refine E4 rfl rfl rfl rfl rfl (by first|exact fun _=>trivial|exact fun _=>rfl|exact fun hc=>hc) (fun hc h=>by first|exact trivial|exact rfl|exact hc|(show Eq _ _;rw[hc,h];rfl)|(show Eq _ _;rw[h,hc];rfl)|(show Eq _ _;simp[hc,h];done)|(show Eq _ _;simp_all;done)) (fun hc h=>by first|exact trivial|exact rfl|exact hc|(show Eq _ _;rw[hc,h];rfl)|(show Eq _ _;rw[h,hc];rfl)|(show Eq _ _;simp[hc,h];done)|(show Eq _ _;simp_all;done)) ?_)
  (first|refine bt rfl rfl (dL (v:=.s (.bool _)) rfl) (fun hc=>⟨(by repeat' (first|exact trivial|exact hc|exact rfl|refine And.intro ?_ ?_)),trivial⟩) ?_)
  (first|refine bt rfl rfl (dL (v:=.s (.int _ _)) rfl) (fun hc=>⟨(by repeat' (first|exact trivial|exact hc|exact rfl|refine And.intro ?_ ?_)),trivial⟩) ?_)
  (first|refine bt rfl rfl (j4 rfl sV mU rfl) (fun hc=>⟨(by repeat' (first|exact trivial|exact hc|exact rfl|refine And.intro ?_ ?_)),(j7 t82 mU oS)⟩) ?_|refine bt rfl rfl (fg rfl rfl sV mU rfl) (fun hc=>⟨(by repeat' (first|exact trivial|exact hc|exact rfl|refine And.intro ?_ ?_)),(fh t82 mU (by first|(simp;done)|omega|exact bF rfl))⟩) ?_)
  (first|refine tL rfl rfl rfl (fun hc=>⟨(by repeat' (first|exact trivial|exact hc|exact rfl|refine And.intro ?_ ?_)),iP⟩) ?_|refine tL rfl rfl rfl (fun hc=>⟨(by repeat' (first|exact trivial|exact hc|exact rfl|refine And.intro ?_ ?_)),iP hc⟩) ?_|refine se iP rfl rfl rfl rfl (aiN rfl) aM ?_|refine tL rfl rfl rfl (fun hc=>⟨(by repeat' (first|exact trivial|exact hc|exact rfl|refine And.intro ?_ ?_)),LU⟩) ?_|refine se LU rfl rfl rfl rfl (afg rfl) aM ?_)
  (first|refine bt rfl rfl (Aj rfl rfl uf) (fun hc=>⟨(by repeat' (first|exact trivial|exact hc|exact rfl|refine And.intro ?_ ?_)),rfl⟩) ?_|refine bt rfl rfl (CX rfl rfl) (fun hc=>⟨(by repeat' (first|exact trivial|exact hc|exact rfl|refine And.intro ?_ ?_)),rfl⟩) ?_)
  (first|refine B0 rfl rfl rfl rfl (by first|exact fun _=>trivial|exact fun _=>rfl|exact fun hc=>hc) (by first|exact fun _=>trivial|exact fun _=>rfl|exact fun hc=>hc) ?_|refine EP rfl rfl rfl rfl (by first|exact fun _=>trivial|exact fun _=>rfl|exact fun hc=>hc) (by first|exact fun _=>trivial|exact fun _=>rfl|exact fun hc=>hc) ?_|refine E4 rfl rfl rfl rfl rfl (by first|exact fun _=>trivial|exact fun _=>rfl|exact fun hc=>hc) (fun hc h=>by first|exact trivial|exact rfl|exact hc|(show Eq _ _;rw[hc,h];rfl)|(show Eq _ _;rw[h,hc];rfl)|(show Eq _ _;simp[hc,h];done)|(show Eq _ _;simp_all;done)) (fun hc h=>by first|exact trivial|exact rfl|exact hc|(show Eq _ _;rw[hc,h];rfl)|(show Eq _ _;rw[h,hc];rfl)|(show Eq _ _;simp[hc,h];done)|(show Eq _ _;simp_all;done)) ?_)
  (first|refine Qj rfl rfl (by first|exact trivial|exact rfl) ?_|refine Qk rfl rfl (by first|exact trivial|exact rfl) ?_|refine Rr rfl rfl rfl (fun h=>by first|exact trivial|exact rfl|exact h|(show Eq _ _;rw[h];rfl)|(show Eq _ _;simp[h];done)|(show Eq _ _;simp_all;done)) (fun h=>by first|exact trivial|exact rfl|exact h|(show Eq _ _;rw[h];rfl)|(show Eq _ _;simp[h];done)|(show Eq _ _;simp_all;done)) ?_)
  refine aa (cQ rfl (fun h=>(by revert h;simp)) fun h=>cx (aj ?_));rw[if_neg he];refine ba ?_;exact aa (bH (mX (gN rfl rfl sV mU rfl t82 (bd 3)) rfl rfl))
end Go.Proofs.Tryz.K
namespace Go.Abs
section
variable{P:Program}{Y:eg}{Q:Exit->St->Prop}{st:St}{b:Code}
theorem K2{a:Code}(h:AX P Y a (fL (fun st'=>∃ C,aJ P st' C/\AX P Y b Q C) Q) st):AX P Y (.seq a b) Q st:=h
theorem AJ[dy Y]{ops:Array Oper}{id:Nat}(h:aq P Y ops false [] (eT fun st=>∃ st',aJ P st st'/\AX P Y b Q st') ops.toList st []):AX P Y (.seq (.region id ops false) b) Q st:=by
 show AW P Y true (.region id ops false) _ st;exact lB (rf:=true) (aq.iD h fun _ h=>h)
theorem afh(h:Q .ret st):AX P Y .ret Q st:=h
theorem ack{env:Env}{I:Mem->Nat->Prop}(h:Q .ret ⟨env,st.mem,st.nx⟩):xz env I Q .ret st:=h
theorem Kp{a1 a2 a3:Nat}{t1 t2 t3:TypeId}{K:D->St->Prop}{C J M:D}(h1:∃ p,nC P st (.cell a1 t1)=some (p,C)/\p)(h2:∃ p,nC P st (.cell a2 t2)=some (p,J)/\p)(U:∃ p,nC P st (.cell a3 t3)=some (p,M)/\p)(h:K (.aL [C,J,M]) st):
 gV P [.cell a1 t1,.cell a2 t2,.cell a3 t3] K .ret st:=by
 obtain⟨X,a1,b1⟩:=h1;obtain⟨p2,a2,b2⟩:=h2;obtain⟨p3,a3,b3⟩:=U;simp only[gV,nD,a1,a2,a3];exact⟨b1,b2,b3,h⟩
end
def NO:Value->Value->Bool
 | .int k n,.int k' n'=>decide (k=k')&&decide (n=n')
 | .bool a,.bool b=>a==b
 | .string a,.string b=>decide (a=b)
 |_,_=>false
theorem adJ{a b:Value}(h:NO a b=true):a=b:=by
 unfold NO at h;split at h
 .rw[bc,decide_eq_true_eq,decide_eq_true_eq] at h;rw[h.1,h.2]
 .rw[show _=_ from eq_of_beq h]
 .rw[of_decide_eq_true h]
 .cases h
def uu(g:D->D->Bool):List D->List D->Bool
 |[],[]=>true
 |a::xs,b::bs=>g a b&&uu g xs bs
 |_,_=>false
def zu:Nat->D->D->Bool
 |0,_,_=>false
 |_+1,.s a,.s b=>NO a b
 |_+1,.z,.z=>true
 |_+1,.sl [] 0,.z=>true
 |k+1,.agg a,.agg b=>uu (zu k) a b
 |k+1,.aL a,.aL b=>uu (zu k) a b
 |k+1,.sl a n,.sl b m=>Nat.beq n m&&uu (zu k) a b
 |k+1,.pt a,.pt b=>uu (zu k) a b
 |_+1,_,_=>false
theorem Ce{g:D->D->Bool}:∀ {xs bs:List D},uu g xs bs=true->xs.length=bs.length/\∀ (k:Nat) a,xs[k]? =some a->∃ b,bs[k]? =some b/\g a b=true
 |[],[],_=>⟨rfl,fun k a h=>by simp at h⟩
 |a::xs,b::bs,h=>by
  simp only[uu,bc] at h;obtain⟨h1,h2⟩:=Ce h.2;refine⟨by simp[h1],fun k x hx=>?_⟩;cases k with
  |zero=>simp at hx;subst hx;exact⟨b,rfl,h.1⟩
  |succ k=>exact h2 k x (by simpa using hx)
 |[],_::_,h=>by simp[uu] at h
 |_::_,[],h=>by simp[uu] at h
theorem Di{F:Nat->Prop}{β:aC}{w:World}:∀ (k:Nat) {a b:D} {v:Value},zu k a b=true->R F β w b v->R F β w a v
 |0,a,b,v,h,_=>by simp[zu] at h
 |k+1,a,b,v,h,hv=>by
  unfold zu at h;split at h
  .cases h
  .rename_i e;rw[adJ h];exact hv
  .exact hv
  .obtain⟨x,rfl⟩:=hv.tQ;exact .gf x 0
  .rename_i a b e;cases e;obtain⟨h1,h2⟩:=Ce h;cases hv with
   |agg _ vs hl hh=>
    refine .agg _ vs oG fun j d u hd hu=>?_;obtain⟨C,hb,hg⟩:=h2 j d hd;exact Di k hg (hh j C u hb hu)
  .rename_i a b e;cases e;obtain⟨h1,h2⟩:=Ce h;cases hv with
   |aL _ vs hl hh=>
    refine .aL _ vs oG fun j d u hd hu=>?_;obtain⟨C,hb,hg⟩:=h2 j d hd;exact Di k hg (hh j C u hb hu)
  .rename_i a n b m e;cases e;rw[bc] at h;have wS:n=m:=Nat.eq_of_beq_eq_true h.1;obtain⟨h1,h2⟩:=Ce h.2;subst wS;cases hv with
   |gf a' cap=>
    have:a=[]:=List.length_eq_zero_iff.1 (by simpa using h1);subst this;exact .gf _ _
   |sl _ _ C o cap us J M U g4 g5 X g7=>
    refine .sl _ _ C o cap us J M U g4 g5 (fun j hj=>X j oG) fun j d hd=>?_;obtain⟨d',hb,hg⟩:=h2 j d hd;exact Di k hg (g7 j d' hb)
  .rename_i a b e;cases e;obtain⟨h1,h2⟩:=Ce h;cases hv with
   |pt _ C o us J M U X g7=>
    refine .pt _ C o us J M U (fun j hj=>X j oG) fun j d hd=>?_;obtain⟨d',hb,hg⟩:=h2 j d hd;exact Di k hg (g7 j d' hb)
  .cases h
end Go.Abs
namespace Go.Proofs.Tryz.K
theorem qq{l:List ap}{a b:Int}(hl:l.length<=1000):aB prog 35 [bj l,I a,I b] (.aL (pG l a b)):=by
 have wQ:=wQ (a:=a) (b:=b) hl;refine aaz mixed aiO kr (.cons (js l) (.cons (.s _) (.cons (.s _) .nil))) (.aL (Zq l a b)) ?_;rw[aiP];have sM:=zT (l:=l);have yw:=B3 (l:=l);have AZ:=tN (l:=l);obtain⟨J,C⟩:∃ J,J=(if(dc l).2=0 then(if jW l.length a&&jW l.length b then 0 else 1) else(dc l).2):=⟨_,rfl⟩
 rw[<- C] at wQ;by_cases he:J=0
 .have h0:(dc l).2=0:=by
   by_cases h:(dc l).2=0
   .exact h
   .rw[if_neg h] at C;omega
  have jB:(jW l.length a&&jW l.length b)=true:=by
   rw[if_pos h0] at C;cases h:(jW l.length a&&jW l.length b) with
   |true=>rfl
   |false=>rw[h] at C;simp at C;omega
  have M:=AZ h0;rw[sM h0] at wQ;unfold pG;rw[if_pos h0,if_pos jB];rw[he] at wQ;simp only[jW,bc,decide_eq_true_eq] at jB;obtain⟨⟨a0,a1⟩,b0,b1⟩:=jB;obtain⟨p,rfl⟩:=jH a0;obtain⟨q,rfl⟩:=jH b0;refine AJ ?_;refine ax ?_;refine aa ⟨_,.refl _,AJ ?_⟩;refine ax ?_;refine cl wQ ?_;refine cw ?_;refine aa ⟨_,.refl _,K2 (aj ?_)⟩;refine ab ?_;refine aa (aO rfl (fun h=>oH) fun h=>cI ⟨_,.refl _,K2 (AJ ?_)⟩);have Nc:=Nc (l:=l) (sh:=bB l) (ca:=(aZ l).map al) (a:=(p:Int)) (b:=(q:Int));refine ba ?_;refine cl Nc ?_
  have wR:Hb prog 114 [] [.pt [I p,I q],.pt (cR l (bB l) ((aZ l).map al))] ((pT (cX l) (aZ l) p q).map CM):=aiH (by simp[bB]) oP M.wg M.GU oP oP fun x hx=>by
   obtain⟨f,hf,rfl⟩:=List.mem_map.1 hx;have:=zA f.blocks;have:=(vf (Go.Argus.checked (M.sW f hf))).kN;simp;omega
  obtain⟨X,Eh⟩:∃ X:Mem,X=up (up (up (up (up (fun _=>none) 0 (some (Row.cells [D.z] 43))) 1 (some (Row.cells [B false] 4))) 2 (some (Row.cells [I 0] 27))) 3 (some (Row.cells [D.z,D.z,D.z] 82))) 3 (some (Row.cells (cR l (bB l) ((aZ l).map al)) 82)):=⟨_,rfl⟩
  refine aa ⟨⟨ay [(6,.rp 0 0),(7,.rp 1 0),(8,.rp 2 0),(9,.pt (cR l (bB l) ((aZ l).map al))),(27,.fn (.func 114) [] [.pt [I p,I q],.pt (cR l (bB l) ((aZ l).map al))])],c8 3 (cR l (bB l) ((aZ l).map al)) (prog.cellsOf 82) X,4⟩,?_,?_⟩
  .subst Eh;exact lz (i:=3) (cs:=cR l (bB l) ((aZ l).map al)) (e:=82) rfl eH
  have r0:c8 3 (cR l (bB l) ((aZ l).map al)) (prog.cellsOf 82) X 0=some (.cells [.z] 43):=by rw[Eh];rfl
  have r1:c8 3 (cR l (bB l) ((aZ l).map al)) (prog.cellsOf 82) X 1=some (.cells [B false] 4):=by rw[Eh];rfl
  have r2:c8 3 (cR l (bB l) ((aZ l).map al)) (prog.cellsOf 82) X 2=some (.cells [I 0] 27):=by rw[Eh];rfl
  generalize c8 3 (cR l (bB l) ((aZ l).map al)) (prog.cellsOf 82) X=m5 at*
  clear Eh sM yw AZ C;rw[jZ,jZ];refine⟨trivial,114,[],_,_,fun k m nx=>m 0=some (.cells [.z] 43)/\m 1=some (.cells [B false] 4)/\m 2=some (.cells [I 0] 27)/\3<=nx/\∀ j x,j<k->(pT (cX l) (aZ l) p q)[j]? =some x->(cX l).getD x.1.1 0=(cX l).getD x.1.2 0,rfl,wR,fun x hx=>?_,⟨r0,r1,r2,oM,fun j x hj=>by omega⟩,?_,?_⟩
  .obtain⟨y,_,rfl⟩:=List.mem_map.1 hx;exact⟨rfl,.cons (.agg (.cons (.s _) (.cons (.s _) .nil))) (.cons (dn _) .nil)⟩
  .rintro k m nx x hx ⟨r0,r1,r2,cv,Hl⟩;rw[List.getElem?_map,cO] at hx;obtain⟨x,hx,rfl⟩:=hx;refine az ?_;refine eI (Fo Hk) aM t121 ?_;refine bN (fq rfl rfl (ah _ _ _) rfl) aM (bX t121 LS ⟨rfl,bd 2⟩ (by rfl)) ?_;have hB:BI (cX l) (aZ l) (p,q) (pT (cX l) (aZ l) p q) ((RA (a:=p) (b:=q) M.wg M.GU oP oP).choose) []:=(RA M.wg M.GU oP oP).choose_spec;obtain⟨zp,Bz⟩:=JV M.wg M.GU oP oP (hB.lead x (by rw[List.append_nil];exact bu hx));clear hB;obtain⟨sa,Ed⟩:∃ sa,(bB l)[x.1.1]? =some sa:=⟨_,a7 (by simpa[bB] using zp)⟩
   obtain⟨sb,Nd⟩:∃ sb,(bB l)[x.1.2]? =some sb:=⟨_,a7 (by simpa[bB] using Bz)⟩
   have kz:=Qw Ed Nd;obtain⟨U,hP⟩:∃ U,U=up (up m nx (some (Row.cells [I 0,I 0] 121))) nx (some (Row.cells [I x.1.1,I x.1.2] 121)):=⟨_,rfl⟩
   have ot:∀ i,i≠nx->U i=m i:=fun i hi=>by rw[hP,aA _ _ hi,aA _ _ hi]
   have r0:c8 nx [I x.1.1,I x.1.2] (prog.cellsOf 121) U 0=some (.cells [.z] 43):=gQ ((ot 0 oG).trans r0) oG (.cells fun d hd=>by simp at hd;subst hd;exact .z);have r1:c8 nx [I x.1.1,I x.1.2] (prog.cellsOf 121) U 1=some (.cells [B false] 4):=gQ ((ot 1 oG).trans r1) oG (.cells fun d hd=>by simp at hd;subst hd;exact .s _);have r2:c8 nx [I x.1.1,I x.1.2] (prog.cellsOf 121) U 2=some (.cells [I 0] 27):=gQ ((ot 2 oG).trans r2) oG (.cells fun d hd=>by simp at hd;subst hd;exact .s _);refine aa ⟨⟨ay [(6,.rp 0 0),(7,.rp 1 0),(8,.rp 2 0),(9,.pt (cR l (bB l) ((aZ l).map al))),(11,.pt [I x.1.1,I x.1.2]),(29,aP (al x.2))],c8 nx [I x.1.1,I x.1.2] (prog.cellsOf 121) U,nx+1⟩,?_,?_⟩
   .clear r0 r1 r2 ot;subst hP;exact lz (i:=nx) (cs:=[I x.1.1,I x.1.2]) (e:=121) (ah _ _ _) ⟨gk oG,gk oG,gk oG,rfl,lU,rfl,trivial⟩
   generalize c8 nx [I x.1.1,I x.1.2] (prog.cellsOf 121) U=m at*
   refine xD ?_;refine SS ?_;refine aa (show AW _ _ _ _ _ _ from pz (eA aaY ?_));refine bw ?_;refine ba ?_;refine cz cJ (aO rfl (fun h=>aj ?_) fun h=>cT ?_)
   .have yP:Gm (cX l) (aZ l) p q=some x:=by
     have aE:((cX l).getD x.1.1 0==(cX l).getD x.1.2 0)=false:=by
      rw[kz];revert h;cases (sa.toList==sb.toList)<;>simp
     refine Rz hx (by simpa using aE) fun j y hj hy=>?_;have:=Hl j y hj hy;rw[this];exact bne_self_eq_false _
    rw[yP];refine SS ?_;refine bN (eK (d:=.sl _ _) (cs':=[_]) rfl rfl r0 rfl rfl) aM (bX t43 sX ⟨rfl,bF rfl⟩ rfl) ?_;refine bN (eK (d:=.s (.bool _)) (cs':=[_]) rfl rfl r1 rfl rfl) aM (bX t4 c4 ⟨rfl,bF rfl⟩ rfl) ?_;refine bN (eK (d:=.s (.int _ _)) (cs':=[_]) rfl rfl r2 rfl rfl) aM (bX t27 BB ⟨rfl,bF rfl⟩ rfl) ?_;refine aa (bH (eB (ack (eB (bE ?_)))));exact Kp (s9 (v:=aP (al x.2)) rfl rfl HY sX rfl t43) (s9 rfl rfl a4 c4 rfl t4) (s9 rfl rfl HZ BB rfl t27) rfl
   .refine⟨r0,r1,r2,oM,fun j y hj hy=>?_⟩;by_cases sN:j<k
    .exact Hl j y sN hy
    .have:j=k:=by omega
     subst this;rw[hx] at hy;cases hy
     have he:((cX l).getD x.1.1 0==(cX l).getD x.1.2 0)=true:=by
      rw[kz];revert h;cases (sa.toList==sb.toList)<;>simp
     simpa using he
  .rintro m nx ⟨r0,r1,r2,cv,Hl⟩;refine⟨_,.refl _,AJ ?_⟩
   have yP:Gm (cX l) (aZ l) p q=none:=by
    unfold Gm;refine List.find?_eq_none.2 fun y hy=>?_;obtain⟨j,hj⟩:=dw hy;have dj:j<((pT (cX l) (aZ l) p q).map CM).length:=by rw[List.length_map];exact(bC.1 hj).1
    have:=Hl j y dj hj;rw[this];simp
   rw[yP];refine bN (eK (d:=.z) (cs':=[_]) rfl rfl r0 rfl rfl) aM (bX t43 sX ⟨rfl,bF rfl⟩ rfl) ?_;refine bN (eK (d:=.s (.bool _)) (cs':=[_]) rfl rfl r1 rfl rfl) aM (bX t4 c4 ⟨rfl,bF rfl⟩ rfl) ?_;refine bN (eK (d:=.s (.int _ _)) (cs':=[_]) rfl rfl r2 rfl rfl) aM (bX t27 BB ⟨rfl,bF rfl⟩ rfl) ?_;refine aa ⟨_,.refl _,afh ?_⟩;exact Kp (s9 (v:=.z) rfl rfl HY sX rfl t43) (s9 rfl rfl a4 c4 rfl t4) (s9 rfl rfl HZ BB rfl t27) rfl
 .have hO:∃ o:List D,qX l=o/\o.length=3/\o.all D.one=true:=by
   refine⟨_,rfl,?_⟩;unfold qX;split<;>exact⟨rfl,rfl⟩
  have nz:pG l a b=[.z,B false,I J]:=by
   unfold pG;rw[C];split
   .rename_i h0;split
    .rename_i h1;rw[if_pos h0,if_pos h1] at C;exact absurd C he
    .rfl
   .rfl
  rw[nz];obtain⟨o,ho,Nh,uJ⟩:=hO;rw[ho] at wQ;clear sM yw AZ C nz;refine AJ ?_;refine ax ?_;refine aa ⟨_,.refl _,AJ ?_⟩;refine ax ?_;refine cl wQ ?_;refine ba ?_;refine bN (fq rfl rfl rfl rfl) aM (bX t82 mU ⟨Nh,oS⟩ uJ) ?_;refine SS ?_;refine aa ⟨_,.refl _,K2 (aj ?_)⟩;refine ab ?_;refine aa (aO rfl (fun h=>aj ?_) fun h=>absurd (by simpa using h) he);refine SS ?_;refine bN (eK (d:=.z) (cs':=[_]) rfl rfl rfl rfl rfl) ak (bX V.h V.h (by first|(simp;done)|exact⟨rfl,bF rfl⟩|(simp;omega)) rfl) ?_;refine bN (eK (d:=.s (.bool _)) (cs':=[_]) rfl rfl rfl rfl rfl) ak (bX V.h V.h (by first|(simp;done)|exact⟨rfl,bF rfl⟩|(simp;omega)) rfl) ?_;refine SS ?_;exact aa (bH (bE (Kp (s9 (v:=.z) rfl rfl HY sX rfl t43) (s9 rfl rfl a4 c4 rfl t4) (s9 rfl rfl HZ BB rfl t27) rfl)))
end Go.Proofs.Tryz.K
end
namespace Go.Abs
section
variable{P:Program}{m:Mem}{rds:List Nat}
theorem adh{i off:Nat}{cs es es':List D}{e:TypeId}(hm:m i=some (.cells cs e))(hi:i∈rds)(M:cs.drop off=es)(hlen:es'.length=es.length)(hs:∀ (k:Nat) (d d':D),es[k]? =some d->es'[k]? =some d'->Sn P rds m d d'):Sn P rds m (.rp i off) (.pt es'):=fun F β w v hl hv=>by
 subst M;obtain⟨p,hp,hr,U⟩:=hl i hi _ hm;cases hv with
 |qe _ _ _ h1 _=>rw[h1] at hp;cases hp;cases hr
 |rp _ _ b o len room sz h1=>
  rw[h1] at hp;cases hp
  have af:b<w.heap.size:=by
   cases hr with
   |cells _ _ _ _ _ _ c hb _ _ _ _=>exact(Array.getElem?_eq_some_iff.1 hb).1
  obtain⟨J,U3,bA,_⟩:=hr.rd;obtain⟨us,X,u2⟩:=J.drop off;refine .pt _ b (o+off) us (U b rfl) (fun k q hq=>by cases hq) af (by rw[hlen];exact X) fun k d hk=>?_;have C:k<(cs.drop off).length:=by rw[<- hlen];exact(bC.1 hk).1
  exact hs k (cs.drop off)[k] d (a7 C) hk _ _ _ _ hl (u2 k _ (a7 C))
theorem aea{f:Fn}{fs cs cs':List D}(hf:∀ a∈fs,Tr a)(hlen:cs'.length=cs.length)(hs:∀ (k:Nat) (d d':D),cs[k]? =some d->cs'[k]? =some d'->Sn P rds m d d'):Sn P rds m (.fn f fs cs) (.fn f fs cs'):=fun F β w v hl hv=>by
 cases hv with
 |fn _ _ _ us vs M J h1 h2=>
  refine .fn f fs cs' us vs M (by rw[hlen];exact J) (fun k d v hd hv=>(hf d (bu hd)).Aw (h1 k d v hd hv)) fun k d v hd hv=>?_;have C:k<cs.length:=by rw[<- hlen];exact(bC.1 hd).1
  exact hs k cs[k] d (a7 C) hd _ _ _ _ hl (h2 k _ v (a7 C) hv)
end
section
variable{P:Program}{m:Mem}{nx:Nat}
def less(rds:List Nat)(m:Mem):Mem:=fun i=>if i∈rds then none else m i
theorem YN{f:FuncId}{rds:List Nat}{args U:List D}{r:D}(fA:jj P rds m args U)(hc:aB P f U r):
 fG P f args m nx (fun d m' ai=>d=r/\m'=less rds m/\ai=nx):=by
 refine⟨hc.1,fun F β w vs hm hβ hR=>?_⟩
 let F':Nat->Prop:=fun b=>F b\/∃ i p,i∉rds/\β i=some p/\p.bG=some b
 let β':aC:=fun i=>if i∈rds then(β i).map fun _=>.dead else β i
 have M:∀ b,¬ F b->β.free b->¬ F' b:=fun b h1 h2 h=>by
  rcases h with h|⟨i,p,_,hi,hb⟩
  .exact h1 h
  .exact h2 i p hi hb
 have My:FB F' w:=⟨fun b hb=>by
  rcases hb with hb|⟨i,p,_,hi,hb⟩
  .exact hm.fb.lt b hb
  .exact hm.lt i p b hi hb,fun t ht=>⟨.inl (hm.fb.me t ht).1,(hm.fb.me t ht).2⟩⟩
 have gen:∀ {d:D} {v:Value},R F β w d v->R F' β w d v:=fun h=>h.gen (bd _) (fun b _ h1 h2=>⟨ki.refl w b,h2,M b h1 h2⟩) fun _ _ _ h=>.inl h
 obtain⟨h1,h2⟩:=CQ (P:=P) (F:=F') (β:=β) (w:=w) (fun i hi r hr=>by
  obtain⟨p,hp,ao⟩:=hm.row i r hr;refine⟨p,hp,ao.gen (bd _) (fun b _ h1 h2=>⟨ki.refl w b,h2,M b h1 h2⟩) (fun _ _ _ h=>.inl h) (fun _ _=>rfl),fun b hb h=>?_⟩;rcases h with h|⟨j,q,hj,hq,yI⟩
  .exact hm.nf i p b hp hb h
  .exact hj (hm.inj i j p q b hp hq hb yI▸hi)) fA
 refine(hc.2.2 F' w vs My ⟨by rw[hR.1,h1],fun k d v hd hv=>?_⟩).mono ?_
 .have af:k<args.length:=by rw[h1];exact(bC.1 hd).1
  exact h2 k args[k] d (by simp[af]) hd v (gen (hR.2 k args[k] v (by simp[af]) hv))
 rintro e w' ⟨v,he,hv,hk⟩
 have C:∀ {i p b},β' i=some p->p.bG=some b->i∉rds/\β i=some p:=fun {i p b} hp hb=>by
  by_cases hi:i∈rds
  .have:β' i=(β i).map fun _=>.dead:=if_pos hi;rw[this] at hp;obtain⟨q,_,rfl⟩:=cO.1 hp;cases hb
  .exact⟨hi,(if_neg hi:β' i=β i)▸hp⟩
 have hs:Step β w β' w':=by
  refine⟨hk.1,fun b hb hf=>⟨hk.2.1 b hb,fun i p hp J=>?_⟩,fun i p hp=>?_,hk.2.2⟩
  .exact hf i p (C hp J).2 J
  .by_cases hi:i∈rds
   .right;have:β' i=(β i).map fun _=>.dead:=if_pos hi;rw[this,hp];rfl
   .left;exact(if_neg hi:β' i=β i).trans hp
 refine⟨v,r,less rds m,nx,β',he,⟨rfl,rfl,rfl⟩,?_,fun i hi=>?_,?_,hs,bd _,fun i _ hi=>?_⟩
 .refine⟨fun i r hi=>?_,fun i j p q b hp hq e X=>?_,fun i p b hp e=>?_,fun i p b hp e=>?_,(hm.kept hk).fb⟩
  .unfold less at hi;split at hi
   .cases hi
   .rename_i hn;obtain⟨p,hp,ao⟩:=hm.row i r hi;exact⟨p,(if_neg hn:β' i=β i).trans hp,ao.step hs fun b hb=>hk.2.1 b (hm.lt i p b hp hb)⟩
  .exact hm.inj i j p q b (C hp e).2 (C hq X).2 e X
  .exact Nat.lt_of_lt_of_le (hm.lt i p b (C hp e).2 e) hk.1
  .exact hm.nf i p b (C hp e).2 e
 .have h0:=hβ i hi;show(if i∈rds then(β i).map fun _=>Pl.dead else β i)=none;rw[h0];split<;>rfl
 .refine hv.gen (bd _) (fun b _ h1 _=>⟨ki.refl w' b,fun i p hp J=>?_,fun h=>h1 (.inl h)⟩) fun i p _ h=>by cases h
  exact h1 (.inr ⟨i,p,(C hp J).1,(C hp J).2,J⟩)
 .show(if i∈rds then(β i).map fun _=>Pl.dead else β i)=none;rw[hi];split<;>rfl
theorem ko.ac9{f:FuncId}{args es:List D}{n:Nat}{t:TypeId}(h:ko P f args es n t)(ht:Tr (.sl (es.take (n*P.cellsOf t)) n)):aB P f args (.sl (es.take (n*P.cellsOf t)) n):=by
 refine⟨h.1,h.2.1,fun F w vs C hR=>(h.2.2 F w vs C hR).mono ?_⟩;rintro e w' ⟨v,p,h1,h2,U,h4,h5,J⟩;refine⟨v,h1,?_,J⟩
 have b0:∀ {i q},up gz 0 (some p) i=some q->i=0/\q=p:=fun {i q} hi=>by
  by_cases e:i=0
  .subst e;rw[ah] at hi;cases hi;exact⟨rfl,rfl⟩
  .rw[aA _ _ e] at hi;cases hi
 have hm:aK P F (up (fun _=>none) 0 (some (.cells es t))) (up gz 0 (some p)) w':=by
  refine⟨fun i r hi=>?_,fun i j q q' b hq X _ _=>(b0 hq).1.trans (b0 X).1.symm,fun i q b hq e=>?_,fun i q b hq e=>?_,C.next (fun b hb=>Nat.lt_of_lt_of_le (C.lt b hb) J.1) (fun _ h=>h) fun _ _ hb=>J.2.1 _ (C.lt _ hb)⟩
  .by_cases e:i=0
   .subst e;rw[ah] at hi;cases hi;refine⟨p,ah _ _ _,h4.gen (bd _) (fun b _ M _=>⟨ki.refl w' b,fun i q hq hb=>?_,fun C=>M (.inl C)⟩) (fun i q _ hq=>by cases hq) fun _ _=>rfl⟩;exact M (.inr ((b0 hq).2▸hb))
   .rw[aA _ _ e] at hi;cases hi
  .rw[(b0 hq).2] at e;exact(U b e).2
  .rw[(b0 hq).2] at e;intro hb;have:=C.lt b hb;have:=(U b e).1;omega
 have:=PV hm (ah _ _ _) rfl h5;have e:cF 0 es (P.cellsOf t) (.rs 0 0 n)=.sl (es.take (n*P.cellsOf t)) n:=by simp[cF]
 rw[e] at this;exact ht.Aw this
theorem YO{f:FuncId}{args:List D}{r r':D}(hc:aB P f args r)(h:Wk r r'):aB P f args r':=
 ⟨hc.1,hc.2.1,fun F w vs C J=>(hc.2.2 F w vs C J).mono fun _ w' ⟨v,he,hv,hk⟩=>⟨v,he,h F gz w' v hv,hk⟩⟩
end
end Go.Abs
section
open Go Go.Abs Go.Proofs Go.Argus
namespace Go.Proofs.Tryz.K
set_option maxHeartbeats 1000000
theorem LV{l:List ByteArray}{s:ByteArray}:aB prog 122 [bU l,S s] (I (mI (fun x=>s.toList==x.toList) l)):=by
 refine mq Tt.he (.cons (iV _) (.cons (.s _) .nil)) fun C=>?_;have hlen:=(C (bU l) oS).sl.1;unfold maxLen at hlen;refine bl Tt (.cons (iV _) (.cons (.s _) .nil)) (Tr.s _) ?_;rw[afi];refine ws ?_;refine SS ?_;refine aa (aF (az ?_));refine ax ?_
 refine aa (cn (fun t=>aJ prog t ⟨ay [],fun _=>none,0⟩/\∀ (j:Nat) y,l[j]? =some y->(s.toList==y.toList)=false) (cy (α:=Nat) (fun k=>⟨ay [(0,bU l),(1,S s),(7,I l.length),(8,I k)],fun _=>none,0⟩)
  (fun k=>k<=l.length/\∀ j y,j<k->l[j]? =some y->(s.toList==y.toList)=false) (fun k=>l.length - k) 0 (au eH) ⟨oG,fun j y hj=>by omega⟩ ?_) ?_)
 .rintro k ⟨hk,hinv⟩;refine SS ?_;refine aa ⟨_,rfl,fun h=>?_,fun h=>?_⟩
  .have af:k<l.length:=by simpa using h
   have hx:l[k]? =some l[k]:=by simp[af]
   generalize l[k]=x at hx;refine ws ?_;refine ab ?_;refine er ?_;refine cw ?_;refine aa (aO rfl (fun hp=>?_) fun hp=>?_)
   .refine ws ?_;refine ab ?_;refine aa (bH (cm (bE (aI rfl ?_))));rw[td hx hp hinv];rfl
   .refine cT ?_;refine ab ?_;refine aa (bi (k+1) (au eH) ⟨oG,fun j y hj hy=>?_⟩ oG);by_cases e:j=k
    .subst e;rw[hx] at hy;cases hy;exact hp
    .exact hinv j y oG hy
  .have M:¬ k<l.length:=by simpa using h
   exact⟨.forget _ _ _ _ fun _=>.inr rfl,fun j y hy=>hinv j y (by have:=(bC.1 hy).1;omega) hy⟩
 .rintro s ⟨hg,J⟩;refine⟨_,hg,aj ?_⟩;refine SS ?_;refine aa (aI rfl ?_);rw[w8 J];rfl
theorem H0{l:List ByteArray}{s:ByteArray}:aB prog 88 [bU l,S s] (B (l.any fun x=>s.toList==x.toList)):=by
 have LV:=LV (l:=l) (s:=s);refine bl aiQ (.cons (iV _) (.cons (.s _) .nil)) (Tr.s _) ?_;rw[aiR];refine ws ?_;refine SS ?_;refine er ?_;refine ab ?_;refine cl LV ?_;refine ab ?_;refine aa (aI rfl ?_);rw[<- zP];rfl
theorem k87{f:ap}{s:ByteArray}:aB prog 87 [.agg (aX f),.pt [S s]] (B (f.name.toList==s.toList)):=by
 refine bl aiS (.cons (.agg (na f)) (.cons (.pt (.cons (.s _) .nil)) .nil)) (Tr.s _) ?_;rw[aiT];refine az ?_;refine ab ?_;refine aa (bJ (dD [(0,aX f,48)] eH (l:=[(1,.pt [S s]),(2,.pt (aX f))]) eH) (aj ?_));refine bx ?_;exact aa (aI rfl rfl)
theorem H2{l:List ap}{g:FuncId}{fs cs:List D}{p:ap->Bool}(hl:l.length<=1000000)(ht:Tr (.fn (.func g) fs cs))(hg:∀ x∈l,aB prog g (fs++[.agg (aX x)]++cs) (B (p x))):aB prog 86 [bj l,.fn (.func g) fs cs] (B (l.any p)):=by
 have yv:=yv hl ht hg;refine bl aiU (.cons (js _) (.cons ht .nil)) (Tr.s _) ?_;rw[aiV];refine ws ?_;refine SS ?_;refine er ?_;refine ab ?_;refine cl yv ?_;refine ab ?_;refine aa (aI rfl ?_);rw[<- zP];rfl
def jf(l:List ap)(keep:List ByteArray):Int:=if(dc l).2≠0 then(dc l).2 else if keep.length>60 then 2 else if keep.all (fun s=>l.any fun f=>f.name.toList==s.toList) then 0 else 5
def nt(l:List ap)(keep:List ByteArray):List D:=if jf l keep=0 then fP l (bB l) ((aZ l).map al) (al (eD l)) else [.z,.z,.z,.z]
theorem aaZ(l:List ap)(keep:List ByteArray):∀ a∈nt l keep,Tr a:=by
 unfold nt;split
 .exact EC _ _ _ _
 .exact .cons .z (.cons .z (.cons .z (.cons .z .nil)))
theorem rH{l:List ap}{keep:List ByteArray}(hl:l.length<=1000):aB prog 55 [bj l,bU keep] (.aL [.agg (nt l keep),I (jf l keep)]):=by
 have gM:=gM hl;refine bl aiW (.cons (js l) (.cons (iV _) .nil)) (.aL (.cons (.agg (aaZ l keep)) (.cons (.s _) .nil))) ?_;rw[aiX];unfold nt;refine ws ?_;refine ab ?_;refine er ?_;by_cases he:(dc l).2=0
 .have X:=tN he;rw[zT he,he] at gM;have M:jf l keep=if keep.length>60 then 2 else if keep.all (fun s=>l.any fun f=>f.name.toList==s.toList) then 0 else 5:=by unfold jf;rw[if_neg (fun h=>h he)]
  rw[M];clear M;refine SS ?_;refine cl gM ?_;refine cw ?_;refine aa (aF (aj ?_));refine ab ?_;refine aa (cQ rfl (fun h=>oH) fun h=>cx (aF (aj ?_)));refine ax ?_;refine aa (cQ rfl (fun h=>?_) fun h=>?_)
  .have h:keep.length>60:=by
    have:(60:Int)<keep.length:=by simpa using h
    omega
   rw[if_pos h];refine aF (aj ?_);refine ax ?_;exact aa (xB (bH (bE (mX (gN rfl rfl Bw wM rfl t86 (bd 4)) rfl rfl))))
  .have wJ:¬ keep.length>60:=by
    have:¬ (60:Int)<keep.length:=by simpa using h
    omega
   rw[if_neg wJ];obtain⟨q,hq⟩:∃ q:ByteArray->Bool,q=fun s=>l.any fun f=>f.name.toList==s.toList:=⟨_,rfl⟩
   rw[<- hq];refine cx (aF (az ?_));refine ax ?_;obtain⟨ml,J⟩:∃ ml,ml=[(0,Row.cells [D.z,D.z,D.z,D.z] 86),(1,Row.cells (cR l (bB l) ((aZ l).map al)) 82)]:=⟨_,rfl⟩
   refine aa (cn (fun s=>(∃ nx,1<nx/\aJ prog s ⟨ay [(4,.rp 0 0),(6,.rp 1 0)],br ml,nx⟩)/\keep.all q=true) (cy (α:=Nat×Nat)
    (fun s=>⟨ay [(0,bj l),(4,.rp 0 0),(6,.rp 1 0),(23,bU keep),(24,I keep.length),(25,I s.1)],br ml,s.2⟩)
    (fun s=>1<s.2/\s.1<=keep.length/\(keep.take s.1).all q=true) (fun s=>keep.length - s.1) (0,2)
    (bZ eH (by subst J;exact eH)) ⟨oM,Nat.zero_le _,rfl⟩ ?_) ?_)
   .rintro⟨n,nx⟩ ⟨U,hn,C⟩;dsimp only at U hn C ⊢;refine SS ?_;refine aa ⟨_,rfl,fun h=>?_,fun h=>?_⟩
    .have fO:n<keep.length:=by simpa using h
     clear h;obtain⟨x,hx⟩:∃ x,keep[n]? =some x:=⟨_,a7 fO⟩
     refine az ?_;refine ax ?_;refine bN (eK (d:=.s (.string _)) (cs':=[_]) rfl rfl (ah _ _ _) rfl rfl) aM (bX t9 c9 ⟨rfl,bF rfl⟩ rfl) ?_
     have h0:∀ {u v},c8 nx [S x] (prog.cellsOf 9) (up (up (br ml) nx u) nx v) 0=br ml 0:=fun {u v}=>by
      rw[J];exact gQ ((ag oG (ag oG rfl))) oG (.cells fun d hd=>by simp at hd;subst hd;exact .z)
     have h1:∀ {u v},c8 nx [S x] (prog.cellsOf 9) (up (up (br ml) nx u) nx v) 1=br ml 1:=fun {u v}=>by
      rw[J];exact gQ ((ag oG (ag oG rfl))) oG (.cells fun d hd=>by simp[cR] at hd;rcases hd with rfl|rfl|rfl<;>exact .sl _ _)
     refine aa ⟨⟨ay [(0,bj l),(4,.rp 0 0),(6,.rp 1 0),(9,.pt [S x]),(23,bU keep),(24,I keep.length),(25,I n)],br ml,nx+1⟩,?_,?_⟩
     .refine(lz (i:=nx) (cs:=[S x]) (e:=9) (ah _ _ _) (l:=[(0,bj l),(4,.rp 0 0),(6,.rp 1 0),(9,.pt [S x]),(23,bU keep),(24,I keep.length),(25,I n)]) ⟨rfl,gk oG,gk oG,lU,rfl,rfl,rfl,trivial⟩).trans (bZ eH ?_);subst J;exact⟨h0,h1,trivial⟩
     have H2:=H2 (l:=l) (g:=87) (fs:=[]) (cs:=[.pt [S x]]) (p:=fun f=>f.name.toList==x.toList) oG (.fn oS (.cons (.pt (.cons (.s _) .nil)) .nil)) fun f _=>k87;have hqx:q x=l.any fun f=>f.name.toList==x.toList:=by rw[hq]
     rw[<- hqx] at H2;refine ws ?_;refine ab ?_;refine cl H2 ?_;refine SS ?_;refine aa (aO rfl (fun h=>aj ?_) fun h=>cT ?_)
     .have hqf:q x=false:=by simpa using h
      have hka:¬ keep.all q=true:=fun e=>by
       have:=bQ.1 e x (bu hx);rw[hqf] at this;cases this
      rw[if_neg hka];subst J;refine ax ?_;exact aa (bH (cm (bE (mX (gN rfl rfl Bw wM rfl t86 (bd 4)) rfl rfl))))
     .have hqt:q x=true:=by simpa using h
      show aq _ _ _ _ _ _ _ _ _;refine ab ?_;exact aa (bi (n+1,nx+1) (au eH) ⟨oM,oM,s7 hx C hqt⟩ oM)
    .have bq:¬ n<keep.length:=by simpa using h
     rw[dt oG] at C;exact⟨⟨nx,U,au eH⟩,C⟩
   .rintro s ⟨⟨nx,U,dQ⟩,C⟩;rw[if_pos C];subst J;refine⟨_,dQ,aj ?_⟩
    have zj:=zj (l:=l) (sh:=bB l) (ca:=aZ l) (by simp[bB]) oS X.wg X.len fun x hx=>by
     obtain⟨f,hf,rfl⟩:=List.mem_map.1 hx;have:=zA f.blocks;have:=(vf (Go.Argus.checked (X.sW f hf))).kN;simp;omega
    refine SS ?_;refine cl zj ?_;refine ab ?_;exact aa (bH (mX (gN rfl rfl Bw wM rfl t86 (bd 4)) rfl rfl))
 .have M:jf l keep=(dc l).2:=by unfold jf;rw[if_pos he]
  rw[M,if_neg he]
  have hO:∃ o:List D,qX l=o/\o.length=3/\o.all D.one=true:=by
   refine⟨_,rfl,?_⟩;unfold qX;split<;>exact⟨rfl,rfl⟩
  obtain⟨o,ho,Nh,uJ⟩:=hO;rw[ho] at gM;clear M;refine SS ?_;refine cl gM ?_;refine ba ?_;refine bN (fq rfl rfl rfl rfl) aM (bX t82 mU ⟨Nh,oS⟩ uJ) ?_;refine SS ?_;refine aa (aF (aj ?_));refine ab ?_;refine aa (cQ rfl (fun h=>aF (aj ?_)) fun h=>absurd (by simpa using h) he);refine ba ?_;exact aa (xB (bH (bE (mX (gN rfl rfl Bw wM rfl t86 (bd 4)) rfl rfl))))
theorem k90{l:List Bool}{i:Nat}{b:Bool}(hi:l[i]? =some b):aB prog 90 [I i,.pt [.sl (l.map B) l.length]] (B b):=by
 have ht:Tr (.sl (l.map B) l.length):=.sl (.map fun _=>.s _);refine bl aiY (.cons (.s _) (.cons (.pt (.cons ht .nil)) .nil)) (Tr.s _) ?_;rw[aiZ];refine ws ?_;refine SS ?_;refine er ?_;refine bx ?_;exact aa (aI rfl rfl)
end Go.Proofs.Tryz.K
end
namespace Go.Argus
def bz(clq:List Nat)(t:Nat):List Nat:=(range clq.length).filter fun i=>clq.getD i 0==t
def sI(kp:Nat->Bool)(x:List Nat):Nat:=(x.find? kp).getD (x.headD 0)
def jT(clq:List Nat)(kp:Nat->Bool)(i:Nat):Bool:=kp i||(!(bz clq (clq.getD i 0)).any kp&&(bz clq (clq.getD i 0)).headD 0==i)
def tX(clq:List Nat)(kp:Nat->Bool)(i:Nat):Nat:=sI kp (bz clq (clq.getD i 0))
section
variable{clq:List Nat}{kp:Nat->Bool}{t:Nat}
theorem kP{i:Nat}:i∈bz clq t↔i<clq.length/\clq.getD i 0=t:=by unfold bz;simp
theorem abx(h:bz clq t≠[]):(bz clq t).headD 0∈bz clq t:=by
 cases hx:bz clq t with
 |nil=>exact absurd hx h
 |cons a l=>simp
theorem PO{i:Nat}(hi:clq.getD i 0=t)(h:(bz clq t).any kp=true):jT clq kp i=kp i:=by
 unfold jT;rw[hi,h];simp
theorem O1{i:Nat}(hi:i∈bz clq t)(h:(bz clq t).any kp=false):jT clq kp i=((bz clq t).headD 0==i):=by
 unfold jT;rw[(kP.1 hi).2,h]
 have:kp i=false:=by
  rw[Bool.eq_false_iff]
  exact fun e=>by
   have:=List.any_eq_true.2 ⟨i,hi,e⟩;rw[h] at this;cases this
 rw[this];simp
theorem Zv(C:bz clq t≠[]):(bz clq t).find? (jT clq kp)=some (sI kp (bz clq t)):=by
 cases ha:(bz clq t).any kp with
 |true=>
  have e:(bz clq t).find? (jT clq kp)=(bz clq t).find? kp:=by
   have:∀ l:List Nat,(∀ i∈l,jT clq kp i=kp i)->l.find? (jT clq kp)=l.find? kp:=fun l h=>by
    induction l with
    |nil=>rfl
    |cons a l ih=>
     rw[List.find?_cons,List.find?_cons,h a oS,ih fun i hi=>h i (List.mem_cons_of_mem _ hi)]
   exact this _ fun i hi=>PO (kP.1 hi).2 ha
  rw[e];obtain⟨i,hi,hk⟩:=List.any_eq_true.1 ha;cases hf:(bz clq t).find? kp with
  |none=>exact absurd hk (by have:=List.find?_eq_none.1 hf i hi;simpa using this)
  |some y=>unfold sI;rw[hf];rfl
 |false=>
  have hn:(bz clq t).find? kp=none:=List.find?_eq_none.2 fun i hi hk=>by
   have:=List.any_eq_true.2 ⟨i,hi,hk⟩;rw[ha] at this;cases this
  have hl:∀ i∈bz clq t,jT clq kp i=((bz clq t).headD 0==i):=fun i hi=>O1 hi ha;unfold sI;rw[hn];cases hx:bz clq t with
  |nil=>exact absurd hx C
  |cons a l=>
   rw[hx] at hl;have:=hl a oS;rw[List.find?_cons,this];simp
def gG(clq:List Nat)(kp:Nat->Bool)(t j:Nat)(i:Nat):Bool:=if clq.getD i 0<t then jT clq kp i else((bz clq t).take j).contains i&&kp i
theorem NY{l:List Nat}{j y k:Nat}(hy:l[j]? =some y):(l.take (j+1)).contains k=((l.take j).contains k||k==y):=by
 rw[List.take_add_one,hy,Option.toList_some,List.contains_eq_mem,List.contains_eq_mem,Bool.eq_iff_iff];simp
theorem BT{i:Nat}:gG clq kp t 0 i=(decide (clq.getD i 0<t)&&jT clq kp i):=by
 unfold gG;by_cases h:clq.getD i 0<t
 .rw[if_pos h,decide_eq_true h];simp
 .rw[if_neg h,decide_eq_false h];simp
theorem OQ{j y k:Nat}(hy:(bz clq t)[j]? =some y):gG clq kp t (j+1) k=if k=y then kp y else gG clq kp t j k:=by
 have hm:=kP.1 (bu hy);unfold gG;rw[NY hy];by_cases hk:k=y
 .subst hk;rw[if_neg oG,if_pos rfl];simp
 .have hb:(k==y)=false:=by simpa using hk
  rw[if_neg hk,hb,Bool.or_false]
theorem Zt{k:Nat}(hk:k<clq.length)(h:(bz clq t).any kp=true):gG clq kp t (bz clq t).length k=gG clq kp (t+1) 0 k:=by
 rw[BT];unfold gG;rw[List.take_length];by_cases h1:clq.getD k 0<t
 .rw[if_pos h1,decide_eq_true oG];simp
 .rw[if_neg h1];by_cases h2:clq.getD k 0=t
  .rw[decide_eq_true oG,PO h2 h,List.contains_eq_mem,decide_eq_true (kP.2 ⟨hk,h2⟩)]
  .rw[decide_eq_false oG,List.contains_eq_mem,decide_eq_false fun e=>h2 (kP.1 e).2];simp
theorem X5{k:Nat}(hk:k<clq.length)(h:(bz clq t).any kp=false):(if k=(bz clq t).headD 0/\bz clq t≠[] then true else gG clq kp t (bz clq t).length k)=gG clq kp (t+1) 0 k:=by
 rw[BT];unfold gG;rw[List.take_length];by_cases h2:clq.getD k 0=t
 .have hm:k∈bz clq t:=kP.2 ⟨hk,h2⟩;have C:bz clq t≠[]:=fun e=>by rw[e] at hm;cases hm
  have J:kp k=false:=by
   rw[Bool.eq_false_iff]
   exact fun e=>by
    have:=List.any_eq_true.2 ⟨k,hm,e⟩;rw[h] at this;cases this
  rw[decide_eq_true oG,O1 hm h,if_neg (show ¬ clq.getD k 0<t by omega),J];by_cases he:k=(bz clq t).headD 0
  .rw[if_pos ⟨he,C⟩, <- he];simp
  .rw[if_neg fun e=>he e.1];have:((bz clq t).headD 0==k)=false:=by simpa using fun e:_=_=>he e.symm
   rw[this];simp
 .have hn:¬ (k=(bz clq t).headD 0/\bz clq t≠[]):=fun⟨e1,e2⟩=>by
   have:=abx e2;rw[<- e1] at this;exact h2 (kP.1 this).2
  rw[if_neg hn];by_cases h1:clq.getD k 0<t
  .rw[if_pos h1,decide_eq_true oG];simp
  .rw[if_neg h1,decide_eq_false oG,List.contains_eq_mem,decide_eq_false fun e=>h2 (kP.1 e).2];simp
def jU(clq:List Nat)(kp:Nat->Bool)(C:Nat->ByteArray)(t j:Nat)(i:Nat):ByteArray:=if clq.getD i 0<t then C (tX clq kp i) else if((bz clq t).take j).contains i then C (sI kp (bz clq t)) else⟨#[]⟩
theorem X6{C:Nat->ByteArray}{j y k:Nat}(hy:(bz clq t)[j]? =some y):jU clq kp C t (j+1) k=if k=y then C (sI kp (bz clq t)) else jU clq kp C t j k:=by
 have hm:=kP.1 (bu hy);unfold jU;rw[NY hy];by_cases hk:k=y
 .subst hk;rw[if_neg oG,if_pos rfl];simp
 .have hb:(k==y)=false:=by simpa using hk
  rw[if_neg hk,hb,Bool.or_false]
theorem Zw{C:Nat->ByteArray}{k:Nat}(hk:k<clq.length):jU clq kp C t (bz clq t).length k=jU clq kp C (t+1) 0 k:=by
 unfold jU;rw[List.take_length];by_cases h1:clq.getD k 0<t
 .rw[if_pos h1,if_pos oG]
 .rw[if_neg h1];by_cases h2:clq.getD k 0=t
  .rw[if_pos (show clq.getD k 0<t+1 by omega),List.contains_eq_mem,decide_eq_true (kP.2 ⟨hk,h2⟩)];unfold tX;rw[h2];rfl
  .rw[if_neg (show ¬ clq.getD k 0<t+1 by omega),List.contains_eq_mem,decide_eq_false fun e=>h2 (kP.1 e).2];simp
theorem I1{α:Type}{n i:Nat}{f:Nat->α}{v:α}:((range n).map f).set i v=(range n).map fun k=>if k=i then v else f k:=by
 refine List.ext_getElem? fun k=>?_;rw[List.getElem?_set];by_cases hk:k<n
 .by_cases e:i=k
  .subst e;simp[hk]
  .have C:¬ k=i:=fun h=>e h.symm;simp[hk,e,C]
 .by_cases e:i=k
  .subst e;simp[hk]
  .simp[hk,e]
end
end Go.Argus
section
open Go Go.Abs Go.Proofs Go.Argus
namespace Go.Proofs.Tryz.K
theorem Ei{κ:Type}[DecidableEq κ]{l:List ap}{sh:List ByteArray}{ca:List (List Int)}{ks:List κ}{keep:List ByteArray}(hl:l.length<=1000)(qi:ks.length=l.length)(Nf:keep.length<=60):
 aB prog 56 [.agg (fP l sh ca (al (aT ks))),bU keep] (.aL [.sl ((range l.length).map fun i=>B (jT (aT ks) (s4 l keep) i)) l.length,.sl ((range l.length).map fun i=>S (ic l (tX (aT ks) (s4 l keep) i))) l.length]):=by
 have Bx:=Bx (l:=l) (sh:=sh) (ca:=ca) (ks:=ks) oG;have iP:=iP (l:=l) (sh:=sh) (ca:=ca);refine bl ai0 (.cons (.agg (EC _ _ _ _)) (.cons (iV _) .nil)) (.aL (.cons (.sl (.map fun _=>.s _)) (.cons (.sl (.map fun _=>.s _)) .nil))) ?_;rw[ai1];refine az ?_;refine ax ?_;refine aa (bJ (dD [(0,fP l sh ca (al (aT ks)),86)] eH (l:=[(1,bU keep),(2,.pt (fP l sh ca (al (aT ks))))]) eH) (aj ?_));refine ab ?_;refine cl iP ?_;refine eI (B7 rfl rfl V.h V.h) ak ⟨oG,rfl,oG,by rw[b4];omega,V.h⟩ ?_;refine SS ?_;refine bN (eK (d:=.rs _ _ _) (cs':=[_]) rfl rfl rfl rfl rfl) ak (bX V.h V.h (by first|(simp;done)|exact⟨rfl,bF rfl⟩|(simp;omega)) rfl) ?_;refine er ?_;refine ab ?_;refine cl iP ?_;refine eI (B7 rfl rfl V.h V.h) ak ⟨oG,rfl,oG,by rw[b9];omega,V.h⟩ ?_;refine SS ?_;refine aa (aF (az ?_));refine SS ?_;refine cl Bx ?_;refine ab ?_;obtain⟨clq,M⟩:∃ clq,clq=aT ks:=⟨_,rfl⟩
 obtain⟨K,hK⟩:∃ K,K=(aV ks).length:=⟨_,rfl⟩
 obtain⟨kp,Uo⟩:∃ kp,kp=s4 l keep:=⟨_,rfl⟩
 obtain⟨n,hn⟩:∃ n,n=l.length:=⟨_,rfl⟩
 have KV:clq.length=n:=by rw[M,hn];simpa using qi
 have hK1:K<=1000:=by have:=tA ks;omega
 have aE:∀ t,t<K->bz clq t≠[]:=fun t ht e=>by
  obtain⟨i,hi⟩:=Pp (ks:=ks) (show t<(aV ks).length by omega);have:i∈bz clq t:=kP.2 ⟨by rw[M];exact(bC.1 hi).1,by rw[M];rw[dC,hi];rfl⟩;rw[e] at this;cases this
 have Up:∀ i,i<n->clq.getD i 0<K:=fun i hi=>by rw[M,hK];exact Cq (dZ (by rw[<- KV,M] at hi;exact hi))
 rw[<- M, <- hK, <- Uo, <- hn]
 have Uq:∀ (d:D) (n:Nat),dx n [d]=(range n).map fun _=>d:=fun d n=>by
  induction n with
  |zero=>rfl
  |succ n ih=>rw[List.range_succ,List.map_append, <- ih];simp[dx,List.replicate_succ']
 refine aa (cn (fun s=>aJ prog s ⟨ay [(6,.rp 2 0),(7,.rs 3 0 n)],mK n (gG clq kp K 0) (jU clq kp (ic l) K 0),4⟩) (cy (α:=Nat)
  (fun t=>⟨ay [(1,bU keep),(2,.pt (fP l sh ca (al clq))),(6,.rp 2 0),(7,.rs 3 0 n),(25,bM (eu clq K)),(26,I (eu clq K).length),(27,I t)],mK n (gG clq kp t 0) (jU clq kp (ic l) t 0),4⟩)
  (fun t=>t<=K) (fun t=>K - t) 0
  (bZ ⟨rfl,rfl,rfl,by rw[hn];rfl,rfl,rfl,rfl,trivial⟩ ⟨?_,by rw[hn];rfl,?_,trivial⟩) (Nat.zero_le _) ?_) ?_)
 .show some (Row.cells (dx n [B false]) 4)=_;rw[Uq];have:((range n).map fun _=>B false)=(range n).map fun i=>B (gG clq kp 0 0 i):=List.map_congr_left fun i _=>by rw[BT,decide_eq_false (Nat.not_lt_zero _)];rfl
  rw[this]
 .show some (Row.cells (dx n [S "".toUTF8]) 9)=_;rw[Uq];have:((range n).map fun _=>S "".toUTF8)=(range n).map fun i=>S (jU clq kp (ic l) 0 0 i):=List.map_congr_left fun i _=>by unfold jU;rw[if_neg (Nat.not_lt_zero _),List.take_zero];rfl
  rw[this]
 .intro t ht;have hOl:(eu clq K).length=K:=Cb _ _;refine SS ?_;refine aa ⟨_,rfl,fun h=>?_,fun h=>?_⟩
  .have Vs:t<K:=by
    have:(t:Int)<(eu clq K).length:=by simpa using h
    omega
   clear h;have hx:(eu clq K)[t]? =some (al (bz clq t)):=uZ Vs;have Hm:=aE t Vs
   have sL:(bz clq t).length<=1000:=by
    have:(bz clq t).length<=(range clq.length).length:=List.length_filter_le _ _;simp at this;omega
   have amG:(al (bz clq t)).length<=1000:=by simpa using sL
   refine ws ?_;refine ax ?_;refine er ?_;refine SS ?_;refine aa (aF (az ?_));refine ax ?_
   refine aa (cn (fun s=>aJ prog s ⟨ay [(1,bU keep),(2,.pt (fP l sh ca (al clq))),(6,.rp 2 0),(7,.rs 3 0 n),(9,aP (al (bz clq t))),(10,B ((bz clq t).any kp)),(25,bM (eu clq K)),(26,I (eu clq K).length),(27,I t)],mK n (gG clq kp t (bz clq t).length) (jU clq kp (ic l) t 0),4⟩) (cy (α:=Nat)
    (fun j=>⟨ay [(1,bU keep),(2,.pt (fP l sh ca (al clq))),(6,.rp 2 0),(7,.rs 3 0 n),(9,aP (al (bz clq t))),(10,B (((bz clq t).take j).any kp)),(25,bM (eu clq K)),(26,I (eu clq K).length),(27,I t),(31,aP (al (bz clq t))),(32,I (al (bz clq t)).length),(33,I j)],mK n (gG clq kp t j) (jU clq kp (ic l) t 0),4⟩)
    (fun j=>j<=(bz clq t).length) (fun j=>(bz clq t).length - j) 0
    (au eH) (Nat.zero_le _) ?_) ?_)
   .intro j hj;refine SS ?_;refine aa ⟨_,rfl,fun h=>?_,fun h=>?_⟩
    .have dj:j<(bz clq t).length:=by simpa using h
     clear h;obtain⟨y,hy⟩:∃ y,(bz clq t)[j]? =some y:=⟨_,a7 dj⟩
     have X:y<n:=by have:=(kP.1 (bu hy)).1;omega
     have Vt:(al (bz clq t))[j]? =some ((y:Nat):Int):=by rw[List.getElem?_map,hy];rfl
     obtain⟨f,hf⟩:∃ f,l[y]? =some f:=⟨_,a7 oG⟩
     have yS:kp y=keep.any fun x=>f.name.toList==x.toList:=by
      rw[Uo];unfold s4;rw[dC,List.getElem?_map,hf];rfl
     have H0:=H0 (l:=keep) (s:=f.name);rw[<- yS] at H0;refine ws ?_;refine ax ?_;refine aa (eA Zs ?_);unfold mK;refine dJ ?_;refine ab ?_;refine cl H0 ?_;refine aw (mu rfl rfl rfl Ej c4) aM ⟨DC,oG⟩ ?_;refine bN (eK (d:=B (kp y)) rfl rfl rfl rfl I1) aM (bX t4 c4 ⟨rfl,by simp;omega⟩ rfl) ?_;refine cz cJ (fF ?_)
     have C:((range n).map fun k=>if k=y then B (kp y) else B (gG clq kp t j k))=(range n).map fun k=>B (gG clq kp t (j+1) k):=List.map_congr_left fun k _=>by
      rw[OQ hy];split<;>rfl
     rw[C];have kd:=X4 (fun k=>B (gG clq kp t (j+1) k)) X;rw[OQ (k:=y) hy,if_pos rfl] at kd;obtain⟨cs,kd⟩:=kd
     have Hn:((bz clq t).take (j+1)).any kp=(((bz clq t).take j).any kp||kp y):=by
      rw[List.take_add_one,hy];simp
     cases hs:((bz clq t).take j).any kp with
     |true=>
      rw[hs] at Hn;refine ab ?_;refine iY rfl rfl fun _ _=>?_;refine iY rfl rfl fun _ _=>?_;refine iY rfl rfl fun _ _=>?_;refine iY rfl rfl fun _ _=>?_;refine ab ?_;refine aa ?_;refine ab ?_;exact aa (bi (j+1) (E9 ⟨rfl,rfl,rfl,rfl,rfl,by rw[Hn];rfl,rfl,rfl,rfl,rfl,rfl,rfl,trivial⟩ rfl rfl rfl) oG oG)
     |false=>
      rw[hs] at Hn;refine ba ?_;refine bt rfl rfl (mu rfl rfl rfl Ej c4) (fun hc=>⟨(by repeat' (first|exact trivial|exact hc|exact rfl|refine And.intro ?_ ?_)),⟨DC,oG⟩⟩) ?_;refine bt rfl rfl (j5 rfl rfl kd a4) (fun hc=>⟨(by repeat' (first|exact trivial|exact hc|exact rfl|refine And.intro ?_ ?_)),(j6 t4 c4 kd)⟩) ?_;refine ab ?_;refine aa ?_;refine ab ?_;exact aa (bi (j+1) (E9 ⟨rfl,rfl,rfl,rfl,rfl,by rw[Hn];rfl,rfl,rfl,rfl,rfl,rfl,rfl,trivial⟩ rfl rfl rfl) oG oG)
    .have U:j=(bz clq t).length:=by
      have:¬ (j:Int)<(al (bz clq t)).length:=by simpa using h
      simp at this;omega
     subst U;rw[List.take_length];exact au eH
   .intro s hg;refine⟨_,hg,aF (aj ?_)⟩;refine ab ?_;obtain⟨J,H4⟩:∃ J,(bz clq t)[0]? =some J:=⟨_,a7 (List.length_pos_iff.2 Hm)⟩
    have ai2:(bz clq t).headD 0=J:=by
     cases Vu:bz clq t with
     |nil=>exact absurd Vu Hm
     |cons a l2=>rw[Vu] at H4;simpa using H4
    have amH:J<n:=by have:=(kP.1 (bu H4)).1;omega
    have Vt:(al (bz clq t))[0]? =some ((J:Nat):Int):=by rw[List.getElem?_map,H4];rfl
    refine aa (iz (fun s=>aJ prog s ⟨ay [(1,bU keep),(2,.pt (fP l sh ca (al clq))),(6,.rp 2 0),(7,.rs 3 0 n),(9,aP (al (bz clq t))),(25,bM (eu clq K)),(26,I (eu clq K).length),(27,I t)],mK n (gG clq kp (t+1) 0) (jU clq kp (ic l) t 0),4⟩) ?_ ?_)
    .cases hs:(bz clq t).any kp with
     |true=>
      refine aO rfl (fun h=>oH) fun h=>cI ?_;rw[Qy (f':=gG clq kp (t+1) 0) (fun k hk=>Zt oG hs) fun _ _=>rfl];exact au eH
     |false=>
      refine aO rfl (fun h=>?_) fun h=>oH;unfold mK;refine ab3 Zu ?_;refine ba ?_;refine aw (mu rfl rfl rfl Ej c4) aM ⟨DC,oG⟩ ?_;refine bN (eK (d:=B true) rfl rfl rfl rfl I1) aM (bX t4 c4 ⟨rfl,by simp;omega⟩ rfl) ?_
      have C:((range n).map fun k=>if k=J then B true else B (gG clq kp t (bz clq t).length k))=(range n).map fun k=>B (gG clq kp (t+1) 0 k):=List.map_congr_left fun k hk=>by
       rw[<- X5 (by have:=List.mem_range.1 hk;omega) hs,ai2];by_cases e:k=J
       .rw[if_pos e,if_pos ⟨e,Hm⟩]
       .rw[if_neg e,if_neg fun h=>e h.1]
      rw[C];exact cz cJ (E9 eH rfl rfl rfl)
    .intro s hg;obtain⟨fl,C⟩:∃ fl,fl=gG clq kp (t+1) 0:=⟨_,rfl⟩
     have Tu:(bz clq t).find? fl=some (sI kp (bz clq t)):=by
      rw[<- Zv Hm]
      have:∀ l:List Nat,(∀ i∈l,fl i=jT clq kp i)->l.find? fl=l.find? (jT clq kp):=fun l h=>by
       induction l with
       |nil=>rfl
       |cons a l ih=>rw[List.find?_cons,List.find?_cons,h a oS,ih fun i hi=>h i (List.mem_cons_of_mem _ hi)]
      exact this _ fun i hi=>by rw[C,BT,(kP.1 hi).2,decide_eq_true (Nat.lt_succ_self t),Bool.true_and]
     obtain⟨p,hp⟩:∃ p:Int->Bool,p=fun i=>fl i.toNat:=⟨_,rfl⟩
     have adt:(al (bz clq t)).find? p=some ((sI kp (bz clq t):Nat):Int):=by
      have e:(p ∘ fun(n:Nat)=>(n:Int))=fl:=by funext i;rw[hp];rfl
      rw[List.find?_map,e,Tu];rfl
     obtain⟨ix,hix,LW⟩:=Zr adt;have Ur:∀ d∈(range n).map (fun i=>B (fl i)),Tr d:=.map fun _=>.s _
     have za:=za (l:=al (bz clq t)) (g:=90) (fs:=[]) (cs:=[.pt [.sl ((range n).map fun i=>B (fl i)) n]]) (p:=p) (.fn oS (.cons (.pt (.cons (.sl Ur) .nil)) .nil)) fun i hi=>by
      obtain⟨y,hy,rfl⟩:=List.mem_map.1 hi;have X:y<n:=by have:=(kP.1 hy).1;omega
      have:=k90 (l:=(range n).map fl) (i:=y) (b:=fl y) (by simp[X]);rw[List.map_map,List.length_map,List.length_range] at this;have e:p ((y:Nat):Int)=fl y:=by rw[hp];rfl
      rw[e];exact this
     rw[LW] at za
     have Na:sI kp (bz clq t)<n:=by
      have:=List.mem_of_find?_eq_some Tu;have:=(kP.1 this).1;omega
     obtain⟨rp,Bk⟩:∃ rp,rp=sI kp (bz clq t):=⟨_,rfl⟩
     rw[<- Bk] at hix Na;rw[<- C] at hg;refine⟨_,hg,aj ?_⟩
     have fA:jj prog [1,2] (mK n fl (jU clq kp (ic l) t 0)) [aP (al (bz clq t)),.fn (.func 90) [] [.rp 2 0]] [aP (al (bz clq t)),.fn (.func 90) [] [.pt [.sl ((range n).map fun i=>B (fl i)) n]]]:=
      ⟨cH (dn _),aea oS rfl fun k d d' hd fa=>(by
       match k with
       |0=>
        cases hd;cases fa
        exact adh (i:=2) (off:=0) (cs:=[.rs 1 0 n]) (e:=92) rfl oS rfl rfl fun k d d' hd fa=>(by
         match k with
         |0=>
          cases hd;cases fa;exact Az (i:=1) (cs:=(range n).map fun i=>B (fl i)) (e:=4) rfl oS (by rw[c4,List.drop_zero,dt oS]) Ur
         |k+1=>cases hd)
       |k+1=>cases hd),trivial⟩
     refine ax ?_;refine S0 za rfl fA rfl aM ?_;refine ax ?_;refine aa (az ?_);refine ax ?_
     refine aa (cy (α:=Nat)
      (fun j=>⟨ay [(1,bU keep),(2,.pt (fP l sh ca (al clq))),(6,.rp 2 0),(7,.rs 3 0 n),(13,I rp),(25,bM (eu clq K)),(26,I (eu clq K).length),(27,I t),(70,aP (al (bz clq t))),(71,I (al (bz clq t)).length),(72,I j)],mK n fl (jU clq kp (ic l) t j),4⟩)
      (fun j=>j<=(bz clq t).length) (fun j=>(bz clq t).length - j) 0
      (au eH) (Nat.zero_le _) ?_)
     intro j hj;refine SS ?_;refine aa ⟨_,rfl,fun h=>?_,fun h=>?_⟩
     .have dj:j<(bz clq t).length:=by simpa using h
      clear h;obtain⟨y,hy⟩:∃ y,(bz clq t)[j]? =some y:=⟨_,a7 dj⟩
      have X:y<n:=by have:=(kP.1 (bu hy)).1;omega
      have Vt:(al (bz clq t))[j]? =some ((y:Nat):Int):=by rw[List.getElem?_map,hy];rfl
      obtain⟨f,hf⟩:∃ f,l[rp]? =some f:=⟨_,a7 oG⟩
      have wS:ic l rp=f.name:=by
       unfold ic;rw[dC,List.getElem?_map,hf];rfl
      refine ws ?_;refine ax ?_;refine aa (fF ?_);unfold mK;refine bw ?_;refine aw (mu rfl rfl rfl rE c9) aM ⟨uh,oG⟩ ?_;refine bN (eK (d:=S f.name) rfl rfl rfl rfl I1) aM (bX t9 c9 ⟨rfl,by simp;omega⟩ rfl) ?_
      have fO:((range n).map fun k=>if k=y then S f.name else S (jU clq kp (ic l) t j k))=(range n).map fun k=>S (jU clq kp (ic l) t (j+1) k):=List.map_congr_left fun k _=>by
       rw[X6 hy, <- Bk,wS];split<;>rfl
      rw[fO];refine aa ?_;refine ab ?_;exact aa (bi (j+1) (E9 eH rfl rfl rfl) oG oG)
     .have U:j=(bz clq t).length:=by
       have:¬ (j:Int)<(al (bz clq t)).length:=by simpa using h
       simp at this;omega
      subst U;show aq _ _ _ _ _ _ _ _ _;refine ab ?_;rw[Qy (f':=gG clq kp (t+1) 0) (g':=jU clq kp (ic l) (t+1) 0) (fun _ _=>by rw[C]) fun k hk=>Zw oG];exact aa (bi (t+1) (au eH) oG oG)
  .have U:t=K:=by
    have:¬ (t:Int)<(eu clq K).length:=by simpa using h
    omega
   subst U;exact au eH
 .intro s hg;have e1:((range n).map fun i=>B (gG clq kp K 0 i))=(range n).map fun i=>B (jT clq kp i):=List.map_congr_left fun i hi=>by rw[BT,decide_eq_true (Up i (List.mem_range.1 hi))];rfl
  have e2:((range n).map fun i=>S (jU clq kp (ic l) K 0 i))=(range n).map fun i=>S (ic l (tX clq kp i)):=List.map_congr_left fun i hi=>by unfold jU;rw[if_pos (Up i (List.mem_range.1 hi))]
  unfold mK at hg;rw[e1,e2] at hg;refine⟨_,hg,az ?_⟩;refine ba ?_
  refine aa ⟨_,(lz (i:=1) (e:=4) rfl (l:=[(4,.sl ((range n).map fun i=>B (jT clq kp i)) n),(5,.rs 3 0 n)]) ⟨jM (by rw[c4];simp),zR oC,trivial⟩).trans
   (lz (i:=3) (cs:=(range n).map fun i=>S (ic l (tX clq kp i))) (e:=9) (gQ rfl oC (.cells fun d hd=>by obtain⟨x,_,rfl⟩:=List.mem_map.1 hd;exact .s _)) (l:=[(4,.sl ((range n).map fun i=>B (jT clq kp i)) n),(5,.sl ((range n).map fun i=>S (ic l (tX clq kp i))) n)]) ⟨rfl,jM (by rw[c9];simp),trivial⟩),bH (gl rfl rfl rfl)⟩
end Go.Proofs.Tryz.K
namespace Go.Argus
def my(l:List ap)(keep:List ByteArray):List ByteArray:=(range l.length).map fun i=>ic l (tX (eD l) (s4 l keep) i)
def od(l:List ap)(keep:List ByteArray):List Bool:=(range l.length).map fun i=>jT (eD l) (s4 l keep) i
def A4(k v:ByteArray):List (ByteArray×ByteArray)->List (ByteArray×ByteArray)
 |[]=>[(k,v)]
 |e::es=>if e.1=k then(k,v)::es else e::A4 k v es
def DD(es:List (ByteArray×ByteArray))(k:ByteArray):ByteArray:=match es.find? fun e=>decide (e.1=k) with
 |some e=>e.2
 |none=>"".toUTF8
def gZ(es:List (ByteArray×ByteArray)):List (Value×D):=es.map fun e=>(.string e.1,S e.2)
def nV(l:List ap)(C:Nat->ByteArray)(t:Nat):List (ByteArray×ByteArray):=(range t).foldl (fun es i=>A4 (ic l i) (C i) es) []
theorem aa0(l:List ap)(C:Nat->ByteArray)(t:Nat):nV l C (t+1)=A4 (ic l t) (C t) (nV l C t):=by
 unfold nV;rw[List.range_succ,List.foldl_append];rfl
def nj(l:List ap)(lf:Nat->Bool)(to:ByteArray->ByteArray)(t:Nat):List ap:=(range t).filterMap fun i=>if lf i then(l[i]?).map fun f=>ie f f.name to else none
def CN(l:List ap)(keep:List ByteArray):List ap:=nj l (jT (eD l) (s4 l keep)) (DD (nV l (fun i=>ic l (tX (eD l) (s4 l keep) i)) l.length)) l.length
theorem Og{l:List ap}{lf:Nat->Bool}{to:ByteArray->ByteArray}{t:Nat}{f:ap}(h:l[t]? =some f):nj l lf to (t+1)=nj l lf to t++(if lf t then [ie f f.name to] else []):=by
 unfold nj;rw[List.range_succ,List.filterMap_append];congr 1;simp only[List.filterMap_cons,List.filterMap_nil,h,Option.map_some];cases lf t<;>rfl
theorem RC(a b:ByteArray):kH (.string a) (.string b)=decide (a=b):=by
 by_cases h:a=b
 .subst h;rw[decide_eq_true rfl];show(a.data.toList==a.data.toList)=true;simp
 .rw[decide_eq_false h];exact beq_eq_false_iff_ne.2 fun e=>h (xE e)
theorem Zx(k:Value)(d:D)(e:Value×D)(es:List (Value×D)):fX k d (e::es)=if kH e.1 k then(k,d)::es else e::fX k d es:=by
 unfold fX;obtain⟨a,b⟩:=e;simp only[cM];cases kH a k with
 |true=>simp
 |false=>
  simp only[Bool.false_eq_true,if_false];cases cM k es with
  |none=>rfl
  |some x=>rfl
theorem Tv(k v:ByteArray):∀ es:List (ByteArray×ByteArray),fX (.string k) (S v) (gZ es)=gZ (A4 k v es)
 |[]=>rfl
 |e::es=>by
  have e1:gZ (e::es)=(Value.string e.1,S e.2)::gZ es:=rfl;have e2:A4 k v (e::es)=if e.1=k then(k,v)::es else e::A4 k v es:=rfl
  rw[e1,Zx,RC,Tv k v es,e2];by_cases h:e.1=k
  .rw[decide_eq_true h,if_pos rfl,if_pos h];rfl
  .rw[decide_eq_false h,if_neg h];rfl
theorem Sj(k:ByteArray):∀ es:List (ByteArray×ByteArray),(cM (.string k) (gZ es)).map (·.2)=(es.find? fun e=>decide (e.1=k)).map fun e=>S e.2
 |[]=>rfl
 |e::es=>by
  have e1:gZ (e::es)=(Value.string e.1,S e.2)::gZ es:=rfl;have ih:=Sj k es;rw[e1,List.find?_cons];simp only[cM];rw[RC];by_cases h:e.1=k
  .rw[decide_eq_true h];rfl
  .rw[decide_eq_false h];simp only[Bool.false_eq_true,if_false,Option.map_map];rw[<- ih];rfl
def vw(c:List (List Int)):Bool:=c.all (fun x=>decide (x.length<=15))&&decide (c.length<=15)
theorem Vz:∀ a b c d e:Bool,(if(if(if(if a=true then true else b)=true then true else c)=true then true else d)=true then true else e)=(a||(b||(c||(d||e)))):=by decide
def DE(f:ap):Bool:=decide (12<(f.blocks.length:Int))||(decide (20<(f.aU.length:Int))||(decide (10<(f.cg.length:Int))||(decide (8<(f.signals.length:Int))||decide (130<(f.name.size:Int)))))
def DF(b:bI):Bool:=decide (8<(b.ins.length:Int))||(decide (8<(b.fin.aR.length:Int))||(decide (8<(b.fin.args.length:Int))||(decide (130<(b.fin.name.size:Int))||decide (8<(b.fin.ins.args.length:Int)))))
def A5(y:cU):Bool:=decide (14<(y.args.length:Int))
def DG(w:iE):Bool:=decide (20<(w.name.size:Int))
def A6(s:ByteArray):Bool:=decide (20<(s.size:Int))
def yz(b:bI):Bool:= !DF b&&(b.ins.all (fun y=> !A5 y)&&b.fin.aR.all (fun w=> !DG w))
def wk(f:ap):Bool:= !DE f&&(f.signals.all (fun s=> !A6 s)&&f.blocks.all yz)
def uo(l:List ap):Bool:=l.all wk&&(decide ((l.length:Int)<=10)||(decide (60<(l.length:Int))&&decide ((l.length:Int)<=63)))
theorem acm{l:List ap}(h:uo l=true):l.length<=63:=by
 unfold uo at h;simp only[bc,Bool.or_eq_true,decide_eq_true_eq] at h;omega
theorem Cr{α:Type}{p:α->Bool}{l:List α}{x:α}(hx:x∈l)(h:p x=false):l.all p=false:=by
 rw[Bool.eq_false_iff];intro ht;rw[bQ.1 ht x hx] at h;cases h
theorem acn{a b:ByteArray}(h:(!(a.toList==b.toList))=false):a=b:=by
 have h:a.toList=b.toList:=by simpa using h
 rw[te,te] at h;exact xE h
def Sk:Argus.End:=⟨3, -1,0,0,0,⟨#[]⟩,xF,[],[], -1⟩
def Kq(c:ByteArray):Argus.End:=⟨6, -1,0,1,0,c,xF,[],[], -1⟩
def iB(C c:ByteArray):ap:=⟨C,false,0,0,[],[],[],[⟨[],Kq c⟩,⟨[],Sk⟩]⟩
def Dh(C:ByteArray):ap:=⟨C,false,0,0,[],[],[],[⟨[],Sk⟩]⟩
abbrev sA:ByteArray:=⟨#[97]⟩
abbrev sB:ByteArray:=⟨#[98]⟩
abbrev sC:ByteArray:=⟨#[99]⟩
abbrev sD:ByteArray:=⟨#[100]⟩
abbrev sE:ByteArray:=⟨#[101]⟩
def dG:List ap:=[iB sA sB,iB sB sA,iB sC sD,Dh sD,iB sE sC]
theorem pA:dc dG=(0,0):=kr
theorem zZ:aZ dG=[[1],[0],[3],[],[2]]:=kr
theorem ZA(C c:ByteArray):yd (iB C c)=iB kM kM:=rfl
theorem aa6{κ:Type}[DecidableEq κ]{s t:κ}(h:s≠t):aT [s,s,s,t,s]=[0,0,0,1,0]:=by
 have h':t≠s:=fun e=>h e.symm
 have e:aV [s,s,s,t,s]=[s,t]:=by
  simp[aV,lE,h,h']
 unfold aT;rw[e];simp[List.idxOf_cons,beq_eq_false_iff_ne.2 h,beq_eq_false_iff_ne.2 h']
theorem z1:cX dG=[0,0,0,1,0]:=by
 have h0:=tN (l:=dG) (by rw[pA]);have hp:∀ C c,pF (iB C c)=lS (iB kM kM):=fun C c=>congrArg lS (ZA C c)
 have J:lS (iB kM kM)≠pF (Dh sD):=fun e=>by
  have:=Oh (f:=iB sA sB) (g:=Dh sD) (h0.sW _ (by simp[dG])) (h0.sW _ (by simp[dG])) ((hp _ _).trans e);revert this;decide
 unfold cX
 have:bB dG=[lS (iB kM kM),lS (iB kM kM),lS (iB kM kM),pF (Dh sD),lS (iB kM kM)]:=by
  unfold bB dG;simp only[List.map_cons,List.map_nil,hp]
 rw[this];exact aa6 J
theorem IF:eD dG=[0,0,1,2,3]:=by
 unfold eD;rw[z1,zZ]
 kernel_rfl
theorem aa7:tm dG=bM [[0,1],[2],[3],[4]]:=by
 unfold tm mL;rw[pA,IF]
 kernel_rfl
theorem aa8:oF dG [[0],[1],[2],[3],[4]]=true:=by
 unfold oF;rw[pA,z1,zZ]
 kernel_rfl
theorem aa9:oF dG [[0,1,2],[3],[4]]=false:=by
 unfold oF;rw[pA,z1,zZ]
 kernel_rfl
theorem aa':pG dG 0 4=[aP [0,0],B true,I 0]:=by
 unfold pG;rw[pA,z1,zZ]
 kernel_rfl
theorem aba:pG dG 0 1=[.z,B false,I 0]:=by
 unfold pG;rw[pA,z1,zZ]
 kernel_rfl
theorem abb:pG dG 3 0=[aP [],B true,I 0]:=by
 unfold pG;rw[pA,z1,zZ]
 kernel_rfl
def tZ:List ap:=[iB sA sA,iB sC sD,Dh sD,iB sE sC]
theorem X9:CN dG [sE]=tZ:=by
 unfold CN;rw[IF]
 kernel_rfl
theorem X':my dG [sB]=[sB,sB,sC,sD,sE]:=by
 unfold my;rw[IF]
 kernel_rfl
theorem GV(l:List ap):(cX l).length=(aZ l).length:=by simp[cX,bB,aZ]
theorem Kr(l:List ap):(aZ l).length=l.length:=by simp[aZ]
theorem Ps(l:List ap):(eD l).length=l.length:=by
 unfold eD;rw[Ya (GV l),Kr]
theorem abc{l:List ap}{i:Nat}(h:i<l.length):(eD l).getD i 0<(aV (eD l)).length:=by
 obtain⟨ks,h1,h2⟩:=ER (GV l);have e:eD l=aT ks:=h2;have hi:i<(aT ks).length:=by rw[B9,h1,Kr];exact h
 rw[e,xc];exact Cq (dZ hi)
theorem RD{l:List ap}{i:Nat}(h:i<l.length):atR (mL l) (i:Int)=((eD l).getD i 0:Nat):=adw (by rw[Ps];exact h) (abc h)
theorem adx{l:List ap}(h:(dc l).2=0):oF l (mL l)=true:=by
 unfold oF;rw[if_pos h];exact ady (GV l) (tN h).wg
theorem ZB{l:List ap}{c:List (List Int)}(h:oF l c=true){x:List Int}(hx:x∈c){a b:Int}(ha:a∈x)(hb:b∈x):atR (mL l) a=atR (mL l) b:=by
 unfold oF at h;split at h
 .rename_i h0;obtain⟨h1,h2,J,M,C⟩:=Yb (GV l) (tN h0).wg h hx ha hb;rw[Kr] at h2 M;obtain⟨p,rfl⟩:=jH h1;obtain⟨q,rfl⟩:=jH J;rw[RD oG,RD oG];have C:(eD l).getD p 0=(eD l).getD q 0:=C;rw[C]
 .cases h
theorem Qz{l:List ap}(hl:l.length<=63):(mL l).length<=100000/\∀ x∈mL l,x.length<=100000:=by
 have hs:=Ps l;refine⟨?_,fun x hx=>?_⟩
 .unfold mL;rw[Cb];have:=tA (eD l);omega
 .unfold mL eu B4 at hx;simp only[List.map_map,List.mem_map] at hx;obtain⟨k,_,rfl⟩:=hx;simp only[Function.comp_apply,al,List.length_map];have:=List.length_filter_le (fun i=>(eD l).getD i 0==k) (range (eD l).length);simp at this ⊢;omega
theorem ZC{c:List (List Int)}(h:vw c=true):c.length<=15/\∀ x∈c,x.length<=15:=by
 unfold vw at h;simp only[bc,decide_eq_true_eq,bQ] at h;exact⟨h.2,h.1⟩
end Go.Argus
namespace Go.Proofs.Tryz.K
theorem RB{l:List ap}{keep:List ByteArray}(h:jf l keep=0):(dc l).2=0/\keep.length<=60:=by
 unfold jf at h;split at h
 .rename_i h1;exact absurd h h1
 .rename_i h1;split at h
  .cases h
  .rename_i h2;exact⟨Decidable.not_not.1 h1,oG⟩
theorem Us{l:List ap}{keep:List ByteArray}(hl:l.length<=1000)(h:jf l keep=0):aB prog 56 [.agg (nt l keep),bU keep] (.aL [.sl ((od l keep).map B) l.length,.sl ((my l keep).map S) l.length]):=by
 obtain⟨h0,M⟩:=RB h;have J:(cX l).length=(aZ l).length:=by simp[cX,bB]
 obtain⟨ks,hk,hs⟩:=ER J;have C:eD l=aT ks:=hs;have:=Ei (l:=l) (sh:=bB l) (ca:=(aZ l).map al) (ks:=ks) (keep:=keep) hl (by simp at hk;omega) M;unfold nt od my;rw[if_pos h,List.map_map,List.map_map,C];exact this
theorem Ni{l:List ap}{keep:List ByteArray}(hl:l.length<=1000):aB prog 24 [bj l,bU keep] (.aL [if jf l keep=0 then bU (my l keep) else .z,I (jf l keep)]):=by
 have rH:=rH (keep:=keep) hl
 have bg:Tr (if jf l keep=0 then bU (my l keep) else .z):=by
  split
  .exact iV _
  .exact .z
 refine bl ai3 (.cons (js l) (.cons (iV _) .nil)) (.aL (.cons bg (.cons (.s _) .nil))) ?_;rw[ai4]
 have U:(nt l keep).length=4/\(nt l keep).all D.one=true:=by
  unfold nt;split<;>exact⟨rfl,rfl⟩
 have M:=Us (keep:=keep) hl;obtain⟨J,Ek⟩:∃ J,J=nt l keep:=⟨_,rfl⟩
 obtain⟨C,X⟩:∃ C,C=my l keep:=⟨_,rfl⟩
 have fO:C.length=l.length:=by rw[X];simp[my]
 rw[<- Ek] at rH U M;rw[<- X] at M ⊢;generalize jf l keep=err at*
 refine ws ?_;refine ab ?_;refine er ?_
 obtain⟨x1,x2,x3,x4,rfl⟩:∃ a b c d,J=[a,b,c,d]:=by
  match J,U.1 with
  |[a,b,c,d],_=>exact⟨a,b,c,d,rfl⟩
 refine ab ?_;refine cl rH ?_;refine ba ?_;refine bN (fq rfl rfl rfl rfl) aM (bX t86 wM ⟨rfl,oS⟩ U.2) ?_;refine SS ?_;refine aa (aF (aj ?_));refine ab ?_;refine aa (cQ rfl (fun h=>aF (aj ?_)) fun h=>cx (aj ?_))
 .have he:err≠0:=by simpa using h
  rw[if_neg he];refine ax ?_;exact aa (xB (bH (bE (gl rfl rfl rfl))))
 .have he:err=0:=by simpa using h
  have Ei:=M he;rw[if_pos he];refine ab ?_;refine cl Ei ?_;refine bx ?_;refine er ?_;refine ax ?_;have e:bU C=.sl (C.map S) l.length:=by rw[show bU C=.sl (C.map S) C.length from rfl,fO]
  rw[he,e];exact aa (bH (gl rfl rfl rfl))
theorem afj:lQ prog (lb prog 105)=S "".toUTF8:=kr
theorem afk(k:ByteArray)(es:List (ByteArray×ByteArray)):fy prog 105 false (cM (.string k) (gZ es))=S (DD es k):=by
 have h:=Sj k es;unfold DD;cases hf:es.find? fun e=>decide (e.1=k) with
 |none=>
  rw[hf] at h;cases hl:cM (.string k) (gZ es) with
  |none=>simp[fy,afj]
  |some x=>rw[hl] at h;cases h
 |some e=>
  rw[hf] at h;cases hl:cM (.string k) (gZ es) with
  |none=>rw[hl] at h;cases h
  |some x=>
   rw[hl] at h;simp only[Option.map_some,aH] at h;simp[fy,h]
theorem K3(es:List (ByteArray×ByteArray)):(gZ es).all (fun e=>cE prog 9 e.1)=true:=by
 refine bQ.2 fun e he=>?_;obtain⟨x,_,rfl⟩:=List.mem_map.1 he;exact vK _
theorem X7{X:Nat->Prop}(es:List (ByteArray×ByteArray)):lO X (.map (gZ es)):=fun i cs sz _=>by
 simp[Row.sub,gZ,sub,pb,cF]
theorem k58{s:ByteArray}{es:List (ByteArray×ByteArray)}:aB prog 58 [S s,.pt [.im (gZ es)]] (S (DD es s)):=by
 have C:Tr (.im (gZ es)):=.im fun x hx=>by obtain⟨y,_,rfl⟩:=List.mem_map.1 hx;exact .s _
 refine bl ai5 (.cons (.s _) (.cons (.pt (.cons C .nil)) .nil)) (Tr.s _) ?_;rw[ai6];refine ws ?_;refine SS ?_;refine er ?_;have J:=afk s es;have M:=K3 es;refine ab ?_;refine aw (zG rfl rfl K4 J) aM ⟨K5,vK s,K3 _⟩ ?_;refine SS ?_;exact aa (aI rfl rfl)
theorem IE:∀ l:List ap,(l.flatMap aX).length=l.length*8
 |[]=>rfl
 |x::l=>by rw[List.flatMap_cons,List.length_append,IE l,List.length_cons];show 8+_=_;omega
theorem X8{X:Nat->Prop}(f:ap):∀ d∈aX f,fI X d:=fun d hd=>by
 simp only[aX,List.mem_cons,List.not_mem_nil,or_false] at hd;rcases hd with rfl|rfl|rfl|rfl|rfl|rfl|rfl|rfl<;>first|exact .s _|exact .sl _ _
theorem Nj{l:List ap}{keep:List ByteArray}(hl:l.length<=1000):aB prog 22 [bj l,bU keep] (.aL [if jf l keep=0 then bj (CN l keep) else .z,I (jf l keep)]):=by
 have rH:=rH (keep:=keep) hl
 have bg:Tr (if jf l keep=0 then bj (CN l keep) else .z):=by
  split
  .exact js _
  .exact .z
 refine bl ai7 (.cons (js l) (.cons (iV _) .nil)) (.aL (.cons bg (.cons (.s _) .nil))) ?_;rw[ai8];refine ws ?_;refine ab ?_;refine er ?_;by_cases he:jf l keep=0
 .have BC:=Us (keep:=keep) hl he;obtain⟨h0,_⟩:=RB he;have hL:=tN h0;rw[if_pos he,he];rw[he] at rH;have Ek:nt l keep=fP l (bB l) ((aZ l).map al) (al (eD l)):=if_pos he;rw[Ek] at rH BC;have Ei:=BC;obtain⟨ze,Ly⟩:∃ ze,ze=fP l (bB l) ((aZ l).map al) (al (eD l)):=⟨_,rfl⟩
  refine ab ?_;refine cl rH ?_;refine cw ?_;refine aa (aF (aj ?_));refine ab ?_;refine aa (cQ rfl (fun h=>oH) fun h=>cx (az ?_));refine ab ?_;refine cl Ei ?_;refine bx ?_;refine aa (bJ (dD [(0,fP l (bB l) ((aZ l).map al) (al (eD l)),86)] eH (l:=[(6,.pt (fP l (bB l) ((aZ l).map al) (al (eD l)))),(8,.sl ((od l keep).map B) l.length),(9,.sl ((my l keep).map S) l.length)]) eH) (aj ?_));refine ab ?_;refine bN (eK (d:=.mp _) (cs':=[_]) rfl rfl rfl rfl rfl) ak (bX V.h V.h (by first|(simp;done)|exact⟨rfl,bF rfl⟩|(simp;omega)) rfl) ?_;refine aa (aF (az ?_));refine bx ?_;obtain⟨C,wS⟩:∃ C:Nat->ByteArray,C=fun i=>ic l (tX (eD l) (s4 l keep) i):=⟨_,rfl⟩
  obtain⟨cD,hcD⟩:∃ cD,cD=[(6,D.pt (fP l (bB l) ((aZ l).map al) (al (eD l)))),(8,D.sl ((od l keep).map B) l.length),(9,D.sl ((my l keep).map S) l.length)]:=⟨_,rfl⟩
  refine aa (cn (fun s=>∃ nx,3<=nx/\aJ prog s ⟨ay [(6,D.pt (fP l (bB l) ((aZ l).map al) (al (eD l)))),(8,D.sl ((od l keep).map B) l.length),(10,.rp 2 0)],br [(1,.map (gZ (nV l C l.length))),(2,.cells [.mp 1] 105)],nx⟩) (cy (α:=Nat×Nat)
   (fun s=>⟨ay [(6,D.pt (fP l (bB l) ((aZ l).map al) (al (eD l)))),(8,D.sl ((od l keep).map B) l.length),(9,D.sl ((my l keep).map S) l.length),(10,.rp 2 0),(34,bj l),(35,I l.length),(36,I s.1)],br [(1,.map (gZ (nV l C s.1))),(2,.cells [.mp 1] 105)],s.2⟩)
   (fun s=>s.1<=l.length/\3<=s.2) (fun s=>l.length - s.1) (0,3)
   (bZ eH eH) ⟨Nat.zero_le _,oM⟩ ?_) ?_)
  .rintro⟨t,nx⟩ ⟨ht,cv⟩;dsimp only at ht cv ⊢;refine SS ?_;refine aa ⟨_,rfl,fun h=>?_,fun h=>?_⟩
   .have zr:t<l.length:=by simpa using h
    clear h;obtain⟨f,hf⟩:∃ f,l[t]? =some f:=⟨_,a7 zr⟩
    have hnt:(my l keep)[t]? =some (C t):=by rw[wS];unfold my;simp[zr]
    have hft:ic l t=f.name:=by unfold ic;rw[dC,List.getElem?_map,hf];rfl
    refine az ?_;refine bx ?_;refine bN (fq (cs':=aX f) rfl rfl (ah _ _ _) rfl) aM (bX t48 oE oS rfl) ?_;obtain⟨ml,U⟩:∃ ml,ml=[(1,Row.map (gZ (nV l C t))),(2,Row.cells [D.mp 1] 105)]:=⟨_,rfl⟩
    rw[<- U]
    have h1:∀ {u v},c8 nx (aX f) (prog.cellsOf 48) (up (up (br ml) nx u) nx v) 1=br ml 1:=fun {u v}=>by
     rw[U];exact gQ (ag oG (ag oG rfl)) oG (X7 _)
    have h2:∀ {u v},c8 nx (aX f) (prog.cellsOf 48) (up (up (br ml) nx u) nx v) 2=br ml 2:=fun {u v}=>by
     rw[U];exact gQ (ag oG (ag oG rfl)) oG (fun i cs sz _=>rfl)
    refine aa ⟨⟨ay [(6,D.pt (fP l (bB l) ((aZ l).map al) (al (eD l)))),(8,D.sl ((od l keep).map B) l.length),(9,D.sl ((my l keep).map S) l.length),(10,.rp 2 0),(11,I t),(12,.pt (aX f)),(34,bj l),(35,I l.length),(36,I t)],br ml,nx+1⟩,?_,?_⟩
    .refine(lz (i:=nx) (cs:=aX f) (e:=48) (ah _ _ _) (l:=[(6,D.pt (fP l (bB l) ((aZ l).map al) (al (eD l)))),(8,D.sl ((od l keep).map B) l.length),(9,D.sl ((my l keep).map S) l.length),(10,.rp 2 0),(11,I t),(12,.pt (aX f)),(34,bj l),(35,I l.length),(36,I t)]) ⟨rfl,rfl,rfl,gk oG,rfl,lU,rfl,rfl,rfl,trivial⟩).trans (bZ eH ?_);subst U;exact⟨h1,h2,trivial⟩
    clear h1 h2;subst U;refine Co aa1 ?_;refine bx ?_;refine aw (CC (n:=l.length) (i:=t) rfl rfl rE c9 hnt) aM ⟨uh,oG,oG,by simp[my];omega⟩ ?_;refine SS ?_;refine bN (xA (key:=.string f.name) (v:=S (C t)) rfl rfl rfl rfl K4) aM ⟨K5,vK _,K3 _⟩ ?_;refine cz cJ ?_;refine ab ?_;refine aa (bi (t+1,nx+1) (bZ eH ⟨?_,rfl,trivial⟩) ⟨oM,oM⟩ oM);rw[aa0,hft, <- Tv];rfl
   .have bq:t=l.length:=by
     have:¬ (t:Int)<l.length:=by simpa using h
     omega
    subst bq;exact⟨nx,cv,au eH⟩
  .rintro s ⟨nx,cv,hg⟩;refine⟨_,(hg.trans (aJ.Ch _ _ _ 1 (gZ (nV l C l.length)) rfl)).trans (fu (i:=2) (cs:=[.im (gZ (nV l C l.length))]) (e:=105) rfl (l:=[(6,D.pt (fP l (bB l) ((aZ l).map al) (al (eD l)))),(8,D.sl ((od l keep).map B) l.length),(10,.pt [.im (gZ (nV l C l.length))])]) eH),aj ?_⟩;refine SS ?_;refine aa (aF (az ?_));refine bx ?_;obtain⟨to,iR⟩:∃ to,to=DD (nV l C l.length):=⟨_,rfl⟩
   obtain⟨lf,Vw⟩:∃ lf,lf=jT (eD l) (s4 l keep):=⟨_,rfl⟩
   have hmL:CN l keep=nj l lf to l.length:=by rw[Vw,iR,wS];rfl
   rw[hmL]
   have uy:∀ t,(nj l lf to t).length<=t:=fun t=>by
    unfold nj;exact Nat.le_trans (List.length_filterMap_le _ _) oS
   refine aa (cn (fun s=>∃ x m ai H6,ai<=H6/\aJ prog s ⟨ay [(13,x)],m,H6⟩/\Grow m 0 ai x (nj l lf to l.length).length ((nj l lf to l.length).flatMap aX) 48) (cy (α:=Nat×D×Mem×Nat)
    (fun s=>⟨ay [(6,D.pt (fP l (bB l) ((aZ l).map al) (al (eD l)))),(8,D.sl ((od l keep).map B) l.length),(10,.pt [.im (gZ (nV l C l.length))]),(13,s.2.1),(51,bj l),(52,I l.length),(53,I s.1)],s.2.2.1,s.2.2.2⟩)
    (fun s=>s.1<=l.length/\Grow s.2.2.1 0 s.2.2.2 s.2.1 (nj l lf to s.1).length ((nj l lf to s.1).flatMap aX) 48) (fun s=>l.length - s.1) (0,.z,_,nx)
    (au eH) ⟨Nat.zero_le _,.inl ⟨rfl,rfl,rfl⟩⟩ ?_) ?_)
   .rintro⟨t,x,m,nx⟩ ⟨ht,J⟩;dsimp only at ht J ⊢;refine SS ?_;refine aa ⟨_,rfl,fun h=>?_,fun h=>?_⟩
    .have zr:t<l.length:=by simpa using h
     clear h;obtain⟨f,hf⟩:∃ f,l[t]? =some f:=⟨_,a7 zr⟩
     have uF:=bu hf;have af:(od l keep)[t]? =some (lf t):=by rw[Vw];unfold od;simp[zr]
     refine az ?_;refine bx ?_;refine bN (fq (cs':=aX f) rfl rfl (ah _ _ _) rfl) aM (bX t48 oE oS rfl) ?_;have dq:∀ g:List ap,lO (fun k=>k=nx) (.cells (g.flatMap aX) 48):=fun g=>BS X8 g;refine aa ⟨⟨ay [(6,D.pt (fP l (bB l) ((aZ l).map al) (al (eD l)))),(8,D.sl ((od l keep).map B) l.length),(10,.pt [.im (gZ (nV l C l.length))]),(13,x),(14,I t),(15,.pt (aX f)),(51,bj l),(52,I l.length),(53,I t)],c8 nx (aX f) (prog.cellsOf 48) (up (up m nx (some (.cells jA 48))) nx (some (.cells (aX f) 48))),nx+1⟩,?_,?_⟩
     .exact lz (i:=nx) (cs:=aX f) (e:=48) (ah _ _ _) ⟨rfl,rfl,rfl,J.Tg (bd _) nx _ _ rfl,rfl,lU,rfl,rfl,rfl,trivial⟩
     have Vx:Grow (c8 nx (aX f) (prog.cellsOf 48) (up (up m nx (some (.cells jA 48))) nx (some (.cells (aX f) 48)))) 0 (nx+1) x (nj l lf to t).length ((nj l lf to t).flatMap aX) 48:=
      (J.mono (fun j _ hj=>(aA _ _ oG).trans (aA _ _ oG)) (bd _)).nR (bd _) (Nat.le_succ _) (dq _)
     generalize c8 nx (aX f) (prog.cellsOf 48) (up (up m nx (some (.cells jA 48))) nx (some (.cells (aX f) 48)))=m2 at*
     refine ws ?_;refine ab ?_;refine aw (CC (n:=l.length) (i:=t) rfl rfl Ej c4 af) aM ⟨DC,oG,oG,by simp[od];omega⟩ ?_;refine SS ?_;refine aa (aO rfl (fun h=>fF ?_) fun h=>cT ?_)
     .have ai9:lf t=true:=by simpa using h
      have hb:=vf (Go.Argus.checked (hL.sW f uF));have ai':Tr (.fn (.func 58) [] [.pt [.im (gZ (nV l C l.length))]]):=.fn oS (.cons (.pt (.cons (.im fun x hx=>by obtain⟨y,_,rfl⟩:=List.mem_map.1 hx;exact .s _) .nil)) .nil)
      have zi:aB prog 57 [.agg (aX f),S f.name,.fn (.func 58) [] [.pt [.im (gZ (nV l C l.length))]]] (.agg (aX (ie f f.name to))):=zi (to:=to) ai' (fun X i cs sz _=>rfl) (fun b _ _=>by rw[iR];exact k58) (by have:=hb.aU;omega) (by have:=hb.cg;omega) (by have:=hb.sigs;omega) (by have:=hb.kN;omega) fun b Bt=>by
       have h1:=hb.bG b Bt;have h2:=h1.len;have h3:=h1.fin.len;have h4:=h1.fin.aR;have h5:=h1.fin.ins.len;exact⟨oG,fun x hx=>by have:=(h1.ins x hx).len;omega,oG,oG,oG⟩
      have DZ:=Og (to:=to) (lf:=lf) hf;rw[ai9,if_pos rfl] at DZ;have hTt:=uy t;generalize ie f f.name to=tf at*
      generalize nj l lf to t=T at*
      rcases Vx with⟨M,g2,rfl⟩|⟨r,M,g2,rfl,g3⟩
      .refine aw (dL (v:=.z) rfl) ak trivial ?_;refine ba ?_;refine cl zi ?_;refine SS ?_;refine eI (Ae rfl rfl V.h V.h (kO (ah _ _ _) rfl)) ak ⟨V.h,(by first|omega|exact bF rfl|(simp;done)|(simp;omega)),oC,(by unfold maxLen;first|omega|(simp;omega)),(by rw[Nk];first|omega|(simp;omega))⟩ ?_;refine SS ?_;refine aa ?_;refine ab ?_;refine aa (bi (t+1,.rs (nx+1+1) 0 1,_,nx+1+1+1) (au eH) ⟨oM,?_⟩ oM);dsimp only;have Nl:T=[]:=List.length_eq_zero_iff.1 M;rw[DZ,Nl];refine .inr ⟨nx+1+1,oG,oG,rfl,(ah _ _ _).trans ?_⟩;simp;rfl
      .have gR:∀ {a},up m2 (nx+1) a r=some (.cells (T.flatMap aX) 48):=ag oG g3;refine bx ?_;refine cl zi ?_;refine SS ?_;refine ji (iX rfl gR rfl H7 oE (kO (ah _ _ _) rfl) rfl) aM ⟨Ho,rfl,bF rfl,oC,by rw[IE];omega,by unfold maxLen;omega,by rw[Nk];omega,by simp;omega⟩ ?_;refine SS ?_;refine aa ?_;refine ab ?_;refine aa (bi (t+1,.rs (nx+1+1) 0 (T.length+1),_,nx+1+1+1) (au eH) ⟨oM,?_⟩ oM);dsimp only;rw[DZ];refine .inr ⟨nx+1+1,oG,oG,oS,(ah _ _ _).trans ?_⟩;rw[List.flatMap_append];simp;rfl
     .have aja:lf t=false:=by simpa using h
      show aq _ _ _ _ _ _ _ _ _;refine ab ?_;refine aa (bi (t+1,x,m2,nx+1) (au eH) ⟨oM,?_⟩ oM);dsimp only;rw[Og hf,aja];simpa using Vx
    .have bq:t=l.length:=by
      have:¬ (t:Int)<l.length:=by simpa using h
      omega
     subst bq;exact⟨x,m,nx,nx,bd _,au eH,J⟩
   .rintro s ⟨x,m,ai,H6,y7,hg,J⟩;generalize nj l lf to l.length=T at*
    have nN:∃ m2 gK,aJ prog s ⟨ay [(13,bj T)],m2,gK⟩:=by
     rcases J with⟨M,g2,rfl⟩|⟨r,M,g2,rfl,g3⟩
     .have Nl:T=[]:=List.length_eq_zero_iff.1 M;subst Nl;refine⟨m,H6,hg.trans (.nw _ _ _ _ _ (fun t=>?_) fun i=>.inl rfl)⟩;by_cases h:t=13
      .subst h;exact AY
      .have e:ay [(13,D.z)] t=ay [(13,bj [])] t:=by simp[ay,h]
       rw[e];exact fun _ _ _ _ h=>h
     .exact⟨_,_,hg.trans (lz (i:=r) (e:=48) g3 (l:=[(13,bj T)]) ⟨jM (by rw[oE,IE]),trivial⟩)⟩
    obtain⟨m2,gK,dQ⟩:=nN;refine⟨_,dQ,aj ?_⟩;refine ax ?_;exact aa (bH (gl rfl rfl rfl))
 .rw[if_neg he]
  have zq:(nt l keep).length=4/\(nt l keep).all D.one=true:=by
   unfold nt;split<;>exact⟨rfl,rfl⟩
  obtain⟨kD,Ek⟩:∃ kD,kD=nt l keep:=⟨_,rfl⟩
  rw[<- Ek] at rH zq;generalize jf l keep=err at*
  obtain⟨x1,x2,x3,x4,rfl⟩:∃ a b c d,kD=[a,b,c,d]:=by
   match kD,zq.1 with
   |[a,b,c,d],_=>exact⟨a,b,c,d,rfl⟩
  refine ab ?_;refine cl rH ?_;refine ba ?_;refine bN (fq rfl rfl rfl rfl) aM (bX t86 wM ⟨rfl,oS⟩ zq.2) ?_;refine SS ?_;refine aa (aF (aj ?_));refine ab ?_;refine aa (cQ rfl (fun h=>aF (aj ?_)) fun h=>absurd (by simpa using h) he);refine ax ?_;exact aa (xB (bH (bE (gl rfl rfl rfl))))
theorem H8{c:List (List Int)}:aB prog 14 [bM c] (B (vw c)):=by
 refine mq Ut.he (.cons (nX _) .nil) fun J=>?_;have hlen:=(J (bM c) oS).sl.1
 have M:∀ x∈c,x.length<=9223372036854775807:=fun x hx=>by
  have:=((J (bM c) oS).sl.2 (aP x) (List.mem_map_of_mem hx)).sl.1;unfold maxLen at this;omega
 unfold maxLen at hlen;refine bl Ut (.cons (nX _) .nil) (Tr.s _) ?_;rw[ajb];refine ws ?_;refine SS ?_;refine aa (aF (az ?_));refine SS ?_
 refine aa (cn (fun s=>(∃ nx,aJ prog s ⟨ay [(0,bM c)],fun _=>none,nx⟩)/\c.all (fun x=>decide (x.length<=15))=true) (k7 (α:=Nat) (fun k=>⟨ay [(0,bM c),(3,I k)],fun _=>none,0⟩)
  (fun k=>k<=c.length/\(c.take k).all (fun x=>decide (x.length<=15))=true) (fun k=>c.length - k) 0 (au eH) ⟨oG,rfl⟩ ?_) ?_)
 .rintro k ⟨hk,C⟩;refine ba ?_;refine aa ⟨_,rfl,fun h=>?_,fun h=>?_⟩
  .have af:k<c.length:=by simpa using h
   obtain⟨x,hx⟩:∃ x,c[k]? =some x:=⟨_,a7 af⟩
   have X:=M x (bu hx);refine ws ?_;refine cw ?_;refine aa (aO rfl (fun hp=>aj ?_) fun hp=>cT ?_)
   .have hb:vw c=false:=by
     unfold vw
     have:c.all (fun x=>decide (x.length<=15))=false:=by
      rw[Bool.eq_false_iff];intro ht;have:=bQ.1 ht x (bu hx);simp at this hp;omega
     rw[this];rfl
    rw[hb];refine SS ?_;exact aa (bH (cm (bE (aI rfl rfl))))
   .have hb:decide (x.length<=15)=true:=by
     simp at hp ⊢;omega
    show aq _ _ _ _ _ _ _ _ _;refine ax ?_;exact aa (bi (k+1) (au eH) ⟨oG,s7 hx C hb⟩ oG)
  .have U:¬ k<c.length:=by simpa using h
   rw[dt oG] at C;exact⟨⟨0,au eH⟩,C⟩
 .rintro s ⟨⟨nx,hg⟩,C⟩
  have hb:vw c=decide ((c.length:Int)<=15):=by
   unfold vw;rw[C,Bool.true_and];exact decide_eq_decide.2 oG
  rw[hb];refine⟨_,hg,aj ?_⟩;refine ba ?_;exact aa (aI rfl rfl)
theorem Xo{x:List Int}{i:Nat}{n:Int}(h:x[i]? =some n):(x.any fun i=>i==n)=true:=by
 simpa using bu h
theorem Vy{c:List (List Int)}{n:Int}:aB prog 28 [bM c,I n] (I (atR c n)):=by
 unfold atR;refine mq Uu.he (.cons (nX _) (.cons (.s _) .nil)) fun J=>?_;have hlen:=(J (bM c) oS).sl.1
 have U:∀ x∈c,x.length<=9223372036854775807:=fun x hx=>by
  have:=((J (bM c) oS).sl.2 (aP x) (List.mem_map_of_mem hx)).sl.1;unfold maxLen at this;omega
 unfold maxLen at hlen;refine bl Uu (.cons (nX _) (.cons (.s _) .nil)) (Tr.s _) ?_;rw[ajh];refine ws ?_;refine SS ?_;refine aa (aF (az ?_));refine SS ?_
 refine aa (cn (fun s=>(∃ nx,aJ prog s ⟨ay [],fun _=>none,nx⟩)/\∀ (j:Nat) y,c[j]? =some y->(y.any fun i=>i==n)=false) (k7 (α:=Nat) (fun k=>⟨ay [(0,bM c),(1,I n),(5,I k)],fun _=>none,0⟩)
  (fun k=>k<=c.length/\∀ j y,j<k->c[j]? =some y->(y.any fun i=>i==n)=false) (fun k=>c.length - k) 0 (au eH) ⟨oG,fun j y hj=>by omega⟩ ?_) ?_)
 .rintro k ⟨hk,C⟩;refine ba ?_;refine aa ⟨_,rfl,fun h=>?_,fun h=>?_⟩
  .have af:k<c.length:=by simpa using h
   obtain⟨x,hx⟩:∃ x,c[k]? =some x:=⟨_,a7 af⟩
   have sL:=U x (bu hx);refine az ?_;refine SS ?_
   refine aa (k7 (α:=Nat) (fun i=>⟨ay [(0,bM c),(1,I n),(5,I k),(6,I i)],fun _=>none,0⟩)
    (fun i=>i<=x.length/\∀ j y,j<i->x[j]? =some y->y≠n) (fun i=>x.length - i) 0 (au eH) ⟨oG,fun j y hj=>by omega⟩ ?_)
   rintro i ⟨hi,M⟩;refine iu ?_;refine aa ⟨_,rfl,fun h=>?_,fun h=>?_⟩
   .have ei:i<x.length:=by simpa using h
    obtain⟨v,hv⟩:∃ v,x[i]? =some v:=⟨_,a7 ei⟩
    refine ws ?_;refine bw ?_;refine aa (aO rfl (fun hp=>aj ?_) fun hp=>cT ?_)
    .have he:v=n:=by simpa using hp
     subst he;refine ab ?_;refine aa (bH (cm (cm (bE (aI rfl ?_)))));rw[td hx (Xo hv) C];rfl
    .have he:v≠n:=by simpa using hp
     show aq _ _ _ _ _ _ _ _ _;refine ax ?_;refine aa (bi (i+1) (au eH) ⟨oG,fun j y hj hy=>?_⟩ oG);by_cases e:j=i
     .subst e;rw[hv] at hy;cases hy;exact he
     .exact M j y oG hy
   .have X:¬ i<x.length:=by simpa using h
    show aq _ _ _ _ _ _ _ _ _;refine ax ?_;refine aa (bi (k+1) (au eH) ⟨oG,fun j y hj hy=>?_⟩ oG);by_cases e:j=k
    .subst e;rw[hx] at hy;cases hy;rw[Bool.eq_false_iff];intro hc;have:n∈x:=by simpa using hc
     obtain⟨q,hq⟩:=dw this;exact M q n (by have:=(bC.1 hq).1;omega) hq rfl
    .exact C j y oG hy
  .have X:¬ k<c.length:=by simpa using h
   exact⟨⟨0,au trivial⟩,fun j y hy=>C j y (by have:=(bC.1 hy).1;omega) hy⟩
 .rintro s ⟨⟨nx,hg⟩,C⟩;refine⟨_,hg,aj ?_⟩;refine SS ?_;refine aa (aI rfl ?_);rw[w8 C];rfl
theorem H9{l:List ap}:aB prog 13 [bj l] (B (uo l)):=by
 refine mq Uv.he (.cons (js l) .nil) fun eF=>?_;have hlen:=(eF (bj l) oS).sl.1;unfold maxLen at hlen;refine bl Uv (.cons (js l) .nil) (Tr.s _) ?_;rw[aji];refine ws ?_;refine SS ?_;refine aa (aF (az ?_));refine SS ?_
 refine aa (cn (fun s=>(∃ nx,aJ prog s ⟨ay [(0,bj l)],fun _=>none,nx⟩)/\l.all wk=true) (k7 (α:=Nat×Nat) (fun s=>⟨ay [(0,bj l),(3,I s.1)],fun _=>none,s.2⟩)
  (fun s=>s.1<=l.length/\(l.take s.1).all wk=true) (fun s=>l.length - s.1) (0,0) (au eH) ⟨Nat.zero_le _,rfl⟩ ?_) ?_)
 .rintro⟨t,nx⟩ ⟨ht,J⟩;dsimp only at ht J ⊢;refine ba ?_;refine aa ⟨_,rfl,fun h=>?_,fun h=>?_⟩
  .have zr:t<l.length:=by simpa using h
   clear h;obtain⟨f,hf⟩:∃ f,l[t]? =some f:=⟨_,a7 zr⟩
   have U:wk f=false->uo l=false:=fun hb=>by
    unfold uo;rw[Cr (bu hf) hb];rfl
   refine az ?_;refine bx ?_;refine bN (fq (cs':=aX f) rfl rfl (ah _ _ _) rfl) aM (bX t48 oE oS rfl) ?_;refine aa (bJ (fu (i:=nx) (l:=[(0,bj l),(3,I t),(4,.pt (aX f))]) (ah _ _ _) ⟨rfl,rfl,lU,trivial⟩) (aF (aj ?_)));refine bw ?_;refine bw ?_;refine iu ?_;refine bt rfl rfl (Kc rfl) (fun hc=>⟨ak,V.h⟩) ?_;refine ab ?_;have hd:DE f=_:=(Vz (decide (12<(f.blocks.length:Int))) (decide (20<(f.aU.length:Int))) (decide (10<(f.cg.length:Int))) (decide (8<(f.signals.length:Int))) (decide (130<(f.name.size:Int)))).symm;refine aa (cQ rfl (fun h=>?_) fun h=>cx (aF (az ?_)))
   .have hb:DE f=true:=hd.trans h;refine aF (aj ?_);refine SS ?_;refine aa (eQ (cm (bE (aI (d:=B false) rfl ?_))));rw[U (by unfold wk;rw[hb];rfl)]
   have hH:DE f=false:=hd.trans h;clear hd h
   have aml:f.blocks.length<=100000/\f.signals.length<=100000:=by
    unfold DE at hH;simp only[Bool.or_eq_false_iff,decide_eq_false_iff_not] at hH;omega
   refine SS ?_
   refine aa (cn (fun s=>aJ prog s ⟨ay [(0,bj l),(3,I t),(4,.pt (aX f))],fun _=>none,nx+1⟩/\f.signals.all (fun s=> !A6 s)=true) (k7 (α:=Nat) (fun k=>⟨ay [(0,bj l),(3,I t),(4,.pt (aX f)),(5,I k)],fun _=>none,nx+1⟩)
    (fun k=>k<=f.signals.length/\(f.signals.take k).all (fun s=> !A6 s)=true) (fun k=>f.signals.length - k) 0 (au eH) ⟨Nat.zero_le _,rfl⟩ ?_) ?_)
   .rintro k ⟨hk,hinv⟩;refine bx ?_;refine aa ⟨_,rfl,fun h=>?_,fun h=>?_⟩
    .have af:k<f.signals.length:=by simpa using h
     obtain⟨x,hx⟩:∃ x,f.signals[k]? =some x:=⟨_,a7 af⟩
     refine ws ?_;refine iu ?_;refine aa (aO rfl (fun hp=>aj ?_) fun hp=>cT ?_)
     .have hp:A6 x=true:=hp;refine SS ?_;refine aa (bH (cm (bE (cm (bE (aI (d:=B false) rfl ?_))))));rw[U (by unfold wk;rw[Cr (p:=fun s=> !A6 s) (bu hx) (by rw[hp];rfl)];simp)]
     .have hp:A6 x=false:=hp;show aq _ _ _ _ _ _ _ _ _;refine ax ?_;exact aa (bi (k+1) (au eH) ⟨oG,s7 hx hinv (by rw[hp];rfl)⟩ oG)
    .have M:¬ k<f.signals.length:=by simpa using h
     rw[dt oG] at hinv;exact⟨au eH,hinv⟩
   rintro s ⟨hg,ajj⟩;refine⟨_,hg,az ?_⟩;refine SS ?_
   refine aa (k7 (α:=Nat×Nat) (fun s=>⟨ay [(0,bj l),(3,I t),(4,.pt (aX f)),(6,I s.1)],fun _=>none,s.2⟩)
    (fun s=>s.1<=f.blocks.length/\(f.blocks.take s.1).all yz=true) (fun s=>f.blocks.length - s.1) (0,nx+1) (au eH) ⟨Nat.zero_le _,rfl⟩ ?_)
   rintro⟨k,ny⟩ ⟨hk,hinv⟩;dsimp only at hk hinv ⊢;refine bx ?_;refine aa ⟨_,rfl,fun h=>?_,fun h=>?_⟩
   .have af:k<f.blocks.length:=by simpa using h
    clear h;obtain⟨x,hx⟩:∃ x,f.blocks[k]? =some x:=⟨_,a7 af⟩
    have X:yz x=false->uo l=false:=fun hb=>U (by unfold wk;rw[Cr (bu hx) hb];simp);refine az ?_;refine iu ?_;refine aa (bJ (fu (i:=ny) (l:=[(0,bj l),(3,I t),(4,.pt (aX f)),(6,I k),(7,.pt (bS x))]) (ah _ _ _) ⟨rfl,rfl,rfl,rfl,lU,trivial⟩) (aF (aj ?_)));refine bw ?_;refine bw ?_;refine ba ?_;refine bt rfl rfl (Kc rfl) (fun hc=>⟨ak,V.h⟩) ?_;refine dJ ?_;refine ab ?_;have hd:DF x=_:=(Vz (decide (8<(x.ins.length:Int))) (decide (8<(x.fin.aR.length:Int))) (decide (8<(x.fin.args.length:Int))) (decide (130<(x.fin.name.size:Int))) (decide (8<(x.fin.ins.args.length:Int)))).symm;refine aa (cQ rfl (fun h=>?_) fun h=>cx (aF (az ?_)))
    .have hb:DF x=true:=hd.trans h;refine aF (aj ?_);refine SS ?_;refine aa (eQ (cm (cm (bE (aI (d:=B false) rfl ?_)))));rw[X (by unfold yz;rw[hb];rfl)]
    have hK:DF x=false:=hd.trans h;clear hd h
    have ei:x.ins.length<=100000/\x.fin.aR.length<=100000:=by
     unfold DF at hK;simp only[Bool.or_eq_false_iff,decide_eq_false_iff_not] at hK;omega
    refine SS ?_
    refine aa (cn (fun s=>aJ prog s ⟨ay [(0,bj l),(3,I t),(4,.pt (aX f)),(6,I k),(7,.pt (bS x))],fun _=>none,ny+1⟩/\x.ins.all (fun y=> !A5 y)=true) (k7 (α:=Nat) (fun j=>⟨ay [(0,bj l),(3,I t),(4,.pt (aX f)),(6,I k),(7,.pt (bS x)),(8,I j)],fun _=>none,ny+1⟩)
     (fun j=>j<=x.ins.length/\(x.ins.take j).all (fun y=> !A5 y)=true) (fun j=>x.ins.length - j) 0 (au eH) ⟨Nat.zero_le _,rfl⟩ ?_) ?_)
    .rintro j ⟨hj,C⟩;refine bx ?_;refine aa ⟨_,rfl,fun h=>?_,fun h=>?_⟩
     .have dj:j<x.ins.length:=by simpa using h
      obtain⟨y,hy⟩:∃ y,x.ins[j]? =some y:=⟨_,a7 dj⟩
      refine ws ?_;refine dJ ?_;refine aa (aO rfl (fun hp=>aj ?_) fun hp=>cT ?_)
      .have hp:A5 y=true:=hp;refine SS ?_;refine aa (bH (cm (bE (cm (cm (bE (aI (d:=B false) rfl ?_)))))));rw[X (by unfold yz;rw[Cr (p:=fun y=> !A5 y) (bu hy) (by rw[hp];rfl)];simp)]
      .have hp:A5 y=false:=hp;show aq _ _ _ _ _ _ _ _ _;refine ax ?_;exact aa (bi (j+1) (au eH) ⟨oG,s7 hy C (by rw[hp];rfl)⟩ oG)
     .have M:¬ j<x.ins.length:=by simpa using h
      rw[dt oG] at C;exact⟨au eH,C⟩
    rintro s ⟨hg,Hp⟩;refine⟨_,hg,az ?_⟩;refine SS ?_
    refine aa (k7 (α:=Nat) (fun j=>⟨ay [(0,bj l),(3,I t),(4,.pt (aX f)),(6,I k),(7,.pt (bS x)),(9,I j)],fun _=>none,ny+1⟩)
     (fun j=>j<=x.fin.aR.length/\(x.fin.aR.take j).all (fun y=> !DG y)=true) (fun j=>x.fin.aR.length - j) 0 (au eH) ⟨Nat.zero_le _,rfl⟩ ?_)
    rintro j ⟨hj,C⟩;refine cw ?_;refine aa ⟨_,rfl,fun h=>?_,fun h=>?_⟩
    .have dj:j<x.fin.aR.length:=by simpa using h
     obtain⟨y,hy⟩:∃ y,x.fin.aR[j]? =some y:=⟨_,a7 dj⟩
     refine ws ?_;refine bw ?_;refine aa (aO rfl (fun hp=>aj ?_) fun hp=>cT ?_)
     .have hp:DG y=true:=hp;refine SS ?_;refine aa (bH (cm (cm (cm (bE (aI (d:=B false) rfl ?_))))));rw[X (by unfold yz;rw[Cr (p:=fun w=> !DG w) (bu hy) (by rw[hp];rfl)];simp)]
     .have hp:DG y=false:=hp;show aq _ _ _ _ _ _ _ _ _;refine ax ?_;exact aa (bi (j+1) (au eH) ⟨oG,s7 hy C (by rw[hp];rfl)⟩ oG)
    .have M:¬ j<x.fin.aR.length:=by simpa using h
     rw[dt oG] at C;show aq _ _ _ _ _ _ _ _ _;refine ax ?_;refine aa (bi (k+1,ny+1) (au eH) ⟨oM,s7 hx hinv ?_⟩ oM);unfold yz;rw[hK,Hp,C];rfl
   .have M:¬ k<f.blocks.length:=by simpa using h
    rw[dt oG] at hinv;show aq _ _ _ _ _ _ _ _ _;refine ax ?_;refine aa (bi (t+1,ny) (au eH) ⟨oM,s7 hf J ?_⟩ oM);unfold wk;rw[hH,ajj,hinv];rfl
  .have M:¬ t<l.length:=by simpa using h
   rw[dt oG] at J;exact⟨⟨nx,au eH⟩,J⟩
 .rintro s ⟨⟨nx,hg⟩,J⟩
  have hb:uo l=(decide ((l.length:Int)<=10)||(decide (60<(l.length:Int))&&decide ((l.length:Int)<=63))):=by
   unfold uo;rw[J,Bool.true_and]
  rw[hb];refine⟨_,hg,aj ?_⟩;refine bw ?_;refine bx ?_;refine aa (aI rfl ?_);show B _=B _;congr 1;cases decide ((l.length:Int)<=10)<;>cases decide ((60:Int)<l.length)<;>rfl
theorem Nn{a b:List Int}:aB prog 72 [aP a,aP b] (B (decide (a=b))):=by
 have J:∀ x∈[aP a,aP b],Tr x:=.cons (dn _) (.cons (dn _) .nil);refine mq Uw.he J fun M=>?_;have hlen:=(M (aP a) oS).sl.1;unfold maxLen at hlen;refine bl Uw J (Tr.s _) ?_;rw[ajk];refine ws ?_;refine SS ?_;refine aa (aF (aj ?_));refine bx ?_;refine aa (cQ rfl (fun h=>?_) fun h=>cx (aF (az ?_)))
 .refine aF (aj ?_);refine SS ?_;refine aa (eQ (aI (d:=B false) rfl ?_));have C:a≠b:=fun e=>by subst e;simp at h
  rw[decide_eq_false C]
 have kJ:a.length=b.length:=by
  have:¬ ((a.length:Int)≠(b.length:Int)):=by simpa using h
  omega
 clear h;refine SS ?_
 refine aa (cn (fun s=>aJ prog s ⟨ay [],fun _=>none,0⟩/\a=b) (k7 (α:=Nat) (fun k=>⟨ay [(0,aP a),(1,aP b),(5,I k)],fun _=>none,0⟩)
  (fun k=>k<=a.length/\∀ j,j<k->a[j]? =b[j]?) (fun k=>a.length - k) 0 (au eH) ⟨oG,fun j hj=>by omega⟩ ?_) ?_)
 .rintro k ⟨hk,hinv⟩;refine ba ?_;refine aa ⟨_,rfl,fun h=>?_,fun h=>?_⟩
  .have af:k<a.length:=by simpa using h
   have hx:a[k]? =some a[k]:=a7 af;have hy:b[k]? =some b[k]:=a7 oG;generalize a[k]=x at hx;generalize b[k]=y at hy;refine eA aa3 ?_;refine bw ?_;refine cz cJ (aO rfl (fun hp=>?_) fun hp=>?_)
   .refine ws ?_;refine SS ?_;refine aa (bH (cm (bE (aI (d:=B false) rfl ?_))))
    have C:a≠b:=fun e=>by
     subst e;rw[hx] at hy;cases hy;simp at hp
    rw[decide_eq_false C]
   .refine cT ?_;refine ax ?_;refine aa (bi (k+1) (au eH) ⟨oG,fun j hj=>?_⟩ oG);by_cases e:j=k
    .subst e;rw[hx,hy];congr 1;simpa using hp
    .exact hinv j oG
  .have X:¬ k<a.length:=by simpa using h
   refine⟨fQ (l:=[]) trivial,List.ext_getElem? fun j=>?_⟩;by_cases hj:j<k
   .exact hinv j hj
   .rw[List.getElem?_eq_none oG,List.getElem?_eq_none oG]
 .rintro s ⟨hg,U⟩;refine⟨_,hg,aj ?_⟩;refine SS ?_;refine aa (aI (d:=B true) rfl ?_);rw[decide_eq_true U]
theorem BD{a b:List Int}:aB prog 39 [aP a,aP b] (B (decide (a=b))):=by
 have C:∀ x∈[aP a,aP b],Tr x:=.cons (dn _) (.cons (dn _) .nil);have Nn:=Nn (a:=a) (b:=b);refine bl ajl C (Tr.s _) ?_;rw[ajm];refine ws ?_;refine SS ?_;refine er ?_;refine ab ?_;refine cl Nn ?_;refine SS ?_;exact aa (aI rfl rfl)
theorem No{a b:List (List Int)}:aB prog 20 [bM a,bM b] (B (decide (a=b))):=by
 have J:∀ x∈[bM a,bM b],Tr x:=.cons (nX _) (.cons (nX _) .nil);refine mq Ux.he J fun M=>?_;have hlen:=(M (bM a) oS).sl.1;unfold maxLen at hlen;refine bl Ux J (Tr.s _) ?_;rw[ajn];refine ws ?_;refine SS ?_;refine aa (aF (aj ?_));refine bx ?_;refine aa (cQ rfl (fun h=>?_) fun h=>cx (aF (az ?_)))
 .refine aF (aj ?_);refine SS ?_;refine aa (eQ (aI (d:=B false) rfl ?_));have C:a≠b:=fun e=>by subst e;simp at h
  rw[decide_eq_false C]
 have kJ:a.length=b.length:=by
  have:¬ ((a.length:Int)≠(b.length:Int)):=by simpa using h
  omega
 clear h;refine SS ?_
 refine aa (cn (fun s=>aJ prog s ⟨ay [],fun _=>none,0⟩/\a=b) (k7 (α:=Nat) (fun k=>⟨ay [(0,bM a),(1,bM b),(5,I k)],fun _=>none,0⟩)
  (fun k=>k<=a.length/\∀ j,j<k->a[j]? =b[j]?) (fun k=>a.length - k) 0 (au eH) ⟨oG,fun j hj=>by omega⟩ ?_) ?_)
 .rintro k ⟨hk,hinv⟩;refine ba ?_;refine aa ⟨_,rfl,fun h=>?_,fun h=>?_⟩
  .have af:k<a.length:=by simpa using h
   have hx:a[k]? =some a[k]:=a7 af;have hy:b[k]? =some b[k]:=a7 oG;generalize a[k]=x at hx;generalize b[k]=y at hy;have BD:=BD (a:=x) (b:=y);refine eA aa4 ?_;refine dJ ?_;refine cl BD ?_;refine SS ?_;refine cz cJ (aO rfl (fun hp=>?_) fun hp=>?_)
   .refine ws ?_;refine SS ?_;refine aa (bH (cm (bE (aI (d:=B false) rfl ?_))))
    have C:a≠b:=fun e=>by
     subst e;rw[hx] at hy;cases hy;simp at hp
    rw[decide_eq_false C]
   .refine cT ?_;refine ax ?_;refine aa (bi (k+1) (au eH) ⟨oG,fun j hj=>?_⟩ oG);by_cases e:j=k
    .subst e;rw[hx,hy];congr 1;simpa using hp
    .exact hinv j oG
  .have X:¬ k<a.length:=by simpa using h
   refine⟨fQ (l:=[]) trivial,List.ext_getElem? fun j=>?_⟩;by_cases hj:j<k
   .exact hinv j hj
   .rw[List.getElem?_eq_none oG,List.getElem?_eq_none oG]
 .rintro s ⟨hg,U⟩;refine⟨_,hg,aj ?_⟩;refine SS ?_;refine aa (aI (d:=B true) rfl ?_);rw[decide_eq_true U]
theorem ajo{l:List (List Int)}:aB prog 20 [bM l,bM l] (B true):=by
 have:=No (a:=l) (b:=l)
 rwa[decide_eq_true rfl] at this
theorem Np{a b:List ByteArray}:aB prog 27 [bU a,bU b] (B (decide (a=b))):=by
 have J:∀ x∈[bU a,bU b],Tr x:=.cons (iV _) (.cons (iV _) .nil);refine mq Uy.he J fun M=>?_;have hlen:=(M (bU a) oS).sl.1;unfold maxLen at hlen;refine bl Uy J (Tr.s _) ?_;rw[ajp];refine ws ?_;refine SS ?_;refine aa (aF (aj ?_));refine bx ?_;refine aa (cQ rfl (fun h=>?_) fun h=>cx (aF (az ?_)))
 .refine aF (aj ?_);refine SS ?_;refine aa (eQ (aI (d:=B false) rfl ?_));have C:a≠b:=fun e=>by subst e;simp at h
  rw[decide_eq_false C]
 have kJ:a.length=b.length:=by
  have:¬ ((a.length:Int)≠(b.length:Int)):=by simpa using h
  omega
 clear h;refine SS ?_
 refine aa (cn (fun s=>aJ prog s ⟨ay [],fun _=>none,0⟩/\a=b) (k7 (α:=Nat) (fun k=>⟨ay [(0,bU a),(1,bU b),(5,I k)],fun _=>none,0⟩)
  (fun k=>k<=a.length/\∀ j,j<k->a[j]? =b[j]?) (fun k=>a.length - k) 0 (au eH) ⟨oG,fun j hj=>by omega⟩ ?_) ?_)
 .rintro k ⟨hk,hinv⟩;refine ba ?_;refine aa ⟨_,rfl,fun h=>?_,fun h=>?_⟩
  .have af:k<a.length:=by simpa using h
   have hx:a[k]? =some a[k]:=a7 af;have hy:b[k]? =some b[k]:=a7 oG;generalize a[k]=x at hx;generalize b[k]=y at hy;refine eA aa5 ?_;refine bw ?_;refine cz cJ (aO rfl (fun hp=>?_) fun hp=>?_)
   .refine ws ?_;refine SS ?_;refine aa (bH (cm (bE (aI (d:=B false) rfl ?_))))
    have C:a≠b:=fun e=>by
     subst e;rw[hx] at hy;cases hy;have hp:(!(x.toList==x.toList))=true:=hp;simp at hp
    rw[decide_eq_false C]
   .refine cT ?_;refine ax ?_;refine aa (bi (k+1) (au eH) ⟨oG,fun j hj=>?_⟩ oG);by_cases e:j=k
    .subst e;rw[hx,hy];congr 1;exact acn hp
    .exact hinv j oG
  .have X:¬ k<a.length:=by simpa using h
   refine⟨fQ (l:=[]) trivial,List.ext_getElem? fun j=>?_⟩;by_cases hj:j<k
   .exact hinv j hj
   .rw[List.getElem?_eq_none oG,List.getElem?_eq_none oG]
 .rintro s ⟨hg,U⟩;refine⟨_,hg,aj ?_⟩;refine SS ?_;refine aa (aI (d:=B true) rfl ?_);rw[decide_eq_true U]
end Go.Proofs.Tryz.K
end
namespace Go.Argus
open Go.Abs
abbrev jV:Sh:=.int .i64
abbrev DM:Sh:=.int .u8
abbrev Dp:Sh:=.pair DM (.pair jV (.pair jV (.pair jV (.pair jV (.pair (.sl jV) .unit)))))
abbrev GB:Sh:=.pair .str (.pair jV .unit)
abbrev GY:Sh:=.pair DM (.pair jV (.pair jV (.pair jV (.pair jV (.pair .str (.pair Dp (.pair (.sl jV) (.pair (.sl GB) (.pair jV .unit)))))))))
abbrev F5:Sh:=.pair (.sl Dp) (.pair GY .unit)
abbrev vy:Sh:=.pair .str (.pair .bool (.pair jV (.pair DM (.pair (.sl DM) (.pair (.sl DM) (.pair (.sl .str) (.pair (.sl F5) .unit)))))))
def Lc(x:Dp.val):cU:=⟨x.1,x.2.1,x.2.2.1,x.2.2.2.1,x.2.2.2.2.1,x.2.2.2.2.2.1⟩
def SA(x:GB.val):iE:=⟨x.1,x.2.1⟩
def TL(x:GY.val):End:=⟨x.1,x.2.1,x.2.2.1,x.2.2.2.1,x.2.2.2.2.1,x.2.2.2.2.2.1,Lc x.2.2.2.2.2.2.1,x.2.2.2.2.2.2.2.1,List.map SA x.2.2.2.2.2.2.2.2.1,x.2.2.2.2.2.2.2.2.2.1⟩
def RS(x:F5.val):bI:=⟨List.map Lc x.1,TL x.2.1⟩
def SB(x:vy.val):ap:=⟨x.1,x.2.1,x.2.2.1,x.2.2.2.1,x.2.2.2.2.1,x.2.2.2.2.2.1,x.2.2.2.2.2.2.1,List.map RS x.2.2.2.2.2.2.2.1⟩
theorem CP{k:IntKind}(l:List Int):D.sl (List.flatMap (Sh.enc (.int k)) l) l.length=.sl (l.map fun n=>.s (.int k n)) l.length:=congrArg (D.sl · l.length) (Fh (fun n=>D.s (.int k n)) l)
theorem adM(l:List ByteArray):D.sl (List.flatMap (Sh.enc .str) l) l.length=bU l:=congrArg (D.sl · l.length) (Fh S l)
theorem GZ{s:Sh}{β:Type}{g:β->List D}{h:s.val->β}(he:∀ x,s.enc x=g (h x))(l:List s.val):D.sl (List.flatMap s.enc l) l.length=.sl ((l.map h).flatMap g) (l.map h).length:=by
 rw[OY he l,List.length_map]
theorem c1'{α β:Type}(f:α->β){a a':α}(h:a=a'):f a=f a':=by rw[h]
theorem wN{α β γ:Type}(f:α->β->γ){a a':α}{b C:β}(h:a=a')(h2:b=C):f a b=f a' C:=by rw[h,h2]
theorem c3'{α β γ δ:Type}(f:α->β->γ->δ){a a':α}{b C:β}{c J:γ}(h:a=a')(h2:b=C)(M:c=J):f a b c=f a' C J:=by rw[h,h2,M]
theorem c4'{α β γ δ ε:Type}(f:α->β->γ->δ->ε){a a':α}{b C:β}{c J:γ}{d d':δ}(h:a=a')(h2:b=C)(M:c=J)(U:d=d'):f a b c d=f a' C J d':=by rw[h,h2,M,U]
theorem RT(x:Dp.val):Dp.enc x=ct (Lc x):=
 c1' (fun q=>[U8 x.1,I x.2.1,I x.2.2.1,I x.2.2.2.1,I x.2.2.2.2.1,q]) (CP (k:=.i64) x.2.2.2.2.2.1)
theorem abv(x:GB.val):GB.enc x=gP (SA x):=rfl
theorem acI(x:GY.val):GY.enc x=bD (TL x):=
 c3' (fun a b c=>[U8 x.1,I x.2.1,I x.2.2.1,I x.2.2.2.1,I x.2.2.2.2.1,S x.2.2.2.2.2.1]++(a++[b,c,I x.2.2.2.2.2.2.2.2.2.1])) (RT x.2.2.2.2.2.2.1) (CP (k:=.i64) x.2.2.2.2.2.2.2.1) (GZ abv x.2.2.2.2.2.2.2.2.1)
theorem Z0(x:F5.val):F5.enc x=bS (RS x):=by
 have:=wN (fun a b=>a::(b++[])) (GZ RT x.1) (acI x.2.1);refine Eq.trans this ?_;rw[List.append_nil];rfl
theorem Z1(x:vy.val):vy.enc x=aX (SB x):=
 c4' (fun a b c d=>[S x.1,B x.2.1,I x.2.2.1,U8 x.2.2.2.1,a,b,c,d]) (CP (k:=.u8) x.2.2.2.2.1) (CP (k:=.u8) x.2.2.2.2.2.1) (adM x.2.2.2.2.2.2.1) (GZ Z0 x.2.2.2.2.2.2.2.1)
theorem ZR(l:List vy.val):(Sh.sl vy).arg l=bj (l.map SB):=GZ Z1 l
theorem ZS(l:List (List Int)):(Sh.sl (.sl jV)).arg l=bM l:=by
 show D.sl (List.flatMap (Sh.enc (.sl jV)) l) l.length=_;have:∀ x:List Int,Sh.enc (.sl jV) x=[aP x]:=fun x=>congrArg (fun d=>[d]) (CP (k:=.i64) x);rw[show List.flatMap (Sh.enc (.sl jV)) l=l.flatMap (fun x=>[aP x]) from congrArg (l.flatMap ·) (funext this),Fh];rfl
end Go.Argus
namespace Go.Proofs.YtnagfmlifobdiaaGreatDoor
open Go.Abs Go.Argus
set_option maxRecDepth 100000
theorem aj1:ownKnob Tryz.prog.godebug=none:=kr
theorem laidOut:laidOutB Tryz.prog=true:=kr
theorem agL: Tryz.prog.underlying 4=some .bool:=kr
noncomputable abbrev vQ:List (String×DataW Unit):=Rows.shareTellsRow.laid
def SC:List Int:=[1,10,100,1000,10000,100000,1000000,10000000,100000000,1000000000,10000000000,100000000000,1000000000000,10000000000000,100000000000000,1000000000000000,10000000000000000,100000000000000000,1000000000000000000,10000000000000000000]
theorem Yr:∃ C,(C,DataW.agg (SC.map fun n=>DataW.lit (.int .u64 n)))∈vQ/\ Tryz.prog.globalNamed C=some 0:=⟨_,.tail _ (.tail _ (.head _)),by kernel_rfl⟩
theorem OZ(w:World):laidMetH Tryz.prog vQ w=laidMet Tryz.prog vQ w:=MakeChecks.laidMetH_plain _ _ _ kr
theorem acG{W:World}(h:laidMetH Tryz.prog vQ W):FB (fun b=>b=0) W/\Dn (fun b=>b=0) W:=by
 rw[OZ] at h;obtain⟨J,hm,hg⟩:=Yr;obtain⟨ty,ht⟩:=Ys (t:=200) (e:=199) h hm hg kr kr kr kr kr oC;refine⟨⟨fun b hb=>?_,fun t C=>?_⟩,fun b o u hb hu=>?_⟩
 .subst hb;exact(Array.getElem?_eq_some_iff.1 ht).1
 .simp only[uc,List.mem_singleton] at C;subst C;exact⟨rfl,ty,_,ht⟩
 .subst hb;unfold World.cell? at hu;rw[ht] at hu;simp only at hu;have hu:((SC.map (Value.int .u64 ·)).toArray)[o]? =some u:=hu;rw[List.getElem?_toArray,List.getElem?_map] at hu;obtain⟨n,_,rfl⟩:=cO.1 hu;exact⟨n,rfl⟩
def aj6:DataW Unit->Value
 | .lit (.int k n)=>.int k n
 |_=>undef
def aj7:DataW Unit->Array Value
 | .agg ps=>(ps.map aj6).toArray
 |_=> #[]
noncomputable def PG(os:Os):World:=
 let C:=World.holding Tryz.prog os ⟨#[], #[],[]⟩
 let f (d:DataW Unit):Obj->Obj:=fun
     | .cells _ t frozen=>.cells (aj7 d) t frozen
     |o=>o
 { C with heap:=((C.heap.modify 0 (f Rows.laid_internal_strconv_uint64pow10)).modify 2 (f Rows.laid_math_bits_deBruijn32tab)).modify 3 (f Rows.laid_math_bits_deBruijn64tab) }
theorem WG(os:Os)(args:Array Value):laidMetH Tryz.prog vQ ((PG os).forCall (fun _ _=>0) ⟨#[],args,[]⟩).memory:=by
 rw[OZ];exact laidMet_of_run' 8 kr kr
end Go.Proofs.YtnagfmlifobdiaaGreatDoor
section
open Go Go.Abs Go.Proofs Go.Argus
namespace Go.Proofs.Tryz.K
set_option maxRecDepth 100000
theorem aco:jf dG [sE]=0:=by
 unfold jf;rw[pA]
 kernel_rfl
theorem acp:jf dG [sB]=0:=by
 unfold jf;rw[pA]
 kernel_rfl
noncomputable def Nq:List (FuncId×Func×Code):=[(42, Tryz.f42,Sl),(81, Tryz.f81,Sm)]
theorem adv:∀ x∈Nq,ld prog x.1 x.2.1 x.2.2:=fun x hx=>by
 simp only[Nq,List.mem_cons,List.not_mem_nil,or_false] at hx;rcases hx with rfl|rfl
 .exact ajq
 .exact ajr
noncomputable def cxS:Ctx:=⟨fun f=>(Nq.find? fun x=>Nat.beq x.1 f).map (·.2),fun _ _ _=>none,fun _ _=>none⟩
theorem So:cxS.Ok prog:=⟨mixed,fun f fn c h=>by
 obtain⟨x,hx,he⟩:=cO.1 h;have h0:=List.find?_some hx;have h1:x.1=f:=Nat.eq_of_beq_eq_true h0;have:=adv x (List.mem_of_find?_eq_some hx);rw[h1,he] at this
 exact this,fun _ _ _ _ h=>oH,fun _ _ _ h=>oH⟩
def ajs(x:Argus.End):List D:=[U8 x.kind,I x.a,I x.b,I x.to,I x.gL,S x.name,U8 0,I 0,I 0,I 0,I 0,.z,.z,.z,I x.others]
def VA(f:ap):List D:=[S f.name,B false,I 0,U8 0,.z,.z,.z,.sl (f.blocks.flatMap fun b=>.z::ajs b.fin) f.blocks.length]
theorem Nr:aB prog 42 [] (bj dG):=by
 have h:ko prog 42 [] (dG.flatMap VA) 5 48:=(ED So (R6 So 1000) (args:=[]) oS).2 _ _ _ kr;have ht:Tr (.sl ((dG.flatMap VA).take (5*prog.cellsOf 48)) 5):=pD (n:=12) kr;exact YO (h.ac9 ht) fun F β w v hv=>Di 20 kr hv
theorem nR{f:FuncId}{rds:List Nat}{args C:List D}{r:D}{m:Mem}{nx:Nat}(hc:aB prog f C r)(h:gW (cB prog m 12) args=some (C,rds)):fG prog f args m nx (fun d m' J=>d=r/\m'=less rds m/\J=nx):=
 YN (BM h fun _ hi=>hi) hc
theorem Sp{s:ByteArray}{env:Env}{x y:Operand}{m:Mem}{nx:Nat}{t p:TypeId}(hx:(opd env x).core=S s)(hy:(opd env y).core=S s):Ef prog (.binOp .eql t x y p) env m nx ⟨True,B true,[],[],0⟩:=by
 have h:=Kb (P:=prog) (env:=env) (m:=m) (nx:=nx) (t:=t) (p:=p) hx hy
 rwa[show(s.toList==s.toList)=true by simp] at h
theorem Ns:aB prog 15 [] (B true):=by
 have hl:dG.length<=1000:=by decide
 have wP:aB prog 16 [bj dG] (.aL [bM [[0,1],[2],[3],[4]],I 0]):=by
  have:=wP (l:=dG) hl;rw[aa7,pA] at this;exact this
 have J:aB prog 18 [bj dG,bM [[0],[1],[2],[3],[4]]] (.aL [B true,I 0]):=by
  have:=uQ (l:=dG) (c:=[[0],[1],[2],[3],[4]]) hl oC oC;rw[aa8,pA] at this;exact this
 have M:aB prog 18 [bj dG,bM [[0,1,2],[3],[4]]] (.aL [B false,I 0]):=by
  have:=uQ (l:=dG) (c:=[[0,1,2],[3],[4]]) hl oC oC;rw[aa9,pA] at this;exact this
 have U:aB prog 35 [bj dG,I 0,I 4] (.aL [aP [0,0],B true,I 0]):=by
  have:=qq (l:=dG) (a:=0) (b:=4) hl;rw[aa'] at this;exact this
 have X:aB prog 35 [bj dG,I 0,I 1] (.aL [.z,B false,I 0]):=by
  have:=qq (l:=dG) (a:=0) (b:=1) hl;rw[aba] at this;exact this
 have ajx:aB prog 35 [bj dG,I 3,I 0] (.aL [aP [],B true,I 0]):=by
  have:=qq (l:=dG) (a:=3) (b:=0) hl;rw[abb] at this;exact this
 have Nj:aB prog 22 [bj dG,bU [sE]] (.aL [bj tZ,I 0]):=by
  have:=Nj (l:=dG) (keep:=[sE]) hl;rw[aco,if_pos rfl,X9] at this;exact this
 have Ni:aB prog 24 [bj dG,bU [sB]] (.aL [bU [sB,sB,sC,sD,sE],I 0]):=by
  have:=Ni (l:=dG) (keep:=[sB]) hl;rw[acp,if_pos rfl,X'] at this;exact this
 have Nr:=Nr;refine bl ajy .nil (Tr.s _) ?_;rw[ajz];refine ws ?_;refine SS ?_;refine er ?_;refine cl Nr ?_;refine SS ?_;refine er ?_;refine SS ?_;refine cl wP ?_;refine bx ?_;refine aa (az ?_);refine iu ?_;refine gn (nR (rds:=[5,0,1,2,3,4]) J kr) rfl aM fun d m' C hp=>?_;obtain⟨rfl,rfl,rfl⟩:=hp;refine bx ?_;refine aa ⟨_,fQ (l:=[(1,bj dG),(2,bM [[0,1],[2],[3],[4]]),(3,I 0),(4,B true),(5,I 0)]) eH,az ?_⟩;refine bx ?_;refine gn (nR (rds:=[9,6,7,8]) M kr) rfl aM fun d m' C hp=>?_;obtain⟨rfl,rfl,rfl⟩:=hp;refine bx ?_;refine aa ⟨_,fQ (l:=[(1,bj dG),(2,bM [[0,1],[2],[3],[4]]),(3,I 0),(4,B true),(5,I 0),(6,B false),(7,I 0)]) eH,aj ?_⟩;have qq:=U;refine SS ?_;refine cl qq ?_;refine iu ?_;clear qq;refine er ?_;have qq:=X;refine SS ?_;refine cl qq ?_;refine SS ?_;refine aw (pw (v:=.z) rfl rfl) ak (by first|decide|simp) ?_;refine bx ?_;clear qq;refine er ?_;have qq:=ajx;refine SS ?_;refine cl qq ?_;refine iu ?_;clear qq;refine aa (az ?_);refine ab ?_;refine gn (nR (rds:=[10]) Nj kr) rfl aM fun d m' C hp=>?_;obtain⟨rfl,rfl,rfl⟩:=hp;refine bx ?_;refine aa ⟨_,fQ (l:=[(1,bj dG),(2,bM [[0,1],[2],[3],[4]]),(3,I 0),(4,B true),(5,I 0),(6,B false),(7,I 0),(8,aP [0,0]),(9,B true),(10,I 0),(12,B false),(13,I 0),(14,aP []),(15,B true),(16,I 0),(17,bj tZ),(18,I 0)]) eH,az ?_⟩;refine ab ?_;refine gn (nR (rds:=[11]) Ni kr) rfl aM fun d m' C hp=>?_;obtain⟨rfl,rfl,rfl⟩:=hp;refine bx ?_;refine aa ⟨_,fQ (l:=[(2,bM [[0,1],[2],[3],[4]]),(3,I 0),(4,B true),(5,I 0),(6,B false),(7,I 0),(8,aP [0,0]),(9,B true),(10,I 0),(12,B false),(13,I 0),(14,aP []),(15,B true),(16,I 0),(17,bj tZ),(18,I 0),(19,bU [sB,sB,sC,sD,sE]),(20,I 0)]) eH,aF (aj ?_)⟩;refine bw ?_;refine bw ?_;refine bw ?_;refine ax ?_;refine aa (qU (cx (az ?_)));have No:aB prog 20 [bM [[0,1],[2],[3],[4]],bM [[0,1],[2],[3],[4]]] (B true):=ajo;have BD:aB prog 39 [aP [0,0],aP [0,0]] (B true):=BD (a:=[0,0]) (b:=[0,0])
 have Np:aB prog 27 [bU [sB,sB,sC,sD,sE],bU [sB,sB,sC,sD,sE]] (B true):=by
  have:=Np (a:=[sB,sB,sC,sD,sE]) (b:=[sB,sB,sC,sD,sE])
  rwa[decide_eq_true rfl] at this
 refine cw ?_;refine gn (nR (rds:=[16,12,13,14,15]) No kr) rfl aM fun d m' C hp=>?_;obtain⟨rfl,rfl,rfl⟩:=hp;refine bw ?_;refine Kl rfl rfl (tc (cs:=[_,_]) V.h V.h V.h rfl rfl) ak ⟨rfl,oC,V.h,oC⟩ ?_;refine se (rds:=[17]) BD rfl rfl rfl rfl (BM (n:=12) (r:=[17]) kr fun _ hi=>hi) aM ?_;refine bw ?_;refine dJ ?_;refine aa ⟨_,fQ (l:=[(17,bj tZ),(19,bU [sB,sB,sC,sD,sE]),(21,B true)]) eH,aj ?_⟩;refine dJ ?_;refine bt rfl rfl (r7 (l:=tZ) (i:=0) (z:=iB sA sA) rfl rfl H7 oE (uW) rfl) (fun hc=>⟨(by repeat' (first|exact trivial|exact hc|exact rfl|refine And.intro ?_ ?_)),r8 (l:=tZ) (i:=0) (z:=iB sA sA) Ho (uW) rfl⟩) ?_;refine ab ?_;refine bt rfl rfl (r7 (l:=(iB sA sA).blocks) (i:=0) (z:=⟨[],Kq sA⟩) rfl rfl M6 HQ (uV) rfl) (fun hc=>⟨(by repeat' (first|exact trivial|exact hc|exact rfl|refine And.intro ?_ ?_)),r8 (l:=(iB sA sA).blocks) (i:=0) (z:=⟨[],Kq sA⟩) LN (uV) rfl⟩) ?_;refine ax ?_;refine bt (v:=B true) rfl rfl (Sp (s:=sA) rfl rfl) (fun hc=>⟨(by repeat' (first|exact trivial|exact hc|exact rfl|refine And.intro ?_ ?_)),trivial⟩) ?_;refine ax ?_;refine bt rfl rfl (r7 (l:=tZ) (i:=3) (z:=iB sE sC) rfl rfl H7 oE (uW) rfl) (fun hc=>⟨(by repeat' (first|exact trivial|exact hc|exact rfl|refine And.intro ?_ ?_)),r8 (l:=tZ) (i:=3) (z:=iB sE sC) Ho (uW) rfl⟩) ?_;refine ab ?_;refine bt (v:=B true) rfl rfl (Sp (s:=sE) rfl rfl) (fun hc=>⟨(by repeat' (first|exact trivial|exact hc|exact rfl|refine And.intro ?_ ?_)),trivial⟩) ?_;refine ax ?_;refine Kl rfl rfl (tc V.h V.h V.h rfl rfl) ak ⟨rfl,oC,V.h,oC⟩ ?_;refine se (rds:=[18]) Np rfl rfl rfl rfl (BM (n:=12) (r:=[18]) kr fun _ hi=>hi) aM ?_;refine ab ?_;exact aa (aI rfl rfl)
end Go.Proofs.Tryz.K
end
namespace Go.Proofs.Tryz.K
open Go.Abs
theorem abd:bT (Z ik 18)=some [(8,12),(8,13),(8,14),(8,15)]:=kr
theorem sk5:ik=(S1 (G1 ik 0) (S1 (S1 (G1 ik 1) (C1 20 (S1 (G1 ik 2) .ret) K1)) (S1 (G1 ik 3) (S1 (G1 ik 4) (S1 (S1 (G1 ik 5) (C1 35 (S1 (G1 ik 6) .ret) K1)) (S1 (S1 (G1 ik 7) (C1 37 (S1 (G1 ik 8) .ret) K1)) (S1 (G1 ik 9) (S1 (S1 (G1 ik 10) (C1 59 (S1 (G1 ik 11) .ret) K1)) (S1 (S1 (G1 ik 12) (B1 0 (.loop (S1 (S1 (G1 ik 13) (C1 66 K1 (X1 0))) (S1 (B1 1 (S1 (G1 ik 15) (B1 2 (.loop (S1 (S1 (G1 ik 16) (C1 75 K1 (X1 2))) (S1 (B1 3 (S1 (G2 ik 18) (C1 95 (S1 (G1 ik 19) .ret) K1))) (G1 ik 17))))))) (G1 ik 14)))))) (S1 (G1 ik 20) .ret)))))))))):=kr
end Go.Proofs.Tryz.K
section
open Go Go.Abs Go.Proofs Go.Argus
namespace Go.Proofs.Tryz.K
theorem k5{l:List ap}{c:List (List Int)}:aB prog 5 [bj l,bM c] (B true):=by
 have H9:=H9 (l:=l);have H8:=H8 (c:=c);refine bl ok5 (.cons (js l) (.cons (nX c) .nil)) (Tr.s _) ?_;rw[sk5];have J:=acm (l:=l);have kJ:=ZC (c:=c);generalize uo l=fw at*
 generalize vw c=ls at*
 refine ws ?_;refine SS ?_;refine aa (aF (aj ?_));refine SS ?_;refine cl H9 ?_;refine ax ?_;refine gc H8 ?_;refine ab ?_;refine aa (cQ rfl (fun h=>aF (aj ?_)) fun h=>cx (aj ?_))
 .refine cl Ns ?_;refine SS ?_;exact aa (eQ (aI rfl rfl))
 have hb:fw=true/\ls=true:=by
  revert h;cases fw<;>cases ls<;>simp
 obtain⟨rfl,rfl⟩:=hb;clear h H9 H8;have J:=J rfl;obtain⟨sR,lu⟩:=kJ rfl;have wP:=wP (l:=l) oG;have uQ:=uQ (l:=l) (c:=c) oG oG fun x hx=>by have:=lu x hx;omega
 have hco:=ZB (l:=l) (c:=c);have Tw:=Go.Proofs.Tryz.K.uQ (l:=l) (c:=mL l) oG (Qz J).1 (Qz J).2;have LO:=adx (l:=l);have U:(dc l).2=0->tm l=bM (mL l):=fun h=>if_pos h;have X:(dc l).2≠0->tm l=.z:=fun h=>if_neg h;have M:(dc l).2≠0->oF l c=false:=fun h=>if_neg h;generalize oF l c=cc at*
 generalize oF l (mL l)=co at*
 generalize (dc l).2=e at*
 generalize tm l=cD at*
 have ud:(e !=e)=false:=by simp
 by_cases he:e=0
 .subst he;rw[LO rfl] at Tw;rw[U rfl] at wP;refine SS ?_;refine cl wP ?_;refine bx ?_;refine er ?_;refine ab ?_;refine cl uQ ?_;refine bx ?_;refine aa (aF (aj ?_));refine ax ?_;refine aa (qU (cx (aF (aj ?_))));refine ab ?_;refine aa (qU (cx (aj ?_)));have uQ:=Tw;generalize mL l=own at*
  refine ab ?_;refine cl uQ ?_;refine bx ?_;refine aa (aF (aj ?_));refine cw ?_;refine aa (qU (cx (aF (az ?_))));refine SS ?_
  refine aa (cn (fun s=>∃ nx,aJ prog s ⟨ay [],fun _=>none,nx⟩) (k7 (α:=Nat) (fun k=>⟨ay [(0,bj l),(1,bM c),(5,bM own),(7,B cc),(11,I k)],fun _=>none,0⟩)
   (fun k=>k<=c.length) (fun k=>c.length - k) 0 (au eH) oG ?_) ?_)
  .rintro k hk;refine iu ?_;refine aa ⟨_,rfl,fun h=>?_,fun h=>?_⟩
   .have uG:cc=true/\k<c.length:=by
     revert h;by_cases gj:(k:Int)<c.length
     .rw[decide_eq_true gj];intro h;exact⟨h,oG⟩
     .rw[decide_eq_false gj];intro h;cases h
    obtain⟨rfl,af⟩:=uG;obtain⟨x,hx⟩:∃ x,c[k]? =some x:=⟨_,a7 af⟩
    have iO:=bu hx;have sL:=lu x iO;clear h;refine az ?_;refine SS ?_
    refine aa (k7 (α:=Nat) (fun i=>⟨ay [(0,bj l),(1,bM c),(5,bM own),(7,B true),(11,I k),(12,I i)],fun _=>none,0⟩)
     (fun i=>1<=i/\i<=max 1 x.length) (fun i=>x.length - i) 1 (au eH) oG ?_)
    rintro i hi;refine iu ?_;refine aa ⟨_,rfl,fun h=>?_,fun h=>?_⟩
    .have ei:i<x.length:=by simpa using h
     obtain⟨v,hv⟩:∃ v,x[i]? =some v:=⟨_,a7 ei⟩
     obtain⟨C,VB⟩:∃ C,x[0]? =some C:=⟨_,a7 oG⟩
     have Ee:atR own v=atR own C:=hco rfl iO (bu hv) (bu VB);have ka:=Go.Proofs.Tryz.K.Vy (c:=own) (n:=v);have kb:=Go.Proofs.Tryz.K.Vy (c:=own) (n:=C);rw[Ee] at ka;clear Ee;generalize atR own C=av at*
     have ud:(av !=av)=false:=by simp
     refine eA abd ?_;refine dJ ?_;refine o8 ka rfl aM ?_;refine bx ?_;refine aw (CC (n:=x.length) (i:=0) rfl rfl wH c3 VB) aM ⟨yu,oG,oG,by simp;omega⟩ ?_;refine SS ?_;refine o8 kb rfl aM ?_;refine SS ?_;refine cz cJ (GM (cT ?_));show aq _ _ _ _ _ _ _ _ _;refine ax ?_;exact aa (bi (i+1) (au eH) oG oG)
    .have bq:¬ i<x.length:=by simpa using h
     show aq _ _ _ _ _ _ _ _ _;refine ax ?_;exact aa (bi (k+1) (au eH) oG oG)
   .exact⟨0,au trivial⟩
  .rintro s ⟨nx,hg⟩;refine⟨_,hg,aj ?_⟩;refine cl Ns ?_;refine SS ?_;exact aa (aI rfl rfl)
 .have hz:=X he;subst hz;have uG:=M he;subst uG;refine SS ?_;refine cl wP ?_;refine SS ?_;refine aw (pw (v:=.z) rfl rfl) ak (by first|decide|simp) ?_;refine ax ?_;refine er ?_;refine ab ?_;refine cl uQ ?_;refine bx ?_;refine aa (aF (aj ?_));refine ax ?_;refine aa (qU (cx (aF (aj ?_))));have ud:(e !=0)=true:=by simpa using he
  refine ab ?_;refine aa (GN ?_);refine aF (aj ?_);refine cl Ns ?_;refine bx ?_;refine bt rfl rfl (dL (v:=.z) rfl) (fun hc=>⟨ak,trivial⟩) ?_;refine bt rfl rfl (ac2 rfl) (fun hc=>⟨ak,V.h⟩) ?_;refine ax ?_;exact aa (eQ (aI rfl rfl))
end Go.Proofs.Tryz.K
end
