/- Part 22. -/
import Derived.Test.YtnagfmlifobdiaaGreatDoorShareShapes18
import Derived.Test.YtnagfmlifobdiaaGreatDoorShareShapes20
import Derived.Test.YtnagfmlifobdiaaGreatDoorShareShapes21
set_option linter.all false
set_option maxHeartbeats 8000000
set_option maxRecDepth 10000
open List(range)
open List(replicate)
section
open Go Go.Abs Go.Proofs Go.Argus
namespace Go.Argus
theorem zL(a b:Bool):(if a=true then true else b)=(a||b):=by cases a<;>rfl
def qv(bs:List bB):List (List Int):=(range bs.length).map (mB bs bs.length)
theorem take_set{C:List Bool}{k n:Nat}{v:Bool}(h:C[k]? =some v)(hn:C.length=n):((C.take k++replicate (n - k) false).set k v)=C.take (k+1)++replicate (n - (k+1)) false:=by
 have hk:=(bX.1 h).1;have hl:(C.take k).length=k:=by simp;omega
 rw[show n - k=n - (k+1)+1 by omega,List.replicate_succ,List.set_append_right _ _ oG,hl,Nat.sub_self,List.set_cons_zero,List.take_add_one,h];simp
def nu(R:Nat)(bs:List bB)(k:Nat):List Bool:=(range R).map fun(i:Nat)=>(jT bs k).any (·==(i:Int))
theorem DV(R:Nat)(bs:List bB)(k:Nat):(nu R bs k).length=R:=by simp[nu]
theorem Hq{R i:Nat}{bs:List bB}{k:Nat}(h:i<R):(nu R bs k)[i]? =some ((jT bs k).any (·==(i:Int))):=by simp[nu,h]
theorem R7{bs:List bB}{k:Nat}{x:bB}(h:bs[k]? =some x):jT bs (k+1)=jT bs k++if x.fin.kind=7 then [x.fin.a] else []:=by
 unfold jT;rw[List.take_add_one,h,List.filter_append,List.map_append];congr 1;by_cases e:x.fin.kind=7<;>simp[e]
theorem agB{R:Nat}{bs:List bB}{k:Nat}{x:bB}(h:bs[k]? =some x)(e:¬ x.fin.kind=7):nu R bs (k+1)=nu R bs k:=by
 unfold nu;rw[R7 h,if_neg e,List.append_nil]
theorem afb{R i:Nat}{bs:List bB}{k:Nat}{x:bB}(h:bs[k]? =some x)(e:x.fin.kind=7)(ha:x.fin.a=i):nu R bs (k+1)=(nu R bs k).set i true:=by
 apply List.ext_getElem?;intro j;rw[List.getElem?_set];by_cases hj:j<R
 .rw[Hq hj,Hq hj,R7 h,if_pos e,List.any_append,ha,DV];by_cases C:i=j
  .subst C;simp[hj]
  .rw[if_neg C];have:((i:Int)==(j:Int))=false:=by simp;omega
   simp[this]
 .have h1:∀ k,(nu R bs k)[j]? =none:=fun k=>List.getElem?_eq_none (by rw[DV];omega);rw[h1,h1,DV];split
  .rw[if_neg oG]
  .rfl
theorem adq(R:Nat)(bs:List bB):nu R bs 0=replicate R false:=by
 apply List.ext_getElem?;intro j;by_cases hj:j<R
 .rw[Hq hj];simp[jT,hj]
 .rw[List.getElem?_eq_none (by rw[DV];omega),List.getElem?_eq_none oP]
def pR(p:Bool×D):List D:=[B p.1,p.2]
def dF(L:List (Bool×D)):List D:=L.flatMap pR
def Fw(c:Cert):Bool×D:=(c.any,mq c.is)
theorem BD:∀ L:List (Bool×D),(dF L).length=L.length*2
 |[]=>rfl
 |p::L=>by
  have:=BD L;unfold dF at this ⊢;rw[List.flatMap_cons,List.length_append,this];simp[pR];omega
theorem Ma:∀ {L:List (Bool×D)} {t:Nat} {p:Bool×D},L[t]? =some p->∃ r,(dF L).drop (t*2)=B p.1::p.2::r
 |[],_,_,h=>by simp at h
 |p::L,0,q,h=>by
  simp at h;subst h;exact⟨dF L,rfl⟩
 |p::L,t+1,q,h=>by
  obtain⟨r,hr⟩:=Ma (L:=L) (t:=t) (by simpa using h);refine⟨r,?_⟩;rw[show(t+1)*2=t*2+2 by omega];show(B p.1::p.2::dF L).drop (t*2+2)=_;exact hr
theorem U1:∀ {L:List (Bool×D)} {t:Nat} (q:Bool×D),t<L.length->(dF L).take (t*2)++[B q.1,q.2]++(dF L).drop (t*2+2)=dF (L.set t q)
 |[],_,_,h=>by simp at h
 |p::L,0,q,h=>rfl
 |p::L,t+1,q,h=>by
  have ih:=U1 (L:=L) (t:=t) q (by simpa using h);rw[show(t+1)*2=t*2+2 by omega,List.set_cons_succ];show B p.1::p.2::((dF L).take (t*2)++[B q.1,q.2]++(dF L).drop (t*2+2))=_;rw[ih];rfl
theorem Lh{L:List (Bool×D)}{t:Nat}(q:Bool×D)(h:t<L.length):fP (dF L) (t*2) [B q.1,q.2]=dF (L.set t q):=U1 q h
theorem ahM{L:List (Bool×D)}{t:Nat}{p:Bool×D}(h:L[t]? =some p):∃ r,(dF L).drop (t*2+0)=B p.1::p.2::r:=Ma h
theorem U2{L:List (Bool×D)}{t:Nat}{p:Bool×D}(h:L[t]? =some p):((dF L).drop (t*2)).take 2=[B p.1,p.2]:=by
 obtain⟨r,hr⟩:=Ma h;rw[hr];rfl
theorem HM(g:D->D)(hg:∀ b,g (B b)=B b):∀ L:List (Bool×D),(dF L).map g=dF (L.map fun p=>(p.1,g p.2))
 |[]=>rfl
 |p::L=>by
  show g (B p.1)::g p.2::(dF L).map g=B p.1::g p.2::_;rw[hg,HM g hg L];rfl
def ke(n N:Nat)(d:D):Nat->List (Bool×D)
 |0=>replicate N (false,.z)
 |k+1=>(true,d)::(replicate k (true,mq (replicate n false))++replicate (N - (k+1)) (false,.z))
theorem LJ{n N:Nat}{d:D}{k:Nat}(h:k<=N):(ke n N d k).length=N:=by
 cases k with
 |zero=>simp[ke]
 |succ k=>simp[ke];omega
theorem agC{n N:Nat}{d:D}(h:0<N):(ke n N d 0).set 0 (true,d)=ke n N d 1:=by
 obtain⟨M,rfl⟩:∃ M,N=M+1:=⟨N - 1,oG⟩
 simp[ke,List.replicate_succ]
theorem agD{n N:Nat}{d:D}{k:Nat}(h:k+1<N):(ke n N d (k+1)).set (k+1) (true,mq (replicate n false))=ke n N d (k+2):=by
 unfold ke;rw[List.set_cons_succ,show N - (k+1)=N - (k+1+1)+1 by omega,List.replicate_succ (n:=N - (k+1+1)),List.set_append_right _ _ oS,List.length_replicate,Nat.sub_self,List.set_cons_zero];show _=(true,d)::(replicate (k+1) _++_)
 rw[List.replicate_succ',List.append_assoc];rfl
def fF(R n N:Nat)(s:CS):List (Bool×D):=(range N).map fun k=>Fw (cH R n s k)
theorem xF(R n N:Nat)(s:CS):(fF R n N s).length=N:=by simp[fF]
theorem Bc{R n N:Nat}{s:CS}{k:Nat}(h:k<N):(fF R n N s)[k]? =some (Fw (cH R n s k)):=by simp[fF,h]
theorem abN{R n N:Nat}{s s':CS}{t:Nat}{c:Cert}(h:∀ k,cH R n s' k=if k=t then c else cH R n s k):(fF R n N s).set t (Fw c)=fF R n N s':=by
 apply List.ext_getElem?;intro j;rw[List.getElem?_set,xF];by_cases hj:j<N
 .rw[Bc hj,Bc hj,h j];by_cases e:t=j
  .subst e;simp[hj]
  .rw[if_neg e,if_neg fun h=>e h.symm]
 .have h1:∀ s,(fF R n N s)[j]? =none:=fun s=>by simp[fF];omega
  rw[h1,h1];split
  .rw[if_neg oG]
  .rfl
def EC(f:aK)(s:CS):D:=.sl (dF (fF f.ag.length (f.ag.length+f.aN.length) f.blocks.length s)) f.blocks.length
theorem Li{R n:Nat}{s:CS}{k:Nat}:(cH R n s k).is.length=n:=by
 unfold cH;split
 .exact D7 ..
 .simp
def qI(a b:Cert)(q:Nat):Bool:=(a.any==b.any)&&(range q).all fun i=>a.is.getD i false==b.is.getD i false
theorem abO(a b:Cert)(q:Nat):qI a b (q+1)=(qI a b q&&(a.is.getD q false==b.is.getD q false)):=by
 unfold qI;rw[List.range_succ,List.all_append,Bool.and_assoc];simp
theorem adu{a b:Cert}{n:Nat}(ha:a.is.length=n)(hb:b.is.length=n):qI a b n=true↔a.any=b.any/\a.is=b.is:=by
 unfold qI;rw[aB,beq_iff_eq,bT];refine and_congr_right fun _=>⟨fun h=>?_,fun h k hk=>by rw[h];simp⟩
 apply List.ext_getElem?;intro j;by_cases hj:j<n
 .have:=h j (by simpa using hj);have h1:a.is[j]? =some a.is[j]:=bc oG;have h2:b.is[j]? =some b.is[j]:=bc oG;rw[getD_some h1,getD_some h2,beq_iff_eq] at this;rw[h1,h2,this]
 .rw[List.getElem?_eq_none oG,List.getElem?_eq_none oG]
theorem TR:∀ n:Nat,dM n [B false,.z]=dF (replicate n (false,.z))
 |0=>rfl
 |n+1=>by
  have:=TR n;unfold dM at this ⊢;rw[List.replicate_succ,List.replicate_succ,List.flatten_cons,this];rfl
theorem U3:∀ {L:List (Bool×D)},(∀ p∈L,Tr p.2)->∀ x∈dF L,Tr x
 |[],_,x,h=>by simp[dF] at h
 |p::L,hp,x,h=>by
  have h:x∈B p.1::p.2::dF L:=h;rcases List.mem_cons.1 h with rfl|h
  .exact .s _
  .rcases List.mem_cons.1 h with rfl|h
   .exact hp p oS
   .exact U3 (fun q hq=>hp q (by simp[hq])) x h
theorem afc(f:aK)(s:CS):Tr (EC f s):=.sl (U3 fun p hp=>by
 obtain⟨k,_,rfl⟩:=List.mem_map.1 hp
 exact .sl (.map fun _=>.s _))
theorem afd{n N i:Nat}{cs:List D}{sz:Nat}(h:i≠2)(k:Nat):(ke n N (.rs 2 0 n) k).map (fun p=>(p.1,sub (dh i cs sz) p.2))=ke n N (.rs 2 0 n) k:=by
 cases k with
 |zero=>simp only[ke,List.map_replicate];rfl
 |succ k=>
  simp only[ke,List.map_cons,List.map_append,List.map_replicate,xK (Ne.symm h)];rfl
theorem agE{n N i k:Nat}(h:i≠2)(hk:k+1<N):(dF ((ke n N (.rs 2 0 n) (k+1)).set (k+1) (true,.rs i 0 n))).map (sub (dh i ((replicate n false).map B) 1))=dF (ke n N (.rs 2 0 n) (k+2)):=by
 rw[HM _ (fun _=>rfl),List.map_set,afd h,yq,List.drop_zero,cO oS, <- agD hk];congr 3;show _=D.sl _ _;rw[List.length_replicate]
def pS(n N:Nat):List (Bool×D):=replicate (N - 1) (true,mq (replicate n false))
theorem agF{n N:Nat}{d:D}(h:0<N):ke n N d N=(true,d)::pS n N:=by
 obtain⟨M,rfl⟩:∃ M,N=M+1:=⟨N - 1,oG⟩
 simp[ke,pS]
theorem SW{n N:Nat}(h:0<N):(pS n N).length+1=N:=by simp[pS];omega
theorem aod{n N i:Nat}{cs:List D}{sz:Nat}:(pS n N).map (fun p=>(p.1,sub (dh i cs sz) p.2))=pS n N:=by
 unfold pS;rw[List.map_replicate];rfl
theorem aaV{R n N args:Nat}(h0:cH R n (lz N args) 0=⟨false,replicate args true++replicate (n - args) false⟩)(h1:∀ k,0<k->k<N->cH R n (lz N args) k=⟨true,replicate n false⟩)(C:0<N):
 fF R n N (lz N args)=(false,mq (replicate args true++replicate (n - args) false))::pS n N:=by
 apply List.ext_getElem?;intro j;by_cases hj:j<N
 .rw[Bc hj];cases j with
  |zero=>rw[h0];rfl
  |succ j=>
   rw[h1 _ oG hj,List.getElem?_cons_succ];unfold pS;rw[List.getElem?_replicate,if_pos oG];rfl
 .rw[List.getElem?_eq_none (by rw[xF];omega),List.getElem?_eq_none (by have:=SW (n:=n) C;simp;omega)]
theorem Mb{R n N i sz:Nat}{cs:List D}{e:TypeId}{s:CS}:Row.sub (dh i cs sz) (.cells (dF (fF R n N s)) e)=.cells (dF (fF R n N s)) e:=by
 refine congrArg (fun c=>Row.cells c e) ((HM _ (fun _=>rfl) _).trans (congrArg dF ?_));unfold fF;rw[List.map_map];rfl
def Oj(f:aK)(n N:Nat):Nat->St
 |0=>⟨aF [(1,.pt (aH f)),(3,I n),(4,.rs 1 0 N),(5,I (0:Nat))],bJ [(1,.cells (dF (ke n N (.rs 2 0 n) 0)) 163)],2⟩
 |k+1=>⟨aF [(1,.pt (aH f)),(3,I n),(4,.rs 1 0 N),(5,I (k+1:Nat))],bJ [(1,.cells (dF (ke n N (.rs 2 0 n) (k+1))) 163),(2,.cells ((replicate n false).map B) 4)],k+3⟩
end Go.Argus
namespace Go.Proofs.Tryz.K
section
variable{f:aK}{hd:D}(ht:Tr hd)(dc:hd.one=true)
include ht dc
theorem Fv{x:Argus.End}(hw:∀ w∈x.aC,w.name.size<=maxLen)(hn:f.blocks.length<=1200):az prog 197 [.agg (cu f hd),.agg (a8 x)] (B (kz f x)):=by
 have iT:∀ {b:Int},az prog 138 [.agg (cu f hd),I b] (B (cv f b)):=fun {b}=>iT ht dc hn;have bx:∀ a∈[D.agg (cu f hd),.agg (a8 x)],Tr a:=.cons (.agg (wC ht f)) (.cons (.agg (mr x)) .nil);refine bu aln bx (Tr.s _) ?_;rw[alo];refine ay ?_;refine av ?_;refine ab (aX (bZ [(0,cu f hd,206),(1,a8 x,57)] eH (l:=[(2,.pt (cu f hd)),(3,.pt (a8 x))]) eH) (aI (aj ?_)));have hh:kz f x=(EB f x.aC&&(decide ((x.aC.length:Int)<=7)&&(decide (x.others= -1)||cv f x.others))):=rfl;rw[hh];clear hh;generalize O:cv f x.others=bo;have M:az prog 138 [.agg (cu f hd),I x.others] (B bo):=O▸iT;clear O;have J:= @iT;clear iT;have iT:=M;refine bj ?_;refine av ?_;refine gc iT ?_;refine av ?_;refine ab (dZ rfl (fun h=>?_) fun h=>cX (aI (ay ?_)))
 .refine aI (aj ?_);refine SS ?_;refine ab (eb (aw (d:=B false) rfl ?_))
  have h2:(decide ((x.aC.length:Int)<=7)&&(decide (x.others= -1)||bo))=false:=by
   revert h;cases bo<;>simp<;>grind
  rw[h2,Bool.and_false]
 have h2:(decide ((x.aC.length:Int)<=7)&&(decide (x.others= -1)||bo))=true:=by
  revert h;cases bo<;>simp<;>grind
 have h7:x.aC.length<=7:=by
  rw[aB,decide_eq_true_eq] at h2;omega
 rw[h2,Bool.and_true];clear h h2 iT M;refine SS ?_
 refine ab (cD (fun s=>aM prog s ⟨aF [],fun _=>none,2⟩/\∀ (j:Nat) y,x.aC[j]? =some y->nX f x.aC j y=true) (dD (α:=Nat) (fun k=>⟨aF [(2,.pt (cu f hd)),(3,.pt (a8 x)),(5,I k)],fun _=>none,2⟩)
  (fun k=>k<=x.aC.length/\∀ j y,j<k->x.aC[j]? =some y->nX f x.aC j y=true) (fun k=>x.aC.length - k) 0 (ao eH) ⟨oG,fun j y hj=>by omega⟩ ?_) ?_)
 .rintro k ⟨hk,hinv⟩;refine bm ?_;refine ab ⟨_,rfl,fun h=>?_,fun h=>?_⟩
  .have al:k<x.aC.length:=by simpa using h
   have hx:x.aC[k]? =some x.aC[k]:=bc al;have o5:=o5 (hw _ (di al));generalize x.aC[k]=w at hx o5;have C:nX f x.aC k w=(isName w.name&&(cv f w.to&& !(x.aC.take k).any fun v=>v.name.toList==w.name.toList)):=rfl;have iT:= @J w.to;generalize isName w.name=a at o5 C;generalize cv f w.to=b at iT C;refine aI (ej adn ?_);refine cG ?_;refine cl o5 ?_;refine cG ?_;refine cq rfl rfl (vZ rfl rfl V.h V.h (DQ) oN) (fun hc=>⟨ak,(v8 V.h (DQ) oN)⟩) ?_;refine af ?_;refine gc iT ?_;refine af ?_;refine bN bO (dZ rfl (fun hp=>?_) fun hp=>cX (ay ?_))
   .refine aI (aj ?_);refine SS ?_;refine ab (eb (cZ (a6 (aw (d:=B false) rfl ?_))))
    have:nX f x.aC k w=false:=by
     rw[C];revert hp;cases a<;>cases b<;>simp
    rw[KR hx this]
   have rz:a=true/\b=true:=by revert hp;cases a<;>cases b<;>simp
   obtain⟨rfl,rfl⟩:=rz;refine SS ?_
   refine ab (dD (α:=Nat) (fun q=>⟨aF [(2,.pt (cu f hd)),(3,.pt (a8 x)),(5,I k),(6,I q)],fun _=>none,2⟩)
    (fun q=>q<=k/\∀ j y,j<q->x.aC[j]? =some y->(y.name.toList==w.name.toList)=false) (fun q=>k - q) 0 (ao eH) ⟨oG,fun j y hj=>by omega⟩ ?_)
   rintro q ⟨hq,X⟩;refine av ?_;refine ab ⟨_,rfl,fun h=>?_,fun h=>?_⟩
   .have AV:q<k:=by simpa using h
    have hy:x.aC[q]? =some x.aC[q]:=bc oG;generalize x.aC[q]=y at hy;refine ej abF ?_;refine bj ?_;refine av ?_;refine Yq ?_;refine bN bO (ap rfl (fun hp=>?_) fun hp=>?_)
    .refine ws ?_;refine SS ?_;refine ab (bp (cZ (cZ (a6 (aw (d:=B false) rfl ?_)))))
     have:nX f x.aC k w=false:=by
      rw[C,List.any_eq_true.2 ⟨y,cx (i:=q) (by rw[List.getElem?_take,if_pos AV,hy]),hp⟩];rfl
     rw[KR hx this]
    .refine dE ?_;refine av ?_;refine ab (bg (q+1) (ao eH) ⟨oG,fun j z hj hz=>?_⟩ oG);by_cases e:j=q
     .subst e;rw[hy] at hz;cases hz;exact hp
     .exact X j z oG hz
   .have bG:¬ q<k:=by simpa using h
    have:q=k:=by omega
    subst this;show ax _ _ _ _ _ _ _ _ _;refine av ?_;refine ab (bg (q+1) (ao eH) ⟨oG,fun j z hj hz=>?_⟩ oG);by_cases e:j=q
    .subst e;rw[hx] at hz;cases hz;rw[C]
     have:((x.aC.take j).any fun v=>v.name.toList==w.name.toList)=false:=List.any_eq_false.2 fun v hv=>by
      obtain⟨i,hi⟩:=dR hv;have U:i<j:=by have:=(bX.1 hi).1;simp at this;omega
      rw[List.getElem?_take,if_pos U] at hi;rw[X i v U hi];simp
     rw[this];rfl
    .exact hinv j z oG hz
  .have bG:¬ k<x.aC.length:=by simpa using h
   exact⟨.forget _ _ _ _ fun _=>.inr rfl,fun j y hy=>hinv j y (by have:=(bX.1 hy).1;omega) hy⟩
 .rintro s ⟨hg,bQ⟩;refine⟨_,hg,aj ?_⟩;refine SS ?_;refine ab (aw (d:=B true) rfl ?_);rw[RD bQ]
theorem JH{x:Argus.End}(Qi:x.name.size<=maxLen)(hw:∀ w∈x.aC,w.name.size<=maxLen)(hn:f.blocks.length<=1200):az prog 140 [.agg (cu f hd),.agg (a8 x)] (B (iz f x)):=by
 have iT:∀ {b:Int},az prog 138 [.agg (cu f hd),I b] (B (cv f b)):=fun {b}=>iT ht dc hn;have cm:∀ {r k:Int},az prog 191 [.agg (cu f hd),I r,U8 k] (B (bD f r k)):=fun {r k}=>cm ht dc;have vf:∀ {l:List Int},az prog 193 [.agg (cu f hd),aT l] (B (ie f.ag l)):=fun {l}=>vf ht dc;have Pv:az prog 196 [.agg (cu f hd),.agg (bA x.ins)] (B (l8 f x.ins)):=Pv ht dc;have Fv:=Fv ht dc hw hn;have Ar:=Ar Qi;have o5:=o5 Qi;have bx:∀ a∈[D.agg (cu f hd),.agg (a8 x)],Tr a:=.cons (.agg (wC ht f)) (.cons (.agg (mr x)) .nil);refine bu alq bx (Tr.s _) ?_;rw[alr];refine ws ?_;refine av ?_;refine ab (ay ?_);refine aR ?_;refine ab (aX (bZ [(0,cu f hd,206),(1,a8 x,57),(2,aH f,48)] eH (l:=[(2,.pt (cu f hd)),(3,.pt (a8 x)),(5,.pt (aH f))]) eH) (aI (aj ?_)));refine af ?_;refine ab (ou ?_);refine ws ?_;refine af ?_;refine ab (ap rfl (fun h1=>?_) fun h1=>?_)
 .have h1:x.kind=1:=by simpa using h1
  have fy:az prog 195 [.agg (a8 x),S ⟨#[116]⟩] (B (eg x [116])):=fy oC;refine ws ?_;refine SS ?_;refine cl fy ?_;refine aR ?_;refine gc iT ?_;refine af ?_;refine ab (bp (bU (a6 (aw (d:=.s (.bool _)) rfl ?_))));have e:iz f x=(eg x [116]&&cv f x.to):=by rw[iz,if_pos h1]
  rw[e];simp only[iL,zL,Bool.and_assoc,aQ,ib]
 have h1:¬ x.kind=1:=by simpa using h1
 refine ws ?_;refine af ?_;refine ab (ap rfl (fun h2=>?_) fun h2=>?_)
 .have h2:x.kind=2:=by simpa using h2
  have fy:az prog 195 [.agg (a8 x),S ⟨#[97,116,101]⟩] (B (eg x [97,116,101])):=fy oC;refine ws ?_;refine SS ?_;refine cl fy ?_;refine aR ?_;refine gc cm ?_;refine bm ?_;refine gc iT ?_;refine bm ?_;refine gc iT ?_;refine af ?_;refine ab (bp (bU (a6 (aw (d:=.s (.bool _)) rfl ?_))));have e:iz f x=(eg x [97,116,101]&&(bD f x.a 119&&(cv f x.to&&cv f x.fL))):=by rw[iz,if_neg h1,if_pos h2]
  rw[e];simp only[iL,zL,Bool.and_assoc,aQ,ib]
 have h2:¬ x.kind=2:=by simpa using h2
 refine ws ?_;refine af ?_;refine ab (ap rfl (fun C=>?_) fun C=>?_)
 .have C:x.kind=3:=by simpa using C
  have fy:az prog 195 [.agg (a8 x),S ⟨#[97]⟩] (B (eg x [97])):=fy oC;have hv:iz f x=if f.iter=true\/f.result=0 then eg x [97]&&aQ x.a (-1) else eg x [97]&&(bD f x.a 118&&aQ (cB f.ag x.a) f.result):=by rw[iz,if_neg h1,if_neg h2,if_pos C]
  rw[hv];clear hv;refine aI (aj ?_);refine fB ?_;refine ab (dZ rfl (fun h=>?_) fun h=>cX ?_)
  .have qb:f.iter=true\/f.result=0:=by revert h;cases f.iter<;>simp
   rw[if_pos qb];refine aI (aj ?_);refine SS ?_;refine cl fy ?_;refine cG ?_;refine ab (eb (bU (a6 (aw (d:=.s (.bool _)) rfl ?_))));simp only[iL,aQ,ib]
  .have qb:¬ (f.iter=true\/f.result=0):=by revert h;cases f.iter<;>simp
   rw[if_neg qb];clear qb h;obtain⟨xk,xa,xb,xt,xe,xn,xi,xs,xw,xo⟩:=x;dsimp only at*
   refine ej abG ?_;generalize eg _ [97]=bv at fy;cases bv with
   |false=>
    refine SS ?_;refine cl fy ?_;refine SS ?_;(iterate 4 refine z fun _ _=>?_);refine af ?_;(iterate 9 refine z fun _ _=>?_);refine af ?_;exact bN bO (bp (bU (a6 (aw rfl rfl))))
   |true=>
    have X:= @cm xa 118;cases hv:bD f xa 118 with
    |false=>
     rw[hv] at X;have cm:=X;refine SS ?_;refine cl fy ?_;refine aR ?_;refine gc cm ?_;refine af ?_;(iterate 9 refine z fun _ _=>?_);refine af ?_;exact bN bO (bp (bU (a6 (aw rfl rfl))))
    |true=>
     rw[hv] at X;have cm:=X;obtain⟨i,hi,rfl⟩:=mj (mZ hv);have hx:f.ag[i]? =some f.ag[i]:=bc hi;have Gt:=ug hx;rw[Gt];generalize f.ag[i]=y at hx;refine SS ?_;refine cl fy ?_;refine aR ?_;refine gc cm ?_;refine bj ?_;refine aR ?_;refine bN bO (bp (bU (a6 (aw (d:=.s (.bool _)) rfl ?_))));rfl
 have C:¬ x.kind=3:=by simpa using C
 refine ws ?_;refine af ?_;refine ab (ap rfl (fun J=>?_) fun J=>?_)
 .have J:x.kind=4:=by simpa using J
  have fy:az prog 195 [.agg (a8 x),S ⟨#[110]⟩] (B (eg x [110])):=fy oC;refine ws ?_;refine SS ?_;refine cl fy ?_;refine av ?_;refine gc o5 ?_;refine af ?_;refine ab (bp (bU (a6 (aw (d:=.s (.bool _)) rfl ?_))));have e:iz f x=(eg x [110]&&isName x.name):=by rw[iz,if_neg h1,if_neg h2,if_neg C,if_pos J]
  rw[e];simp only[iL,zL,Bool.and_assoc,aQ,ib]
 have J:¬ x.kind=4:=by simpa using J
 refine ws ?_;refine af ?_;refine ab (ap rfl (fun M=>?_) fun M=>?_)
 .have M:x.kind=5:=by simpa using M
  have fy:az prog 195 [.agg (a8 x),S ⟨#[116,105,104]⟩] (B (eg x [116,105,104])):=fy oC;refine ws ?_;refine SS ?_;refine cl fy ?_;refine aR ?_;refine gc Pv ?_;refine bm ?_;refine gc iT ?_;refine aR ?_;refine gc Fv ?_;refine af ?_;refine ab (bp (bU (a6 (aw (d:=.s (.bool _)) rfl ?_))));have e:iz f x=(eg x [116,105,104]&&(l8 f x.ins&&(cv f x.to&&kz f x))):=by rw[iz,if_neg h1,if_neg h2,if_neg C,if_neg J,if_pos M]
  rw[e];simp only[iL,zL,Bool.and_assoc,aQ,ib]
 have M:¬ x.kind=5:=by simpa using M
 refine ws ?_;refine af ?_;refine ab (ap rfl (fun O=>?_) fun O=>?_)
 .have O:x.kind=6:=by simpa using O
  have fy:az prog 195 [.agg (a8 x),S ⟨#[97,116,110,108,104]⟩] (B (eg x [97,116,110,108,104])):=fy oC;refine ws ?_;refine SS ?_;refine cl fy ?_;refine av ?_;refine gc Ar ?_;refine bj ?_;refine af ?_;refine gc vf ?_;refine bj ?_;refine gc cm ?_;refine cG ?_;refine gc iT ?_;refine aR ?_;refine gc Fv ?_;refine af ?_;refine ab (bp (bU (a6 (aw (d:=.s (.bool _)) rfl ?_))));have e:iz f x=(eg x [97,116,110,108,104]&&(jr x.name&&(decide ((x.args.length:Int)<=6)&&(ie f.ag x.args&&((aQ x.a (-1)||bD f x.a 118)&&(cv f x.to&&kz f x)))))):=by rw[iz,if_neg h1,if_neg h2,if_neg C,if_neg J,if_neg M,if_pos O]
  rw[e];simp only[iL,zL,Bool.and_assoc,aQ,ib]
 have O:¬ x.kind=6:=by simpa using O
 refine ws ?_;refine af ?_;refine ab (ap rfl (fun U=>?_) fun U=>?_)
 .have U:x.kind=7:=by simpa using U
  have fy:az prog 195 [.agg (a8 x),S ⟨#[97,116,110,108]⟩] (B (eg x [97,116,110,108])):=fy oC;refine ws ?_;refine SS ?_;refine cl fy ?_;refine av ?_;refine gc Ar ?_;refine bj ?_;refine af ?_;refine gc vf ?_;refine bm ?_;refine gc cm ?_;refine bm ?_;refine gc iT ?_;refine af ?_;refine ab (bp (bU (a6 (aw (d:=.s (.bool _)) rfl ?_))));have e:iz f x=(eg x [97,116,110,108]&&(jr x.name&&(decide ((x.args.length:Int)<=6)&&(ie f.ag x.args&&(bD f x.a 105&&cv f x.to))))):=by rw[iz,if_neg h1,if_neg h2,if_neg C,if_neg J,if_neg M,if_neg O,if_pos U]
  rw[e];simp only[iL,zL,Bool.and_assoc,aQ,ib]
 have U:¬ x.kind=7:=by simpa using U
 refine ws ?_;refine af ?_;refine ab (ap rfl (fun h8=>?_) fun h8=>?_)
 .have h8:x.kind=8:=by simpa using h8
  have fy:az prog 195 [.agg (a8 x),S ⟨#[97,98,116,101,104]⟩] (B (eg x [97,98,116,101,104])):=fy oC;refine ws ?_;refine SS ?_;refine cl fy ?_;refine aR ?_;refine gc cm ?_;refine bm ?_;refine gc cm ?_;refine bm ?_;refine gc iT ?_;refine bm ?_;refine gc iT ?_;refine aR ?_;refine gc Fv ?_;refine af ?_;refine ab (bp (bU (a6 (aw (d:=.s (.bool _)) rfl ?_))));have e:iz f x=(eg x [97,98,116,101,104]&&(bD f x.a 105&&(bD f x.b 118&&(cv f x.to&&(cv f x.fL&&kz f x))))):=by rw[iz,if_neg h1,if_neg h2,if_neg C,if_neg J,if_neg M,if_neg O,if_neg U,if_pos h8]
  rw[e];simp only[iL,zL,Bool.and_assoc,aQ,ib]
 have h8:¬ x.kind=8:=by simpa using h8
 refine ws ?_;refine af ?_;refine ab (ap rfl (fun h9=>?_) fun h9=>?_)
 .have h9:x.kind=9:=by simpa using h9
  have fy:az prog 195 [.agg (a8 x),S ⟨#[97,116]⟩] (B (eg x [97,116])):=fy oC;have hv:iz f x=(eg x [97,116]&&(f.iter&&(bD f x.a 118&&(aQ (cB f.ag x.a) f.result&&cv f x.to)))):=by rw[iz,if_neg h1,if_neg h2,if_neg C,if_neg J,if_neg M,if_neg O,if_neg U,if_neg h8,if_pos h9]
  rw[hv];clear hv;obtain⟨xk,xa,xb,xt,xe,xn,xi,xs,xw,xo⟩:=x;dsimp only at*
  refine ej abH ?_;generalize eg _ [97,116]=bv at fy;have X:= @cm xa 118;have kb:= @iT xt;generalize cv f xt=bb at kb;have iT:=kb;cases bv with
  |false=>
   refine SS ?_;refine cl fy ?_;refine SS ?_;(iterate 2 refine z fun _ _=>?_);refine af ?_;(iterate 4 refine z fun _ _=>?_);refine af ?_;(iterate 9 refine z fun _ _=>?_);refine af ?_;(iterate 4 refine z fun _ _=>?_);refine af ?_;exact bN bO (bp (bU (a6 (aw rfl rfl))))
  |true=>
   obtain⟨fnm,fi,fa,fr,fg,fs,fz,fb⟩:=f;dsimp only at*
   cases fi with
   |false=>
    refine SS ?_;refine cl fy ?_;refine bm ?_;(iterate 4 refine z fun _ _=>?_);refine af ?_;(iterate 9 refine z fun _ _=>?_);refine af ?_;(iterate 4 refine z fun _ _=>?_);refine af ?_;exact bN bO (bp (bU (a6 (aw rfl rfl))))
   |true=>
    cases hv:bD ⟨fnm,true,fa,fr,fg,fs,fz,fb⟩ xa 118 with
    |false=>
     rw[hv] at X;have cm:=X;refine SS ?_;refine cl fy ?_;refine cP ?_;refine gc cm ?_;refine af ?_;(iterate 9 refine z fun _ _=>?_);refine af ?_;(iterate 4 refine z fun _ _=>?_);refine af ?_;exact bN bO (bp (bU (a6 (aw rfl rfl))))
    |true=>
     rw[hv] at X;have cm:=X;obtain⟨i,hi,rfl⟩:=mj (mZ hv);have hx:fg[i]? =some fg[i]:=bc hi;have Gt:=ug hx;rw[Gt];generalize fg[i]=y at hx;cases KA:decide (y=fr) with
     |false=>
      have ki:(y==fr)=false:=by simpa using KA
      refine SS ?_;refine cl fy ?_;refine cP ?_;refine gc cm ?_;refine bj ?_;refine aR ?_;(iterate 4 refine z fun _ _=>?_);refine af ?_;refine bN bO (bp (bU (a6 (aw (d:=.s (.bool _)) rfl ?_))));simp[aQ,KA]
     |true=>
      have ki:(y==fr)=true:=by simpa using KA
      refine SS ?_;refine cl fy ?_;refine cP ?_;refine gc cm ?_;refine bj ?_;refine fB ?_;refine gc iT ?_;refine af ?_;refine bN bO (bp (bU (a6 (aw (d:=.s (.bool _)) rfl ?_))));simp[aQ,KA]
 have h9:¬ x.kind=9:=by simpa using h9
 refine nS (aj ?_);refine SS ?_;refine ab (aw (d:=.s (.bool _)) rfl ?_);rw[iz,if_neg h1,if_neg h2,if_neg C,if_neg J,if_neg M,if_neg O,if_neg U,if_neg h8,if_neg h9]
end
theorem vm{f:aK}{b:Nat}{x:Argus.bB}(hx:f.blocks[b]? =some x)(X:x.fin.aC.length<=100):az prog 141 [.agg (aH f),I b] (aT (qG x.fin)):=by
 have se:=se (x:=x.fin) oG;have M:=Ha x.fin;refine bu als (.cons (.agg (gA f)) (.cons (.s _) .nil)) (dU _) ?_;rw[alu];refine ay ?_;refine af ?_;refine ab (aX (bZ [(0,aH f,48)] eH (l:=[(1,I b),(2,.pt (aH f))]) eH) (ay ?_));refine SS ?_;refine ab ⟨_,(aM.sU _ _ _ 5 3 rfl).trans (bZ [(1,[],3)] ⟨an _ _ _,trivial⟩ (l:=[(1,I b),(2,.pt (aH f)),(5,aT [])]) ⟨rfl,rfl,lT (sz:=1) c3 rfl,trivial⟩),aj ?_⟩;unfold qG;generalize fv x.fin=l at se M;refine cG ?_;refine cl se ?_;refine SS ?_;refine ab (aI (ay ?_));refine SS ?_
 refine ab (cD (fun s=>aM prog s ⟨aF [(5,aT (s9 l))],fun _=>none,2⟩) (dD (α:=Nat) (fun k=>⟨aF [(5,aT (s9 (l.take k))),(6,aT l),(7,I k)],fun _=>none,2⟩)
  (fun k=>k<=l.length) (fun k=>l.length - k) 0 (ao eH) oG ?_) ?_)
 .intro k hk;have J:=(DU (l:=l.take k) (z:=[]) .nil).2.2;have C:∀ t,l[k]? =some t->s9 (l.take (k+1))=ll (s9 (l.take k)) t:=fun t ht=>rI ht;have O:k=l.length->s9 (l.take k)=s9 l:=fun e=>by rw[e,List.take_length]
  change (s9 (l.take k)).length<=_ at J
  rw[List.length_take,List.length_nil] at J;generalize s9 (l.take k)=c at J C O;refine aR ?_;refine ab ⟨_,rfl,fun h=>?_,fun h=>?_⟩
  .have al:k<l.length:=by simpa using h
   have hy:l[k]? =some l[k]:=bc al;have C:=C _ hy;generalize l[k]=t at hy C;have Pt:=Pt (l:=c) (n:=t) oG;refine jn ?_;refine bm ?_;refine cl Pt ?_;refine SS ?_;refine ab ?_;refine av ?_;refine ab (bg (k+1) (ao ⟨?_,rfl,rfl,trivial⟩) oG oG);rw[C];rfl
  .have U:¬ k<l.length:=by simpa using h
   rw[<- O oG];exact ao eH
 .intro s hg;refine⟨_,hg,aj ?_⟩;refine af ?_;exact ab (aw rfl rfl)
theorem yP{f:aK}{n:Nat}(hn:f.blocks.length=n)(rk:n<=100000)(hw:∀ b∈f.blocks,b.fin.aC.length<=9)(ht:∀ b∈f.blocks,∀ t∈qG b.fin,0<=t/\t<n):
 az prog 103 [.agg (aH f)] (dC (qv f.blocks)):=by
 have bx:∀ a∈[D.agg (aH f)],Tr a:=.cons (.agg (gA f)) .nil;refine bu alv bx (Hn _) ?_;rw[alw];refine ay ?_;refine af ?_;refine ab (aX (bZ [(0,aH f,48)] eH (l:=[(1,.pt (aH f))]) eH) (ay ?_));refine av ?_;refine cR (D0 rfl rfl V.h V.h) ak ⟨oG,rfl,oG,by rw[QD];omega,V.h⟩ ?_;refine SS ?_;have eO:((f.blocks.length:Nat):Int).toNat=n:=hn;refine ab (aX (aY (l:=[(1,.pt (aH f)),(3,.rs 1 0 n)]) (ml:=[(1,.cells (replicate n .z) 43)]) ⟨rfl,congrArg (fun k=>D.rs 1 0 k) eO,trivial⟩ ⟨?_,trivial⟩) (aI (ay ?_)))
 .exact congrArg (fun c=>some (Row.cells c 43)) ((congrArg (fun k=>dM k [D.z]) eO).trans (UW n))
 refine SS ?_
 refine ab (cD (fun s=>∃ m nx ρ,aM prog s ⟨aF [(3,.rs 1 0 n)],m,nx⟩/\pk m nx 1 n 43 3 ρ (fun i=>(mB f.blocks n i).map I)) (dD (α:=Nat×Mem×Nat)
  (fun k=>⟨aF [(1,.pt (aH f)),(3,.rs 1 0 n),(4,I k.1)],k.2.1,k.2.2⟩)
  (fun k=>k.1<=n/\(∃ ρ,pk k.2.1 k.2.2 1 n 43 3 ρ (fun i=>(mB f.blocks k.1 i).map I))/\∀ i,(mB f.blocks k.1 i).length<=12*k.1) (fun k=>n - k.1) (0,bJ [(1,.cells (replicate n .z) 43)],2)
  (ao eH) ⟨Nat.zero_le _,⟨fun _=>0,TM (show 1<2 by decide) rfl⟩,fun _=>bM _⟩ ?_) ?_)
 .rintro⟨k,m,nx⟩ ⟨hk,⟨ρ,C⟩,hlen⟩;dsimp only at hk C hlen ⊢;have aA:=C.row;have dK:=C.AU;refine bm ?_;refine ab ⟨_,rfl,fun h=>?_,fun h=>?_⟩
  .have al:k<n:=by simpa[hn] using h
   have hx:f.blocks[k]? =some f.blocks[k]:=bc oG;have U:f.blocks[k]∈f.blocks:=di _;have vm:=vm hx (by have:=hw _ U;omega);generalize f.blocks[k]=x at hx U vm
   have dn:mB f.blocks (k+1)=(qG x.fin).foldl (fY k) (mB f.blocks k):=by
    rw[mB,List.range_succ,List.foldl_append];show Ei f.blocks _ k=_;rw[Ei,hx];rfl
   generalize mB f.blocks k=L0 at C hlen aA dn;have gm:=ht x U;have me:=ado x.fin;have Zp:=hw x U;generalize qG x.fin=l at vm gm me dn;refine ws ?_;refine af ?_;refine cl vm ?_;refine SS ?_;refine ab (ay ?_);refine SS ?_
   refine ab (dD (α:=Nat×Mem×Nat)
    (fun j=>⟨aF [(1,.pt (aH f)),(3,.rs 1 0 n),(4,I k),(5,aT l),(6,I j.1)],j.2.1,j.2.2⟩)
    (fun j=>j.1<=l.length/\(∃ ρ,pk j.2.1 j.2.2 1 n 43 3 ρ (fun i=>((l.take j.1).foldl (fY k) L0 i).map I))/\∀ i,((l.take j.1).foldl (fY k) L0 i).length<=12*k+j.1) (fun j=>l.length - j.1) (0,m,nx)
    (ao eH) ⟨Nat.zero_le _,⟨ρ,C⟩,hlen⟩ ?_)
   clear C aA hlen;rintro⟨j,m,nx⟩ ⟨hj,⟨ρ,C⟩,hlen⟩;dsimp only at hj C hlen ⊢;have aA:=C.row;have dK:=C.AU;have O:∀ t,l[j]? =some t->(l.take (j+1)).foldl (fY k) L0=fY k ((l.take j).foldl (fY k) L0) t:=fun t ht=>rI ht;have s6:j=l.length->(l.take j).foldl (fY k) L0=mB f.blocks (k+1):=fun e=>by rw[dn,cO oG]
   generalize (l.take j).foldl (fY k) L0=L at C hlen aA O s6;refine aR ?_;refine ab ⟨_,rfl,fun h=>?_,fun h=>?_⟩
   .have Fo:j<l.length:=by simpa using h
    have Gl:l[j]? =some l[j]:=bc Fo;have tU:=gm _ (di Fo);generalize l[j]=t at Gl tU;obtain⟨i,rfl⟩:=iG tU.1;have J:i<n:=by omega
    have hL:=hlen i;have O:(l.take (j+1)).foldl (fY k) L0=up L i (L i++[(k:Int)]):=O _ Gl
    have uG:∀ i,((l.take (j+1)).foldl (fY k) L0 i).length<=12*k+(j+1):=fun a=>by
     rw[O];exact Lf (t:=(i:Int)) hlen a
    have Gm:(fun a=>((l.take (j+1)).foldl (fY k) L0 a).map I)=up (fun a=>(L a).map I) i ((L i++[(k:Int)]).map I):=by rw[O];exact V1
    obtain⟨cs,kd⟩:=TL (ρ:=ρ) (L:=fun i=>(L i).map I) J;refine Bz adp ?_;by_cases hz:L i=[]
    .have X:jc (ρ i) ((L i).map I)=.z:=by rw[hz];rfl
     rw[X] at kd;refine bj ?_;refine cG ?_;refine aq (rP rfl rfl (au oG (au oG aA)) V.h V.h) ak ⟨V.h,oG⟩ ?_;refine dA (jR (d:=.rs _ _ _) (cs':=_) rfl rfl (au oG (au oG aA)) rfl rfl) ak (ef V.h V.h (by first|(simp;done)|exact⟨rfl,bt rfl⟩|(simp;omega)) rfl) ?_;refine bN bO ?_;refine av ?_;refine ab (bg (j+1,up (up (up m nx (some (.cells [I k] 3))) (nx+1) (some (.cells [I k] 3))) 1 (some (.cells ((qV ρ (fun i=>(L i).map I) n).set i (.rs (nx+1) 0 1)) 43)),nx+2) (ao eH) ⟨oM,⟨up ρ i (nx+1),?_⟩,uG⟩ oM);dsimp only;rw[Gm];refine C.Kt J oS oG oG ?_ ?_ (fun q hq zj _=>?_)
     .rw[hz];exact an _ _ _
     .rw[hz];exact au oG (an _ _ _)
     .exact au oG (au oG (au oG rfl))
    .have M:(L i).map I≠[]:=by simpa using hz
     have X:jc (ρ i) ((L i).map I)=.rs (ρ i) 0 (L i).length:=by rw[EO M,List.length_map]
     rw[X] at kd;have mF:=C.Fm i J M;have hρn:=C.lt i J M;have hρ1:=C.ne i J M;refine bj ?_;refine cG ?_;refine aq (rP rfl rfl (au oG (au oG (au oG aA))) V.h V.h) ak ⟨V.h,oG⟩ ?_;refine dA (jR (d:=.rs _ _ _) (cs':=_) rfl rfl (au oG (au oG (au oG aA))) rfl rfl) ak (ef V.h V.h (by first|(simp;done)|exact⟨rfl,bt rfl⟩|(simp;omega)) rfl) ?_;refine bN bO ?_;refine av ?_;refine ab (bg (j+1,up (up (up (up m nx (some (.cells [I k] 3))) (ρ i) none) (nx+1) (some (.cells ((L i).map I++[I k]) 3))) 1 (some (.cells ((qV ρ (fun i=>(L i).map I) n).set i (.rs (nx+1) 0 ((L i).length+1))) 43)),nx+2) (ao eH) ⟨oM,⟨up ρ i (nx+1),?_⟩,uG⟩ oM);dsimp only;rw[Gm];refine C.Kt J oS oG oG ?_ ?_ (fun q hq zj rj=>?_)
     .rw[List.length_map,List.length_append];exact an _ _ _
     .rw[List.map_append];exact au oG (an _ _ _)
     .have:=rj M;exact au oG (au oG (au oG (au oG rfl)))
   .have bG:¬ j<l.length:=by simpa using h
    have vl:=s6 oG;subst vl;show ax _ _ _ _ _ _ _ _ _;refine av ?_;refine ab (bg (k+1,m,nx) (ao eH) ⟨oM,⟨ρ,C⟩,fun i=>by have:=hlen i;dsimp only at this ⊢;omega⟩ oM)
  .have bG:¬ k<n:=by simpa[hn] using h
   have:k=n:=by omega
   subst this;exact⟨m,nx,ρ,ao eH,C⟩
 .rintro s ⟨m,nx,ρ,hg,C⟩;have zi:¬ ∃ i,i<n/\(mB f.blocks n i).map I≠[]/\ρ i=1:=fun⟨i,h1,h2,h3⟩=>C.ne i h1 h2 h3;refine⟨_,hg.trans (SN (l:=[(3,.rs 1 0 n)]) (ml:=[]) (fun r=>∃ i,i<n/\(mB f.blocks n i).map I≠[]/\ρ i=r) C (fun _=>.map) c3 (fun i h1 h2=>⟨i,h1,h2,rfl⟩) zi ⟨rfl,trivial⟩ (fun x hx=>?_) trivial (fun x hx=>by cases hx)),ay ?_⟩
  .simp at hx;subst hx;exact .rs zi
  refine af ?_;refine ab (aX (bZ [(1,_,43)] eH (l:=[(2,dC (qv f.blocks))]) ⟨?_,trivial⟩) (aw rfl rfl));show sub (dh 1 _ (prog.cellsOf 43)) (D.rs 1 0 n)=_;rw[mW (by rw[ly];simp),TN,qv,hn]
theorem CJ{a b:Cert}(hl:a.is.length=b.is.length)(hm:a.is.length<=100000):az prog 142 [.agg (cJ a),.agg (cJ b)] (.agg (cJ (qH a b))):=by
 refine bu alD (.cons (.agg (uA a)) (.cons (.agg (uA b)) .nil)) (.agg (uA _)) ?_;rw[alE];obtain⟨U,C⟩:=a;obtain⟨X,J⟩:=b;dsimp only at hl hm;refine ay ?_;refine av ?_;refine ab (aX (aY (l:=[(2,.rp 0 0),(3,.rp 1 0),(4,.rp 2 0)]) (ml:=[(0,.cells (cJ ⟨U,C⟩) 163),(1,.cells (cJ ⟨X,J⟩) 163),(2,.cells [B false,.z] 163)]) eH eH) (aI (aj ?_)));refine af ?_;cases U with
 |true=>
  refine ab (pP ?_);refine aI (aj ?_);refine af ?_;exact ab (eb (lO (mi rfl rfl tu mO rfl t163 (bt rfl)) rfl))
 |false=>
 refine ab (mE (cX (aI (aj ?_))));refine af ?_;cases X with
 |true=>
  refine ab (pP ?_);refine aI (aj ?_);refine af ?_;exact ab (eb (lO (mi rfl rfl tu mO rfl t163 (bt rfl)) rfl))
 |false=>
 refine ab (mE (cX (ay ?_)));have hb:qH ⟨false,C⟩ ⟨false,J⟩=⟨false,List.zipWith (fun x y=>x&&y) C J⟩:=rfl;rw[hb];clear hb;have iB:({ any:=false,is:=C }:Cert).is.length<=100000:=hm;have eO:((C.length:Nat):Int).toNat=C.length:=eI _;have M:(List.zipWith (fun x y=>x&&y) C J).length=C.length:=by simp;omega
 have O:∀ (k:Nat) x y,C[k]? =some x->J[k]? =some y->(List.zipWith (fun x y=>x&&y) C J)[k]? =some (x&&y):=fun k x y h1 h2=>by rw[List.getElem?_zipWith,h1,h2]
 generalize List.zipWith (fun x y=>x&&y) C J=zQ at M O;refine fB ?_;refine ab (aX (aY (l:=[(2,.rp 0 0),(3,.rp 1 0),(4,.rp 2 0),(5,.rp 4 0)]) (ml:=[(0,.cells (cJ ⟨false,C⟩) 163),(1,.cells (cJ ⟨false,J⟩) 163),(2,.cells [B false,.z] 163),(3,.cells ((replicate C.length false).map B) 4),(4,.cells [B false,.rs 3 0 C.length] 163)]) eH ⟨rfl,rfl,rfl,?_,?_,trivial⟩) (aI (ay ?_)))
 .exact congrArg (fun c=>some (Row.cells c 4)) ((congrArg (fun k=>dM k [B false]) eO).trans (Eg _ false))
 .exact congrArg (fun k=>some (Row.cells [B false,.rs 3 0 k] 163)) eO
 refine SS ?_
 refine ab (cD (fun s=>aM prog s ⟨aF [(4,.rp 2 0),(5,.rp 4 0)],bJ [(2,.cells [B false,.z] 163),(3,.cells (zQ.map B) 4),(4,.cells [B false,.rs 3 0 C.length] 163)],5⟩) (dD (α:=Nat) (fun k=>⟨aF [(2,.rp 0 0),(3,.rp 1 0),(4,.rp 2 0),(5,.rp 4 0),(6,I k)],bJ [(0,.cells (cJ ⟨false,C⟩) 163),(1,.cells (cJ ⟨false,J⟩) 163),(2,.cells [B false,.z] 163),(3,.cells ((zQ.take k++replicate (C.length - k) false).map B) 4),(4,.cells [B false,.rs 3 0 C.length] 163)],5⟩)
  (fun k=>k<=C.length) (fun k=>C.length - k) 0 (aY eH eH) oG ?_) ?_)
 .intro k hk;refine bm ?_;refine ab ⟨_,rfl,fun h=>?_,fun h=>?_⟩
  .have al:k<C.length:=by simpa using h
   have hx:C[k]? =some C[k]:=bc al;have hy:J[k]? =some J[k]:=bc oG;have hz:=O k _ _ hx hy;generalize C[k]=x at hx hz;generalize J[k]=y at hy hz;have yK:=take_set hz M;have zc:(zQ.take k++replicate (C.length - k) false).length=C.length:=by simp;omega
   refine Bz adr ?_;cases x with
   |false=>
    refine bj ?_;(iterate 5 refine z fun _ _=>?_);refine av ?_;refine bN bO ?_;refine av ?_;refine ab (bg (k+1) (aY eH ⟨rfl,rfl,rfl,?_,rfl,trivial⟩) oG oG);rw[<- yK,List.map_set];rfl
   |true=>
    refine bj ?_;refine cP ?_;refine bN bO ?_;refine av ?_;refine ab (bg (k+1) (aY eH ⟨rfl,rfl,rfl,?_,rfl,trivial⟩) oG oG);rw[<- yK,List.map_set];rfl
  .have bG:¬ k<C.length:=by simpa using h
   have:k=C.length:=by omega
   subst this;refine aY eH ⟨rfl,?_,rfl,trivial⟩;rw[Nat.sub_self,List.replicate_zero,List.append_nil,cO oG];rfl
 .intro s hg;refine⟨_,hg,ay ?_⟩;refine af ?_
  have e:sub (dh 3 (zQ.map B) (prog.cellsOf 4)) (.rs 3 0 C.length)=.sl (zQ.map B) C.length:=by
   rw[c4,yq,List.drop_zero,cO oP]
  refine ab (aX (bZ [(3,zQ.map B,4),(2,[B false,.sl (zQ.map B) C.length],163)] ⟨rfl,?_,trivial⟩ (l:=[(4,.pt [B false,.sl (zQ.map B) C.length])]) eH) (bp (lO (U0 rfl tu mO rfl t163 (bt rfl)) ?_)))
  .exact congrArg (fun d=>some (Row.cells [B false,d] 163)) e
  .rw[<- M];rfl
theorem wR{f:aK}{b:Nat}{x:Argus.bB}{c:Cert}(hx:f.blocks[b]? =some x)(hl:c.is.length=f.ag.length+f.aN.length)(hm:c.is.length<=2000)(hi:∀ y∈x.ins,Av f.ag.length (f.ag.length+f.aN.length) y)(JT:x.ins.length<=100000):
 az prog 109 [.agg (aH f),I b,.agg (cJ c)] (.agg (cJ (fG f.ag.length x.ins c))):=by
 have lm:∀ {d:Cert} {r:Int},d.is.length=f.ag.length+f.aN.length->Fu (f.ag.length+f.aN.length) r->az prog 106 [.agg (cJ d),I r] (.agg (cJ (kK d r))):=fun {d r} h1 h2=>lm oG (by rw[h1];exact h2);refine bu alF (.cons (.agg (gA f)) (.cons (.s _) (.cons (.agg (uA c)) .nil))) (.agg (uA _)) ?_;rw[alG];refine ay ?_;refine av ?_;refine ab (aX (aY (l:=[(1,I b),(3,.rp 0 0),(5,.rp 1 0),(6,.rp 2 0)]) (ml:=[(0,.cells (aH f) 48),(1,.cells (cJ c) 163),(2,.cells [B false,.z] 163)]) eH eH) (aj ?_));refine fB ?_;refine ab (aI (ay ?_));refine SS ?_
 refine ab (cD (fun s=>aM prog s ⟨aF [(5,.rp 1 0),(6,.rp 2 0)],bJ [(1,.cells (cJ (fG f.ag.length x.ins c)) 163),(2,.cells [B false,.z] 163)],3⟩) (dD (α:=Nat) (fun k=>⟨aF [(3,.rp 0 0),(5,.rp 1 0),(6,.rp 2 0),(7,iX x.ins),(8,I k)],bJ [(0,.cells (aH f) 48),(1,.cells (cJ (fG f.ag.length (x.ins.take k) c)) 163),(2,.cells [B false,.z] 163)],3⟩)
  (fun k=>k<=x.ins.length) (fun k=>x.ins.length - k) 0 (aY eH eH) oG ?_) ?_)
 .intro k hk;have C:∀ y,x.ins[k]? =some y->fG f.ag.length (x.ins.take (k+1)) c=wD f.ag.length (fG f.ag.length (x.ins.take k) c) y:=fun y hy=>rI hy;have nq:k=x.ins.length->fG f.ag.length (x.ins.take k) c=fG f.ag.length x.ins c:=fun e=>by rw[e,List.take_length]
  have U:=(DT f.ag.length (x.ins.take k) c).trans hl;generalize fG f.ag.length (x.ins.take k) c=d at C nq U;refine aR ?_;refine ab ⟨_,rfl,fun h=>?_,fun h=>?_⟩
  .have al:k<x.ins.length:=by simpa using h
   have hy:x.ins[k]? =some x.ins[k]:=bc al;have C:=C _ hy;have M:=hi _ (di al);generalize x.ins[k]=y at hy C M;have sf:=sf (x:=y)
   have hp:Fu (f.ag.length+f.aN.length) (dV y):=by
    rcases M.w with e|⟨i,h1,h2⟩
    .exact .inl e
    .exact .inr ⟨i,oG,h2⟩
   have O:=lm U hp;have X:=(G' d (dV y)).trans U
   have kv:y.op=18->az prog 106 [.agg (cJ (kK d (dV y))),I ((f.ag.length:Int)+y.n)] (.agg (cJ (kK (kK d (dV y)) ((f.ag.length:Int)+y.n)))):=fun e=>lm X (by
    obtain⟨i,h1,h2⟩:=M.s e
    exact .inr ⟨f.ag.length+i,h1,by rw[h2];omega⟩)
   unfold wD at C;generalize kK d (dV y)=d1 at O X kv C;generalize dV y=w at sf O;clear lm;have lm:=O;refine ej ads ?_;refine bm ?_;refine cl sf ?_;refine cl lm ?_;refine SS ?_;refine bN bO (aj ?_);refine cG ?_;refine ab (ap rfl (fun J=>?_) fun J=>?_)
   .have J:y.op=18:=by simpa using J
    rw[if_pos J] at C;have lm:=kv J;obtain⟨i,h1,h2⟩:=M.s J;have p9:0<=y.n/\y.n<=2000:=by omega
    refine Bz adt ?_;refine cP ?_;refine af ?_;refine cl lm ?_;refine SS ?_;refine bN bO ?_;refine av ?_;refine ab (bg (k+1) (aY eH ⟨rfl,?_,rfl,trivial⟩) oG oG);rw[C];rfl
   .have J:¬ y.op=18:=by simpa using J
    rw[if_neg J] at C;refine dE ?_;refine av ?_;refine ab (bg (k+1) (aY eH ⟨rfl,?_,rfl,trivial⟩) oG oG);rw[C];rfl
  .have bG:¬ k<x.ins.length:=by simpa using h
   rw[<- nq oG];exact aY eH eH
 .intro s hg;refine⟨_,hg,aj ?_⟩;generalize fG f.ag.length x.ins c=d;refine af ?_;exact ab (bp (lO (mi rfl rfl tu mO rfl t163 (bt rfl)) rfl))
theorem yQ{f:aK}{b:Nat}{x:Argus.bB}{c:Cert}{to:Int}(hx:f.blocks[b]? =some x)(hw:x.fin.aC.length<=100)(hm:c.is.length<=2000)(U:Fu c.is.length (fc x.fin)):
 az prog 108 [.agg (aH f),I b,I to,.agg (cJ c)] (.agg (cJ (nY x.fin to c))):=by
 have lm:=lm (c:=c) oG U;have se:=se (x:=x.fin) oG;have JF:=JF (x:=x.fin);have J:=Ha x.fin;refine bu alH (.cons (.agg (gA f)) (.cons (.s _) (.cons (.s _) (.cons (.agg (uA c)) .nil)))) (.agg (uA _)) ?_;rw[alI];refine ws ?_;refine av ?_;refine ab (ay ?_);refine fB ?_;refine dA (jm (cs':=a8 _) rfl rfl rfl rfl) ak (ef V.h V.h (by first|(simp;done)|exact⟨rfl,bt rfl⟩|(simp;omega)) (by rfl)) ?_;refine ab (aX (aY (l:=[(2,I to),(7,.rp 1 0),(8,.rp 2 0),(9,.rp 3 0)]) (ml:=[(1,.cells (cJ c) 163),(2,.cells [B false,.z] 163),(3,.cells (a8 x.fin) 57)]) eH eH) (aj ?_));have M:nY x.fin to c=if x.fin.to≠to\/(fv x.fin).tail.any (·==to)=true\/x.fin.kind=3\/x.fin.kind=4 then c else kK c (fc x.fin):=rfl
 rw[M];clear M;generalize fv x.fin=l at se J;refine SS ?_;refine cl se ?_;refine SS ?_;refine er ?_;refine SS ?_;refine ab (aI (ay ?_));refine SS ?_
 refine ab (cD (fun s=>aM prog s ⟨aF [(2,I to),(7,.rp 1 0),(8,.rp 2 0),(9,.rp 3 0),(11,B (l.tail.any (·==to)))],bJ [(1,.cells (cJ c) 163),(2,.cells [B false,.z] 163),(3,.cells (a8 x.fin) 57)],4⟩) (dD (α:=Nat) (fun k=>⟨aF [(2,I to),(7,.rp 1 0),(8,.rp 2 0),(9,.rp 3 0),(10,aT l),(11,B ((l.tail.take k).any (·==to))),(12,I ((k+1:Nat):Int))],bJ [(1,.cells (cJ c) 163),(2,.cells [B false,.z] 163),(3,.cells (a8 x.fin) 57)],4⟩)
  (fun k=>k<=l.tail.length) (fun k=>l.tail.length - k) 0 (aY eH eH) oG ?_) ?_)
 .intro k hk;have X:l.tail.length=l.length - 1:=List.length_tail ..;have C:∀ y,l.tail[k]? =some y->(l.tail.take (k+1)).any (·==to)=((l.tail.take k).any (·==to)||y==to):=fun y hy=>by rw[List.take_add_one,hy,List.any_append];simp
  have O:k=l.tail.length->(l.tail.take k).any (·==to)=l.tail.any (·==to):=fun e=>by rw[e,List.take_length]
  generalize (l.tail.take k).any (·==to)=ob at C O;refine aR ?_;refine ab ⟨_,rfl,fun h=>?_,fun h=>?_⟩
  .have al:k+1<l.length:=by
    have:=of_decide_eq_true h;omega
   have hy:l[k+1]? =some l[k+1]:=bc al;have C:=C l[k+1] (by rw[List.getElem?_tail];exact hy);generalize l[k+1]=y at hy C;refine jn ?_;cases ob with
   |false=>
    refine cP ?_;refine af ?_;refine ab ?_;refine av ?_;refine ab (bg (k+1) (aY ⟨rfl,rfl,rfl,rfl,rfl,?_,rfl,trivial⟩ eH) oG oG);rw[C];rfl
   |true=>
    refine af ?_;(iterate 6 refine z fun _ _=>?_);refine af ?_;refine ab ?_;refine av ?_;refine ab (bg (k+1) (aY ⟨rfl,rfl,rfl,rfl,rfl,?_,rfl,trivial⟩ eH) oG oG);rw[C];rfl
  .have bG:¬ k+1<l.length:=fun hh=>by
    have:=of_decide_eq_false h;omega
   rw[<- O oG];exact aY eH eH
 .intro s hg;refine⟨_,hg,aI (aj ?_)⟩;generalize l.tail.any (·==to)=ob;refine bj ?_;refine cP ?_;refine ab (dZ rfl (fun h=>?_) fun h=>cX (ej abM ?_))
  .refine aI (aj ?_);refine af ?_;refine ab (eb (lO (mi rfl rfl tu mO rfl t163 (bt rfl)) ?_));rw[if_pos]
   .rfl
   .revert h;simp;grind
  .rw[if_neg (by revert h;simp;grind)];generalize kK c (fc x.fin)=d at lm;generalize fc x.fin=w at lm JF;refine af ?_;refine cl JF ?_;refine cl lm ?_;refine SS ?_;exact bN bO (bp (lO (mi rfl rfl tu mO rfl t163 (bt rfl)) rfl))
theorem CI{f:aK}(hs:s4 f)(hw:∀ b∈f.blocks,b.fin.aC.length<=9):az prog 101 [.agg (aH f)] (B (vO f)):=by
 have CH:=CH hs;refine bu alx (.cons (.agg (gA f)) .nil) (Tr.s _) ?_;rw[aly];refine ay ?_;refine af ?_;refine ab (aX (bZ [(0,aH f,48)] eH (l:=[(1,.pt (aH f))]) eH) (aj ?_));cases hh:rZ f with
 |false=>
  rw[hh] at CH;refine SS ?_;refine cl CH ?_;refine SS ?_;refine ab (aI (aj ?_));refine af ?_;refine ab (pP ?_);refine aI (aj ?_);refine SS ?_;refine ab (eb (aw (d:=B false) rfl ?_));rw[vO,hh];rfl
 |true=>
  rw[hh] at CH;have hF:vO f=(HL f&&(range f.blocks.length).all (si f)):=by rw[vO,hh];rfl
  rw[hF];clear hF;unfold rZ at hh;simp only[aB] at hh;obtain⟨h1,h2,_⟩:=hh;unfold mu at h1;simp only[aB,Bool.not_eq_true',decide_eq_false_iff_not,iW] at h1;have hN:f.blocks.length<=1200:=by omega
  have hR:f.ag.length<=1200:=by omega
  have jj:f.aN.length<=60:=by omega
  have zk:∀ k∈f.aN,k=1\/k=2:=fun k hk=>by
   unfold pz at h2;simp only[aB] at h2;have h3:=h2.2.2.1;simp only[fj,Bool.not_eq_true',List.any_eq_false] at h3;have:=h3 k hk;simp[mY] at this;omega
  clear h1 h2;refine SS ?_;refine cl CH ?_;refine SS ?_;refine ab (aI (aj ?_));refine af ?_;refine ab (mE (cX (ay ?_)));refine SS ?_;refine aq (DZ (cs:=cu _ _) V.h V.h V.h rfl rfl) ak ⟨V.h,V.h⟩ ?_;refine SS ?_;refine dA (jm (cs':=cu _ _) rfl rfl rfl rfl) ak (ef V.h V.h (by first|(simp;done)|exact⟨rfl,bt rfl⟩|(simp;omega)) (by rfl)) ?_;refine ab (aX (aY (l:=[(1,.pt (aH f)),(4,.rp 1 0)]) (ml:=[(1,.cells (cu f .z) 206)]) eH eH) (aI (ay ?_)));refine SS ?_
  refine ab (cD (fun s=>aM prog s ⟨aF [(1,.pt (aH f)),(4,.rp 1 0)],bJ [(1,.cells (cu f .z) 206)],2⟩/\∀ (j:Nat) x,f.blocks[j]? =some x->(fv x.fin).all (cv f)=true) (dD (α:=Nat) (fun k=>⟨aF [(1,.pt (aH f)),(4,.rp 1 0),(5,I k)],bJ [(1,.cells (cu f .z) 206)],2⟩)
   (fun k=>k<=f.blocks.length/\∀ j x,j<k->f.blocks[j]? =some x->(fv x.fin).all (cv f)=true) (fun k=>f.blocks.length - k) 0 (aY eH eH) ⟨oG,fun j y hj=>by omega⟩ ?_) ?_)
  .rintro k ⟨hk,hinv⟩;refine bm ?_;refine ab ⟨_,rfl,fun h=>?_,fun h=>?_⟩
   .have al:k<f.blocks.length:=by simpa using h
    have hx:f.blocks[k]? =some f.blocks[k]:=bc al;have ZE:=hw _ (di al);generalize f.blocks[k]=x at hx ZE;have se:=se (x:=x.fin) oG;have hle:=Ha x.fin;have qX:(fv x.fin).all (cv f)=false->HL f=false:=fun h=>List.all_eq_false.2 ⟨x,cx hx,by simp[h]⟩
    have Xs:(fv x.fin).all (cv f)=true->∀ j y,j<k+1->f.blocks[j]? =some y->(fv y.fin).all (cv f)=true:=fun hq j y hj hy=>by
     by_cases e:j=k
     .subst e;rw[hx] at hy;cases hy;exact hq
     .exact hinv j y oG hy
    generalize fv x.fin=l at se hle qX Xs;refine ws ?_;refine cG ?_;refine cl se ?_;refine SS ?_;refine ab (ay ?_);refine SS ?_
    refine ab (dD (α:=Nat) (fun q=>⟨aF [(1,.pt (aH f)),(4,.rp 1 0),(5,I k),(6,aT l),(7,I q)],bJ [(1,.cells (cu f .z) 206)],2⟩)
     (fun q=>q<=l.length/\∀ j y,j<q->l[j]? =some y->cv f y=true) (fun q=>l.length - q) 0 (aY eH eH) ⟨oG,fun j y hj=>by omega⟩ ?_)
    rintro q ⟨hq,rj⟩;refine aR ?_;refine ab ⟨_,rfl,fun h=>?_,fun h=>?_⟩
    .have Dz:q<l.length:=by simpa using h
     have hy:l[q]? =some l[q]:=bc Dz;generalize l[q]=y at hy;have iT:az prog 138 [.agg (cu f .z),I y] (B (cv f y)):=iT Xi rfl hN;refine ej abI ?_;refine aq (fD (vs:=cu _ _) rfl rfl V.h V.h rfl) ak (fE V.h V.h (by first|(simp;done)|omega|exact bt rfl)) ?_;refine aR ?_;refine cl iT ?_;refine SS ?_;refine bN bO (aj ?_);refine af ?_;refine ab (ap rfl (fun hp=>?_) fun hp=>?_)
     .refine ws ?_;refine SS ?_;refine ab (bp (cZ (cZ (a6 (aw (d:=B false) rfl ?_)))));rw[qX (List.all_eq_false.2 ⟨y,cx hy,by simpa using hp⟩)];rfl
     .refine dE ?_;refine av ?_;refine ab (bg (q+1) (aY eH eH) ⟨oG,fun j z hj hz=>?_⟩ oG);by_cases e:j=q
      .subst e;rw[hy] at hz;cases hz;simpa using hp
      .exact rj j z oG hz
    .have bG:¬ q<l.length:=by simpa using h
     show ax _ _ _ _ _ _ _ _ _;refine av ?_;refine ab (bg (k+1) (aY eH eH) ⟨oG,Xs (bT.2 fun y hy=>?_)⟩ oG);obtain⟨j,hj⟩:=dR hy;exact rj j y (by have:=(bX.1 hj).1;omega) hj
   .have bG:¬ k<f.blocks.length:=by simpa using h
    exact⟨aY eH eH,fun j y hy=>hinv j y (by have:=(bX.1 hy).1;omega) hy⟩
  rintro s ⟨hg,M⟩
  have hE:HL f=true:=bT.2 fun x hx=>by
   obtain⟨j,hj⟩:=dR hx;exact M j x hj
  rw[hE,Bool.true_and]
  have gm:∀ b∈f.blocks,∀ t∈qG b.fin,0<=t/\t<f.blocks.length:=fun b hb t ht=>by
   have:=bT.1 (bT.1 hE b hb) t (SV.1 ht);rw[cv,iW] at this;omega
  have yP:=yP (f:=f) rfl oG hw gm;have xq:∀ k,k<f.blocks.length->(qv f.blocks)[k]? =some (mB f.blocks f.blocks.length k):=fun k hk=>by simp[qv,hk]
  have KB:(qv f.blocks).length<=100000:=by simp[qv];omega
  clear M hE gm;refine⟨_,hg,ay ?_⟩;generalize hL:qv f.blocks=L at yP xq KB;clear hL;refine SS ?_;refine cl yP ?_;refine af ?_;refine ab (aX (bZ [(1,cu f (dC L),206)] eH (l:=[(1,.pt (aH f)),(4,.pt (cu f (dC L)))]) eH) (ay ?_));refine bm ?_;have eO:((f.ag.length:Nat):Int).toNat=f.ag.length:=eI _;refine ab (aX (aY (l:=[(1,.pt (aH f)),(4,.pt (cu f (dC L))),(9,.rs 2 0 f.ag.length)]) (ml:=[(2,.cells ((replicate f.ag.length false).map B) 4)]) ⟨rfl,rfl,congrArg (fun k=>D.rs 2 0 k) eO,trivial⟩ ⟨?_,trivial⟩) (aI (ay ?_)))
  .exact congrArg (fun c=>some (Row.cells c 4)) ((congrArg (fun k=>dM k [B false]) eO).trans (Eg _ false))
  rw[<- adq f.ag.length f.blocks];refine SS ?_
  refine ab (cD (fun s=>∃ N,aM prog s ⟨aF [],fun _=>none,N⟩/\(range f.blocks.length).all (si f)=true) (dD (α:=Nat×Nat) (fun q=>⟨aF [(1,.pt (aH f)),(4,.pt (cu f (dC L))),(9,.rs 2 0 f.ag.length),(10,I q.1)],bJ [(2,.cells ((nu f.ag.length f.blocks q.1).map B) 4)],q.2⟩)
   (fun q=>q.1<=f.blocks.length/\3<=q.2/\(range q.1).all (si f)=true) (fun q=>f.blocks.length - q.1) (0,3) (aY eH eH) ⟨Nat.zero_le _,bM _,rfl⟩ ?_) ?_)
  .rintro⟨k,N⟩ ⟨hk,ZF,M⟩;dsimp only at hk ZF M ⊢;refine bm ?_;refine ab ⟨_,rfl,fun h=>?_,fun h=>?_⟩
   .have al:k<f.blocks.length:=by simpa using h
    have hx:f.blocks[k]? =some f.blocks[k]:=bc al;have tD:=hs.en _ (di al)
    have C:si f k=(!decide ((200:Int)<f.blocks[k].ins.length)&&((range f.blocks[k].ins.length).all (wE f k f.blocks[k].ins)&&(iz f f.blocks[k].fin&& !(f.blocks[k].fin.kind==7&&(jT f.blocks k).any (·==f.blocks[k].fin.a))))):=by
     unfold si;simp only[getD_some hx]
    have qX:si f k=false->(range f.blocks.length).all (si f)=false:=fun hq=>po al hq;have ry:=agB (R:=f.ag.length) hx;have Au:=fun(i:Nat)=>afb (R:=f.ag.length) (i:=i) hx;have hA:=xq k al;have tv:∀ {y:bK},az prog 139 [.agg (cu f (dC L)),.agg (bA y),I k] (B (eu f k (mB f.blocks f.blocks.length k).length y)):=fun {y}=>tv hA jj zk KB;have J:∀ j,wE f k f.blocks[k].ins j=(eu f k (mB f.blocks f.blocks.length k).length (f.blocks[k].ins.getD j dW)&& !(cA (f.blocks[k].ins.getD j dW)&&(decide (0<j)&& !cA (f.blocks[k].ins.getD (j - 1) dW)))):=fun j=>rfl;generalize mB f.blocks f.blocks.length k=A at tv J hA;generalize f.blocks[k]=x at hx tD C ry Au J;have JH:=JH (f:=f) (Hn L) rfl tD.1 tD.2 hN;refine ws ?_;refine fB ?_;refine ab (aI (aj ?_));refine av ?_;refine ab (dZ rfl (fun hp=>?_) fun hp=>cX (aI (ay ?_)))
    .refine aI (aj ?_);refine SS ?_;refine ab (eb (cZ (a6 (aw (d:=B false) rfl ?_))));rw[qX (by rw[C,hp];rfl)]
    rw[hp,Bool.not_false,Bool.true_and] at C;have lI:x.ins.length<=200:=by have:=of_decide_eq_false hp;omega
    refine SS ?_
    refine ab (cD (fun s=>aM prog s ⟨aF [(1,.pt (aH f)),(4,.pt (cu f (dC L))),(9,.rs 2 0 f.ag.length),(10,I k)],bJ [(2,.cells ((nu f.ag.length f.blocks k).map B) 4)],N⟩/\(range x.ins.length).all (wE f k x.ins)=true) (dD (α:=Nat) (fun j=>⟨aF [(1,.pt (aH f)),(4,.pt (cu f (dC L))),(9,.rs 2 0 f.ag.length),(10,I k),(11,iX x.ins),(12,I j)],bJ [(2,.cells ((nu f.ag.length f.blocks k).map B) 4)],N⟩)
     (fun j=>j<=x.ins.length/\(range j).all (wE f k x.ins)=true) (fun j=>x.ins.length - j) 0 (aY eH eH) ⟨Nat.zero_le _,rfl⟩ ?_) ?_)
    .rintro j ⟨hj,vC⟩;refine aR ?_;refine ab ⟨_,rfl,fun h=>?_,fun h=>?_⟩
     .have dK:j<x.ins.length:=by simpa using h
      have hy:x.ins[j]? =some x.ins[j]:=bc dK;have J:=J j;rw[getD_some hy] at J;have X:wE f k x.ins j=false->(range f.blocks.length).all (si f)=false:=fun hq=>qX (by rw[C,po dK hq];rfl);have U:wE f k x.ins j=true->(range (j+1)).all (wE f k x.ins)=true:=fun hq=>mh vC hq;generalize x.ins[j]=y at hy J;have tv:= @tv y;generalize eu f k A.length y=v at tv J;rw[J] at X U;clear J;refine ej abJ ?_;cases v with
      |false=>
       refine cG ?_;refine cl tv ?_;refine bj ?_;refine fB ?_;(iterate 5 refine z fun _ _=>?_);refine SS ?_;refine bN bO (ap rfl (fun hp=>?_) fun hp=>(by cases hp));refine ws ?_;refine SS ?_;refine ab (bp (cZ (a6 (cZ (a6 (aw (d:=B false) rfl ?_))))));rw[X rfl]
      |true=>
       rw[Bool.true_and] at X U;by_cases fM:y.op=19
       .have tV:cA y=true:=by simp[cA,fM]
        rw[tV,Bool.true_and] at X U;have ki:(y.op==19)=true:=by simp[fM]
        cases j with
        |zero=>
         have u6:decide ((0:Int)<((0:Nat):Int))=false:=rfl;refine cG ?_;refine cl tv ?_;refine bj ?_;refine aR ?_;(iterate 7 refine z fun _ _=>?_);refine af ?_;refine bN bO (ap rfl (fun hp=>(by cases hp)) fun hp=>dE ?_);refine av ?_;refine ab (bg 1 (aY eH eH) ⟨oG,U rfl⟩ oG)
        |succ i=>
         have u6:decide ((0:Int)<((i+1:Nat):Int))=true:=decide_eq_true oG;have yI:((i+1:Nat):Int) - 1=(i:Int)/\ -9223372036854775808<=(i:Int)/\(i:Int)<=9223372036854775807:=by omega
         have hz:x.ins[i]? =some x.ins[i]:=bc oG;rw[show i+1 - 1=i from rfl,getD_some hz] at X U;generalize x.ins[i]=z at hz X U;refine cG ?_;refine cl tv ?_;refine bj ?_;refine bj ?_;refine aR ?_;refine bN bO (ap rfl (fun hp=>?_) fun hp=>?_)
         .refine ws ?_;refine SS ?_;refine ab (bp (cZ (a6 (cZ (a6 (aw (d:=B false) rfl ?_))))));rw[X (by revert hp;simp[cA])]
         .refine dE ?_;refine av ?_;refine ab (bg (i+1+1) (aY eH eH) ⟨oG,U (by revert hp;simp[cA])⟩ oG)
       .have tV:cA y=false:=by simp[cA,fM]
        rw[tV,Bool.false_and] at X U;have ki:(y.op==19)=false:=by simp[fM]
        refine cG ?_;refine cl tv ?_;refine bj ?_;refine fB ?_;(iterate 4 refine z fun _ _=>?_);refine af ?_;refine bN bO (ap rfl (fun hp=>(by cases hp)) fun hp=>dE ?_);refine av ?_;refine ab (bg (j+1) (aY eH eH) ⟨oG,U rfl⟩ oG)
     .have bG:¬ j<x.ins.length:=by simpa using h
      have:j=x.ins.length:=by omega
      subst this;exact⟨aY eH eH,vC⟩
    rintro s ⟨hg,J⟩;rw[J,Bool.true_and] at C;refine⟨_,hg,ay ?_⟩;clear hg tv J hA;obtain⟨aq7,xk,xa,xb,xt,xe,xn,QU,xs,xw,xo⟩:=x;dsimp only at*
    refine cP ?_;refine ab (aX (ow (i:=N) (l:=[(1,.pt (aH f)),(4,.pt (cu f (dC L))),(9,.rs 2 0 f.ag.length),(10,I k),(13,.pt (a8 ⟨xk,xa,xb,xt,xe,xn,QU,xs,xw,xo⟩))]) (ml:=[(2,.cells ((nu f.ag.length f.blocks k).map B) 4)]) (an _ _ _) ⟨rfl,rfl,xK oG,rfl,mG,trivial⟩ ⟨MD oG (au oG (au oG rfl)) .map,trivial⟩) (aj ?_));have cC:= @MH f ⟨xk,xa,xb,xt,xe,xn,QU,xs,xw,xo⟩;generalize iz f ⟨xk,xa,xb,xt,xe,xn,QU,xs,xw,xo⟩=v at JH C cC;refine af ?_;refine cl JH ?_;refine SS ?_;refine ab (aI (aj ?_));refine af ?_;refine ab (dZ rfl (fun hp=>?_) fun hp=>cX (aj ?_))
    .refine aI (aj ?_);refine SS ?_;refine ab (eb (cZ (a6 (aw (d:=B false) rfl ?_))));rw[qX (by rw[C];revert hp;cases v<;>simp)]
    have hv:v=true:=by simpa using hp
    subst hv;rw[Bool.true_and] at C;refine av ?_;refine ab (ap rfl (fun h7=>?_) fun h7=>dE ?_)
    .have e7:xk=7:=by simpa using h7
     obtain⟨i,hi,e⟩:=(cC rfl).2.2 e7;dsimp only at e;subst e;have Au:=Au i e7 rfl;have AF:(nu f.ag.length f.blocks k)[i]? =some ((jT f.blocks k).any (·==(i:Int))):=Hq hi;have od:=DV f.ag.length f.blocks k;rw[e7] at C;generalize (jT f.blocks k).any (·==(i:Int))=o at AF C;generalize nu f.ag.length f.blocks k=O at AF od Au ⊢;have kd:=nL (f:=B) AF;refine aI (aj ?_);refine bm ?_;refine ab (dZ rfl (fun hp=>?_) fun hp=>cX ?_)
     .refine aI (aj ?_);refine SS ?_;refine ab (eb (cZ (a6 (aw (d:=B false) rfl ?_))));rw[qX (by rw[C,hp];rfl)]
     .refine jn ?_;refine bm ?_;refine ab ?_;refine av ?_;refine ab (bg (k+1,N+1) (aY eH ⟨?_,trivial⟩) ⟨oM,oM,mh M (by rw[C,hp];rfl)⟩ oM);dsimp only;rw[Au,List.map_set];rfl
    .have h7:¬ xk=7:=by simpa using h7
     have ry:=ry h7;refine av ?_;refine ab (bg (k+1,N+1) (aY eH ⟨?_,trivial⟩) ⟨oM,oM,mh M (by rw[C];simp[h7])⟩ oM);dsimp only;rw[ry];rfl
   .have bG:¬ k<f.blocks.length:=by simpa using h
    have:k=f.blocks.length:=by omega
    subst this;exact⟨N,iJ (l:=[]) trivial,M⟩
  .rintro s ⟨N,hg,M⟩;refine⟨_,hg,aj ?_⟩;refine SS ?_;refine ab (aw (d:=B true) rfl ?_);rw[M]
theorem CK{f:aK}(M:Je f)(hw:∀ b∈f.blocks,b.fin.aC.length<=9):az prog 102 [.agg (aH f)] (EC f (iq f.blocks f.args.toNat)):=by
 have hR:=M.ok.ag;have hS:=M.sl;have hN1:=M.ok.oi;have xu:=M.ok.pos;obtain⟨a,ha,tF⟩:=M.ar;have EQ:=SX (R:=f.ag.length) (n:=f.ag.length+f.aN.length) (N:=f.blocks.length) (args:=a) hR oG oG xu tF;rw[ha,eI];refine bu alJ (.cons (.agg (gA f)) .nil) (afc f _) ?_;rw[alK];refine ay ?_;refine af ?_;refine ab (aX (bZ [(0,aH f,48)] eH (l:=[(1,.pt (aH f))]) eH) (ay ?_));refine cP ?_;refine ab (aX (ao (l:=[(1,.pt (aH f)),(3,I ((f.ag.length+f.aN.length:Nat):Int))]) eH) (ay ?_));have CX:f.ag.length+f.aN.length<=1260:=by omega
 have QV:f.ag.length<=f.ag.length+f.aN.length:=by omega
 unfold EC;generalize hn:f.ag.length+f.aN.length=n at EQ CX QV ⊢;have eO:((f.blocks.length:Nat):Int).toNat=f.blocks.length:=eI _;refine av ?_;refine cR (D0 rfl rfl V.h V.h) ak ⟨oG,rfl,oG,by rw[Yu];omega,V.h⟩ ?_;refine SS ?_;refine ab (aX (aY (l:=[(1,.pt (aH f)),(3,I n),(4,.rs 1 0 f.blocks.length)]) (ml:=[(1,.cells (dF (ke n f.blocks.length (.rs 2 0 n) 0)) 163)]) ⟨rfl,rfl,congrArg (fun k=>D.rs 1 0 k) eO,trivial⟩ ⟨?_,trivial⟩) (aI (ay ?_)))
 .exact congrArg (fun c=>some (Row.cells c 163)) ((congrArg (fun k=>dM k [B false,D.z]) eO).trans (TR _))
 refine SS ?_;have yY:((n:Nat):Int).toNat=n:=eI _
 refine ab (cD (fun s=>∃ N,aM prog s ⟨aF [(1,.pt (aH f)),(3,I n),(4,.rs 1 0 f.blocks.length)],bJ [(1,.cells (dF ((true,.rs 2 0 n)::pS n f.blocks.length)) 163),(2,.cells ((replicate n false).map B) 4)],N⟩/\3<=N) (dD (α:=Nat) (Oj f n f.blocks.length)
  (fun k=>k<=f.blocks.length) (fun k=>f.blocks.length - k) 0 (aY eH eH) oG ?_) ?_)
 .intro k hk;have O:=(BD (ke n f.blocks.length (.rs 2 0 n) k)).trans (congrArg (·*2) (LJ (n:=n) (d:=.rs 2 0 n) hk));cases k with
  |zero=>
   show ax _ _ _ _ _ _ _ _ _;unfold Oj;refine aR ?_;refine ab ⟨_,rfl,fun h=>?_,fun h=>?_⟩
   .refine jn ?_;have rG:=Lh (L:=ke n f.blocks.length (.rs 2 0 n) 0) (t:=0) (true,.rs 2 0 n) (by rw[LJ hk];exact xu);rw[agC xu] at rG;refine cG ?_;refine dA (jm (vs:=[B true,.rs 2 0 n]) rfl rfl rfl rG) aG (ef t163 mO ⟨rfl,by rw[O];omega⟩ rfl) ?_;refine ab ?_;refine av ?_;refine ab (bg 1 (aY eH ⟨rfl,?_,trivial⟩) oG oG)
    .exact congrArg (fun c=>some (Row.cells c 4)) ((congrArg (fun k=>dM k [B false]) yY).trans (Eg _ false))
   .exact absurd (of_decide_eq_false h) oG
  |succ k=>
   show ax _ _ _ _ _ _ _ _ _;unfold Oj;refine aR ?_;refine ab ⟨_,rfl,fun h=>?_,fun h=>?_⟩
   .have al:k+1<f.blocks.length:=by have:=of_decide_eq_true h;omega
    refine jn ?_;have rG:=Lh (L:=ke n f.blocks.length (.rs 2 0 n) (k+1)) (t:=k+1) (true,.rs (k+3) 0 n) (by rw[LJ hk];exact al);refine cG ?_;refine dA (jm (vs:=[B true,.rs (k+3) 0 n]) rfl rfl (au oG rfl) rG) aG (ef t163 mO ⟨rfl,by rw[O];omega⟩ rfl) ?_;refine ab ?_;refine av ?_;refine ab (bg (k+2) (ow (i:=k+3) (e:=4) (cs:=(replicate n false).map B) (au oG ?_) ⟨rfl,rfl,xK oG,rfl,trivial⟩ ⟨?_,MD oG (au oG (au oG rfl)) .map,trivial⟩) oG oG)
    .exact(an _ _ _).trans (congrArg (fun c=>some (Row.cells c 4)) ((congrArg (fun k=>dM k [B false]) yY).trans (Eg _ false)))
    .rw[c4];refine(if_neg (show ¬ 1=k+3 by omega)).trans ?_;exact(congrArg (Option.map _) (an _ _ _)).trans (congrArg (fun c=>some (Row.cells c 163)) (agE oG al))
   .have bG:¬ k+1<f.blocks.length:=by have:=of_decide_eq_false h;omega
    have hkN:k+1=f.blocks.length:=by omega
    refine⟨k+3,aY eH ⟨?_,rfl,trivial⟩,oG⟩;rw[<- agF xu, <- hkN];rfl
 rintro s ⟨N3,hg,ZF⟩;have tP:=SW (n:=n) xu;have A5:=aaV EQ.2.1 EQ.2.2 xu;have QW:∀ cs sz,(pS n f.blocks.length).map (fun p=>(p.1,sub (dh 2 cs sz) p.2))=pS n f.blocks.length:=fun cs sz=>aod;have O:=BD (pS n f.blocks.length);generalize pS n f.blocks.length=T at hg tP A5 QW O;refine⟨_,hg,ay ?_⟩;refine aR ?_;refine ab (aX (aY (l:=[(1,.pt (aH f)),(3,I n),(4,.rs 1 0 f.blocks.length)]) (ml:=[(1,.cells (dF ((false,.rs 2 0 n)::T)) 163),(2,.cells ((replicate 0 true++replicate (n - 0) false).map B) 4)]) eH eH) (aI (ay ?_)));refine SS ?_
 refine ab (cD (fun s=>aM prog s ⟨aF [(1,.pt (aH f)),(3,I n),(4,.rs 1 0 f.blocks.length)],bJ [(1,.cells (dF ((false,.rs 2 0 n)::T)) 163),(2,.cells ((replicate a true++replicate (n - a) false).map B) 4)],N3⟩) (dD (α:=Nat) (fun r=>⟨aF [(1,.pt (aH f)),(3,I n),(4,.rs 1 0 f.blocks.length),(6,I r)],bJ [(1,.cells (dF ((false,.rs 2 0 n)::T)) 163),(2,.cells ((replicate r true++replicate (n - r) false).map B) 4)],N3⟩)
  (fun r=>r<=a) (fun r=>a - r) 0 (aY eH eH) oG ?_) ?_)
 .intro r hr;refine aR ?_;refine ab ⟨_,rfl,fun h=>?_,fun h=>?_⟩
  .have al:r<a:=by have:=of_decide_eq_true h;omega
   have yK:=ME (x:=true) (y:=false) (n:=n) (k:=r) oG;have zc:(replicate r true++replicate (n - r) false).length=n:=by simp;omega
   refine jn ?_;refine fB ?_;refine ab ?_;refine av ?_;refine ab (bg (r+1) (aY eH ⟨rfl,?_,trivial⟩) oG oG);rw[<- yK,List.map_set];rfl
  .have bG:¬ r<a:=by have:=of_decide_eq_false h;omega
   have:r=a:=by omega
   subst this;exact aY eH eH
 clear hg;rintro s hg;refine⟨_,hg.trans (ow (i:=2) (e:=4) (cs:=(replicate a true++replicate (n - a) false).map B) (l:=[(1,.pt (aH f)),(3,I n),(4,.rs 1 0 f.blocks.length)]) (ml:=[(1,.cells (dF (fF f.ag.length n f.blocks.length (lz f.blocks.length a))) 163)]) rfl eH ⟨?_,trivial⟩),aI (ay ?_)⟩
 .rw[c4,A5];refine congrArg (fun c=>some (Row.cells c 163)) ((HM _ (fun _=>rfl) _).trans (congrArg dF ?_));rw[List.map_cons,QW,yq,List.drop_zero,cO oP];have:(replicate a true++replicate (n - a) false).length=n:=by simp;omega
  show(false,D.sl _ n)::T=(false,D.sl _ (List.length _))::T;rw[this]
 clear hg tP A5 QW O T;refine SS ?_;have hG0:=EQ.1;clear EQ;have ZH:iq f.blocks a=lM f.blocks (rA (lz f.blocks.length a)+1) (lz f.blocks.length a):=rfl;generalize iq f.blocks a=RR at ZH ⊢
 refine ab (cD (fun s=>∃ N,aM prog s ⟨aF [(4,.rs 1 0 f.blocks.length)],bJ [(1,.cells (dF (fF f.ag.length n f.blocks.length RR)) 163)],N⟩) (Mm (α:=CS×Nat)
  (fun s=>⟨aF [(1,.pt (aH f)),(3,I n),(4,.rs 1 0 f.blocks.length),(7,B s.1.ch)],bJ [(1,.cells (dF (fF f.ag.length n f.blocks.length s.1)) 163)],s.2⟩)
  (fun s=>qJ f.ag.length n f.blocks.length s.1/\2<=s.2/\(s.1.ch=true->∃ k,rA s.1<k/\lM f.blocks k s.1=RR)/\(s.1.ch=false->s.1=RR)) (fun s=>2*rA s.1+if s.1.ch=true then 1 else 0) (lz f.blocks.length a,N3)
  (aY eH eH) ⟨hG0,oM,fun _=>⟨_,Nat.lt_succ_self _,ZH.symm⟩,fun h=>by cases h⟩ ?_) ?_)
 .rintro⟨C,N0⟩ ⟨hG,Yv,nG,Fl⟩;dsimp only at hG Yv nG Fl ⊢;refine SS ?_;refine ab ⟨_,rfl,fun h0=>?_,fun h=>?_⟩
  .obtain⟨gQ,ajY,EM⟩:=nG h0;obtain⟨gQ,rfl⟩:∃ j,gQ=j+1:=⟨gQ - 1,oG⟩
   have EN:=DG M.ok.bF hG.ok;refine ws ?_;refine SS ?_;refine ab (ay ?_);refine SS ?_
   refine ab (dD (α:=Nat×Nat)
    (fun k=>⟨aF [(1,.pt (aH f)),(3,I n),(4,.rs 1 0 f.blocks.length),(7,B ((range k.1).foldl (dP f.blocks) ⟨C.wsq,C.re,false⟩).ch),(8,I k.1)],bJ [(1,.cells (dF (fF f.ag.length n f.blocks.length ((range k.1).foldl (dP f.blocks) ⟨C.wsq,C.re,false⟩))) 163)],k.2⟩)
    (fun k=>k.1<=f.blocks.length/\2<=k.2/\qJ f.ag.length n f.blocks.length ((range k.1).foldl (dP f.blocks) ⟨C.wsq,C.re,false⟩)) (fun k=>f.blocks.length - k.1) (0,N0) (aY eH eH) ⟨Nat.zero_le _,Yv,U4 hG false⟩ ?_)
   rintro⟨k,N⟩ ⟨hk,hN,A6⟩;dsimp only at hk hN A6 ⊢;have dn:(range (k+1)).foldl (dP f.blocks) ⟨C.wsq,C.re,false⟩=dP f.blocks ((range k).foldl (dP f.blocks) ⟨C.wsq,C.re,false⟩) k:=by rw[List.range_succ,List.foldl_append];rfl
   have nq:k=f.blocks.length->(range k).foldl (dP f.blocks) ⟨C.wsq,C.re,false⟩=jS f.blocks C:=fun e=>by rw[e,jS]
   generalize (range k).foldl (dP f.blocks) ⟨C.wsq,C.re,false⟩=u at A6 dn nq;refine aR ?_;refine ab ⟨_,rfl,fun h=>?_,fun h=>?_⟩
   .have al:k<f.blocks.length:=by simpa using h
    have hx:f.blocks[k]? =some f.blocks[k]:=bc al;have U:f.blocks[k]∈f.blocks:=di _;generalize f.blocks[k]=x at hx U;have J:dP f.blocks u k=if u.re.getD k false=true then(nextR x.fin).foldl (cY x.fin (jE x (u.wsq.getD k [])).1) u else u:=by rw[dP,hx]
    have DA:=Bc (R:=f.ag.length) (n:=n) (s:=u) al;obtain⟨rr,kd⟩:=ahM DA;have xB:=U2 DA;have O:=(BD (fF f.ag.length n f.blocks.length u)).trans (congrArg (·*2) (xF f.ag.length n f.blocks.length u));have Gz:cH f.ag.length n u k=if u.re.getD k false=true then⟨false,cF f.ag.length n (u.wsq.getD k [])⟩ else⟨true,replicate n false⟩:=rfl
    have KD:=A6.yes k al;have Yw:=A6.ok.Yx al;refine aI (aj ?_);cases qj:u.re.getD k false with
    |false=>
     rw[qj] at Gz J;rw[Gz] at kd;have J:dP f.blocks u k=u:=J;have kd:(dF (fF f.ag.length n f.blocks.length u)).drop (k*2+0)=B true::mq (replicate n false)::rr:=kd;refine bm ?_;refine ab (dZ rfl (fun h=>uc (BO ?_)) fun h=>oH);refine av ?_;refine ab (bg (k+1,N) (aY ⟨rfl,rfl,rfl,?_,rfl,trivial⟩ ⟨?_,trivial⟩) ⟨oM,hN,?_⟩ oM)
     .dsimp only;rw[dn,J];rfl
     .dsimp only;rw[dn,J];rfl
     .dsimp only;rw[dn,J];exact A6
    |true=>
    rw[qj] at Gz J;rw[Gz] at kd xB;have J:dP f.blocks u k=(nextR x.fin).foldl (cY x.fin (jE x (u.wsq.getD k [])).1) u:=J;have KD:=KD qj;generalize u.wsq.getD k []=w at Gz J kd xB KD Yw;have kd:(dF (fF f.ag.length n f.blocks.length u)).drop (k*2+0)=B false::mq (cF f.ag.length n w)::rr:=kd;refine bm ?_;refine ab (dZ rfl (fun h=>oH) fun h=>cX (ua abP ?_));have Zz:(cF f.ag.length n w).length=n:=D7 ..;obtain⟨q1,q2,q3⟩:=D8 (R:=f.ag.length) (n:=n) hR oG QV (l:=x.ins) (ok:=true) (fun y hy=>hn▸(M.ins x U y hy).1) Yw KD;have wR:az prog 109 [.agg (aH f),I k,.agg (cJ ⟨false,cF f.ag.length n w⟩)] (.agg (cJ (fG f.ag.length x.ins ⟨false,cF f.ag.length n w⟩))):=wR hx (by rw[hn];exact Zz) (by show(cF f.ag.length n w).length<=_;omega) (fun y hy=>(M.ins x U y hy).1) (by have:=(M.ok.bF x U).len;omega);rw[q1] at wR;have Gi:(jE x w).1=(x.ins.foldl mI (w,true)).1:=rfl;rw[Gi] at J;clear Gi;generalize (x.ins.foldl mI (w,true)).1=w' at q1 q2 q3 wR J;refine bm ?_;refine aq (fD rfl rfl tu mO xB) aG (fE t163 mO (by rw[O];omega)) ?_;refine cl wR ?_;refine af ?_;have aoe:(cF f.ag.length n w').length=n:=D7 ..;refine bN bO (aX (ow (i:=N) (l:=[(1,.pt (aH f)),(3,I n),(4,.rs 1 0 f.blocks.length),(7,B u.ch),(8,I k),(9,.pt (cJ ⟨false,cF f.ag.length n w'⟩))]) (ml:=[(1,.cells (dF (fF f.ag.length n f.blocks.length u)) 163)]) (an _ _ _) ⟨rfl,rfl,xK oG,rfl,rfl,mG,trivial⟩ ⟨Bs oG (au oG (au oG rfl)) Mb,trivial⟩) (aj ?_));have vm:=vm hx (by have:=hw x U;omega);rw[(M.ed x U).2] at vm;have gm:=(M.ok.bF x U).to;have me:=G9 x.fin;have ZE:=hw x U;have rF:=M.wr x U;have FI:=(M.ed x U).1;generalize nextR x.fin=l at vm gm me J;refine af ?_;refine cl vm ?_;refine SS ?_;refine ab (ay ?_);refine SS ?_
    refine ab (dD (α:=Nat×Nat)
     (fun j=>⟨aF [(1,.pt (aH f)),(3,I n),(4,.rs 1 0 f.blocks.length),(7,B ((l.take j.1).foldl (cY x.fin w') u).ch),(8,I k),(9,.pt (cJ ⟨false,cF f.ag.length n w'⟩)),(10,aT l),(11,I j.1)],bJ [(1,.cells (dF (fF f.ag.length n f.blocks.length ((l.take j.1).foldl (cY x.fin w') u))) 163)],j.2⟩)
     (fun j=>j.1<=l.length/\2<=j.2/\qJ f.ag.length n f.blocks.length ((l.take j.1).foldl (cY x.fin w') u)) (fun j=>l.length - j.1) (0,N+1) (aY eH eH) ⟨Nat.zero_le _,oM,A6⟩ ?_)
    clear xB O;rintro⟨j,N'⟩ ⟨hj,Kr,KE⟩;dsimp only at hj Kr KE ⊢;have X:∀ t,l[j]? =some t->(l.take (j+1)).foldl (cY x.fin w') u=cY x.fin w' ((l.take j).foldl (cY x.fin w') u) t:=fun t ht=>rI ht;have s6:j=l.length->(l.take j).foldl (cY x.fin w') u=dP f.blocks u k:=fun e=>by rw[J,cO oG]
    generalize (l.take j).foldl (cY x.fin w') u=v at KE X s6;refine aR ?_;refine ab ⟨_,rfl,fun h=>?_,fun h=>?_⟩
    .have dK:j<l.length:=by simpa using h
     have ht:l[j]? =some l[j]:=bc dK;have tU:=gm _ (di dK);generalize l[j]=t at ht tU;obtain⟨i,rfl⟩:=iG tU.1;have cC:i<f.blocks.length:=by omega
     have DA:=Bc (R:=f.ag.length) (n:=n) (s:=v) cC;have xB:=U2 DA;have O:=(BD (fF f.ag.length n f.blocks.length v)).trans (congrArg (·*2) (xF f.ag.length n f.blocks.length v));have rG:=fun q=>Lh (L:=fF f.ag.length n f.blocks.length v) (t:=i) q (by rw[xF];exact cC);obtain⟨QY,qk⟩:=U5 (R:=f.ag.length) (n:=n) hR oG QV KE FI rF cC q2 q3;have X:=X _ ht
     have yQ:az prog 108 [.agg (aH f),I k,I i,.agg (cJ ⟨false,cF f.ag.length n w'⟩)] (.agg (cJ (nY x.fin i ⟨false,cF f.ag.length n w'⟩))):=yQ hx oG (by show(cF f.ag.length n w').length<=_;omega) (by
      rcases rF with e|⟨r,h1,h2⟩
      .exact .inl e
      .exact .inr ⟨r,by show r<(cF f.ag.length n w').length;omega,h2⟩)
     have od:(nY x.fin i ⟨false,cF f.ag.length n w'⟩).is.length=n:=(SU ..).trans aoe;have dw:(cH f.ag.length n v i).is.length=n:=Li;have CJ:=CJ (a:=cH f.ag.length n v i) (b:=nY x.fin i ⟨false,cF f.ag.length n w'⟩) (by rw[dw,od]) oG;unfold CL at qk
     have fI:(qH (cH f.ag.length n v i) (nY x.fin i ⟨false,cF f.ag.length n w'⟩)).is.length=n:=by
      unfold qH;split
      .exact od
      .split
       .exact dw
       .show(List.zipWith _ _ _).length=n;rw[List.length_zipWith];omega
     generalize qH (cH f.ag.length n v i) (nY x.fin i ⟨false,cF f.ag.length n w'⟩)=now at CJ qk fI;generalize nY x.fin i ⟨false,cF f.ag.length n w'⟩=ov at yQ CJ od;generalize aq8:cH f.ag.length n v i=mT at CJ qk dw xB;have xB:((dF (fF f.ag.length n f.blocks.length v)).drop (i*2)).take 2=cJ mT:=xB;refine ay ?_;refine cG ?_;refine aq (fD rfl rfl tu mO xB) aG (fE t163 mO (by rw[O];omega)) ?_;refine af ?_;refine ab (aX (ow (i:=N') (l:=[(1,.pt (aH f)),(3,I n),(4,.rs 1 0 f.blocks.length),(7,B v.ch),(8,I k),(9,.pt (cJ ⟨false,cF f.ag.length n w'⟩)),(10,aT l),(11,I j),(12,.pt (cJ mT))]) (ml:=[(1,.cells (dF (fF f.ag.length n f.blocks.length v)) 163)]) (an _ _ _) ⟨rfl,rfl,xK oG,rfl,rfl,rfl,rfl,rfl,mG,trivial⟩ ⟨Bs oG (au oG (au oG rfl)) Mb,trivial⟩) (ua abQ ?_));refine cP ?_;refine cl yQ ?_;refine cl CJ ?_;refine af ?_;refine bN bO (aX (ow (i:=N'+1) (l:=[(1,.pt (aH f)),(3,I n),(4,.rs 1 0 f.blocks.length),(7,B v.ch),(8,I k),(9,.pt (cJ ⟨false,cF f.ag.length n w'⟩)),(10,aT l),(11,I j),(12,.pt (cJ mT)),(13,.pt (cJ now))]) (ml:=[(1,.cells (dF (fF f.ag.length n f.blocks.length v)) 163)]) (an _ _ _) ⟨rfl,rfl,xK oG,rfl,rfl,rfl,rfl,rfl,rfl,mG,trivial⟩ ⟨Bs oG (au oG (au oG rfl)) Mb,trivial⟩) (aj ?_));refine aR ?_;refine aq (Vp rfl rfl) ak V.h ?_;refine SS ?_;refine ab (aI (ay ?_));refine SS ?_
     refine ab (cD (fun s=>aM prog s ⟨aF [(1,.pt (aH f)),(3,I n),(4,.rs 1 0 f.blocks.length),(7,B v.ch),(8,I k),(9,.pt (cJ ⟨false,cF f.ag.length n w'⟩)),(10,aT l),(11,I j),(13,.pt (cJ now)),(14,B (qI mT now n))],bJ [(1,.cells (dF (fF f.ag.length n f.blocks.length v)) 163)],N'+2⟩) (dD (α:=Nat) (fun q=>⟨aF [(1,.pt (aH f)),(3,I n),(4,.rs 1 0 f.blocks.length),(7,B v.ch),(8,I k),(9,.pt (cJ ⟨false,cF f.ag.length n w'⟩)),(10,aT l),(11,I j),(12,.pt (cJ mT)),(13,.pt (cJ now)),(14,B (qI mT now q)),(15,I q)],bJ [(1,.cells (dF (fF f.ag.length n f.blocks.length v)) 163)],N'+2⟩)
      (fun q=>q<=n) (fun q=>n - q) 0 (aY ⟨rfl,rfl,rfl,rfl,rfl,rfl,rfl,rfl,rfl,rfl,?_,rfl,trivial⟩ eH) oG ?_) ?_)
     .show B (mT.any==now.any)=B (qI mT now 0);unfold qI;rw[List.range_zero,List.all_nil,Bool.and_true]
     .intro q hq;have zk:=abO mT now q;have ZI:q=n->qI mT now q=qI mT now n:=fun e=>by rw[e]
      generalize qI mT now q=sq at zk ZI;refine av ?_;refine ab ⟨_,rfl,fun h=>?_,fun h=>?_⟩
      .have Dz:q<n:=by simpa using h
       have GA:mT.is[q]? =some mT.is[q]:=bc oG;have C0:now.is[q]? =some now.is[q]:=bc oG;rw[getD_some GA,getD_some C0] at zk;generalize mT.is[q]=b1 at GA zk;generalize now.is[q]=b2 at C0 zk;refine Bz abR ?_;cases sq with
       |false=>
        refine af ?_;(iterate 11 refine z fun _ _=>?_);refine af ?_;refine bN bO ?_;refine av ?_;refine ab (bg (q+1) (aY ⟨rfl,rfl,rfl,rfl,rfl,rfl,rfl,rfl,rfl,rfl,?_,rfl,trivial⟩ eH) oG oG);rw[zk];rfl
       |true=>
        refine bj ?_;refine av ?_;refine cq rfl rfl (Vp rfl rfl) (fun hc=>⟨ak,V.h⟩) ?_;refine af ?_;refine bN bO ?_;refine av ?_;refine ab (bg (q+1) (aY ⟨rfl,rfl,rfl,rfl,rfl,rfl,rfl,rfl,rfl,rfl,?_,rfl,trivial⟩ eH) oG oG);rw[zk];rfl
      .have bG:¬ q<n:=by simpa using h
       rw[<- ZI oG];exact aY eH eH
     rintro s1 FN;have cz:=adu dw fI;generalize qI mT now n=sq at FN cz;refine⟨_,FN,aj ?_⟩;clear FN;refine af ?_;refine ab (ap rfl (fun hp=>?_) fun hp=>dE ?_)
     .have hns:¬ (mT.any=now.any/\mT.is=now.is):=fun h=>by rw[cz.2 h] at hp;cases hp
      have rG:=rG (Fw now);rcases qk with⟨qk,_⟩|⟨_,tK,F7⟩
      .exact absurd ⟨congrArg Cert.any qk.symm,congrArg Cert.is qk.symm⟩ hns
      rw[abN F7] at rG;refine ej abS ?_;refine fB ?_;refine dA (jm (vs:=cJ now) rfl rfl rfl rG) aG (ef t163 mO ⟨rfl,by rw[O];omega⟩ rfl) ?_;refine bN bO (jn ?_);refine SS ?_;refine ab ?_;refine av ?_;refine ab (bg (j+1,N'+2) (aY ⟨rfl,rfl,rfl,?_,rfl,rfl,rfl,rfl,trivial⟩ ⟨?_,trivial⟩) ⟨oM,oM,?_⟩ oM)
      .dsimp only;rw[X,tK];rfl
      .dsimp only;rw[X];rfl
      .dsimp only;rw[X];exact QY
     .have hsq:sq=true:=by simpa using hp
      have Gh:=cz.1 hsq;rcases qk with⟨_,qk⟩|⟨bf,_,_⟩
      .rw[qk] at X QY;refine av ?_;refine ab (bg (j+1,N'+2) (aY ⟨rfl,rfl,rfl,?_,rfl,rfl,rfl,rfl,trivial⟩ ⟨?_,trivial⟩) ⟨oM,oM,?_⟩ oM)
       .dsimp only;rw[X];rfl
       .dsimp only;rw[X];rfl
       .dsimp only;rw[X];exact QY
      .exfalso;rcases bf with h|h
       .exact h Gh.1.symm
       .exact h Gh.2.symm
    .have bG:¬ j<l.length:=by simpa using h
     have vl:=s6 oG;subst vl;show ax _ _ _ _ _ _ _ _ _;refine av ?_;refine ab (bg (k+1,N') (aY ⟨rfl,rfl,rfl,?_,rfl,trivial⟩ ⟨?_,trivial⟩) ⟨oM,Kr,?_⟩ oM)
     .dsimp only;rw[dn];rfl
     .dsimp only;rw[dn];rfl
     .dsimp only;rw[dn];exact KE
   .have bG:¬ k<f.blocks.length:=by simpa using h
    have hl:=nq oG;subst hl;refine bg (jS f.blocks C,N) (aY eH eH) ⟨A6,hN,fun hc=>?_,fun hc=>?_⟩ ?_
    .refine⟨gQ,?_,?_⟩
     .have:=EN.2;unfold pj at this;show rA (jS f.blocks C)<gQ;rw[if_pos hc] at this;omega
     .dsimp only at hc ⊢;rw[<- EM,lM,if_pos hc]
    .dsimp only at hc ⊢;rw[<- EM,lM,if_neg (by simp[hc])]
    .have:=EN.2;unfold pj at this;dsimp only;rw[if_pos h0];split at this<;>rename_i hc
     .rw[if_pos hc];omega
     .rw[if_neg hc];omega
  .have QC:=Fl h;subst QC;exact⟨N0,aY eH eH⟩
 .rintro s ⟨N4,hg⟩;refine⟨_,hg,ay ?_⟩;refine af ?_;refine ab (aX (bZ [(1,dF (fF f.ag.length n f.blocks.length RR),163)] eH (l:=[(2,.sl (dF (fF f.ag.length n f.blocks.length RR)) f.blocks.length)]) ⟨?_,trivial⟩) (aw rfl rfl));show sub (dh 1 _ (prog.cellsOf 163)) (D.rs 1 0 f.blocks.length)=_;rw[mW (by rw[mO,BD,xF])]
end Go.Proofs.Tryz.K
namespace Go.Argus
open Go.Proofs.Tryz.K (nextR)
@[simp] theorem RY (p : Bool × D) : (pR p).length = 2 := rfl
theorem aaW{f:aK}(h:kB f=true):∀ b∈f.blocks,gB f b.fin=true:=fun b hb=>by
 unfold kB at h;simp only[aB] at h;obtain⟨_,_,_,C,_⟩:=h;obtain⟨k,hk⟩:=dR hb;have:=bT.1 C k (by simpa using(bX.1 hk).1);unfold jU at this;simp only[getD_some hk,aB] at this;exact this.1
end Go.Argus
namespace Go.Proofs.Tryz.K
theorem om{f:aK}(hs:s4 f)(hw:∀ b∈f.blocks,b.fin.aC.length<=9):az prog 66 [.agg (aH f)] (I (fe f)):=by
 rw[<- adv];have CI:=CI hs hw;have J2:Nn f=if vO f=true then(if(range f.blocks.length).all (qK f (iq f.blocks f.args.toNat))=true then 0 else 81) else 80:=rfl
 refine bu aof (.cons (.agg (gA f)) .nil) (Tr.s _) ?_;rw[aog,J2];clear J2;refine ay ?_;refine af ?_;refine ab (aX (bZ [(0,aH f,48)] eH (l:=[(1,.pt (aH f))]) eH) (aj ?_));cases hf:vO f with
 |false=>
  rw[hf] at CI;refine SS ?_;refine cl CI ?_;refine SS ?_;refine ab (aI (aj ?_));refine af ?_;refine ab (pP ?_);refine aI (aj ?_);refine SS ?_;exact ab (eb (aw rfl rfl))
 |true=>
 rw[hf] at CI;rw[if_pos rfl];rw[R8] at hf;have he:=aaW hf;have O:=Xu hf;have CK:=CK O hw;have hR:=O.ok.ag;have hS:=O.sl;have hN1:=O.ok.oi;have yP:=yP (f:=f) rfl oG hw (fun b hb t ht=>by rw[(O.ed b hb).2] at ht;exact(O.ok.bF b hb).to t ht)
 have ZJ:∀ k,k<f.blocks.length->(qv f.blocks)[k]? =some (cw f.blocks f.blocks.length k):=fun k hk=>by
  rw[<- SY he];simp[qv,hk]
 have KB:(qv f.blocks).length=f.blocks.length:=by simp[qv]
 generalize qv f.blocks=L at yP ZJ KB
 have ZK:EC f (iq f.blocks f.args.toNat)=.sl ((fF f.ag.length (f.ag.length+f.aN.length) f.blocks.length (iq f.blocks f.args.toNat)).flatMap pR) (fF f.ag.length (f.ag.length+f.aN.length) f.blocks.length (iq f.blocks f.args.toNat)).length:=by
  unfold EC;rw[xF];rfl
 rw[ZK] at CK;clear ZK;generalize iq f.blocks f.args.toNat=RR at CK ⊢;have QZ:∀ k,k<f.blocks.length->(fF f.ag.length (f.ag.length+f.aN.length) f.blocks.length RR)[k]? =some (Fw (cH f.ag.length (f.ag.length+f.aN.length) RR k)):=fun k hk=>Bc hk;have hCl:=xF f.ag.length (f.ag.length+f.aN.length) f.blocks.length RR;generalize fF f.ag.length (f.ag.length+f.aN.length) f.blocks.length RR=CP at CK QZ hCl;refine SS ?_;refine cl CI ?_;refine SS ?_;refine ab (aI (aj ?_));refine af ?_;refine ab (mE (cX (aj ?_)));refine SS ?_;refine cl CK ?_;refine SS ?_;refine er ?_;refine SS ?_;refine cl yP ?_;refine SS ?_;refine ab (aI (ay ?_));refine SS ?_
 refine ab (cD (fun s=>(∃ N,aM prog s ⟨aF [],fun _=>none,N⟩)/\(range f.blocks.length).all (qK f RR)=true) (dD (α:=Nat×Nat) (fun q=>⟨aF [(1,.pt (aH f)),(4,.sl (CP.flatMap pR) CP.length),(5,dC L),(6,I q.1)],fun _=>none,q.2⟩)
  (fun q=>q.1<=f.blocks.length/\(range q.1).all (qK f RR)=true) (fun q=>f.blocks.length - q.1) (0,1) (iJ eH) ⟨Nat.zero_le _,rfl⟩ ?_) ?_)
 .rintro⟨k,N⟩ ⟨hk,bQ⟩;dsimp only at hk bQ ⊢;refine bm ?_;refine ab ⟨_,rfl,fun h=>?_,fun h=>?_⟩
  .have al:k<f.blocks.length:=by simpa using h
   have hx:f.blocks[k]? =some f.blocks[k]:=bc al;have dp:f.blocks[k]∈f.blocks:=di _;have DA:=QZ k al;have qX:qK f RR k=false->(if(range f.blocks.length).all (qK f RR)=true then(0:Int) else 81)=81:=fun hq=>by rw[po al hq];rfl
   have zm:qK f RR k=((cH f.ag.length (f.ag.length+f.aN.length) RR k).any||((range f.blocks[k].ins.length).all (Aw f RR k f.blocks[k].ins (cH f.ag.length (f.ag.length+f.aN.length) RR k))&&sC (fG f.ag.length f.blocks[k].ins (cH f.ag.length (f.ag.length+f.aN.length) RR k)) (c8 f.blocks[k].fin))):=by
    unfold qK;simp only[getD_some hx]
   have dw:(cH f.ag.length (f.ag.length+f.aN.length) RR k).is.length=f.ag.length+f.aN.length:=Li;generalize f.blocks[k]=x at hx dp zm;generalize cH f.ag.length (f.ag.length+f.aN.length) RR k=c at DA zm dw;obtain⟨ca,C⟩:=c;refine aI (aj ?_);cases ca with
   |true=>
    refine bm ?_;refine ab (dZ rfl (fun h=>uc (BO ?_)) fun h=>oH);refine av ?_;exact ab (bg (k+1,N) (iJ eH) ⟨oM,mh bQ zm⟩ oM)
   |false=>
   refine bm ?_;refine ab (dZ rfl (fun h=>oH) fun h=>cX (ay ?_));rw[show({ any:=false,is:=C }:Cert).any=false from rfl,Bool.false_or] at zm;refine cG ?_;refine ab (aX (aY (l:=[(1,.pt (aH f)),(4,.sl (CP.flatMap pR) CP.length),(5,dC L),(6,I k),(7,.rp N 0)]) (ml:=[(N,.cells (cJ ⟨false,C⟩) 163)]) eH ⟨an _ _ _,trivial⟩) (aj ?_));refine fB ?_;have dz:=(O.ok.bF x dp).len;have aoh:=O.ins x dp;have Ap:=O.Kz k x hx;have hAg:=ZJ k al;have aoi:=GV (fun b hb t ht=>((O.ok.bF b hb).to t ht).1) f.blocks.length k;have alL:=O.ok.bF;have J:∀ y q,qL f RR k y q=qL f RR k y q:=fun _ _=>rfl;refine ab (aI (ay ?_));refine SS ?_
   refine ab (cD (fun s=>∃ N',aM prog s ⟨aF [(1,.pt (aH f)),(4,.sl (CP.flatMap pR) CP.length),(5,dC L),(6,I k),(7,.rp N 0)],bJ [(N,.cells (cJ (fG f.ag.length x.ins ⟨false,C⟩)) 163)],N'⟩/\N<N'/\(range x.ins.length).all (Aw f RR k x.ins ⟨false,C⟩)=true) (dD (α:=Nat×Nat) (fun j=>⟨aF [(1,.pt (aH f)),(4,.sl (CP.flatMap pR) CP.length),(5,dC L),(6,I k),(7,.rp N 0),(8,iX x.ins),(9,I j.1)],bJ [(N,.cells (cJ (fG f.ag.length (x.ins.take j.1) ⟨false,C⟩)) 163)],j.2⟩)
    (fun j=>j.1<=x.ins.length/\N<j.2/\(range j.1).all (Aw f RR k x.ins ⟨false,C⟩)=true) (fun j=>x.ins.length - j.1) (0,N+1) (aY eH ⟨an _ _ _,trivial⟩) ⟨Nat.zero_le _,Nat.lt_succ_self _,rfl⟩ ?_) ?_)
   .rintro⟨j,M⟩ ⟨hj,hM,vC⟩;dsimp only at hj hM vC ⊢;have bH:∀ y,x.ins[j]? =some y->fG f.ag.length (x.ins.take (j+1)) ⟨false,C⟩=wD f.ag.length (fG f.ag.length (x.ins.take j) ⟨false,C⟩) y:=fun y hy=>rI hy;have nq:j=x.ins.length->fG f.ag.length (x.ins.take j) ⟨false,C⟩=fG f.ag.length x.ins ⟨false,C⟩:=fun e=>by rw[e,List.take_length]
    have zl:=(DT f.ag.length (x.ins.take j) ⟨false,C⟩).trans dw;have bY:Aw f RR k x.ins ⟨false,C⟩ j=(opsV f.ag.length (fG f.ag.length (x.ins.take j) ⟨false,C⟩) (x.ins.getD j dW)&&CM f RR k (x.ins.getD j dW)):=rfl;generalize fG f.ag.length (x.ins.take j) ⟨false,C⟩=d at bH nq zl bY;refine aR ?_;refine ab ⟨_,rfl,fun h=>?_,fun h=>?_⟩
    .have dK:j<x.ins.length:=by simpa using h
     have hy:x.ins[j]? =some x.ins[j]:=bc dK;have bH:=bH _ hy;rw[getD_some hy] at bY;have A7:=aoh _ (di dK);have tV:=Ap j _ hy;have ta:Aw f RR k x.ins ⟨false,C⟩ j=false->(if(range f.blocks.length).all (qK f RR)=true then(0:Int) else 81)=81:=fun hq=>qX (by rw[zm,po dK hq];rfl);generalize x.ins[j]=y at hy bH bY A7 tV;refine ay ?_;refine cG ?_;refine ab (aX (ow (i:=M) (l:=[(1,.pt (aH f)),(4,.sl (CP.flatMap pR) CP.length),(5,dC L),(6,I k),(7,.rp N 0),(8,iX x.ins),(9,I j),(10,.pt (bA y))]) (ml:=[(N,.cells (cJ d) 163)]) (an _ _ _) ⟨rfl,rfl,rfl,rfl,pv oG,rfl,rfl,mG,trivial⟩ ⟨Bs oG (au oG (au oG (an _ _ _))) rfl,trivial⟩) (eT (fun s=>aM prog s ⟨aF [(1,.pt (aH f)),(4,.sl (CP.flatMap pR) CP.length),(5,dC L),(6,I k),(7,.rp N 0),(8,iX x.ins),(9,I j),(10,.pt (bA y))],bJ [(N,.cells (cJ d) 163)],M+1⟩/\opsV f.ag.length d y=true) ?_ ?_))
     .have cE:=(alL x dp).ins y (cx hy);clear bH tV;obtain⟨U,yt,ya,yb,yn,yl⟩:=y;have gv:opsV f.ag.length d ⟨U,yt,ya,yb,yn,yl⟩=((U !=17||d.is.getD ((f.ag.length:Int)+yn).toNat false)&&sC d (c6 ⟨U,yt,ya,yb,yn,yl⟩)):=rfl;have yO:=yO (x:=⟨U,yt,ya,yb,yn,yl⟩) (fun ho=>by have:=cE.ar ho;dsimp only at this ⊢;omega)
      have tq:=tq (c:=d) (rs:=c6 ⟨U,yt,ya,yb,yn,yl⟩) (fun r hr=>by
       obtain⟨i,h1,h2⟩:=A7.2.r r hr
       exact⟨i,oG,h2⟩)
      generalize sC d (c6 ⟨U,yt,ya,yb,yn,yl⟩)=v at tq gv;generalize c6 ⟨U,yt,ya,yb,yn,yl⟩=rs at tq yO;have Fa:opsV f.ag.length d ⟨U,yt,ya,yb,yn,yl⟩=false->I 81=I (if(range f.blocks.length).all (qK f RR)=true then 0 else 81):=fun hq=>by rw[ta (by rw[bY,hq];rfl)]
      refine ej adw ?_;by_cases jl:U=17
      .obtain⟨i,hi,e⟩:=A7.2.s jl;dsimp only at e;subst e;have ZL:d.is[f.ag.length+i]? =some d.is[f.ag.length+i]:=bc oG;have ki:(U==17)=true:=by simp[jl]
       rw[show((f.ag.length:Int)+(i:Int)).toNat=f.ag.length+i by omega,getD_some ZL,show(U !=17)=false by simp[jl],Bool.false_or] at gv;generalize d.is[f.ag.length+i]=b at ZL gv;have ei:({ op:=U,to:=yt,a:=ya,b:=yb,n:=(i:Int),args:=yl }:bK).n=(i:Int):=rfl;refine bj ?_;refine af ?_;refine cq rfl rfl (Wp rfl rfl oG) (fun hc=>⟨ak,rfl⟩) ?_;refine bm ?_;refine cq rfl rfl (fD rfl (an _ _ _) V.h V.h rfl) (fun hc=>⟨ak,(fE V.h V.h (by first|(simp;done)|omega|exact bt rfl))⟩) ?_;refine SS ?_;refine gc yO ?_;refine gc tq ?_;refine af ?_;refine bN bO (ap rfl (fun hp=>aj ?_) fun hp=>bw ⟨aY eH ⟨an _ _ _,trivial⟩,by rw[gv];revert hp;cases b<;>cases v<;>simp⟩);refine SS ?_;exact ab (bp (a6 (cZ (a6 (cZ (a6 (aw rfl (Fa (by rw[gv];revert hp;cases b<;>cases v<;>simp)))))))))
      .have ki:(U==17)=false:=by simp[jl]
       rw[show(U !=17)=true by simp[jl],Bool.true_or,Bool.true_and] at gv;refine aR ?_;(iterate 11 refine z fun _ _=>?_);refine af ?_;refine cq rfl rfl (fD rfl (an _ _ _) V.h V.h rfl) (fun hc=>⟨ak,(fE V.h V.h (by first|(simp;done)|omega|exact bt rfl))⟩) ?_;refine SS ?_;refine gc yO ?_;refine gc tq ?_;refine af ?_;refine bN bO (ap rfl (fun hp=>aj ?_) fun hp=>bw ⟨aY eH ⟨an _ _ _,trivial⟩,by rw[gv];revert hp;cases v<;>simp⟩);refine SS ?_;exact ab (bp (a6 (cZ (a6 (cZ (a6 (aw rfl (Fa (by rw[gv];revert hp;cases v<;>simp)))))))))
     rintro s ⟨hg,Yy⟩;rw[Yy,Bool.true_and] at bY;clear Yy;have sf:=sf (x:=y)
     have hp:Fu d.is.length (dV y):=by
      rcases A7.1.w with e|⟨i,h1,h2⟩
      .exact .inl e
      .exact .inr ⟨i,oG,h2⟩
     have kw:=lm (c:=d) oG hp;have AZ:=(G' d (dV y)).trans zl
     have kv:y.op=18->az prog 106 [.agg (cJ (kK d (dV y))),I ((f.ag.length:Int)+y.n)] (.agg (cJ (kK (kK d (dV y)) ((f.ag.length:Int)+y.n)))):=fun e=>lm oG (by
      obtain⟨i,h1,h2⟩:=A7.1.s e
      exact .inr ⟨f.ag.length+i,oG,by rw[h2];omega⟩)
     have jj:y.op=18->0<=y.n/\y.n<=2000:=fun e=>by
      obtain⟨i,h1,h2⟩:=A7.1.s e;omega
     have te:=bH;unfold wD at te;generalize kK d (dV y)=d1 at kw AZ kv te;generalize dV y=w at sf kw;have lm:=kw;refine⟨_,hg,ua adx ?_⟩;clear hg;refine af ?_;refine cl sf ?_;refine cl lm ?_;refine SS ?_;refine bN bO (aX (aY (l:=[(1,.pt (aH f)),(4,.sl (CP.flatMap pR) CP.length),(5,dC L),(6,I k),(7,.rp N 0),(8,iX x.ins),(9,I j),(10,.pt (bA y))]) (ml:=[(N,.cells (cJ d1) 163)]) eH ⟨an _ _ _,trivial⟩) (eT (fun s=>aM prog s ⟨aF [(1,.pt (aH f)),(4,.sl (CP.flatMap pR) CP.length),(5,dC L),(6,I k),(7,.rp N 0),(8,iX x.ins),(9,I j),(10,.pt (bA y))],bJ [(N,.cells (cJ (fG f.ag.length (x.ins.take (j+1)) ⟨false,C⟩)) 163)],M+1⟩) (aj ?_) ?_))
     .refine av ?_;refine ab (ap rfl (fun eP=>lP ?_) fun eP=>bw ?_)
      .have eP:y.op=18:=by simpa using eP
       rw[if_pos eP] at te;have lm:=kv eP;have p9:=jj eP;refine fB ?_;refine cl lm ?_;refine SS ?_;refine ab (aY eH ⟨?_,trivial⟩);rw[te];exact an _ _ _
      .have eP:¬ y.op=18:=by simpa using eP
       rw[if_neg eP] at te;refine aY eH ⟨?_,trivial⟩;rw[te];exact an _ _ _
     intro s hg;refine⟨_,hg,ay ?_⟩;clear hg te kw kv AZ lm sf hp jj bH;refine SS ?_;generalize ZM:fG f.ag.length (x.ins.take (j+1)) ⟨false,C⟩=dj
     refine ab (dD (α:=Nat×Nat) (fun q=>⟨aF [(1,.pt (aH f)),(4,.sl (CP.flatMap pR) CP.length),(5,dC L),(6,I k),(7,.rp N 0),(8,iX x.ins),(9,I j),(10,.pt (bA y)),(11,I q.1)],bJ [(N,.cells (cJ dj) 163)],q.2⟩)
      (fun q=>q.1<=y.args.length/\N<q.2/\(q.1=0\/y.op=19)/\(range q.1).all (qL f RR k y)=true) (fun q=>y.args.length - q.1) (0,M+1) (aY eH ⟨an _ _ _,trivial⟩) ⟨Nat.zero_le _,oM,.inl rfl,rfl⟩ ?_)
     rintro⟨q,M2⟩ ⟨hq,KF,aoj,GB⟩;dsimp only at hq KF aoj GB ⊢;by_cases fM:y.op=19
     .have ki:(y.op==19)=true:=by simp[fM]
      have ZN:cA y=true:=by simp[cA,fM]
      have tV:=(tV ZN).1;have KG:CM f RR k y=(range y.args.length).all (qL f RR k y):=by unfold CM;rw[ZN];rfl
      have Gn:∀ p∈cw f.blocks f.blocks.length k,∃ X:Nat,p=X/\X<f.blocks.length:=fun p hp=>by
       obtain⟨b,h1,h2,_⟩:=GR.1 hp;exact⟨b,h1,h2⟩
      have J:∀ q,qL f RR k y q=((cH f.ag.length (f.ag.length+f.aN.length) RR ((cw f.blocks f.blocks.length k).getD q 0).toNat).any||(nY (f.blocks.getD ((cw f.blocks f.blocks.length k).getD q 0).toNat jg).fin k (fG f.ag.length (f.blocks.getD ((cw f.blocks f.blocks.length k).getD q 0).toNat jg).ins (cH f.ag.length (f.ag.length+f.aN.length) RR ((cw f.blocks f.blocks.length k).getD q 0).toNat))).is.getD (y.args.getD q 0).toNat false):=fun q=>rfl;have aok:=A7.2.p fM;have QH:=Lg hw f.blocks.length k;generalize cw f.blocks f.blocks.length k=A at tV Gn J hAg QH;by_cases Dz:q<y.args.length
      .have qS:decide ((q:Int)<(y.args.length:Int))=true:=decide_eq_true oG;refine cP ?_;refine cq rfl rfl (Nf rfl rfl qS) (fun hc=>⟨ak,rfl⟩) ?_;refine SS ?_;refine ab ⟨_,rfl,fun h=>?_,fun h=>oH⟩;have J:=J q;have ZO:A[q]? =some A[q]:=bc oG;obtain⟨X,e1,Gp⟩:=Gn _ (di (h:=by omega):A[q]∈A);rw[e1] at ZO;clear e1;rw[getD_some ZO,eI] at J;have A5:=QZ X Gp;have Pw:(cH f.ag.length (f.ag.length+f.aN.length) RR X).is.length=f.ag.length+f.aN.length:=Li;generalize cH f.ag.length (f.ag.length+f.aN.length) RR X=cp at A5 J Pw;obtain⟨pa,pi⟩:=cp;refine ws ?_;refine cP ?_;refine ab (aI (aj ?_));cases pa with
       |true=>
        refine bm ?_;refine ab (dZ rfl (fun h=>uc (BO ?_)) fun h=>oH);refine av ?_;exact ab (bg (q+1,M2) (aY eH ⟨an _ _ _,trivial⟩) ⟨oM,KF,.inr fM,mh GB J⟩ oM)
       |false=>
       refine bm ?_;refine ab (dZ rfl (fun h=>oH) fun h=>cX (ua ady ?_));have vA:f.blocks[X]? =some f.blocks[X]:=bc Gp;have qW:f.blocks[X]∈f.blocks:=di _;rw[getD_some vA] at J;generalize f.blocks[X]=xp at vA qW J;have wR:=wR (c:=⟨false,pi⟩) vA Pw oG (fun y hy=>(O.ins xp qW y hy).1) (by have:=(O.ok.bF xp qW).len;omega);have xd:=(DT f.ag.length xp.ins ⟨false,pi⟩).trans Pw;generalize fG f.ag.length xp.ins ⟨false,pi⟩=pc at wR J xd
       have yQ:=yQ (c:=pc) (to:=(k:Int)) vA (by have:=hw xp qW;omega) oG (by
        rcases O.wr xp qW with e|⟨r,h1,h2⟩
        .exact .inl e
        .exact .inr ⟨r,oG,h2⟩)
       have AL:=(SU xp.fin k pc).trans xd;generalize nY xp.fin k pc=zQ at yQ J AL;have Dl:y.args[q]? =some y.args[q]:=bc Dz;obtain⟨ri,QI,e2⟩:=aok _ (di Dz);rw[e2] at Dl;clear e2;have y8:zQ.is[ri]? =some zQ.is[ri]:=bc oG;rw[getD_some Dl,eI,getD_some y8] at J;generalize zQ.is[ri]=bz at y8 J;have J:qL f RR k y q=bz:=J;refine bj ?_;refine cl wR ?_;refine cl yQ ?_;refine af ?_;refine bN bO (aX (ow (i:=M2) (l:=[(1,.pt (aH f)),(4,.sl (CP.flatMap pR) CP.length),(5,dC L),(6,I k),(7,.rp N 0),(8,iX x.ins),(9,I j),(10,.pt (bA y)),(11,I q),(13,.pt (cJ zQ))]) (ml:=[(N,.cells (cJ dj) 163)]) (an _ _ _) ⟨rfl,rfl,rfl,rfl,pv oG,rfl,rfl,rfl,rfl,mG,trivial⟩ ⟨Bs oG (au oG (au oG (an _ _ _))) rfl,trivial⟩) (ej adz ?_));refine cP ?_;refine af ?_;refine bN bO (ap rfl (fun hp=>aj ?_) fun hp=>dE ?_)
       .have Q3:bz=false:=by simpa using hp
        refine SS ?_;refine ab (bp (cZ (cZ (a6 (cZ (a6 (aw (d:=I 81) rfl ?_)))))));rw[ta (by rw[bY,KG,po Dz (by rw[J,Q3])])]
       .have Q3:bz=true:=by simpa using hp
        refine av ?_;exact ab (bg (q+1,M2+1) (aY eH ⟨an _ _ _,trivial⟩) ⟨oM,oM,.inr fM,mh GB (by rw[J,Q3])⟩ oM)
      .have qS:decide ((q:Int)<(y.args.length:Int))=false:=decide_eq_false oG;have:q=y.args.length:=by omega
       subst this;rw[<- KG] at GB;refine cP ?_;refine cq rfl rfl (Nf rfl rfl qS) (fun hc=>⟨ak,rfl⟩) ?_;refine SS ?_;refine ab ⟨_,rfl,fun h=>oH,fun h=>?_⟩;show ax _ _ _ _ _ _ _ _ _;refine av ?_;refine ab (bg (j+1,M2) (aY eH ⟨?_,trivial⟩) ⟨oM,KF,mh vC (by rw[bY,GB])⟩ oM);dsimp only;rw[ZM];exact an _ _ _
     .have ki:(y.op==19)=false:=by simp[fM]
      have KG:CM f RR k y=true:=by unfold CM cA;simp[fM]
      refine aR ?_;(iterate 5 refine z fun _ _=>?_);refine SS ?_;refine ab ⟨_,rfl,fun h=>oH,fun h=>?_⟩;show ax _ _ _ _ _ _ _ _ _;refine av ?_;refine ab (bg (j+1,M2) (aY eH ⟨?_,trivial⟩) ⟨oM,KF,mh vC (by rw[bY,KG])⟩ oM);dsimp only;rw[ZM];exact an _ _ _
    .have bG:¬ j<x.ins.length:=by simpa using h
     have:j=x.ins.length:=by omega
     subst this;rw[<- nq rfl];exact⟨M,aY eH ⟨an _ _ _,trivial⟩,hM,vC⟩
   .rintro s ⟨M,hg,hM,qi⟩;rw[qi,Bool.true_and] at zm;have zl:=(DT f.ag.length x.ins ⟨false,C⟩).trans dw;refine⟨_,hg,ej adA ?_⟩;generalize fG f.ag.length x.ins ⟨false,C⟩=d at zm zl;have JG:=JG (x:=x.fin) (fun h5 ho=>by have:=(O.ok.an7 x dp h5).ar ho;omega) (fun h1=>by have:=(O.ok.ends x dp).fin.a2 (by rcases h1 with e|e<;>simp[aP,e]);omega)
    have tq:=tq (c:=d) (rs:=c8 x.fin) (fun r hr=>by
     obtain⟨i,h1,h2⟩:=O.rd x dp r hr
     exact⟨i,oG,h2⟩)
    rw[<- zm] at tq;generalize c8 x.fin=rs at JG tq;refine fB ?_;refine cl JG ?_;refine cl tq ?_;refine SS ?_;refine bN bO (ap rfl (fun hp=>?_) fun hp=>dE ?_)
    .refine ws ?_;refine SS ?_;refine ab (bp (cZ (a6 (aw (d:=I 81) rfl ?_))));rw[qX (by simpa using hp)]
    .refine av ?_;exact ab (bg (k+1,M) (iJ eH) ⟨oM,mh bQ (by simpa using hp)⟩ oM)
  .have bG:¬ k<f.blocks.length:=by simpa using h
   have:k=f.blocks.length:=by omega
   subst this;exact⟨⟨N,iJ (l:=[]) trivial⟩,bQ⟩
 .rintro s ⟨⟨N,hg⟩,bQ⟩;refine⟨_,hg,aj ?_⟩;refine SS ?_;refine ab (aw (d:=I 0) rfl ?_);rw[bQ];rfl
theorem ana{s:ByteArray}:az prog 112 [S s] (S vz):=by
 refine bu ajg (.cons (.s _) .nil) (Tr.s _) ?_;rw[ajh];refine ws ?_;refine SS ?_;refine er ?_;refine SS ?_;exact ab (aw rfl rfl)
theorem KZ{P:Program}{Y:gn}{rf:Bool}{Q:Exit->St->Prop}{st:St}{b:Code}{c:Operand}{x y:Code}(hc:opd st.env c=.ub)(ht:AW P Y rf (.seq x b) Q st)(hf:AW P Y rf (.seq y b) Q st):AW P Y rf (.seq (.cond c x y) b) Q st:=UI hc ht hf
theorem Zh{l:List Int}(hl:l.length<=1000000):az prog 91 [iI l] (iI l):=by
 refine bu anb (.cons (nM l) .nil) (nM l) ?_;rw[anc];refine ws ?_;refine SS ?_;cases l with
 |nil=>
  refine ab (aI (aj ?_));refine aq (gX (v:=.sl [] 0) rfl) aG trivial ?_;refine aq (II rfl) aG Cx ?_;refine ab (KZ rfl (aI (ay ?_)) (cX (ay ?_)))
  .refine SS ?_;exact ab (aX (ud (n0:=2) rfl) (eb (aw rfl rfl)))
  .have C:(([]:List Int).map U8).take (0*1)=[]:=rfl;refine af ?_;refine eE (eC rfl rfl rfl Kh c5 (fN C) rfl) aG ⟨Cx,rfl,oS,oC,rfl,oC,oC,oS⟩ ?_;refine SS ?_;refine ab (aX (kY (i:=1) rfl (l:=[(2,iI [])]) ⟨?_,trivial⟩) (aw rfl rfl));exact(mW (by simp[c5])).trans oS
 |cons x J=>
  have M:(x::J).length≠0:=by simp
  generalize x::J=l at*
  have C:(l.map U8).take (l.length*1)=l.map U8:=cO oS;refine ab (aI (aj ?_));refine aq (gX (v:=.sl _ _) rfl) aG trivial ?_;refine aq (IJ rfl M) aG Cx ?_;refine ab (mE (cX (ay ?_)));refine af ?_;refine eE (eC rfl rfl rfl Kh c5 (fN C) rfl) aG ⟨Cx,rfl,oS,oC,rfl,by unfold maxLen;omega,by rw[b5];omega,oS⟩ ?_;refine SS ?_;refine ab (aX (kY (i:=1) rfl (l:=[(2,iI l)]) ⟨?_,trivial⟩) (aw rfl rfl));exact(mW (by simp[c5])).trans oS
theorem Ql{l:List ByteArray}(hl:l.length<=1000000):az prog 92 [ez l] (ez l):=by
 refine bu ane (.cons (oI l) .nil) (oI l) ?_;rw[anf];refine ws ?_;refine SS ?_;cases l with
 |nil=>
  refine ab (aI (aj ?_));refine aq (gX (v:=.sl [] 0) rfl) aG trivial ?_;refine aq (II rfl) aG Cy ?_;refine ab (KZ rfl (aI (ay ?_)) (cX (ay ?_)))
  .refine SS ?_;exact ab (aX (ud (n0:=2) rfl) (eb (aw rfl rfl)))
  .have C:(([]:List ByteArray).map S).take (0*1)=[]:=rfl;refine af ?_;refine eE (eC rfl rfl rfl sy c9 (fN C) rfl) aG ⟨Cy,rfl,oS,oC,rfl,oC,oC,oS⟩ ?_;refine SS ?_;refine ab (aX (kY (i:=1) rfl (l:=[(2,ez [])]) ⟨?_,trivial⟩) (aw rfl rfl));exact(mW (by simp[c9])).trans oS
 |cons x J=>
  have M:(x::J).length≠0:=by simp
  generalize x::J=l at*
  have C:(l.map S).take (l.length*1)=l.map S:=cO oS;refine ab (aI (aj ?_));refine aq (gX (v:=.sl _ _) rfl) aG trivial ?_;refine aq (IJ rfl M) aG Cy ?_;refine ab (mE (cX (ay ?_)));refine af ?_;refine eE (eC rfl rfl rfl sy c9 (fN C) rfl) aG ⟨Cy,rfl,oS,oC,rfl,by unfold maxLen;omega,by rw[b9];omega,oS⟩ ?_;refine SS ?_;refine ab (aX (kY (i:=1) rfl (l:=[(2,ez l)]) ⟨?_,trivial⟩) (aw rfl rfl));exact(mW (by simp[c9])).trans oS
theorem Qm{l:List jM}(hl:l.length<=1000000):az prog 94 [mo l] (mo l):=by
 refine bu ang (.cons (ky l) .nil) (ky l) ?_;rw[anh];refine ws ?_;refine SS ?_;cases l with
 |nil=>
  refine ab (aI (aj ?_));refine aq (gX (v:=.sl [] 0) rfl) aG trivial ?_;refine aq (II rfl) aG Fh ?_;refine ab (KZ rfl (aI (ay ?_)) (cX (ay ?_)))
  .refine SS ?_;exact ab (aX (ud (n0:=2) rfl) (eb (aw rfl rfl)))
  .have C:(([]:List jM).flatMap jo).take (0*2)=[]:=rfl;refine af ?_;refine eE (eC rfl rfl rfl Qn Ki (fN C) rfl) aG ⟨Fh,rfl,oS,oC,rfl,oC,oC,oS⟩ ?_;refine SS ?_;refine ab (aX (kY (i:=1) (cs:=[]) rfl (l:=[(2,mo [])]) ⟨?_,trivial⟩) (aw rfl rfl));exact mW (sz:=2) rfl
 |cons x O=>
  have M:(x::O).length≠0:=by simp
  generalize x::O=l at*
  have C:(l.flatMap jo).take (l.length*2)=l.flatMap jo:=by rw[DR (f:=jo) (sz:=2) (fun _=>rfl),List.take_length]
  have J:(l.flatMap jo).length=l.length*2:=by clear C M;induction l with|nil=>rfl|cons x l ih=>rw[List.flatMap_cons,List.length_append,ih (by simp at hl;omega),List.length_cons];show 2+l.length*2=_;omega
  refine ab (aI (aj ?_));refine aq (gX (v:=.sl _ _) rfl) aG trivial ?_;refine aq (IJ rfl M) aG Fh ?_;refine ab (mE (cX (ay ?_)));refine af ?_;refine eE (eC rfl rfl rfl Qn Ki (fN C) rfl) aG ⟨Fh,rfl,Nat.le_of_eq J.symm,oC,rfl,by unfold maxLen;omega,by rw[Zi];omega,oS⟩ ?_;refine SS ?_;refine ab (aX (kY (i:=1) (cs:=l.flatMap jo) rfl (l:=[(2,mo l)]) ⟨?_,trivial⟩) (aw rfl rfl));exact(mW (by rw[Ki,Nat.zero_add];exact J)).trans (by rw[Nat.zero_add];rfl)
end Go.Proofs.Tryz.K
namespace Go.Argus
abbrev pu(l:List aK):D:=.sl (l.flatMap aH) l.length
theorem TG(l:List aK):Tr (pu l):=.sl (.flat gA)
def mH:List D:=[S ⟨#[]⟩,B false,I 0,U8 0,.z,.z,.z,.z]
end Go.Argus
namespace Go.Abs
def tR(i:Nat)(cs:List D)(sz:Nat)(m:Mem):Mem:=fun j=>if j=i then none else(m j).map (Row.sub (dh i cs sz))
theorem Ly{P:Program}{env:Env}{m:Mem}{nx i:Nat}{cs:List D}{e:TypeId}{l:List (Nat×D)}(hm:m i=some (.cells cs e))(hl:nh l fun t=>sub (dh i cs (P.cellsOf e)) (env t)):aM P ⟨env,m,nx⟩ ⟨aF l,tR i cs (P.cellsOf e) m,nx⟩:=
 (aM.freeze env m nx i cs e hm).trans (ao hl)
theorem HJ{i j sz:Nat}{cs:List D}{m:Mem}{r:Row}(h:m j=some r)(hj:j≠i)(hr:pJ (fun k=>k=i) r):tR i cs sz m j=some r:=by
 unfold tR;rw[if_neg hj,h];exact congrArg some (hr i cs sz rfl)
end Go.Abs
namespace Go.Argus
theorem abn{X:Nat->Prop}{α:Type}{f:α->List D}(h:∀ x,∀ d∈f x,jH X d)(l:List α){e:TypeId}:pJ X (.cells (l.flatMap f) e):=pJ.cells fun d hd=>by
 obtain⟨x,_,hx⟩:=List.mem_flatMap.1 hd;exact h x d hx
theorem aqG{X:Nat->Prop}(x:bK):∀ d∈bA x,jH X d:=fun d hd=>by
 simp only[bA,List.mem_cons,List.not_mem_nil,or_false] at hd;rcases hd with rfl|rfl|rfl|rfl|rfl|rfl<;>first|exact .s _|exact .sl _ _
theorem acW{X:Nat->Prop}(x:End):∀ d∈a8 x,jH X d:=fun d hd=>by
 simp only[a8,List.mem_cons,List.not_mem_nil,or_false] at hd;rcases hd with rfl|rfl|rfl|rfl|rfl|rfl|rfl|rfl|rfl|rfl|rfl|rfl|rfl|rfl|rfl<;>first|exact .s _|exact .sl _ _
theorem aaR{X:Nat->Prop}(b:bB):∀ d∈cg b,jH X d:=fun d hd=>by
 rcases List.mem_cons.1 hd with rfl|hd
 .exact .sl _ _
 .exact acW _ d hd
def headD(f:aK)(x:D):List D:=[S f.name,B f.iter,I f.args,U8 f.result,iI f.ag,iI f.aN,ez f.signals,x]
theorem abo{X:Nat->Prop}{f:aK}{x:D}(h:jH X x):∀ d∈headD f x,jH X d:=fun d hd=>by
 simp only[headD,List.mem_cons,List.not_mem_nil,or_false] at hd;rcases hd with rfl|rfl|rfl|rfl|rfl|rfl|rfl|rfl<;>first|exact .s _|exact .sl _ _|exact h
theorem RA{X:Nat->Prop}:∀ d∈mH,jH X d:=fun d hd=>by
 simp only[mH,List.mem_cons,List.not_mem_nil,or_false] at hd;rcases hd with rfl|rfl|rfl|rfl|rfl|rfl|rfl|rfl<;>first|exact .s _|exact .z
def Grow(m:Mem)(lo hi:Nat)(x:D)(n:Nat)(cs:List D)(e:TypeId):Prop:=(n=0/\cs=[]/\x=.z)\/∃ r,lo<=r/\r<hi/\x=.rs r 0 n/\m r=some (.cells cs e)
theorem Grow.mono{m m':Mem}{lo hi C:Nat}{x:D}{n:Nat}{cs:List D}{e:TypeId}(h:Grow m lo hi x n cs e)(hm:∀ j,lo<=j->j<hi->m' j=m j)(hh:hi<=C):Grow m' lo C x n cs e:=by
 rcases h with h|⟨r,h1,h2,J,M⟩
 .exact .inl h
 .exact .inr ⟨r,h1,oG,J,by rw[hm r h1 h2,M]⟩
theorem Grow.Kj{m:Mem}{lo hi C i sz:Nat}{x:D}{n:Nat}{cs cs':List D}{e:TypeId}(h:Grow m lo hi x n cs e)(O:hi<=i)(hh:hi<=C)(hr:pJ (fun k=>k=i) (.cells cs e)):Grow (tR i cs' sz m) lo C x n cs e:=by
 rcases h with h|⟨r,h1,h2,J,M⟩
 .exact .inl h
 .exact .inr ⟨r,h1,oG,J,HJ M oG hr⟩
theorem Grow.ajm{m:Mem}{lo hi i:Nat}{x:D}{n:Nat}{cs:List D}{e:TypeId}(h:Grow m lo hi x n cs e)(C:hi<=i):jH (fun k=>k=i) x:=by
 rcases h with⟨_,_,rfl⟩|⟨r,h1,h2,rfl,J⟩
 .exact .z
 .exact .rs oG
structure TB(m:Mem)(nx:Nat)(f:aK)(x:D)(bs:List bB):Prop where
 r1:m 1=some (.cells mH 48)
 r2:m 2=some (.cells (headD f x) 48)
 lt:2<nx
 gr:Grow m 3 nx x bs.length (bs.flatMap cg) 59
theorem TB.mono{m m':Mem}{nx aD:Nat}{f:aK}{x:D}{bs:List bB}(h:TB m nx f x bs)(hm:∀ j,j<nx->m' j=m j)(hn:nx<=aD):TB m' aD f x bs:=
 ⟨by rw[hm 1 (by have:=h.lt;omega)];exact h.r1,by rw[hm 2 h.lt];exact h.r2,by have:=h.lt;omega,h.gr.mono (fun j _ hj=>hm j hj) hn⟩
theorem TB.Kj{m:Mem}{nx aD i sz:Nat}{f:aK}{x:D}{bs:List bB}{cs:List D}(h:TB m nx f x bs)(hi:nx<=i)(hn:nx<=aD):TB (tR i cs sz m) aD f x bs:=
 ⟨HJ h.r1 (by have:=h.lt;omega) (.cells RA),HJ h.r2 (by have:=h.lt;omega) (.cells (abo (h.gr.ajm hi))),by have:=h.lt;omega,h.gr.Kj hi hn (abn aaR _)⟩
theorem TH{α:Type}{f:α->List D}{sz:Nat}(hs:∀ x,(f x).length=sz):∀ {l:List α} {k j:Nat} {x C:α} {v:D},l[k]? =some x->j<sz->f C=(f x).set j v->(l.flatMap f).set (k*sz+j) v=(l.set k C).flatMap f
 |[],k,j,x,C,v,h,_,_=>by simp at h
 |y::l,0,j,x,C,v,h,hj,hx=>by
  simp only[List.getElem?_cons_zero,aV] at h;subst h;rw[List.flatMap_cons,List.set_cons_zero,List.flatMap_cons,hx,Nat.zero_mul,Nat.zero_add,List.set_append_left _ _ (by rw[hs];exact hj)]
 |y::l,k+1,j,x,C,v,h,hj,hx=>by
  rw[List.flatMap_cons,List.set_cons_succ,List.flatMap_cons, <- TH hs (l:=l) (k:=k) (by simpa using h) hj hx,List.set_append_right _ _ (by rw[hs,Nat.add_mul];omega),hs];congr 2;rw[Nat.add_mul];omega
def jI(bs:List bB)(to:ByteArray->ByteArray)(k:Nat):List bB:=(bs.take k).map (dN to)++bs.drop k
theorem Lz{bs:List bB}{to:ByteArray->ByteArray}{k:Nat}{b:bB}(h:bs[k]? =some b):(jI bs to k)[k]? =some b:=by
 have hk:=(bX.1 h).1;unfold jI;rw[List.getElem?_append_right oP];simp only[List.length_map,List.length_take,Nat.min_eq_left (Nat.le_of_lt hk),Nat.sub_self,List.getElem?_drop];exact h
theorem acZ(bs:List bB)(to:ByteArray->ByteArray)(k:Nat):(jI bs to k).length=bs.length:=by
 unfold jI;simp;omega
theorem R2{bs:List bB}{to:ByteArray->ByteArray}{k:Nat}{b:bB}(h:bs[k]? =some b):jI bs to (k+1)=(jI bs to k).set k (dN to b):=by
 have hk:=(bX.1 h).1;unfold jI
 have hd:bs.drop k=b::bs.drop (k+1):=by
  rw[List.drop_eq_getElem_cons hk];congr 1;exact Option.some.inj ((bc hk).symm.trans h)
 rw[List.take_add_one,h,hd,List.set_append_right _ _ oP];simp[Nat.min_eq_left (Nat.le_of_lt hk)]
theorem ac0(bs:List bB)(to:ByteArray->ByteArray):jI bs to bs.length=bs.map (dN to):=by unfold jI;simp
theorem abq(bs:List bB)(to:ByteArray->ByteArray):jI bs to 0=bs:=by unfold jI;simp
theorem ac1{α:Type}{l:List α}{k:Nat}{x:α}(h:l[k]? =some x):l.set k x=l:=by
 obtain⟨hk,rfl⟩:=bX.1 h;exact List.set_getElem_self hk
theorem aeQ{bs:List bB}{to:ByteArray->ByteArray}{k:Nat}{b:bB}(h:bs[k]? =some b)(hc:ja b=false):jI bs to (k+1)=jI bs to k:=by
 rw[R2 h];have e:dN to b=b:=by unfold dN;rw[if_neg (by rw[hc];simp)]
 rw[e];exact ac1 (Lz h)
end Go.Argus
namespace Go.Proofs.Tryz.K
theorem Qo{f:aK}{name:ByteArray}{g:FuncId}{fs cs:List D}{to:ByteArray->ByteArray}(ht:Tr (.fn (.func g) fs cs))(q6:∀ X:Nat->Prop,jH X (.fn (.func g) fs cs))(hg:∀ b∈f.blocks,ja b=true->az prog g (fs++[S b.fin.name]++cs) (S (to b.fin.name)))
 (h1:f.ag.length<=100000) (h2:f.aN.length<=100000) (h3:f.signals.length<=100000) (h4:f.blocks.length<=100000) (h5:∀ b∈f.blocks,b.ins.length<=100000/\(∀ x∈b.ins,x.args.length<=100000)/\b.fin.args.length<=100000/\b.fin.aC.length<=100000/\b.fin.ins.args.length<=100000):
 az prog 57 [.agg (aH f),S name,.fn (.func g) fs cs] (.agg (aH (jF f name to))):=by
 have kr:=Zh (l:=f.ag) oG;have ks:=Zh (l:=f.aN) oG;have Ql:=Ql (l:=f.signals) oG;refine bu ani (.cons (.agg (gA f)) (.cons (.s _) (.cons ht .nil))) (.agg (gA _)) ?_;rw[anj];refine ay ?_;refine af ?_;refine ab ⟨_,ow (i:=0) (cs:=aH f) (e:=48) rfl (l:=[(1,S name),(2,.fn (.func g) fs cs),(3,.pt (aH f)),(6,.rp 1 0)]) ⟨rfl,q6 _ _ _ _ rfl,mG,rfl,trivial⟩ (ml:=[(1,.cells mH 48)]) eH,aj ?_⟩;refine av ?_;refine er ?_;refine av ?_;refine ab (ej aeO ?_);refine af ?_;refine uI kr rfl aG ?_;refine af ?_;refine uI ks rfl aG ?_;refine af ?_;refine cl Ql ?_;refine cG ?_;refine bN bO (ay ?_);refine af ?_;have FQ:∀ i (kq:List D) sz,sub (dh i kq sz) (.fn (.func g) fs cs)=.fn (.func g) fs cs:=fun i kq sz=>q6 (fun k=>k=i) i kq sz rfl;generalize hF:jF f name to=F at*
 have hn:F.name=name:=by rw[<- hF];rfl
 refine ab ⟨_,aY (l:=[(2,.fn (.func g) fs cs),(3,.pt (aH f)),(6,.rp 1 0),(7,.rp 2 0)]) eH (ml:=[(1,.cells mH 48),(2,.cells (headD F .z) 48)]) ⟨rfl,by subst hF;rfl,trivial⟩,aI (ay ?_)⟩;refine aR ?_;have Da:∀ k,(F.blocks.take k)=(f.blocks.take k).map (dN to):=fun k=>by rw[<- hF];exact List.map_take.symm
 have YH:F.blocks.length=f.blocks.length:=by rw[<- hF];simp[jF]
 refine ab (cD (fun s=>∃ x m nx,TB m nx F x F.blocks/\aM prog s ⟨aF [(6,.rp 1 0),(7,.rp 2 0)],m,nx⟩) (gM (α:=Nat×D×Mem×Nat)
  (fun s=>⟨aF [(2,.fn (.func g) fs cs),(6,.rp 1 0),(7,.rp 2 0),(30,dQ f.blocks),(31,I f.blocks.length),(32,I s.1)],s.2.2.1,s.2.2.2⟩)
  (fun s=>s.1<=f.blocks.length/\TB s.2.2.1 s.2.2.2 F s.2.1 (F.blocks.take s.1)) (fun s=>f.blocks.length - s.1) (0,.z,_,_)
  (ao eH) ⟨Nat.zero_le _,rfl,rfl,oM,.inl ⟨rfl,rfl,rfl⟩⟩ ?_) ?_)
 .rintro⟨k,x7,m,nx⟩ ⟨hk,J⟩;dsimp only at hk J ⊢;refine SS ?_;refine ab ⟨_,rfl,fun h=>?_,fun h=>?_⟩
  .have al:k<f.blocks.length:=by simpa using h
   clear h;obtain⟨b,hb⟩:∃ b,f.blocks[k]? =some b:=⟨_,bc al⟩
   have Kk:b∈f.blocks:=cx hb;obtain⟨tO,rq,iF,CR,F8⟩:=h5 b Kk;have hgb:=hg b Kk;have fC:F.blocks.take (k+1)=F.blocks.take k++[dN to b]:=by rw[Da,Da,List.take_add_one,hb,List.map_append];rfl
   refine ay ?_;refine aR ?_;refine ab ⟨_,Ly (i:=nx) (cs:=cg b) (e:=59) (an _ _ _) (l:=[(2,.fn (.func g) fs cs),(6,.rp 1 0),(7,.rp 2 0),(30,dQ f.blocks),(31,I f.blocks.length),(32,I k),(9,.pt (cg b))]) ⟨FQ _ _ _,pv (by have:=J.lt;omega),pv (by have:=J.lt;omega),rfl,rfl,rfl,BB,trivial⟩,aj ?_⟩;have Ge:TB (tR nx (cg b) (prog.cellsOf 59) _) (nx+1) F x7 (F.blocks.take k):=(J.mono (m':=up (up m nx (some (.cells (bq prog 59) 59))) nx (some (.cells (cg b) 59))) (fun j hj=>(aZ _ _ oG).trans (aZ _ _ oG)) (bM _)).Kj (bM _) oG;have gy:=J.lt;have ank:bq prog 59=_:=z59;rw[ank] at Ge;generalize tR nx (cg b) (prog.cellsOf 59) _=m1 at*
   clear J;refine av ?_;refine er ?_;have aA:∀ {r},up (up m1 (nx+1) r) (nx+1) (some (.cells (cg b) 59)) (nx+1)=some (.cells (iX b.ins::a8 b.fin) 59):=an _ _ _;refine SS ?_;refine dA (jR (d:=.z) (cs':=_) rfl rfl aA rfl rfl) ak (ef V.h V.h (by first|(simp;done)|exact⟨rfl,bt rfl⟩|(simp;omega)) rfl) ?_;refine ab (aI (ay ?_));refine aR ?_
   refine ab (cD (fun s=>∃ m' aD,TB m' (nx+1) F x7 (F.blocks.take k)/\m' (nx+1)=some (.cells (cg b) 59)/\nx+2<=aD/\aM prog s ⟨aF [(2,.fn (.func g) fs cs),(6,.rp 1 0),(7,.rp 2 0),(9,.pt (cg b)),(10,.rp (nx+1) 0),(30,dQ f.blocks),(31,I f.blocks.length),(32,I k)],m',aD⟩) (gM (α:=Nat×D×Mem×Nat)
    (fun s=>⟨aF [(2,.fn (.func g) fs cs),(6,.rp 1 0),(7,.rp 2 0),(9,.pt (cg b)),(10,.rp (nx+1) 0),(30,dQ f.blocks),(31,I f.blocks.length),(32,I k),(39,iX b.ins),(40,I b.ins.length),(41,I s.1)],s.2.2.1,s.2.2.2⟩)
    (fun s=>s.1<=b.ins.length/\TB s.2.2.1 (nx+1) F x7 (F.blocks.take k)/\s.2.2.1 (nx+1)=some (.cells (s.2.1::a8 b.fin) 59)/\Grow s.2.2.1 (nx+2) s.2.2.2 s.2.1 s.1 ((b.ins.take s.1).flatMap bA) 54/\nx+2<=s.2.2.2) (fun s=>b.ins.length - s.1) (0,.z,_,_)
    (ao eH) ⟨Nat.zero_le _,Ge.mono (fun j hj=>(aZ _ _ oG).trans ((aZ _ _ oG).trans (aZ _ _ oG))) (bM _),an _ _ _,.inl ⟨rfl,rfl,rfl⟩,oM⟩ ?_) ?_)
   .rintro⟨j,y0,m',aD⟩ ⟨hj,zg,hq,hG,Jx⟩;dsimp only at hj zg hq hG Jx ⊢;refine SS ?_;refine ab ⟨_,rfl,fun h=>?_,fun h=>?_⟩
    .have dK:j<b.ins.length:=by simpa using h
     clear h;obtain⟨y,hy⟩:∃ y,b.ins[j]? =some y:=⟨_,bc dK⟩
     have tS:=tS (l:=y.args) (rq y (cx hy));have Yf:b.ins.take (j+1)=b.ins.take j++[y]:=by rw[List.take_add_one,hy];rfl
     have AS:((b.ins.take j).flatMap bA).length=j*6:=by
      rw[zp (sz:=6) (fun _=>rfl),List.length_take];congr 1;omega
     generalize b.ins.take j=l0 at*
     refine ws ?_;refine aR ?_;refine er ?_;refine SS ?_;refine aq (eR rfl (an _ _ _) rfl V.h) ak (eS V.h V.h rfl) ?_;refine cl tS ?_;refine SS ?_;refine dA (jR (d:=.sl _ _) (cs':=_) rfl rfl (an _ _ _) rfl rfl) ak (ef V.h V.h (by first|(simp;done)|exact⟨rfl,bt rfl⟩|(simp;omega)) rfl) ?_;refine ab (jn ?_);have aA:∀ {a C c},up (up (up m' aD a) aD C) aD c (nx+1)=some (.cells (y0::a8 b.fin) 59):=au oG (au oG (au oG hq));have kd:(y0::a8 b.fin).drop 0=y0::a8 b.fin:=rfl;refine aR ?_;rcases hG with⟨rfl,Gf,rfl⟩|⟨r,Dl,Qp,rfl,sk⟩
     .refine cR (jV rfl rfl V.h V.h (gL (an _ _ _) rfl)) ak ⟨V.h,(by first|omega|exact bt rfl|(simp;done)|(simp;omega)),oC,(by unfold maxLen;first|omega|(simp;omega)),(by rw[Qq];first|omega|(simp;omega))⟩ ?_;have aA:∀ {a C c d e2},up (up (up (up (up m' aD a) aD C) aD c) (aD+1) d) (aD+1+1) e2 (nx+1)=some (.cells (.z::a8 b.fin) 59):=au oG (au oG (au oG (au oG (au oG hq))));refine af ?_;refine ab ?_;refine af ?_;refine ab (bg (0+1,.rs (aD+1+1) 0 1,_,aD+1+1+1) (ao eH) ?_ oM);dsimp only;refine⟨oG,zg.mono (fun i hi=>(aZ _ _ oG).trans ((aZ _ _ oG).trans ((aZ _ _ oG).trans ((aZ _ _ oG).trans ((aZ _ _ oG).trans (aZ _ _ oG)))))) (bM _),an _ _ _,.inr ⟨aD+1+1,oG,oG,rfl,(aZ _ _ oG).trans ((an _ _ _).trans ?_)⟩,oG⟩;rw[Yf,List.flatMap_append,Gf];simp;rfl
     .have mF:∀ {a C c d},up (up (up (up m' aD a) aD C) aD c) (aD+1) d r=some (.cells (l0.flatMap bA) 54):=au oG (au oG (au oG (au oG sk)));refine eE (eC rfl mF rfl Zj Qr (gL (an _ _ _) rfl) rfl) aG ⟨Yg,rfl,bt rfl,oC,by rw[AS];omega,by unfold maxLen;omega,by rw[Qq];omega,by simp;omega⟩ ?_;have aA:∀ {a C c d e1 e2},up (up (up (up (up (up m' aD a) aD C) aD c) (aD+1) d) r e1) (aD+1+1) e2 (nx+1)=some (.cells (.rs r 0 j::a8 b.fin) 59):=au oG (au oG (au oG (au oG (au oG (au oG hq)))));refine af ?_;refine ab ?_;refine af ?_;refine ab (bg (j+1,.rs (aD+1+1) 0 (j+1),_,aD+1+1+1) (ao eH) ?_ oM);dsimp only;refine⟨oG,zg.mono (fun i hi=>(aZ _ _ oG).trans ((aZ _ _ oG).trans ((aZ _ _ oG).trans ((aZ _ _ oG).trans ((aZ _ _ oG).trans ((aZ _ _ oG).trans (aZ _ _ oG))))))) (bM _),an _ _ _,.inr ⟨aD+1+1,oG,oG,rfl,(aZ _ _ oG).trans ((an _ _ _).trans ?_)⟩,oG⟩;rw[Yf,List.flatMap_append];simp;rfl
    .have bG:¬ j<b.ins.length:=by simpa using h
     have:j=b.ins.length:=by omega
     subst this;rw[List.take_length] at hG;rcases hG with⟨h0,Gf,rfl⟩|⟨r,Dl,Qp,rfl,sk⟩
     .have jK:b.ins=[]:=List.length_eq_zero_iff.1 h0;refine⟨up m' (nx+1) (some (.cells (cg b) 59)),aD,zg.mono (fun j hj=>aZ _ _ oG) (bM _),an _ _ _,Jx,?_⟩;refine(ao (l:=[(2,.fn (.func g) fs cs),(6,.rp 1 0),(7,.rp 2 0),(9,.pt (cg b)),(10,.rp (nx+1) 0),(30,dQ f.blocks),(31,I f.blocks.length),(32,I k)]) eH).trans (aM.uP _ _ _ _ _ (fun t=>zA _) fun i=>?_);by_cases hi:i=nx+1
      .subst hi;refine .inr ⟨_,cg b,59,hq,an _ _ _,rfl,fun k d d' hd O=>?_⟩;cases k with
       |zero=>
        simp only[List.getElem?_cons_zero,aV,cg] at hd O;subst hd O;rw[jK];exact Fi
       |succ k=>
        simp only[List.getElem?_cons_succ,cg] at hd O;rw[hd] at O;cases O;exact zA _
      .exact .inl (aZ _ _ hi)
     .refine⟨tR r _ (prog.cellsOf 54) m',aD,zg.Kj oG (bM _),?_,Jx,Ly sk ⟨FQ _ _ _,pv oG,pv oG,rfl,pv oG,rfl,rfl,rfl,trivial⟩⟩;unfold tR;rw[if_neg oG,hq];show some (Row.cells (sub (dh r (b.ins.flatMap bA) (prog.cellsOf 54)) (.rs r 0 b.ins.length)::a8 b.fin) 59)=_;rw[yq,Qr,List.drop_zero,DR (f:=bA) (sz:=6) (fun _=>rfl),List.take_length];rfl
   .rintro s ⟨m',aD,zg,hq,Jx,U⟩;refine⟨_,U,?_⟩;clear U;have kA:=tS (l:=b.fin.args) iF;have Qm:=Qm (l:=b.fin.aC) oG;have kI:=tS (l:=b.fin.ins.args) F8;refine ej acX ?_;have aA:=hq;refine av ?_;refine uI kA rfl aG ?_;refine av ?_;refine cl Qm ?_;refine aR ?_;refine uI kI rfl aG ?_;refine av ?_;have aA:∀ {a},up m' (nx+1) a (nx+1)=a:=an _ _ _;refine av ?_;have aA:∀ {a C},up (up m' (nx+1) a) (nx+1) C (nx+1)=C:=an _ _ _;refine aR ?_;refine bN bO ?_;refine eT (fun s=>∃ M,TB M (nx+1) F x7 (F.blocks.take k)/\M (nx+1)=some (.cells (cg (dN to b)) 59)/\aM prog s ⟨aF [(2,.fn (.func g) fs cs),(6,.rp 1 0),(7,.rp 2 0),(9,.pt (cg b)),(10,.rp (nx+1) 0),(30,dQ f.blocks),(31,I f.blocks.length),(32,I k)],M,aD⟩) ?_ ?_
    .refine ws ?_;refine cP ?_;refine af ?_;refine ab (ap rfl (fun hp=>lP ?_) fun hp=>bw ?_)
     .have hc:ja b=true:=by
       show(decide (b.fin.kind=6)||decide (b.fin.kind=7))=true;revert hp;cases h6:(b.fin.kind==6)<;>simp_all
      have kc:=hgb hc;have aA:∀ {a C c},up (up (up m' (nx+1) a) (nx+1) C) (nx+1) c (nx+1)=c:=an _ _ _;refine aR ?_;refine cl kc ?_;refine af ?_;refine dA (jR (d:=.s (.string _)) (cs':=_) rfl rfl aA rfl rfl) ak (ef V.h V.h (by first|(simp;done)|exact⟨rfl,bt rfl⟩|(simp;omega)) rfl) ?_;refine ab ⟨_,zg.mono (fun i hi=>(aZ _ _ oG).trans ((aZ _ _ oG).trans ((aZ _ _ oG).trans (aZ _ _ oG)))) (bM _),?_,ao eH⟩;rw[dN,if_pos hc];exact an _ _ _
     .have hc:¬ ja b=true:=by
       show ¬ (decide (b.fin.kind=6)||decide (b.fin.kind=7))=true;revert hp;cases h6:(b.fin.kind==6)<;>simp_all
      refine⟨_,zg.mono (fun i hi=>(aZ _ _ oG).trans ((aZ _ _ oG).trans (aZ _ _ oG))) (bM _),?_,ao eH⟩;rw[dN,if_neg hc];exact an _ _ _
    .rintro s ⟨M,Dm,JR,U⟩;refine⟨_,U,jn ?_⟩;clear U;have lk:(F.blocks.take k).length=k:=by rw[List.length_take];omega
     have lc:((F.blocks.take k).flatMap cg).length=k*16:=by rw[zp (sz:=16) (fun _=>rfl),lk]
     have aA:=Dm.r2;have kd:(headD F x7).drop (0+7)=x7::[]:=rfl;refine af ?_;have aA:=JR;refine aq (fD (vs:=cg _) rfl aA V.h V.h rfl) ak (fE V.h V.h (by first|(simp;done)|omega|exact bt rfl)) ?_;refine SS ?_;rcases Dm.gr with⟨h0,Gf,rfl⟩|⟨r,Dl,Qp,rfl,sk⟩
     .refine cR (jV rfl rfl V.h V.h (gL (an _ _ _) rfl)) ak ⟨V.h,(by first|omega|exact bt rfl|(simp;done)|(simp;omega)),oC,(by unfold maxLen;first|omega|(simp;omega)),(by rw[Kl];first|omega|(simp;omega))⟩ ?_;have aA:∀ {a C},up (up M aD a) (aD+1) C 2=some (.cells (headD F .z) 48):=au oG (au oG Dm.r2);refine af ?_;refine ab ?_;refine af ?_;refine ab (bg (k+1,.rs (aD+1) 0 1,_,aD+1+1) (ao eH) ?_ oM);dsimp only;have y7:k=0:=by omega
      subst y7;refine⟨oG,(aZ _ _ oG).trans ((aZ _ _ oG).trans Dm.r1),rfl,oG,.inr ⟨aD+1,oG,oG,?_,(aZ _ _ oG).trans ((an _ _ _).trans ?_)⟩⟩
      .rw[fC];rfl
      .rw[fC,List.flatMap_append,Gf];simp;rfl
     .have mF:∀ {a},up M aD a r=some (.cells ((F.blocks.take k).flatMap cg) 59):=au oG sk;refine eE (eC rfl mF rfl Zk Km (gL (an _ _ _) rfl) rfl) aG ⟨Yh,rfl,bt rfl,oC,by rw[lc,lk];omega,by unfold maxLen;omega,by rw[Kl];omega,by simp;omega⟩ ?_;have aA:∀ {a C c},up (up (up M aD a) r C) (aD+1) c 2=some (.cells (headD F (.rs r 0 (F.blocks.take k).length)) 48):=au oG (au oG (au oG Dm.r2));refine af ?_;refine ab ?_;refine af ?_;refine ab (bg (k+1,.rs (aD+1) 0 ((F.blocks.take k).length+1),_,aD+1+1) (ao eH) ?_ oM);dsimp only;refine⟨oG,(aZ _ _ oG).trans ((aZ _ _ oG).trans ((aZ _ _ oG).trans Dm.r1)),rfl,oG,.inr ⟨aD+1,oG,oG,?_,(aZ _ _ oG).trans ((an _ _ _).trans ?_)⟩⟩
      .rw[fC,List.length_append];rfl
      .rw[fC,List.flatMap_append];simp;rfl
  .have bG:¬ k<f.blocks.length:=by simpa using h
   have:k=f.blocks.length:=by omega
   subst this;rw[cO oG] at J;exact⟨x7,m,nx,J,ao eH⟩
 .rintro s ⟨x,m,nx,J,U⟩
  have PM:∃ M iU,aM prog s ⟨aF [(6,.rp 1 0),(7,.rp 2 0)],M,iU⟩/\M 1=some (.cells mH 48)/\M 2=some (.cells (aH F) 48):=by
   rcases J.gr with⟨h0,Gf,rfl⟩|⟨r,Dl,Qp,rfl,sk⟩
   .have jK:F.blocks=[]:=List.length_eq_zero_iff.1 h0;refine⟨up m 2 (some (.cells (aH F) 48)),nx,U.trans (aM.uP _ _ _ _ _ (fun t=>zA _) fun i=>?_),(aZ _ _ oG).trans J.r1,an _ _ _⟩;by_cases hi:i=2
    .subst hi;refine .inr ⟨_,aH F,48,J.r2,an _ _ _,rfl,fun k d d' hd O=>?_⟩
     match k with
     |0|1|2|3|4|5|6=>cases (show some d=some d' from hd.symm.trans O);exact zA _
     |7=>
      have e1:(headD F .z)[7]? =some .z:=rfl;have e2:(aH F)[7]? =some (dQ F.blocks):=rfl;rw[e1] at hd;rw[e2] at O;cases hd;cases O;rw[jK];exact Fi
     |k+8=>simp[headD] at hd
    .exact .inl (aZ _ _ hi)
   .refine⟨tR r _ (prog.cellsOf 59) m,nx,U.trans (Ly sk ⟨pv oG,pv oG,trivial⟩),HJ J.r1 oG (.cells RA),?_⟩;unfold tR;rw[if_neg oG,J.r2];show some (Row.cells (headD F (sub (dh r (F.blocks.flatMap cg) (prog.cellsOf 59)) (.rs r 0 F.blocks.length))) 48)=_;rw[yq,Km,List.drop_zero,DR (f:=cg) (sz:=16) (fun _=>rfl),List.take_length];rfl
  obtain⟨M,iU,Zl,q1,q2⟩:=PM;refine⟨_,Zl,aj ?_⟩;clear Zl U;have aA:=q2;refine aq (fD (vs:=aH _) rfl aA V.h V.h rfl) ak (fE V.h V.h (by first|(simp;done)|omega|exact bt rfl)) ?_;have aA:=q1;refine dA (jm (cs':=aH _) rfl rfl aA rfl) ak (ef V.h V.h (by first|(simp;done)|exact⟨rfl,bt rfl⟩|(simp;omega)) (by rfl)) ?_;exact ab (lO (mi (cs:=aH F) (vs:=aH F) rfl rfl Kn Dn rfl t48 (bt rfl)) rfl)
theorem N7{n:Int}(h:i64 n):az prog 145 [I n] (S (cr n)):=O9 h.1 h.2
theorem agq{f:aK}(pg:fe f=0)(ht:EA f):az prog 111 [.agg (aH f)] (.bd [S (wz f),I 0]):=by
 have mg:=mg (f:=f);rw[pg] at mg;have kR:=X' (l:=f.ag) (by have:=ht.ag;omega);have kS:=X' (l:=f.aN) (by have:=ht.aN;omega);have hsg:=ht.sigs
 have Yi:∀ l:List Int,∀ n∈l.map eZ,i64 n:=fun l n hn=>by
  obtain⟨x,_,rfl⟩:=List.mem_map.1 hn;exact BA x
 have y8:(cn []).size+(dH [nV,f.name,jZ f,cr f.args,cr (eZ f.result)]).size<=140737488355328:=ht.le ⟨_,rfl⟩;have y9:(cn [[nV,f.name,jZ f,cr f.args,cr (eZ f.result)]]).size+(dH (qE::(f.ag.map eZ).map cr)).size<=140737488355328:=ht.le ⟨_,rfl⟩;have Gc:(cn [[nV,f.name,jZ f,cr f.args,cr (eZ f.result)],qE::(f.ag.map eZ).map cr]).size+(dH (uz::(f.aN.map eZ).map cr)).size<=140737488355328:=ht.le ⟨_,rfl⟩;have Gb:(cn [[nV,f.name,jZ f,cr f.args,cr (eZ f.result)],qE::(f.ag.map eZ).map cr,uz::(f.aN.map eZ).map cr]).size+(dH (qu::f.signals)).size<=140737488355328:=ht.le ⟨_,rfl⟩;refine bu Xb (.cons (.agg (gA f)) .nil) (.bd (.cons (.s _) (.cons (.s _) .nil))) ?_;rw[Xc];refine ay ?_;refine av ?_;refine ab (aX (bZ [(0,aH f,48)] eH (l:=[(1,.pt (aH f))]) eH) (aI (aj ?_)));refine SS ?_;refine cl mg ?_;refine SS ?_;refine ab (aI (aj ?_));refine af ?_;refine ab (mE (cX (aj ?_)));refine SS ?_;refine XL (ahi rfl rfl rfl V.h) ak ?_;refine aq (eQ (v:=.rp _ _) rfl) ak trivial ?_;refine er ?_;refine SS ?_;refine ab (eT (fun s=>aM prog s ⟨aF [(1,.pt (aH f)),(5,.rp 1 0),(6,S (jZ f))],bJ [(1,.bs false .z 213)],2⟩) (aj ?_) fun s hs=>⟨_,hs,aao acY kr ?_⟩)
 .refine af ?_;refine ab (ap rfl (fun hi=>?_) fun hi=>?_)
  .refine iV ?_;refine SS ?_;refine ab (aY ⟨rfl,rfl,?_,trivial⟩ eH);rw[jZ,hi];rfl
  .refine dE (aY ⟨rfl,rfl,?_,trivial⟩ eH);rw[jZ,hi];rfl
 refine cG ?_;refine uI (N7 ht.args) rfl aG ?_;refine av ?_;refine uI (N7 (BA f.result)) rfl aG ?_;refine SS ?_;refine bN bO ?_;refine lD (EJ (wsq:=[nV,f.name,jZ f,cr f.args,cr (eZ f.result)]) (a:=cn []) (o:=none) rfl rfl ⟨rfl,rfl⟩ rfl (fun i hi=>by cases hi) oG oS y8) rfl aG fun d m nx h=>?_;refine ab ?_;dsimp only[St.put];obtain⟨q,cb,_,C,hg⟩:=uJ h oG;refine⟨_,hg _ [(1,.pt (aH f)),(5,.rp 1 0)] ⟨rfl,rfl,trivial⟩,ay ?_⟩;clear hg h;refine av ?_;refine uI kR rfl aG ?_;refine lD (Jv (word:=qE) tT (wA oG) (fun i hi=>by cases hi;omega) oG (.inl rfl) (Yi _) (by simp;have:=ht.ag;omega) y9) rfl aG fun d m nx h=>?_;refine ab ?_;dsimp only[St.put];obtain⟨q,cb,_,C,hg⟩:=uJ h oG;refine⟨_,hg _ [(1,.pt (aH f)),(5,.rp 1 0)] ⟨rfl,rfl,trivial⟩,ay ?_⟩;clear hg h;refine av ?_;refine uI kS rfl aG ?_;refine lD (Jv (word:=uz) tT (wA oG) (fun i hi=>by cases hi;omega) oG (.inl rfl) (Yi _) (by simp;have:=ht.aN;omega) Gc) rfl aG fun d m nx h=>?_;refine ab ?_;dsimp only[St.put];obtain⟨q,cb,_,C,hg⟩:=uJ h oG;refine⟨_,hg _ [(1,.pt (aH f)),(5,.rp 1 0)] ⟨rfl,rfl,trivial⟩,ay ?_⟩;clear hg h;have O:(f.signals.map S).take (f.signals.length*1)=f.signals.map S:=cO oS;refine aR ?_;refine eE (eC rfl (an _ _ _) rfl sy c9 (fN O) rfl) aG ⟨Cy,rfl,oS,oC,rfl,by unfold maxLen;omega,by rw[b9];omega,oS⟩ ?_;refine lD (EJ (wsq:=qu::f.signals) (au oG (au oG (au oG tT))) (an _ _ _) ((wA oG).mono fun i hi=>?_) oP (fun i hi=>by cases hi;omega) oG oP Gb) rfl aG fun d m nx h=>?_
 .cases hi;exact au oG (au oG (au oG rfl))
 refine ab ?_;dsimp only[St.put];obtain⟨q,cb,_,C,hg⟩:=uJ h oG;refine⟨_,hg _ [(1,.pt (aH f)),(5,.rp 1 0)] ⟨rfl,rfl,trivial⟩,aI (ay ?_)⟩;clear hg h;refine aR ?_;have tg:dT f f.blocks.length=j9 f:=by rw[dT,List.take_length];rfl
 have dz:=ht.Yc
 refine ab (cD (fun s=>∃ q nx,1<q/\q<nx/\aM prog s ⟨aF [(5,.rp 1 0)],n7 q (cn (j9 f)),nx⟩) (gM (α:=Nat×Nat×Nat)
  (fun s=>⟨aF [(5,.rp 1 0),(53,dQ f.blocks),(54,I f.blocks.length),(55,I s.1)],n7 s.2.1 (cn (dT f s.1)),s.2.2⟩)
  (fun s=>s.1<=f.blocks.length/\1<s.2.1/\s.2.1<s.2.2) (fun s=>f.blocks.length - s.1) (0,q,nx)
  (ao eH) ⟨Nat.zero_le _,cb,C⟩ ?_) ?_)
 .clear y8 y9 Gc Gb kR kS cb C O;rintro⟨k,q,nx⟩ ⟨hk,cb,C⟩;dsimp only at hk cb C ⊢;refine SS ?_;refine ab ⟨_,rfl,fun h=>?_,fun h=>?_⟩
  .have oe:k<f.blocks.length:=by simpa using h
   clear h;obtain⟨b,hb⟩:∃ b,f.blocks[k]? =some b:=⟨_,bc oe⟩
   have n4:=cx hb;have tO:=ht.anl b n4;have rq:=ht.ins b n4;have M:=ht.fin b n4;refine ay ?_;refine aR ?_;refine ab ⟨_,Jb (cs:=cg b) (e:=59) (an _ _ _) (au oG (au oG rfl)) (au oG (au oG rfl)) cb C (l:=[(5,.rp 1 0),(53,dQ f.blocks),(54,I f.blocks.length),(55,I k),(8,.pt (cg b))]) ⟨pv oG,rfl,rfl,rfl,BB,trivial⟩,ay ?_⟩;refine af ?_;refine lD (EJ (wsq:=[fQ]) (au oG tT) (an _ _ _) ((wA oG).mono fun i hi=>by cases hi;exact(au oG rfl)) rfl (fun i hi=>by cases hi;omega) oG oS (ht.le (Bi hb ⟨_,rfl⟩))) rfl aG fun d m nx h=>?_;refine ab ?_;dsimp only[St.put];obtain⟨q,cb,_,C,hg⟩:=uJ h oG;refine⟨_,hg _ [(5,.rp 1 0),(53,dQ f.blocks),(54,I f.blocks.length),(55,I k),(8,.pt (cg b))] ⟨rfl,rfl,rfl,rfl,rfl,trivial⟩,aI (ay ?_)⟩;clear hg h;refine aR ?_
   refine ab (cD (fun s=>∃ q nx,1<q/\q<nx/\aM prog s ⟨aF [(5,.rp 1 0),(53,dQ f.blocks),(54,I f.blocks.length),(55,I k),(8,.pt (cg b))],n7 q (cn (dT f k++([fQ]::ld b))),nx⟩) (gM (α:=Nat×Nat×Nat)
    (fun s=>⟨aF [(5,.rp 1 0),(53,dQ f.blocks),(54,I f.blocks.length),(55,I k),(8,.pt (cg b)),(63,iX b.ins),(64,I b.ins.length),(65,I s.1)],n7 s.2.1 (cn (dT f k++([fQ]::(b.ins.take s.1).map (jh kN)))),s.2.2⟩)
    (fun s=>s.1<=b.ins.length/\1<s.2.1/\s.2.1<s.2.2) (fun s=>b.ins.length - s.1) (0,q,nx)
    (ao eH) ⟨Nat.zero_le _,cb,C⟩ ?_) ?_)
   .clear cb C;rintro⟨i,q,nx⟩ ⟨hi,cb,C⟩;dsimp only at hi cb C ⊢;refine SS ?_;refine ab ⟨_,rfl,fun h=>?_,fun h=>?_⟩
    .have lI:i<b.ins.length:=by simpa using h
     clear h;obtain⟨x,hx⟩:∃ x,b.ins[i]? =some x:=⟨_,bc lI⟩
     have dp:=rq x (cx hx);have he:dT f k++([fQ]::(b.ins.take (i+1)).map (jh kN))=(dT f k++([fQ]::(b.ins.take i).map (jh kN)))++[jh kN x]:=by rw[List.take_add_one,hx];simp
     have Aj:(dT f k++([fQ]::(b.ins.take i).map (jh kN)))++[jh kN x]<+:j9 f:=by
      rw[<- he];refine Bi hb ?_;unfold ni ld;refine(List.cons_prefix_cons).2 ⟨rfl,?_⟩;exact((List.take_prefix _ _).map _).trans (List.prefix_append _ _)
     refine ay ?_;refine aR ?_;refine ab ⟨_,Jb (cs:=bA x) (e:=54) (an _ _ _) (au oG (au oG rfl)) (au oG (au oG rfl)) cb C (l:=[(5,.rp 1 0),(53,dQ f.blocks),(54,I f.blocks.length),(55,I k),(63,iX b.ins),(64,I b.ins.length),(65,I i),(8,.pt (cg b)),(10,.pt (bA x))]) ⟨pv oG,rfl,rfl,rfl,rfl,rfl,rfl,rfl,BB,trivial⟩,jn ?_⟩;refine af ?_;refine lD (Yb (x:=x) (word:=kN) tT (wA oG) (fun i hi=>by cases hi;omega) oG dp.1 dp.2 (ht.le Aj)) rfl aG fun d m nx h=>?_;refine ab ?_;dsimp only[St.put];obtain⟨q,cb,_,C,hg⟩:=uJ (w:=jh kN x) h oG;refine af ?_;refine ab (bg (i+1,q,nx) ?_ ⟨oM,cb,C⟩ oM);dsimp only;rw[he];exact hg _ _ ⟨rfl,rfl,rfl,rfl,rfl,rfl,rfl,rfl,trivial⟩
    .have bG:¬ i<b.ins.length:=by simpa using h
     have:i=b.ins.length:=by omega
     subst this;rw[List.take_length];exact⟨q,nx,cb,C,ao eH⟩
   clear cb C;rintro s ⟨q,nx,cb,C,hg⟩;refine⟨_,hg,ay ?_⟩;clear hg;refine aR ?_;refine ab ⟨_,Jb (cs:=a8 b.fin) (e:=57) (an _ _ _) (au oG (au oG rfl)) (au oG (au oG rfl)) cb C (l:=[(5,.rp 1 0),(53,dQ f.blocks),(54,I f.blocks.length),(55,I k),(11,.pt (a8 b.fin))]) ⟨pv oG,rfl,rfl,rfl,BB,trivial⟩,ay ?_⟩;generalize hfx:b.fin=x at*
   have O:(x.args.map I).take (x.args.length*1)=x.args.map I:=cO oS;have xq:=M.2.1;have hwl:=M.2.2.2.2.1;have hB:ni b=[fQ]::(ld b++(n6 x::(eX x++(gu x++x.aC.map io)))):=by unfold ni;rw[hfx]
   have U:∀ A,A<+:eX x++(gu x++x.aC.map io)->((dT f k++([fQ]::ld b))++[n6 x])++A<+:j9 f:=fun A hA=>by
    have:=Bi hb (p:=[fQ]::(ld b++(n6 x::A))) (by
     rw[hB]
     exact(List.cons_prefix_cons).2 ⟨rfl,(List.prefix_append_right_inj _).2 ((List.cons_prefix_cons).2 ⟨rfl,hA⟩)⟩)
    simpa[List.append_assoc] using this
   refine bj ?_;refine cP ?_;refine eE (eC rfl (an _ _ _) rfl dm c3 (fN O) rfl) aG ⟨df,rfl,oS,oC,rfl,by unfold maxLen;omega,by rw[b3];omega,oS⟩ ?_;refine lD (Jv (y:=.rs (nx+1+1) 0 (6+x.args.length)) (l:=mM x) (word:=Cw) (au oG (au oG (au oG tT))) ((wA oG).mono fun i hi=>by cases hi;exact(au oG (au oG (au oG rfl)))) (fun i hi=>by cases hi;omega) oG (.inr ⟨nx+1+1,oG,congrArg (D.rs _ 0) (by simp[mM];omega),an _ _ _⟩) M.1 (by simp[mM];omega) (ht.le (p:=dT f k++([fQ]::ld b)) (l:=n6 x) (by simpa using U [] List.nil_prefix))) rfl aG fun d m nx h=>?_;refine ab ?_;dsimp only[St.put];obtain⟨q,cb,_,C,hg⟩:=uJ (w:=n6 x) h oG;generalize Ge:(dT f k++([fQ]::ld b))++[n6 x]=T1 at*
   refine⟨_,hg _ [(5,.rp 1 0),(53,dQ f.blocks),(54,I f.blocks.length),(55,I k),(11,.pt (a8 x))] ⟨rfl,rfl,rfl,rfl,rfl,trivial⟩,eT (fun s=>∃ q nx,1<q/\q<nx/\aM prog s ⟨aF [(5,.rp 1 0),(53,dQ f.blocks),(54,I f.blocks.length),(55,I k),(11,.pt (a8 x))],n7 q (cn (T1++eX x)),nx⟩) (aj ?_) fun s hs=>?_⟩
   .refine av ?_;refine ab (ap rfl (fun hn=>?_) fun hn=>?_)
    .have J:eX x=[[yp,x.name]]:=by
      unfold eX;rw[if_neg];intro he;simp[he] at hn
     refine iV ?_;refine aR ?_;refine lD (EJ (wsq:=[yp,x.name]) (au oG tT) (an _ _ _) ((wA oG).mono fun i hi=>by cases hi;exact(au oG rfl)) rfl (fun i hi=>by cases hi;omega) oG oS (ht.le (U _ (by rw[J];exact List.prefix_append _ _)))) rfl aG fun d m nx h=>?_;refine ab ?_;dsimp only[St.put];obtain⟨q,cb,_,C,hg⟩:=uJ h oG;rw[J];exact⟨q,nx,cb,C,hg _ _ ⟨rfl,rfl,rfl,rfl,rfl,trivial⟩⟩
    .have J:eX x=[]:=by
      unfold eX;rw[if_pos];by_cases he:x.name.toList=[]
      .exact he
      .simp[he] at hn
     rw[J,List.append_nil];exact dE ⟨q,nx,cb,C,ao eH⟩
   clear hg h cb C;obtain⟨q,nx,cb,C,hg⟩:=hs;refine⟨_,hg,eT (fun s=>∃ q nx,1<q/\q<nx/\aM prog s ⟨aF [(5,.rp 1 0),(53,dQ f.blocks),(54,I f.blocks.length),(55,I k),(11,.pt (a8 x))],n7 q (cn ((T1++eX x)++gu x)),nx⟩) (aj ?_) fun s hs=>?_⟩
   .refine av ?_;refine ab (ap rfl (fun hn=>?_) fun hn=>?_)
    .have J:gu x=[jh tk x.ins]:=by
      unfold gu;rw[if_pos];simpa using hn
     have X:(T1++eX x)++[jh tk x.ins]<+:j9 f:=by
      rw[List.append_assoc];refine U _ ((List.prefix_append_right_inj _).2 ?_);rw[J];exact List.prefix_append _ _
     refine iV ?_;refine av ?_;refine lD (Yb (x:=x.ins) (word:=tk) tT (wA oG) (fun i hi=>by cases hi;omega) oG M.2.2.1 M.2.2.2.1 (ht.le X)) rfl aG fun d m nx h=>?_;refine ab ?_;dsimp only[St.put];obtain⟨q,cb,_,C,hg⟩:=uJ (w:=jh tk x.ins) h oG;rw[J];exact⟨q,nx,cb,C,hg _ _ ⟨rfl,rfl,rfl,rfl,rfl,trivial⟩⟩
    .have J:gu x=[]:=by
      unfold gu;rw[if_neg];simpa using hn
     rw[J,List.append_nil];exact dE ⟨q,nx,cb,C,ao eH⟩
   clear hg cb C;obtain⟨q,nx,cb,C,hg⟩:=hs;refine⟨_,hg,ay ?_⟩;clear hg;refine aR ?_
   refine ab (gM (α:=Nat×Nat×Nat)
    (fun s=>⟨aF [(5,.rp 1 0),(53,dQ f.blocks),(54,I f.blocks.length),(55,I k),(110,mo x.aC),(111,I x.aC.length),(112,I s.1)],n7 s.2.1 (cn (((T1++eX x)++gu x)++(x.aC.take s.1).map io)),s.2.2⟩)
    (fun s=>s.1<=x.aC.length/\1<s.2.1/\s.2.1<s.2.2) (fun s=>x.aC.length - s.1) (0,q,nx)
    (by dsimp only;rw[List.take_zero,List.map_nil,List.append_nil];exact ao eH) ⟨Nat.zero_le _,cb,C⟩ ?_)
   clear cb C;rintro⟨i,q,nx⟩ ⟨hi,cb,C⟩;dsimp only at hi cb C ⊢;refine SS ?_;refine ab ⟨_,rfl,fun h=>?_,fun h=>?_⟩
   .have lI:i<x.aC.length:=by simpa using h
    clear h;obtain⟨w,hw⟩:∃ w,x.aC[i]? =some w:=⟨_,bc lI⟩
    have CW:=M.2.2.2.2.2 w (cx hw);have he:((T1++eX x)++gu x)++(x.aC.take (i+1)).map io=(((T1++eX x)++gu x)++(x.aC.take i).map io)++[io w]:=by rw[List.take_add_one,hw];simp
    have X:(((T1++eX x)++gu x)++(x.aC.take i).map io)++[io w]<+:j9 f:=by
     rw[<- he,List.append_assoc,List.append_assoc];exact U _ ((List.prefix_append_right_inj _).2 ((List.prefix_append_right_inj _).2 ((List.take_prefix _ _).map _)))
    refine ay ?_;refine aR ?_;refine ab ⟨_,Jb (cs:=jo w) (e:=79) (an _ _ _) (au oG (au oG rfl)) (au oG (au oG rfl)) cb C (l:=[(5,.rp 1 0),(53,dQ f.blocks),(54,I f.blocks.length),(55,I k),(110,mo x.aC),(111,I x.aC.length),(112,I i),(13,.pt (jo w))]) ⟨pv oG,rfl,rfl,rfl,rfl,rfl,rfl,BB,trivial⟩,Mw abp kr ?_⟩;refine bm ?_;refine uI (N7 CW) rfl aG ?_;refine SS ?_;refine bN bO ?_;refine lD (EJ (wsq:=io w) (au oG tT) (an _ _ _) ((wA oG).mono fun i hi=>by cases hi;exact(au oG rfl)) rfl (fun i hi=>by cases hi;omega) oG (by simp[io]) (ht.le X)) rfl aG fun d m nx h=>?_;refine ab ?_;dsimp only[St.put];obtain⟨q,cb,_,C,hg⟩:=uJ (w:=io w) h oG;show ax prog kT (Z ek 31) false [] _ (Z ek 31).toList _ [];refine af ?_;refine ab (bg (i+1,q,nx) ?_ ⟨oM,cb,C⟩ oM);dsimp only;rw[he];exact hg _ _ ⟨rfl,rfl,rfl,rfl,rfl,rfl,rfl,trivial⟩
   .have bG:¬ i<x.aC.length:=by simpa using h
    have:i=x.aC.length:=by omega
    subst this;rw[List.take_length];show ax prog kT (Z ek 32) false [] _ (Z ek 32).toList _ [];refine af ?_;refine ab (bg (k+1,q,nx) ?_ ⟨oM,cb,C⟩ oM);dsimp only;rw[L6 hb,show dT f k++ni b=((T1++eX x)++gu x)++x.aC.map io by rw[hB, <- Ge];simp[List.append_assoc]];exact ao eH
  .have bG:¬ k<f.blocks.length:=by simpa using h
   have:k=f.blocks.length:=by omega
   subst this;rw[tg];exact⟨q,nx,cb,C,ao eH⟩
 .rintro s ⟨q,nx,cb,C,hg⟩;refine⟨_,hg,aj ?_⟩
  have h0:0<(cn (j9 f)).size:=by
   show 0<(dH _++cn _).size;rw[ByteArray.size_append,dH,ByteArray.size_append];have:(⟨#[10]⟩:ByteArray).size=1:=rfl;omega
  refine SS ?_;refine aq (It rfl rfl) ak trivial ?_;refine SS ?_;refine lD (am3 tT (Qs oG) h0 ht.size) rfl aG fun d m nx h=>?_;obtain⟨rfl,rfl,rfl⟩:=h;dsimp only[St.put];refine af ?_;exact ab (oO rfl rfl rfl)
theorem Jy{f:aK}(ht:fe f=0->EA f):az prog 111 [.agg (aH f)] (.bd [S (if fe f=0 then wz f else⟨#[]⟩),I (fe f)]):=by
 by_cases C:fe f=0
 .have h:=agq C (ht C);rw[if_pos C,C];exact h
 rw[if_neg C];have mg:=mg (f:=f);refine bu Xb (.cons (.agg (gA f)) .nil) (.bd (.cons (.s _) (.cons (.s _) .nil))) ?_;rw[Xc];generalize fe f=e at*
 have pX:(e !=0)=true:=by simpa using C
 refine ay ?_;refine av ?_;refine ab (aX (bZ [(0,aH f,48)] eH (l:=[(1,.pt (aH f))]) eH) (aI (aj ?_)));refine SS ?_;refine cl mg ?_;refine SS ?_;refine ab (aI (aj ?_));refine af ?_;refine ab (pP (aI (aj ?_)));refine av ?_;exact ab (eb (oO rfl rfl rfl))
theorem Qt{f:aK}(h:fe f=0):az prog 67 [.agg (aH f)] (S (Nj f)):=by
 have hb:=Mz (Go.Argus.checked h)
 have Qo:az prog 57 [.agg (aH f),S vz,.fn (.func 112) [] []] (.agg (aH (uK f))):=Qo (to:=fun _=>vz) (.fn oS oS) (fun X i cs sz _=>rfl) (fun b _ _=>ana) (by have:=hb.ag;omega) (by have:=hb.aN;omega) (by have:=hb.sigs;omega) (by have:=hb.oi;omega) fun b C=>by
  have h1:=hb.bF b C;have h2:=h1.len;have J:=h1.fin.len;have M:=h1.fin.aC;have O:=h1.fin.ins.len;exact⟨oG,fun x hx=>by have:=(h1.ins x hx).len;omega,oG,oG,oG⟩
 have Jy:=Jy (f:=uK f) fun _=>VX (aeP h);rw[Ld h,if_pos rfl] at Jy;refine bu anm (.cons (.agg (gA f)) .nil) (Tr.s _) ?_;rw[ann];refine ay ?_;refine af ?_;refine ab (aX (bZ [(0,aH f,48)] eH (l:=[(1,.pt (aH f))]) eH) (aj ?_));refine SS ?_;refine cl Qo ?_;refine cl Jy ?_;refine bm ?_;refine er ?_;refine af ?_;exact ab (aw rfl rfl)
theorem Dp{b:bB}:az prog 85 [.agg (a8 b.fin)] (B (ja b)):=by
 refine bu ano (.cons (.agg (mr b.fin)) .nil) (Tr.s _) ?_;rw[anp];refine ay ?_;refine af ?_;refine ab (aX (bZ [(0,a8 b.fin,57)] eH (l:=[(1,.pt (a8 b.fin))]) eH) (aj ?_));refine bj ?_;refine ab (aw rfl ?_);show B _=B _;congr 1;unfold ja;by_cases h:b.fin.kind=6<;>by_cases C:b.fin.kind=7<;>simp[h,C]
theorem Dq{f:aK}(M:f.blocks.length<=1000000):az prog 53 [.agg (aH f)] (ez (dG f.blocks)):=by
 refine bu anq (.cons (.agg (gA f)) .nil) (oI _) ?_;rw[anr];refine ay ?_;refine af ?_;refine ab (aX (bZ [(0,aH f,48)] eH (l:=[(1,.pt (aH f))]) eH) (ay ?_));refine SS ?_;refine ab ⟨_,.sU _ _ _ 3 9 rfl,aI (ay ?_)⟩;refine SS ?_
 refine ab (cD (fun s=>∃ r nx,aM prog s ⟨aF [(3,.rs r 0 (dG f.blocks).length)],bJ [(r,.cells ((dG f.blocks).map S) 9)],nx⟩) (dD (α:=Nat×Nat×Nat)
  (fun s=>⟨aF [(1,.pt (aH f)),(3,.rs s.2.1 0 (dG (f.blocks.take s.1)).length),(4,I s.1)],bJ [(s.2.1,.cells ((dG (f.blocks.take s.1)).map S) 9)],s.2.2⟩)
  (fun s=>s.1<=f.blocks.length/\s.2.1<s.2.2) (fun s=>f.blocks.length - s.1) (0,1,2)
  (aY eH eH) ⟨Nat.zero_le _,oC⟩ ?_) ?_)
 .rintro⟨k,r,nx⟩ ⟨hk,hr⟩;dsimp only at hk hr ⊢;refine bm ?_;refine ab ⟨_,rfl,fun h=>?_,fun h=>?_⟩
  .have al:k<f.blocks.length:=by simpa using h
   clear h;obtain⟨b,hb⟩:∃ b,f.blocks[k]? =some b:=⟨_,bc al⟩
   have C:dG (f.blocks.take (k+1))=dG (f.blocks.take k)++if ja b then [b.fin.name] else []:=by
    rw[List.take_add_one,hb, <- KP];rfl
   have O:(dG (f.blocks.take k)).length<=1000000:=by
    have:=GM (f.blocks.take k);have:(f.blocks.take k).length<=f.blocks.length:=List.length_take_le' _ _;omega
   generalize dG (f.blocks.take k)=cs at*
   have aA:bJ [(r,Row.cells (cs.map S) 9)] r=some (.cells (cs.map S) 9):=by simp[bJ]
   have Dp:=Dp (b:=b);generalize ja b=ic at*
   refine ws ?_;refine cG ?_;refine cl Dp ?_;refine ab (ap rfl (fun hp=>?_) fun hp=>?_)
   .have hp:ic=true:=hp;subst hp;rw[if_pos rfl] at C;refine iV ?_;refine bj ?_;refine af ?_;refine ab ?_;show ax _ _ _ _ _ _ _ _ _;refine av ?_;refine ab (bg (k+1,nx+1,nx+1+1) ?_ ⟨oM,?_⟩ oM)
    .dsimp only;rw[C];refine aY ⟨rfl,?_,rfl,trivial⟩ ⟨(an _ _ _).trans (by simp;rfl),trivial⟩;rw[List.length_append];rfl
    .dsimp only;omega
   .have hp:ic=false:=hp;subst hp;rw[if_neg oS,List.append_nil] at C;refine dE ?_;show ax _ _ _ _ _ _ _ _ _;refine av ?_;refine ab (bg (k+1,r,nx) ?_ ⟨oM,?_⟩ oM)
    .dsimp only;rw[C];exact ao eH
    .dsimp only;omega
  .have J:¬ k<f.blocks.length:=by simpa using h
   have:k=f.blocks.length:=by omega
   subst this;rw[List.take_length];exact⟨r,nx,ao eH⟩
 .rintro s ⟨r,nx,hg⟩;refine⟨_,hg,ay ?_⟩;refine af ?_;refine ab (aX (kY (i:=r) (cs:=(dG f.blocks).map S) (e:=9) (by simp[bJ]) (l:=[(2,ez (dG f.blocks))]) ⟨?_,trivial⟩) (aw rfl rfl));exact(mW (by rw[c9];simp)).trans oS
theorem Ko{f:aK}{name:ByteArray}{to:ByteArray->ByteArray}{ls:List ByteArray}(O:ls=(dG f.blocks).map to)(dz:f.blocks.length<=1000000):
 az prog 61 [.agg (aH f),S name,ez ls] (.agg (aH (jF f name to))):=by
 refine bu ans (.cons (.agg (gA f)) (.cons (.s _) (.cons (oI _) .nil))) (.agg (gA _)) ?_;rw[ant];refine ay ?_;refine af ?_;refine ab ⟨_,.refl _,ay ?_⟩;refine av ?_;refine ab ⟨_,.refl _,ay ?_⟩;have FX:(f.blocks.flatMap cg).length=f.blocks.length*16:=zp DC _;have cU:(f.blocks.flatMap cg).take (f.blocks.length*16)=f.blocks.flatMap cg:=cO oG;refine av ?_;refine eE (eC rfl rfl rfl V.h V.h (fN cU) rfl) ak ⟨V.h,rfl,(by first|omega|exact bt rfl|(simp;done)|(simp;omega)),oC,(by first|rfl|(simp;done)|(simp;omega)),(by unfold maxLen;first|omega|(simp;omega)),(by rw[Kl];first|omega|(simp;omega)),(by first|(simp;done)|(simp;omega))⟩ ?_;refine SS ?_;refine dA (jR (d:=.rs _ _ _) (cs':=_) rfl rfl rfl rfl rfl) ak (ef V.h V.h (by first|(simp;done)|exact⟨rfl,bt rfl⟩|(simp;omega)) rfl) ?_;obtain⟨hd,J⟩:∃ hd,hd=headD (jF f name to) (.rs 3 0 f.blocks.length):=⟨_,rfl⟩
 refine ab ⟨_,aY (l:=[(2,ez ls),(3,.rp 0 0),(6,.rp 1 0)]) (ml:=[(0,.cells hd 48),(1,.cells mH 48),(3,.cells ((jI f.blocks to 0).flatMap cg) 59)]) eH ⟨?_,rfl,?_,trivial⟩,aj ?_⟩
 .rw[J,Nat.zero_add f.blocks.length];rfl
 .rw[abq];rfl
 refine SS ?_;refine ab (aI (ay ?_));refine SS ?_;have kd:hd.drop (0+7)=.rs 3 0 f.blocks.length::[]:=by rw[J];rfl
 refine ab (cD (fun s=>aM prog s ⟨aF [(3,.rp 0 0),(6,.rp 1 0)],bJ [(0,.cells hd 48),(1,.cells mH 48),(3,.cells ((jI f.blocks to f.blocks.length).flatMap cg) 59)],4⟩) (dD (α:=Nat)
  (fun k=>⟨aF [(2,ez ls),(3,.rp 0 0),(6,.rp 1 0),(7,I (dG (f.blocks.take k)).length),(8,I k)],bJ [(0,.cells hd 48),(1,.cells mH 48),(3,.cells ((jI f.blocks to k).flatMap cg) 59)],4⟩)
  (fun k=>k<=f.blocks.length) (fun k=>f.blocks.length - k) 0 (aY eH eH) (Nat.zero_le _) ?_) ?_)
 .rintro k hk;refine bm ?_;refine ab ⟨_,rfl,fun h=>?_,fun h=>?_⟩
  .have al:k<f.blocks.length:=by simpa using h
   clear h;obtain⟨b,hb⟩:∃ b,f.blocks[k]? =some b:=⟨_,bc al⟩
   have C:dG (f.blocks.take (k+1))=dG (f.blocks.take k)++if ja b then [b.fin.name] else []:=by
    rw[List.take_add_one,hb, <- KP];rfl
   have sx:(dG (f.blocks.take k)).length<=1000000:=by
    have:=GM (f.blocks.take k);have:(f.blocks.take k).length<=f.blocks.length:=List.length_take_le' _ _;omega
   have bQ:dG f.blocks=dG (f.blocks.take k)++((if ja b then [b.fin.name] else [])++dG (f.blocks.drop (k+1))):=by
    rw[<- List.append_assoc, <- C];unfold dG;rw[<- List.map_append, <- List.filter_append,List.take_append_drop]
   have M:ja b=true->ls[(dG (f.blocks.take k)).length]? =some (to b.fin.name):=fun hc=>by
    rw[O,List.getElem?_map,bQ,hc,List.getElem?_append_right (bM _),Nat.sub_self];rfl
   have X:=Lo (f:=cg) DC (Lz (to:=to) hb);have hlen:((jI f.blocks to k).flatMap cg).length=f.blocks.length*16:=by rw[zp DC,acZ]
   have U:(((jI f.blocks to k).flatMap cg).drop (k*16+1)).take 15=a8 b.fin:=by
    rw[<- List.drop_drop,X];show(a8 b.fin++_).take 15=_;rw[List.take_left' (abr _)]
   have yK:ja b=true->((jI f.blocks to k).flatMap cg).set (k*16+1+5) (S (to b.fin.name))=(jI f.blocks to (k+1)).flatMap cg:=fun hc=>by
    rw[R2 hb];exact TH (j:=6) DC (Lz hb) oC (by unfold dN;rw[if_pos hc];rfl)
   have ry:ja b=false->(jI f.blocks to (k+1)).flatMap cg=(jI f.blocks to k).flatMap cg:=fun hc=>by rw[aeQ hb hc]
   have Dp:=Dp (b:=b);generalize (jI f.blocks to k).flatMap cg=cs at*
   generalize dG (f.blocks.take k)=AT at*
   generalize Qg:ja b=ic at*
   refine ws ?_;refine bm ?_;refine aq (fD (vs:=a8 b.fin) rfl rfl Zm Qv U) aG (fE t57 Qv oG) ?_;refine cl Dp ?_;refine ab (ap rfl (fun hp=>?_) fun hp=>?_)
   .have hp:ic=true:=hp;subst hp;rw[if_pos rfl] at C;have hg:=M rfl;have hs:=yK rfl;refine ej aeR ?_;refine cP ?_;refine af ?_;refine dA (jR (d:=.s (.string _)) (cs':=(jI f.blocks to (k+1)).flatMap cg) rfl rfl rfl rfl hs) aG (ef t9 c9 ⟨rfl,oG⟩ rfl) ?_;refine bN bO (iV ?_);refine av ?_;refine ab ?_;show ax _ _ _ _ _ _ _ _ _;refine av ?_;refine ab (bg (k+1) (aY ⟨rfl,rfl,rfl,?_,rfl,trivial⟩ eH) oG oG);rw[C,List.length_append];rfl
   .have hp:ic=false:=hp;subst hp;rw[if_neg oS,List.append_nil] at C;have hn:=ry rfl;refine dE ?_;show ax _ _ _ _ _ _ _ _ _;refine av ?_;refine ab (bg (k+1) (aY ⟨rfl,rfl,rfl,?_,rfl,trivial⟩ ⟨rfl,rfl,?_,trivial⟩) oG oG)
    .rw[C];rfl
    .rw[hn];rfl
  .have bG:¬ k<f.blocks.length:=by simpa using h
   have:k=f.blocks.length:=by omega
   subst this;exact aY eH eH
 .rintro s hg;rw[ac0] at hg;have hlen:((f.blocks.map (dN to)).flatMap cg).length=f.blocks.length*16:=by rw[zp DC,List.length_map]
  refine⟨_,hg.trans (ow (i:=3) (cs:=(f.blocks.map (dN to)).flatMap cg) (e:=59) rfl (l:=[(3,.rp 0 0),(6,.rp 1 0)]) eH (ml:=[(0,.cells (aH (jF f name to)) 48),(1,.cells mH 48)]) ⟨?_,rfl,trivial⟩),aj ?_⟩
  .show some (Row.cells (hd.map _) 48)=_;rw[J];refine congrArg (fun x=>some (Row.cells (headD (jF f name to) x) 48)) ?_;refine yq.trans ?_;rw[List.drop_zero,Km,cO oG];show D.sl _ f.blocks.length=.sl _ (f.blocks.map (dN to)).length;rw[List.length_map];rfl
  refine af ?_;exact ab (lO (mi rfl rfl Kn Dn rfl t48 (bM 8)) rfl)
end Go.Proofs.Tryz.K
namespace Go.Argus
def nT(n:Nat):List ByteArray:=replicate n vz
theorem aaS(n:Nat):nT (n+1)=nT n++[vz]:=by unfold nT;rw[List.replicate_succ']
@[simp] theorem R3 (n : Nat) : (nT n).length = n := by simp [nT]
end Go.Argus
namespace Go.Proofs.Tryz.K
theorem Qw{f:aK}(C:f.blocks.length<=1000000):az prog 69 [.agg (aH f)] (.agg (aH (uK f))):=by
 have Dq:=Dq C;have dw:(dG f.blocks).length<=1000000:=Nat.le_trans (GM f.blocks) C;have Ko:=Ko (f:=f) (name:=vz) (to:=fun _=>vz) (ls:=nT (dG f.blocks).length) (by simp[nT,List.map_const']) C
 change az _ _ _ (.agg (aH (uK f))) at Ko
 refine bu anv (.cons (.agg (gA f)) .nil) (.agg (gA _)) ?_;rw[anw];refine ay ?_;refine af ?_;refine ab ⟨_,ow (i:=0) (cs:=aH f) (e:=48) rfl (l:=[(1,.pt (aH f)),(2,.rp 1 0)]) eH (ml:=[(1,.cells mH 48)]) eH,ay ?_⟩;refine SS ?_;refine ab ⟨_,.sU _ _ _ 3 9 rfl,aI (ay ?_)⟩;refine SS ?_;generalize dG f.blocks=AT at*
 refine ab (cD (fun s=>∃ nx,aM prog s ⟨aF [(1,.pt (aH f)),(2,.rp 1 0),(3,ez (nT AT.length))],bJ [(1,.cells mH 48)],nx⟩) (dD (α:=Nat×Nat×Nat)
  (fun s=>⟨aF [(1,.pt (aH f)),(2,.rp 1 0),(3,.rs s.2.1 0 (nT s.1).length),(4,I s.1)],bJ [(1,.cells mH 48),(s.2.1,.cells ((nT s.1).map S) 9)],s.2.2⟩)
  (fun s=>s.1<=AT.length/\1<s.2.1/\s.2.1<s.2.2) (fun s=>AT.length - s.1) (0,2,3)
  (aY eH eH) ⟨Nat.zero_le _,oC,oC⟩ ?_) ?_)
 .rintro⟨k,r,nx⟩ ⟨hk,J,hr⟩;dsimp only at hk J hr ⊢
  have aA:bJ [(1,Row.cells mH 48),(r,Row.cells ((nT k).map S) 9)] r=some (.cells ((nT k).map S) 9):=by
   show(if r=1 then _ else if r=r then _ else none)=_;rw[if_neg oG,if_pos rfl]
  have mF:bJ [(1,Row.cells mH 48),(r,Row.cells ((nT k).map S) 9)] 1=some (.cells mH 48):=rfl;have sx:(nT k).length<=1000000:=by rw[R3];omega
  have O:=aaS k;have U:=R3 k;generalize bJ [(1,Row.cells mH 48),(r,Row.cells ((nT k).map S) 9)]=m at*
  generalize hu:nT k=us at*
  refine af ?_;refine cl Dq ?_;refine af ?_;refine ab ⟨_,rfl,fun h=>?_,fun h=>?_⟩
  .have al:k<AT.length:=by simpa using h
   clear h;refine iV ?_;refine aR ?_;refine ab ?_;show ax _ _ _ _ _ _ _ _ _;refine av ?_;refine ab (bg (k+1,nx+1,nx+1+1) ?_ ⟨oM,oM,oM⟩ oM);dsimp only;rw[O];refine aY ⟨rfl,rfl,?_,rfl,trivial⟩ ⟨?_,(an _ _ _).trans (by simp;rfl),trivial⟩
   .rw[List.length_append];rfl
   .repeat (first|exact mF|refine au oG ?_)
  .have X:¬ k<AT.length:=by simpa using h
   have M:k=AT.length:=by omega
   subst M;rw[hu];refine⟨_,ow (i:=r) (cs:=us.map S) (e:=9) aA (l:=[(1,.pt (aH f)),(2,.rp 1 0),(3,ez us)]) ⟨rfl,pv oG,?_,trivial⟩ (ml:=[(1,.cells mH 48)]) ⟨?_,trivial⟩⟩
   .exact(mW (by rw[c9];simp)).trans oS
   .exact UL oG mF rfl
 .rintro s ⟨nx,hg⟩;refine⟨_,hg,aj ?_⟩;refine af ?_;refine cl Ko ?_;refine SS ?_;exact ab (lO (mi rfl rfl Kn Dn rfl t48 (bM 8)) rfl)
end Go.Proofs.Tryz.K
end
