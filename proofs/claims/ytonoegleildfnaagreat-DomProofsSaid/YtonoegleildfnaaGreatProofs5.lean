/- Part 5. -/
import Derived.Test.YtonoegleildfnaaGreatProofs4
set_option linter.all false
set_option maxHeartbeats 2000000
set_option maxRecDepth 10000
open List(range)
open List(replicate)
section
open Go Go.Abs Go.Proofs Go.Argus
namespace Go.Argus
theorem iw(a b:Bool):(if a=true then b else false)=(a&&b):=by cases a<;>rfl
theorem Aq(a b:Bool):(if a=true then true else b)=(a||b):=by cases a<;>rfl
def mO(bs:List b7):List (List Int):=(range bs.length).map (l0 bs bs.length)
def mZ(R:Nat)(bs:List b7)(k:Nat):List Bool:=(range R).map fun(i:Nat)=>(lU bs k).any (·==(i:Int))
theorem DJ(R:Nat)(bs:List b7)(k:Nat):(mZ R bs k).length=R:=by simp[mZ]
theorem He{R i:Nat}{bs:List b7}{k:Nat}(h:i<R):(mZ R bs k)[i]? =some ((lU bs k).any (·==(i:Int))):=by simp[mZ,h]
theorem PR{bs:List b7}{k:Nat}{x:b7}(h:bs[k]? =some x):lU bs (k+1)=lU bs k++if x.fin.kind=7 then [x.fin.a] else []:=by
 unfold lU;rw[List.take_add_one,h,List.filter_append,List.map_append];congr 1;by_cases e:x.fin.kind=7<;>simp[e]
theorem ad6{R:Nat}{bs:List b7}{k:Nat}{x:b7}(h:bs[k]? =some x)(e:¬ x.fin.kind=7):mZ R bs (k+1)=mZ R bs k:=by
 unfold mZ;rw[PR h,if_neg e,List.append_nil]
theorem acR{R i:Nat}{bs:List b7}{k:Nat}{x:b7}(h:bs[k]? =some x)(e:x.fin.kind=7)(ha:x.fin.a=i):mZ R bs (k+1)=(mZ R bs k).set i true:=by
 apply List.ext_getElem?;intro j;rw[List.getElem?_set];by_cases hj:j<R
 .rw[He hj,He hj,PR h,if_pos e,List.any_append,ha,DJ];by_cases C:i=j
  .subst C;simp[hj]
  .rw[if_neg C];have:((i:Int)==(j:Int))=false:=by simp;omega
   simp[this]
 .have h1:∀ k,(mZ R bs k)[j]? =none:=fun k=>List.getElem?_eq_none (by rw[DJ];omega);rw[h1,h1,DJ];split
  .rw[if_neg oG]
  .rfl
theorem abp(R:Nat)(bs:List b7):mZ R bs 0=replicate R false:=by
 apply List.ext_getElem?;intro j;by_cases hj:j<R
 .rw[He hj];simp[lU,hj]
 .rw[List.getElem?_eq_none (by rw[DJ];omega),List.getElem?_eq_none oP]
theorem take_set{C:List Bool}{k n:Nat}{v:Bool}(h:C[k]? =some v)(hn:C.length=n):((C.take k++replicate (n - k) false).set k v)=C.take (k+1)++replicate (n - (k+1)) false:=by
 have hk:=(bw.1 h).1;have hl:(C.take k).length=k:=by simp;omega
 rw[show n - k=n - (k+1)+1 by omega,List.replicate_succ,List.set_append_right _ _ oG,hl,Nat.sub_self,List.set_cons_zero,List.take_add_one,h];simp
def qd(p:Bool×D):List D:=[B p.1,p.2]
def dz(L:List (Bool×D)):List D:=L.flatMap qd
def Fk(c:Cert):Bool×D:=(c.any,dw c.is)
theorem BR:∀ L:List (Bool×D),(dz L).length=L.length*2
 |[]=>rfl
 |p::L=>by
  have:=BR L;unfold dz at this ⊢;rw[List.flatMap_cons,List.length_append,this];simp[qd];omega
theorem Kv:∀ {L:List (Bool×D)} {t:Nat} {p:Bool×D},L[t]? =some p->∃ r,(dz L).drop (t*2)=B p.1::p.2::r
 |[],_,_,h=>by simp at h
 |p::L,0,q,h=>by
  simp at h;subst h;exact⟨dz L,rfl⟩
 |p::L,t+1,q,h=>by
  obtain⟨r,hr⟩:=Kv (L:=L) (t:=t) (by simpa using h);refine⟨r,?_⟩;rw[show(t+1)*2=t*2+2 by omega];show(B p.1::p.2::dz L).drop (t*2+2)=_;exact hr
theorem R8:∀ {L:List (Bool×D)} {t:Nat} (q:Bool×D),t<L.length->(dz L).take (t*2)++[B q.1,q.2]++(dz L).drop (t*2+2)=dz (L.set t q)
 |[],_,_,h=>by simp at h
 |p::L,0,q,h=>rfl
 |p::L,t+1,q,h=>by
  have ih:=R8 (L:=L) (t:=t) q (by simpa using h);rw[show(t+1)*2=t*2+2 by omega,List.set_cons_succ];show B p.1::p.2::((dz L).take (t*2)++[B q.1,q.2]++(dz L).drop (t*2+2))=_;rw[ih];rfl
theorem JP{L:List (Bool×D)}{t:Nat}(q:Bool×D)(h:t<L.length):splice (dz L) (t*2) [B q.1,q.2]=dz (L.set t q):=R8 q h
theorem aff{L:List (Bool×D)}{t:Nat}{p:Bool×D}(h:L[t]? =some p):∃ r,(dz L).drop (t*2+0)=B p.1::p.2::r:=Kv h
theorem R9{L:List (Bool×D)}{t:Nat}{p:Bool×D}(h:L[t]? =some p):((dz L).drop (t*2)).take 2=[B p.1,p.2]:=by
 obtain⟨r,hr⟩:=Kv h;rw[hr];rfl
theorem Ht(g:D->D)(hg:∀ b,g (B b)=B b):∀ L:List (Bool×D),(dz L).map g=dz (L.map fun p=>(p.1,g p.2))
 |[]=>rfl
 |p::L=>by
  show g (B p.1)::g p.2::(dz L).map g=B p.1::g p.2::_;rw[hg,Ht g hg L];rfl
def jD(n N:Nat)(d:D):Nat->List (Bool×D)
 |0=>replicate N (false,.z)
 |k+1=>(true,d)::(replicate k (true,dw (replicate n false))++replicate (N - (k+1)) (false,.z))
theorem J6{n N:Nat}{d:D}{k:Nat}(h:k<=N):(jD n N d k).length=N:=by
 cases k with
 |zero=>simp[jD]
 |succ k=>simp[jD];omega
theorem ad7{n N:Nat}{d:D}(h:0<N):(jD n N d 0).set 0 (true,d)=jD n N d 1:=by
 obtain⟨M,rfl⟩:∃ M,N=M+1:=⟨N - 1,oG⟩
 simp[jD,List.replicate_succ]
theorem ad8{n N:Nat}{d:D}{k:Nat}(h:k+1<N):(jD n N d (k+1)).set (k+1) (true,dw (replicate n false))=jD n N d (k+2):=by
 unfold jD;rw[List.set_cons_succ,show N - (k+1)=N - (k+1+1)+1 by omega,List.replicate_succ (n:=N - (k+1+1)),List.set_append_right _ _ oS,List.length_replicate,Nat.sub_self,List.set_cons_zero];show _=(true,d)::(replicate (k+1) _++_)
 rw[List.replicate_succ',List.append_assoc];rfl
def fB(R n N:Nat)(s:CS):List (Bool×D):=(range N).map fun k=>Fk (cF R n s k)
theorem yw(R n N:Nat)(s:CS):(fB R n N s).length=N:=by simp[fB]
theorem Bx{R n N:Nat}{s:CS}{k:Nat}(h:k<N):(fB R n N s)[k]? =some (Fk (cF R n s k)):=by simp[fB,h]
theorem aai{R n N:Nat}{s s':CS}{t:Nat}{c:Cert}(h:∀ k,cF R n s' k=if k=t then c else cF R n s k):(fB R n N s).set t (Fk c)=fB R n N s':=by
 apply List.ext_getElem?;intro j;rw[List.getElem?_set,yw];by_cases hj:j<N
 .rw[Bx hj,Bx hj,h j];by_cases e:t=j
  .subst e;simp[hj]
  .rw[if_neg e,if_neg fun h=>e h.symm]
 .have h1:∀ s,(fB R n N s)[j]? =none:=fun s=>by simp[fB];omega
  rw[h1,h1];split
  .rw[if_neg oG]
  .rfl
def ED(f:aG)(s:CS):D:=.sl (dz (fB f.al.length (f.al.length+f.aZ.length) f.ab.length s)) f.ab.length
theorem JQ{R n:Nat}{s:CS}{k:Nat}:(cF R n s k).is.length=n:=by
 unfold cF;split
 .exact DP ..
 .simp
def qZ(a b:Cert)(q:Nat):Bool:=(a.any==b.any)&&(range q).all fun i=>a.is.getD i false==b.is.getD i false
theorem aaj(a b:Cert)(q:Nat):qZ a b (q+1)=(qZ a b q&&(a.is.getD q false==b.is.getD q false)):=by
 unfold qZ;rw[List.range_succ,List.all_append,Bool.and_assoc];simp
theorem abu{a b:Cert}{n:Nat}(ha:a.is.length=n)(hb:b.is.length=n):qZ a b n=true↔a.any=b.any/\a.is=b.is:=by
 unfold qZ;rw[aM,beq_iff_eq,bj];refine and_congr_right fun _=>⟨fun h=>?_,fun h k hk=>by rw[h];simp⟩
 apply List.ext_getElem?;intro j;by_cases hj:j<n
 .have:=h j (by simpa using hj);have h1:a.is[j]? =some a.is[j]:=aN oG;have h2:b.is[j]? =some b.is[j]:=aN oG;rw[getD_some h1,getD_some h2,beq_iff_eq] at this;rw[h1,h2,this]
 .rw[List.getElem?_eq_none oG,List.getElem?_eq_none oG]
theorem Rm:∀ n:Nat,replD n [B false,.z]=dz (replicate n (false,.z))
 |0=>rfl
 |n+1=>by
  have:=Rm n;unfold replD at this ⊢;rw[List.replicate_succ,List.replicate_succ,List.flatten_cons,this];rfl
theorem R':∀ {L:List (Bool×D)},(∀ p∈L,Tr p.2)->∀ x∈dz L,Tr x
 |[],_,x,h=>by simp[dz] at h
 |p::L,hp,x,h=>by
  have h:x∈B p.1::p.2::dz L:=h;rcases List.mem_cons.1 h with rfl|h
  .exact .s _
  .rcases List.mem_cons.1 h with rfl|h
   .exact hp p oS
   .exact R' (fun q hq=>hp q (by simp[hq])) x h
theorem acS(f:aG)(s:CS):Tr (ED f s):=.sl (R' fun p hp=>by
 obtain⟨k,_,rfl⟩:=List.mem_map.1 hp
 exact .sl (.map fun _=>.s _))
theorem acT{n N i:Nat}{cs:List D}{sz:Nat}(h:i≠2)(k:Nat):(jD n N (.rs 2 0 n) k).map (fun p=>(p.1,sub (fz0 i cs sz) p.2))=jD n N (.rs 2 0 n) k:=by
 cases k with
 |zero=>simp only[jD,List.map_replicate];rfl
 |succ k=>
  simp only[jD,List.map_cons,List.map_append,List.map_replicate,BH (Ne.symm h)];rfl
theorem ad9{n N i k:Nat}(h:i≠2)(hk:k+1<N):(dz ((jD n N (.rs 2 0 n) (k+1)).set (k+1) (true,.rs i 0 n))).map (sub (fz0 i ((replicate n false).map B) 1))=dz (jD n N (.rs 2 0 n) (k+2)):=by
 rw[Ht _ (fun _=>rfl),List.map_set,acT h,Cn,List.drop_zero,df oS, <- ad8 hk];congr 3;show _=D.sl _ _;rw[List.length_replicate]
def qe(n N:Nat):List (Bool×D):=replicate (N - 1) (true,dw (replicate n false))
theorem ad'{n N:Nat}{d:D}(h:0<N):jD n N d N=(true,d)::qe n N:=by
 obtain⟨M,rfl⟩:∃ M,N=M+1:=⟨N - 1,oG⟩
 simp[jD,qe]
theorem Qv{n N:Nat}(h:0<N):(qe n N).length+1=N:=by simp[qe];omega
theorem alb{n N i:Nat}{cs:List D}{sz:Nat}:(qe n N).map (fun p=>(p.1,sub (fz0 i cs sz) p.2))=qe n N:=by
 unfold qe;rw[List.map_replicate];rfl
theorem ZC{R n N args:Nat}(h0:cF R n (kK N args) 0=⟨false,replicate args true++replicate (n - args) false⟩)(h1:∀ k,0<k->k<N->cF R n (kK N args) k=⟨true,replicate n false⟩)(C:0<N):
 fB R n N (kK N args)=(false,dw (replicate args true++replicate (n - args) false))::qe n N:=by
 apply List.ext_getElem?;intro j;by_cases hj:j<N
 .rw[Bx hj];cases j with
  |zero=>rw[h0];rfl
  |succ j=>
   rw[h1 _ oG hj,List.getElem?_cons_succ];unfold qe;rw[List.getElem?_replicate,if_pos oG];rfl
 .rw[List.getElem?_eq_none (by rw[yw];omega),List.getElem?_eq_none (by have:=Qv (n:=n) C;simp;omega)]
theorem Kw{R n N i sz:Nat}{cs:List D}{e:TypeId}{s:CS}:Row.sub (fz0 i cs sz) (.cells (dz (fB R n N s)) e)=.cells (dz (fB R n N s)) e:=by
 refine congrArg (fun c=>Row.cells c e) ((Ht _ (fun _=>rfl) _).trans (congrArg dz ?_));unfold fB;rw[List.map_map];rfl
def Mr(f:aG)(n N:Nat):Nat->St
 |0=>⟨aD [(1,.pt (aH f)),(3,I n),(4,.rs 1 0 N),(5,I (0:Nat))],bf [(1,.cells (dz (jD n N (.rs 2 0 n) 0)) 158)],2⟩
 |k+1=>⟨aD [(1,.pt (aH f)),(3,I n),(4,.rs 1 0 N),(5,I (k+1:Nat))],bf [(1,.cells (dz (jD n N (.rs 2 0 n) (k+1))) 158),(2,.cells ((replicate n false).map B) 4)],k+3⟩
end Go.Argus
namespace Go.Proofs.Tryz.K
section
variable{f:aG}{hd:D}(ht:Tr hd)(dP:hd.one=true)
include ht dP
theorem Nf{x:bC}:PCall prog 220 [.agg (bW f hd),.agg (bu x)] (B (lI f x)):=by
 have bT:∀ {r k:Int},PCall prog 215 [.agg (bW f hd),I r,U8 k] (B (bp f r k)):=fun {r k}=>bT ht dP;have vE:∀ {l:List Int},PCall prog 217 [.agg (bW f hd),au l] (B (gZ f.al l)):=fun {l}=>vE ht dP;refine bg ahL (.cons (.agg (wW ht f)) (.cons (.agg (sc x)) .nil)) (Tr.s _) ?_;rw[ahM];refine az ?_;refine aq ?_;refine af (aW (bG [(0,bW f hd,208),(1,bu x,66)] eH (l:=[(2,.pt (bW f hd)),(3,.pt (bu x))]) eH) (aB (aj ?_)));refine ag ?_;refine af (oI ?_);refine eI (fun s=>Ghost prog s ⟨aD [(2,.pt (bW f hd)),(3,.pt (bu x)),(6,U8 x.op),(7,B (aU [30,31,32,33,34] x.op))],fun _=>none,2⟩) (aj ?_) fun s hg=>⟨_,hg,?_⟩
 .refine ag ?_;refine af (aw rfl (fun h=>bd (ap ⟨rfl,rfl,rfl,dc h oC,trivial⟩)) fun C=>aj ?_);refine ag ?_;refine af (aw rfl (fun h=>bd (ap ⟨rfl,rfl,rfl,dc h oC,trivial⟩)) fun J=>aj ?_);refine ag ?_;refine af (aw rfl (fun h=>bd (ap ⟨rfl,rfl,rfl,dc h oC,trivial⟩)) fun M=>aj ?_);refine ag ?_;refine af (aw rfl (fun h=>bd (ap ⟨rfl,rfl,rfl,dc h oC,trivial⟩)) fun X=>lx ?_);refine ag ?_;refine af (ap ⟨rfl,rfl,rfl,?_,trivial⟩);show D.s (.bool (x.op==34))=_;simp only[aU,List.any_cons,List.any_nil,C,J,M,X,Bool.false_or,Bool.or_false]
 refine aw rfl (fun h0=>aj ?_) fun h0=>aj ?_
 .have cw:PCall prog 214 [.agg (bu x),S ⟨#[116,97,98]⟩] (B (bV x [116,97,98])):=cw oC;refine SS ?_;refine cl cw ?_;refine aP ?_;refine gc bT ?_;refine aO ?_;refine gc bT ?_;refine aO ?_;refine gc bT ?_;refine ag ?_;refine af (aY (bO (aR (av (d:=.s (.bool _)) rfl ?_))));have e:lI f x=(bV x [116,97,98]&&(bp f x.to 119&&(bp f x.a 119&&bp f x.b 119))):=by rw[lI,if_pos h0]
  rw[e];simp only[iw,Bool.and_assoc,aX]
 refine ag ?_;refine af (aw rfl (fun h1=>aj ?_) fun h1=>aj ?_)
 .have cw:PCall prog 214 [.agg (bu x),S ⟨#[97,98]⟩] (B (bV x [97,98])):=cw oC;refine SS ?_;refine cl cw ?_;refine aP ?_;refine gc bT ?_;refine aO ?_;refine gc bT ?_;refine ag ?_;refine af (aY (bO (aR (av (d:=.s (.bool _)) rfl ?_))));have e:lI f x=(bV x [97,98]&&(bp f x.a 114&&bp f x.b 118)):=by rw[lI,if_neg (by rw[h0];decide),if_pos (by simpa using h1)]
  rw[e];simp only[iw,Bool.and_assoc,aX]
 have h1:¬ x.op=35:=by simpa using h1
 refine ag ?_;refine af (aw rfl (fun h2=>aj ?_) fun h2=>aj ?_)
 .have cw:PCall prog 214 [.agg (bu x),S ⟨#[116,97]⟩] (B (bV x [116,97])):=cw oC;refine SS ?_;refine cl cw ?_;refine aP ?_;refine gc bT ?_;refine aO ?_;refine gc bT ?_;refine ag ?_;refine af (aY (bO (aR (av (d:=.s (.bool _)) rfl ?_))));have e:lI f x=(bV x [116,97]&&(bp f x.to 118&&bp f x.a 114)):=by rw[lI,if_neg (by rw[h0];decide),if_neg h1,if_pos (by simpa using h2)]
  rw[e];simp only[iw,Bool.and_assoc,aX]
 have h2:¬ x.op=36:=by simpa using h2
 refine ag ?_;refine af (aw rfl (fun h3=>aj ?_) fun h3=>aj ?_)
 .have cw:PCall prog 214 [.agg (bu x),S ⟨#[116,97,98]⟩] (B (bV x [116,97,98])):=cw oC;refine SS ?_;refine cl cw ?_;refine aP ?_;refine gc bT ?_;refine aO ?_;refine gc bT ?_;refine aO ?_;refine gc bT ?_;refine ag ?_;refine af (aY (bO (aR (av (d:=.s (.bool _)) rfl ?_))));have e:lI f x=(bV x [116,97,98]&&(bp f x.to 118&&(bp f x.a 114&&bp f x.b 119))):=by rw[lI,if_neg (by rw[h0];decide),if_neg h1,if_neg h2,if_pos (by simpa using h3)]
  rw[e];simp only[iw,Bool.and_assoc,aX]
 have h3:¬ x.op=37:=by simpa using h3
 refine ag ?_;refine af (aw rfl (fun h4=>aj ?_) fun h4=>nL (aj ?_))
 .have cw:PCall prog 214 [.agg (bu x),S ⟨#[97,98,108]⟩] (B (bV x [97,98,108])):=cw oC;refine SS ?_;refine cl cw ?_;refine aP ?_;refine gc bT ?_;refine aO ?_;refine gc bT ?_;refine aJ ?_;refine ag ?_;refine gc vE ?_;refine ag ?_;refine af (aY (bO (aR (av (d:=.s (.bool _)) rfl ?_))));have e:lI f x=(bV x [97,98,108]&&(bp f x.a 114&&(bp f x.b 119&&(aX x.args.length 1&&gZ f.al x.args)))):=by rw[lI,if_neg (by rw[h0];decide),if_neg h1,if_neg h2,if_neg h3,if_pos (by simpa using h4)]
  rw[e];simp only[iw,Bool.and_assoc,aX];rfl
 have h4:¬ x.op=38:=by simpa using h4
 refine SS ?_;refine af (av (d:=.s (.bool _)) rfl ?_);rw[lI,if_neg (by rw[h0];decide),if_neg h1,if_neg h2,if_neg h3,if_neg h4]
end
theorem ug{f:aG}{L:List (List Int)}{b:Nat}{A:List Int}{x:bC}(hb:L[b]? =some A)(hl:f.aZ.length<=60)(hs:∀ k∈f.aZ,k=1\/k=2)(hL:L.length<=100000):
 PCall prog 171 [.agg (bW f (bx L)),.agg (bu x),I b] (B (eD f b A.length x)):=by
 have ht:=yz L;have dP:(bx L).one=true:=rfl;have bT:∀ {r k:Int},PCall prog 215 [.agg (bW f (bx L)),I r,U8 k] (B (bp f r k)):=fun {r k}=>bT ht dP;have AR:∀ {a b:Int},PCall prog 216 [.agg (bW f (bx L)),I a,I b] (B (kM f a b)):=fun {a b}=>AR ht dP;have vE:∀ {l:List Int},PCall prog 217 [.agg (bW f (bx L)),au l] (B (gZ f.al l)):=fun {l}=>vE ht dP;have Iw:∀ {n r:Int},PCall prog 218 [.agg (bW f (bx L)),I n,I r] (B (mW f.al f.aZ r n)):=fun {n r}=>Iw ht dP hl hs;have ic:∀ {n a b:Int},PCall prog 212 [I n,I a,I b] (B (dg n a b)):=fun {n a b}=>ic;have a7:∀ a∈[D.agg (bW f (bx L)),.agg (bu x),I b],Tr a:=.cons (.agg (wW ht f)) (.cons (.agg (sc x)) (.cons (.s _) .nil));refine mJ VE.he a7 fun fq=>?_;have hlen:x.args.length<=maxLen:=((fq _ (List.mem_cons_of_mem _ (List.mem_cons_self ..))).agg (au x.args) (by simp[bu])).sl.1;unfold maxLen at hlen;refine bg VE a7 (Tr.s _) ?_;rw[ahN];refine az ?_;refine aq ?_;refine af (aW (bG [(0,bW f (bx L),208),(1,bu x,66)] eH (l:=[(2,I b),(3,.pt (bW f (bx L))),(4,.pt (bu x))]) eH) (aB (aj ?_)));refine ag ?_;refine af (oI ?_);refine ws ?_;refine ag ?_;refine af (aw rfl (fun h0=>?_) fun h0=>?_)
 .refine ws ?_;have cw:PCall prog 214 [.agg (bu x),S ⟨#[116,110]⟩] (B (bV x [116,110])):=cw oC;refine SS ?_;refine cl cw ?_;refine aP ?_;refine gc bT ?_;refine aP ?_;refine gc ic ?_;refine ag ?_;refine af (aY (bO (aR (av (d:=.s (.bool _)) rfl ?_))));have e:eD f b A.length x=(bV x [116,110]&&(bp f x.to 119&&dg x.n (-1000000000) 1000000000)):=by rw[eD,if_pos (by simpa using h0)]
  rw[e];simp only[iw,Bool.and_assoc,aX]
 have h0:¬ x.op=1:=by simpa using h0
 refine ws ?_;refine ag ?_;refine af (aw rfl (fun h1=>?_) fun h1=>?_)
 .refine ws ?_;have cw:PCall prog 214 [.agg (bu x),S ⟨#[116,97]⟩] (B (bV x [116,97])):=cw oC;refine SS ?_;refine cl cw ?_;refine bB ?_;refine gc AR ?_;refine ag ?_;refine af (aY (bO (aR (av (d:=.s (.bool _)) rfl ?_))));have e:eD f b A.length x=(bV x [116,97]&&kM f x.to x.a):=by rw[eD,if_neg h0,if_pos (by simpa using h1)]
  rw[e];simp only[iw,Bool.and_assoc,aX]
 have h1:¬ x.op=2:=by simpa using h1
 refine eI (fun s=>Ghost prog s ⟨aD [(2,I b),(3,.pt (bW f (bx L))),(4,.pt (bu x)),(9,U8 x.op),(37,B (aU [3,4,6,7] x.op))],fun _=>none,2⟩) (aj ?_) fun s hg=>⟨_,hg,?_⟩
 .refine ag ?_;refine af (aw rfl (fun h=>bd (ap ⟨rfl,rfl,rfl,rfl,dc h oC,trivial⟩)) fun e3=>aj ?_);refine ag ?_;refine af (aw rfl (fun h=>bd (ap ⟨rfl,rfl,rfl,rfl,dc h oC,trivial⟩)) fun e4=>aj ?_);refine ag ?_;refine af (aw rfl (fun h=>bd (ap ⟨rfl,rfl,rfl,rfl,dc h oC,trivial⟩)) fun e6=>lx ?_);refine ag ?_;refine af (ap ⟨rfl,rfl,rfl,rfl,?_,trivial⟩);show D.s (.bool (x.op==7))=_;simp only[aU,List.any_cons,List.any_nil,e3,e4,e6,Bool.false_or,Bool.or_false]
 refine aw rfl (fun h2=>aj ?_) fun h2=>?_
 .have cw:PCall prog 214 [.agg (bu x),S ⟨#[116,97,98]⟩] (B (bV x [116,97,98])):=cw oC;refine SS ?_;refine cl cw ?_;refine aP ?_;refine gc bT ?_;refine aO ?_;refine gc bT ?_;refine aO ?_;refine gc bT ?_;refine ag ?_;refine af (aY (bO (aR (av (d:=.s (.bool _)) rfl ?_))));have e:eD f b A.length x=(bV x [116,97,98]&&(bp f x.to 119&&(bp f x.a 119&&bp f x.b 119))):=by rw[eD,if_neg h0,if_neg h1,if_pos h2]
  rw[e];simp only[iw,Bool.and_assoc,aX]
 refine ws ?_;refine ag ?_;refine af (aw rfl (fun h3=>?_) fun h3=>?_)
 .refine ws ?_;have cw:PCall prog 214 [.agg (bu x),S ⟨#[116,97,98]⟩] (B (bV x [116,97,98])):=cw oC;refine SS ?_;refine cl cw ?_;refine aP ?_;refine gc bT ?_;refine dA ?_;refine gc AR ?_;refine ag ?_;refine af (aY (bO (aR (av (d:=.s (.bool _)) rfl ?_))));have e:eD f b A.length x=(bV x [116,97,98]&&(bp f x.to 119&&kM f x.a x.b)):=by rw[eD,if_neg h0,if_neg h1,if_neg (by rw[h2];decide),if_pos (by simpa using h3)]
  rw[e];simp only[iw,Bool.and_assoc,aX]
 have h3:¬ x.op=5:=by simpa using h3
 refine ws ?_;refine ag ?_;refine af (aw rfl (fun h4=>?_) fun h4=>?_)
 .refine ws ?_;have cw:PCall prog 214 [.agg (bu x),S ⟨#[116,97]⟩] (B (bV x [116,97])):=cw oC;refine SS ?_;refine cl cw ?_;refine aP ?_;refine gc bT ?_;refine aO ?_;refine gc bT ?_;refine ag ?_;refine af (aY (bO (aR (av (d:=.s (.bool _)) rfl ?_))));have e:eD f b A.length x=(bV x [116,97]&&(bp f x.to 119&&bp f x.a 119)):=by rw[eD,if_neg h0,if_neg h1,if_neg (by rw[h2];decide),if_neg h3,if_pos (by simpa using h4)]
  rw[e];simp only[iw,Bool.and_assoc,aX]
 have h4:¬ x.op=8:=by simpa using h4
 refine ws ?_;refine ag ?_;refine af (aw rfl (fun h5=>?_) fun h5=>?_)
 .refine ws ?_;have cw:PCall prog 214 [.agg (bu x),S ⟨#[116,110]⟩] (B (bV x [116,110])):=cw oC;refine SS ?_;refine cl cw ?_;refine aP ?_;refine gc bT ?_;refine aP ?_;refine gc ic ?_;refine ag ?_;refine af (aY (bO (aR (av (d:=.s (.bool _)) rfl ?_))));have e:eD f b A.length x=(bV x [116,110]&&(bp f x.to 114&&dg x.n 0 1)):=by rw[eD,if_neg h0,if_neg h1,if_neg (by rw[h2];decide),if_neg h3,if_neg h4,if_pos (by simpa using h5)]
  rw[e];simp only[iw,Bool.and_assoc,aX]
 have h5:¬ x.op=9:=by simpa using h5
 refine ws ?_;refine ag ?_;refine af (aw rfl (fun C=>?_) fun C=>?_)
 .refine ws ?_;have cw:PCall prog 214 [.agg (bu x),S ⟨#[116,110,108]⟩] (B (bV x [116,110,108])):=cw oC;refine SS ?_;refine cl cw ?_;refine aP ?_;refine gc bT ?_;refine aP ?_;refine gc ic ?_;refine aO ?_;refine gc ic ?_;refine aO ?_;refine gc vE ?_;refine ag ?_;refine af (aY (bO (aR (av (d:=.s (.bool _)) rfl ?_))));have e:eD f b A.length x=(bV x [116,110,108]&&(bp f x.to 114&&(dg x.n 0 5&&(dg x.args.length 1 6&&gZ f.al x.args)))):=by rw[eD,if_neg h0,if_neg h1,if_neg (by rw[h2];decide),if_neg h3,if_neg h4,if_neg h5,if_pos (by simpa using C)]
  rw[e];simp only[iw,Bool.and_assoc,aX]
 have C:¬ x.op=10:=by simpa using C
 refine ws ?_;refine ag ?_;refine af (aw rfl (fun J=>?_) fun J=>?_)
 .refine ws ?_;have cw:PCall prog 214 [.agg (bu x),S ⟨#[116,97,110]⟩] (B (bV x [116,97,110])):=cw oC;refine SS ?_;refine cl cw ?_;refine aP ?_;refine gc bT ?_;refine aO ?_;refine gc bT ?_;refine aP ?_;refine gc ic ?_;refine ag ?_;refine af (aY (bO (aR (av (d:=.s (.bool _)) rfl ?_))));have e:eD f b A.length x=(bV x [116,97,110]&&(bp f x.to 118&&(bp f x.a 114&&dg x.n 0 5))):=by rw[eD,if_neg h0,if_neg h1,if_neg (by rw[h2];decide),if_neg h3,if_neg h4,if_neg h5,if_neg C,if_pos (by simpa using J)]
  rw[e];simp only[iw,Bool.and_assoc,aX]
 have J:¬ x.op=11:=by simpa using J
 refine ws ?_;refine ag ?_;refine af (aw rfl (fun h8=>?_) fun h8=>?_)
 .refine ws ?_;have cw:PCall prog 214 [.agg (bu x),S ⟨#[97,98,110]⟩] (B (bV x [97,98,110])):=cw oC;refine SS ?_;refine cl cw ?_;refine aP ?_;refine gc bT ?_;refine aO ?_;refine gc bT ?_;refine aP ?_;refine gc ic ?_;refine ag ?_;refine af (aY (bO (aR (av (d:=.s (.bool _)) rfl ?_))));have e:eD f b A.length x=(bV x [97,98,110]&&(bp f x.a 114&&(bp f x.b 118&&dg x.n 0 5))):=by rw[eD,if_neg h0,if_neg h1,if_neg (by rw[h2];decide),if_neg h3,if_neg h4,if_neg h5,if_neg C,if_neg J,if_pos (by simpa using h8)]
  rw[e];simp only[iw,Bool.and_assoc,aX]
 have h8:¬ x.op=12:=by simpa using h8
 refine eI (fun s=>Ghost prog s ⟨aD [(2,I b),(3,.pt (bW f (bx L))),(4,.pt (bu x)),(9,U8 x.op),(180,B (aU [13,14] x.op))],fun _=>none,2⟩) (aj ?_) fun s hg=>⟨_,hg,?_⟩
 .refine ag ?_;refine af (aw rfl (fun h=>bd (ap ⟨rfl,rfl,rfl,rfl,dc h oC,trivial⟩)) fun yh=>lx ?_);refine ag ?_;refine af (ap ⟨rfl,rfl,rfl,rfl,?_,trivial⟩);show D.s (.bool (x.op==14))=_;simp only[aU,List.any_cons,List.any_nil,yh,Bool.false_or,Bool.or_false]
 refine aw rfl (fun h9=>aj ?_) fun h9=>?_
 .have cw:PCall prog 214 [.agg (bu x),S ⟨#[116,97]⟩] (B (bV x [116,97])):=cw oC;refine SS ?_;refine cl cw ?_;refine aP ?_;refine gc bT ?_;refine aO ?_;refine gc bT ?_;refine ag ?_;refine af (aY (bO (aR (av (d:=.s (.bool _)) rfl ?_))));have e:eD f b A.length x=(bV x [116,97]&&(bp f x.to 119&&bp f x.a 114)):=by rw[eD,if_neg h0,if_neg h1,if_neg (by rw[h2];decide),if_neg h3,if_neg h4,if_neg h5,if_neg C,if_neg J,if_neg h8,if_pos h9]
  rw[e];simp only[iw,Bool.and_assoc,aX]
 refine ws ?_;refine ag ?_;refine af (aw rfl (fun M=>?_) fun M=>?_)
 .refine ws ?_;have cw:PCall prog 214 [.agg (bu x),S ⟨#[97]⟩] (B (bV x [97])):=cw oC;refine SS ?_;refine cl cw ?_;refine aP ?_;refine gc bT ?_;refine ag ?_;refine af (aY (bO (aR (av (d:=.s (.bool _)) rfl ?_))));have e:eD f b A.length x=(bV x [97]&&bp f x.a 119):=by rw[eD,if_neg h0,if_neg h1,if_neg (by rw[h2];decide),if_neg h3,if_neg h4,if_neg h5,if_neg C,if_neg J,if_neg h8,if_neg (by rw[h9];decide),if_pos (by simpa using M)]
  rw[e];simp only[iw,Bool.and_assoc,aX]
 have M:¬ x.op=15:=by simpa using M
 refine ws ?_;refine ag ?_;refine af (aw rfl (fun la=>?_) fun la=>?_)
 .refine ws ?_;have cw:PCall prog 214 [.agg (bu x),S ⟨#[97]⟩] (B (bV x [97])):=cw oC;refine SS ?_;refine cl cw ?_;refine aP ?_;refine gc bT ?_;refine ag ?_;refine af (aY (bO (aR (av (d:=.s (.bool _)) rfl ?_))));have e:eD f b A.length x=(bV x [97]&&bp f x.a 105):=by rw[eD,if_neg h0,if_neg h1,if_neg (by rw[h2];decide),if_neg h3,if_neg h4,if_neg h5,if_neg C,if_neg J,if_neg h8,if_neg (by rw[h9];decide),if_neg M,if_pos (by simpa using la)]
  rw[e];simp only[iw,Bool.and_assoc,aX]
 have la:¬ x.op=16:=by simpa using la
 refine ws ?_;refine ag ?_;refine af (aw rfl (fun X=>?_) fun X=>?_)
 .refine ws ?_;have cw:PCall prog 214 [.agg (bu x),S ⟨#[116,110]⟩] (B (bV x [116,110])):=cw oC;refine SS ?_;refine cl cw ?_;refine bB ?_;refine gc Iw ?_;refine ag ?_;refine af (aY (bO (aR (av (d:=.s (.bool _)) rfl ?_))));have e:eD f b A.length x=(bV x [116,110]&&mW f.al f.aZ x.to x.n):=by rw[eD,if_neg h0,if_neg h1,if_neg (by rw[h2];decide),if_neg h3,if_neg h4,if_neg h5,if_neg C,if_neg J,if_neg h8,if_neg (by rw[h9];decide),if_neg M,if_neg la,if_pos (by simpa using X)]
  rw[e];simp only[iw,Bool.and_assoc,aX]
 have X:¬ x.op=17:=by simpa using X
 refine ws ?_;refine ag ?_;refine af (aw rfl (fun yq=>?_) fun yq=>?_)
 .refine ws ?_;have cw:PCall prog 214 [.agg (bu x),S ⟨#[97,110]⟩] (B (bV x [97,110])):=cw oC;refine SS ?_;refine cl cw ?_;refine bB ?_;refine gc Iw ?_;refine ag ?_;refine af (aY (bO (aR (av (d:=.s (.bool _)) rfl ?_))));have e:eD f b A.length x=(bV x [97,110]&&mW f.al f.aZ x.a x.n):=by rw[eD,if_neg h0,if_neg h1,if_neg (by rw[h2];decide),if_neg h3,if_neg h4,if_neg h5,if_neg C,if_neg J,if_neg h8,if_neg (by rw[h9];decide),if_neg M,if_neg la,if_neg X,if_pos (by simpa using yq)]
  rw[e];simp only[iw,Bool.and_assoc,aX]
 have yq:¬ x.op=18:=by simpa using yq
 refine ws ?_;refine ag ?_;refine af (aw rfl (fun Gf=>?_) fun Gf=>?_)
 .have cw:PCall prog 214 [.agg (bu x),S ⟨#[116,108]⟩] (B (bV x [116,108])):=cw oC;have hv:eD f b A.length x=(!aX b 0&&(bV x [116,108]&&(bp f x.to 118&&(aX x.args.length A.length&&x.args.all (kM f x.to))))):=by rw[eD,if_neg h0,if_neg h1,if_neg (by rw[h2];decide),if_neg h3,if_neg h4,if_neg h5,if_neg C,if_neg J,if_neg h8,if_neg (by rw[h9];decide),if_neg M,if_neg la,if_neg X,if_neg yq,if_pos (by simpa using Gf)]
  rw[hv];clear hv;have Mp:=cw;have Mq:= @bT x.to 118;have ahO:= @AR x.to;generalize bV x [116,108]=lv at Mp ⊢;generalize bp f x.to 118=iv at Mq ⊢;refine aB (dF Z9 ?_);have cw:=Mp;have bT:=Mq;by_cases dE:b=0
  .have dY:((b:Int)==0)=true:=by simp[dE]
   have e0:aX b 0=true:=by simp[aX,dE]
   rw[e0];refine aP ?_;refine gc cw ?_;refine bB ?_;refine gc bT ?_;refine aJ ?_;refine aO ?_;refine a8 bc (cx rfl (fun hp=>?_) fun hp=>(by cases hp));refine aB (aj ?_);refine SS ?_;refine af (bX (bO (aR (av (d:=B false) rfl ?_))));rfl
  have dY:((b:Int)==0)=false:=by simp[dE]
  have e0:aX b 0=false:=by simp[aX,dE]
  rw[e0];refine aP ?_;refine gc cw ?_;refine bB ?_;refine gc bT ?_;refine aJ ?_;refine aO ?_;refine a8 bc (cx rfl (fun hp=>?_) fun hp=>bP ?_)
  .refine aB (aj ?_);refine SS ?_;refine af (bX (bO (aR (av (d:=B false) rfl ?_))))
   have:(lv&&(iv&&aX x.args.length A.length))=false:=by
    revert hp;cases lv<;>cases iv<;>simp[aX]
   revert this;generalize x.args.all (kM f x.to)=q;generalize aX x.args.length A.length=r;cases lv<;>cases iv<;>cases r<;>simp
  have gW:lv=true/\iv=true/\aX x.args.length A.length=true:=by
   revert hp;cases lv<;>cases iv<;>simp[aX]
  obtain⟨rfl,rfl,e1⟩:=gW;rw[e1];show AW _ _ _ _ (blockQ _ (seqQ _ (retQ _ _ (fun d _=>d=B (x.args.all (kM f x.to)))))) _;clear Mp Mq cw bT hp e1 e0 dY;refine aB (az ?_);refine SS ?_
  refine af (bR (fun s=>Ghost prog s ⟨aD [],fun _=>none,2⟩/\∀ (j:Nat) y,x.args[j]? =some y->kM f x.to y=true) (cQ (α:=Nat) (fun k=>⟨aD [(3,.pt (bW f (bx L))),(4,.pt (bu x)),(7,I k)],fun _=>none,2⟩)
   (fun k=>k<=x.args.length/\∀ j y,j<k->x.args[j]? =some y->kM f x.to y=true) (fun k=>x.args.length - k) 0 (ap eH) ⟨oG,fun j y hj=>by omega⟩ ?_) ?_)
  .rintro k ⟨hk,hinv⟩;refine aO ?_;refine af ⟨_,rfl,fun h=>?_,fun h=>?_⟩
   .have ao:k<x.args.length:=by simpa using h
    have hx:x.args[k]? =some x.args[k]:=aN ao;generalize x.args[k]=y at hx;have AR:= @ahO y;refine dF Z' ?_;refine bK ?_;refine cl AR ?_;refine SS ?_;refine a8 bc (aw rfl (fun hp=>?_) fun hp=>?_)
    .refine ws ?_;refine SS ?_;refine af (aY (br (aR (bO (aR (av (d:=B false) rfl ?_))))));have:x.args.all (kM f x.to)=false:=List.all_eq_false.2 ⟨y,bU hx,by simpa using hp⟩;rw[this]
    .refine bS ?_;refine aq ?_;refine af (aK (k+1) (ap eH) ⟨oG,fun j z hj hz=>?_⟩ oG);by_cases e:j=k
     .subst e;rw[hx] at hz;cases hz;simpa using hp
     .exact hinv j z oG hz
   .have a9:¬ k<x.args.length:=by simpa using h
    exact⟨.forget _ _ _ _ fun _=>.inr rfl,fun j y hy=>hinv j y (by have:=(bw.1 hy).1;omega) hy⟩
  .rintro s ⟨hg,bD⟩;refine⟨_,hg,aj ?_⟩;refine SS ?_;refine af (aY (bO (aR (av (d:=B true) rfl ?_))))
   have:x.args.all (kM f x.to)=true:=bj.2 fun y hy=>by
    obtain⟨j,hj⟩:=cC hy;exact bD j y hj
   rw[this]
 have Gf:¬ x.op=19:=by simpa using Gf
 refine nL (aj ?_);refine SS ?_;refine af (av (d:=.s (.bool _)) rfl ?_);rw[eD,if_neg h0,if_neg h1,if_neg (by rw[h2];decide),if_neg h3,if_neg h4,if_neg h5,if_neg C,if_neg J,if_neg h8,if_neg (by rw[h9];decide),if_neg M,if_neg la,if_neg X,if_neg yq,if_neg Gf]
section
variable{f:aG}{hd:D}(ht:Tr hd)(dP:hd.one=true)
include ht dP
theorem Fj{x:Argus.End}(hw:∀ w∈x.aL,w.name.size<=maxLen)(hn:f.ab.length<=1200):PCall prog 221 [.agg (bW f hd),.agg (bh x)] (B (nG f x)):=by
 have iE:∀ {b:Int},PCall prog 170 [.agg (bW f hd),I b] (B (cu f b)):=fun {b}=>iE ht dP hn;have a7:∀ a∈[D.agg (bW f hd),.agg (bh x)],Tr a:=.cons (.agg (wW ht f)) (.cons (.agg (lT x)) .nil);refine bg ahP a7 (Tr.s _) ?_;rw[ahQ];refine az ?_;refine aq ?_;refine af (aW (bG [(0,bW f hd,208),(1,bh x,69)] eH (l:=[(2,.pt (bW f hd)),(3,.pt (bh x))]) eH) (aB (aj ?_)));have hh:nG f x=(HI f x.aL&&(decide ((x.aL.length:Int)<=7)&&(decide (x.cX= -1)||cu f x.cX))):=rfl;rw[hh];clear hh;generalize YB:cu f x.cX=bo;have X:PCall prog 170 [.agg (bW f hd),I x.cX] (B bo):=YB▸iE;clear YB;have M:= @iE;clear iE;have iE:=X;refine aJ ?_;refine aq ?_;refine gc iE ?_;refine aq ?_;refine af (cx rfl (fun h=>?_) fun h=>bP (aB (az ?_)))
 .refine aB (aj ?_);refine SS ?_;refine af (bX (av (d:=B false) rfl ?_))
  have h2:(decide ((x.aL.length:Int)<=7)&&(decide (x.cX= -1)||bo))=false:=by
   revert h;cases bo<;>simp<;>grind
  rw[h2,Bool.and_false]
 have h2:(decide ((x.aL.length:Int)<=7)&&(decide (x.cX= -1)||bo))=true:=by
  revert h;cases bo<;>simp<;>grind
 have h7:x.aL.length<=7:=by
  rw[aM,decide_eq_true_eq] at h2;omega
 rw[h2,Bool.and_true];clear h h2 iE X;refine SS ?_
 refine af (bR (fun s=>Ghost prog s ⟨aD [],fun _=>none,2⟩/\∀ (j:Nat) y,x.aL[j]? =some y->qc f x.aL j y=true) (cQ (α:=Nat) (fun k=>⟨aD [(2,.pt (bW f hd)),(3,.pt (bh x)),(5,I k)],fun _=>none,2⟩)
  (fun k=>k<=x.aL.length/\∀ j y,j<k->x.aL[j]? =some y->qc f x.aL j y=true) (fun k=>x.aL.length - k) 0 (ap eH) ⟨oG,fun j y hj=>by omega⟩ ?_) ?_)
 .rintro k ⟨hk,hinv⟩;refine aO ?_;refine af ⟨_,rfl,fun h=>?_,fun h=>?_⟩
  .have ao:k<x.aL.length:=by simpa using h
   have hx:x.aL[k]? =some x.aL[k]:=aN ao;have pb:=pb (hw _ (cy ao));generalize x.aL[k]=w at hx pb;have J:qc f x.aL k w=(isName w.name&&(cu f w.to&& !(x.aL.take k).any fun v=>v.name.toList==w.name.toList)):=rfl;have iE:= @M w.to;generalize isName w.name=a at pb J;generalize cu f w.to=b at iE J;refine aB (dF abn ?_);refine bB ?_;refine cl pb ?_;refine bB ?_;refine bt rfl rfl (yJ rfl rfl V.h V.h (DA) oN) (fun hc=>⟨ak,(yK V.h (DA) oN)⟩) ?_;refine ag ?_;refine gc iE ?_;refine ag ?_;refine a8 bc (cx rfl (fun hp=>?_) fun hp=>bP (az ?_))
   .refine aB (aj ?_);refine SS ?_;refine af (bX (br (aR (av (d:=B false) rfl ?_))))
    have:qc f x.aL k w=false:=by
     rw[J];revert hp;cases a<;>cases b<;>simp
    rw[Jx hx this]
   have dt:a=true/\b=true:=by revert hp;cases a<;>cases b<;>simp
   obtain⟨rfl,rfl⟩:=dt;refine SS ?_
   refine af (cQ (α:=Nat) (fun q=>⟨aD [(2,.pt (bW f hd)),(3,.pt (bh x)),(5,I k),(6,I q)],fun _=>none,2⟩)
    (fun q=>q<=k/\∀ j y,j<q->x.aL[j]? =some y->(y.name.toList==w.name.toList)=false) (fun q=>k - q) 0 (ap eH) ⟨oG,fun j y hj=>by omega⟩ ?_)
   rintro q ⟨hq,nq⟩;refine aq ?_;refine af ⟨_,rfl,fun h=>?_,fun h=>?_⟩
   .have Bi:q<k:=by simpa using h
    have hy:x.aL[q]? =some x.aL[q]:=aN oG;generalize x.aL[q]=y at hy;refine dF aaa ?_;refine aJ ?_;refine aq ?_;refine aI (Lg rfl rfl) ak trivial ?_;refine a8 bc (aw rfl (fun hp=>?_) fun hp=>?_)
    .refine ws ?_;refine SS ?_;refine af (aY (br (br (aR (av (d:=B false) rfl ?_)))))
     have:qc f x.aL k w=false:=by
      rw[J,List.any_eq_true.2 ⟨y,bU (i:=q) (by rw[List.getElem?_take,if_pos Bi,hy]),hp⟩];rfl
     rw[Jx hx this]
    .refine bS ?_;refine aq ?_;refine af (aK (q+1) (ap eH) ⟨oG,fun j z hj C=>?_⟩ oG);by_cases e:j=q
     .subst e;rw[hy] at C;cases C;exact hp
     .exact nq j z oG C
   .have a9:¬ q<k:=by simpa using h
    have:q=k:=by omega
    subst this;show AOps _ _ _ _ _ _ _ _ _;refine aq ?_;refine af (aK (q+1) (ap eH) ⟨oG,fun j z hj C=>?_⟩ oG);by_cases e:j=q
    .subst e;rw[hx] at C;cases C;rw[J]
     have:((x.aL.take j).any fun v=>v.name.toList==w.name.toList)=false:=List.any_eq_false.2 fun v hv=>by
      obtain⟨i,hi⟩:=cC hv;have mv:i<j:=by have:=(bw.1 hi).1;simp at this;omega
      rw[List.getElem?_take,if_pos mv] at hi;rw[nq i v mv hi];simp
     rw[this];rfl
    .exact hinv j z oG C
  .have a9:¬ k<x.aL.length:=by simpa using h
   exact⟨.forget _ _ _ _ fun _=>.inr rfl,fun j y hy=>hinv j y (by have:=(bw.1 hy).1;omega) hy⟩
 .rintro s ⟨hg,bD⟩;refine⟨_,hg,aj ?_⟩;refine SS ?_;refine af (av (d:=B true) rfl ?_);rw[Pu bD]
theorem Iz{x:Argus.End}(Ds:x.name.size<=maxLen)(hw:∀ w∈x.aL,w.name.size<=maxLen)(hn:f.ab.length<=1200):PCall prog 172 [.agg (bW f hd),.agg (bh x)] (B (ig f x)):=by
 have iE:∀ {b:Int},PCall prog 170 [.agg (bW f hd),I b] (B (cu f b)):=fun {b}=>iE ht dP hn;have bT:∀ {r k:Int},PCall prog 215 [.agg (bW f hd),I r,U8 k] (B (bp f r k)):=fun {r k}=>bT ht dP;have vE:∀ {l:List Int},PCall prog 217 [.agg (bW f hd),au l] (B (gZ f.al l)):=fun {l}=>vE ht dP;have Nf:PCall prog 220 [.agg (bW f hd),.agg (bu x.ins)] (B (lI f x.ins)):=Nf ht dP;have Fj:=Fj ht dP hw hn;have AQ:=AQ Ds;have pb:=pb Ds;have a7:∀ a∈[D.agg (bW f hd),.agg (bh x)],Tr a:=.cons (.agg (wW ht f)) (.cons (.agg (lT x)) .nil);refine bg ahS a7 (Tr.s _) ?_;rw[ahT];refine ws ?_;refine aq ?_;refine af (az ?_);refine aq ?_;refine cA (jk (cs':=aH _) rfl rfl rfl rfl) ak (du V.h V.h (by first|(simp;done)|exact⟨rfl,bE rfl⟩|(simp;omega)) (by rfl)) ?_;refine af (aW (bG [(0,bW f hd,208),(1,bh x,69),(2,aH f,26)] eH (l:=[(2,.pt (bW f hd)),(3,.pt (bh x)),(5,.pt (aH f))]) eH) (aB (aj ?_)));refine ag ?_;refine af (oI ?_);refine ws ?_;refine ag ?_;refine af (aw rfl (fun h1=>?_) fun h1=>?_)
 .have h1:x.kind=1:=by simpa using h1
  have fu:PCall prog 219 [.agg (bh x),S ⟨#[116]⟩] (B (ei x [116])):=fu oC;refine ws ?_;refine SS ?_;refine cl fu ?_;refine aP ?_;refine gc iE ?_;refine ag ?_;refine af (aY (bO (aR (av (d:=.s (.bool _)) rfl ?_))));have e:ig f x=(ei x [116]&&cu f x.to):=by rw[ig,if_pos h1]
  rw[e];simp only[iw,Aq,Bool.and_assoc,aX,ib]
 have h1:¬ x.kind=1:=by simpa using h1
 refine ws ?_;refine ag ?_;refine af (aw rfl (fun h2=>?_) fun h2=>?_)
 .have h2:x.kind=2:=by simpa using h2
  have fu:PCall prog 219 [.agg (bh x),S ⟨#[97,116,101]⟩] (B (ei x [97,116,101])):=fu oC;refine ws ?_;refine SS ?_;refine cl fu ?_;refine aP ?_;refine gc bT ?_;refine aO ?_;refine gc iE ?_;refine aO ?_;refine gc iE ?_;refine ag ?_;refine af (aY (bO (aR (av (d:=.s (.bool _)) rfl ?_))));have e:ig f x=(ei x [97,116,101]&&(bp f x.a 119&&(cu f x.to&&cu f x.gF))):=by rw[ig,if_neg h1,if_pos h2]
  rw[e];simp only[iw,Aq,Bool.and_assoc,aX,ib]
 have h2:¬ x.kind=2:=by simpa using h2
 refine ws ?_;refine ag ?_;refine af (aw rfl (fun h3=>?_) fun h3=>?_)
 .have h3:x.kind=3:=by simpa using h3
  have fu:PCall prog 219 [.agg (bh x),S ⟨#[97]⟩] (B (ei x [97])):=fu oC;have hv:ig f x=if f.iter=true\/f.result=0 then ei x [97]&&aX x.a (-1) else ei x [97]&&(bp f x.a 118&&aX (cG f.al x.a) f.result):=by rw[ig,if_neg h1,if_neg h2,if_pos h3]
  rw[hv];clear hv;refine aB (aj ?_);refine dA ?_;refine af (cx rfl (fun h=>?_) fun h=>bP ?_)
  .have qu:f.iter=true\/f.result=0:=by revert h;cases f.iter<;>simp
   rw[if_pos qu];refine aB (aj ?_);refine SS ?_;refine cl fu ?_;refine bB ?_;refine af (bX (bO (aR (av (d:=.s (.bool _)) rfl ?_))));simp only[iw,aX,ib]
  .have qu:¬ (f.iter=true\/f.result=0):=by revert h;cases f.iter<;>simp
   rw[if_neg qu];clear qu h;obtain⟨xk,X,xb,xt,xe,xn,xi,xs,xw,xo⟩:=x;dsimp only at*
   refine dF aab ?_;generalize ei _ [97]=bv at fu;cases bv with
   |false=>
    refine SS ?_;refine cl fu ?_;refine SS ?_;(iterate 4 refine z fun _ _=>?_);refine ag ?_;(iterate 9 refine z fun _ _=>?_);refine ag ?_;exact a8 bc (aY (bO (aR (av rfl rfl))))
   |true=>
    have M:= @bT X 118;cases hv:bp f X 118 with
    |false=>
     rw[hv] at M;have bT:=M;refine SS ?_;refine cl fu ?_;refine aP ?_;refine gc bT ?_;refine ag ?_;(iterate 9 refine z fun _ _=>?_);refine ag ?_;exact a8 bc (aY (bO (aR (av rfl rfl))))
    |true=>
     rw[hv] at M;have bT:=M;obtain⟨i,hi,rfl⟩:=lR (pL hv);have hx:f.al[i]? =some f.al[i]:=aN hi;have Gb:=uP hx;rw[Gb];generalize f.al[i]=y at hx;refine SS ?_;refine cl fu ?_;refine aP ?_;refine gc bT ?_;refine aJ ?_;refine aP ?_;refine a8 bc (aY (bO (aR (av (d:=.s (.bool _)) rfl ?_))));rfl
 have h3:¬ x.kind=3:=by simpa using h3
 refine ws ?_;refine ag ?_;refine af (aw rfl (fun h4=>?_) fun h4=>?_)
 .have h4:x.kind=4:=by simpa using h4
  have fu:PCall prog 219 [.agg (bh x),S ⟨#[110]⟩] (B (ei x [110])):=fu oC;refine ws ?_;refine SS ?_;refine cl fu ?_;refine aq ?_;refine gc pb ?_;refine ag ?_;refine af (aY (bO (aR (av (d:=.s (.bool _)) rfl ?_))));have e:ig f x=(ei x [110]&&isName x.name):=by rw[ig,if_neg h1,if_neg h2,if_neg h3,if_pos h4]
  rw[e];simp only[iw,Aq,Bool.and_assoc,aX,ib]
 have h4:¬ x.kind=4:=by simpa using h4
 refine ws ?_;refine ag ?_;refine af (aw rfl (fun h5=>?_) fun h5=>?_)
 .have h5:x.kind=5:=by simpa using h5
  have fu:PCall prog 219 [.agg (bh x),S ⟨#[116,105,104]⟩] (B (ei x [116,105,104])):=fu oC;refine ws ?_;refine SS ?_;refine cl fu ?_;refine aP ?_;refine gc Nf ?_;refine aO ?_;refine gc iE ?_;refine aP ?_;refine gc Fj ?_;refine ag ?_;refine af (aY (bO (aR (av (d:=.s (.bool _)) rfl ?_))));have e:ig f x=(ei x [116,105,104]&&(lI f x.ins&&(cu f x.to&&nG f x))):=by rw[ig,if_neg h1,if_neg h2,if_neg h3,if_neg h4,if_pos h5]
  rw[e];simp only[iw,Aq,Bool.and_assoc,aX,ib]
 have h5:¬ x.kind=5:=by simpa using h5
 refine ws ?_;refine ag ?_;refine af (aw rfl (fun C=>?_) fun C=>?_)
 .have C:x.kind=6:=by simpa using C
  have fu:PCall prog 219 [.agg (bh x),S ⟨#[97,116,110,108,104]⟩] (B (ei x [97,116,110,108,104])):=fu oC;refine ws ?_;refine SS ?_;refine cl fu ?_;refine aq ?_;refine gc AQ ?_;refine aJ ?_;refine ag ?_;refine gc vE ?_;refine aJ ?_;refine gc bT ?_;refine bB ?_;refine gc iE ?_;refine aP ?_;refine gc Fj ?_;refine ag ?_;refine af (aY (bO (aR (av (d:=.s (.bool _)) rfl ?_))));have e:ig f x=(ei x [97,116,110,108,104]&&(lZ x.name&&(decide ((x.args.length:Int)<=6)&&(gZ f.al x.args&&((aX x.a (-1)||bp f x.a 118)&&(cu f x.to&&nG f x)))))):=by rw[ig,if_neg h1,if_neg h2,if_neg h3,if_neg h4,if_neg h5,if_pos C]
  rw[e];simp only[iw,Aq,Bool.and_assoc,aX,ib]
 have C:¬ x.kind=6:=by simpa using C
 refine ws ?_;refine ag ?_;refine af (aw rfl (fun J=>?_) fun J=>?_)
 .have J:x.kind=7:=by simpa using J
  have fu:PCall prog 219 [.agg (bh x),S ⟨#[97,116,110,108]⟩] (B (ei x [97,116,110,108])):=fu oC;refine ws ?_;refine SS ?_;refine cl fu ?_;refine aq ?_;refine gc AQ ?_;refine aJ ?_;refine ag ?_;refine gc vE ?_;refine aO ?_;refine gc bT ?_;refine aO ?_;refine gc iE ?_;refine ag ?_;refine af (aY (bO (aR (av (d:=.s (.bool _)) rfl ?_))));have e:ig f x=(ei x [97,116,110,108]&&(lZ x.name&&(decide ((x.args.length:Int)<=6)&&(gZ f.al x.args&&(bp f x.a 105&&cu f x.to))))):=by rw[ig,if_neg h1,if_neg h2,if_neg h3,if_neg h4,if_neg h5,if_neg C,if_pos J]
  rw[e];simp only[iw,Aq,Bool.and_assoc,aX,ib]
 have J:¬ x.kind=7:=by simpa using J
 refine ws ?_;refine ag ?_;refine af (aw rfl (fun h8=>?_) fun h8=>?_)
 .have h8:x.kind=8:=by simpa using h8
  have fu:PCall prog 219 [.agg (bh x),S ⟨#[97,98,116,101,104]⟩] (B (ei x [97,98,116,101,104])):=fu oC;refine ws ?_;refine SS ?_;refine cl fu ?_;refine aP ?_;refine gc bT ?_;refine aO ?_;refine gc bT ?_;refine aO ?_;refine gc iE ?_;refine aO ?_;refine gc iE ?_;refine aP ?_;refine gc Fj ?_;refine ag ?_;refine af (aY (bO (aR (av (d:=.s (.bool _)) rfl ?_))));have e:ig f x=(ei x [97,98,116,101,104]&&(bp f x.a 105&&(bp f x.b 118&&(cu f x.to&&(cu f x.gF&&nG f x))))):=by rw[ig,if_neg h1,if_neg h2,if_neg h3,if_neg h4,if_neg h5,if_neg C,if_neg J,if_pos h8]
  rw[e];simp only[iw,Aq,Bool.and_assoc,aX,ib]
 have h8:¬ x.kind=8:=by simpa using h8
 refine ws ?_;refine ag ?_;refine af (aw rfl (fun h9=>?_) fun h9=>?_)
 .have h9:x.kind=9:=by simpa using h9
  have fu:PCall prog 219 [.agg (bh x),S ⟨#[97,116]⟩] (B (ei x [97,116])):=fu oC;have hv:ig f x=(ei x [97,116]&&(f.iter&&(bp f x.a 118&&(aX (cG f.al x.a) f.result&&cu f x.to)))):=by rw[ig,if_neg h1,if_neg h2,if_neg h3,if_neg h4,if_neg h5,if_neg C,if_neg J,if_neg h8,if_pos h9]
  rw[hv];clear hv;obtain⟨xk,X,xb,xt,xe,xn,xi,xs,xw,xo⟩:=x;dsimp only at*
  refine dF aac ?_;generalize ei _ [97,116]=bv at fu;have M:= @bT X 118;have kb:= @iE xt;generalize cu f xt=bb at kb;have iE:=kb;cases bv with
  |false=>
   refine SS ?_;refine cl fu ?_;refine SS ?_;(iterate 2 refine z fun _ _=>?_);refine ag ?_;(iterate 4 refine z fun _ _=>?_);refine ag ?_;(iterate 9 refine z fun _ _=>?_);refine ag ?_;(iterate 4 refine z fun _ _=>?_);refine ag ?_;exact a8 bc (aY (bO (aR (av rfl rfl))))
  |true=>
   obtain⟨fnm,fi,fa,fr,fg,fs,fz,fb⟩:=f;dsimp only at*
   cases fi with
   |false=>
    refine SS ?_;refine cl fu ?_;refine aO ?_;(iterate 4 refine z fun _ _=>?_);refine ag ?_;(iterate 9 refine z fun _ _=>?_);refine ag ?_;(iterate 4 refine z fun _ _=>?_);refine ag ?_;exact a8 bc (aY (bO (aR (av rfl rfl))))
   |true=>
    cases hv:bp ⟨fnm,true,fa,fr,fg,fs,fz,fb⟩ X 118 with
    |false=>
     rw[hv] at M;have bT:=M;refine SS ?_;refine cl fu ?_;refine bK ?_;refine gc bT ?_;refine ag ?_;(iterate 9 refine z fun _ _=>?_);refine ag ?_;(iterate 4 refine z fun _ _=>?_);refine ag ?_;exact a8 bc (aY (bO (aR (av rfl rfl))))
    |true=>
     rw[hv] at M;have bT:=M;obtain⟨i,hi,rfl⟩:=lR (pL hv);have hx:fg[i]? =some fg[i]:=aN hi;have Gb:=uP hx;rw[Gb];generalize fg[i]=y at hx;cases zY:decide (y=fr) with
     |false=>
      have dY:(y==fr)=false:=by simpa using zY
      refine SS ?_;refine cl fu ?_;refine bK ?_;refine gc bT ?_;refine aJ ?_;refine aP ?_;(iterate 4 refine z fun _ _=>?_);refine ag ?_;refine a8 bc (aY (bO (aR (av (d:=.s (.bool _)) rfl ?_))));simp[aX,zY]
     |true=>
      have dY:(y==fr)=true:=by simpa using zY
      refine SS ?_;refine cl fu ?_;refine bK ?_;refine gc bT ?_;refine aJ ?_;refine dA ?_;refine gc iE ?_;refine ag ?_;refine a8 bc (aY (bO (aR (av (d:=.s (.bool _)) rfl ?_))));simp[aX,zY]
 have h9:¬ x.kind=9:=by simpa using h9
 refine nL (aj ?_);refine SS ?_;refine af (av (d:=.s (.bool _)) rfl ?_);rw[ig,if_neg h1,if_neg h2,if_neg h3,if_neg h4,if_neg h5,if_neg C,if_neg J,if_neg h8,if_neg h9]
end
theorem lL{f:aG}{b:Nat}{x:Argus.b7}(hx:f.ab[b]? =some x)(hw:x.fin.aL.length<=100):PCall prog 76 [.agg (aH f),I b] (au (qX x.fin)):=by
 have sO:=sO (x:=x.fin) oG;have M:=DF x.fin;refine bg ak8 (.cons (.agg (iu f)) (.cons (.s _) .nil)) (cL _) ?_;rw[ak9];refine az (ag ?_);refine af (aW (bG [(0,aH f,26)] eH (l:=[(1,I b),(2,.pt (aH f))]) eH) (az (SS ?_)));refine af ⟨_,(Ghost.nilrow _ _ _ 5 3 rfl).trans (bG [(1,[],3)] ⟨up_same _ _ _,trivial⟩ (l:=[(1,I b),(2,.pt (aH f)),(5,au [])]) ⟨rfl,rfl,lA (sz:=1) c3 rfl,trivial⟩),aj ?_⟩;unfold qX;generalize dW x.fin=l at sO M;refine bB ?_;refine cl sO (SS ?_);refine af (aB (az (SS ?_)))
 refine af (bR (fun s=>Ghost prog s ⟨aD [(5,au (tT l))],fun _=>none,2⟩) (cQ (α:=Nat) (fun k=>⟨aD [(5,au (tT (l.take k))),(6,au l),(7,I k)],fun _=>none,2⟩)
  (fun k=>k<=l.length) (fun k=>l.length - k) 0 (ap eH) oG ?_) ?_)
 .intro k hk;have J:=(DI (l:=l.take k) (z:=[]) .nil).2.2;have C:∀ t,l[k]? =some t->tT (l.take (k+1))=kA (tT (l.take k)) t:=fun t ht=>oF ht;have X:k=l.length->tT (l.take k)=tT l:=fun e=>by rw[e,List.take_length]
  change (tT (l.take k)).length<=_ at J
  rw[List.length_take,List.length_nil] at J;generalize tT (l.take k)=c at J C X;refine aP ?_;refine af ⟨_,rfl,fun h=>?_,fun h=>?_⟩
  .have ao:k<l.length:=by simpa using h
   have hy:l[k]? =some l[k]:=aN ao;have C:=C _ hy;generalize l[k]=t at hy C;have OI:=OI (l:=c) (n:=t) oG;refine fh (aO ?_);refine cl OI (SS ?_);refine af (aq ?_);refine af (aK (k+1) (ap ⟨?_,rfl,rfl,trivial⟩) oG oG);rw[C];rfl
  .have a9:¬ k<l.length:=by simpa using h
   rw[<- X oG];exact ap eH
 .intro s hg;refine⟨_,hg,aj ?_⟩;refine ag ?_;exact af (av rfl rfl)
theorem sY{f:aG}{n:Nat}(hn:f.ab.length=n)(jf:n<=100000)(hw:∀ b∈f.ab,b.fin.aL.length<=9)(ht:∀ b∈f.ab,∀ t∈qX b.fin,0<=t/\t<n):
 PCall prog 56 [.agg (aH f)] (bx (mO f.ab)):=by
 have a7:∀ a∈[D.agg (aH f)],Tr a:=.cons (.agg (iu f)) .nil;refine bg ak' a7 (yz _) ?_;rw[ala];refine az (ag ?_);refine af (aW (bG [(0,aH f,26)] eH (l:=[(1,.pt (aH f))]) eH) (az (aO ?_)));have dn:((f.ab.length:Nat):Int).toNat=n:=hn;refine af (aW (aQ (l:=[(1,.pt (aH f)),(3,.rs 1 0 n)]) (ml:=[(1,.cells (replicate n .z) 27)]) ⟨rfl,congrArg (fun k=>D.rs 1 0 k) dn,trivial⟩ ⟨?_,trivial⟩) (aB (az ?_)))
 .exact congrArg (fun c=>some (Row.cells c 27)) ((congrArg (fun k=>replD k [D.z]) dn).trans (BO n))
 refine SS ?_
 refine af (bR (fun s=>∃ m nx ρ,Ghost prog s ⟨aD [(3,.rs 1 0 n)],m,nx⟩/\eP m nx 1 n 27 3 ρ (fun i=>(l0 f.ab n i).map I)) (cQ (α:=Nat×Mem×Nat)
  (fun k=>⟨aD [(1,.pt (aH f)),(3,.rs 1 0 n),(4,I k.1)],k.2.1,k.2.2⟩)
  (fun k=>k.1<=n/\(∃ ρ,eP k.2.1 k.2.2 1 n 27 3 ρ (fun i=>(l0 f.ab k.1 i).map I))/\∀ i,(l0 f.ab k.1 i).length<=12*k.1) (fun k=>n - k.1) (0,bf [(1,.cells (replicate n .z) 27)],2)
  (ap eH) ⟨Nat.zero_le _,⟨fun _=>0,Kr (show 1<2 by decide) rfl⟩,fun _=>bF _⟩ ?_) ?_)
 .rintro⟨k,m,nx⟩ ⟨hk,⟨ρ,C⟩,hlen⟩;dsimp only at hk C hlen ⊢;have ax:=C.row;have cV:=C.qA;refine aO ?_;refine af ⟨_,rfl,fun h=>?_,fun h=>?_⟩
  .have ao:k<n:=by simpa[hn] using h
   have hx:f.ab[k]? =some f.ab[k]:=aN oG;have cz:f.ab[k]∈f.ab:=cy _;have lL:=lL hx (by have:=hw _ cz;omega);generalize f.ab[k]=x at hx cz lL
   have cg:l0 f.ab (k+1)=(qX x.fin).foldl (dM k) (l0 f.ab k):=by
    rw[l0,List.range_succ,List.foldl_append];show DZ f.ab _ k=_;rw[DZ,hx];rfl
   generalize l0 f.ab k=L0 at C hlen ax cg;have dU:=ht x cz;have jj:=abo x.fin;have Ja:=hw x cz;generalize qX x.fin=l at lL dU jj cg;refine ws (ag ?_);refine cl lL (SS ?_);refine af (az (SS ?_))
   refine af (cQ (α:=Nat×Mem×Nat)
    (fun j=>⟨aD [(1,.pt (aH f)),(3,.rs 1 0 n),(4,I k),(5,au l),(6,I j.1)],j.2.1,j.2.2⟩)
    (fun j=>j.1<=l.length/\(∃ ρ,eP j.2.1 j.2.2 1 n 27 3 ρ (fun i=>((l.take j.1).foldl (dM k) L0 i).map I))/\∀ i,((l.take j.1).foldl (dM k) L0 i).length<=12*k+j.1) (fun j=>l.length - j.1) (0,m,nx)
    (ap eH) ⟨Nat.zero_le _,⟨ρ,C⟩,hlen⟩ ?_)
   clear C ax hlen;rintro⟨j,m,nx⟩ ⟨hj,⟨ρ,C⟩,hlen⟩;dsimp only at hj C hlen ⊢;have ax:=C.row;have cV:=C.qA;have X:∀ t,l[j]? =some t->(l.take (j+1)).foldl (dM k) L0=dM k ((l.take j).foldl (dM k) L0) t:=fun t ht=>oF ht;have qa:j=l.length->(l.take j).foldl (dM k) L0=l0 f.ab (k+1):=fun e=>by rw[cg,df oG]
   generalize (l.take j).foldl (dM k) L0=L at C hlen ax X qa;refine aP ?_;refine af ⟨_,rfl,fun h=>?_,fun h=>?_⟩
   .have zi:j<l.length:=by simpa using h
    have s7:l[j]? =some l[j]:=aN zi;have pH:=dU _ (cy zi);generalize l[j]=t at s7 pH;obtain⟨i,rfl⟩:=cU pH.1;have J:i<n:=by omega
    have hL:=hlen i;have X:(l.take (j+1)).foldl (dM k) L0=up L i (L i++[(k:Int)]):=X _ s7
    have tO:∀ i,((l.take (j+1)).foldl (dM k) L0 i).length<=12*k+(j+1):=fun a=>by
     rw[X];exact Gx (t:=(i:Int)) hlen a
    have zU:(fun a=>((l.take (j+1)).foldl (dM k) L0 a).map I)=up (fun a=>(L a).map I) i ((L i++[(k:Int)]).map I):=by rw[X];exact Lq
    obtain⟨cs,kd⟩:=G' (ρ:=ρ) (L:=fun i=>(L i).map I) J;refine pO acQ ?_;by_cases hz:L i=[]
    .have uD:jc (ρ i) ((L i).map I)=.z:=by rw[hz];rfl
     rw[uD] at kd;refine aJ ?_;refine bK ?_;refine a8 bc (aq ?_);refine af (aK (j+1,up (up (up m nx (some (.cells [I k] 3))) (nx+1) (some (.cells [I k] 3))) 1 (some (.cells ((jF ρ (fun i=>(L i).map I) n).set i (.rs (nx+1) 0 1)) 27)),nx+2) (ap eH) ⟨oM,⟨up ρ i (nx+1),?_⟩,tO⟩ oM);dsimp only;rw[zU];refine C.kH J oS oG oG ?_ ?_ (fun q hq tc _=>?_)
     .rw[hz];exact up_same _ _ _
     .rw[hz];exact aC oG (up_same _ _ _)
     .exact aC oG (aC oG (aC oG rfl))
    .have M:(L i).map I≠[]:=by simpa using hz
     have uD:jc (ρ i) ((L i).map I)=.rs (ρ i) 0 (L i).length:=by rw[qb M,List.length_map]
     rw[uD] at kd;have di:=C.sM i J M;have Bj:=C.lt i J M;have Oo:=C.ne i J M;refine aJ ?_;refine bK ?_;refine a8 bc (aq ?_);refine af (aK (j+1,up (up (up (up m nx (some (.cells [I k] 3))) (ρ i) none) (nx+1) (some (.cells ((L i).map I++[I k]) 3))) 1 (some (.cells ((jF ρ (fun i=>(L i).map I) n).set i (.rs (nx+1) 0 ((L i).length+1))) 27)),nx+2) (ap eH) ⟨oM,⟨up ρ i (nx+1),?_⟩,tO⟩ oM);dsimp only;rw[zU];refine C.kH J oS oG oG ?_ ?_ (fun q hq tc nq=>?_)
     .rw[List.length_map,List.length_append];exact up_same _ _ _
     .rw[List.map_append];exact aC oG (up_same _ _ _)
     .have:=nq M;exact aC oG (aC oG (aC oG (aC oG rfl)))
   .have a9:¬ j<l.length:=by simpa using h
    have vl:=qa oG;subst vl;show AOps _ _ _ _ _ _ _ _ _;refine aq ?_;refine af (aK (k+1,m,nx) (ap eH) ⟨oM,⟨ρ,C⟩,fun i=>by have:=hlen i;dsimp only at this ⊢;omega⟩ oM)
  .have a9:¬ k<n:=by simpa[hn] using h
   have:k=n:=by omega
   subst this;exact⟨m,nx,ρ,ap eH,C⟩
 .rintro s ⟨m,nx,ρ,hg,C⟩;have qD:¬ ∃ i,i<n/\(l0 f.ab n i).map I≠[]/\ρ i=1:=fun⟨i,h1,h2,h3⟩=>C.ne i h1 h2 h3;refine⟨_,hg.trans (GN (l:=[(3,.rs 1 0 n)]) (ml:=[]) (fun r=>∃ i,i<n/\(l0 f.ab n i).map I≠[]/\ρ i=r) C (fun _=>.map) c3 (fun i h1 h2=>⟨i,h1,h2,rfl⟩) qD ⟨rfl,trivial⟩ (fun x hx=>?_) trivial (fun x hx=>by cases hx)),az ?_⟩
  .simp at hx;subst hx;exact .rs qD
  refine ag ?_;refine af (aW (bG [(1,_,27)] eH (l:=[(2,bx (mO f.ab))]) ⟨?_,trivial⟩) (av rfl rfl));show sub (fz0 1 _ (prog.cellsOf 27)) (D.rs 1 0 n)=_;rw[nB (by rw[Bh];simp),G9,mO,hn]
theorem CL{f:aG}(hs:yW f)(hw:∀ b∈f.ab,b.fin.aL.length<=9):PCall prog 120 [.agg (aH f)] (B (wB f)):=by
 have CK:=CK hs;refine bg ahU (.cons (.agg (iu f)) .nil) (Tr.s _) ?_;rw[ahV];refine az (ag ?_);refine af (aW (bG [(0,aH f,26)] eH (l:=[(1,.pt (aH f))]) eH) (aj ?_));cases hh:sB f with
 |false=>
  rw[hh] at CK;refine SS ?_;refine cl CK (SS ?_);refine af (aB (aj (ag ?_)));refine af (dN (aB (aj (SS ?_))));refine af (bX (av (d:=B false) rfl ?_));rw[wB,hh];rfl
 |true=>
  rw[hh] at CK;have hF:wB f=(Hs f&&(range f.ab.length).all (sQ f)):=by rw[wB,hh];rfl
  rw[hF];clear hF;unfold sB at hh;simp only[aM] at hh;obtain⟨h1,h2,_⟩:=hh;unfold oO at h1;simp only[aM,Bool.not_eq_true',decide_eq_false_iff_not,lk] at h1;have hN:f.ab.length<=1200:=by omega
  have hR:f.al.length<=1200:=by omega
  have fQ:f.aZ.length<=60:=by omega
  have zZ:∀ k∈f.aZ,k=1\/k=2:=fun k hk=>by
   unfold se at h2;simp only[aM] at h2;have h3:=h2.2.2.1;simp only[fy,Bool.not_eq_true',List.any_eq_false] at h3;have:=h3 k hk;simp[nE] at this;omega
  clear h1 h2;refine SS ?_;refine cl CK (SS ?_);refine af (aB (aj (ag ?_)));refine af (gU (bP (az (SS ?_))));refine aI (G3 (cs:=bW _ _) V.h V.h V.h rfl rfl) ak ⟨V.h,V.h⟩ (SS ?_);refine cA (jk (cs':=bW _ _) rfl rfl rfl rfl) ak (du V.h V.h (by first|(simp;done)|exact⟨rfl,bE rfl⟩|(simp;omega)) (by rfl)) ?_;refine af (aW (aQ (l:=[(1,.pt (aH f)),(4,.rp 1 0)]) (ml:=[(1,.cells (bW f .z) 208)]) eH eH) (aB (az (SS ?_))))
  refine af (bR (fun s=>Ghost prog s ⟨aD [(1,.pt (aH f)),(4,.rp 1 0)],bf [(1,.cells (bW f .z) 208)],2⟩/\∀ (j:Nat) x,f.ab[j]? =some x->(dW x.fin).all (cu f)=true) (cQ (α:=Nat) (fun k=>⟨aD [(1,.pt (aH f)),(4,.rp 1 0),(5,I k)],bf [(1,.cells (bW f .z) 208)],2⟩)
   (fun k=>k<=f.ab.length/\∀ j x,j<k->f.ab[j]? =some x->(dW x.fin).all (cu f)=true) (fun k=>f.ab.length - k) 0 (aQ eH eH) ⟨oG,fun j y hj=>by omega⟩ ?_) ?_)
  .rintro k ⟨hk,hinv⟩;refine aO ?_;refine af ⟨_,rfl,fun h=>?_,fun h=>?_⟩
   .have ao:k<f.ab.length:=by simpa using h
    have hx:f.ab[k]? =some f.ab[k]:=aN ao;have YC:=hw _ (cy ao);generalize f.ab[k]=x at hx YC;have sO:=sO (x:=x.fin) oG;have hle:=DF x.fin;have cq:(dW x.fin).all (cu f)=false->Hs f=false:=fun h=>List.all_eq_false.2 ⟨x,bU hx,by simp[h]⟩
    have kP:(dW x.fin).all (cu f)=true->∀ j y,j<k+1->f.ab[j]? =some y->(dW y.fin).all (cu f)=true:=fun hq j y hj hy=>by
     by_cases e:j=k
     .subst e;rw[hx] at hy;cases hy;exact hq
     .exact hinv j y oG hy
    generalize dW x.fin=l at sO hle cq kP;refine ws (bB ?_);refine cl sO (SS ?_);refine af (az (SS ?_))
    refine af (cQ (α:=Nat) (fun q=>⟨aD [(1,.pt (aH f)),(4,.rp 1 0),(5,I k),(6,au l),(7,I q)],bf [(1,.cells (bW f .z) 208)],2⟩)
     (fun q=>q<=l.length/\∀ j y,j<q->l[j]? =some y->cu f y=true) (fun q=>l.length - q) 0 (aQ eH eH) ⟨oG,fun j y hj=>by omega⟩ ?_)
    rintro q ⟨hq,nq⟩;refine aP ?_;refine af ⟨_,rfl,fun h=>?_,fun h=>?_⟩
    .have Du:q<l.length:=by simpa using h
     have hy:l[q]? =some l[q]:=aN Du;generalize l[q]=y at hy;have iE:PCall prog 170 [.agg (bW f .z),I y] (B (cu f y)):=iE HV rfl hN;refine dF aad (aI (ep (vs:=bW _ _) rfl rfl V.h V.h rfl) ak (ez V.h V.h (by first|(simp;done)|omega|exact bE rfl)) ?_);refine aP ?_;refine cl iE (SS ?_);refine a8 bc (aj (ag ?_));refine af (aw rfl (fun hp=>?_) fun hp=>?_)
     .refine ws (SS ?_);refine af (aY (br (br (aR (av (d:=B false) rfl ?_)))));rw[cq (List.all_eq_false.2 ⟨y,bU hy,by simpa using hp⟩)];rfl
     .refine bS (aq ?_);refine af (aK (q+1) (aQ eH eH) ⟨oG,fun j z hj hz=>?_⟩ oG);by_cases e:j=q
      .subst e;rw[hy] at hz;cases hz;simpa using hp
      .exact nq j z oG hz
    .have a9:¬ q<l.length:=by simpa using h
     show AOps _ _ _ _ _ _ _ _ _;refine aq ?_;refine af (aK (k+1) (aQ eH eH) ⟨oG,kP (bj.2 fun y hy=>?_)⟩ oG);obtain⟨j,hj⟩:=cC hy;exact nq j y (by have:=(bw.1 hj).1;omega) hj
   .have a9:¬ k<f.ab.length:=by simpa using h
    exact⟨aQ eH eH,fun j y hy=>hinv j y (by have:=(bw.1 hy).1;omega) hy⟩
  rintro s ⟨hg,M⟩
  have hE:Hs f=true:=bj.2 fun x hx=>by
   obtain⟨j,hj⟩:=cC hx;exact M j x hj
  rw[hE,Bool.true_and]
  have dU:∀ b∈f.ab,∀ t∈qX b.fin,0<=t/\t<f.ab.length:=fun b hb t ht=>by
   have:=bj.1 (bj.1 hE b hb) t (Qu.1 ht);rw[cu,lk] at this;omega
  have sY:=sY (f:=f) rfl oG hw dU;have mB:∀ k,k<f.ab.length->(mO f.ab)[k]? =some (l0 f.ab f.ab.length k):=fun k hk=>by simp[mO,hk]
  have Ji:(mO f.ab).length<=100000:=by simp[mO];omega
  clear M hE dU;refine⟨_,hg,az ?_⟩;generalize hL:mO f.ab=L at sY mB Ji;clear hL;refine SS ?_;refine cl sY (SS ?_);refine cA (fI (d:=.sl _ _) (cs':=_) rfl rfl rfl rfl rfl) ak (du V.h V.h (by first|(simp;done)|exact⟨rfl,bE rfl⟩|(simp;omega)) rfl) ?_;refine af (aW (bG [(1,bW f (bx L),208)] eH (l:=[(1,.pt (aH f)),(4,.pt (bW f (bx L)))]) eH) (az (aO ?_)));have dn:((f.al.length:Nat):Int).toNat=f.al.length:=bN _;refine af (aW (aQ (l:=[(1,.pt (aH f)),(4,.pt (bW f (bx L))),(9,.rs 2 0 f.al.length)]) (ml:=[(2,.cells ((replicate f.al.length false).map B) 4)]) ⟨rfl,rfl,congrArg (fun k=>D.rs 2 0 k) dn,trivial⟩ ⟨?_,trivial⟩) (aB (az ?_)))
  .exact congrArg (fun c=>some (Row.cells c 4)) ((congrArg (fun k=>replD k [B false]) dn).trans (wA _ false))
  rw[<- abp f.al.length f.ab];refine SS ?_
  refine af (bR (fun s=>∃ N,Ghost prog s ⟨aD [],fun _=>none,N⟩/\(range f.ab.length).all (sQ f)=true) (cQ (α:=Nat×Nat) (fun q=>⟨aD [(1,.pt (aH f)),(4,.pt (bW f (bx L))),(9,.rs 2 0 f.al.length),(10,I q.1)],bf [(2,.cells ((mZ f.al.length f.ab q.1).map B) 4)],q.2⟩)
   (fun q=>q.1<=f.ab.length/\3<=q.2/\(range q.1).all (sQ f)=true) (fun q=>f.ab.length - q.1) (0,3) (aQ eH eH) ⟨Nat.zero_le _,bF _,rfl⟩ ?_) ?_)
  .rintro⟨k,N⟩ ⟨hk,FW,M⟩;dsimp only at hk FW M ⊢;refine aO ?_;refine af ⟨_,rfl,fun h=>?_,fun h=>?_⟩
   .have ao:k<f.ab.length:=by simpa using h
    have hx:f.ab[k]? =some f.ab[k]:=aN ao;have vO:=hs.en _ (cy ao)
    have C:sQ f k=(!decide ((200:Int)<f.ab[k].ins.length)&&((range f.ab[k].ins.length).all (wX f k f.ab[k].ins)&&(ig f f.ab[k].fin&& !(f.ab[k].fin.kind==7&&(lU f.ab k).any (·==f.ab[k].fin.a))))):=by
     unfold sQ;simp only[getD_some hx]
    have cq:sQ f k=false->(range f.ab.length).all (sQ f)=false:=fun hq=>j6 ao hq;have b8:=ad6 (R:=f.al.length) hx;have gW:=fun(i:Nat)=>acR (R:=f.al.length) (i:=i) hx;have hA:=mB k ao;have ug:∀ {y:bC},PCall prog 171 [.agg (bW f (bx L)),.agg (bu y),I k] (B (eD f k (l0 f.ab f.ab.length k).length y)):=fun {y}=>ug hA fQ zZ Ji;have J:∀ j,wX f k f.ab[k].ins j=(eD f k (l0 f.ab f.ab.length k).length (f.ab[k].ins.getD j eB)&& !(cr (f.ab[k].ins.getD j eB)&&(decide (0<j)&& !cr (f.ab[k].ins.getD (j - 1) eB)))):=fun j=>rfl;generalize l0 f.ab f.ab.length k=A at ug J hA;generalize f.ab[k]=x at hx vO C b8 gW J;have Iz:=Iz (f:=f) (yz L) rfl vO.1 vO.2 hN;refine ws (dA ?_);refine af (aB (aj (aq ?_)));refine af (cx rfl (fun hp=>?_) fun hp=>bP (aB (az ?_)))
    .refine aB (aj (SS ?_));refine af (bX (br (aR (av (d:=B false) rfl ?_))));rw[cq (by rw[C,hp];rfl)]
    rw[hp,Bool.not_false,Bool.true_and] at C;have fZ:x.ins.length<=200:=by have:=of_decide_eq_false hp;omega
    refine SS ?_
    refine af (bR (fun s=>Ghost prog s ⟨aD [(1,.pt (aH f)),(4,.pt (bW f (bx L))),(9,.rs 2 0 f.al.length),(10,I k)],bf [(2,.cells ((mZ f.al.length f.ab k).map B) 4)],N⟩/\(range x.ins.length).all (wX f k x.ins)=true) (cQ (α:=Nat) (fun j=>⟨aD [(1,.pt (aH f)),(4,.pt (bW f (bx L))),(9,.rs 2 0 f.al.length),(10,I k),(11,iH x.ins),(12,I j)],bf [(2,.cells ((mZ f.al.length f.ab k).map B) 4)],N⟩)
     (fun j=>j<=x.ins.length/\(range j).all (wX f k x.ins)=true) (fun j=>x.ins.length - j) 0 (aQ eH eH) ⟨Nat.zero_le _,rfl⟩ ?_) ?_)
    .rintro j ⟨hj,wg⟩;refine aP ?_;refine af ⟨_,rfl,fun h=>?_,fun h=>?_⟩
     .have cV:j<x.ins.length:=by simpa using h
      have hy:x.ins[j]? =some x.ins[j]:=aN cV;have J:=J j;rw[getD_some hy] at J;have tU:wX f k x.ins j=false->(range f.ab.length).all (sQ f)=false:=fun hq=>cq (by rw[C,j6 cV hq];rfl);have X:wX f k x.ins j=true->(range (j+1)).all (wX f k x.ins)=true:=fun hq=>lP wg hq;generalize x.ins[j]=y at hy J;have ug:= @ug y;generalize eD f k A.length y=v at ug J;rw[J] at tU X;clear J;refine dF aae ?_;cases v with
      |false=>
       refine bB ?_;refine cl ug (aJ ?_);refine dA ?_;(iterate 5 refine z fun _ _=>?_);refine SS ?_;refine a8 bc (aw rfl (fun hp=>?_) fun hp=>(by cases hp));refine ws (SS ?_);refine af (aY (br (aR (br (aR (av (d:=B false) rfl ?_))))));rw[tU rfl]
      |true=>
       rw[Bool.true_and] at tU X;by_cases fH:y.op=19
       .have uE:cr y=true:=by simp[cr,fH]
        rw[uE,Bool.true_and] at tU X;have dY:(y.op==19)=true:=by simp[fH]
        cases j with
        |zero=>
         have eM:decide ((0:Int)<((0:Nat):Int))=false:=rfl;refine bB ?_;refine cl ug (aJ ?_);refine aP ?_;(iterate 7 refine z fun _ _=>?_);refine ag ?_;refine a8 bc (aw rfl (fun hp=>(by cases hp)) fun hp=>bS ?_);refine aq ?_;refine af (aK 1 (aQ eH eH) ⟨oG,X rfl⟩ oG)
        |succ i=>
         have eM:decide ((0:Int)<((i+1:Nat):Int))=true:=decide_eq_true oG;have nh:((i+1:Nat):Int) - 1=(i:Int)/\ -9223372036854775808<=(i:Int)/\(i:Int)<=9223372036854775807:=by omega
         have hz:x.ins[i]? =some x.ins[i]:=aN oG;rw[show i+1 - 1=i from rfl,getD_some hz] at tU X;generalize x.ins[i]=z at hz tU X;refine bB ?_;refine cl ug (aJ ?_);refine aJ ?_;refine aP ?_;refine a8 bc (aw rfl (fun hp=>?_) fun hp=>?_)
         .refine ws (SS ?_);refine af (aY (br (aR (br (aR (av (d:=B false) rfl ?_))))));rw[tU (by revert hp;simp[cr])]
         .refine bS (aq ?_);refine af (aK (i+1+1) (aQ eH eH) ⟨oG,X (by revert hp;simp[cr])⟩ oG)
       .have uE:cr y=false:=by simp[cr,fH]
        rw[uE,Bool.false_and] at tU X;have dY:(y.op==19)=false:=by simp[fH]
        refine bB ?_;refine cl ug (aJ ?_);refine dA ?_;(iterate 4 refine z fun _ _=>?_);refine ag ?_;refine a8 bc (aw rfl (fun hp=>(by cases hp)) fun hp=>bS ?_);refine aq ?_;refine af (aK (j+1) (aQ eH eH) ⟨oG,X rfl⟩ oG)
     .have a9:¬ j<x.ins.length:=by simpa using h
      have:j=x.ins.length:=by omega
      subst this;exact⟨aQ eH eH,wg⟩
    rintro s ⟨hg,J⟩;rw[J,Bool.true_and] at C;refine⟨_,hg,az ?_⟩;clear hg ug J hA;obtain⟨aoP,xk,xa,xb,xt,xe,xn,OQ,xs,xw,xo⟩:=x;dsimp only at*
    refine dA ?_;refine cA (jk (cs':=bh _) rfl rfl (up_same _ _ _) rfl) ak (du V.h V.h (by first|(simp;done)|exact⟨rfl,bE rfl⟩|(simp;omega)) (by rfl)) ?_;refine af (aW (lQ (i:=N) (l:=[(1,.pt (aH f)),(4,.pt (bW f (bx L))),(9,.rs 2 0 f.al.length),(10,I k),(13,.pt (bh ⟨xk,xa,xb,xt,xe,xn,OQ,xs,xw,xo⟩))]) (ml:=[(2,.cells ((mZ f.al.length f.ab k).map B) 4)]) (up_same _ _ _) ⟨rfl,rfl,BH oG,rfl,oZ,trivial⟩ ⟨KZ oG (aC oG (aC oG rfl)) .map,trivial⟩) (aj ?_));have bm:= @K5 f ⟨xk,xa,xb,xt,xe,xn,OQ,xs,xw,xo⟩;generalize ig f ⟨xk,xa,xb,xt,xe,xn,OQ,xs,xw,xo⟩=v at Iz C bm;refine ag ?_;refine cl Iz (SS ?_);refine af (aB (aj (ag ?_)));refine af (cx rfl (fun hp=>?_) fun hp=>bP (aj ?_))
    .refine aB (aj (SS ?_));refine af (bX (br (aR (av (d:=B false) rfl ?_))));rw[cq (by rw[C];revert hp;cases v<;>simp)]
    have hv:v=true:=by simpa using hp
    subst hv;rw[Bool.true_and] at C;refine aq ?_;refine af (aw rfl (fun h7=>?_) fun h7=>bS ?_)
    .have e7:xk=7:=by simpa using h7
     obtain⟨i,hi,e⟩:=(bm rfl).2.2 e7;dsimp only at e;subst e;have gW:=gW i e7 rfl;have xE:(mZ f.al.length f.ab k)[i]? =some ((lU f.ab k).any (·==(i:Int))):=He hi;have oi:=DJ f.al.length f.ab k;rw[e7] at C;generalize (lU f.ab k).any (·==(i:Int))=o at xE C;generalize mZ f.al.length f.ab k=O at xE oi gW ⊢;have kd:=iG (f:=B) xE;refine aB (aj (aO ?_));refine af (cx rfl (fun hp=>?_) fun hp=>bP ?_)
     .refine aB (aj (SS ?_));refine af (bX (br (aR (av (d:=B false) rfl ?_))));rw[cq (by rw[C,hp];rfl)]
     .refine fh (aO ?_);refine af (aq ?_);refine af (aK (k+1,N+1) (aQ eH ⟨?_,trivial⟩) ⟨oM,oM,lP M (by rw[C,hp];rfl)⟩ oM);dsimp only;rw[gW,List.map_set];rfl
    .have h7:¬ xk=7:=by simpa using h7
     have b8:=b8 h7;refine aq ?_;refine af (aK (k+1,N+1) (aQ eH ⟨?_,trivial⟩) ⟨oM,oM,lP M (by rw[C];simp[h7])⟩ oM);dsimp only;rw[b8];rfl
   .have a9:¬ k<f.ab.length:=by simpa using h
    have:k=f.ab.length:=by omega
    subst this;exact⟨N,fS (l:=[]) trivial,M⟩
  .rintro s ⟨N,hg,M⟩;refine⟨_,hg,aj ?_⟩;refine SS ?_;refine af (av (d:=B true) rfl ?_);rw[M]
theorem CM{a b:Cert}(hl:a.is.length=b.is.length)(hm:a.is.length<=100000):PCall prog 173 [.agg (cH a),.agg (cH b)] (.agg (cH (qY a b))):=by
 refine bg ahZ (.cons (.agg (uY a)) (.cons (.agg (uY b)) .nil)) (.agg (uY _)) ?_;rw[ah0];obtain⟨aa,C⟩:=a;obtain⟨ba,J⟩:=b;dsimp only at hl hm;refine az (aq ?_);refine af (aW (aQ (l:=[(2,.rp 0 0),(3,.rp 1 0),(4,.rp 2 0)]) (ml:=[(0,.cells (cH ⟨aa,C⟩) 158),(1,.cells (cH ⟨ba,J⟩) 158),(2,.cells [B false,.z] 158)]) eH eH) (aB (aj (ag ?_))));cases aa with
 |true=>
  refine af (dN (aB (aj (ag ?_))));exact af (bX (nK (mI rfl rfl uf nj rfl t158 (bE rfl)) rfl))
 |false=>
 refine af (gU (bP (aB (aj (ag ?_)))));cases ba with
 |true=>
  refine af (dN (aB (aj (ag ?_))));exact af (bX (nK (mI rfl rfl uf nj rfl t158 (bE rfl)) rfl))
 |false=>
 refine af (gU (bP (az ?_)));have hb:qY ⟨false,C⟩ ⟨false,J⟩=⟨false,List.zipWith (fun x y=>x&&y) C J⟩:=rfl;rw[hb];clear hb;have jd:({ any:=false,is:=C }:Cert).is.length<=100000:=hm;have dn:((C.length:Nat):Int).toNat=C.length:=bN _;have M:(List.zipWith (fun x y=>x&&y) C J).length=C.length:=by simp;omega
 have YD:∀ (k:Nat) x y,C[k]? =some x->J[k]? =some y->(List.zipWith (fun x y=>x&&y) C J)[k]? =some (x&&y):=fun k x y h1 h2=>by rw[List.getElem?_zipWith,h1,h2]
 generalize List.zipWith (fun x y=>x&&y) C J=zQ at M YD;refine dA ?_;refine af (aW (aQ (l:=[(2,.rp 0 0),(3,.rp 1 0),(4,.rp 2 0),(5,.rp 4 0)]) (ml:=[(0,.cells (cH ⟨false,C⟩) 158),(1,.cells (cH ⟨false,J⟩) 158),(2,.cells [B false,.z] 158),(3,.cells ((replicate C.length false).map B) 4),(4,.cells [B false,.rs 3 0 C.length] 158)]) eH ⟨rfl,rfl,rfl,?_,?_,trivial⟩) (aB (az ?_)))
 .exact congrArg (fun c=>some (Row.cells c 4)) ((congrArg (fun k=>replD k [B false]) dn).trans (wA _ false))
 .exact congrArg (fun k=>some (Row.cells [B false,.rs 3 0 k] 158)) dn
 refine SS ?_
 refine af (bR (fun s=>Ghost prog s ⟨aD [(4,.rp 2 0),(5,.rp 4 0)],bf [(2,.cells [B false,.z] 158),(3,.cells (zQ.map B) 4),(4,.cells [B false,.rs 3 0 C.length] 158)],5⟩) (cQ (α:=Nat) (fun k=>⟨aD [(2,.rp 0 0),(3,.rp 1 0),(4,.rp 2 0),(5,.rp 4 0),(6,I k)],bf [(0,.cells (cH ⟨false,C⟩) 158),(1,.cells (cH ⟨false,J⟩) 158),(2,.cells [B false,.z] 158),(3,.cells ((zQ.take k++replicate (C.length - k) false).map B) 4),(4,.cells [B false,.rs 3 0 C.length] 158)],5⟩)
  (fun k=>k<=C.length) (fun k=>C.length - k) 0 (aQ eH eH) oG ?_) ?_)
 .intro k hk;refine aO ?_;refine af ⟨_,rfl,fun h=>?_,fun h=>?_⟩
  .have ao:k<C.length:=by simpa using h
   have hx:C[k]? =some C[k]:=aN ao;have hy:J[k]? =some J[k]:=aN oG;have X:=YD k _ _ hx hy;generalize C[k]=x at hx X;generalize J[k]=y at hy X;have sL:=take_set X M;have kZ:(zQ.take k++replicate (C.length - k) false).length=C.length:=by simp;omega
   refine pO abq ?_;cases x with
   |false=>
    refine aJ ?_;(iterate 5 refine z fun _ _=>?_);refine aq ?_;refine a8 bc (aq ?_);refine af (aK (k+1) (aQ eH ⟨rfl,rfl,rfl,?_,rfl,trivial⟩) oG oG);rw[<- sL,List.map_set];rfl
   |true=>
    refine aJ ?_;refine bK ?_;refine a8 bc (aq ?_);refine af (aK (k+1) (aQ eH ⟨rfl,rfl,rfl,?_,rfl,trivial⟩) oG oG);rw[<- sL,List.map_set];rfl
  .have a9:¬ k<C.length:=by simpa using h
   have:k=C.length:=by omega
   subst this;refine aQ eH ⟨rfl,?_,rfl,trivial⟩;rw[Nat.sub_self,List.replicate_zero,List.append_nil,df oG];rfl
 .intro s hg;refine⟨_,hg,az ?_⟩;refine ag ?_
  have e:sub (fz0 3 (zQ.map B) (prog.cellsOf 4)) (.rs 3 0 C.length)=.sl (zQ.map B) C.length:=by
   rw[c4,Cn,List.drop_zero,df oP]
  refine af (aW (bG [(3,zQ.map B,4),(2,[B false,.sl (zQ.map B) C.length],158)] ⟨rfl,?_,trivial⟩ (l:=[(4,.pt [B false,.sl (zQ.map B) C.length])]) eH) (aY (nK (R7 rfl uf nj rfl t158 (bE rfl)) ?_)))
  .exact congrArg (fun d=>some (Row.cells [B false,d] 158)) e
  .rw[<- M];rfl
theorem xy{f:aG}{b:Nat}{x:Argus.b7}{c:Cert}(hx:f.ab[b]? =some x)(hl:c.is.length=f.al.length+f.aZ.length)(hm:c.is.length<=2000)(hi:∀ y∈x.ins,AS f.al.length (f.al.length+f.aZ.length) y)(sV:x.ins.length<=100000):
 PCall prog 127 [.agg (aH f),I b,.agg (cH c)] (.agg (cH (fC f.al.length x.ins c))):=by
 have kB:∀ {d:Cert} {r:Int},d.is.length=f.al.length+f.aZ.length->Fi (f.al.length+f.aZ.length) r->PCall prog 124 [.agg (cH d),I r] (.agg (cH (jS d r))):=fun {d r} h1 h2=>kB oG (by rw[h1];exact h2);refine bg ah1 (.cons (.agg (iu f)) (.cons (.s _) (.cons (.agg (uY c)) .nil))) (.agg (uY _)) ?_;rw[ah2];refine az (aq ?_);refine af (aW (aQ (l:=[(1,I b),(3,.rp 0 0),(5,.rp 1 0),(6,.rp 2 0)]) (ml:=[(0,.cells (aH f) 26),(1,.cells (cH c) 158),(2,.cells [B false,.z] 158)]) eH eH) (aj (dA ?_)));refine af (aB (az (SS ?_)))
 refine af (bR (fun s=>Ghost prog s ⟨aD [(5,.rp 1 0),(6,.rp 2 0)],bf [(1,.cells (cH (fC f.al.length x.ins c)) 158),(2,.cells [B false,.z] 158)],3⟩) (cQ (α:=Nat) (fun k=>⟨aD [(3,.rp 0 0),(5,.rp 1 0),(6,.rp 2 0),(7,iH x.ins),(8,I k)],bf [(0,.cells (aH f) 26),(1,.cells (cH (fC f.al.length (x.ins.take k) c)) 158),(2,.cells [B false,.z] 158)],3⟩)
  (fun k=>k<=x.ins.length) (fun k=>x.ins.length - k) 0 (aQ eH eH) oG ?_) ?_)
 .intro k hk;have C:∀ y,x.ins[k]? =some y->fC f.al.length (x.ins.take (k+1)) c=xx f.al.length (fC f.al.length (x.ins.take k) c) y:=fun y hy=>oF hy;have fU:k=x.ins.length->fC f.al.length (x.ins.take k) c=fC f.al.length x.ins c:=fun e=>by rw[e,List.take_length]
  have z1:=(DH f.al.length (x.ins.take k) c).trans hl;generalize fC f.al.length (x.ins.take k) c=d at C fU z1;refine aP ?_;refine af ⟨_,rfl,fun h=>?_,fun h=>?_⟩
  .have ao:k<x.ins.length:=by simpa using h
   have hy:x.ins[k]? =some x.ins[k]:=aN ao;have C:=C _ hy;have M:=hi _ (cy ao);generalize x.ins[k]=y at hy C M;have sP:=sP (x:=y)
   have hp:Fi (f.al.length+f.aZ.length) (dL y):=by
    rcases M.w with e|⟨i,h1,h2⟩
    .exact .inl e
    .exact .inr ⟨i,oG,h2⟩
   have X:=kB z1 hp;have we:=(GR d (dL y)).trans z1
   have kv:y.op=18->PCall prog 124 [.agg (cH (jS d (dL y))),I ((f.al.length:Int)+y.n)] (.agg (cH (jS (jS d (dL y)) ((f.al.length:Int)+y.n)))):=fun e=>kB we (by
    obtain⟨i,h1,h2⟩:=M.s e
    exact .inr ⟨f.al.length+i,h1,by rw[h2];omega⟩)
   unfold xx at C;generalize jS d (dL y)=d1 at X we kv C;generalize dL y=w at sP X;clear kB;have kB:=X;refine dF abr (aO ?_);refine cl sP (cl kB (SS ?_));refine a8 bc (aj (bB ?_));refine af (aw rfl (fun J=>?_) fun J=>?_)
   .have J:y.op=18:=by simpa using J
    rw[if_pos J] at C;have kB:=kv J;obtain⟨i,h1,h2⟩:=M.s J;have jZ:0<=y.n/\y.n<=2000:=by omega
    refine pO abt (bK ?_);refine ag ?_;refine cl kB (SS ?_);refine a8 bc (aq ?_);refine af (aK (k+1) (aQ eH ⟨rfl,?_,rfl,trivial⟩) oG oG);rw[C];rfl
   .have J:¬ y.op=18:=by simpa using J
    rw[if_neg J] at C;refine bS (aq ?_);refine af (aK (k+1) (aQ eH ⟨rfl,?_,rfl,trivial⟩) oG oG);rw[C];rfl
  .have a9:¬ k<x.ins.length:=by simpa using h
   rw[<- fU oG];exact aQ eH eH
 .intro s hg;refine⟨_,hg,aj ?_⟩;generalize fC f.al.length x.ins c=d;refine ag ?_;exact af (aY (nK (mI rfl rfl uf nj rfl t158 (bE rfl)) rfl))
theorem zl{f:aG}{b:Nat}{x:Argus.b7}{c:Cert}{to:Int}(hx:f.ab[b]? =some x)(hw:x.fin.aL.length<=100)(hm:c.is.length<=2000)(rW:Fi c.is.length (eT x.fin)):
 PCall prog 126 [.agg (aH f),I b,I to,.agg (cH c)] (.agg (cH (nY x.fin to c))):=by
 have kB:=kB (c:=c) oG rW;have sO:=sO (x:=x.fin) oG;have Ix:=Ix (x:=x.fin);have J:=DF x.fin;refine bg ah3 (.cons (.agg (iu f)) (.cons (.s _) (.cons (.s _) (.cons (.agg (uY c)) .nil)))) (.agg (uY _)) ?_;rw[ah4];refine ws (aq ?_);refine af (az (dA ?_));refine Xr ?_;refine af (aW (aQ (l:=[(2,I to),(7,.rp 1 0),(8,.rp 2 0),(9,.rp 3 0)]) (ml:=[(1,.cells (cH c) 158),(2,.cells [B false,.z] 158),(3,.cells (bh x.fin) 69)]) eH eH) (aj ?_));have M:nY x.fin to c=if x.fin.to≠to\/(dW x.fin).tail.any (·==to)=true\/x.fin.kind=3\/x.fin.kind=4 then c else jS c (eT x.fin):=rfl
 rw[M];clear M;generalize dW x.fin=l at sO J;refine SS ?_;refine cl sO (SS ?_);refine er (SS ?_);refine af (aB (az (SS ?_)))
 refine af (bR (fun s=>Ghost prog s ⟨aD [(2,I to),(7,.rp 1 0),(8,.rp 2 0),(9,.rp 3 0),(11,B (l.tail.any (·==to)))],bf [(1,.cells (cH c) 158),(2,.cells [B false,.z] 158),(3,.cells (bh x.fin) 69)],4⟩) (cQ (α:=Nat) (fun k=>⟨aD [(2,I to),(7,.rp 1 0),(8,.rp 2 0),(9,.rp 3 0),(10,au l),(11,B ((l.tail.take k).any (·==to))),(12,I ((k+1:Nat):Int))],bf [(1,.cells (cH c) 158),(2,.cells [B false,.z] 158),(3,.cells (bh x.fin) 69)],4⟩)
  (fun k=>k<=l.tail.length) (fun k=>l.tail.length - k) 0 (aQ eH eH) oG ?_) ?_)
 .intro k hk;have htl:l.tail.length=l.length - 1:=List.length_tail ..;have C:∀ y,l.tail[k]? =some y->(l.tail.take (k+1)).any (·==to)=((l.tail.take k).any (·==to)||y==to):=fun y hy=>by rw[List.take_add_one,hy,List.any_append];simp
  have X:k=l.tail.length->(l.tail.take k).any (·==to)=l.tail.any (·==to):=fun e=>by rw[e,List.take_length]
  generalize (l.tail.take k).any (·==to)=ob at C X;refine aP ?_;refine af ⟨_,rfl,fun h=>?_,fun h=>?_⟩
  .have ao:k+1<l.length:=by
    have:=of_decide_eq_true h;omega
   have hy:l[k+1]? =some l[k+1]:=aN ao;have C:=C l[k+1] (by rw[List.getElem?_tail];exact hy);generalize l[k+1]=y at hy C;refine fh ?_;cases ob with
   |false=>
    refine bK ?_;refine ag ?_;refine af (aq ?_);refine af (aK (k+1) (aQ ⟨rfl,rfl,rfl,rfl,rfl,?_,rfl,trivial⟩ eH) oG oG);rw[C];rfl
   |true=>
    refine ag ?_;(iterate 6 refine z fun _ _=>?_);refine ag ?_;refine af (aq ?_);refine af (aK (k+1) (aQ ⟨rfl,rfl,rfl,rfl,rfl,?_,rfl,trivial⟩ eH) oG oG);rw[C];rfl
  .have a9:¬ k+1<l.length:=fun hh=>by
    have:=of_decide_eq_false h;omega
   rw[<- X oG];exact aQ eH eH
 .intro s hg;refine⟨_,hg,aB (aj ?_)⟩;generalize l.tail.any (·==to)=ob;refine aJ ?_;refine bK ?_;refine af (cx rfl (fun h=>?_) fun h=>bP (dF aah ?_))
  .refine aB (aj (ag ?_));refine af (bX (nK (mI rfl rfl uf nj rfl t158 (bE rfl)) ?_));rw[if_pos]
   .rfl
   .revert h;simp;grind
  .rw[if_neg (by revert h;simp;grind)];generalize jS c (eT x.fin)=d at kB;generalize eT x.fin=w at kB Ix;refine ag ?_;refine cl Ix (cl kB (SS ?_));exact a8 bc (aY (nK (mI rfl rfl uf nj rfl t158 (bE rfl)) rfl))
theorem CO{f:aG}(hF:tQ f)(hw:∀ b∈f.ab,b.fin.aL.length<=9):PCall prog 121 [.agg (aH f)] (ED f (iY f.ab f.args.toNat)):=by
 have hR:=hF.ok.al;have hS:=hF.sl;have FM:=hF.ok.mC;have ow:=hF.ok.pos;obtain⟨a,ha,uk⟩:=hF.ar;have EU:=Qw (R:=f.al.length) (n:=f.al.length+f.aZ.length) (N:=f.ab.length) (args:=a) hR oG oG ow uk;rw[ha,bN];refine bg ah5 (.cons (.agg (iu f)) .nil) (acS f _) ?_;rw[ah6];refine az (ag ?_);refine af (aW (bG [(0,aH f,26)] eH (l:=[(1,.pt (aH f))]) eH) (az (bK ?_)));refine af (aW (ap (l:=[(1,.pt (aH f)),(3,I ((f.al.length+f.aZ.length:Nat):Int))]) eH) (az ?_));have hnn:f.al.length+f.aZ.length<=1260:=by omega
 have OR:f.al.length<=f.al.length+f.aZ.length:=by omega
 unfold ED;generalize hn:f.al.length+f.aZ.length=n at EU hnn OR ⊢;have dn:((f.ab.length:Nat):Int).toNat=f.ab.length:=bN _;refine aq ?_;refine iB (BD rfl rfl V.h V.h) ak ⟨oG,rfl,oG,by rw[Xs];omega,V.h⟩ (SS ?_);refine af (aW (aQ (l:=[(1,.pt (aH f)),(3,I n),(4,.rs 1 0 f.ab.length)]) (ml:=[(1,.cells (dz (jD n f.ab.length (.rs 2 0 n) 0)) 158)]) ⟨rfl,rfl,congrArg (fun k=>D.rs 1 0 k) dn,trivial⟩ ⟨?_,trivial⟩) (aB (az ?_)))
 .exact congrArg (fun c=>some (Row.cells c 158)) ((congrArg (fun k=>replD k [B false,D.z]) dn).trans (Rm _))
 refine SS ?_;have A0:((n:Nat):Int).toNat=n:=bN _
 refine af (bR (fun s=>∃ N,Ghost prog s ⟨aD [(1,.pt (aH f)),(3,I n),(4,.rs 1 0 f.ab.length)],bf [(1,.cells (dz ((true,.rs 2 0 n)::qe n f.ab.length)) 158),(2,.cells ((replicate n false).map B) 4)],N⟩/\3<=N) (cQ (α:=Nat) (Mr f n f.ab.length)
  (fun k=>k<=f.ab.length) (fun k=>f.ab.length - k) 0 (aQ eH eH) oG ?_) ?_)
 .intro k hk;have M:=(BR (jD n f.ab.length (.rs 2 0 n) k)).trans (congrArg (·*2) (J6 (n:=n) (d:=.rs 2 0 n) hk));cases k with
  |zero=>
   show AOps _ _ _ _ _ _ _ _ _;unfold Mr;refine aP ?_;refine af ⟨_,rfl,fun h=>?_,fun h=>?_⟩
   .refine fh ?_;have rX:=JP (L:=jD n f.ab.length (.rs 2 0 n) 0) (t:=0) (true,.rs 2 0 n) (by rw[J6 hk];exact ow);rw[ad7 ow] at rX;refine bB ?_;refine cA (jk (vs:=[B true,.rs 2 0 n]) rfl rfl rfl rX) cv (du t158 nj ⟨rfl,by rw[M];omega⟩ rfl) (af (aq ?_));refine af (aK 1 (aQ eH ⟨rfl,?_,trivial⟩) oG oG)
    .exact congrArg (fun c=>some (Row.cells c 4)) ((congrArg (fun k=>replD k [B false]) A0).trans (wA _ false))
   .exact absurd (of_decide_eq_false h) oG
  |succ k=>
   show AOps _ _ _ _ _ _ _ _ _;unfold Mr;refine aP ?_;refine af ⟨_,rfl,fun h=>?_,fun h=>?_⟩
   .have ao:k+1<f.ab.length:=by have:=of_decide_eq_true h;omega
    refine fh ?_;have rX:=JP (L:=jD n f.ab.length (.rs 2 0 n) (k+1)) (t:=k+1) (true,.rs (k+3) 0 n) (by rw[J6 hk];exact ao);refine bB ?_;refine cA (jk (vs:=[B true,.rs (k+3) 0 n]) rfl rfl (aC oG rfl) rX) cv (du t158 nj ⟨rfl,by rw[M];omega⟩ rfl) (af (aq ?_));refine af (aK (k+2) (lQ (i:=k+3) (e:=4) (cs:=(replicate n false).map B) (aC oG ?_) ⟨rfl,rfl,BH oG,rfl,trivial⟩ ⟨?_,KZ oG (aC oG (aC oG rfl)) .map,trivial⟩) oG oG)
    .exact(up_same _ _ _).trans (congrArg (fun c=>some (Row.cells c 4)) ((congrArg (fun k=>replD k [B false]) A0).trans (wA _ false)))
    .rw[c4];refine(if_neg (show ¬ 1=k+3 by omega)).trans ?_;exact(congrArg (Option.map _) (up_same _ _ _)).trans (congrArg (fun c=>some (Row.cells c 158)) (ad9 oG ao))
   .have a9:¬ k+1<f.ab.length:=by have:=of_decide_eq_false h;omega
    have hkN:k+1=f.ab.length:=by omega
    refine⟨k+3,aQ eH ⟨?_,rfl,trivial⟩,oG⟩;rw[<- ad' ow, <- hkN];rfl
 rintro s ⟨N3,hg,FW⟩;have uq:=Qv (n:=n) ow;have Bo:=ZC EU.2.1 EU.2.2 ow;have OS:∀ cs sz,(qe n f.ab.length).map (fun p=>(p.1,sub (fz0 2 cs sz) p.2))=qe n f.ab.length:=fun cs sz=>alb;have M:=BR (qe n f.ab.length);generalize qe n f.ab.length=T at hg uq Bo OS M;refine⟨_,hg,az ?_⟩;refine aP ?_;refine af (aW (aQ (l:=[(1,.pt (aH f)),(3,I n),(4,.rs 1 0 f.ab.length)]) (ml:=[(1,.cells (dz ((false,.rs 2 0 n)::T)) 158),(2,.cells ((replicate 0 true++replicate (n - 0) false).map B) 4)]) eH eH) (aB (az (SS ?_))))
 refine af (bR (fun s=>Ghost prog s ⟨aD [(1,.pt (aH f)),(3,I n),(4,.rs 1 0 f.ab.length)],bf [(1,.cells (dz ((false,.rs 2 0 n)::T)) 158),(2,.cells ((replicate a true++replicate (n - a) false).map B) 4)],N3⟩) (cQ (α:=Nat) (fun r=>⟨aD [(1,.pt (aH f)),(3,I n),(4,.rs 1 0 f.ab.length),(6,I r)],bf [(1,.cells (dz ((false,.rs 2 0 n)::T)) 158),(2,.cells ((replicate r true++replicate (n - r) false).map B) 4)],N3⟩)
  (fun r=>r<=a) (fun r=>a - r) 0 (aQ eH eH) oG ?_) ?_)
 .intro r hr;refine aP ?_;refine af ⟨_,rfl,fun h=>?_,fun h=>?_⟩
  .have ao:r<a:=by have:=of_decide_eq_true h;omega
   have sL:=Ho (x:=true) (y:=false) (n:=n) (k:=r) oG;have kZ:(replicate r true++replicate (n - r) false).length=n:=by simp;omega
   refine fh (dA ?_);refine af (aq ?_);refine af (aK (r+1) (aQ eH ⟨rfl,?_,trivial⟩) oG oG);rw[<- sL,List.map_set];rfl
  .have a9:¬ r<a:=by have:=of_decide_eq_false h;omega
   have:r=a:=by omega
   subst this;exact aQ eH eH
 clear hg;rintro s hg;refine⟨_,hg.trans (lQ (i:=2) (e:=4) (cs:=(replicate a true++replicate (n - a) false).map B) (l:=[(1,.pt (aH f)),(3,I n),(4,.rs 1 0 f.ab.length)]) (ml:=[(1,.cells (dz (fB f.al.length n f.ab.length (kK f.ab.length a))) 158)]) rfl eH ⟨?_,trivial⟩),aB (az ?_)⟩
 .rw[c4,Bo];refine congrArg (fun c=>some (Row.cells c 158)) ((Ht _ (fun _=>rfl) _).trans (congrArg dz ?_));rw[List.map_cons,OS,Cn,List.drop_zero,df oP];have:(replicate a true++replicate (n - a) false).length=n:=by simp;omega
  show(false,D.sl _ n)::T=(false,D.sl _ (List.length _))::T;rw[this]
 clear hg uq Bo OS M T;refine SS ?_;have hG0:=EU.1;clear EU;have Jk:iY f.ab a=nD f.ab (rR (kK f.ab.length a)+1) (kK f.ab.length a):=rfl;generalize iY f.ab a=RR at Jk ⊢
 refine af (bR (fun s=>∃ N,Ghost prog s ⟨aD [(4,.rs 1 0 f.ab.length)],bf [(1,.cells (dz (fB f.al.length n f.ab.length RR)) 158)],N⟩) (yC (α:=CS×Nat)
  (fun s=>⟨aD [(1,.pt (aH f)),(3,I n),(4,.rs 1 0 f.ab.length),(7,B s.1.ch)],bf [(1,.cells (dz (fB f.al.length n f.ab.length s.1)) 158)],s.2⟩)
  (fun s=>q0 f.al.length n f.ab.length s.1/\2<=s.2/\(s.1.ch=true->∃ k,rR s.1<k/\nD f.ab k s.1=RR)/\(s.1.ch=false->s.1=RR)) (fun s=>2*rR s.1+if s.1.ch=true then 1 else 0) (kK f.ab.length a,N3)
  (aQ eH eH) ⟨hG0,oM,fun _=>⟨_,Nat.lt_succ_self _,Jk.symm⟩,fun h=>by cases h⟩ ?_) ?_)
 .rintro⟨C,N0⟩ ⟨hG,Xt,qz,zh⟩;dsimp only at hG Xt qz zh ⊢;refine SS ?_;refine af ⟨_,rfl,fun h0=>?_,fun h=>?_⟩
  .obtain⟨jE,agB,EQ⟩:=qz h0;obtain⟨jE,rfl⟩:∃ j,jE=j+1:=⟨jE - 1,oG⟩
   have ER:=Dz hF.ok.blk hG.ok;refine ws (SS ?_);refine af (az (SS ?_))
   refine af (cQ (α:=Nat×Nat)
    (fun k=>⟨aD [(1,.pt (aH f)),(3,I n),(4,.rs 1 0 f.ab.length),(7,B ((range k.1).foldl (dX f.ab) ⟨C.ws,C.re,false⟩).ch),(8,I k.1)],bf [(1,.cells (dz (fB f.al.length n f.ab.length ((range k.1).foldl (dX f.ab) ⟨C.ws,C.re,false⟩))) 158)],k.2⟩)
    (fun k=>k.1<=f.ab.length/\2<=k.2/\q0 f.al.length n f.ab.length ((range k.1).foldl (dX f.ab) ⟨C.ws,C.re,false⟩)) (fun k=>f.ab.length - k.1) (0,N0) (aQ eH eH) ⟨Nat.zero_le _,Xt,Sa hG false⟩ ?_)
   rintro⟨k,N⟩ ⟨hk,hN,Bp⟩;dsimp only at hk hN Bp ⊢;have cg:(range (k+1)).foldl (dX f.ab) ⟨C.ws,C.re,false⟩=dX f.ab ((range k).foldl (dX f.ab) ⟨C.ws,C.re,false⟩) k:=by rw[List.range_succ,List.foldl_append];rfl
   have fU:k=f.ab.length->(range k).foldl (dX f.ab) ⟨C.ws,C.re,false⟩=kJ f.ab C:=fun e=>by rw[e,kJ]
   generalize (range k).foldl (dX f.ab) ⟨C.ws,C.re,false⟩=u at Bp cg fU;refine aP ?_;refine af ⟨_,rfl,fun h=>?_,fun h=>?_⟩
   .have ao:k<f.ab.length:=by simpa using h
    have hx:f.ab[k]? =some f.ab[k]:=aN ao;have X:f.ab[k]∈f.ab:=cy _;generalize f.ab[k]=x at hx X;have J:dX f.ab u k=if u.re.getD k false=true then(nextR x.fin).foldl (cW x.fin (jL x (u.ws.getD k [])).1) u else u:=by rw[dX,hx]
    have Dv:=Bx (R:=f.al.length) (n:=n) (s:=u) ao;obtain⟨rr,kd⟩:=aff Dv;have rU:=R9 Dv;have M:=(BR (fB f.al.length n f.ab.length u)).trans (congrArg (·*2) (yw f.al.length n f.ab.length u));have Gg:cF f.al.length n u k=if u.re.getD k false=true then⟨false,cD f.al.length n (u.ws.getD k [])⟩ else⟨true,replicate n false⟩:=rfl
    have Jl:=Bp.yes k ao;have Xu:=Bp.ok.Xv ao;refine aB (aj ?_);cases qF:u.re.getD k false with
    |false=>
     rw[qF] at Gg J;rw[Gg] at kd;have J:dX f.ab u k=u:=J;have kd:(dz (fB f.al.length n f.ab.length u)).drop (k*2+0)=B true::dw (replicate n false)::rr:=kd;refine aO ?_;refine af (cx rfl (fun h=>jy (mR (aq ?_))) fun h=>oH);refine af (aK (k+1,N) (aQ ⟨rfl,rfl,rfl,?_,rfl,trivial⟩ ⟨?_,trivial⟩) ⟨oM,hN,?_⟩ oM)
     .dsimp only;rw[cg,J];rfl
     .dsimp only;rw[cg,J];rfl
     .dsimp only;rw[cg,J];exact Bp
    |true=>
    rw[qF] at Gg J;rw[Gg] at kd rU;have J:dX f.ab u k=(nextR x.fin).foldl (cW x.fin (jL x (u.ws.getD k [])).1) u:=J;have Jl:=Jl qF;generalize u.ws.getD k []=w at Gg J kd rU Jl Xu;have kd:(dz (fB f.al.length n f.ab.length u)).drop (k*2+0)=B false::dw (cD f.al.length n w)::rr:=kd;refine aO ?_;refine af (cx rfl (fun h=>oH) fun h=>bP (pK aak ?_));have YA:(cD f.al.length n w).length=n:=DP ..;obtain⟨q1,q2,q3⟩:=DQ (R:=f.al.length) (n:=n) hR oG OR (l:=x.ins) (ok:=true) (fun y hy=>hn▸(hF.ins x X y hy).1) Xu Jl;have xy:PCall prog 127 [.agg (aH f),I k,.agg (cH ⟨false,cD f.al.length n w⟩)] (.agg (cH (fC f.al.length x.ins ⟨false,cD f.al.length n w⟩))):=xy hx (by rw[hn];exact YA) (by show(cD f.al.length n w).length<=_;omega) (fun y hy=>(hF.ins x X y hy).1) (by have:=(hF.ok.blk x X).len;omega);rw[q1] at xy;have vZ:(jL x w).1=(x.ins.foldl l6 (w,true)).1:=rfl;rw[vZ] at J;clear vZ;generalize (x.ins.foldl l6 (w,true)).1=w' at q1 q2 q3 xy J;refine aO ?_;refine aI (ep rfl rfl uf nj rU) cv (ez t158 nj (by rw[M];omega)) ?_;refine cl xy (ag ?_);have alc:(cD f.al.length n w').length=n:=DP ..;refine a8 bc (aW (lQ (i:=N) (l:=[(1,.pt (aH f)),(3,I n),(4,.rs 1 0 f.ab.length),(7,B u.ch),(8,I k),(9,.pt (cH ⟨false,cD f.al.length n w'⟩))]) (ml:=[(1,.cells (dz (fB f.al.length n f.ab.length u)) 158)]) (up_same _ _ _) ⟨rfl,rfl,BH oG,rfl,rfl,oZ,trivial⟩ ⟨Ac oG (aC oG (aC oG rfl)) Kw,trivial⟩) (aj ?_));have lL:=lL hx (by have:=hw x X;omega);rw[(hF.ed x X).2] at lL;have dU:=(hF.ok.blk x X).to;have jj:=z7 x.fin;have YC:=hw x X;have rW:=hF.wr x X;have mw:=(hF.ed x X).1;generalize nextR x.fin=l at lL dU jj J;refine ag ?_;refine cl lL (SS ?_);refine af (az (SS ?_))
    refine af (cQ (α:=Nat×Nat)
     (fun j=>⟨aD [(1,.pt (aH f)),(3,I n),(4,.rs 1 0 f.ab.length),(7,B ((l.take j.1).foldl (cW x.fin w') u).ch),(8,I k),(9,.pt (cH ⟨false,cD f.al.length n w'⟩)),(10,au l),(11,I j.1)],bf [(1,.cells (dz (fB f.al.length n f.ab.length ((l.take j.1).foldl (cW x.fin w') u))) 158)],j.2⟩)
     (fun j=>j.1<=l.length/\2<=j.2/\q0 f.al.length n f.ab.length ((l.take j.1).foldl (cW x.fin w') u)) (fun j=>l.length - j.1) (0,N+1) (aQ eH eH) ⟨Nat.zero_le _,oM,Bp⟩ ?_)
    clear rU M;rintro⟨j,N'⟩ ⟨hj,Jb,Jm⟩;dsimp only at hj Jb Jm ⊢;have eL:∀ t,l[j]? =some t->(l.take (j+1)).foldl (cW x.fin w') u=cW x.fin w' ((l.take j).foldl (cW x.fin w') u) t:=fun t ht=>oF ht;have qa:j=l.length->(l.take j).foldl (cW x.fin w') u=dX f.ab u k:=fun e=>by rw[J,df oG]
    generalize (l.take j).foldl (cW x.fin w') u=v at Jm eL qa;refine aP ?_;refine af ⟨_,rfl,fun h=>?_,fun h=>?_⟩
    .have cV:j<l.length:=by simpa using h
     have ht:l[j]? =some l[j]:=aN cV;have pH:=dU _ (cy cV);generalize l[j]=t at ht pH;obtain⟨i,rfl⟩:=cU pH.1;have bm:i<f.ab.length:=by omega
     have Dv:=Bx (R:=f.al.length) (n:=n) (s:=v) bm;have rU:=R9 Dv;have M:=(BR (fB f.al.length n f.ab.length v)).trans (congrArg (·*2) (yw f.al.length n f.ab.length v));have rX:=fun q=>JP (L:=fB f.al.length n f.ab.length v) (t:=i) q (by rw[yw];exact bm);obtain⟨OT,j5⟩:=Sb (R:=f.al.length) (n:=n) hR oG OR Jm mw rW bm q2 q3;have eL:=eL _ ht
     have zl:PCall prog 126 [.agg (aH f),I k,I i,.agg (cH ⟨false,cD f.al.length n w'⟩)] (.agg (cH (nY x.fin i ⟨false,cD f.al.length n w'⟩))):=zl hx oG (by show(cD f.al.length n w').length<=_;omega) (by
      rcases rW with e|⟨r,h1,h2⟩
      .exact .inl e
      .exact .inr ⟨r,by show r<(cD f.al.length n w').length;omega,h2⟩)
     have oi:(nY x.fin i ⟨false,cD f.al.length n w'⟩).is.length=n:=(Qt ..).trans alc;have cJ:(cF f.al.length n v i).is.length=n:=JQ;have CM:=CM (a:=cF f.al.length n v i) (b:=nY x.fin i ⟨false,cD f.al.length n w'⟩) (by rw[cJ,oi]) oG;unfold CQ at j5
     have Da:(qY (cF f.al.length n v i) (nY x.fin i ⟨false,cD f.al.length n w'⟩)).is.length=n:=by
      unfold qY;split
      .exact oi
      .split
       .exact cJ
       .show(List.zipWith _ _ _).length=n;rw[List.length_zipWith];omega
     generalize qY (cF f.al.length n v i) (nY x.fin i ⟨false,cD f.al.length n w'⟩)=now at CM j5 Da;generalize nY x.fin i ⟨false,cD f.al.length n w'⟩=ov at zl CM oi;generalize aoQ:cF f.al.length n v i=mG at CM j5 cJ rU;have rU:((dz (fB f.al.length n f.ab.length v)).drop (i*2)).take 2=cH mG:=rU;refine az (bB ?_);refine aI (ep rfl rfl uf nj rU) cv (ez t158 nj (by rw[M];omega)) ?_;refine ag ?_;refine af (aW (lQ (i:=N') (l:=[(1,.pt (aH f)),(3,I n),(4,.rs 1 0 f.ab.length),(7,B v.ch),(8,I k),(9,.pt (cH ⟨false,cD f.al.length n w'⟩)),(10,au l),(11,I j),(12,.pt (cH mG))]) (ml:=[(1,.cells (dz (fB f.al.length n f.ab.length v)) 158)]) (up_same _ _ _) ⟨rfl,rfl,BH oG,rfl,rfl,rfl,rfl,rfl,oZ,trivial⟩ ⟨Ac oG (aC oG (aC oG rfl)) Kw,trivial⟩) (pK aal (bK ?_)));refine cl zl (cl CM (ag ?_));refine a8 bc (aW (lQ (i:=N'+1) (l:=[(1,.pt (aH f)),(3,I n),(4,.rs 1 0 f.ab.length),(7,B v.ch),(8,I k),(9,.pt (cH ⟨false,cD f.al.length n w'⟩)),(10,au l),(11,I j),(12,.pt (cH mG)),(13,.pt (cH now))]) (ml:=[(1,.cells (dz (fB f.al.length n f.ab.length v)) 158)]) (up_same _ _ _) ⟨rfl,rfl,BH oG,rfl,rfl,rfl,rfl,rfl,rfl,oZ,trivial⟩ ⟨Ac oG (aC oG (aC oG rfl)) Kw,trivial⟩) (aj (aP ?_)));refine aI (S' rfl rfl) ak V.h (SS ?_);refine af (aB (az (SS ?_)))
     refine af (bR (fun s=>Ghost prog s ⟨aD [(1,.pt (aH f)),(3,I n),(4,.rs 1 0 f.ab.length),(7,B v.ch),(8,I k),(9,.pt (cH ⟨false,cD f.al.length n w'⟩)),(10,au l),(11,I j),(13,.pt (cH now)),(14,B (qZ mG now n))],bf [(1,.cells (dz (fB f.al.length n f.ab.length v)) 158)],N'+2⟩) (cQ (α:=Nat) (fun q=>⟨aD [(1,.pt (aH f)),(3,I n),(4,.rs 1 0 f.ab.length),(7,B v.ch),(8,I k),(9,.pt (cH ⟨false,cD f.al.length n w'⟩)),(10,au l),(11,I j),(12,.pt (cH mG)),(13,.pt (cH now)),(14,B (qZ mG now q)),(15,I q)],bf [(1,.cells (dz (fB f.al.length n f.ab.length v)) 158)],N'+2⟩)
      (fun q=>q<=n) (fun q=>n - q) 0 (aQ ⟨rfl,rfl,rfl,rfl,rfl,rfl,rfl,rfl,rfl,rfl,?_,rfl,trivial⟩ eH) oG ?_) ?_)
     .show B (mG.any==now.any)=B (qZ mG now 0);unfold qZ;rw[List.range_zero,List.all_nil,Bool.and_true]
     .intro q hq;have zZ:=aaj mG now q;have YE:q=n->qZ mG now q=qZ mG now n:=fun e=>by rw[e]
      generalize qZ mG now q=sq at zZ YE;refine aq ?_;refine af ⟨_,rfl,fun h=>?_,fun h=>?_⟩
      .have Du:q<n:=by simpa using h
       have zE:mG.is[q]? =some mG.is[q]:=aN oG;have zD:now.is[q]? =some now.is[q]:=aN oG;rw[getD_some zE,getD_some zD] at zZ;generalize mG.is[q]=b1 at zE zZ;generalize now.is[q]=b2 at zD zZ;refine pO aam ?_;cases sq with
       |false=>
        refine ag ?_;(iterate 11 refine z fun _ _=>?_);refine ag ?_;refine a8 bc (aq ?_);refine af (aK (q+1) (aQ ⟨rfl,rfl,rfl,rfl,rfl,rfl,rfl,rfl,rfl,rfl,?_,rfl,trivial⟩ eH) oG oG);rw[zZ];rfl
       |true=>
        refine aJ ?_;refine aq ?_;refine ald ?_;refine ag ?_;refine a8 bc (aq ?_);refine af (aK (q+1) (aQ ⟨rfl,rfl,rfl,rfl,rfl,rfl,rfl,rfl,rfl,rfl,?_,rfl,trivial⟩ eH) oG oG);rw[zZ];rfl
      .have a9:¬ q<n:=by simpa using h
       rw[<- YE oG];exact aQ eH eH
     rintro s1 xG;have dy:=abu cJ Da;generalize qZ mG now n=sq at xG dy;refine⟨_,xG,aj ?_⟩;clear xG;refine ag ?_;refine af (aw rfl (fun hp=>?_) fun hp=>bS ?_)
     .have hns:¬ (mG.any=now.any/\mG.is=now.is):=fun h=>by rw[dy.2 h] at hp;cases hp
      have rX:=rX (Fk now);rcases j5 with⟨j5,_⟩|⟨_,qq,OU⟩
      .exact absurd ⟨congrArg Cert.any j5.symm,congrArg Cert.is j5.symm⟩ hns
      rw[aai OU] at rX;refine dF aan (dA ?_);refine cA (jk (vs:=cH now) rfl rfl rfl rX) cv (du t158 nj ⟨rfl,by rw[M];omega⟩ rfl) (a8 bc (fh (SS ?_)));refine af (aq ?_);refine af (aK (j+1,N'+2) (aQ ⟨rfl,rfl,rfl,?_,rfl,rfl,rfl,rfl,trivial⟩ ⟨?_,trivial⟩) ⟨oM,oM,?_⟩ oM)
      .dsimp only;rw[eL,qq];rfl
      .dsimp only;rw[eL];rfl
      .dsimp only;rw[eL];exact OT
     .have hsq:sq=true:=by simpa using hp
      have zF:=dy.1 hsq;rcases j5 with⟨_,j5⟩|⟨aE,_,_⟩
      .rw[j5] at eL OT;refine aq ?_;refine af (aK (j+1,N'+2) (aQ ⟨rfl,rfl,rfl,?_,rfl,rfl,rfl,rfl,trivial⟩ ⟨?_,trivial⟩) ⟨oM,oM,?_⟩ oM)
       .dsimp only;rw[eL];rfl
       .dsimp only;rw[eL];rfl
       .dsimp only;rw[eL];exact OT
      .exfalso;rcases aE with h|h
       .exact h zF.1.symm
       .exact h zF.2.symm
    .have a9:¬ j<l.length:=by simpa using h
     have vl:=qa oG;subst vl;show AOps _ _ _ _ _ _ _ _ _;refine aq ?_;refine af (aK (k+1,N') (aQ ⟨rfl,rfl,rfl,?_,rfl,trivial⟩ ⟨?_,trivial⟩) ⟨oM,Jb,?_⟩ oM)
     .dsimp only;rw[cg];rfl
     .dsimp only;rw[cg];rfl
     .dsimp only;rw[cg];exact Jm
   .have a9:¬ k<f.ab.length:=by simpa using h
    have hl:=fU oG;subst hl;refine aK (kJ f.ab C,N) (aQ eH eH) ⟨Bp,hN,fun hc=>?_,fun hc=>?_⟩ ?_
    .refine⟨jE,?_,?_⟩
     .have:=ER.2;unfold pG at this;show rR (kJ f.ab C)<jE;rw[if_pos hc] at this;omega
     .dsimp only at hc ⊢;rw[<- EQ,nD,if_pos hc]
    .dsimp only at hc ⊢;rw[<- EQ,nD,if_neg (by simp[hc])]
    .have:=ER.2;unfold pG at this;dsimp only;rw[if_pos h0];split at this<;>rename_i hc
     .rw[if_pos hc];omega
     .rw[if_neg hc];omega
  .have Bf:=zh h;subst Bf;exact⟨N0,aQ eH eH⟩
 .rintro s ⟨N4,hg⟩;refine⟨_,hg,az ?_⟩;refine ag ?_;refine af (aW (bG [(1,dz (fB f.al.length n f.ab.length RR),158)] eH (l:=[(2,.sl (dz (fB f.al.length n f.ab.length RR)) f.ab.length)]) ⟨?_,trivial⟩) (av rfl rfl));show sub (fz0 1 _ (prog.cellsOf 158)) (D.rs 1 0 f.ab.length)=_;rw[nB (by rw[nj,BR,yw])]
end Go.Proofs.Tryz.K
namespace Go.Argus
open Go.Proofs.Tryz.K (nextR)
@[simp] theorem PJ (p : Bool × D) : (qd p).length = 2 := rfl
theorem Pv{f:aG}(h:jz f=true):∀ b∈f.ab,j9 f b.fin=true:=fun b hb=>by
 unfold jz at h;simp only[aM] at h;obtain⟨_,_,_,h4,_⟩:=h;obtain⟨k,hk⟩:=cC hb;have:=bj.1 h4 k (by simpa using(bw.1 hk).1);unfold j8 at this;simp only[getD_some hk,aM] at this;exact this.1
theorem Kn{f:aG}{k:Nat}{x:b7}(h:f.ab[k]? =some x):aT f k=nextR x.fin:=by
 unfold aT aA bI;rw[bl,List.getElem?_map,h];rfl
theorem aea{l:List Bool}{b:Nat}(hb:b<l.length)(h:l.getD b false=false):(l.set b true).count false<l.count false:=by
 have:=yr (yv h hb);omega
end Go.Argus
namespace Go.Proofs.Tryz.K
theorem rN{f:aG}(hs:yW f)(hw:∀ b∈f.ab,b.fin.aL.length<=9):PCall prog 55 [.agg (aH f)] (I (dH f)):=by
 rw[<- abv];have CL:=CL hs hw;have IW:Lr f=if wB f=true then(if(range f.ab.length).all (q7 f (iY f.ab f.args.toNat))=true then 0 else 81) else 80:=rfl
 refine bg ale (.cons (.agg (iu f)) .nil) (Tr.s _) ?_;rw[alf,IW];clear IW;refine az (ag ?_);refine af (aW (bG [(0,aH f,26)] eH (l:=[(1,.pt (aH f))]) eH) (aj ?_));cases hf:wB f with
 |false=>
  rw[hf] at CL;refine SS ?_;refine cl CL (SS ?_);refine af (aB (aj (ag ?_)));refine af (dN (aB (aj (SS ?_))));exact af (bX (av rfl rfl))
 |true=>
 rw[hf] at CL;rw[if_pos rfl];rw[PS] at hf;have he:=Pv hf;have hF:=EN hf;have CO:=CO hF hw;have hR:=hF.ok.al;have hS:=hF.sl;have FM:=hF.ok.mC;have sY:=sY (f:=f) rfl oG hw (fun b hb t ht=>by rw[(hF.ed b hb).2] at ht;exact(hF.ok.blk b hb).to t ht)
 have YF:∀ k,k<f.ab.length->(mO f.ab)[k]? =some (bH f.ab f.ab.length k):=fun k hk=>by
  rw[<- J7 he];simp[mO,hk]
 have Ji:(mO f.ab).length=f.ab.length:=by simp[mO]
 generalize mO f.ab=L at sY YF Ji
 have YG:ED f (iY f.ab f.args.toNat)=.sl ((fB f.al.length (f.al.length+f.aZ.length) f.ab.length (iY f.ab f.args.toNat)).flatMap qd) (fB f.al.length (f.al.length+f.aZ.length) f.ab.length (iY f.ab f.args.toNat)).length:=by
  unfold ED;rw[yw];rfl
 rw[YG] at CO;clear YG;generalize iY f.ab f.args.toNat=RR at CO ⊢;have OV:∀ k,k<f.ab.length->(fB f.al.length (f.al.length+f.aZ.length) f.ab.length RR)[k]? =some (Fk (cF f.al.length (f.al.length+f.aZ.length) RR k)):=fun k hk=>Bx hk;have hCl:=yw f.al.length (f.al.length+f.aZ.length) f.ab.length RR;generalize fB f.al.length (f.al.length+f.aZ.length) f.ab.length RR=CP at CO OV hCl;refine SS ?_;refine cl CL (SS ?_);refine af (aB (aj (ag ?_)));refine af (gU (bP (aj (SS ?_))));refine cl CO (SS ?_);refine er (SS ?_);refine cl sY (SS ?_);refine af (aB (az (SS ?_)))
 refine af (bR (fun s=>(∃ N,Ghost prog s ⟨aD [],fun _=>none,N⟩)/\(range f.ab.length).all (q7 f RR)=true) (cQ (α:=Nat×Nat) (fun q=>⟨aD [(1,.pt (aH f)),(4,.sl (CP.flatMap qd) CP.length),(5,bx L),(6,I q.1)],fun _=>none,q.2⟩)
  (fun q=>q.1<=f.ab.length/\(range q.1).all (q7 f RR)=true) (fun q=>f.ab.length - q.1) (0,1) (fS eH) ⟨Nat.zero_le _,rfl⟩ ?_) ?_)
 .rintro⟨k,N⟩ ⟨hk,bD⟩;dsimp only at hk bD ⊢;refine aO ?_;refine af ⟨_,rfl,fun h=>?_,fun h=>?_⟩
  .have ao:k<f.ab.length:=by simpa using h
   have hx:f.ab[k]? =some f.ab[k]:=aN ao;have cz:f.ab[k]∈f.ab:=cy _;have Dv:=OV k ao;have cq:q7 f RR k=false->(if(range f.ab.length).all (q7 f RR)=true then(0:Int) else 81)=81:=fun hq=>by rw[j6 ao hq];rfl
   have z2:q7 f RR k=((cF f.al.length (f.al.length+f.aZ.length) RR k).any||((range f.ab[k].ins.length).all (AT f RR k f.ab[k].ins (cF f.al.length (f.al.length+f.aZ.length) RR k))&&td (fC f.al.length f.ab[k].ins (cF f.al.length (f.al.length+f.aZ.length) RR k)) (cK f.ab[k].fin))):=by
    unfold q7;simp only[getD_some hx]
   have cJ:(cF f.al.length (f.al.length+f.aZ.length) RR k).is.length=f.al.length+f.aZ.length:=JQ;generalize f.ab[k]=x at hx cz z2;generalize cF f.al.length (f.al.length+f.aZ.length) RR k=c at Dv z2 cJ;obtain⟨ca,C⟩:=c;refine aB (aj ?_);cases ca with
   |true=>
    refine aO ?_;refine af (cx rfl (fun h=>jy (mR (aq ?_))) fun h=>oH);exact af (aK (k+1,N) (fS eH) ⟨oM,lP bD z2⟩ oM)
   |false=>
   refine aO ?_;refine af (cx rfl (fun h=>oH) fun h=>bP (az ?_));rw[show({ any:=false,is:=C }:Cert).any=false from rfl,Bool.false_or] at z2;refine bB ?_;refine af (aW (aQ (l:=[(1,.pt (aH f)),(4,.sl (CP.flatMap qd) CP.length),(5,bx L),(6,I k),(7,.rp N 0)]) (ml:=[(N,.cells (cH ⟨false,C⟩) 158)]) eH ⟨up_same _ _ _,trivial⟩) (aj (dA ?_)));have cZ:=(hF.ok.blk x cz).len;have alg:=hF.ins x cz;have AN:=hF.Jf k x hx;have hAg:=YF k ao;have alh:=JR (fun b hb t ht=>((hF.ok.blk b hb).to t ht).1) f.ab.length k;have ah7:=hF.ok.blk;have J:∀ y q,q8 f RR k y q=q8 f RR k y q:=fun _ _=>rfl;refine af (aB (az (SS ?_)))
   refine af (bR (fun s=>∃ N',Ghost prog s ⟨aD [(1,.pt (aH f)),(4,.sl (CP.flatMap qd) CP.length),(5,bx L),(6,I k),(7,.rp N 0)],bf [(N,.cells (cH (fC f.al.length x.ins ⟨false,C⟩)) 158)],N'⟩/\N<N'/\(range x.ins.length).all (AT f RR k x.ins ⟨false,C⟩)=true) (cQ (α:=Nat×Nat) (fun j=>⟨aD [(1,.pt (aH f)),(4,.sl (CP.flatMap qd) CP.length),(5,bx L),(6,I k),(7,.rp N 0),(8,iH x.ins),(9,I j.1)],bf [(N,.cells (cH (fC f.al.length (x.ins.take j.1) ⟨false,C⟩)) 158)],j.2⟩)
    (fun j=>j.1<=x.ins.length/\N<j.2/\(range j.1).all (AT f RR k x.ins ⟨false,C⟩)=true) (fun j=>x.ins.length - j.1) (0,N+1) (aQ eH ⟨up_same _ _ _,trivial⟩) ⟨Nat.zero_le _,Nat.lt_succ_self _,rfl⟩ ?_) ?_)
   .rintro⟨j,M⟩ ⟨hj,hM,wg⟩;dsimp only at hj hM wg ⊢;have aF:∀ y,x.ins[j]? =some y->fC f.al.length (x.ins.take (j+1)) ⟨false,C⟩=xx f.al.length (fC f.al.length (x.ins.take j) ⟨false,C⟩) y:=fun y hy=>oF hy;have fU:j=x.ins.length->fC f.al.length (x.ins.take j) ⟨false,C⟩=fC f.al.length x.ins ⟨false,C⟩:=fun e=>by rw[e,List.take_length]
    have z1:=(DH f.al.length (x.ins.take j) ⟨false,C⟩).trans cJ;have dK:AT f RR k x.ins ⟨false,C⟩ j=(opsV f.al.length (fC f.al.length (x.ins.take j) ⟨false,C⟩) (x.ins.getD j eB)&&CR f RR k (x.ins.getD j eB)):=rfl;generalize fC f.al.length (x.ins.take j) ⟨false,C⟩=d at aF fU z1 dK;refine aP ?_;refine af ⟨_,rfl,fun h=>?_,fun h=>?_⟩
    .have cV:j<x.ins.length:=by simpa using h
     have hy:x.ins[j]? =some x.ins[j]:=aN cV;have aF:=aF _ hy;rw[getD_some hy] at dK;have v9:=alg _ (cy cV);have uE:=AN j _ hy;have tU:AT f RR k x.ins ⟨false,C⟩ j=false->(if(range f.ab.length).all (q7 f RR)=true then(0:Int) else 81)=81:=fun hq=>cq (by rw[z2,j6 cV hq];rfl);generalize x.ins[j]=y at hy aF dK v9 uE;refine az (bB ?_);refine af (aW (lQ (i:=M) (l:=[(1,.pt (aH f)),(4,.sl (CP.flatMap qd) CP.length),(5,bx L),(6,I k),(7,.rp N 0),(8,iH x.ins),(9,I j),(10,.pt (bu y))]) (ml:=[(N,.cells (cH d) 158)]) (up_same _ _ _) ⟨rfl,rfl,rfl,rfl,Hc oG,rfl,rfl,oZ,trivial⟩ ⟨Ac oG (aC oG (aC oG (up_same _ _ _))) rfl,trivial⟩) (eI (fun s=>Ghost prog s ⟨aD [(1,.pt (aH f)),(4,.sl (CP.flatMap qd) CP.length),(5,bx L),(6,I k),(7,.rp N 0),(8,iH x.ins),(9,I j),(10,.pt (bu y))],bf [(N,.cells (cH d) 158)],M+1⟩/\opsV f.al.length d y=true) ?_ ?_))
     .have bZ:=(ah7 x cz).ins y (bU hy);clear aF uE;obtain⟨X,yt,ya,yb,yn,yl⟩:=y;have qE:opsV f.al.length d ⟨X,yt,ya,yb,yn,yl⟩=((X !=17||d.is.getD ((f.al.length:Int)+yn).toNat false)&&td d (cP ⟨X,yt,ya,yb,yn,yl⟩)):=rfl;have zk:=zk (x:=⟨X,yt,ya,yb,yn,yl⟩) (fun ho=>by have:=bZ.ar ho;dsimp only at this ⊢;omega)
      have ue:=ue (c:=d) (rs:=cP ⟨X,yt,ya,yb,yn,yl⟩) (fun r hr=>by
       obtain⟨i,h1,h2⟩:=v9.2.r r hr
       exact⟨i,oG,h2⟩)
      generalize td d (cP ⟨X,yt,ya,yb,yn,yl⟩)=v at ue qE;generalize cP ⟨X,yt,ya,yb,yn,yl⟩=rs at ue zk;have Xw:opsV f.al.length d ⟨X,yt,ya,yb,yn,yl⟩=false->I 81=I (if(range f.ab.length).all (q7 f RR)=true then 0 else 81):=fun hq=>by rw[tU (by rw[dK,hq];rfl)]
      refine dF abw ?_;by_cases iS:X=17
      .obtain⟨i,hi,e⟩:=v9.2.s iS;dsimp only at e;subst e;have YH:d.is[f.al.length+i]? =some d.is[f.al.length+i]:=aN oG;have dY:(X==17)=true:=by simp[iS]
       rw[show((f.al.length:Int)+(i:Int)).toNat=f.al.length+i by omega,getD_some YH,show(X !=17)=false by simp[iS],Bool.false_or] at qE;generalize d.is[f.al.length+i]=b at YH qE;have hqn:({ op:=X,to:=yt,a:=ya,b:=yb,n:=(i:Int),args:=yl }:bC).n=(i:Int):=rfl;refine aJ ?_;refine bK ?_;refine bt rfl rfl (ep rfl (up_same _ _ _) V.h V.h rfl) (fun hc=>⟨ak,(ez V.h V.h (by first|(simp;done)|omega|exact bE rfl))⟩) ?_;refine SS ?_;refine gc zk (gc ue (ag ?_));refine a8 bc (aw rfl (fun hp=>aj (SS ?_)) fun hp=>bd ⟨aQ eH ⟨up_same _ _ _,trivial⟩,by rw[qE];revert hp;cases b<;>cases v<;>simp⟩);exact af (aY (aR (br (aR (br (aR (av rfl (Xw (by rw[qE];revert hp;cases b<;>cases v<;>simp)))))))))
      .have dY:(X==17)=false:=by simp[iS]
       rw[show(X !=17)=true by simp[iS],Bool.true_or,Bool.true_and] at qE;refine aP ?_;(iterate 11 refine z fun _ _=>?_);refine ag ?_;refine bt rfl rfl (ep rfl (up_same _ _ _) V.h V.h rfl) (fun hc=>⟨ak,(ez V.h V.h (by first|(simp;done)|omega|exact bE rfl))⟩) ?_;refine SS ?_;refine gc zk (gc ue (ag ?_));refine a8 bc (aw rfl (fun hp=>aj (SS ?_)) fun hp=>bd ⟨aQ eH ⟨up_same _ _ _,trivial⟩,by rw[qE];revert hp;cases v<;>simp⟩);exact af (aY (aR (br (aR (br (aR (av rfl (Xw (by rw[qE];revert hp;cases v<;>simp)))))))))
     rintro s ⟨hg,Xx⟩;rw[Xx,Bool.true_and] at dK;clear Xx;have sP:=sP (x:=y)
     have hp:Fi d.is.length (dL y):=by
      rcases v9.1.w with e|⟨i,h1,h2⟩
      .exact .inl e
      .exact .inr ⟨i,oG,h2⟩
     have kw:=kB (c:=d) oG hp;have we:=(GR d (dL y)).trans z1
     have kv:y.op=18->PCall prog 124 [.agg (cH (jS d (dL y))),I ((f.al.length:Int)+y.n)] (.agg (cH (jS (jS d (dL y)) ((f.al.length:Int)+y.n)))):=fun e=>kB oG (by
      obtain⟨i,h1,h2⟩:=v9.1.s e
      exact .inr ⟨f.al.length+i,oG,by rw[h2];omega⟩)
     have fQ:y.op=18->0<=y.n/\y.n<=2000:=fun e=>by
      obtain⟨i,h1,h2⟩:=v9.1.s e;omega
     have tW:=aF;unfold xx at tW;generalize jS d (dL y)=d1 at kw we kv tW;generalize dL y=w at sP kw;have kB:=kw;refine⟨_,hg,pK abx ?_⟩;clear hg;refine ag ?_;refine cl sP (cl kB (SS ?_));refine a8 bc (aW (aQ (l:=[(1,.pt (aH f)),(4,.sl (CP.flatMap qd) CP.length),(5,bx L),(6,I k),(7,.rp N 0),(8,iH x.ins),(9,I j),(10,.pt (bu y))]) (ml:=[(N,.cells (cH d1) 158)]) eH ⟨up_same _ _ _,trivial⟩) (eI (fun s=>Ghost prog s ⟨aD [(1,.pt (aH f)),(4,.sl (CP.flatMap qd) CP.length),(5,bx L),(6,I k),(7,.rp N 0),(8,iH x.ins),(9,I j),(10,.pt (bu y))],bf [(N,.cells (cH (fC f.al.length (x.ins.take (j+1)) ⟨false,C⟩)) 158)],M+1⟩) (aj ?_) ?_))
     .refine aq ?_;refine af (aw rfl (fun eS=>lx ?_) fun eS=>bd ?_)
      .have eS:y.op=18:=by simpa using eS
       rw[if_pos eS] at tW;have kB:=kv eS;have jZ:=fQ eS;refine dA ?_;refine cl kB (SS ?_);refine af (aQ eH ⟨?_,trivial⟩);rw[tW];exact up_same _ _ _
      .have eS:¬ y.op=18:=by simpa using eS
       rw[if_neg eS] at tW;refine aQ eH ⟨?_,trivial⟩;rw[tW];exact up_same _ _ _
     intro s hg;refine⟨_,hg,az ?_⟩;clear hg tW kw kv we kB sP hp fQ aF;refine SS ?_;generalize YI:fC f.al.length (x.ins.take (j+1)) ⟨false,C⟩=dj
     refine af (cQ (α:=Nat×Nat) (fun q=>⟨aD [(1,.pt (aH f)),(4,.sl (CP.flatMap qd) CP.length),(5,bx L),(6,I k),(7,.rp N 0),(8,iH x.ins),(9,I j),(10,.pt (bu y)),(11,I q.1)],bf [(N,.cells (cH dj) 158)],q.2⟩)
      (fun q=>q.1<=y.args.length/\N<q.2/\(q.1=0\/y.op=19)/\(range q.1).all (q8 f RR k y)=true) (fun q=>y.args.length - q.1) (0,M+1) (aQ eH ⟨up_same _ _ _,trivial⟩) ⟨Nat.zero_le _,oM,.inl rfl,rfl⟩ ?_)
     rintro⟨q,M2⟩ ⟨hq,iq,ali,Gh⟩;dsimp only at hq iq ali Gh ⊢;by_cases fH:y.op=19
     .have dY:(y.op==19)=true:=by simp[fH]
      have YJ:cr y=true:=by simp[cr,fH]
      have uE:=(uE YJ).1;have vW:CR f RR k y=(range y.args.length).all (q8 f RR k y):=by unfold CR;rw[YJ];rfl
      have F3:∀ p∈bH f.ab f.ab.length k,∃ pn:Nat,p=pn/\pn<f.ab.length:=fun p hp=>by
       obtain⟨b,h1,h2,_⟩:=Gy.1 hp;exact⟨b,h1,h2⟩
      have J:∀ q,q8 f RR k y q=((cF f.al.length (f.al.length+f.aZ.length) RR ((bH f.ab f.ab.length k).getD q 0).toNat).any||(nY (f.ab.getD ((bH f.ab f.ab.length k).getD q 0).toNat kn).fin k (fC f.al.length (f.ab.getD ((bH f.ab f.ab.length k).getD q 0).toNat kn).ins (cF f.al.length (f.al.length+f.aZ.length) RR ((bH f.ab f.ab.length k).getD q 0).toNat))).is.getD (y.args.getD q 0).toNat false):=fun q=>rfl;have AK:=v9.2.p fH;have Ot:=Gz hw f.ab.length k;generalize bH f.ab f.ab.length k=A at uE F3 J hAg Ot;by_cases Du:q<y.args.length
      .have jU:decide ((q:Int)<(y.args.length:Int))=true:=decide_eq_true oG;refine bK ?_;refine ag ?_;refine af ⟨_,rfl,fun h=>?_,fun h=>oH⟩;have J:=J q;have YK:A[q]? =some A[q]:=aN oG;obtain⟨pn,e1,Dp⟩:=F3 _ (cy (h:=by omega):A[q]∈A);rw[e1] at YK;clear e1;rw[getD_some YK,bN] at J;have Bo:=OV pn Dp;have Ng:(cF f.al.length (f.al.length+f.aZ.length) RR pn).is.length=f.al.length+f.aZ.length:=JQ;generalize cF f.al.length (f.al.length+f.aZ.length) RR pn=cp at Bo J Ng;obtain⟨pa,pi⟩:=cp;refine ws (bK ?_);refine af (aB (aj ?_));cases pa with
       |true=>
        refine aO ?_;refine af (cx rfl (fun h=>jy (mR (aq ?_))) fun h=>oH);exact af (aK (q+1,M2) (aQ eH ⟨up_same _ _ _,trivial⟩) ⟨oM,iq,.inr fH,lP Gh J⟩ oM)
       |false=>
       refine aO ?_;refine af (cx rfl (fun h=>oH) fun h=>bP (pK aby ?_));have v8:f.ab[pn]? =some f.ab[pn]:=aN Dp;have rm:f.ab[pn]∈f.ab:=cy _;rw[getD_some v8] at J;generalize f.ab[pn]=xp at v8 rm J;have xy:=xy (c:=⟨false,pi⟩) v8 Ng oG (fun y hy=>(hF.ins xp rm y hy).1) (by have:=(hF.ok.blk xp rm).len;omega);have iO:=(DH f.al.length xp.ins ⟨false,pi⟩).trans Ng;generalize fC f.al.length xp.ins ⟨false,pi⟩=pc at xy J iO
       have zl:=zl (c:=pc) (to:=(k:Int)) v8 (by have:=hw xp rm;omega) oG (by
        rcases hF.wr xp rm with e|⟨r,h1,h2⟩
        .exact .inl e
        .exact .inr ⟨r,oG,h2⟩)
       have A6:=(Qt xp.fin k pc).trans iO;generalize nY xp.fin k pc=zQ at zl J A6;have FU:y.args[q]? =some y.args[q]:=aN Du;obtain⟨ri,Ou,e2⟩:=AK _ (cy Du);rw[e2] at FU;clear e2;have YL:zQ.is[ri]? =some zQ.is[ri]:=aN oG;rw[getD_some FU,bN,getD_some YL] at J;generalize zQ.is[ri]=bz at YL J;have J:q8 f RR k y q=bz:=J;refine aJ ?_;refine cl xy (cl zl (ag ?_));refine a8 bc (aW (lQ (i:=M2) (l:=[(1,.pt (aH f)),(4,.sl (CP.flatMap qd) CP.length),(5,bx L),(6,I k),(7,.rp N 0),(8,iH x.ins),(9,I j),(10,.pt (bu y)),(11,I q),(13,.pt (cH zQ))]) (ml:=[(N,.cells (cH dj) 158)]) (up_same _ _ _) ⟨rfl,rfl,rfl,rfl,Hc oG,rfl,rfl,rfl,rfl,oZ,trivial⟩ ⟨Ac oG (aC oG (aC oG (up_same _ _ _))) rfl,trivial⟩) (dF abz (bK ?_)));refine ag ?_;refine a8 bc (aw rfl (fun hp=>aj ?_) fun hp=>bS ?_)
       .have OW:bz=false:=by simpa using hp
        refine SS ?_;refine af (aY (br (br (aR (br (aR (av (d:=I 81) rfl ?_)))))));rw[tU (by rw[dK,vW,j6 Du (by rw[J,OW])])]
       .have OW:bz=true:=by simpa using hp
        refine aq ?_;exact af (aK (q+1,M2+1) (aQ eH ⟨up_same _ _ _,trivial⟩) ⟨oM,oM,.inr fH,lP Gh (by rw[J,OW])⟩ oM)
      .have jU:decide ((q:Int)<(y.args.length:Int))=false:=decide_eq_false oG;have:q=y.args.length:=by omega
       subst this;rw[<- vW] at Gh;refine bK ?_;refine ag ?_;refine af ⟨_,rfl,fun h=>oH,fun h=>?_⟩;show AOps _ _ _ _ _ _ _ _ _;refine aq ?_;refine af (aK (j+1,M2) (aQ eH ⟨?_,trivial⟩) ⟨oM,iq,lP wg (by rw[dK,Gh])⟩ oM);dsimp only;rw[YI];exact up_same _ _ _
     .have dY:(y.op==19)=false:=by simp[fH]
      have vW:CR f RR k y=true:=by unfold CR cr;simp[fH]
      refine aP ?_;(iterate 5 refine z fun _ _=>?_);refine SS ?_;refine af ⟨_,rfl,fun h=>oH,fun h=>?_⟩;show AOps _ _ _ _ _ _ _ _ _;refine aq ?_;refine af (aK (j+1,M2) (aQ eH ⟨?_,trivial⟩) ⟨oM,iq,lP wg (by rw[dK,vW])⟩ oM);dsimp only;rw[YI];exact up_same _ _ _
    .have a9:¬ j<x.ins.length:=by simpa using h
     have:j=x.ins.length:=by omega
     subst this;rw[<- fU rfl];exact⟨M,aQ eH ⟨up_same _ _ _,trivial⟩,hM,wg⟩
   .rintro s ⟨M,hg,hM,oE⟩;rw[oE,Bool.true_and] at z2;have z1:=(DH f.al.length x.ins ⟨false,C⟩).trans cJ;refine⟨_,hg,dF abA ?_⟩;generalize fC f.al.length x.ins ⟨false,C⟩=d at z2 z1;have Iy:=Iy (x:=x.fin) (fun h5 ho=>by have:=(hF.ok.akH x cz h5).ar ho;omega) (fun h1=>by have:=(hF.ok.ends x cz).fin.a2 (by rcases h1 with e|e<;>simp[aU,e]);omega)
    have ue:=ue (c:=d) (rs:=cK x.fin) (fun r hr=>by
     obtain⟨i,h1,h2⟩:=hF.rd x cz r hr
     exact⟨i,oG,h2⟩)
    rw[<- z2] at ue;generalize cK x.fin=rs at Iy ue;refine dA ?_;refine cl Iy (cl ue (SS ?_));refine a8 bc (aw rfl (fun hp=>?_) fun hp=>bS ?_)
    .refine ws (SS ?_);refine af (aY (br (aR (av (d:=I 81) rfl ?_))));rw[cq (by simpa using hp)]
    .refine aq ?_;exact af (aK (k+1,M) (fS eH) ⟨oM,lP bD (by simpa using hp)⟩ oM)
  .have a9:¬ k<f.ab.length:=by simpa using h
   have:k=f.ab.length:=by omega
   subst this;exact⟨⟨N,fS (l:=[]) trivial⟩,bD⟩
 .rintro s ⟨⟨N,hg⟩,bD⟩;refine⟨_,hg,aj ?_⟩;refine SS ?_;refine af (av (d:=I 0) rfl ?_);rw[bD];rfl
end Go.Proofs.Tryz.K
end
namespace Go.Argus
open Go Go.Abs
section
variable{beh:Nat->List Int}{w:Int}{S:Nat->Prop}(hS:∀ x,S x->∀ c∈beh x,c≠w->S c.toNat)
include hS
theorem S0:∀ (k:Nat) (s:List Bool×List Int) (b:Nat),S b->(∀ i,s.1.getD i false=true->S i)->∀ i,(eO beh w k s b).1.getD i false=true->S i
 |0,s,b,_,h,i,hi=>h i hi
 |k+1,s,b,hb,h,i,hi=>by
  rw[wl] at hi
  have h1:∀ i,(s.1.set b true).getD i false=true->S i:=fun i hi=>by
   rw[bl,List.getElem?_set] at hi;by_cases e:b=i
   .subst e;exact hb
   .rw[if_neg e, <- List.getD_eq_getElem?_getD] at hi;exact h i hi
  have key:∀ l:List Int,(∀ c∈l,c∈beh b)->∀ t:List Bool×List Int,(∀ i,t.1.getD i false=true->S i)->∀ i,(dZ beh w k t l).1.getD i false=true->S i:=fun l=>by
   induction l with
   |nil=>exact fun _ t ht i hi=>ht i hi
   |cons c l ih=>
    intro hl t ht i hi;unfold dZ at hi;rw[List.foldl_cons] at hi;refine ih (fun c hc=>hl c (by simp[hc])) _ ?_ i hi;split
    .rename_i hc;exact S0 k t c.toNat (hS b hb c (hl c oS) hc.2) ht
    .exact ht
  exact key (beh b) (fun _ h=>h) _ h1 i hi
theorem GV{n:Nat}(h0:S 0):∀ i,(cO beh n w).getD i false=true->S i:=fun i hi=>by
 have C:∀ i,(replicate n false).getD i false=false:=fun i=>by
  rw[bl,List.getElem?_replicate];split<;>rfl
 unfold cO at hi;split at hi
 .rw[C] at hi;cases hi
 .exact S0 hS n _ 0 h0 (fun i hi=>by rw[C] at hi;cases hi) i hi
end
theorem JS{beh:Nat->List Int}{n:Nat}{w:Int}(hb:∀ b,∀ c∈beh b,0<=c/\c.toNat<n)(hn:0<n)(C:w≠0):(cO beh n w).getD 0 false=true/\∀ x,(cO beh n w).getD x false=true->∀ c∈beh x,c≠w->(cO beh n w).getD c.toNat false=true:=by
 obtain⟨_,h2,h3⟩:=Fo hb hn w;unfold cO;rw[if_neg C];exact⟨h2,h3⟩
theorem acU{beh:Nat->List Int}{n:Nat}{w:Int}(hb:∀ b,∀ c∈beh b,0<=c/\c.toNat<n)(hn:0<n){o:List Bool}(hl:o.length=n)(h0:o.getD 0 false=true)
 (hc:∀ x,o.getD x false=true->∀ c∈beh x,c≠w->o.getD c.toNat false=true) (hs:∀ i,o.getD i false=true->(cO beh n w).getD i false=true):o=cO beh n w:=by
 have hr:=wk hb hn w;apply List.ext_getElem?;intro i;by_cases hi:i<n
 .have h1:o[i]? =some o[i]:=aN oG;have h2:(cO beh n w)[i]? =some (cO beh n w)[i]:=aN oG;have e1:o.getD i false=o[i]:=by simp[bl,h1]
  have e2:(cO beh n w).getD i false=(cO beh n w)[i]:=by simp[bl,h2]
  rw[h1,h2];congr 1;rw[Bool.eq_iff_iff, <- e1, <- e2];exact⟨hs i,GV (S:=fun i=>o.getD i false=true) hc h0 i⟩
 .rw[List.getElem?_eq_none oG,List.getElem?_eq_none oG]
def dB(beh:Nat->List Int)(n a b:Nat):Bool:=(cO beh n (-1)).getD a false&&((cO beh n (-1)).getD b false&& !(cO beh n a).getD b false)
def H6(beh:Nat->List Int)(n b:Nat)(p:Int)(a:Nat):Int:=if a≠b/\dB beh n a b=true/\(p<0\/dB beh n p.toNat a=true) then a else p
def iA(beh:Nat->List Int)(n b k:Nat):Int:=(range k).foldl (H6 beh n b) (-1)
def Cr(beh:Nat->List Int)(n:Nat):List Int:=(range n).map fun b=>iA beh n b n
theorem JT(beh:Nat->List Int)(n b k:Nat):iA beh n b (k+1)=H6 beh n b (iA beh n b k) k:=by
 unfold iA;rw[List.range_succ,List.foldl_append];rfl
theorem adg{beh:Nat->List Int}{n:Nat}(hb:∀ b,∀ c∈beh b,0<=c/\c.toNat<n)(hn:0<n){a x:Nat}:(cO beh n a).getD x false=true↔Av (iZ beh) a x:=by
 by_cases h0:a=0
 .subst h0;constructor
  .intro h;unfold cO at h;rw[if_pos (show((0:Nat):Int)=0 from rfl),bl,List.getElem?_replicate] at h;split at h<;>cases h
  .intro h;exfalso
   induction h with
   |zero h=>exact h rfl
   |step _ _ _ ih=>exact ih
 .constructor
  .refine GV (S:=fun i=>Av (iZ beh) a i) (fun x hx c hc C=>?_) (.zero (fun e=>h0 e.symm)) x;have:=hb x c hc;have e:((c.toNat:Nat):Int)=c:=Int.toNat_of_nonneg this.1;refine .step hx ?_ fun J=>C (by rw[<- e,J]);show((c.toNat:Nat):Int)∈beh x;rw[e];exact hc
  .intro h;obtain⟨h1,h2⟩:=JS (w:=(a:Int)) hb hn oG
   induction h with
   |zero _=>exact h1
   |step _ e C ih=>
    have:=h2 _ ih _ e oG
    rwa[bN] at this
theorem bL.chain{N:Nat->Nat}{a c x:Nat}(h1:bL N a x)(h2:bL N c x):bL N a c\/bL N c a:=by
 induction h1 with
 |refl=>exact .inr h2
 |@up x h1 ih=>
  rcases h2.inv with e|h2
  .subst e;exact .inl (.up h1)
  .exact ih h2
section
variable{beh ahd:Nat->List Int}{n:Nat}(h:ud beh ahd n)
include h
theorem wY{a b:Nat}:dB beh n a b=true↔bM beh n a/\bM beh n b/\vJ beh a b:=by
 unfold dB;rw[aM,aM,Bool.not_eq_true'];show bM beh n a/\bM beh n b/\_↔_;refine and_congr_right fun _=>and_congr_right fun _=>?_;unfold vJ;rw[<- adg h.to h.pos,Bool.not_eq_true]
theorem KF{b:Nat}(rb:bM beh n b):∀ k,(iA beh n b k= -1/\∀ a,a<k->a≠b->¬ dB beh n a b=true)\/
 ∃ q:Nat,iA beh n b k=q/\q≠b/\dB beh n q b=true/\∀ a,a<k->a≠b->dB beh n a b=true->bL (fw beh ahd n) a q
 |0=>.inl ⟨rfl,fun a ha=>absurd ha (Nat.not_lt_zero _)⟩
 |k+1=>by
  rw[JT];unfold H6;rcases KF rb k with⟨e,hn⟩|⟨q,e,hq,dq,hn⟩
  .rw[e];by_cases hc:k≠b/\dB beh n k b=true
   .rw[if_pos ⟨hc.1,hc.2,.inl oG⟩];refine .inr ⟨k,rfl,hc.1,hc.2,fun a ha J C=>?_⟩;by_cases M:a=k
    .subst M;exact .refl _
    .exact absurd C (hn a oG J)
   .rw[if_neg fun hx=>hc ⟨hx.1,hx.2.1⟩];refine .inl ⟨rfl,fun a ha J C=>?_⟩;by_cases M:a=k
    .subst M;exact hc ⟨J,C⟩
    .exact hn a oG J C
  .rw[e,bN];have rq:=((wY h).1 dq).1;by_cases hc:k≠b/\dB beh n k b=true/\((q:Int)<0\/dB beh n q k=true)
   .rw[if_pos hc];refine .inr ⟨k,rfl,hc.1,hc.2.1,fun a ha J C=>?_⟩;by_cases M:a=k
    .subst M;exact .refl _
    .have dk:=(wY h).1 (hc.2.2.resolve_left oG);exact(hn a oG J C).trans ((sm h dk.2.1).2 dk.2.2)
   .rw[if_neg hc];refine .inr ⟨q,rfl,hq,dq,fun a ha J C=>?_⟩;by_cases M:a=k
    .subst M;have X:=(wY h).1 C;have d2:=(wY h).1 dq;rcases((sm h rb).2 X.2.2).chain ((sm h rb).2 d2.2.2) with g|g
     .exact g
     .exact absurd ⟨J,C,.inr ((wY h).2 ⟨rq,X.1,(sm h X.1).1 g⟩)⟩ hc
    .exact hn a oG J C
theorem adh(b:Nat):iA beh n b n=dD (gj beh ahd n) b:=by
 by_cases C:bM beh n b
 .by_cases hz:b=0
  .subst hz;rw[Rt h];rcases KF h C n with⟨e,_⟩|⟨q,_,hq,dq,_⟩
   .exact e
   .exact absurd (.zero fun e=>hq e.symm) ((wY h).1 dq).2.2
  .obtain⟨p1,X,p3⟩:=HG h C hz;have aE:fw beh ahd n b≠b:=fun e=>by rw[e] at p3;omega
   have hd:dB beh n (fw beh ahd n b) b=true:=(wY h).2 ⟨X,C,(sm h C).1 (.up (.refl _))⟩;rw[p1];rcases KF h C n with⟨_,hn⟩|⟨q,e,hq,dq,hn⟩
   .exact absurd hd (hn _ (B8 h X) aE)
   .rw[e];have a1:=hn _ (B8 h X) aE hd;have d:=(wY h).1 dq;rcases((sm h C).2 d.2.2).inv with e'|a2
    .exact absurd e' hq
    .have J:=((pU h).low d.1 a1).2;have M:=((pU h).low X a2).2
     have:q=fw beh ahd n b:=by
      rcases J with J|J
      .exact J.symm
      .rcases M with M|M
       .exact M
       .omega
     rw[this]
 .rw[SP h C]
  have:∀ k,iA beh n b k= -1:=fun k=>by
   induction k with
   |zero=>rfl
   |succ k ih=>
    rw[JT,ih];unfold H6;rw[if_neg fun hx=>C ((wY h).1 hx.2.1).2.1]
  exact this n
theorem aeg:Cr beh n=gj beh ahd n:=by
 refine List.ext_getElem? fun i=>?_;unfold Cr;have hl:=z5 h;rcases Nat.lt_or_ge i n with g|g
 .rw[List.getElem?_map,List.getElem?_range g,aN (show i<(gj beh ahd n).length by omega)];show some (iA beh n i n)=_;rw[adh h i];unfold dD;rw[bN,bl,aN (show i<(gj beh ahd n).length by omega)];rfl
 .rw[List.getElem?_eq_none (by simpa using g),List.getElem?_eq_none oG]
end
section
variable{beh ahd:Nat->List Int}{n:Nat}(h:ud beh ahd n)
include h
end
end Go.Argus
section
open Go Go.Abs Go.Proofs Go.Argus
namespace Go.Proofs.Tryz.K
theorem alj{f:aG}(hF:tQ f)(hw:∀ b∈f.ab,b.fin.aL.length<=9){w:Int}:OCall prog 75 [.agg (aH f),I w] ((cO (aT f) f.ab.length w).map B) f.ab.length 4:=by
 have hb:=beh_in hF.ok
 change ∀ b,∀ t∈aT f b,_ at hb
 have FM:=hF.ok.mC;have ow:=hF.ok.pos;have a7:∀ a∈[D.agg (aH f),I w],Tr a:=.cons (.agg (iu f)) (.cons (.s _) .nil);refine zK alk a7 (.map fun _=>.s _) ?_;rw[alm];refine az (ag ?_);refine af (aW (bG [(0,aH f,26)] eH (l:=[(1,I w),(2,.pt (aH f))]) eH) (az ?_));have dn:((f.ab.length:Nat):Int).toNat=f.ab.length:=bN _;refine aO ?_;refine af (aW (aQ (l:=[(1,I w),(2,.pt (aH f)),(5,.rs 1 0 f.ab.length)]) (ml:=[(1,.cells ((replicate f.ab.length false).map B) 4)]) ⟨rfl,rfl,congrArg (fun k=>D.rs 1 0 k) dn,trivial⟩ ⟨?_,trivial⟩) (aB (aj ?_)))
 .exact congrArg (fun c=>some (Row.cells c 4)) ((congrArg (fun k=>replD k [B false]) dn).trans (wA _ false))
 by_cases Dw:w=0
 .have dY:(w==0)=true:=by simp[Dw]
  have hr:cO (aT f) f.ab.length w=replicate f.ab.length false:=by unfold cO;rw[if_pos Dw]
  rw[hr];refine ag ?_;refine af (dN (aB (aj (ag ?_))));exact af (bX (av rfl ⟨1,rfl,rfl⟩))
 have dY:(w==0)=false:=by simp[Dw]
 refine ag ?_;refine af (gU (bP (az ?_)));clear dY;obtain⟨AX,YM⟩:=JS hb ow Dw;have kZ:=wk hb ow w;have xO:=fun(o:List Bool)=> @acU (aT f) f.ab.length w hb ow o;generalize cO (aT f) f.ab.length w=RR at AX YM kZ xO ⊢;have hlz:((replicate f.ab.length false).map B).length=f.ab.length:=by simp
 refine aq ?_;refine af (aW (aQ (l:=[(1,I w),(2,.pt (aH f)),(5,.rs 1 0 f.ab.length)]) (ml:=[(1,.cells (((replicate f.ab.length false).set 0 true).map B) 4)]) eH ⟨by rw[List.map_set];rfl,trivial⟩) (az (SS ?_)))
 refine af (bR (fun s=>Ghost prog s ⟨aD [(5,.rs 1 0 f.ab.length)],bf [(1,.cells (RR.map B) 4)],2⟩) (yC (α:=List Bool×Bool) (fun s=>⟨aD [(1,I w),(2,.pt (aH f)),(5,.rs 1 0 f.ab.length),(6,B s.2)],bf [(1,.cells (s.1.map B) 4)],2⟩)
  (fun s=>s.1.length=f.ab.length/\s.1.getD 0 false=true/\(∀ i,s.1.getD i false=true->RR.getD i false=true)/\(s.2=false->∀ x,s.1.getD x false=true->∀ c∈aT f x,c≠w->s.1.getD c.toNat false=true)) (fun s=>2*s.1.count false+if s.2=true then 1 else 0) ((replicate f.ab.length false).set 0 true,true)
  (aQ eH eH) ⟨oS,?_,fun i hi=>?_,fun h=>by cases h⟩ ?_) ?_)
 .rw[Aa oP,if_pos rfl]
 .dsimp only at hi;rw[Aa oP] at hi;by_cases e:i=0
  .rw[e];exact AX
  .rw[if_neg e,bl,List.getElem?_replicate] at hi;split at hi<;>cases hi
 .rintro⟨J,t0⟩ ⟨rH,Gi,zt,vU⟩;dsimp only at rH Gi zt vU ⊢;refine SS ?_;refine af ⟨_,rfl,fun ht=>?_,fun ht=>?_⟩
  .refine ws (SS ?_);refine af (az (SS ?_))
   refine af (cQ (α:=Nat×List Bool×Bool) (fun s=>⟨aD [(1,I w),(2,.pt (aH f)),(5,.rs 1 0 f.ab.length),(6,B s.2.2),(7,I s.1)],bf [(1,.cells (s.2.1.map B) 4)],2⟩)
    (fun s=>s.1<=f.ab.length/\s.2.1.length=f.ab.length/\s.2.1.getD 0 false=true/\(∀ i,s.2.1.getD i false=true->RR.getD i false=true)/\(s.2.2=false->s.2.1=J/\∀ x,x<s.1->J.getD x false=true->∀ c∈aT f x,c≠w->J.getD c.toNat false=true)/\(s.2.2=true->s.2.1.count false<J.count false)) (fun s=>f.ab.length - s.1) (0,J,false)
    (aQ eH eH) ⟨Nat.zero_le _,rH,Gi,zt,fun _=>⟨rfl,fun x hx=>by dsimp only at hx;omega⟩,fun h=>by cases h⟩ ?_)
   rintro⟨k,o,t⟩ ⟨hk,hl,h0,hs,hf,M⟩;dsimp only at hk hl h0 hs hf M ⊢;have xB:(o.map B).length=f.ab.length:=by simp[hl]
   refine aO ?_;refine af ⟨_,rfl,fun h=>?_,fun h=>?_⟩
   .have ao:k<f.ab.length:=by simpa using h
    have hx:f.ab[k]? =some f.ab[k]:=aN ao;have cz:f.ab[k]∈f.ab:=cy _;have lL:=lL hx (by have:=hw _ cz;omega);rw[(hF.ed _ cz).2, <- Kn hx] at lL;have iQ:=hb k;have Xy:=YM k
    have bZ:o[k]? =some (o.getD k false):=by
     rw[aN (show k<o.length by omega),getD_some (aN (show k<o.length by omega))]
    have xF:∀ b,o.getD k false=b->o.getD k false=b:=fun _ h=>h
    have jj:(aT f k).length<=100000:=by
     rw[Kn hx];have:=z7 f.ab[k].fin;have:=hw _ cz;omega
    have kd:=iG (f:=B) bZ;refine aB (aj ?_);generalize aln:aT f k=l at lL iQ Xy jj;cases X:o.getD k false with
    |false=>
     rw[X] at kd;refine aO ?_;refine af (cx rfl (fun h=>jy (mR (aq ?_))) fun h=>oH);refine af (aK (k+1,o,t) (aQ eH eH) ⟨oM,hl,h0,hs,fun h=>⟨(hf h).1,fun x hx C=>?_⟩,M⟩ oM);dsimp only at hx;by_cases e:x=k
     .subst e;rw[<- (hf h).1,X] at C;cases C
     .exact(hf h).2 x oG C
    |true=>
    rw[X] at kd;refine aO ?_;refine af (cx rfl (fun h=>oH) fun h=>bP (aj (ag ?_)));refine cl lL (SS ?_);refine af (az (SS ?_))
    refine af (cQ (α:=Nat×List Bool×Bool) (fun s=>⟨aD [(1,I w),(2,.pt (aH f)),(5,.rs 1 0 f.ab.length),(6,B s.2.2),(7,I k),(8,au l),(9,I s.1)],bf [(1,.cells (s.2.1.map B) 4)],2⟩)
     (fun s=>s.1<=l.length/\s.2.1.length=f.ab.length/\s.2.1.getD 0 false=true/\s.2.1.getD k false=true/\(∀ i,s.2.1.getD i false=true->RR.getD i false=true)/\(s.2.2=false->s.2.1=J/\(∀ x,x<k->J.getD x false=true->∀ c∈aT f x,c≠w->J.getD c.toNat false=true)/\∀ c∈l.take s.1,c≠w->J.getD c.toNat false=true)/\(s.2.2=true->s.2.1.count false<J.count false)) (fun s=>l.length - s.1) (0,o,t)
     (aQ eH eH) ⟨Nat.zero_le _,hl,h0,X,hs,fun h=>⟨(hf h).1,(hf h).2,fun c hc=>by simp at hc⟩,M⟩ ?_)
    clear hl h0 hs hf M xB bZ xF kd X;rintro⟨j,o,t⟩ ⟨hj,hl,h0,X,hs,hf,M⟩;dsimp only at hj hl h0 X hs hf M ⊢;have xB:(o.map B).length=f.ab.length:=by simp[hl]
    refine aP ?_;refine af ⟨_,rfl,fun h=>?_,fun h=>?_⟩
    .have cV:j<l.length:=by simpa using h
     have hy:l[j]? =some l[j]:=aN cV;have ye:=iQ _ (cy cV);have zY:=Xy (hs k X) _ (cy cV);have uy:l.take (j+1)=l.take j++[l[j]]:=by rw[List.take_add_one,hy];rfl
     generalize l[j]=c at hy ye zY uy;obtain⟨i,rfl⟩:=cU ye.1;rw[bN] at ye zY
     have xE:o[i]? =some (o.getD i false):=by
      rw[aN (show i<o.length by omega),getD_some (aN (show i<o.length by omega))]
     have kd:=iG (f:=B) xE;refine ws ?_;by_cases uI:(i:Int)=w
     .have dv:((i:Int) !=w)=false:=by simp[uI]
      refine dA ?_;(iterate 8 refine z fun _ _=>?_);refine SS ?_;refine af (aw rfl (fun h=>oH) fun h=>bS (aq ?_));refine af (aK (j+1,o,t) (aQ eH eH) ⟨oM,hl,h0,X,hs,fun h=>⟨(hf h).1,(hf h).2.1,fun c hc aE=>?_⟩,M⟩ oM);dsimp only at hc;rw[uy] at hc;rcases List.mem_append.1 hc with hc|hc
      .exact(hf h).2.2 c hc aE
      .rw[List.mem_singleton.1 hc] at aE;exact absurd uI aE
     .have dv:((i:Int) !=w)=true:=by simp[uI]
      cases qC:o.getD i false with
      |true=>
       rw[qC] at kd;refine aJ ?_;refine aq ?_;refine bt rfl rfl (mN rfl rfl rfl V.h V.h) (fun hc=>⟨ak,⟨V.h,oG⟩⟩) (bt rfl rfl (gQ rfl rfl kd V.h) (fun hc=>⟨ak,(gR V.h V.h kd)⟩) (ag ?_));refine af (aw rfl (fun h=>oH) fun h=>bS (aq ?_));refine af (aK (j+1,o,t) (aQ eH eH) ⟨oM,hl,h0,X,hs,fun h=>⟨(hf h).1,(hf h).2.1,fun c hc aE=>?_⟩,M⟩ oM);dsimp only at hc;rw[uy] at hc;rcases List.mem_append.1 hc with hc|hc
       .exact(hf h).2.2 c hc aE
       .rw[List.mem_singleton.1 hc,bN, <- (hf h).1];exact qC
      |false=>
       rw[qC] at kd;have sS:=aea (show i<o.length by omega) qC;have sL:∀ q,(o.set i true).getD q false=if q=i then true else o.getD q false:=fun q=>Aa oG
       refine aJ ?_;refine aq ?_;refine bt rfl rfl (mN rfl rfl rfl V.h V.h) (fun hc=>⟨ak,⟨V.h,oG⟩⟩) (bt rfl rfl (gQ rfl rfl kd V.h) (fun hc=>⟨ak,(gR V.h V.h kd)⟩) (ag ?_));refine af (aw rfl (fun h=>aj (dA ?_)) fun h=>oH);refine af (fh (SS ?_));refine af (aq ?_);refine af (aK (j+1,o.set i true,true) (aQ eH ⟨by rw[List.map_set];rfl,trivial⟩) ⟨oM,by dsimp only;rw[List.length_set];exact hl,?_,?_,fun q hq=>?_,fun h=>oH,fun _=>?_⟩ oM)
       .dsimp only;rw[sL];split
        .rfl
        .exact h0
       .dsimp only;rw[sL];split
        .rfl
        .exact X
       .dsimp only at hq;rw[sL] at hq;split at hq
        .rename_i e;rw[e];exact zY uI
        .exact hs q hq
       .dsimp only;cases t with
        |false=>rw[(hf rfl).1] at sS ⊢;exact sS
        |true=>exact Nat.lt_trans sS (M rfl)
    .have a9:¬ j<l.length:=by simpa using h
     rw[df oG] at hf;show AOps _ _ _ _ _ _ _ _ _;refine aq ?_;refine af (aK (k+1,o,t) (aQ eH eH) ⟨oM,hl,h0,hs,fun h=>⟨(hf h).1,fun x hx C=>?_⟩,M⟩ oM);dsimp only at hx;by_cases e:x=k
     .rw[e,aln];exact(hf h).2.2
     .exact(hf h).2.1 x oG C
   .have a9:¬ k<f.ab.length:=by simpa using h
    refine aK (o,t) (aQ eH eH) ⟨hl,h0,hs,fun h x C=>?_⟩ ?_
    .dsimp only at h C ⊢;have hh:=hf h;rw[hh.1] at C ⊢;by_cases mD:x<k
     .exact hh.2 x mD C
     .exfalso;rw[bl,List.getElem?_eq_none oG] at C;cases C
    .dsimp only;rw[if_pos ht];cases t with
     |false=>rw[(hf rfl).1];simp
     |true=>have:=M rfl;simp;omega
  .have ho:=xO J rH Gi (vU ht) zt;rw[<- ho];exact aQ eH eH
 .intro s hg;refine⟨_,hg,aj ?_⟩;refine ag ?_;exact af (av rfl ⟨1,rfl,rfl⟩)
theorem Bq{f:aG}(hF:tQ f)(C:∀ b∈f.ab,b.fin.aL.length<=9){w:Int}:PCall prog 75 [.agg (aH f),I w] (dw (cO (aT f) f.ab.length w)):=by
 have hb:=beh_in hF.ok
 change ∀ b,∀ t∈aT f b,_ at hb
 have hl:=wk (w:=w) hb hF.ok.pos
 have h:=(alj hF C (w:=w)).afP (fun d hd=>by obtain⟨x,_,rfl⟩:=List.mem_map.1 hd;rfl) (.sl fun d hd=>by
  obtain⟨x,_,rfl⟩:=List.mem_map.1 (List.mem_of_mem_take hd)
  exact .s _)
 rw[c4,df (by simp[hl])] at h;unfold dw;rw[hl];exact h
theorem OX{a b:List Int}:PCall prog 64 [au a,au b] (B (decide (a=b))):=by
 have J:∀ x∈[au a,au b],Tr x:=.cons (cL _) (.cons (cL _) .nil);refine mJ Nh.he J fun X=>?_;have hlen:=(X (au a) oS).sl.1;unfold maxLen at hlen;refine bg Nh J (Tr.s _) ?_;rw[alo];refine ws (SS ?_);refine af (aB (aj (aO ?_)));refine af (cx rfl (fun h=>?_) fun h=>bP (aB (az ?_)))
 .refine aB (aj (SS ?_));refine af (bX (av (d:=B false) rfl ?_));have C:a≠b:=fun e=>by subst e;simp at h
  rw[decide_eq_false C]
 have jj:a.length=b.length:=by
  have:¬ ((a.length:Int)≠(b.length:Int)):=by simpa using h
  omega
 clear h;refine SS ?_
 refine af (bR (fun s=>Ghost prog s ⟨aD [],fun _=>none,0⟩/\a=b) (cQ (α:=Nat) (fun k=>⟨aD [(0,au a),(1,au b),(5,I k)],fun _=>none,0⟩)
  (fun k=>k<=a.length/\∀ j,j<k->a[j]? =b[j]?) (fun k=>a.length - k) 0 (ap eH) ⟨oG,fun j hj=>by omega⟩ ?_) ?_)
 .rintro k ⟨hk,hinv⟩;refine aP ?_;refine af ⟨_,rfl,fun h=>?_,fun h=>?_⟩
  .have ao:k<a.length:=by simpa using h
   have hx:a[k]? =some a[k]:=aN ao;have hy:b[k]? =some b[k]:=aN oG;generalize a[k]=x at hx;generalize b[k]=y at hy;refine dF acV (aJ ?_);refine a8 bc (aw rfl (fun hp=>?_) fun hp=>?_)
   .refine ws (SS ?_);refine af (aY (br (aR (av (d:=B false) rfl ?_))))
    have C:a≠b:=fun e=>by
     subst e;rw[hx] at hy;cases hy;simp at hp
    rw[decide_eq_false C]
   .refine bS (aq ?_);refine af (aK (k+1) (ap eH) ⟨oG,fun j hj=>?_⟩ oG);by_cases e:j=k
    .subst e;rw[hx,hy];congr 1;simpa using hp
    .exact hinv j oG
  .have a9:¬ k<a.length:=by simpa using h
   refine⟨fS (l:=[]) trivial,List.ext_getElem? fun j=>?_⟩;by_cases hj:j<k
   .exact hinv j hj
   .rw[List.getElem?_eq_none oG,List.getElem?_eq_none oG]
 .rintro s ⟨hg,M⟩;refine⟨_,hg,aj ?_⟩;refine SS ?_;refine af (av (d:=B true) rfl ?_);rw[decide_eq_true M]
theorem Dl{a b:List Int}:PCall prog 22 [au a,au b] (B (decide (a=b))):=by
 have OX:=OX (a:=a) (b:=b);refine bg Xz (.cons (cL _) (.cons (cL _) .nil)) (Tr.s _) ?_;rw[alp];refine ws (SS ?_);refine er (ag ?_);refine cl OX (SS ?_);exact af (av rfl rfl)
end Go.Proofs.Tryz.K
namespace Go.Argus
theorem Dx{f:aG}(h:dH f=0):jz f=true:=by
 unfold dH at h;split at h
 .assumption
 .cases h
theorem K6{l:List Bool}{i:Nat}(h:i<l.length):l[i]? =some (l.getD i false):=by
 rw[aN h,getD_some (aN h)]
end Go.Argus
end
namespace Go.Argus
open Go Go.Abs
open Go.Proofs.Tryz.K (nextR lg_ok beh_in ord_in)
section
variable{f:aG}(hF:tQ f)
include hF
end
section
variable{f:aG}(hF:tQ f)
include hF
end
end Go.Argus
namespace Go.Proofs.Tryz.K
open Go.Abs
theorem ajX:u6=(S1 (G1 u6 0) (S1 (G1 u6 1) (S1 (B1 0 (.loop (S1 (S1 (G1 u6 2) (C1 8 K1 (X1 0))) (B1 1 (S1 (S1 (G1 u6 3) (C1 23 (S1 (G1 u6 4) .ret) K1)) (S1 (G1 u6 5) (G1 u6 6))))))) (S1 (G1 u6 7) .ret)))):=kr
theorem ach:drawInfo (Z sv 6)=some [(35,38),(35,39)]:=kr
theorem ajY:sv=(S1 (G1 sv 0) (S1 (S1 (G1 sv 1) (C1 29 (S1 (G1 sv 2) .ret) K1)) (S1 (S1 (G1 sv 3) (B1 0 (.loop (S1 (S1 (G1 sv 4) (C1 33 K1 (X1 0))) (S1 (B1 1 (S1 (G2 sv 6) (C1 79 (S1 (G1 sv 7) .ret) K1))) (G1 sv 5)))))) (S1 (G1 sv 8) .ret)))):=kr
theorem alx:wL=(S1 (G1 wL 0) (S1 (S1 (G1 wL 1) (B1 0 (.loop (S1 (S1 (G1 wL 2) (C1 9 K1 (X1 0))) (S1 (B1 1 (S1 (G1 wL 4) (C1 17 (S1 (G1 wL 5) .ret) K1))) (G1 wL 3)))))) (S1 (G1 wL 6) .ret))):=kr
theorem sk3:o4=(S1 (G1 o4 0) (S1 (S1 (G1 o4 1) (C1 22 (S1 (G1 o4 2) .ret) K1)) (S1 (G1 o4 3) (S1 (G1 o4 4) (S1 (G1 o4 5) (S1 (G1 o4 6) (S1 (S1 (G1 o4 7) (C1 58 (S1 (G1 o4 8) .ret) K1)) (S1 (S1 (G1 o4 9) (C1 60 (S1 (G1 o4 10) .ret) K1)) (S1 (G1 o4 11) (S1 (G1 o4 12) .ret)))))))))):=kr
theorem aj3:nO=(S1 (G1 nO 0) (S1 (S1 (G1 nO 1) (C1 20 (S1 (G1 nO 2) .ret) K1)) (S1 (S1 (G1 nO 3) (B1 0 (.loop (S1 (S1 (G1 nO 4) (C1 25 K1 (X1 0))) (S1 (B1 1 (S1 (G1 nO 6) (C1 34 (S1 (G1 nO 7) .ret) K1))) (G1 nO 5)))))) (S1 (S1 (G1 nO 8) (B1 2 (.loop (S1 (S1 (G1 nO 9) (C1 39 K1 (X1 2))) (S1 (B1 3 (S1 (G1 nO 11) (C1 48 (S1 (G1 nO 12) .ret) K1))) (G1 nO 10)))))) (S1 (G1 nO 13) .ret))))):=kr
theorem ace:drawInfo (Z iy 9)=some []:=kr
theorem Wf:iy=(S1 (G1 iy 0) (S1 (G1 iy 1) (S1 (S1 (G1 iy 2) (C1 20 (S1 (G1 iy 3) .ret) K1)) (S1 (S1 (G1 iy 4) (C1 25 (S1 (G1 iy 5) .ret) K1)) (S1 (S1 (G1 iy 6) (B1 0 (.loop (S1 (G1 iy 7) (S1 (C1 30 K1 (X1 0)) (S1 (B1 1 (S1 (G1 iy 8) (S1 (G2 iy 9) (S1 (S1 (G1 iy 10) (C1 45 (S1 (S1 (G1 iy 11) (C1 51 (S1 (G1 iy 12) .ret) K1)) (X1 1)) K1)) (S1 (S1 (G1 iy 13) (C1 65 (S1 (G1 iy 14) .ret) K1)) (S1 (G1 iy 15) (B1 2 (.loop (S1 (G1 iy 16) (S1 (C1 73 K1 (X1 2)) (S1 (B1 3 (S1 (G1 iy 17) (S1 (G1 iy 18) (C1 78 (S1 (G1 iy 19) .ret) K1)))) (G1 iy 20)))))))))))) (G1 iy 21))))))) (S1 (G1 iy 22) .ret)))))):=kr
theorem Qa:drawInfo (Z eg 12)=some []:=kr
theorem Qb:drawInfo (Z eg 15)=some []:=kr
theorem aaM:drawInfo (Z eg 21)=some []:=kr
theorem aj0:eg=(S1 (G1 eg 0) (S1 (G1 eg 1) (S1 (S1 (G1 eg 2) (C1 23 (S1 (G1 eg 3) .ret) K1)) (S1 (G1 eg 4) (S1 (S1 (G1 eg 5) (C1 53 (S1 (G1 eg 6) .ret) K1)) (S1 (G1 eg 7) (S1 (S1 (G1 eg 8) (B1 0 (.loop (S1 (S1 (G1 eg 9) (C1 58 K1 (X1 0))) (S1 (B1 1 (S1 (S1 (G1 eg 11) (C1 70 (S1 (S1 (G2 eg 12) (C1 84 (S1 (G1 eg 13) .ret) K1)) (X1 1)) K1)) (S1 (G1 eg 14) (S1 (S1 (G2 eg 15) (C1 131 (S1 (G1 eg 16) .ret) K1)) (S1 (G1 eg 17) (S1 (G1 eg 18) (B1 2 (.loop (S1 (S1 (G1 eg 19) (C1 141 K1 (X1 2))) (S1 (B1 3 (S1 (G2 eg 21) (C1 153 (S1 (G1 eg 22) .ret) K1))) (G1 eg 20))))))))))) (G1 eg 10)))))) (S1 (S1 (G1 eg 23) (B1 4 (.loop (S1 (S1 (G1 eg 24) (C1 156 K1 (X1 4))) (S1 (B1 5 (S1 (G1 eg 26) (S1 (G1 eg 27) (B1 6 (.loop (S1 (S1 (G1 eg 28) (C1 175 K1 (X1 6))) (S1 (B1 7 (S1 (G1 eg 30) (S1 (S1 (G1 eg 31) (C1 194 (X1 7) K1)) (S1 (S1 (G1 eg 32) (C1 195 (S1 (G1 eg 33) .ret) K1)) (S1 (G1 eg 34) (S1 (G1 eg 35) (C1 214 (S1 (G1 eg 36) .ret) K1))))))) (G1 eg 29)))))))) (G1 eg 25)))))) (S1 (G1 eg 37) .ret))))))))):=kr
theorem aco:drawInfo (Z nP 5)=some []:=kr
theorem acp:drawInfo (Z nP 9)=some [(0,13),(1,13),(3,13),(4,13),(3,18),(4,18)]:=kr
theorem WG:nP=(S1 (G1 nP 0) (S1 (G1 nP 1) (S1 (S1 (G1 nP 2) (C1 15 (S1 (G1 nP 3) .ret) K1)) (S1 (G1 nP 4) (S1 (G2 nP 5) (S1 (S1 (G1 nP 6) (B1 0 (.rangeFunc (.tmp 32) #[33] (G1 nP 7) (B1 1 (S1 (G1 nP 8) (C1 35 (G2 nP 9) K1)))))) (S1 (G1 nP 10) .ret))))))):=kr
theorem aaI:drawInfo (Z iz 19)=some []:=kr
theorem ajV:iz=(S1 (G1 iz 0) (S1 (G1 iz 1) (S1 (S1 (G1 iz 2) (C1 43 (S1 (G1 iz 3) .ret) K1)) (S1 (G1 iz 4) (S1 (S1 (G1 iz 5) (B1 0 (.loop (S1 (G1 iz 6) (S1 (C1 49 K1 (X1 0)) (S1 (B1 1 (S1 (G1 iz 7) (S1 (S1 (G1 iz 8) (C1 55 (X1 1) K1)) (S1 (G1 iz 9) (C1 86 (S1 (G1 iz 10) .ret) K1))))) (G1 iz 11))))))) (S1 (S1 (G1 iz 12) (B1 2 (.loop (S1 (S1 (G1 iz 13) (C1 90 K1 (X1 2))) (S1 (B1 3 (S1 (S1 (G1 iz 15) (C1 95 (X1 3) K1)) (S1 (G1 iz 16) (B1 4 (.loop (S1 (G1 iz 17) (S1 (C1 105 K1 (X1 4)) (S1 (B1 5 (S1 (G1 iz 18) (S1 (G2 iz 19) (C1 123 (S1 (G1 iz 20) .ret) K1)))) (G1 iz 21))))))))) (G1 iz 14)))))) (S1 (G1 iz 22) .ret))))))):=kr
theorem acd:drawInfo (Z pX 6)=some []:=kr
theorem ajU:pX=(S1 (G1 pX 0) (S1 (S1 (G1 pX 1) (C1 41 (S1 (G1 pX 2) .ret) K1)) (S1 (S1 (G1 pX 3) (B1 0 (.loop (S1 (G1 pX 4) (S1 (C1 45 K1 (X1 0)) (S1 (B1 1 (S1 (G1 pX 5) (S1 (G2 pX 6) (C1 79 (S1 (G1 pX 7) .ret) K1)))) (G1 pX 8))))))) (S1 (G1 pX 9) .ret)))):=kr
theorem aaQ:drawInfo (Z bJ 24)=some []:=kr
theorem aaR:drawInfo (Z bJ 15)=some []:=kr
theorem aaT:drawInfo (Z bJ 53)=some [(1,15),(2,15),(3,15),(4,15),(5,15),(6,15)]:=kr
theorem aaU:drawInfo (Z bJ 59)=some []:=kr
theorem aj5:bJ=(S1 (G1 bJ 0) (S1 (S1 (G1 bJ 1) (C1 36 (S1 (G1 bJ 2) .ret) K1)) (S1 (G1 bJ 3) (S1 (S1 (G1 bJ 4) (B1 0 (.loop (S1 (G1 bJ 5) (S1 (C1 45 K1 (X1 0)) (S1 (B1 1 (.scope (S1 (G1 bJ 6) (S1 (G1 bJ 7) (S1 (G1 bJ 8) (S1 (G1 bJ 9) (S1 (G1 bJ 10) (S1 (.label 0) (S1 (B1 2 (.loop (S1 (S1 (G1 bJ 11) (C1 57 K1 (X1 2))) (B1 3 (S1 (G1 bJ 12) (S1 (G1 bJ 13) (B1 4 (S1 (G1 bJ 22) (C1 94 (X1 2) (S1 (G1 bJ 23) (C1 104 (S1 (S1 (G2 bJ 24) (B1 7 (.loop (S1 (G1 bJ 25) (S1 (C1 117 K1 (X1 7)) (S1 (B1 8 (S1 (G1 bJ 26) (S1 (G1 bJ 27) (C1 122 (G1 bJ 28) K1)))) (G1 bJ 29))))))) (S1 (G1 bJ 30) (S1 (G1 bJ 31) (C1 142 (G1 bJ 32) K1)))) (S1 (G1 bJ 14) (S1 (G2 bJ 15) (B1 5 (.loop (S1 (G1 bJ 16) (S1 (C1 79 K1 (X1 5)) (S1 (B1 6 (S1 (G1 bJ 17) (S1 (G1 bJ 18) (S1 (G1 bJ 19) (C1 88 (G1 bJ 20) K1))))) (G1 bJ 21))))))))))))))))))) (S1 (G1 bJ 33) (B1 9 (.loop (S1 (S1 (G1 bJ 34) (C1 151 K1 (X1 9))) (S1 (B1 10 (S1 (G1 bJ 36) (S1 (G1 bJ 37) (C1 162 (G1 bJ 38) (G1 bJ 39))))) (S1 (S1 (G1 bJ 40) (G1 bJ 41)) (G1 bJ 35)))))))))))))))) (G1 bJ 42))))))) (S1 (G1 bJ 43) (S1 (G1 bJ 44) (S1 (S1 (G1 bJ 45) (B1 11 (.loop (S1 (G1 bJ 46) (S1 (C1 182 K1 (X1 11)) (S1 (B1 12 (S1 (G1 bJ 47) (S1 (S1 (G1 bJ 48) (C1 196 (X1 12) K1)) (S1 (G1 bJ 49) (S1 (S1 (G1 bJ 50) (B1 13 (.loop (S1 (B1 14 (S1 (G1 bJ 51) (S1 (S1 (G1 bJ 52) (C1 206 (X1 13) K1)) (G2 bJ 53)))) (S1 (G1 bJ 54) (G1 bJ 55)))))) (S1 (G1 bJ 56) (G1 bJ 57))))))) (G1 bJ 58))))))) (S1 (G2 bJ 59) .ret)))))))):=kr
theorem agc:yF=(S1 (G1 yF 0) (S1 (G1 yF 1) (S1 (G1 yF 2) (C1 24 (S1 (G1 yF 3) (G1 yF 4)) K1)))):=kr
theorem agj:D2=(S1 (G1 D2 0) (S1 (G1 D2 1) .ret)):=kr
end Go.Proofs.Tryz.K
section
open Go Go.Abs Go.Proofs Go.Argus
namespace Go.Abs
theorem abB{ρ:Nat->Nat}{L:Nat->List D}{k r:Nat}{l:List D}(hl:l≠[]):jF (up ρ k r) (up L k l) (k+1)=jF ρ L k++[.rs r 0 l.length]:=by
 unfold jF;rw[List.range_succ,List.map_append];congr 1
 .refine List.map_congr_left fun i hi=>?_;have:i≠k:=by have:=List.mem_range.1 hi;omega
  rw[up_ne _ _ this,up_ne _ _ this]
 .show [jc (up ρ k r k) (up L k l k)]=_;rw[up_same,up_same,qb hl]
theorem eP.push{m m':Mem}{nx nx' j j' k r:Nat}{e et:TypeId}{ρ:Nat->Nat}{L:Nat->List D}{l:List D}(h:eP m nx j k e et ρ L)(hl:l≠[])(hr:nx<=r)(js:r<nx')(hj:nx<=j')(pv:j'<nx')(hrj:r≠j')
 (ax:m' j'=some (.cells (jF ρ L k++[.rs r 0 l.length]) e)) (MD:m' r=some (.cells l et)) (hk:∀ q,q<nx->q≠j->m' q=m q):eP m' nx' j' (k+1) e et (up ρ k r) (up L k l):=by
 have pI:∀ i,i<k+1->i≠k->L i≠[]->ρ i<nx/\m' (ρ i)=some (.cells (L i) et):=fun i hi C jX=>
  ⟨h.lt i oG jX,(hk _ (h.lt i oG jX) (h.ne i oG jX)).trans (h.sM i oG jX)⟩
 refine⟨by rw[ax,abB hl],pv,fun i hi C=>?_,fun i hi C=>?_,fun i hi C=>?_,fun a b ha hb qB jJ M=>?_⟩
 .by_cases e:i=k
  .subst e;rw[up_same,up_same];exact MD
  .rw[up_ne _ _ e] at C ⊢;rw[up_ne _ _ e];exact(pI i hi e C).2
 .by_cases e:i=k
  .subst e;rw[up_same];exact js
  .rw[up_ne _ _ e] at C ⊢;have:=(pI i hi e C).1;omega
 .by_cases e:i=k
  .subst e;rw[up_same];exact hrj
  .rw[up_ne _ _ e] at C ⊢;have:=(pI i hi e C).1;omega
 .by_cases X:a=k
  .by_cases J:b=k
   .omega
   .subst X;rw[up_same,up_ne _ _ J] at M;rw[up_ne _ _ J] at jJ;have:=(pI b hb J jJ).1;omega
  .by_cases J:b=k
   .subst J;rw[up_same,up_ne _ _ X] at M;rw[up_ne _ _ X] at qB;have:=(pI a ha X qB).1;omega
   .rw[up_ne _ _ X] at qB M;rw[up_ne _ _ J] at jJ M;exact h.inj a b oG oG qB jJ M
theorem eP.nil{m:Mem}{nx j:Nat}{e et:TypeId}{ρ:Nat->Nat}{L:Nat->List D}(hm:m j=some (.cells [] e))(hj:j<nx):eP m nx j 0 e et ρ L:=
 ⟨hm,hj,fun _ h=>absurd h (Nat.not_lt_zero _),fun _ h=>absurd h (Nat.not_lt_zero _),fun _ h=>absurd h (Nat.not_lt_zero _),fun _ _ h=>absurd h (Nat.not_lt_zero _)⟩
theorem eP.congr{m:Mem}{nx j n:Nat}{e et:TypeId}{ρ:Nat->Nat}{L M:Nat->List D}(h:eP m nx j n e et ρ L)(J:∀ i,i<n->M i=L i):eP m nx j n e et ρ M:=by
 refine⟨?_,h.qA,fun i hi C=>?_,fun i hi C=>h.lt i hi (J i hi▸C),fun i hi C=>h.ne i hi (J i hi▸C),fun a b ha hb qB X=>h.inj a b ha hb (J a ha▸qB) (J b hb▸X)⟩
 .rw[h.row];congr 2;exact List.map_congr_left fun i hi=>by rw[J i (List.mem_range.1 hi)]
 .rw[J i hi] at C ⊢;exact h.sM i hi C
theorem eP.put{m:Mem}{nx j n i:Nat}{e et:TypeId}{ρ:Nat->Nat}{L:Nat->List D}{l:List D}(h:eP m nx j n e et ρ L)(hi:i<n)(hl:l.length=(L i).length)(M:L i≠[]):eP (up m (ρ i) (some (.cells l et))) nx j n e et ρ (up L i l):=by
 have rH:l≠[]:=fun e=>by
  subst e;exact M (List.eq_nil_of_length_eq_zero hl.symm)
 have J:∀ k,up L i l k≠[]->L k≠[]:=fun k hk=>by
  by_cases e:k=i
  .subst e;exact M
  .rwa[up_ne _ _ e] at hk
 refine⟨?_,h.qA,fun k hk C=>?_,fun k hk C=>h.lt k hk (J k C),fun k hk C=>h.ne k hk (J k C),fun a b ha hb qB jJ=>h.inj a b ha hb (J a qB) (J b jJ)⟩
 .rw[up_ne _ _ (fun e=>h.ne i hi M e.symm),h.row];congr 2;refine List.map_congr_left fun k hk=>?_;by_cases e:k=i
  .subst e;rw[up_same,qb rH,qb M,hl]
  .rw[up_ne _ _ e]
 .by_cases e:k=i
  .subst e;rw[up_same,up_same]
  .rw[up_ne _ _ e,up_ne _ _ fun X=>e (h.inj k i hk hi (J k C) M X)];exact h.sM k hk (J k C)
section
variable{m m':Mem}{nx nx' j n w:Nat}{e et:TypeId}{ρ:Nat->Nat}{L:Nat->List D}
end
section
variable{P:Program}
end
section
variable{m m':Mem}{nx nx' ji jo n w:Nat}{ρi ρo:Nat->Nat}{Li Lo:Nat->List D}
end
section
variable{P:Program}
end
end Go.Abs
namespace Go.Argus
def oW(beh:Nat->List Int)(n b:Nat):List Bool:=(range n).map fun a=>dB beh n a b
def Cq(beh:Nat->List Int)(n:Nat):D:=.sl ((range n).map fun b=>dw (oW beh n b)) n
theorem aeb(beh:Nat->List Int)(n:Nat):Tr (Cq beh n):=.sl (.map fun _=>.sl (.map fun _=>.s _))
def iU(beh:Nat->List Int)(n a b i:Nat):List D:=(range n).map fun c=>B (if c<a\/(c=a/\i<b) then dB beh n c i else false)
theorem aec(beh:Nat->List Int)(n a b i:Nat):(iU beh n a b i).length=n:=by simp[iU]
theorem aed{beh:Nat->List Int}{n a b:Nat}:(iU beh n a b b).set a (B (dB beh n a b))=iU beh n a (b+1) b:=by
 unfold iU;rw[GJ];refine List.map_congr_left fun c hc=>?_;by_cases e:c=a
 .subst e;rw[up_same,if_pos (.inr ⟨rfl,Nat.lt_succ_self _⟩)]
 .rw[up_ne _ _ e];congr 2;simp[e]
theorem afg{beh:Nat->List Int}{n a b i:Nat}(h:i≠b):iU beh n a (b+1) i=iU beh n a b i:=by
 unfold iU;refine List.map_congr_left fun c hc=>?_;have:i<b+1↔i<b:=by omega
 simp only[this]
theorem afh{beh:Nat->List Int}{n a b:Nat}:up (iU beh n a b) b ((iU beh n a b b).set a (B (dB beh n a b)))=iU beh n a (b+1):=by
 funext i;by_cases e:i=b
 .subst e;rw[up_same,aed]
 .rw[up_ne _ _ e,afg e]
theorem acW{beh:Nat->List Int}{n a i:Nat}(h:i<n):iU beh n (a+1) 0 i=iU beh n a n i:=by
 unfold iU;refine List.map_congr_left fun c hc=>?_;have:(c<a+1\/(c=a+1/\i<0))↔(c<a\/(c=a/\i<n)):=by omega
 simp only[this]
theorem acX{beh:Nat->List Int}{n i:Nat}:iU beh n 0 0 i=(replicate n false).map B:=by
 unfold iU;rw[List.map_replicate];have:∀ c,(c<0\/(c=0/\i<0))↔False:=fun c=>by simp
 simp only[this,if_false];rw[List.map_const',List.length_range]
theorem aee{beh:Nat->List Int}{n i:Nat}:iU beh n n 0 i=(oW beh n i).map B:=by
 unfold iU oW;rw[List.map_map];refine List.map_congr_left fun c hc=>?_;rw[if_pos (.inl (List.mem_range.1 hc))];rfl
def yZ(f:aG):D:=if dH f=0 then .tup [au (gj (aT f) (c9 f) f.ab.length),I 0] else .tup [.z,I (dH f)]
theorem aef(f:aG):Tr (yZ f):=by
 unfold yZ;split
 .exact .tup (.cons (cL _) (.cons (.s _) .nil))
 .exact .tup (.cons HV (.cons (.s _) .nil))
theorem acY{beh:Nat->List Int}{n b:Nat}(h:b<n):((range n).map fun b=>oW beh n b)[b]? =some (oW beh n b):=by simp[h]
theorem aao{beh:Nat->List Int}{n b a:Nat}(h:a<n):(oW beh n b)[a]? =some (dB beh n a b):=by simp[oW,h]
theorem acZ(beh:Nat->List Int)(n:Nat):Cq beh n=.sl (((range n).map fun b=>oW beh n b).map dw) ((range n).map fun b=>oW beh n b).length:=by
 unfold Cq;rw[List.map_map,List.length_map,List.length_range];rfl
theorem abD(beh:Nat->List Int)(n k:Nat):((range k).map fun b=>iA beh n b n).length=k:=by simp
theorem aaX{f:aG}(h:sK f=true):∀ b∈f.ab,b.fin.aL.length<=9:=fun b hb=>by
 unfold sK at h;rw[aM,aM] at h;have:=bj.1 h.2.2 b hb;rw[aM,Bool.not_eq_true'] at this;have:=this.1;unfold tI at this;simp only[Bool.or_eq_false_iff,decide_eq_false_iff_not] at this;omega
theorem aaL{f:aG}(h:jz f=true){k:Nat}(hk:k<f.ab.length):(mO f.ab)[k]? =some (c9 f k):=by
 have he:=Pv h;rw[K3 hk, <- J7 he];simp[mO,hk]
theorem z6(l:List Int)(v:Int):Cz l v=eQ l v:=by rw[Bool.eq_iff_iff,aca,tg]
end Go.Argus
namespace Go.Proofs.Tryz.K
theorem Gj{f:aG}(hF:tQ f)(hw:∀ b∈f.ab,b.fin.aL.length<=9):PCall prog 91 [.agg (aH f)] (Cq (aT f) f.ab.length):=by
 have hb:=beh_in hF.ok
 change ∀ b,∀ t∈aT f b,_ at hb
 have FM:=hF.ok.mC;have ow:=hF.ok.pos;have XA:∀ {w:Int},PCall prog 75 [.agg (aH f),I w] (dw (cO (aT f) f.ab.length w)):=fun {w}=>Bq hF hw;have kZ:=fun w=>wk (w:=w) hb ow;refine bg alq (.cons (.agg (iu f)) .nil) (aeb _ _) ?_;rw[alr];refine az (ag ?_);refine af (aW (bG [(0,aH f,26)] eH (l:=[(1,.pt (aH f))]) eH) (aj ?_));have J:∀ a b,dB (aT f) f.ab.length a b=((cO (aT f) f.ab.length (-1)).getD a false&&((cO (aT f) f.ab.length (-1)).getD b false&& !(cO (aT f) f.ab.length a).getD b false)):=fun _ _=>rfl;have Bq:=XA (w:= -1);have cJ:=kZ (-1);generalize cO (aT f) f.ab.length (-1)=CN at Bq J cJ;refine SS ?_;refine cl Bq (SS ?_);refine af (az (SS ?_));refine af ⟨_,(Ghost.nilrow _ _ _ 4 52 rfl).trans (aQ (l:=[(1,.pt (aH f)),(3,dw CN),(4,.rs 1 0 0)]) (ml:=[(1,.cells [] 52)]) eH ⟨up_same _ _ _,trivial⟩),aB (az (SS ?_))⟩
 refine af (bR (fun s=>∃ j m nx ρ,Ghost prog s ⟨aD [(1,.pt (aH f)),(3,dw CN),(4,.rs j 0 f.ab.length)],m,nx⟩/\eP m nx j f.ab.length 52 4 ρ fun _=>(replicate f.ab.length false).map B) (cQ (α:=Nat×Nat×Mem×Nat)
  (fun s=>⟨aD [(1,.pt (aH f)),(3,dw CN),(4,.rs s.2.1 0 s.1),(5,I s.1)],s.2.2.1,s.2.2.2⟩)
  (fun s=>s.1<=f.ab.length/\∃ ρ,eP s.2.2.1 s.2.2.2 s.2.1 s.1 52 4 ρ fun _=>(replicate f.ab.length false).map B) (fun s=>f.ab.length - s.1) (0,1,bf [(1,.cells [] 52)],2)
  (ap eH) ⟨Nat.zero_le _,fun _=>0,.nil rfl oC⟩ ?_) ?_)
 .rintro⟨k,j,m,nx⟩ ⟨hk,ρ,C⟩;dsimp only at hk C ⊢;have ax:=C.row;have cV:=C.qA;have rT:(jF ρ (fun _=>(replicate f.ab.length false).map B) k).length=k:=by simp
  have X:(replicate f.ab.length false).map B≠[]:=fun e=>by
   have:=congrArg List.length e;rw[List.length_map,List.length_replicate,List.length_nil] at this;omega
  refine aO ?_;refine af ⟨_,rfl,fun h=>?_,fun h=>?_⟩
  .have ao:k<f.ab.length:=by simpa using h
   have dn:((f.ab.length:Nat):Int).toNat=f.ab.length:=bN _;refine fh (bB ?_);refine vo (uX rfl (aC oG (aC oG ax)) rfl V.h V.h (wm (up_same _ _ _) rfl) rfl) ak ⟨V.h,rfl,(by first|omega|exact bE rfl|(simp;done)|(simp;omega)),oC,(by first|rfl|(simp;done)|(simp;omega)),(by unfold maxLen;first|omega|(simp;omega)),(by rw[YN];first|omega|(simp;omega)),(by first|(simp;done)|(simp;omega))⟩ ?_;refine SS ?_;refine af (aq ?_)
   refine af (aK (k+1,nx+2,up (up (up (up m nx (some (.cells (replD ((f.ab.length:Nat):Int).toNat [B false]) 4))) (nx+1) (some (.cells [.rs nx 0 ((f.ab.length:Nat):Int).toNat] 52))) j none) (nx+2) (some (.cells (jF ρ (fun _=>(replicate f.ab.length false).map B) k++[.rs nx 0 ((f.ab.length:Nat):Int).toNat]) 52)),nx+3)
    (nC eH rfl) ⟨oM,up ρ k nx,?_⟩ oM)
   dsimp only;rw[dn]
   have:=C.push (m':=up (up (up (up m nx (some (.cells (replD f.ab.length [B false]) 4))) (nx+1) (some (.cells [.rs nx 0 f.ab.length] 52))) j none) (nx+2) (some (.cells (jF ρ (fun _=>(replicate f.ab.length false).map B) k++[.rs nx 0 f.ab.length]) 52)))
    (nx':=nx+3) (j':=nx+2) (r:=nx) X (bF _) oG oG oG oG (by rw[up_same];simp) (by rw[aC oG (aC oG (aC oG (up_same _ _ _))),wA]) (fun q hq tc=>aC oG (aC tc (aC oG (aC oG rfl))))
   rwa[show up (fun _:Nat=>(replicate f.ab.length false).map B) k ((replicate f.ab.length false).map B)=fun _=>(replicate f.ab.length false).map B from funext fun i=>by simp[up]] at this
  .have a9:¬ k<f.ab.length:=by simpa using h
   have:k=f.ab.length:=by omega
   subst this;exact⟨j,m,nx,ρ,ap eH,C⟩
 .rintro s ⟨j,m,nx,ρ,hg,C⟩;refine⟨_,hg,aB (az ?_)⟩;refine SS ?_;have OY:eP m nx j f.ab.length 52 4 ρ (iU (aT f) f.ab.length 0 0):=C.congr fun i _=>acX;clear C
  refine af (bR (fun s=>∃ m,Ghost prog s ⟨aD [(4,.rs j 0 f.ab.length)],m,nx⟩/\eP m nx j f.ab.length 52 4 ρ (iU (aT f) f.ab.length f.ab.length 0)) (cQ (α:=Nat×Mem)
   (fun s=>⟨aD [(1,.pt (aH f)),(3,dw CN),(4,.rs j 0 f.ab.length),(6,I s.1)],s.2,nx⟩)
   (fun s=>s.1<=f.ab.length/\eP s.2 nx j f.ab.length 52 4 ρ (iU (aT f) f.ab.length s.1 0)) (fun s=>f.ab.length - s.1) (0,m)
   (ap eH) ⟨Nat.zero_le _,OY⟩ ?_) ?_)
  .clear OY;rintro⟨a,m⟩ ⟨ha,C⟩;dsimp only at ha C ⊢;refine aO ?_;refine af ⟨_,rfl,fun h=>?_,fun h=>?_⟩
   .have ao:a<f.ab.length:=by simpa using h
    refine ws ?_;have kZ:=kZ (a:Int);have J:=J a;have Bq:=XA (w:=(a:Int));generalize cO (aT f) f.ab.length (a:Int)=LF at Bq J kZ;refine ag ?_;refine cl Bq (SS ?_);refine af (az (SS ?_))
    refine af (cQ (α:=Nat×Mem)
     (fun s=>⟨aD [(1,.pt (aH f)),(3,dw CN),(4,.rs j 0 f.ab.length),(6,I a),(7,dw LF),(8,I s.1)],s.2,nx⟩)
     (fun s=>s.1<=f.ab.length/\eP s.2 nx j f.ab.length 52 4 ρ (iU (aT f) f.ab.length a s.1)) (fun s=>f.ab.length - s.1) (0,m)
     (ap eH) ⟨Nat.zero_le _,C⟩ ?_)
    clear C;rintro⟨b,m⟩ ⟨pC,C⟩;dsimp only at pC C ⊢;have ax:=C.row;have cV:=C.qA;refine aO ?_;refine af ⟨_,rfl,fun h=>?_,fun h=>?_⟩
    .have Fl:b<f.ab.length:=by simpa using h
     have hlen:=aec (aT f) f.ab.length a b b
     have X:iU (aT f) f.ab.length a b b≠[]:=fun e=>by
      rw[e] at hlen;simp at hlen;omega
     have rT:(jF ρ (iU (aT f) f.ab.length a b) f.ab.length).length=f.ab.length:=by simp
     obtain⟨cs,kd⟩:=G' (ρ:=ρ) (L:=iU (aT f) f.ab.length a b) Fl;rw[qb X,hlen] at kd;have di:=C.sM b Fl X;have Bj:=C.lt b Fl X;have Oo:=C.ne b Fl X;have M:=C.put (l:=(iU (aT f) f.ab.length a b b).set a (B (dB (aT f) f.ab.length a b))) Fl oS X;rw[afh] at M;have xN:=K6 (l:=CN) (i:=a) oG;have gp:=K6 (l:=CN) (i:=b) oG;have Od:=K6 (l:=LF) (i:=b) oG;have J:=J b;generalize dB (aT f) f.ab.length a b=dd at J M;refine pO abC ?_;cases gg:CN.getD a false with
     |false=>
      rw[gg] at xN J;refine bK ?_;refine ag ?_;(iterate 4 refine z fun _ _=>?_);refine ag ?_;(iterate 5 refine z fun _ _=>?_);refine aq ?_;refine a8 bc (aq ?_);refine af (aK (b+1,_) (ap eH) ⟨oM,?_⟩ oM);dsimp only;rw[J] at M;exact M
     |true=>
      rw[gg] at xN J;cases qq:CN.getD b false with
      |false=>
       rw[qq] at gp J;refine aJ ?_;refine dA ?_;(iterate 5 refine z fun _ _=>?_);refine aq ?_;refine a8 bc (aq ?_);refine af (aK (b+1,_) (ap eH) ⟨oM,?_⟩ oM);dsimp only;rw[J] at M;exact M
      |true=>
       rw[qq] at gp J;generalize LF.getD b false=lf at Od J;refine aJ ?_;refine aJ ?_;refine bB ?_;refine a8 bc (aq ?_);refine af (aK (b+1,_) (ap eH) ⟨oM,?_⟩ oM);dsimp only;rw[J] at M;exact M
    .have a9:¬ b<f.ab.length:=by simpa using h
     have:b=f.ab.length:=by omega
     subst this;show AOps _ _ _ _ _ _ _ _ _;refine aq ?_;refine af (aK (a+1,m) (ap eH) ⟨oM,C.congr fun i hi=>acW hi⟩ oM)
   .have a9:¬ a<f.ab.length:=by simpa using h
    have:a=f.ab.length:=by omega
    subst this;exact⟨m,ap eH,C⟩
  .rintro s ⟨m,hg,C⟩;clear OY;have C:eP m nx j f.ab.length 52 4 ρ (fun i=>(oW (aT f) f.ab.length i).map B):=C.congr fun i _=>aee.symm;have qD:¬ ∃ i,i<f.ab.length/\(oW (aT f) f.ab.length i).map B≠[]/\ρ i=j:=fun⟨i,h1,h2,h3⟩=>C.ne i h1 h2 h3;refine⟨_,hg.trans (GN (l:=[(4,.rs j 0 f.ab.length)]) (ml:=[]) (fun r=>∃ i,i<f.ab.length/\(oW (aT f) f.ab.length i).map B≠[]/\ρ i=r) C (fun _=>.map) c4 (fun i h1 h2=>⟨i,h1,h2,rfl⟩) qD ⟨rfl,trivial⟩ (fun x hx=>?_) trivial (fun x hx=>by cases hx)),az ?_⟩
   .simp at hx;subst hx;exact .rs qD
   refine ag ?_;refine af (aW (bG [(j,_,52)] ⟨if_pos rfl,trivial⟩ (l:=[(2,Cq (aT f) f.ab.length)]) ⟨?_,trivial⟩) (av rfl rfl));show sub (fz0 j _ (prog.cellsOf 52)) (D.rs j 0 f.ab.length)=_;rw[nB (by rw[YO];simp)];unfold Cq dw;simp
theorem Jn{f:aG}(hF:tQ f)(hw:∀ b∈f.ab,b.fin.aL.length<=9):PCall prog 63 [.agg (aH f)] (au (gj (aT f) (c9 f) f.ab.length)):=by
 have hg:=xm hF.ok;rw[<- aeg hg];have FM:=hF.ok.mC;have ow:=hF.ok.pos;have Gj:=Gj hF hw;rw[acZ] at Gj;refine bg als (.cons (.agg (iu f)) .nil) (cL _) ?_;rw[alu];have H5:=fun {b:Nat} (h:b<f.ab.length)=>acY (beh:=aT f) h;have Ck:=fun {a b:Nat} (h:a<f.ab.length)=>aao (beh:=aT f) (b:=b) h;have hRl:((range f.ab.length).map fun b=>oW (aT f) f.ab.length b).length=f.ab.length:=by simp
 generalize ((range f.ab.length).map fun b=>oW (aT f) f.ab.length b)=RW at Gj H5 hRl;generalize Jk:oW (aT f) f.ab.length=RR at H5 Ck;clear Jk;refine az (ag ?_);refine af (aW (bG [(0,aH f,26)] eH (l:=[(1,.pt (aH f))]) eH) (aj (SS ?_)));refine cl Gj (SS ?_);refine af (az (SS ?_));refine af ⟨_,(Ghost.nilrow _ _ _ 4 3 rfl).trans (aQ (l:=[(1,.pt (aH f)),(3,.sl (RW.map dw) RW.length),(4,.rs 1 0 0)]) (ml:=[(1,.cells [] 3)]) eH ⟨up_same _ _ _,trivial⟩),aB (az (SS ?_))⟩
 refine af (bR (fun s=>∃ j m nx,Ghost prog s ⟨aD [(4,.rs j 0 f.ab.length)],m,nx⟩/\m j=some (.cells ((Cr (aT f) f.ab.length).map I) 3)) (cQ (α:=Nat×Nat×Mem×Nat)
  (fun s=>⟨aD [(1,.pt (aH f)),(3,.sl (RW.map dw) RW.length),(4,.rs s.2.1 0 s.1),(5,I s.1)],s.2.2.1,s.2.2.2⟩)
  (fun s=>s.1<=f.ab.length/\s.2.1<s.2.2.2/\s.2.2.1 s.2.1=some (.cells (((range s.1).map fun b=>iA (aT f) f.ab.length b f.ab.length).map I) 3)) (fun s=>f.ab.length - s.1) (0,1,bf [(1,.cells [] 3)],2)
  (ap eH) ⟨Nat.zero_le _,oC,rfl⟩ ?_) ?_)
 .rintro⟨b,j,m,nx⟩ ⟨hb,cV,ax⟩;dsimp only at hb cV ax ⊢;refine aO ?_;refine af ⟨_,rfl,fun h=>?_,fun h=>?_⟩
  .have ao:b<f.ab.length:=by simpa using h
   refine ws (SS ?_);refine af (aB (az (SS ?_)))
   refine af (bR (fun s=>Ghost prog s ⟨aD [(1,.pt (aH f)),(3,.sl (RW.map dw) RW.length),(4,.rs j 0 b),(5,I b),(6,I (iA (aT f) f.ab.length b f.ab.length))],m,nx⟩) (cQ (α:=Nat)
    (fun a=>⟨aD [(1,.pt (aH f)),(3,.sl (RW.map dw) RW.length),(4,.rs j 0 b),(5,I b),(6,I (iA (aT f) f.ab.length b a)),(7,I a)],m,nx⟩)
    (fun a=>a<=f.ab.length/\(iA (aT f) f.ab.length b a<0\/∃ p:Nat,iA (aT f) f.ab.length b a=p/\p<f.ab.length)) (fun a=>f.ab.length - a) 0
    (ap eH) ⟨Nat.zero_le _,.inl (by show(-1:Int)<0;omega)⟩ ?_) ?_)
   .rintro a ⟨ha,hp⟩;refine aO ?_;refine af ⟨_,rfl,fun h=>?_,fun h=>?_⟩
    .have halt:a<f.ab.length:=by simpa using h
     have hx:=H5 ao;have hy:=H5 halt;have uv:=Ck (b:=b) halt;have J:=fun(p:Nat) (h:p<f.ab.length)=>Ck (a:=p) (b:=a) h;have C:iA (aT f) f.ab.length b (a+1)=if a≠b/\dB (aT f) f.ab.length a b=true/\(iA (aT f) f.ab.length b a<0\/dB (aT f) f.ab.length (iA (aT f) f.ab.length b a).toNat a=true) then(a:Int) else iA (aT f) f.ab.length b a:=JT _ _ _ _
     have M:iA (aT f) f.ab.length b (a+1)<0\/∃ p:Nat,iA (aT f) f.ab.length b (a+1)=p/\p<f.ab.length:=by
      rw[C];split
      .exact .inr ⟨a,rfl,halt⟩
      .exact hp
     generalize iA (aT f) f.ab.length b a=p at hp C ⊢;generalize RR b=Rb at hx uv;generalize RR a=Ra at hy J;refine ws ?_;by_cases dt:a=b
     .have dv:((a:Int) !=(b:Int))=false:=by simp[dt]
      rw[if_neg fun h=>h.1 dt] at C;refine aJ ?_;refine aJ ?_;refine aq ?_;(iterate 3 refine z fun _ _=>?_);refine SS ?_;refine af (aw rfl (fun h=>oH) fun h=>bS (aq ?_));refine af (aK (a+1) (ap ⟨rfl,rfl,rfl,rfl,congrArg I C.symm,rfl,trivial⟩) ⟨oG,M⟩ oG)
     have dv:((a:Int) !=(b:Int))=true:=by simp;omega
     cases hd:dB (aT f) f.ab.length a b with
     |false=>
      rw[hd] at uv C;rw[if_neg fun h=>by simp at h] at C;refine aJ ?_;refine aJ ?_;refine aq ?_;(iterate 3 refine z fun _ _=>?_);refine SS ?_;refine af (aw rfl (fun h=>oH) fun h=>bS (aq ?_));refine af (aK (a+1) (ap ⟨rfl,rfl,rfl,rfl,congrArg I C.symm,rfl,trivial⟩) ⟨oG,M⟩ oG)
     |true=>
      rw[hd] at uv C;by_cases X:p<0
      .have jU:decide (p<0)=true:=decide_eq_true X;rw[if_pos ⟨dt,rfl,.inl X⟩] at C;refine aJ ?_;refine aJ ?_;refine aq ?_;(iterate 2 refine z fun _ _=>?_);refine ag ?_;refine af (aw rfl (fun h=>fh (ag ?_)) fun h=>oH);refine af (aq ?_);refine af (aK (a+1) (ap ⟨rfl,rfl,rfl,rfl,congrArg I C.symm,rfl,trivial⟩) ⟨oG,M⟩ oG)
      .have jU:decide (p<0)=false:=decide_eq_false X;obtain⟨q,rfl,hq⟩:=hp.resolve_left X;have hz:=J q hq;rw[bN] at C;cases YP:dB (aT f) f.ab.length q a with
       |false=>
        rw[YP] at hz C;rw[if_neg fun h=>by rcases h.2.2 with h|h;exact X h;cases h] at C;refine aJ ?_;refine aJ ?_;refine dA ?_;refine af (aw rfl (fun h=>oH) fun h=>bS (aq ?_));refine af (aK (a+1) (ap ⟨rfl,rfl,rfl,rfl,congrArg I C.symm,rfl,trivial⟩) ⟨oG,M⟩ oG)
       |true=>
        rw[YP] at hz C;rw[if_pos ⟨dt,rfl,.inr rfl⟩] at C;refine aJ ?_;refine aJ ?_;refine dA ?_;refine af (aw rfl (fun h=>fh (ag ?_)) fun h=>oH);refine af (aq ?_);refine af (aK (a+1) (ap ⟨rfl,rfl,rfl,rfl,congrArg I C.symm,rfl,trivial⟩) ⟨oG,M⟩ oG)
    .have a9:¬ a<f.ab.length:=by simpa using h
     have:a=f.ab.length:=by omega
     subst this;exact ap eH
   .intro s hg;refine⟨_,hg,fh ?_⟩;have jj:=abD (aT f) f.ab.length b
    have OZ:((range (b+1)).map fun b=>iA (aT f) f.ab.length b f.ab.length).map I=((range b).map fun b=>iA (aT f) f.ab.length b f.ab.length).map I++[I (iA (aT f) f.ab.length b f.ab.length)]:=by
     rw[List.range_succ,List.map_append,List.map_append];rfl
    generalize iA (aT f) f.ab.length b f.ab.length=p at OZ ⊢;generalize ((range b).map fun b=>iA (aT f) f.ab.length b f.ab.length)=Lb at ax jj OZ;refine aO ?_;refine af (aq ?_);refine af (aK (b+1,nx+1,up (up (up m nx (some (.cells [I p] 3))) j none) (nx+1) (some (.cells (Lb.map I++[I p]) 3)),nx+2) (ap eH) ⟨oM,oM,?_⟩ oM);dsimp only;rw[up_same,OZ]
  .have a9:¬ b<f.ab.length:=by simpa using h
   have:b=f.ab.length:=by omega
   subst this;exact⟨j,m,nx,ap eH,ax⟩
 .rintro s ⟨j,m,nx,hg,ax⟩;refine⟨_,hg,az ?_⟩;have fZ:(Cr (aT f) f.ab.length).length=f.ab.length:=by simp[Cr]
  generalize Cr (aT f) f.ab.length=IL at ax fZ;refine ag ?_;refine af (aW (bG [(j,IL.map I,3)] ⟨ax,trivial⟩ (l:=[(2,au IL)]) ⟨?_,trivial⟩) (av rfl rfl));show sub (fz0 j _ (prog.cellsOf 3)) (D.rs j 0 f.ab.length)=_;rw[nB (by rw[c3];simp[fZ])];unfold au;rw[fZ]
theorem zR{f:aG}(hs:yW f)(J:∀ b∈f.ab,b.fin.aL.length<=9):PCall prog 21 [.agg (aH f)] (yZ f):=by
 have rN:=rN hs J;refine bg alv (.cons (.agg (iu f)) .nil) (aef f) ?_;rw[alw];unfold yZ;refine az (aq ?_);refine af (aW (bG [(0,aH f,26)] eH (l:=[(1,.pt (aH f))]) eH) (aj ?_));by_cases C:dH f=0
 .rw[C] at rN;rw[if_pos C];have Jn:=Jn (EN (Dx C)) J;generalize gj (aT f) (c9 f) f.ab.length=par at Jn ⊢;refine SS ?_;refine cl rN (SS ?_);refine af (aB (aj (ag ?_)));refine af (gU (bP (aj (SS ?_))));refine cl Jn (ag ?_);exact af (fk rfl rfl rfl)
 .rw[if_neg C];generalize dH f=ce at C rN ⊢;have dv:(ce !=0)=true:=by simp[C]
  refine SS ?_;refine cl rN (SS ?_);refine af (aB (aj (ag ?_)));refine af (dN (aB (aj (aq ?_))));exact af (bX (fk rfl rfl rfl))
theorem akp{l:List Int}:PCall prog 22 [au l,au l] (B true):=by
 have:=Dl (a:=l) (b:=l)
 rwa[decide_eq_true rfl] at this
theorem eX{l:List Int}{v:Int}:PCall prog 59 [au l,I v] (B (Cz l v)):=by
 refine mJ XB.he (.cons (cL _) (.cons (.s _) .nil)) fun C=>?_;have hlen:=(C (au l) oS).sl.1;unfold maxLen at hlen;refine bg XB (.cons (cL _) (.cons (.s _) .nil)) (Tr.s _) ?_;rw[alx];refine ws (SS ?_);refine af (aB (az (SS ?_)))
 refine af (bR (fun s=>Ghost prog s ⟨aD [],fun _=>none,0⟩/\∀ (j:Nat) y,l[j]? =some y->(y==v)=false) (cQ (α:=Nat) (fun k=>⟨aD [(0,au l),(1,I v),(5,I k)],fun _=>none,0⟩)
  (fun k=>k<=l.length/\∀ j y,j<k->l[j]? =some y->(y==v)=false) (fun k=>l.length - k) 0 (ap eH) ⟨oG,fun j y hj=>by omega⟩ ?_) ?_)
 .rintro k ⟨hk,hinv⟩;refine aP ?_;refine af ⟨_,rfl,fun h=>?_,fun h=>?_⟩
  .have ao:k<l.length:=by simpa using h
   have hx:l[k]? =some l[k]:=by simp[ao]
   generalize l[k]=x at hx;refine ws (bB ?_);refine af (aw rfl (fun hp=>?_) fun hp=>?_)
   .refine ws (SS ?_);refine af (aY (br (aR (av (d:=B true) rfl ?_))));have:Cz l v=true:=List.any_eq_true.2 ⟨x,bU hx,hp⟩;rw[this]
   .refine bS (aq ?_);refine af (aK (k+1) (ap eH) ⟨oG,fun j y hj hy=>?_⟩ oG);by_cases e:j=k
    .subst e;rw[hx] at hy;cases hy;exact hp
    .exact hinv j y oG hy
  .have M:¬ k<l.length:=by simpa using h
   exact⟨.forget _ _ _ _ fun _=>.inr rfl,fun j y hy=>hinv j y (by have:=(bw.1 hy).1;omega) hy⟩
 .rintro s ⟨hg,J⟩;refine⟨_,hg,aj ?_⟩;refine SS ?_;refine af (av (d:=B false) rfl ?_)
  have:Cz l v=false:=List.any_eq_false.2 fun x hx=>by
   obtain⟨j,hj⟩:=cC hx;rw[J j x hj];simp
  rw[this]
theorem aj1{f:aG}(hf:jz f=true)(C:∀ b∈f.ab,b.fin.aL.length<=9):PCall prog 56 [.agg (aH f)] (bx (mO f.ab)):=
 sY (f:=f) rfl (by have:=(tG hf).mC;omega) C (fun b hb t ht=>by rw[((EN hf).ed b hb).2] at ht;exact((tG hf).blk b hb).to t ht)
end Go.Proofs.Tryz.K
end
namespace Go.Argus
open Go Go.Abs
abbrev ay:=Int×Bool
section
variable(beh:Nat->List Int)(fr to:Int)
inductive lz:ay->ay->Prop
 |out {a c:Int}:c∈beh a.toNat->c≠fr->a≠to->lz (a,true) (c,false)
 |Bd {b:Int}:b≠fr->b≠to->lz (b,false) (b,true)
inductive Rf(v:Int):Int->Prop
 |one {c:Int}:c∈beh fr.toNat->c≠fr->c≠v->Rf v c
 |step {x c:Int}:Rf v x->c∈beh x.toNat->c≠fr->c≠v->Rf v c
theorem Rf.ne{v x:Int}(h:Rf beh fr v x):x≠fr/\x≠v:=by
 cases h with
 |one _ a b=>exact⟨a,b⟩
 |step _ _ a b=>exact⟨a,b⟩
end
def kV(U:List (ay×ay))(s:ay):Int:=(U.countP fun e=>e.1==s:Nat) - (U.countP fun e=>e.2==s:Nat)
structure iK(beh:Nat->List Int)(fr to:Int)(v:Int)(U:List (ay×ay)):Prop where
 nd:U.Nodup
 ed:∀ e∈U,lz beh fr to e.1 e.2
 src:kV U (fr,true)=v
 mid:∀ s,s≠(fr,true)->s≠(to,false)->kV U s=0
theorem Gv{α:Type}{p:α->Bool}{l:List α}{a:α}(h:a∈l)(hp:p a=true):0<l.countP p:=List.countP_pos_iff.2 ⟨a,h,hp⟩
theorem Ly{α:Type}{p:α->Bool}:∀ {l:List α},l.Nodup->l.countP p<=1->∀ a∈l,∀ b∈l,p a=true->p b=true->a=b
 |[],_,_,a,ha,_,_,_,_=>by simp at ha
 |x::l,hn,hc,a,ha,b,hb,ui,zP=>by
  rw[List.nodup_cons] at hn;rw[List.countP_cons] at hc;rcases List.mem_cons.1 ha with e|J
  .rcases List.mem_cons.1 hb with e2|C
   .rw[e,e2]
   .rw[e] at ui;rw[if_pos ui] at hc;have:=Gv C zP;omega
  .rcases List.mem_cons.1 hb with e2|C
   .rw[e2] at zP;rw[if_pos zP] at hc;have:=Gv J ui;omega
   .exact Ly hn.2 oG a J b C ui zP
theorem T'{α:Type}[DecidableEq α]{p:α->Bool}{e:α}:∀ {l:List α},l.Nodup->(∀ a∈l,p a=true->a=e)->l.countP p<=1
 |[],_,_=>by simp
 |x::l,hn,h=>by
  rw[List.nodup_cons] at hn;rw[List.countP_cons];have ih:=T' hn.2 fun a ha=>h a (by simp[ha]);by_cases hp:p x=true
  .have hx:=h x oS hp;have:l.countP p=0:=List.countP_eq_zero.2 fun a ha C=>hn.1 (by rw[hx, <- h a (by simp[ha]) C];exact ha);rw[if_pos hp,this];omega
  .rw[if_neg hp];omega
section
variable{beh:Nat->List Int}{fr to:Int}{v:Int}{U:List (ay×ay)}(h:iK beh fr to v U)
include h
theorem iK.afs{b:Int}:U.countP (fun e=>e.1==(b,false))<=1:=T' (e:=((b,false),(b,true))) h.nd fun e he hp=>by
 have hp:e.1=(b,false):=by simpa using hp
 have:=h.ed e he;obtain⟨x,y⟩:=e;dsimp only at hp this;subst hp;cases this;rfl
theorem iK.pass{a b:Int}(he:((a,true),(b,false))∈U)(hb:b≠to):((b,false),(b,true))∈U/\∃ d,((b,true),(d,false))∈U:=by
 have uC:b≠fr:=by have:=h.ed _ he;cases this;assumption
 have X:=h.mid (b,false) oS (by simpa using hb);have p1:=Gv (p:=fun e:ay×ay=>e.2==(b,false)) he oS;unfold kV at X;have p2:0<U.countP fun e=>e.1==(b,false):=by omega
 obtain⟨⟨x,y⟩,J,hp⟩:=List.countP_pos_iff.1 p2;have hp:x=(b,false):=by simpa using hp
 subst hp;have C:=h.ed _ J;dsimp only at C;cases C;refine⟨J,?_⟩;have n2:=h.mid (b,true) (by simpa using uC) oS;have p3:=Gv (p:=fun e:ay×ay=>e.2==(b,true)) J oS;unfold kV at n2;have p4:0<U.countP fun e=>e.1==(b,true):=by omega
 obtain⟨⟨x,y⟩,M,hp⟩:=List.countP_pos_iff.1 p4;have hp:x=(b,true):=by simpa using hp
 subst hp;have C:=h.ed _ M;dsimp only at C;cases C;exact⟨_,M⟩
theorem iK.alT{a a' b:Int}(hb:b≠to)(he:((a,true),(b,false))∈U)(C:((a',true),(b,false))∈U):a=a':=by
 have J:=h.mid (b,false) oS (by simpa using hb);have:=h.afs (b:=b);unfold kV at J;have:=Ly (p:=fun e:ay×ay=>e.2==(b,false)) h.nd oG _ he _ C oS oS;simpa using this
omit h in
theorem ZE{S:List ay}(U:List (ay×ay)):U.countP (fun e=>decide (e.1∈S))=U.countP (fun e=>decide (e.1∈S)&&decide (e.2∈S))+U.countP (fun e=>decide (e.1∈S)&& !decide (e.2∈S)):=by
 induction U with
 |nil=>rfl
 |cons e U ih=>
  simp only[List.countP_cons,ih];by_cases h1:e.1∈S<;>by_cases h2:e.2∈S<;>simp[h1,h2]<;>omega
omit h in
theorem Lc{S:List ay}(hS:S.Nodup)(g:ay×ay->ay):∀ U:List (ay×ay),(S.map fun s=>((U.countP fun e=>g e==s:Nat):Int)).sum=(U.countP (fun e=>decide (g e∈S)):Nat)
 |[]=>by
  simp only[List.countP_nil]
  induction S with
  |nil=>rfl
  |cons a S ih=>rw[List.nodup_cons] at hS;rw[List.map_cons,List.sum_cons,ih hS.2];rfl
 |e::U=>by
  have ih:=Lc hS g U;simp only[List.countP_cons]
  have key:∀ (S:List ay),S.Nodup->∀ F:ay->Nat,(S.map fun s=>((F s+(if(g e==s)=true then 1 else 0):Nat):Int)).sum=(S.map fun s=>((F s:Nat):Int)).sum+(if g e∈S then 1 else 0):=fun S=>by
   induction S with
   |nil=>intro _ F;simp
   |cons a S C=>
    intro hn F;rw[List.nodup_cons] at hn;rw[List.map_cons,List.map_cons,List.sum_cons,List.sum_cons,C hn.2 F];by_cases ha:g e=a
    .subst ha;simp[hn.1];omega
    .have:¬ (g e==a)=true:=by simpa using ha
     by_cases hm:g e∈S<;>simp[ha,hm]<;>omega
  rw[key S hS,ih];by_cases hm:g e∈S<;>simp[hm]
omit h in
theorem aet{S:List ay}(hS:S.Nodup)(U:List (ay×ay)):(S.map (kV U)).sum=(U.countP (fun e=>decide (e.1∈S)):Nat) - (U.countP (fun e=>decide (e.2∈S)):Nat):=by
 rw[<- Lc hS (·.1), <- Lc hS (·.2)];unfold kV;clear hS
 induction S with
 |nil=>rfl
 |cons a S ih=>simp only[List.map_cons,List.sum_cons,ih];omega
theorem iK.aeu{S:List ay}(hS:S.Nodup)(h1:(fr,true)∈S)(h2:(to,false)∉S):(S.map (kV U)).sum=v:=by
 have zero:∀ S:List ay,(fr,true)∉S->(to,false)∉S->(S.map (kV U)).sum=0:=fun S=>by
  induction S with
  |nil=>intro _ _;rfl
  |cons a S ih=>
   intro ha hb;simp only[List.mem_cons,not_or] at ha hb;rw[List.map_cons,List.sum_cons,ih ha.2 hb.2,h.mid a (fun e=>ha.1 e.symm) (fun e=>hb.1 e.symm)];rfl
 induction S with
 |nil=>simp at h1
 |cons a S ih=>
  rw[List.nodup_cons] at hS;simp only[List.mem_cons,not_or] at h1 h2;rw[List.map_cons,List.sum_cons];rcases h1 with h1|h1
  .subst h1;rw[h.src,zero S hS.1 h2.2];omega
  .rw[ih hS.2 h1 h2.2,h.mid a (fun e=>hS.1 (e▸h1)) (fun e=>h2.1 e.symm)];omega
theorem iK.aiN{S:List ay}(hv:v<=1)(hS:S.Nodup)(h1:(fr,true)∈S)(h2:(to,false)∉S)(X:∀ x∈S,∀ y,lz beh fr to x y->(x,y)∉U->y∈S)(c2:∀ x y,(x,y)∈U->y∈S->x∈S)
 {x y C J:ay} (hx:x∈S) (hy:y∉S) (he:lz beh fr to x y) (pk:C∈S) (zx:J∉S) (fF:lz beh fr to C J):(x,y)=(C,J):=by
 have M:=h.aeu hS h1 h2;rw[aet hS,ZE] at M
 have e2:U.countP (fun e=>decide (e.2∈S))=U.countP (fun e=>decide (e.1∈S)&&decide (e.2∈S)):=List.countP_congr fun e he=>by
  have:=c2 e.1 e.2 he;by_cases g:e.2∈S
  .simp[g,this g]
  .simp[g]
 rw[e2] at M;have hm:(x,y)∈U:=Classical.byContradiction fun g=>hy (X x hx y he g);have jd:(C,J)∈U:=Classical.byContradiction fun g=>zx (X C pk J fF g);exact Ly (p:=fun e:ay×ay=>decide (e.1∈S)&& !decide (e.2∈S)) h.nd oG _ hm _ jd (by simp[hx,hy]) (by simp[pk,zx])
omit h in
theorem RE{S:List ay}(h1:(fr,true)∈S)(h2:(to,false)∉S)(M:fr≠to){w:Int}(hR:Rf beh fr w to):
 ∃ x y,x∈S/\y∉S/\lz beh fr to x y/\(x.1=w->fr=w)/\y.1≠w:=by
 apply Classical.byContradiction;intro C;have C:∀ x y,x∈S->lz beh fr to x y->(x.1=w->fr=w)->y.1≠w->y∈S:=fun x y hx he h1 h2=>Classical.byContradiction fun g=>C ⟨x,y,hx,g,he,h1,h2⟩
 have key:∀ x,Rf beh fr w x->(x,false)∈S:=fun x hx=>by
  induction hx with
  |one hc hf J=>exact C (fr,true) _ h1 (.out hc hf M) (fun e=>e) J
  |@step x c hx hc hf J ih=>
   have hn:=hx.ne;have ht:x≠to:=fun e=>h2 (e▸ih);have h3:(x,true)∈S:=C (x,false) (x,true) ih (.Bd hn.1 ht) (fun e=>absurd e hn.2) hn.2;exact C (x,true) (c,false) h3 (.out hc hf ht) (fun e=>absurd e hn.2) J
 exact h2 (key to hR)
theorem iK.aiO{S:List ay}(hv:v<=1)(X:fr≠to)(jJ:to∉beh fr.toNat)(hR:∀ w,w≠fr->w≠to->Rf beh fr w to)(xJ:∃ w,w≠fr/\w≠to)(hS:S.Nodup)(h1:(fr,true)∈S)
 (c1:∀ x∈S,∀ y,lz beh fr to x y->(x,y)∉U->y∈S) (c2:∀ x y,(x,y)∈U->y∈S->x∈S):(to,false)∈S:=by
 apply Classical.byContradiction;intro h2;obtain⟨w0,Dw,C⟩:=xJ;obtain⟨x,y,hx,hy,he,_,_⟩:=RE h1 h2 X (hR w0 Dw C)
 have key:∀ w,w≠fr->w≠to->(x.1=w\/y.1=w)->False:=fun w M Br F7=>by
  obtain⟨x',y',pk,zx,fF,g1,g2⟩:=RE h1 h2 X (hR w M Br);have:=h.aiN hv hS h1 h2 c1 c2 hx hy he pk zx fF;simp only[bQ] at this;obtain⟨rfl,rfl⟩:=this;rcases F7 with g|g
  .exact M (g1 g).symm
  .exact g2 g
 cases he with
 |@out a c hc rC sW=>
  by_cases J:a=fr
  .subst J;exact key c rC (fun e=>jJ (e▸hc)) (.inr rfl)
  .exact key a J sW (.inl rfl)
 |@Bd b uC jv=>exact key b uC jv (.inl rfl)
end
def uz(beh:Nat->List Int)(fr to:Int)(U:List (ay×ay))(x y:ay):Prop:=(lz beh fr to x y/\(x,y)∉U)\/(y,x)∈U
def bY(cm:List (ay×ay)):List ay:=cm.map (·.1)
structure SR(beh:Nat->List Int)(fr to:Int)(U:List (ay×ay))(cm:List (ay×ay))(op:List ay):Prop where
 hd:cm[0]? =some ((fr,true),(fr,true))
 nd:(bY cm).Nodup
 par:∀ i y x,0<i->cm[i]? =some (y,x)->uz beh fr to U x y/\∃ (j:Nat) (z:ay),j<i/\cm[j]? =some (x,z)
 I1:∀ x∈op,x∈bY cm
 Gm:∀ x∈bY cm,x∉op->x≠(to,false)/\∀ y,uz beh fr to U x y->y∈bY cm
section
variable{beh:Nat->List Int}{fr to:Int}{U cm:List (ay×ay)}{op:List ay}
theorem SR.init:SR beh fr to U [((fr,true),(fr,true))] [(fr,true)]:=by
 refine⟨rfl,by simp[bY],fun i y x hi h=>?_,fun x h=>by simpa[bY] using h,fun x h1 h2=>absurd h1 (by simpa[bY] using h2)⟩;obtain⟨i,rfl⟩:∃ j,i=j+1:=⟨i - 1,oG⟩
 simp at h
theorem SR.push(h:SR beh fr to U cm op){x y:ay}(hx:x∈bY cm)(hr:uz beh fr to U x y)(hy:y∉bY cm):SR beh fr to U (cm++[(y,x)]) (op++[y]):=by
 have hk:bY (cm++[(y,x)])=bY cm++[y]:=by simp[bY]
 have X:0<cm.length:=(bw.1 h.hd).1;refine⟨by rw[List.getElem?_append_left X];exact h.hd,?_,fun i y' x' hi hc=>?_,fun z C=>?_,fun z C J=>?_⟩
 .rw[hk,List.nodup_append];exact⟨h.nd,oS,fun a ha b hb e=>by simp at hb;subst hb;exact hy (e▸ha)⟩
 .rcases Nat.lt_trichotomy i cm.length with g|g|g
  .rw[List.getElem?_append_left g] at hc;obtain⟨h1,j,z,hj,h2⟩:=h.par i y' x' hi hc;exact⟨h1,j,z,hj,by rw[List.getElem?_append_left oG];exact h2⟩
  .subst g;rw[List.getElem?_append_right (bF _),Nat.sub_self] at hc;simp only[List.getElem?_cons_zero,aV,bQ] at hc;obtain⟨rfl,rfl⟩:=hc;refine⟨hr,?_⟩;obtain⟨⟨a,z⟩,ha,e⟩:=List.mem_map.1 hx;obtain⟨j,hj⟩:=cC ha;dsimp only at e;subst e;have:=(bw.1 hj).1;exact⟨j,z,this,by rw[List.getElem?_append_left this];exact hj⟩
  .rw[List.getElem?_eq_none oP] at hc;cases hc
 .rw[hk,List.mem_append];rcases List.mem_append.1 C with g|g
  .exact .inl (h.I1 z g)
  .exact .inr g
 .rw[hk,List.mem_append] at C;rw[List.mem_append,not_or] at J;rcases C with C|C
  .obtain⟨h1,h2⟩:=h.Gm z C J.1;exact⟨h1,fun w M=>by rw[hk,List.mem_append];exact .inl (h2 w M)⟩
  .exact absurd C J.2
theorem SR.pop{x:ay}(h:SR beh fr to U cm (x::op))(ht:x≠(to,false))(hr:∀ y,uz beh fr to U x y->y∈bY cm):SR beh fr to U cm op:=by
 refine⟨h.hd,h.nd,h.par,fun z C=>h.I1 z (by simp[C]),fun z C J=>?_⟩;by_cases e:z=x
 .subst e;exact⟨ht,hr⟩
 .exact h.Gm z C (by simp[e,J])
theorem SR.full(h:SR beh fr to U cm []){v:Int}(C:iK beh fr to v U)(hv:v<=1)(M:fr≠to)(J:to∉beh fr.toNat)(hR:∀ w,w≠fr->w≠to->Rf beh fr w to)(X:∃ w,w≠fr/\w≠to):False:=by
 have h1:(fr,true)∈bY cm:=List.mem_map.2 ⟨_,bU h.hd,rfl⟩;have:=C.aiO hv M J hR X h.nd h1 (fun x hx y he hn=>(h.Gm x hx oS).2 y (.inl ⟨he,hn⟩)) fun x y he hy=>(h.Gm y hy oS).2 x (.inr he);exact(h.Gm _ this oS).1 rfl
def EW(s:ay):Int:=2*s.1+(if s.2=true then 1 else 0)
theorem abJ{s t:ay}(h:EW s=EW t):s=t:=by
 obtain⟨a,x⟩:=s;obtain⟨b,y⟩:=t;cases x<;>cases y<;>simp[EW] at h ⊢<;>omega
end
def eh(U:List (ay×ay))(x y:ay):Bool:=decide ((x,y)∈U)
def l5(U:List (ay×ay))(x y:ay):List (ay×ay):=if eh U y x=true then U.erase (y,x) else U++[(x,y)]
theorem aev(U:List (ay×ay))(x y s:ay):kV (U++[(x,y)]) s=kV U s+(if x=s then 1 else 0) - (if y=s then 1 else 0):=by
 unfold kV;rw[List.countP_append,List.countP_append];by_cases h1:x=s<;>by_cases h2:y=s<;>simp[h1,h2]<;>omega
theorem count_erase{p:ay×ay->Bool}{e:ay×ay}:∀ {U:List (ay×ay)},e∈U->U.countP p=(U.erase e).countP p+(if p e=true then 1 else 0)
 |[],h=>by simp at h
 |a::U,h=>by
  by_cases C:a=e
  .subst C;rw[List.erase_cons_head,List.countP_cons]
  .rw[List.erase_cons_tail (by simpa using C),List.countP_cons,List.countP_cons];have:=count_erase (p:=p) (U:=U) (by rcases List.mem_cons.1 h with g|g;exact absurd g.symm C;exact g);omega
theorem abK{U:List (ay×ay)}{x y s:ay}(h:(y,x)∈U):kV (U.erase (y,x)) s=kV U s+(if x=s then 1 else 0) - (if y=s then 1 else 0):=by
 unfold kV;have h1:=count_erase (p:=fun e:ay×ay=>e.1==s) h;have h2:=count_erase (p:=fun e:ay×ay=>e.2==s) h;by_cases C:x=s<;>by_cases J:y=s<;>simp[C,J] at h1 h2 ⊢<;>omega
theorem adj(U:List (ay×ay))(x y s:ay):kV (l5 U x y) s=kV U s+(if x=s then 1 else 0) - (if y=s then 1 else 0):=by
 unfold l5 eh;split
 .rename_i h;exact abK (by simpa using h)
 .exact aev U x y s
theorem adk{U:List (ay×ay)}(C:U.Nodup){x y a b:ay}(h1:a≠y)(h2:b≠y):(a,b)∈l5 U x y↔(a,b)∈U:=by
 unfold l5;split
 .rw[List.Nodup.mem_erase_iff C];simp[h1]
 .simp[h2]
structure TR(beh:Nat->List Int)(fr to:Int)(U cm:List (ay×ay))(i:Nat)(y:ay)(V:List (ay×ay)):Prop where
 at_:∃ x,cm[i]? =some (y,x)
 Js:∀ a b,a∈bY (cm.take (i+1))->b∈bY (cm.take (i+1))->((a,b)∈V↔(a,b)∈U)
 nd:V.Nodup
 ed:∀ e∈V,lz beh fr to e.1 e.2
 O5:∀ s,kV V s=kV U s+(if y=s then 1 else 0) - (if(to,false)=s then 1 else 0)
section
variable{beh:Nat->List Int}{fr to:Int}{U cm:List (ay×ay)}{op:List ay}
theorem TR.init(h:SR beh fr to U cm op){v:Int}(C:iK beh fr to v U)(ht:(to,false)∈bY cm):∃ i,TR beh fr to U cm i (to,false) U:=by
 obtain⟨⟨a,x⟩,ha,e⟩:=List.mem_map.1 ht;obtain⟨i,hi⟩:=cC ha;dsimp only at e;subst e;exact⟨i,⟨x,hi⟩,fun _ _ _ _=>Iff.rfl,C.nd,C.ed,fun s=>by omega⟩
theorem J'{i j:Nat}{x z:ay}(hj:cm[j]? =some (x,z))(h:j<=i):x∈bY (cm.take (i+1)):=by
 refine List.mem_map.2 ⟨(x,z),bU (i:=j) ?_,rfl⟩;rw[List.getElem?_take,if_pos oG];exact hj
theorem KT(hn:(bY cm).Nodup){i j:Nat}{x z C:ay}(hi:cm[i]? =some (x,z))(hj:cm[j]? =some (x,C)):i=j:=by
 have h1:(bY cm)[i]? =some x:=by unfold bY;rw[List.getElem?_map,hi];rfl
 have h2:(bY cm)[j]? =some x:=by unfold bY;rw[List.getElem?_map,hj];rfl
 exact(List.getElem?_inj (bw.1 h1).1 hn).1 (h1.trans h2.symm)
theorem TR.step(h:SR beh fr to U cm op){i:Nat}{y x:ay}{V:List (ay×ay)}(C:TR beh fr to U cm i y V)(hi:cm[i]? =some (y,x))(aE:y≠(fr,true)):∃ j,j<i/\TR beh fr to U cm j x (l5 V x y):=by
 have h0:0<i:=by
  rcases Nat.eq_zero_or_pos i with g|g
  .subst g;rw[h.hd] at hi;simp only[aV,bQ] at hi;exact absurd hi.1.symm aE
  .exact g
 obtain⟨hr,j,z,hj,hc⟩:=h.par i y x h0 hi;have M:x∈bY (cm.take (i+1)):=J' hc oG;have ky:y∈bY (cm.take (i+1)):=J' hi (bF _)
 have X:∀ a,a∈bY (cm.take (j+1))->a≠y/\a∈bY (cm.take (i+1)):=fun a ha=>by
  obtain⟨⟨b,w⟩,hb,e⟩:=List.mem_map.1 ha;obtain⟨k,hk⟩:=cC hb;dsimp only at e;subst e;have rE:k<j+1:=by have:=(bw.1 hk).1;simp at this;omega
  rw[List.getElem?_take,if_pos rE] at hk;refine⟨fun e=>?_,J' hk oG⟩;subst e;have:=KT h.nd hk hi;omega
 refine⟨j,hj,⟨z,hc⟩,fun a b ha hb=>?_,?_,?_,fun s=>?_⟩
 .obtain⟨a1,a2⟩:=X a ha;obtain⟨b1,b2⟩:=X b hb;rw[adk C.nd a1 b1];exact C.Js a b a2 b2
 .unfold l5 eh;split
  .exact C.nd.erase _
  .rename_i J;have J:(y,x)∉V:=by simpa using J
   rw[List.nodup_append];refine⟨C.nd,oS,fun a ha b hb e=>?_⟩;simp only[List.mem_singleton] at hb;subst hb;subst e;rcases hr with⟨_,hr⟩|hr
   .exact hr ((C.Js x y M ky).1 ha)
   .exact J ((C.Js y x ky M).2 hr)
 .unfold l5 eh;split
  .exact fun e he=>C.ed e (List.mem_of_mem_erase he)
  .rename_i J;have J:(y,x)∉V:=by simpa using J
   intro e he;rcases List.mem_append.1 he with g|g
   .exact C.ed e g
   .simp only[List.mem_singleton] at g;subst g;rcases hr with⟨hr,_⟩|hr
    .exact hr
    .exact absurd ((C.Js y x ky M).2 hr) J
 .rw[adj,C.O5 s];by_cases g:y=s<;>simp[g]<;>omega
theorem TR.fin{v:Int}(J:iK beh fr to v U){i:Nat}{V:List (ay×ay)}(C:TR beh fr to U cm i (fr,true) V):iK beh fr to (v+1) V:=by
 refine⟨C.nd,C.ed,?_,fun s h1 h2=>?_⟩
 .rw[C.O5,J.src];simp
 .rw[C.O5,J.mid s h1 h2,if_neg (fun e=>h1 e.symm),if_neg (fun e=>h2 e.symm)];rfl
theorem iK.nil:iK beh fr to 0 []:=⟨List.nodup_nil,fun e h=>by simp at h,rfl,fun _ _ _=>rfl⟩
end
structure mh(beh:Nat->List Int)(fr to:Int)(l:List Int):Prop where
 len:2<=l.length
 hd:l.getD 0 0=fr
 O6:l.getD (l.length - 1) 0=to
 nd:l.Nodup
 st:∀ i,i+1<l.length->l.getD (i+1) 0∈beh (l.getD i 0).toNat
structure iD(U:List (ay×ay))(fr to:Int)(l:List Int):Prop where
 len:2<=l.length
 hd:l.getD 0 0=fr
 ch:∀ i,i+1<l.length->((l.getD i 0,true),(l.getD (i+1) 0,false))∈U
 nt:∀ i,0<i->i+1<l.length->l.getD i 0≠to
theorem Bv{l:List Int}{x:Int}{i:Nat}(h:i<l.length):(l++[x]).getD i 0=l.getD i 0:=by
 rw[bl,List.getElem?_append_left h, <- List.getD_eq_getElem?_getD]
theorem Ps{l:List Int}{x:Int}:(l++[x]).getD l.length 0=x:=by
 rw[bl,List.getElem?_append_right (bF _),Nat.sub_self];rfl
section
variable{beh:Nat->List Int}{fr to:Int}{v:Int}{U:List (ay×ay)}{l l':List Int}
theorem iD.two{c:Int}(hc:((fr,true),(c,false))∈U):iD U fr to [fr,c]:=by
 refine⟨bF _,rfl,fun i hi=>?_,fun i h0 hi=>?_⟩
 .have:i=0:=by simp at hi;omega
  subst this;exact hc
 .simp at hi;omega
theorem iD.next(h:iD U fr to l){d:Int}(hl:l.getD (l.length - 1) 0≠to)(hd:((l.getD (l.length - 1) 0,true),(d,false))∈U):iD U fr to (l++[d]):=by
 have h2:=h.len;refine⟨by simp;omega,by rw[Bv oG];exact h.hd,fun i hi=>?_,fun i h0 hi=>?_⟩
 .have hi:i<l.length:=by simp at hi;exact hi
  by_cases g:i+1=l.length
  .rw[Bv hi,g,Ps];rw[show i=l.length - 1 by omega];exact hd
  .rw[Bv hi,Bv oG];exact h.ch i oG
 .have hi:i<l.length:=by simp at hi;exact hi
  rw[Bv hi];by_cases g:i+1=l.length
  .rw[show i=l.length - 1 by omega];exact hl
  .exact h.nt i h0 oG
theorem iD.ne(C:iK beh fr to v U)(h:iD U fr to l){i:Nat}(h0:0<i)(hi:i<l.length):l.getD i 0≠fr:=by
 have:=C.ed _ (h.ch (i - 1) oG);rw[show i - 1+1=i by omega] at this;cases this;assumption
theorem iD.inj(C:iK beh fr to v U)(h:iD U fr to l)(h':iD U fr to l'):∀ i j,0<i->0<j->i<l.length->j<l'.length->l.getD i 0≠to->l.getD i 0=l'.getD j 0->i=j/\l.getD 1 0=l'.getD 1 0:=fun i=>by
 induction i with
 |zero=>intro j h0;omega
 |succ i ih=>
  intro j _ h0 hi hj ht he;obtain⟨j,rfl⟩:∃ k,j=k+1:=⟨j - 1,oG⟩
  have e1:=h.ch i hi;have e2:=h'.ch j hj;rw[<- he] at e2;have hp:=C.alT ht e1 e2;by_cases M:i=0
  .by_cases J:j=0
   .subst M J;exact⟨rfl,he⟩
   .exfalso;subst M;exact h'.ne C (i:=j) oG oG (by rw[<- hp,h.hd])
  .by_cases J:j=0
   .exfalso;subst J;exact h.ne C (i:=i) oG oG (by rw[hp,h'.hd])
   .obtain⟨a,b⟩:=ih j oG oG oG oG (h.nt i oG hi) hp;exact⟨oG,b⟩
theorem iD.nodup(J:iK beh fr to v U)(X:fr≠to)(h:iD U fr to l):l.Nodup:=by
 unfold List.Nodup;rw[List.pairwise_iff_getElem];intro i j hi hj M he;have C:∀ k (hk:k<l.length),l[k]=l.getD k 0:=fun k hk=>by rw[bl,aN hk];rfl
 have he:l.getD i 0=l.getD j 0:=by rw[<- C i hi, <- C j hj];exact he
 have h2:=h.len;rcases Nat.eq_zero_or_pos i with g|g
 .subst g;exact h.ne J (i:=j) oG hj (by rw[<- he,h.hd])
 .have:=(h.inj J h i j g oG oG hj (h.nt i g oG) he).1;omega
theorem iD.Ye(C:iK beh fr to v U)(J:fr≠to)(h:iD U fr to l)(hl:l.getD (l.length - 1) 0=to):mh beh fr to l:=by
 refine⟨h.len,h.hd,hl,h.nodup C J,fun i hi=>?_⟩;have:=C.ed _ (h.ch i hi);cases this;assumption
theorem iD.apart(C:iK beh fr to v U)(h:iD U fr to l)(h':iD U fr to l')(J:l.getD 1 0≠l'.getD 1 0):∀ i,0<i->i+1<l.length->l.getD i 0∉l':=fun i h0 hi hm=>by
 obtain⟨j,hj⟩:=cC hm;have M:=(bw.1 hj).1;have hg:l'.getD j 0=l.getD i 0:=by rw[bl,hj];rfl
 rcases Nat.eq_zero_or_pos j with g|g
 .subst g;exact h.ne C h0 oG (by rw[<- hg,h'.hd])
 .exact J (h.inj C h' i j h0 g oG M (h.nt i h0 hi) hg.symm).2
theorem iD.more(C:iK beh fr to v U)(h:iD U fr to l)(hl:l.getD (l.length - 1) 0≠to):∃ d,((l.getD (l.length - 1) 0,true),(d,false))∈U/\d∈beh (l.getD (l.length - 1) 0).toNat:=by
 have h2:=h.len;have he:=h.ch (l.length - 2) oG;rw[show l.length - 2+1=l.length - 1 by omega] at he;obtain⟨_,d,hd⟩:=C.pass he hl;have:=C.ed _ hd;cases this;exact⟨d,hd,oN⟩
theorem iK.outs(J:iK beh fr to 2 U){L:List Int}(hL:L.Nodup)(M:∀ c,c∈L↔c∈beh fr.toNat):(L.filter fun c=>eh U (fr,true) (c,false)).length=2:=by
 have bm:U.countP (fun e=>e.2==(fr,true))=0:=List.countP_eq_zero.2 fun e he hp=>by
  have hp:e.2=(fr,true):=by simpa using hp
  have C:=J.ed e he;obtain⟨x,y⟩:=e;dsimp only at hp C;subst hp;cases C;contradiction
 have hs:=J.src;unfold kV at hs;have w8:U.countP (fun e=>e.1==(fr,true))=2:=by omega
 rw[List.countP_eq_length_filter] at w8
 have hp:((L.filter fun c=>eh U (fr,true) (c,false)).map fun c=>(((fr,true),(c,false)):ay×ay)).Perm (U.filter fun e=>e.1==(fr,true)):=by
  refine(List.perm_ext_iff_of_nodup ?_ (J.nd.filter _)).2 fun e=>?_
  .refine List.Pairwise.map _ (fun a b X e=>X ?_) (hL.filter _);simpa using e
  .rw[List.mem_map,List.mem_filter];constructor
   .rintro⟨c,hc,rfl⟩;rw[List.mem_filter] at hc;exact⟨by simpa[eh] using hc.2,oS⟩
   .rintro⟨he,h1⟩;obtain⟨x,y⟩:=e;have h1:x=(fr,true):=by simpa using h1
    subst h1;have C:=J.ed _ he;dsimp only at C;cases C with
    |out hc _ _=>exact⟨_,List.mem_filter.2 ⟨(M _).2 hc,by simpa[eh] using he⟩,rfl⟩
 have:=hp.length_eq;rw[List.length_map] at this;omega
end
structure eW where
 par:List Int
 one:List (List Int)
 two:List (List Int)
def pA(par:List Int)(b:Int):Int:=par.getD b.toNat 0
inductive dR(par:List Int):Nat->Int->Int->Prop
 |refl (a:Int):dR par 0 a a
 |step {m:Nat} {b a:Int}:0<b->b<par.length->dR par m (pA par b) a->dR par (m+1) b a
def hZ(par:List Int):Nat->Int->Int->Bool
 |0,b,a=>b==a
 |k+1,b,a=>if(b==a)=true then true else if b<=0\/pA par b<0\/(par.length:Int)<=pA par b then false else hZ par k (pA par b) a
def gY(par:List Int):Nat->Int->Option (List Int)
 |k,b=>if b=0 then some [0] else match k with
  |0=>none
  |k+1=>if b<0\/(par.length:Int)<=b then none else(gY par k (pA par b)).map (b::·)
section
variable{par:List Int}
theorem dR.O7:∀ {m:Nat} {b:Int} {m':Nat},dR par m b 0->dR par m' b 0->m=m'
 |0,b,m',h,h'=>by
  cases h;cases h' with
  |refl=>rfl
  |step h0 _ _=>omega
 |m+1,b,m',h,h'=>by
  cases h with
  |step h0 h1 h2=>
   cases h' with
   |refl=>omega
   |step _ _ C=>rw[h2.O7 C]
theorem dR.trans:∀ {m k:Nat} {b c a:Int},dR par m b c->dR par k c a->dR par (m+k) b a
 |0,k,b,c,a,h,h'=>by cases h;rw[Nat.zero_add];exact h'
 |m+1,k,b,c,a,h,h'=>by
  cases h with
  |step h0 h1 h2=>rw[Nat.add_right_comm];exact .step h0 h1 (h2.trans h')
theorem dR.rest:∀ {m k:Nat} {b c:Int},dR par m b 0->dR par k b c->∃ j,m=k+j/\dR par j c 0
 |m,0,b,c,h,h'=>by cases h';exact⟨m,oG,h⟩
 |m,k+1,b,c,h,h'=>by
  cases h' with
  |step h0 h1 h2=>
   cases h with
   |refl=>omega
   |step _ _ h3=>
    obtain⟨j,e,hj⟩:=h3.rest h2;exact⟨j,oG,hj⟩
def sw(par:List Int):Nat->Int->List Int
 |0,b=>[b]
 |m+1,b=>b::sw par m (pA par b)
theorem PM(m:Nat):∀ b,(sw par m b).length=m+1:=by
 induction m with
 |zero=>intro b;rfl
 |succ m ih=>intro b;simp[sw,ih]
theorem By:∀ {m:Nat} {b x:Int},dR par m b 0->(x∈sw par m b↔∃ k,k<=m/\dR par k b x)
 |0,b,x,h=>by
  cases h;simp only[sw,List.mem_singleton];constructor
  .rintro rfl;exact⟨0,bF _,.refl _⟩
  .rintro⟨k,hk,hl⟩;obtain rfl:k=0:=by omega
   cases hl;rfl
 |m+1,b,x,h=>by
  cases h with
  |step h0 h1 h2=>
   simp only[sw,List.mem_cons];constructor
   .rintro(rfl|hx)
    .exact⟨0,Nat.zero_le _,.refl _⟩
    .obtain⟨k,hk,hl⟩:=(By h2).1 hx;exact⟨k+1,oG,.step h0 h1 hl⟩
   .rintro⟨k,hk,hl⟩;cases hl with
    |refl=>exact .inl rfl
    |step _ _ hl=>exact .inr ((By h2).2 ⟨_,oG,hl⟩)
theorem dR.range{m:Nat}{b:Int}(h:dR par m b 0)(hp:0<par.length):0<=b/\b.toNat<par.length:=by
 cases h with
 |refl=>exact⟨Int.le_refl _,by simpa using hp⟩
 |step h0 h1 _=>exact⟨oG,oG⟩
theorem Gs:∀ {m:Nat} {b:Int},dR par m b 0->(sw par m b).Nodup
 |0,b,_=>by simp[sw]
 |m+1,b,h=>by
  cases h with
  |step h0 h1 h2=>
   refine List.nodup_cons.2 ⟨fun hm=>?_,Gs h2⟩;obtain⟨k,hk,hl⟩:=(By h2).1 hm;obtain⟨j,e,hj⟩:=h2.rest hl;have:=hj.O7 (dR.step h0 h1 h2);omega
theorem dR.lt{m:Nat}{b:Int}(h:dR par m b 0)(hp:0<par.length):m<par.length:=by
 have:=BB (n:=par.length) (Gs h) fun x hx=>by
  obtain⟨k,_,hl⟩:=(By h).1 hx;obtain⟨j,_,hj⟩:=h.rest hl;exact hj.range hp
 rw[PM] at this;omega
theorem Jy:∀ {k:Nat} {b a:Int},b<par.length->hZ par k b a=true->∃ m,m<=k/\dR par m b a
 |0,b,a,_,h=>by
  have:b=a:=by simpa[hZ] using h
  subst this;exact⟨0,bF _,.refl _⟩
 |k+1,b,a,hb,h=>by
  unfold hZ at h;split at h
  .rename_i e;have:b=a:=by simpa using e
   subst this;exact⟨0,Nat.zero_le _,.refl _⟩
  .split at h
   .cases h
   .rename_i e;obtain⟨m,hm,hl⟩:=Jy oG h;exact⟨m+1,oG,.step oG hb hl⟩
theorem Pa:∀ {k m:Nat} {b a:Int},(∀ x,∀ j,dR par j b x->x≠a->j<m->0<=pA par x/\pA par x<par.length)->dR par m b a->m<=k->hZ par k b a=true
 |0,m,b,a,_,h,hm=>by
  obtain rfl:m=0:=by omega
  cases h;simp[hZ]
 |k+1,m,b,a,hr,h,hm=>by
  unfold hZ;by_cases e:b=a
  .rw[if_pos (by simp[e])]
  .rw[if_neg (by simp[e])];cases h with
   |refl=>exact absurd rfl e
   |step h0 h1 h2=>
    have:=hr b 0 (.refl _) e oG;rw[if_neg oG];exact Pa (fun x j hj hx C=>hr x (j+1) (.step h0 h1 hj) hx oG) h2 oG
theorem Ka{m:Nat}{b:Int}(h:dR par m b 0)(hp:0<par.length){a:Int}:hZ par par.length b a=true↔∃ k,dR par k b a:=by
 constructor
 .intro hl;obtain⟨k,_,hk⟩:=Jy (by have:=h.range hp;omega) hl;exact⟨k,hk⟩
 .rintro⟨k,hk⟩;obtain⟨j,e,hj⟩:=h.rest hk;have:=h.lt hp;refine Pa (fun x i hi hx J=>?_) hk oG;obtain⟨M,e2,C⟩:=h.rest hi;cases C with
  |refl=>omega
  |step _ _ h3=>have:=h3.range hp;omega
theorem PU{b:Int}(hb:b<par.length)(hp:0<par.length):hZ par par.length b 0=true↔∃ m,dR par m b 0:=by
 constructor
 .intro hl;obtain⟨m,_,hm⟩:=Jy hb hl;exact⟨m,hm⟩
 .rintro⟨m,hm⟩;exact(Ka hm hp).2 ⟨m,hm⟩
theorem Ko:∀ {k:Nat} {b:Int} {l:List Int},gY par k b=some l->∃ m,dR par m b 0/\l=sw par m b
 |k,b,l,h=>by
  unfold gY at h;split at h
  .rename_i e;subst e;cases h;exact⟨0,.refl _,rfl⟩
  .rename_i e;cases k with
   |zero=>cases h
   |succ k=>
    dsimp only at h;split at h
    .cases h
    .rename_i e2;obtain⟨l',h1,rfl⟩:=dx.1 h;obtain⟨m,hm,rfl⟩:=Ko h1;exact⟨m+1,.step oG oG hm,rfl⟩
theorem Ua:∀ {k m:Nat} {b:Int},dR par m b 0->m<=k->gY par k b=some (sw par m b)
 |k,0,b,h,_=>by cases h;unfold gY;rw[if_pos rfl];rfl
 |0,m+1,b,h,hm=>by omega
 |k+1,m+1,b,h,hm=>by
  cases h with
  |step h0 h1 h2=>
   unfold gY;rw[if_neg oG];dsimp only;rw[if_neg oG,Ua h2 oG];rfl
theorem Ld{m:Nat}{b:Int}(h:dR par m b 0)(hp:0<par.length):gY par (par.length+1) b=some (sw par m b):=Ua h (by have:=h.lt hp;omega)
end
def de(par:List Int)(b:Int):Bool:=decide (0<b)&&pA par b== -1
def lenP(d:eW)(n:Nat):Bool:=decide (d.par.length=n)&&(decide (d.one.length=n)&&(decide (d.two.length=n)&&pA d.par 0== -1))
def o7(beh:Nat->List Int)(par:List Int)(n b:Nat):Bool:=de par b||((b==0||(nI n (pA par b)&&(!(de par (pA par b))&&hZ par par.length b 0)))&& !((beh b).any (de par)))
def mg(ahd:Nat->List Int)(par:List Int)(b:Nat):Bool:=b==0||(de par b||(ahd b).all fun a=>de par a||hZ par par.length a (pA par b))
def qK(beh ahd:Nat->List Int)(n:Nat)(d:eW):Bool:=lenP d n&&((range n).all (o7 beh d.par n)&&(range n).all (mg ahd d.par))
def iV(beh:Nat->List Int)(n:Nat)(l:List Int)(i:Nat):Bool:=nI n (l.getD i 0)&&(!(eQ (l.take i) (l.getD i 0))&&(i==0||eQ (beh (l.getD (i - 1) 0).toNat) (l.getD i 0)))
def jV(beh:Nat->List Int)(n:Nat)(l:List Int)(fr to:Int):Bool:=decide (2<=l.length)&&(l.getD 0 0==fr&&(l.getD (l.length - 1) 0==to&&(range l.length).all (iV beh n l)))
def od(beh:Nat->List Int)(n:Nat)(l:List Int)(fr to:Int):Bool:=decide (l.length<=n)&&jV beh n l fr to
def yN(one two:List Int):Bool:=(range (one.length - 2)).all fun i=> !(eQ two (one.getD (i+1) 0))
def nu(beh:Nat->List Int)(n:Nat)(d:eW)(b:Nat):Bool:=
 if pA d.par b= -1 then(d.one.getD b []).length+(d.two.getD b []).length==0 else od beh n (d.one.getD b []) (pA d.par b) b&&(od beh n (d.two.getD b []) (pA d.par b) b&&yN (d.one.getD b []) (d.two.getD b []))
def yM(beh ahd:Nat->List Int)(n:Nat)(d:eW):Bool:=qK beh ahd n d&&(range n).all (nu beh n d)
def lE(beh:Nat->List Int)(n:Nat)(d:eW)(b:Nat):Bool:=
 if b=0\/pA d.par b= -1 then(d.one.getD b []).length+(d.two.getD b []).length==0
 else match gY d.par (d.par.length+1) b with
  |none=>false
  |some l=>jV beh n (d.one.getD b []) (pA d.par b) b&&(jV beh n (d.two.getD b []) (pA d.par b) b&&(!(eQ l.tail b)&&yN (d.one.getD b []) (d.two.getD b [])))
def ni(ahd:Nat->List Int)(par:List Int)(b:Nat):Bool:=(ahd b).all fun a=>if a≠0/\pA par a= -1 then true else !(decide (b≠0)&&pA par b== -1)&&(b==0||eQ ((gY par (par.length+1) a).getD []) (pA par b))
def yO(beh ahd:Nat->List Int)(n:Nat)(d:eW):Bool:=lenP d n&&((range n).all (lE beh n d)&&(range n).all (ni ahd d.par))
structure oV(beh ahd:Nat->List Int)(n:Nat)(d:eW):Prop where
 lp:d.par.length=n
 lo:d.one.length=n
 lt:d.two.length=n
 p0:pA d.par 0= -1
 chain:∀ b:Nat,b<n->b≠0->pA d.par b≠ -1->∃ m,dR d.par m b 0
 Nl:∀ b:Nat,b<n->de d.par b=false->∀ c∈beh b,de d.par c=false
 vM:∀ b:Nat,b<n->b≠0->de d.par b=false->∀ a∈ahd b,de d.par a=false->∃ k,dR d.par k a (pA d.par b)
 none:∀ b:Nat,b<n->pA d.par b= -1->d.one.getD b []=[]/\d.two.getD b []=[]
 ways:∀ b:Nat,b<n->pA d.par b≠ -1->mh beh (pA d.par b) b (d.one.getD b [])/\mh beh (pA d.par b) b (d.two.getD b [])/\∀ i,0<i->i+1<(d.one.getD b []).length->(d.one.getD b []).getD i 0∉d.two.getD b []
theorem wG{beh:Nat->List Int}{n:Nat}(hb:∀ b,∀ c∈beh b,0<=c/\c.toNat<n){l:List Int}{fr to:Int}:jV beh n l fr to=true↔mh beh fr to l/\0<=fr/\fr.toNat<n:=by
 have C:∀ k (hk:k<l.length),l[k]=l.getD k 0:=fun k hk=>by rw[bl,aN hk];rfl
 unfold jV;simp only[aM,decide_eq_true_eq,beq_iff_eq,bj,List.mem_range];constructor
 .rintro⟨h1,h2,h3,h4⟩
  have hs:∀ i,i<l.length->nI n (l.getD i 0)=true/\eQ (l.take i) (l.getD i 0)=false/\(i=0\/l.getD i 0∈beh (l.getD (i - 1) 0).toNat):=fun i hi=>by
   have:=h4 i hi;unfold iV at this;simp only[aM,Bool.not_eq_true',Bool.or_eq_true,beq_iff_eq,tg] at this;exact this
  have h0:=yu.1 (hs 0 oG).1;rw[h2] at h0;refine⟨⟨h1,h2,h3,?_,fun i hi=>?_⟩,h0.1,oG⟩
  .unfold List.Nodup;rw[List.pairwise_iff_getElem];intro i j hi hj mv he;rw[C i hi,C j hj] at he;have:=(hs j hj).2.1;rw[Bool.eq_false_iff] at this;refine this (tg.2 ?_);rw[<- he, <- C i hi];exact bU (i:=i) (by rw[List.getElem?_take,if_pos mv,aN hi])
  .rcases(hs (i+1) hi).2.2 with h|h
   .omega
   .exact h
 .rintro⟨h,h0,h1⟩;refine⟨h.len,h.hd,h.O6,fun i hi=>?_⟩;unfold iV;simp only[aM,Bool.not_eq_true',Bool.or_eq_true,beq_iff_eq,tg]
  have J:0<=l.getD i 0/\(l.getD i 0).toNat<n/\(i=0\/l.getD i 0∈beh (l.getD (i - 1) 0).toNat):=by
   cases i with
   |zero=>rw[h.hd];exact⟨h0,h1,.inl rfl⟩
   |succ i=>
    have:=h.st i hi;exact⟨(hb _ _ this).1,(hb _ _ this).2,.inr this⟩
  refine⟨yu.2 ⟨J.1,oG⟩,?_,J.2.2⟩;rw[Bool.eq_false_iff];intro X;have hm:=tg.1 X;obtain⟨j,hj⟩:=cC hm;have M:=(bw.1 hj).1;rw[List.length_take] at M;rw[List.getElem?_take,if_pos oG,aN oG] at hj;have cR:=h.nd;unfold List.Nodup at cR;rw[List.pairwise_iff_getElem] at cR;exact cR j i oG hi oG (by rw[C i hi];exact Option.some.inj hj)
theorem KV{beh:Nat->List Int}{n:Nat}(hb:∀ b,∀ c∈beh b,0<=c/\c.toNat<n){l:List Int}{fr to:Int}(h:mh beh fr to l)(h0:0<=fr)(h1:fr.toNat<n):l.length<=n:=BB h.nd fun x hx=>by
 obtain⟨i,hi⟩:=cC hx;have C:=(bw.1 hi).1;have e:l.getD i 0=x:=by rw[bl,hi];rfl
 rw[<- e];cases i with
 |zero=>rw[h.hd];exact⟨h0,h1⟩
 |succ i=>exact hb _ _ (h.st i C)
theorem Hx{beh:Nat->List Int}{n:Nat}(hb:∀ b,∀ c∈beh b,0<=c/\c.toNat<n){l:List Int}{fr to:Int}:od beh n l fr to=jV beh n l fr to:=by
 unfold od;cases h:jV beh n l fr to with
 |false=>simp
 |true=>
  obtain⟨h1,h2,h3⟩:=(wG hb).1 h;simp[KV hb h1 h2 h3]
theorem GW{one two:List Int}:yN one two=true↔∀ i,0<i->i+1<one.length->one.getD i 0∉two:=by
 unfold yN;simp only[bj,List.mem_range,Bool.not_eq_true'];constructor
 .intro h i h0 hi hm;have:=h (i - 1) oG;rw[show i - 1+1=i by omega,Bool.eq_false_iff] at this;exact this (tg.2 hm)
 .intro h i hi;rw[Bool.eq_false_iff];intro C;exact h (i+1) oG oG (tg.1 C)
theorem tl{d:eW}{n:Nat}:lenP d n=true↔d.par.length=n/\d.one.length=n/\d.two.length=n/\pA d.par 0= -1:=by
 unfold lenP;simp
section
variable{beh ahd:Nat->List Int}{n:Nat}(h:ud beh ahd n){d:eW}
theorem GX{par:List Int}{b:Int}:de par b=true↔0<b/\pA par b= -1:=by
 unfold de;rw[aM,decide_eq_true_eq,beq_iff_eq]
theorem qH{par:List Int}{b:Int}:de par b=false↔b<=0\/pA par b≠ -1:=by
 rw[Bool.eq_false_iff,ne_eq,GX];omega
include h
theorem Y5(hp:yM beh ahd n d=true):oV beh ahd n d:=by
 have iM:=h.pos;unfold yM qK at hp;rw[aM,aM,aM,tl] at hp;obtain⟨⟨⟨l1,l2,l3,l4⟩,h1,h2⟩,h3⟩:=hp
 have r1:∀ b:Nat,b<n->de d.par b=true\/((b=0\/(nI n (pA d.par b)=true/\de d.par (pA d.par b)=false/\hZ d.par d.par.length b 0=true))/\(beh b).any (de d.par)=false):=fun b hb=>by
  have:=bj.1 h1 b (List.mem_range.2 hb);unfold o7 at this;simpa only[Bool.or_eq_true,aM,beq_iff_eq,Bool.not_eq_true'] using this
 have r2:∀ b:Nat,b<n->b=0\/de d.par b=true\/∀ a∈ahd b,de d.par a=true\/hZ d.par d.par.length a (pA d.par b)=true:=fun b hb=>by
  have:=bj.1 h2 b (List.mem_range.2 hb);unfold mg at this;simpa only[Bool.or_eq_true,bj,beq_iff_eq] using this
 have r3:∀ b:Nat,b<n->nu beh n d b=true:=fun b hb=>bj.1 h3 b (List.mem_range.2 hb)
 have qz:∀ b:Nat,b<n->b≠0->pA d.par b≠ -1->∃ m,dR d.par m b 0:=fun b hb C M=>by
  rcases r1 b hb with g|⟨g,_⟩
  .exact absurd (GX.1 g).2 M
  .rcases g with g|⟨_,_,g⟩
   .exact absurd g C
   .exact(PU oG oG).1 g
 have AV:∀ b:Nat,b<n->de d.par b=false->∃ m,dR d.par m b 0:=fun b hb J=>by
  by_cases C:b=0
  .subst C;exact⟨0,.refl _⟩
  .rcases qH.1 J with g|g
   .omega
   .exact qz b hb C g
 refine⟨l1,l2,l3,l4,qz,fun b hb J c hc=>?_,fun b hb C J a ha jK=>?_,fun b hb he=>?_,fun b hb M=>?_⟩
 .rcases r1 b hb with g|⟨_,g⟩
  .rw[J] at g;cases g
  .have:=List.any_eq_false.1 g c hc;simpa using this
 .rcases r2 b hb with g|g|g
  .exact absurd g C
  .rw[J] at g;cases g
  .rcases g a ha with g|g
   .rw[jK] at g;cases g
   .have X:=(h.rK b a).1 ha;obtain⟨an,rfl⟩:=cU X.1;obtain⟨m,hm⟩:=AV an (by simpa using X.2.1) jK;exact(Ka hm oG).1 g
 .have:=r3 b hb;unfold nu at this;rw[if_pos he,beq_iff_eq] at this;exact⟨List.length_eq_zero_iff.1 oG,List.length_eq_zero_iff.1 oG⟩
 .have:=r3 b hb;unfold nu at this;rw[if_neg M,aM,aM,Hx h.to,Hx h.to,wG h.to,wG h.to,GW] at this;exact⟨this.1.1,this.2.1.1,this.2.2⟩
theorem Y6(hp:oV beh ahd n d):yM beh ahd n d=true:=by
 have iM:=h.pos
 have AV:∀ b:Nat,b<n->de d.par b=false->∃ m,dR d.par m b 0:=fun b hb J=>by
  by_cases C:b=0
  .subst C;exact⟨0,.refl _⟩
  .rcases qH.1 J with g|g
   .omega
   .exact hp.chain b hb C g
 have we:=hp.lp
 have j5:∀ b:Nat,b<n->b≠0->pA d.par b≠ -1->0<=pA d.par b/\(pA d.par b).toNat<n/\de d.par (pA d.par b)=false:=fun b hb C M=>by
  obtain⟨m,hm⟩:=hp.chain b hb C M;cases hm with
  |refl=>exact absurd rfl C
  |step h0 h1 h2=>
   have:=h2.range oG;refine⟨this.1,oG,qH.2 ?_⟩;generalize pA d.par b=p at h2 this M ⊢;cases h2 with
   |refl=>exact .inl oG
   |step _ _ h3=>
    have:=h3.range oG;exact .inr oG
 unfold yM qK;rw[aM,aM,aM,tl];refine⟨⟨⟨hp.lp,hp.lo,hp.lt,hp.p0⟩,bj.2 fun b hb=>?_,bj.2 fun b hb=>?_⟩,bj.2 fun b hb=>?_⟩
 .have hb:=List.mem_range.1 hb;unfold o7;simp only[Bool.or_eq_true,aM,beq_iff_eq,Bool.not_eq_true'];cases J:de d.par b with
  |true=>exact .inl rfl
  |false=>
   refine .inr ⟨?_,List.any_eq_false.2 fun c hc=>by rw[hp.Nl b hb J c hc];simp⟩;by_cases C:b=0
   .exact .inl C
   .have M:pA d.par b≠ -1:=by
     rcases qH.1 J with g|g
     .omega
     .exact g
    obtain⟨X,u2,u3⟩:=j5 b hb C M;exact .inr ⟨yu.2 ⟨X,oG⟩,u3,(PU oG oG).2 (hp.chain b hb C M)⟩
 .have hb:=List.mem_range.1 hb;unfold mg;simp only[Bool.or_eq_true,bj,beq_iff_eq];by_cases C:b=0
  .exact .inl C
  .refine .inr ?_;cases J:de d.par b with
   |true=>exact .inl rfl
   |false=>
    refine .inr fun a ha=>?_;cases jK:de d.par a with
    |true=>exact .inl rfl
    |false=>
     have gG:=(h.rK b a).1 ha;obtain⟨k,hk⟩:=hp.vM b hb C J a ha jK;obtain⟨an,rfl⟩:=cU gG.1;obtain⟨m,hm⟩:=AV an (by simpa using gG.2.1) jK;exact .inr ((Ka hm oG).2 ⟨k,hk⟩)
 .have hb:=List.mem_range.1 hb;unfold nu;by_cases he:pA d.par b= -1
  .obtain⟨e1,e2⟩:=hp.none b hb he;rw[if_pos he,e1,e2];rfl
  .obtain⟨w1,w2,w3⟩:=hp.ways b hb he;have C:b≠0:=fun e=>he (by rw[e];exact hp.p0);obtain⟨X,u2,_⟩:=j5 b hb C he;rw[if_neg he,aM,aM,Hx h.to,Hx h.to,wG h.to,wG h.to,GW];exact⟨⟨w1,X,u2⟩,⟨w2,X,u2⟩,w3⟩
theorem abL:yM beh ahd n d=true↔oV beh ahd n d:=⟨Y5 h,Y6 h⟩
theorem Zp(hp:yO beh ahd n d=true):oV beh ahd n d:=by
 have iM:=h.pos;unfold yO at hp;rw[aM,aM,tl] at hp;obtain⟨⟨l1,l2,l3,l4⟩,h1,h2⟩:=hp;have r1:∀ b:Nat,b<n->lE beh n d b=true:=fun b hb=>bj.1 h1 b (List.mem_range.2 hb)
 have r2:∀ b:Nat,b<n->∀ a∈ahd b,¬ (a≠0/\pA d.par a= -1)->¬ (b≠0/\pA d.par b= -1)/\(b=0\/pA d.par b∈(gY d.par (d.par.length+1) a).getD []):=fun b hb a ha hn=>by
  have:=bj.1 h2 b (List.mem_range.2 hb);unfold ni at this;have:=bj.1 this a ha;rw[if_neg hn] at this;simp only[aM,Bool.not_eq_true',Bool.and_eq_false_iff,decide_eq_false_iff_not,beq_eq_false_iff_ne,Bool.or_eq_true,beq_iff_eq,tg,Decidable.not_not,ne_eq] at this;refine⟨fun g=>?_,this.2⟩;rcases this.1 with g1|g1
  .exact g.1 g1
  .exact g1 g.2
 have qz:∀ b:Nat,b<n->b≠0->pA d.par b≠ -1->∃ m,dR d.par m b 0:=fun b hb C aE=>by
  have:=r1 b hb;unfold lE at this;rw[if_neg oG] at this;cases M:gY d.par (d.par.length+1) b with
  |none=>rw[M] at this;cases this
  |some l=>
   obtain⟨m,hm,_⟩:=Ko M;exact⟨m,hm⟩
 have hz:∀ a:Int,de d.par a=false->0<=a->¬ (a≠0/\pA d.par a= -1):=fun a J h0=>by
  have:=qH.1 J;omega
 have AV:∀ b:Nat,b<n->de d.par b=false->∃ m,dR d.par m b 0:=fun b hb J=>by
  by_cases C:b=0
  .subst C;exact⟨0,.refl _⟩
  .rcases qH.1 J with g|g
   .omega
   .exact qz b hb C g
 refine⟨l1,l2,l3,l4,qz,fun b hb J c hc=>?_,fun b hb C J a ha jK=>?_,fun b hb he=>?_,fun b hb aE=>?_⟩
 .have lO:=h.to b c hc;obtain⟨X,rfl⟩:=cU lO.1;rw[bN] at lO;have dt:(b:Int)∈ahd X:=(h.rK X b).2 ⟨oG,by simpa using hb,by simpa using hc⟩;obtain⟨g,_⟩:=r2 X lO.2 b dt (hz b J oG);refine qH.2 ?_;omega
 .have gG:=(h.rK b a).1 ha;obtain⟨_,g⟩:=r2 b hb a ha (hz a jK gG.1);obtain⟨an,rfl⟩:=cU gG.1;obtain⟨m,hm⟩:=AV an (by simpa using gG.2.1) jK;rcases g with g|g
  .exact absurd g C
  .rw[Ld hm oG] at g;obtain⟨k,_,hk⟩:=(By hm).1 g;exact⟨k,hk⟩
 .have:=r1 b hb;unfold lE at this;rw[if_pos (.inr he),beq_iff_eq] at this;exact⟨List.length_eq_zero_iff.1 oG,List.length_eq_zero_iff.1 oG⟩
 .have:=r1 b hb;have C:b≠0:=fun e=>aE (by rw[e];exact l4);unfold lE at this;rw[if_neg oG] at this;cases M:gY d.par (d.par.length+1) b with
  |none=>rw[M] at this;cases this
  |some l=>
   rw[M] at this;dsimp only at this;rw[aM,aM,aM,wG h.to,wG h.to,GW] at this;exact⟨this.1.1,this.2.1.1,this.2.2.2⟩
theorem Zq(hp:oV beh ahd n d):yO beh ahd n d=true:=by
 have iM:=h.pos;have we:=hp.lp
 have AV:∀ b:Nat,b<n->de d.par b=false->∃ m,dR d.par m b 0:=fun b hb ho=>by
  by_cases C:b=0
  .subst C;exact⟨0,.refl _⟩
  .rcases qH.1 ho with g|g
   .omega
   .exact hp.chain b hb C g
 unfold yO;rw[aM,aM,tl];refine⟨⟨hp.lp,hp.lo,hp.lt,hp.p0⟩,bj.2 fun b hb=>?_,bj.2 fun b hb=>?_⟩
 .have hb:=List.mem_range.1 hb;unfold lE;by_cases he:b=0\/pA d.par b= -1
  .have fF:pA d.par b= -1:=by
    rcases he with rfl|g
    .exact hp.p0
    .exact g
   obtain⟨e1,e2⟩:=hp.none b hb fF;rw[if_pos he,e1,e2];rfl
  .have C:b≠0:=fun e=>he (.inl e);have J:pA d.par b≠ -1:=fun e=>he (.inr e);obtain⟨m,hm⟩:=hp.chain b hb C J;obtain⟨w1,w2,w3⟩:=hp.ways b hb J;rw[if_neg he,Ld hm oG];dsimp only
   have hr:0<=pA d.par b/\(pA d.par b).toNat<n:=by
    cases hm with
    |refl=>exact absurd rfl C
    |step h0 h1 h2=>have:=h2.range oG;exact⟨this.1,oG⟩
   have cR:=Gs hm;rw[aM,aM,aM,wG h.to,wG h.to,GW];refine⟨⟨w1,hr.1,hr.2⟩,⟨w2,hr.1,hr.2⟩,?_,w3⟩;rw[Bool.not_eq_true',Bool.eq_false_iff];intro hh;have mj:=tg.1 hh;cases m with
   |zero=>simp[sw] at mj
   |succ m=>exact(List.nodup_cons.1 cR).1 mj
 .have hb:=List.mem_range.1 hb;unfold ni;refine bj.2 fun a ha=>?_;have X:=(h.rK b a).1 ha;by_cases hn:a≠0/\pA d.par a= -1
  .rw[if_pos hn]
  .rw[if_neg hn];have jK:de d.par a=false:=qH.2 oG;obtain⟨M,rfl⟩:=cU X.1;have mB:M<n:=by simpa using X.2.1
   have vX:=hp.Nl M mB jK b (by simpa using X.2.2);obtain⟨m,hm⟩:=AV M mB jK;have ho:=qH.1 vX;rw[aM,Bool.not_eq_true',Bool.or_eq_true,Ld hm oG];constructor
   .by_cases e:b=0
    .subst e;rfl
    .have J:pA d.par b≠ -1:=by omega
     rw[Bool.and_eq_false_iff];exact .inr (beq_eq_false_iff_ne.2 J)
   .by_cases e:b=0
    .subst e;exact .inl rfl
    .refine .inr (tg.2 ?_);obtain⟨k,hk⟩:=hp.vM b hb e vX _ ha jK;obtain⟨j,ej,_⟩:=hm.rest hk;exact(By hm).2 ⟨k,oG,hk⟩
theorem RX:yO beh ahd n d=true↔oV beh ahd n d:=⟨Zp h,Zq h⟩
theorem acq:yM beh ahd n d=yO beh ahd n d:=by rw[Bool.eq_iff_iff,abL h,RX h]
end
section
variable{beh ahd:Nat->List Int}{n:Nat}(h:ud beh ahd n)
include h
theorem IC:bM beh n 0:=(JS (w:= -1) h.to h.pos oG).1
theorem KG{x:Nat}{c:Int}(hx:bM beh n x)(hc:c∈beh x):bM beh n c.toNat:=Pj h.to h.pos hx c hc
theorem aiP{b:Nat}(hb:b<n):pA (gj beh ahd n) b=dD (gj beh ahd n) b:=by
 unfold pA dD;have:(b:Int).toNat<(gj beh ahd n).length:=by rw[z5 h];simpa using hb
 rw[bl,bl,aN this];rfl
theorem wJ{b:Nat}(C:bM beh n b):b<n:=by
 rcases Nat.lt_or_ge b n with g|g
 .exact g
 .exfalso;have hl:=wk (w:= -1) h.to h.pos;unfold bM at C;rw[bl,List.getElem?_eq_none oG] at C;cases C
open Classical in
theorem wz{b:Nat}(hb:b<n):pA (gj beh ahd n) b=if b≠0/\bM beh n b then((fw beh ahd n b:Nat):Int) else -1:=by
 rw[aiP h hb];by_cases h0:b=0
 .subst h0;rw[if_neg oS];exact Rt h
 .by_cases C:bM beh n b
  .rw[if_pos ⟨h0,C⟩];exact(HG h C h0).1
  .rw[if_neg (fun g=>C g.2)];exact SP h C
theorem Hy{b:Nat}(hb:b<n):de (gj beh ahd n) b=true↔¬ bM beh n b:=by
 rw[GX,wz h hb];by_cases h0:b=0
 .subst h0;simp[IC h]
 .by_cases C:bM beh n b
  .rw[if_pos ⟨h0,C⟩];simp[C]
  .rw[if_neg (fun g=>C g.2)];simp[C];omega
theorem RF{w:Nat}:∀ x,bM beh n x->bL (fw beh ahd n) w x->∃ k,dR (gj beh ahd n) k x w:=
 (pU h).ind (p:=fun x=>bL (fw beh ahd n) w x->∃ k,dR (gj beh ahd n) k x w) (fun ha=>by
  have:=ha.zero (pU h).mH rfl;subst this
  exact⟨0,.refl _⟩) fun x C hx _ _ ih ha=>by
  rcases ha.inv with e|ha
  .subst e;exact⟨0,.refl _⟩
  .obtain⟨k,hk⟩:=ih ha;have J:=wJ h C;refine⟨k+1,.step oG (by rw[z5 h];omega) ?_⟩;rw[wz h J,if_pos ⟨hx,C⟩];exact hk
omit h in
theorem adl{p a b:Nat}(hd:vJ beh p b)(J:p≠b)(C:(b:Int)∈beh a):vJ beh p a:=fun hv=>hd (.step hv C fun e=>J e.symm)
theorem Lz{b:Nat}(C:bM beh n b)(J:b≠0):vJ beh (fw beh ahd n b) b/\fw beh ahd n b≠b:=by
 refine⟨(sm h C).1 (.up (.refl _)),fun e=>?_⟩;have:=((pU h).par b C J).2;rw[e] at this;omega
theorem ZT{d:eW}(hp:d.par=gj beh ahd n)(lo:d.one.length=n)(lt:d.two.length=n)(b8:∀ b:Nat,b<n->(b=0\/¬ bM beh n b)->d.one.getD b []=[]/\d.two.getD b []=[])
 (hw:∀ b:Nat,bM beh n b->b≠0->mh beh (fw beh ahd n b:Nat) b (d.one.getD b [])/\mh beh (fw beh ahd n b:Nat) b (d.two.getD b [])/\∀ i,0<i->i+1<(d.one.getD b []).length->(d.one.getD b []).getD i 0∉d.two.getD b []):oV beh ahd n d:=by
 have bm:∀ b:Nat,b<n->pA d.par b≠ -1->b≠0/\bM beh n b:=fun b hb J=>by
  rw[hp,wz h hb] at J;by_cases g:b≠0/\bM beh n b
  .exact g
  .rw[if_neg g] at J;exact absurd rfl J
 refine⟨by rw[hp];exact z5 h,lo,lt,?_,fun b hb X J=>?_,fun b hb M c hc=>?_,fun b hb X M a ha jK=>?_,fun b hb he=>?_,fun b hb J=>?_⟩
 .rw[hp];have:=wz h h.pos;rw[if_neg oS] at this;exact this
 .obtain⟨_,C⟩:=bm b hb J;rw[hp];exact RF h b C ((pU h).aej b C)
 .rw[hp] at M ⊢;have C:bM beh n b:=Classical.byContradiction fun g=>by rw[(Hy h hb).2 g] at M;cases M
  have rc:=KG h C hc;have lO:=h.to b c hc;obtain⟨cn,rfl⟩:=cU lO.1;rw[Bool.eq_false_iff];intro g;exact(Hy h lO.2).1 g rc
 .rw[hp] at M jK ⊢;have C:bM beh n b:=Classical.byContradiction fun g=>by rw[(Hy h hb).2 g] at M;cases M
  have gG:=(h.rK b a).1 ha;obtain⟨an,rfl⟩:=cU gG.1;rw[bN] at gG;have ra:bM beh n an:=Classical.byContradiction fun g=>by rw[(Hy h gG.2.1).2 g] at jK;cases jK
  rw[wz h hb,if_pos ⟨X,C⟩];obtain⟨hd,J⟩:=Lz h C X;exact RF h an ra ((sm h ra).2 (adl hd J gG.2.2))
 .refine b8 b hb ?_;rw[hp,wz h hb] at he;by_cases g:b≠0/\bM beh n b
  .rw[if_pos g] at he;omega
  .by_cases h0:b=0
   .exact .inl h0
   .exact .inr fun C=>g ⟨h0,C⟩
 .obtain⟨X,C⟩:=bm b hb J;have:=hw b C X;rw[hp,wz h hb,if_pos ⟨X,C⟩];exact this
omit h in
theorem S2{fr to:Int}{l:List Int}(C:mh beh fr to l){S:Nat->Prop}(h0:S fr.toNat)(hS:∀ x,S x->∀ c∈beh x,c∈l->S c.toNat):S to.toNat:=by
 have J:∀ i,i<l.length->l.getD i 0∈l:=fun i hi=>by
  rw[bl,aN hi];exact cy hi
 have key:∀ i,i<l.length->S (l.getD i 0).toNat:=fun i=>by
  induction i with
  |zero=>intro _;rw[C.hd];exact h0
  |succ i ih=>
   intro hi;exact hS _ (ih oG) _ (C.st i hi) (J _ hi)
 have:=key (l.length - 1) (by have:=C.len;omega)
 rwa[C.O6] at this
theorem GY{d:eW}(hp:oV beh ahd n d){b:Nat}(hb:b<n):de d.par b=false↔bM beh n b:=by
 have iM:=h.pos;have hl:=hp.lp;constructor
 .have key:∀ m (b:Nat),b<n->dR d.par m b 0->bM beh n b:=fun m=>by
   induction m with
   |zero=>
    intro b hb hl;cases hl;exact IC h
   |succ m ih=>
    intro b hb hl;have rL:=hl;cases hl with
    |step h0 h1 h2=>
     have hr:=h2.range oG;have C:pA d.par b≠ -1:=by omega
     have X:=ih (pA d.par b).toNat oG (by rw[Int.toNat_of_nonneg hr.1];exact h2);have:=S2 (hp.ways b hb C).1 (S:=bM beh n) X fun x hx c hc _=>KG h hx hc
     rwa[bN] at this
  intro ho;by_cases J:b=0
  .subst J;exact IC h
  .have C:pA d.par b≠ -1:=by
    rcases qH.1 ho with g|g
    .omega
    .exact g
   obtain⟨m,hm⟩:=hp.chain b hb J C;exact key m b hb hm
 .have:=GV (beh:=beh) (w:= -1) (n:=n) (S:=fun x=>x<n/\de d.par x=false) (fun x hx c hc _=>by
   have M:=h.to x c hc;have:=hp.Nl x hx.1 hx.2 c hc
   exact⟨M.2,by rw[Int.toNat_of_nonneg M.1];exact this⟩) ⟨iM,qH.2 (.inl oS)⟩ b
  exact fun rb=>(this rb).2
theorem abM{d:eW}(hp:oV beh ahd n d){q:Nat}:∀ {x:Nat},Av (iZ beh) q x->bM beh n x/\∀ k,¬ dR d.par k x q:=fun {x} hv=>by
 induction hv with
 |zero M=>
  refine⟨IC h,fun k hk=>?_⟩;have hk:dR d.par k 0 q:=hk;generalize hq:(q:Int)=qi at hk;cases hk with
  |refl=>omega
  |step h0 _ _=>omega
 |@step x c hv he M ih=>
  have rc:bM beh n c:=by
   have:=KG h ih.1 he
   rwa[bN] at this
  refine⟨rc,fun k hk=>?_⟩;have C:=wJ h rc;have J:=wJ h ih.1;generalize hq:(q:Int)=qi at hk;cases hk with
  |refl=>omega
  |step h0 h1 h2=>
   have X:(x:Int)∈ahd c:=(h.rK c x).2 ⟨oG,by simpa using J,by rw[bN];exact he⟩;obtain⟨j,hj⟩:=hp.vM c C oG ((GY h hp C).2 rc) x X ((GY h hp J).2 ih.1);rw[<- hq] at h2;exact ih.2 _ (hj.trans h2)
theorem aaW{d:eW}(hp:oV beh ahd n d):d.par=gj beh ahd n:=by
 have iM:=h.pos;have hl:=hp.lp;refine List.ext_getElem? fun i=>?_;rcases(Nat.lt_or_ge i n).symm with hi|hi
 .rw[List.getElem?_eq_none oG,List.getElem?_eq_none (by rw[z5 h];omega)]
 have gd:∀ (l:List Int),l.length=n->l[i]? =some (pA l i):=fun l hl=>by
  unfold pA;rw[bN,bl,aN oG];rfl
 rw[gd _ hl,gd _ (z5 h),wz h hi];congr 1;by_cases h0:i=0
 .subst h0;rw[if_neg oS];exact hp.p0
 by_cases ri:¬ bM beh n i
 .rw[if_neg (fun g=>ri g.2)]
  have:de d.par i=true:=by
   cases e:de d.par i with
   |true=>rfl
   |false=>exact absurd ((GY h hp hi).1 e) ri
  exact(GX.1 this).2
 have ri:bM beh n i:=Classical.not_not.1 ri;rw[if_pos ⟨h0,ri⟩]
 have X:pA d.par i≠ -1:=by
  rcases qH.1 ((GY h hp hi).2 ri) with g|g
  .omega
  .exact g
 obtain⟨m,hm⟩:=hp.chain i hi h0 X;obtain⟨M,w2,w3⟩:=hp.ways i hi X;have cR:=Gs hm
 have J:0<=pA d.par i/\(pA d.par i).toNat<n/\pA d.par i≠i:=by
  generalize v9:(i:Int)=ii at hm;cases hm with
  |refl=>omega
  |step h0 h1 h2=>
   have:=h2.range oG;refine⟨this.1,oG,fun e=>?_⟩;have hd:=dR.O7 h2 (by rw[e];exact .step h0 h1 h2);omega
 obtain⟨p,fx⟩:=cU J.1;rw[fx] at J M w2 X;rw[fx];have Dp:p<n:=by simpa using J.2.1
 have ur:p≠i:=fun e=>J.2.2 (by rw[e]);have rQ:vJ beh p i:=fun hv=>(abM h hp hv).2 1 (.step oG oG (by rw[fx];exact .refl _))
 have qp:bL (fw beh ahd n) p (fw beh ahd n i):=by
  rcases((sm h ri).2 rQ).inv with g|g
  .exact absurd g ur
  .exact g
 obtain⟨rp,iO⟩:=(pU h).low ((pU h).par i ri h0).1 qp
 have j5:vJ beh (fw beh ahd n i) p:=fun hv=>by
  generalize hq:fw beh ahd n i=q at hv;obtain⟨YZ,nq⟩:=Lz h ri h0;rw[hq] at YZ nq
  have hqp:(q:Int)≠p:=fun e=>by
   have e:q=p:=by omega
   subst e;cases hv with
   |zero g=>
    have:=(pU h).mH;exact g rfl
   |step _ _ g=>exact g rfl
  have key:∀ l,mh beh p i l->(q:Int)∈l:=fun l hw=>Classical.byContradiction fun Ds=>YZ (by
   have:=S2 hw (S:=fun x=>Av (iZ beh) q x) (by rw[bN];exact hv) fun x hx c hc cJ=>by
    have lO:=h.to x c hc;refine .step hx ?_ fun e=>Ds ?_
    .show((c.toNat:Nat):Int)∈beh x;rw[Int.toNat_of_nonneg lO.1];exact hc
    .have:(q:Int)=c:=by rw[<- e];exact Int.toNat_of_nonneg lO.1
     rw[this];exact cJ
   rwa[bN] at this)
  have m1:=key _ M;have m2:=key _ w2;obtain⟨j,hj⟩:=cC m1;have cV:=(bw.1 hj).1;have C:(d.one.getD i []).getD j 0=q:=by rw[bl,hj];rfl
  have kY:j≠0:=fun e=>by rw[e,M.hd] at C;exact hqp C.symm
  have hje:j≠(d.one.getD i []).length - 1:=fun e=>by rw[e,M.O6] at C;omega
  exact w3 j oG oG (by rw[C];exact m2)
 have zT:=(sm h rp).2 j5;obtain⟨_,aoR⟩:=(pU h).low rp zT;have:p=fw beh ahd n i:=by omega
 rw[this]
end
section
variable{beh ahd:Nat->List Int}{n:Nat}(h:ud beh ahd n)
include h
theorem S3{fr:Nat}{w:Int}{x:Nat}(c:Int)(hx:Av (iZ beh) fr x\/x=fr\/Rf beh fr w x)(hc:c∈beh x)(C:c≠w\/Av (iZ beh) fr c.toNat):Av (iZ beh) fr c.toNat\/c.toNat=fr\/Rf beh fr w c:=by
 have J:=h.to x c hc
 have he:iZ beh x c.toNat:=by
  show((c.toNat:Nat):Int)∈beh x;rw[Int.toNat_of_nonneg J.1];exact hc
 by_cases hf:c.toNat=fr
 .exact .inr (.inl hf)
 .rcases C with C|C
  .rcases hx with hx|hx|hx
   .exact .inl (.step hx he hf)
   .subst hx;exact .inr (.inr (.one (by simpa using hc) oG C))
   .exact .inr (.inr (.step hx (by simpa using hc) oG C))
  .exact .inl C
theorem adU{b:Nat}(C:bM beh n b)(hz:b≠0){w:Int}(hw:w≠(fw beh ahd n b:Nat))(zX:w≠b):Rf beh (fw beh ahd n b:Nat) w b:=by
 obtain⟨hd,M⟩:=Lz h C hz;have rf:=((pU h).par b C hz).1;generalize hf:fw beh ahd n b=fr at hw hd M rf
 have fin:(Av (iZ beh) fr b\/b=fr\/Rf beh fr w (b:Nat))->Rf beh fr w b:=fun g=>by
  rcases g with g|g|g
  .exact absurd g hd
  .exact absurd g.symm M
  .exact g
 by_cases X:0<=w/\¬ Av (iZ beh) fr w.toNat
 .obtain⟨J,rfl⟩:=cU X.1;have hwd:vJ beh fr J:=by have:=X.2;rwa[bN] at this
  have hv:Av (iZ beh) J b:=by
   apply Classical.byContradiction;intro b8;have dt:=(sm h C).2 (show vJ beh J b from b8);rcases dt.inv with g|g
   .exact zX (by rw[g])
   .rw[hf] at g;obtain⟨Jp,hl⟩:=(pU h).low rf g;have hfa:=(sm h Jp).2 hwd;obtain⟨_,rL⟩:=(pU h).low Jp hfa;have:J≠fr:=fun e=>hw (by rw[e]);omega
  refine fin ?_;clear fin hd M C hz zX hf
  induction hv with
  |zero g=>
   by_cases e:0=fr
   .exact .inr (.inl e)
   .exact .inl (.zero e)
  |@step x c _ he g ih=>
   have:=S3 h (w:=(J:Int)) (c:Int) ih he (.inl oG)
   rwa[bN] at this
 .refine fin ?_
  have key:=GV (beh:=beh) (w:= -1) (n:=n) (S:=fun x=>Av (iZ beh) fr x\/x=fr\/Rf beh fr w (x:Nat)) (fun x hx c hc _=>by
   have lO:=h.to x c hc
   have:=S3 h (w:=w) c hx hc (by
    by_cases e:c=w
    .refine .inr ?_;subst e;exact Classical.byContradiction fun g=>X ⟨lO.1,g⟩
    .exact .inl e)
   rw[Int.toNat_of_nonneg lO.1];exact this) (by
   by_cases e:0=fr
   .exact .inr (.inl e)
   .exact .inl (.zero e)) b
  exact key C
end
def wT(n:Nat)(fr to:Int)(s:ay):Prop:=0<=s.1/\s.1.toNat<n/\(s.2=false->s.1≠fr)/\(s.2=true->s.1≠to)
def N2(U:List (ay×ay)):Prop:=∀ x y,(x,y)∈U->(y,x)∉U
section
variable{beh:Nat->List Int}{fr to:Int}{n:Nat}{U cm:List (ay×ay)}{op:List ay}
theorem adN(hb:∀ b,∀ c∈beh b,0<=c/\c.toNat<n)(J:∀ b,n<=b->beh b=[])(us:∀ e∈U,0<=e.1.1/\0<=e.2.1)(ed:∀ e∈U,lz beh fr to e.1 e.2){x y:ay}(hx:wT n fr to x)(h:uz beh fr to U x y):wT n fr to y:=by
 rcases h with⟨h,_⟩|h
 .cases h with
  |out hc hf _=>exact⟨(hb _ _ hc).1,(hb _ _ hc).2,fun _=>hf,fun e=>by cases e⟩
  |Bd hf ht=>exact⟨hx.1,hx.2.1,(fun e=>by cases e),fun _=>ht⟩
 .have C:=us _ h;have he:=ed _ h;obtain⟨M,X⟩:=y;dsimp only at he C;cases he with
  |out hc hf ht=>
   refine⟨C.1,?_,(fun e=>by cases e),fun _=>ht⟩;rcases Nat.lt_or_ge M.toNat n with g|g
   .exact g
   .rw[J _ g] at hc;simp at hc
  |Bd hf _=>exact⟨hx.1,hx.2.1,(fun _=>hf),fun e=>by cases e⟩
theorem B5(h:SR beh fr to U cm op)(hk:∀ k∈bY cm,wT n fr to k):cm.length<=2*n:=by
 have h1:((bY cm).map EW).Nodup:=List.Pairwise.map _ (fun a b J e=>J (abJ e)) h.nd
 have:=BB (n:=2*n) h1 fun x hx=>by
  obtain⟨k,C,rfl⟩:=List.mem_map.1 hx;have:=hk k C;unfold EW wT at*
  obtain⟨k1,M⟩:=k;dsimp only at*
  cases M<;>simp<;>omega
 rw[List.length_map] at this;unfold bY at this
 rwa[List.length_map] at this
theorem adO(ed:∀ e∈U,lz beh fr to e.1 e.2)(h:N2 U)(hn:U.Nodup){x y:ay}(hxy:x≠y):N2 (l5 U x y):=by
 unfold l5 eh;split
 .intro a b X J;exact h a b (List.mem_of_mem_erase X) (List.mem_of_mem_erase J)
 .rename_i M;have M:(y,x)∉U:=by simpa using M
  intro a b X J;rcases List.mem_append.1 X with g|g
  .rcases List.mem_append.1 J with C|C
   .exact h a b g C
   .simp only[List.mem_singleton,bQ] at C;obtain⟨rfl,rfl⟩:=C;exact M g
  .simp only[List.mem_singleton,bQ] at g;obtain⟨rfl,rfl⟩:=g;rcases List.mem_append.1 J with C|C
   .exact M C
   .simp only[List.mem_singleton,bQ] at C;exact hxy C.1.symm
theorem S4{x y:ay}(h:lz beh fr to x y):x≠y:=by
 cases h<;>simp
theorem aeW(ed:∀ e∈U,lz beh fr to e.1 e.2){x y:ay}(h:uz beh fr to U x y):x≠y:=by
 rcases h with⟨h,_⟩|h
 .exact S4 h
 .exact fun e=>S4 (ed _ h) e.symm
theorem JA(ed:∀ e∈U,lz beh fr to e.1 e.2){a:Int}{K:ay->Prop}(h1:∀ c∈beh a.toNat,c≠fr->((a,true),(c,false))∉U->K (c,false))(h2:a≠fr->((a,false),(a,true))∈U->K (a,false)):∀ y,uz beh fr to U (a,true) y->K y:=fun y h=>by
 rcases h with⟨h,hn⟩|h
 .cases h with
  |out hc hf _=>exact h1 _ hc hf hn
 .have he:=ed _ h;obtain⟨C,J⟩:=y;dsimp only at he;cases he with
  |Bd hf _=>exact h2 hf h
theorem aaS(ed:∀ e∈U,lz beh fr to e.1 e.2)(us:∀ e∈U,0<=e.1.1/\0<=e.2.1){b:Int}{K:ay->Prop}(h1:((b,false),(b,true))∉U->K (b,true))(h2:∀ a:Int,0<=a->b∈beh a.toNat->((a,true),(b,false))∈U->K (a,true)):∀ y,uz beh fr to U (b,false) y->K y:=fun y h=>by
 rcases h with⟨h,hn⟩|h
 .cases h with
  |Bd _ _=>exact h1 hn
 .have he:=ed _ h;have C:=us _ h;obtain⟨J,M⟩:=y;dsimp only at he C;cases he with
  |out hc _ _=>exact h2 _ C.1 hc h
end
def ot{σ:Type}(step:σ->Option σ):Nat->σ->Option σ
 |0,s=>some s
 |k+1,s=>(ot step k s).bind step
theorem Le{σ:Type}{step:σ->Option σ}{k:Nat}{s t:σ}(h:ot step k s=some t)(he:step t=none):∀ j,ot step (k+j+1) s=none
 |0=>by show(ot step k s).bind step=none;rw[h];exact he
 |j+1=>by show(ot step (k+j+1) s).bind step=none;rw[Le h he j];rfl
theorem KH{σ:Type}{step:σ->Option σ}{k C:Nat}{s t J:σ}(h:ot step k s=some t)(he:step t=none)(h':ot step C s=some J)(M:step J=none):t=J:=by
 rcases Nat.lt_trichotomy k C with g|g|g
 .have:=Le h he (C - k - 1);rw[show k+(C - k - 1)+1=C by omega,h'] at this;cases this
 .subst g;rw[h] at h';cases h';rfl
 .have:=Le h' M (k - C - 1);rw[show C+(k - C - 1)+1=k by omega,h] at this;cases this
theorem BG{σ:Type}{step:σ->Option σ}{k:Nat}{s t u:σ}(h:ot step k s=some t)(hs:step t=some u):ot step (k+1) s=some u:=by
 show(ot step k s).bind step=_;rw[h];exact hs
abbrev SS:=List (ay×ay)×List ay
def rP(U:List (ay×ay))(x:ay)(s:SS)(y:ay):SS:=if y∉bY s.1/\(x,y)∉U then(s.1++[(y,x)],s.2++[y]) else s
def zL(fr:Int)(U:List (ay×ay))(b:Int)(l:List Int)(s:SS):SS:=l.foldl (fun s t=>if t=fr then s else rP U (b,true) s (t,false)) s
def zN(U:List (ay×ay))(b:Int)(l:List Int)(s:SS):SS:=l.foldl (fun s t=>if eh U (t,true) (b,false)=true then rP U (b,false) s (t,true) else s) s
def EO(beh ahd:Nat->List Int)(fr to:Int)(U:List (ay×ay))(s:SS):Option SS:=match s.2 with
 |[]=>none
 |(b,true)::op=>some (if b≠fr/\eh U (b,false) (b,true)=true then rP U (b,true) (zL fr U b (beh b.toNat) (s.1,op)) (b,false) else zL fr U b (beh b.toNat) (s.1,op))
 |(b,false)::op=>if b=to then none else some (zN U b (ahd b.toNat) (rP U (b,false) (s.1,op) (b,true)))
def Ew(beh ahd:Nat->List Int)(fr to:Int)(U cm:List (ay×ay)):Prop:=∃ k op,ot (EO beh ahd fr to U) k ([((fr,true),(fr,true))],[(fr,true)])=some (cm,op)/\EO beh ahd fr to U (cm,op)=none
def Ms(cm:List (ay×ay))(y:ay):Option ay:=(cm.find? fun e=>e.1==y).map (·.2)
def HX(fr:Int)(cm:List (ay×ay))(s:ay×List (ay×ay)):Option (ay×List (ay×ay)):=if s.1=(fr,true) then none else(Ms cm s.1).map fun x=>(x,l5 s.2 x s.1)
def ID(fr to:Int)(cm U V:List (ay×ay)):Prop:=∃ k,ot (HX fr cm) k ((to,false),U)=some ((fr,true),V)
inductive vY(beh ahd:Nat->List Int)(fr to:Int):Nat->List (ay×ay)->Prop
 |zero:vY beh ahd fr to 0 []
 |succ {r:Nat} {U cm V:List (ay×ay)} (h:vY beh ahd fr to r U) (hs:Ew beh ahd fr to U cm) (hb:ID fr to cm U V):vY beh ahd fr to (r+1) V
def Cl(beh:Nat->List Int)(to:Int)(U:List (ay×ay))(s:List Int×Int):Option (List Int×Int):=if s.2=to then none else((beh s.2.toNat)[(oc (fun d=>eh U (s.2,true) (d,false)) (beh s.2.toNat)).toNat]?).map fun d=>(s.1++[s.2],d)
def Az(beh:Nat->List Int)(fr to:Int)(U:List (ay×ay))(c:Int)(w:List Int):Prop:=∃ k w',ot (Cl beh to U) k ([fr],c)=some (w',to)/\w=w'++[to]
def CB(beh ahd:Nat->List Int)(fr to:Int)(d:D):Prop:=
 (to∈beh fr.toNat/\d=.tup [au [fr,to],au [fr,to]])\/(to∉beh fr.toNat/\∃ U C J,vY beh ahd fr to 2 U/\[C,J].map (fun w=>w.getD 1 0)=(beh fr.toNat).filter (fun c=>eh U (fr,true) (c,false))/\(∀ w∈[C,J],Az beh fr to U (w.getD 1 0) w)/\d=.tup [au C,au J])
section
variable{beh ahd:Nat->List Int}{fr to:Int}{U cm uA V V':List (ay×ay)}
theorem Ew.vw(h:Ew beh ahd fr to U cm)(h':Ew beh ahd fr to U uA):cm=uA:=by
 obtain⟨k,op,h1,h2⟩:=h;obtain⟨X,M,J,C⟩:=h';have:=KH h1 h2 J C;cases this;rfl
theorem ID.vw(h:ID fr to cm U V)(h':ID fr to cm U V'):V=V':=by
 obtain⟨k,h1⟩:=h;obtain⟨J,C⟩:=h';have he:∀ W,HX fr cm ((fr,true),W)=none:=fun W=>if_pos rfl;have:=KH h1 (he _) C (he _);cases this;rfl
theorem vY.vw{r:Nat}(h:vY beh ahd fr to r V):∀ {V'},vY beh ahd fr to r V'->V=V':=by
 induction h with
 |zero=>intro V' h';cases h';rfl
 |succ h hs hb ih=>
  intro V' h';cases h' with
  |succ g gs C=>
   have:=ih g;subst this;have:=hs.vw gs;subst this;exact hb.vw C
theorem Az.vw{c:Int}{w w':List Int}(h:Az beh fr to U c w)(h':Az beh fr to U c w'):w=w':=by
 obtain⟨k,v,h1,rfl⟩:=h;obtain⟨J,M,C,rfl⟩:=h';have he:∀ W,Cl beh to U (W,to)=none:=fun W=>if_pos rfl;have:=KH h1 (he _) C (he _);cases this;rfl
theorem CB.vw{d d':D}(h:CB beh ahd fr to d)(h':CB beh ahd fr to d'):d=d':=by
 rcases h with⟨h0,rfl⟩|⟨h0,U,J,M,hS,hm,C,rfl⟩<;>rcases h' with⟨O9,rfl⟩|⟨O9,U',w1',w2',FA,jd,Br,rfl⟩
 .rfl
 .exact absurd h0 O9
 .exact absurd O9 h0
 .have:=hS.vw FA;subst this;rw[<- jd] at hm;simp only[List.map_cons,List.map_nil,List.cons.injEq,and_true] at hm;have e1:=(C J oS).vw (hm.1▸Br w1' oS);have e2:=(C M oS).vw (hm.2▸Br w2' oS);rw[e1,e2]
theorem Q5{l:List Int}{i:Nat}{t b:Int}{s:SS}(ht:l[i]? =some t):zL fr U b (l.take (i+1)) s=if t=fr then zL fr U b (l.take i) s else rP U (b,true) (zL fr U b (l.take i) s) (t,false):=by
 unfold zL;rw[List.take_add_one,ht,Option.toList_some,List.foldl_append,List.foldl_cons,List.foldl_nil]
theorem Q6{l:List Int}{i:Nat}{t b:Int}{s:SS}(ht:l[i]? =some t):zN U b (l.take (i+1)) s=if eh U (t,true) (b,false)=true then rP U (b,false) (zN U b (l.take i) s) (t,true) else zN U b (l.take i) s:=by
 unfold zN;rw[List.take_add_one,ht,Option.toList_some,List.foldl_append,List.foldl_cons,List.foldl_nil]
theorem adP(hn:(bY cm).Nodup){x y:ay}(h:(y,x)∈cm):Ms cm y=some x:=by
 unfold Ms;cases hf:cm.find? fun e=>e.1==y with
 |none=>
  rw[List.find?_eq_none] at hf;have:=hf _ h;simp at this
 |some e=>
  have h1:=List.mem_of_find?_eq_some hf;have h2:=List.find?_some hf;obtain⟨a,b⟩:=e;have h2:a=y:=by simpa using h2
  subst h2;obtain⟨i,hi⟩:=cC h1;obtain⟨j,hj⟩:=cC h;have:=KT hn hi hj;subst this;rw[hi] at hj;cases hj;rfl
end
end Go.Argus
section
open Go Go.Abs Go.Proofs Go.Argus
namespace Go.Argus
def ct(d:eW):List D:=[au d.par,bx d.one,bx d.two]
theorem wu(d:eW):∀ a∈ct d,Tr a:=.cons (cL _) (.cons (yz _) (.cons (yz _) .nil))
@[simp] theorem aoa (d : eW) : (ct d).length = 3 := rfl
theorem ss{par:List Int}{b:Nat}(h:b<par.length):par[b]? =some (pA par b):=by
 unfold pA;rw[bN,bl,aN h];rfl
theorem HU:∀ a b c d:Bool,(if(if(if a=true then true else b)=true then true else c)=true then true else d)=(a||(b||(c||d))):=by decide
def qR(f:aG)(d:eW):D:=if dH f=0 then .tup [B (yM (aT f) (c9 f) f.ab.length d),I 0] else .tup [B false,I (dH f)]
theorem Q3(f:aG)(d:eW):Tr (qR f d):=by
 unfold qR;split<;>exact .tup (.cons (.s _) (.cons (.s _) .nil))
structure Ay(d:eW):Prop where
 o:∀ l∈d.one,l.length<=10000
 t:∀ l∈d.two,l.length<=10000
theorem G6{L:List (List Int)}{n b:Nat}(h:∀ l∈L,l.length<=n):(L.getD b []).length<=n:=by
 rw[bl];cases e:L[b]? with
 |none=>exact Nat.zero_le _
 |some l=>exact h l (bU e)
theorem adI{one:List Int}{i:Nat}(h:i<one.length - 2):((one.drop 1).take (one.length - 2))[i]? =some (one.getD (i+1) 0):=by
 rw[List.getElem?_take,if_pos h,List.getElem?_drop,bl,Nat.add_comm,aN oG];rfl
theorem RS{one:List Int}:((one.drop 1).take (one.length - 2)).length=one.length - 2:=by simp;omega
def Dc(par:List Int)(b:Int):D:=match gY par (par.length+1) b with
 |none=>.tup [.z,B false]
 |some l=>.tup [au l,B true]
theorem af'(par:List Int)(b:Int):Tr (Dc par b):=by
 unfold Dc;split
 .exact .tup (.cons HV (.cons (.s _) .nil))
 .exact .tup (.cons (cL _) (.cons (.s _) .nil))
def rM(par:List Int)(O:List Int)(k:Nat)(b:Int):Option (List Int):=(gY par k b).map (O++·)
theorem aaJ(par:List Int)(b:Int):gY par (par.length+1) b=rM par [] (par.length+1) b:=by
 unfold rM;cases gY par (par.length+1) b<;>rfl
theorem acf(par O:List Int)(k:Nat):rM par O k 0=some (O++[0]):=by
 unfold rM;cases k<;>(unfold gY;rw[if_pos rfl];rfl)
theorem adK{par O:List Int}{k:Nat}{b:Int}(h0:b≠0)(h:k=0\/b<0\/(par.length:Int)<=b):rM par O k b=none:=by
 unfold rM;cases k with
 |zero=>unfold gY;rw[if_neg h0];rfl
 |succ k=>unfold gY;rw[if_neg h0];dsimp only;rw[if_pos oG];rfl
theorem acg{par O:List Int}{k:Nat}{b:Int}(h0:b≠0)(h1:0<=b)(h2:b<par.length):rM par O (k+1) b=rM par (O++[b]) k (pA par b):=by
 unfold rM
 conv=>lhs;unfold gY
 rw[if_neg h0];dsimp only;rw[if_neg oG];cases gY par k (pA par b) with
 |none=>rfl
 |some l=>simp
def wy(f:aG)(d:eW):D:=if dH f=0 then .tup [B (yO (aT f) (c9 f) f.ab.length d),I 0] else .tup [B false,I (dH f)]
theorem aaK(f:aG)(d:eW):Tr (wy f d):=by
 unfold wy;split<;>exact .tup (.cons (.s _) (.cons (.s _) .nil))
def sd(l:List Int):Bool:= !decide ((30:Int)<(l.length:Int))
def BN(d:eW):Bool:= !((decide ((30:Int)<(d.par.length:Int)))||((decide ((30:Int)<(d.one.length:Int)))||(decide ((30:Int)<(d.two.length:Int)))))&&(d.one.all sd&&d.two.all sd)
theorem aci{d:eW}(h:BN d=true):Ay d:=by
 unfold BN at h;rw[aM,aM] at h;refine⟨fun l hl=>?_,fun l hl=>?_⟩
 .have:=bj.1 h.2.1 l hl;unfold sd at this;have:¬ (30:Int)<(l.length:Int):=by simpa using this
  omega
 .have:=bj.1 h.2.2 l hl;unfold sd at this;have:¬ (30:Int)<(l.length:Int):=by simpa using this
  omega
theorem X7:∀ a b c:Bool,(if(if a=true then true else b)=true then true else c)=(a||(b||c)):=by decide
end Go.Argus
namespace Go.Proofs.Tryz.K
theorem sI{par:List Int}{b a:Int}(hb:b<par.length):PCall prog 118 [au par,I b,I a] (B (hZ par par.length b a)):=by
 have a7:∀ x∈[au par,I b,I a],Tr x:=.cons (cL _) (.cons (.s _) (.cons (.s _) .nil));refine mJ L6.he a7 fun fq=>?_;have hlen:=(fq (au par) oS).sl.1;unfold maxLen at hlen;refine bg L6 a7 (Tr.s _) ?_;rw[af8];refine ws (SS ?_);refine af (aB (az (aq ?_)))
 refine af (bR (fun s=>∃ M,Ghost prog s ⟨aD [(1,I M),(2,I a)],fun _=>none,0⟩/\hZ par par.length b a=(M==a)) (dV (α:=Nat×Int)
  (fun s=>⟨aD [(0,au par),(1,I s.2),(2,I a),(8,I par.length),(9,I s.1)],fun _=>none,0⟩)
  (fun s=>s.1<=par.length/\s.2<par.length/\hZ par par.length b a=hZ par (par.length - s.1) s.2 a) (fun s=>par.length - s.1) (0,b) (ap eH) ⟨Nat.zero_le _,hb,rfl⟩ ?_) ?_)
 .rintro⟨k,c⟩ ⟨hk,hc,hinv⟩;dsimp only at hk hc hinv ⊢;refine SS ?_;refine af ⟨_,rfl,fun h=>?_,fun h=>?_⟩
  .have ao:k<par.length:=by simpa using h
   obtain⟨j,hj⟩:∃ j,par.length - k=j+1:=⟨par.length - k - 1,oG⟩
   rw[hj,hZ] at hinv;refine aB (aj ?_);by_cases xN:c=a
   .have dY:(c==a)=true:=by simp[xN]
    rw[if_pos dY] at hinv;refine aq ?_;refine af (dN (aB (aj (SS ?_))));refine af (bX (br (aR (av (d:=B true) rfl ?_))));rw[hinv]
   have dY:(c==a)=false:=by simp[xN]
   rw[if_neg (by rw[dY];simp)] at hinv;refine aq ?_;refine af (gU (bP (aB (aj ?_))));have C:(c<=0\/pA par c<0\/(par.length:Int)<=pA par c)->B false=B (hZ par par.length b a):=fun g=>by rw[hinv,if_pos g]
   by_cases vU:c<=0
   .have E1:decide (c<=0)=true:=decide_eq_true vU;refine aq ?_;(iterate 5 refine z fun _ _=>?_);refine ag ?_;(iterate 7 refine z fun _ _=>?_);refine SS ?_;refine af (dN (aB (aj (SS ?_))));exact af (bX (br (aR (av (d:=B false) rfl (C (.inl vU))))))
   have E1:decide (c<=0)=false:=decide_eq_false vU;obtain⟨cn,rfl⟩:=cU (show 0<=c by omega);have hx:=ss (par:=par) (b:=cn) oG;generalize pA par cn=x at hx C hinv;by_cases X:x<0
   .have jU:decide (x<0)=true:=decide_eq_true X;refine bK ?_;refine ag ?_;(iterate 7 refine z fun _ _=>?_);refine SS ?_;refine af (dN (aB (aj (SS ?_))));exact af (bX (br (aR (av (d:=B false) rfl (C (.inr (.inl X)))))))
   have jU:decide (x<0)=false:=decide_eq_false X;by_cases J:(par.length:Int)<=x
   .have xd:decide ((par.length:Int)<=x)=true:=decide_eq_true J;refine aJ ?_;refine aJ ?_;refine af (cx rfl (fun _=>?_) fun h=>(by revert h;simp[J]));refine aB (aj (SS ?_));exact af (bX (br (aR (av (d:=B false) rfl (C (.inr (.inr J)))))))
   have xd:decide ((par.length:Int)<=x)=false:=decide_eq_false J;rw[if_neg oG] at hinv;refine aJ ?_;refine aJ ?_;refine af (cx rfl (fun h=>(by revert h;simp)) fun _=>bP (fh ?_));refine aO ?_;refine af (ag ?_);refine af (aK (k+1,x) (ap eH) ⟨oM,oM,?_⟩ oM);dsimp only;rw[hinv,show par.length - (k+1)=j by omega]
  .have a9:¬ k<par.length:=by simpa using h
   refine⟨c,ap eH,?_⟩;rw[hinv,show par.length - k=0 by omega];rfl
 .rintro s ⟨M,hg,he⟩;refine⟨_,hg,aj ?_⟩;refine aP ?_;refine af (av (d:=.s (.bool _)) rfl ?_);rw[he]
theorem ajT{d:eW}{b:Int}(hb:b<d.par.length):PCall prog 117 [I b,.pt (ct d)] (B (de d.par b)):=by
 refine bg UH (.cons (.s _) (.cons (.pt (wu d)) .nil)) (Tr.s _) ?_;rw[af9];refine ws (SS ?_);refine er ?_;by_cases h0:0<b
 .have eM:decide (0<b)=true:=decide_eq_true h0;obtain⟨C,rfl⟩:=cU (show 0<=b by omega);have hx:=ss (par:=d.par) (b:=C) oG;have J:de d.par C=(pA d.par C== -1):=by unfold de;rw[eM];rfl
  generalize pA d.par C=x at hx J;refine aJ ?_;refine ag ?_;refine af (av (d:=.s (.bool _)) rfl ?_);rw[J]
 .have eM:decide (0<b)=false:=decide_eq_false h0;have J:de d.par b=false:=by unfold de;rw[eM];rfl
  refine aq ?_;(iterate 6 refine z fun _ _=>?_);refine ag ?_;refine af (av (d:=.s (.bool _)) rfl ?_);rw[J]
section
variable{f:aG}{beh ahd:List (List Int)}{c:D}(hc:Tr c)(gg:c.one=true)
include hc gg
theorem A8{n:Nat}(hn:f.ab.length=n)(jf:n<=100000)(cZ:beh.length=n){l:List Int}{fr to:Int}:PCall prog 53 [.pt (bA f beh ahd c),au l,I fr,I to] (B (od (aA beh) n l fr to)):=by
 have a7:∀ x∈[D.pt (bA f beh ahd c),au l,I fr,I to],Tr x:=.cons (Ab hc) (.cons (cL _) (.cons (.s _) (.cons (.s _) .nil)));refine mJ MK.he a7 fun fq=>?_;have hlen:=(fq (au l) oS).sl.1;unfold maxLen at hlen;have CA:=fun b=>qv (f:=f) (beh:=beh) (ahd:=ahd) (c:=c) hc gg (b:=b);rw[hn] at CA;refine bg MK a7 (Tr.s _) ?_;rw[ajU];have xQ:∀ i,i<l.length->l[i]? =some (l.getD i 0):=fun i hi=>by rw[bl,aN hi];rfl
 refine ws (SS ?_);refine af (aB (aj ?_))
 have J:(¬ 2<=l.length\/¬ l.length<=n\/¬ l.getD 0 0=fr\/¬ l.getD (l.length - 1) 0=to)->B false=B (od (aA beh) n l fr to):=fun g=>by
  congr 2;refine(Bool.eq_false_iff.2 fun e=>?_).symm;unfold od jV at e;simp only[aM,decide_eq_true_eq,beq_iff_eq] at e;rcases g with g|g|g|g
  .exact g e.2.1
  .exact g e.1
  .exact g e.2.2.1
  .exact g e.2.2.2.1
 by_cases h2:l.length<2
 .have jU:decide ((l.length:Int)<2)=true:=decide_eq_true oG;refine aP ?_;(iterate 9 refine z fun _ _=>?_);refine ag ?_;(iterate 5 refine z fun _ _=>?_);refine ag ?_;(iterate 8 refine z fun _ _=>?_);refine SS ?_;refine af (dN (aB (aj (SS ?_))));exact af (bX (av rfl (J (.inl oG))))
 have jU:decide ((l.length:Int)<2)=false:=decide_eq_false oG;by_cases xR:n<l.length
 .have eM:decide ((f.ab.length:Int)<(l.length:Int))=true:=decide_eq_true oG;refine aJ ?_;refine bB ?_;(iterate 5 refine z fun _ _=>?_);refine ag ?_;(iterate 8 refine z fun _ _=>?_);refine SS ?_;refine af (dN (aB (aj (SS ?_))));exact af (bX (av rfl (J (.inr (.inl oG)))))
 have eM:decide ((f.ab.length:Int)<(l.length:Int))=false:=decide_eq_false oG;have hx:=xQ 0 oG;have hy:=xQ (l.length - 1) oG;have M:(¬ l.getD 0 0=fr\/¬ l.getD (l.length - 1) 0=to)->B false=B (od (aA beh) n l fr to):=fun g=>J (.inr (.inr g));clear J
 have X:l.getD 0 0=fr->l.getD (l.length - 1) 0=to->od (aA beh) n l fr to=(range l.length).all (iV (aA beh) n l):=fun e1 e2=>by
  unfold od jV;rw[e1,e2,decide_eq_true (show 2<=l.length by omega),decide_eq_true (show l.length<=n by omega)];simp
 have nh:((l.length:Nat):Int) - 1=((l.length - 1:Nat):Int)/\ -9223372036854775808<=((l.length - 1:Nat):Int)/\((l.length - 1:Nat):Int)<=9223372036854775807:=by omega
 generalize l.getD 0 0=x0 at hx M X;generalize l.getD (l.length - 1) 0=xl at hy M X;by_cases h0:¬ x0=fr
 .have dv:(x0 !=fr)=true:=by simpa using h0
  refine aJ ?_;refine aJ ?_;refine aP ?_;(iterate 8 refine z fun _ _=>?_);refine SS ?_;refine af (dN (aB (aj (SS ?_))));exact af (bX (av rfl (M (.inl h0))))
 have h0:x0=fr:=Classical.not_not.1 h0;have dv:(x0 !=fr)=false:=by simpa using h0
 refine aJ ?_;refine aJ ?_;refine aJ ?_;refine aP ?_;refine af (cx rfl (fun h=>?_) fun h=>bP (aB (az ?_)))
 .refine aB (aj (SS ?_));exact af (bX (av rfl (M (.inr (by revert h;simp)))))
 have hl:xl=to:=by revert h;simp
 rw[X h0 hl];clear h M X hx hy nh eM jU dv;refine aq ?_
 refine af (bR (fun s=>Ghost prog s ⟨aD [],fun _=>none,0⟩/\∀ i,i<l.length->iV (aA beh) n l i=true) (dV (α:=Nat)
  (fun k=>⟨aD [(0,.pt (bA f beh ahd c)),(1,au l),(42,au l),(43,I l.length),(44,I k)],fun _=>none,0⟩)
  (fun k=>k<=l.length/\∀ i,i<k->iV (aA beh) n l i=true) (fun k=>l.length - k) 0 (ap eH) ⟨Nat.zero_le _,fun i h=>absurd h (Nat.not_lt_zero _)⟩ ?_) ?_)
 .rintro k ⟨hk,hinv⟩;refine SS ?_;refine af ⟨_,rfl,fun h=>?_,fun h=>?_⟩
  .have ao:k<l.length:=by simpa using h
   have hx:=xQ k ao;have J:iV (aA beh) n l k=false->B false=B ((range l.length).all (iV (aA beh) n l)):=fun h=>by rw[j6 ao h]
   have kP:iV (aA beh) n l k=true->∀ i,i<k+1->iV (aA beh) n l i=true:=fun h i hi=>by
    by_cases e:i=k
    .subst e;exact h
    .exact hinv i oG
   have C:iV (aA beh) n l k=(nI n (l.getD k 0)&&(!(eQ (l.take k) (l.getD k 0))&&(k==0||eQ (aA beh (l.getD (k - 1) 0).toNat) (l.getD k 0)))):=rfl;generalize iV (aA beh) n l k=ok at C J kP;generalize l.getD k 0=x at hx C;refine ws (aO ?_);refine af (dF acd ?_);have qv:=CA x;have k8:=k8 (l:=l.take (k:Int).toNat) (v:=x);rw[bN] at k8;generalize eQ (l.take k) x=q2 at k8 C;generalize nI n x=q1 at qv C;cases q1 with
   |false=>
    refine ag ?_;refine cl qv (ag ?_);(iterate 5 refine z fun _ _=>?_);refine aO ?_;(iterate 15 refine z fun _ _=>?_);refine SS ?_;refine a8 bc (gJ (aj (SS ?_)));exact af (aY (br (aR (av rfl (J C)))))
   |true=>
   refine ag ?_;refine cl qv (aP ?_);refine bt rfl rfl (Km (f:=I) (l:=l) rfl vV c3 rfl vp ⟨oG,oG⟩) (fun hc=>⟨(by repeat' (first|exact trivial|exact hc|exact rfl|refine And.intro ?_ ?_)),trivial⟩) ?_;rw[bN];cases q2 with
   |true=>
    refine SS ?_;refine gc k8 (aO ?_);(iterate 15 refine z fun _ _=>?_);refine SS ?_;refine a8 bc (gJ (aj (SS ?_)));exact af (aY (br (aR (av rfl (J C)))))
   |false=>
   cases k with
   |zero=>
    have eM:decide ((0:Int)<((0:Nat):Int))=false:=rfl;refine SS ?_;refine gc k8 (aO ?_);(iterate 14 refine z fun _ _=>?_);refine ag ?_;refine a8 bc (gT (bS (ag ?_)));exact af (aK 1 (ap eH) ⟨oG,kP C⟩ oG)
   |succ j=>
    have eM:decide ((0:Int)<((j+1:Nat):Int))=true:=by simp
    have nh:((j+1:Nat):Int) - 1=(j:Int)/\ -9223372036854775808<=(j:Int)/\(j:Int)<=9223372036854775807:=by omega
    have hp:=xQ j oG;have xS:=hinv j oG;unfold iV at xS;rw[aM] at xS;have ur:=yu.1 xS.1;rw[show j+1 - 1=j by omega] at C;generalize l.getD j 0=p at hp ur C;clear xS;obtain⟨pn,rfl⟩:=cU ur.1;rw[bN] at C;have NQ:=tk (beh:=beh) (b:=pn) oG;refine SS ?_;refine gc k8 (aJ ?_);refine bK ?_;have k8:=K.k8 (l:=aA beh pn) (v:=x);generalize eQ (aA beh pn) x=q3 at k8 C;refine gc k8 (aq ?_);cases q3 with
    |false=>
     refine a8 bc (gJ (aj (SS ?_)));exact af (aY (br (aR (av rfl (J C)))))
    |true=>
     refine a8 bc (gT (bS (ag ?_)));exact af (aK (j+2) (ap eH) ⟨oG,kP C⟩ oG)
  .have a9:¬ k<l.length:=by simpa using h
   exact⟨fS (l:=[]) trivial,fun i hi=>hinv i oG⟩
 .rintro s ⟨hg,ha⟩;refine⟨_,hg,aj ?_⟩;refine SS ?_;refine af (av (d:=B true) rfl ?_);rw[show(range l.length).all (iV (aA beh) n l)=true from bj.2 fun i hi=>ha i (List.mem_range.1 hi)]
end
section
variable{f:aG}{beh ahd:List (List Int)}{c:D}(hc:Tr c)(gg:c.one=true)
include hc gg
theorem A9{n:Nat}{d:eW}(hn:f.ab.length=n)(jZ:0<n)(jf:n<=100000)(cZ:beh.length=n)(mB:ahd.length=n)(jv:∀ b,∀ t∈aA beh b,0<=t/\t.toNat<n)(sW:∀ b,∀ t∈aA ahd b,0<=t/\t.toNat<n)(A':∀ b,(aA ahd b).length<=100000):
 PCall prog 52 [.pt (bA f beh ahd c),.agg (ct d)] (B (qK (aA beh) (aA ahd) n d)):=by
 have a7:∀ x∈[D.pt (bA f beh ahd c),.agg (ct d)],Tr x:=.cons (Ab hc) (.cons (.agg (wu d)) .nil);have CA:=fun b=>qv (f:=f) (beh:=beh) (ahd:=ahd) (c:=c) hc gg (b:=b);rw[hn] at CA;have aE:ct d=[au d.par,bx d.one,bx d.two]:=rfl;refine bg We a7 (Tr.s _) ?_;rw[ajV];refine az (ag ?_);refine af (aW (bG [(0,ct d,30)] eH (l:=[(0,.pt (bA f beh ahd c)),(3,.pt (ct d))]) eH) (aj (dA ?_)));refine af (aB (aj ?_));have yV:lenP d n=false->B false=B (qK (aA beh) (aA ahd) n d):=fun h=>by rw[qK,h];rfl
 have Lp:lenP d n=true->qK (aA beh) (aA ahd) n d=((range n).all (o7 (aA beh) d.par n)&&(range n).all (mg (aA ahd) d.par)):=fun h=>by rw[qK,h];rfl
 generalize qK (aA beh) (aA ahd) n d=NR at yV Lp ⊢;by_cases xT:d.par.length=0
 .have dv:((d.par.length:Int) !=(f.ab.length:Int))=true:=by simp;omega
  have hb:=yV (by
   refine Bool.eq_false_iff.2 fun h=>?_;have:=(tl.1 h).1
   omega)
  refine bB ?_;(iterate 5 refine z fun _ _=>?_);refine ag ?_;(iterate 5 refine z fun _ _=>?_);refine ag ?_;(iterate 5 refine z fun _ _=>?_);refine SS ?_;refine af (dN (aB (aj (SS ?_))));exact af (bX (av rfl hb))
 have hx:=ss (par:=d.par) (b:=0) oG
 have xU:lenP d n= !(((d.par.length:Int) !=(f.ab.length:Int))||(((d.one.length:Int) !=(f.ab.length:Int))||(((d.two.length:Int) !=(f.ab.length:Int))||(pA d.par ((0:Nat):Int) != -1)))):=by
  rw[Bool.eq_iff_iff,tl];simp only[Bool.not_eq_true',Bool.or_eq_false_iff,bne_eq_false_iff_eq];constructor
  .rintro⟨h1,h2,h3,h4⟩;exact⟨oG,oG,oG,h4⟩
  .rintro⟨h1,h2,h3,h4⟩;exact⟨oG,oG,oG,h4⟩
 generalize pA d.par ((0:Nat):Int)=x0 at hx xU;refine aJ ?_;refine aJ ?_;refine bK ?_;refine af (cx rfl (fun h=>?_) fun h=>bP (aj ?_))
 .refine aB (aj ?_)
  have hb:=yV (by
   rw[xU];have h:=(HU _ _ _ _).symm.trans h
   rw[h];rfl)
  refine SS ?_;exact af (bX (av rfl hb))
 have ao:lenP d n=true:=by
  rw[xU];have h:=(HU _ _ _ _).symm.trans h;rw[h];rfl
 rw[Lp ao];have iO:=(tl.1 ao).1;clear h xU Lp yV ao xT;have FK:∀ b:Int,b<n->PCall prog 117 [I b,.pt (ct d)] (B (de d.par b)):=fun b hb=>ajT oG;have UI:∀ b a:Int,b<n->PCall prog 118 [au d.par,I b,I a] (B (hZ d.par d.par.length b a)):=fun b a hb=>sI oG;have UJ:∀ b,PCall prog 119 [au (aA beh b),.fn (.func 117) [] [.pt (ct d)]] (B ((aA beh b).any (de d.par))):=fun b=>sF (.fn oS (.cons (.pt (wu d)) .nil)) fun x hx=>FK x (by have:=jv b x hx;omega);refine ag ?_;refine af (aB (az (aP ?_)))
 refine af (bR (fun s=>Ghost prog s ⟨aD [(0,.pt (bA f beh ahd c)),(3,.pt (ct d)),(5,I f.ab.length),(6,.fn (.func 117) [] [.pt (ct d)])],fun _=>none,1⟩/\∀ i,i<n->o7 (aA beh) d.par n i=true) (dV (α:=Nat)
  (fun k=>⟨aD [(0,.pt (bA f beh ahd c)),(3,.pt (ct d)),(5,I f.ab.length),(6,.fn (.func 117) [] [.pt (ct d)]),(46,au d.par),(47,I d.par.length),(48,I k)],fun _=>none,1⟩)
  (fun k=>k<=n/\∀ i,i<k->o7 (aA beh) d.par n i=true) (fun k=>n - k) 0 (ap eH) ⟨Nat.zero_le _,fun i h=>absurd h (Nat.not_lt_zero _)⟩ ?_) ?_)
 .rintro k ⟨hk,hinv⟩;refine SS ?_;refine af ⟨_,rfl,fun h=>?_,fun h=>?_⟩
  .have ao:k<n:=by
    have:k<d.par.length:=by simpa using h
    omega
   have hx:=ss (par:=d.par) (b:=k) oG;have pB:=tk (beh:=beh) (b:=k) oG;have M:o7 (aA beh) d.par n k=false->B false=B ((range n).all (o7 (aA beh) d.par n)&&(range n).all (mg (aA ahd) d.par)):=fun h=>by rw[j6 ao h,Bool.false_and]
   have kP:o7 (aA beh) d.par n k=true->∀ i,i<k+1->o7 (aA beh) d.par n i=true:=fun h i hi=>by
    by_cases e:i=k
    .subst e;exact h
    .exact hinv i oG
   have C:o7 (aA beh) d.par n k=(de d.par k||((k==0||(nI n (pA d.par k)&&(!(de d.par (pA d.par k))&&hZ d.par d.par.length k 0)))&& !((aA beh k).any (de d.par)))):=rfl;have sI:=UI k 0 oG;have sF:=UJ k
   have iX:o7 (aA beh) d.par n k=true->∀ {env},jN [(0,.pt (bA f beh ahd c)),(3,.pt (ct d)),(5,I f.ab.length),(6,.fn (.func 117) [] [.pt (ct d)]),(46,au d.par),(47,I d.par.length),(48,I ((k+1:Nat):Int))] env->sA prog (fun k:Nat=>(⟨aD [(0,.pt (bA f beh ahd c)),(3,.pt (ct d)),(5,I f.ab.length),(6,.fn (.func 117) [] [.pt (ct d)]),(46,au d.par),(47,I d.par.length),(48,I k)],fun _=>none,1⟩:St))
    (fun k=>k<=n/\∀ i,i<k->o7 (aA beh) d.par n i=true) (fun k=>n - k) k ⟨env,fun _=>none,1⟩:=fun h {env} he=>aK (k+1) (ap he) ⟨oG,kP h⟩ oG
   generalize o7 (aA beh) d.par n k=ok at C M iX;have C0:=FK (pA d.par k);have Fx:=yu (n:=n) (b:=pA d.par k);have qv:=CA (pA d.par k);generalize pA d.par k=p at hx C C0 Fx qv;generalize hZ d.par d.par.length k 0=q3 at sI C;generalize (aA beh k).any (de d.par)=q4 at sF C;generalize aA beh k=bk at pB sF;refine ws (aO ?_);refine af (aB (aj ?_));have J:=FK k oG;cases ho:de d.par k with
   |true=>
    rw[ho] at J C;refine ag ?_;refine cl J (af (cx rfl (fun h=>jy (mR (ag ?_))) fun h=>oH));exact af (iX C ⟨rfl,rfl,rfl,rfl,rfl,rfl,rfl,trivial⟩)
   |false=>
   rw[ho] at J C;refine ag ?_;refine cl J (af (cx rfl (fun h=>oH) fun h=>bP (aj ?_)));clear J;cases k with
   |zero=>
    have eM:decide ((0:Int)<((0:Nat):Int))=false:=rfl;have J:(false==true&&(!nI n p)==false)=true->PCall prog 117 [I p,.pt (ct d)] (B false):=fun h=>by simp at h
    refine aO ?_;refine gc qv (aP ?_);refine B2 rfl rfl rfl (fun hc=>⟨ak,J hc⟩) (aO ?_);refine gc sI (aJ ?_);refine aq ?_;refine gc sF (SS ?_);cases q4 with
    |true=>
     refine af (gJ (aj (SS ?_)));exact af (aY (br (aR (av rfl (M C)))))
    |false=>
     refine af (gT (bS (ag ?_)));exact af (iX C ⟨rfl,rfl,rfl,rfl,rfl,rfl,rfl,trivial⟩)
   |succ j=>
    have eM:decide ((0:Int)<((j+1:Nat):Int))=true:=by simp
    generalize nI n p=q1 at qv C Fx;cases q1 with
    |false=>
     refine aO ?_;refine gc qv (ag ?_);(iterate 3 refine z fun _ _=>?_);refine ag ?_;(iterate 5 refine z fun _ _=>?_);refine aq ?_;(iterate 9 refine z fun _ _=>?_);refine SS ?_;refine af (gJ (aj (SS ?_)));exact af (aY (br (aR (av rfl (M C)))))
    |true=>
    have ur:=Fx.1 rfl;have J:=C0 oG;generalize de d.par p=q2 at J C;cases q2 with
    |true=>
     refine aO ?_;refine gc qv (aP ?_);refine gc J (ag ?_);(iterate 5 refine z fun _ _=>?_);refine aq ?_;(iterate 9 refine z fun _ _=>?_);refine SS ?_;refine af (gJ (aj (SS ?_)));exact af (aY (br (aR (av rfl (M C)))))
    |false=>
    cases q3 with
    |false=>
     refine aO ?_;refine gc qv (aP ?_);refine gc J (aO ?_);refine gc sI (aP ?_);(iterate 9 refine z fun _ _=>?_);refine SS ?_;refine af (gJ (aj (SS ?_)));exact af (aY (br (aR (av rfl (M C)))))
    |true=>
    refine aO ?_;refine gc qv (aP ?_);refine gc J (aO ?_);refine gc sI (aJ ?_);refine aq ?_;refine gc sF (SS ?_);cases q4 with
    |true=>
     refine af (gJ (aj (SS ?_)));exact af (aY (br (aR (av rfl (M C)))))
    |false=>
     refine af (gT (bS (ag ?_)));exact af (iX C ⟨rfl,rfl,rfl,rfl,rfl,rfl,rfl,trivial⟩)
  .have a9:n<=k:=by
    have:¬ k<d.par.length:=by simpa using h
    omega
   exact⟨ap eH,fun i hi=>hinv i oG⟩
 clear hx CA UJ;rintro s ⟨gX,hA⟩;rw[show(range n).all (o7 (aA beh) d.par n)=true from bj.2 fun i hi=>hA i (List.mem_range.1 hi),Bool.true_and];clear hA;refine⟨_,gX,aB (az ?_)⟩
 have qt:∀ i,i<1->mg (aA ahd) d.par i=true:=fun i h=>by
  have:i=0:=by omega
  subst this;rfl
 refine SS ?_
 refine af (bR (fun s=>Ghost prog s ⟨aD [],fun _=>none,1⟩/\∀ i,i<n->mg (aA ahd) d.par i=true) (cQ (α:=Nat)
  (fun k=>⟨aD [(0,.pt (bA f beh ahd c)),(3,.pt (ct d)),(5,I f.ab.length),(6,.fn (.func 117) [] [.pt (ct d)]),(9,I k)],fun _=>none,1⟩)
  (fun k=>1<=k/\k<=n/\∀ i,i<k->mg (aA ahd) d.par i=true) (fun k=>n - k) 1 (ap eH) ⟨bF _,oG,qt⟩ ?_) ?_)
 .clear gX;rintro k ⟨dT,hk,hinv⟩;refine aq ?_;refine af ⟨_,rfl,fun h=>?_,fun h=>?_⟩
  .have ao:k<n:=by
    have:k<f.ab.length:=by simpa using h
    omega
   have hx:=ss (par:=d.par) (b:=k) oG;have uu:=tk (beh:=ahd) (b:=k) oG;have M:mg (aA ahd) d.par k=false->B false=B ((range n).all (mg (aA ahd) d.par)):=fun h=>by rw[j6 ao h]
   have kP:mg (aA ahd) d.par k=true->∀ i,i<k+1->mg (aA ahd) d.par i=true:=fun h i hi=>by
    by_cases e:i=k
    .subst e;exact h
    .exact hinv i oG
   have C:mg (aA ahd) d.par k=(de d.par k||(aA ahd k).all fun a=>de d.par a||hZ d.par d.par.length a (pA d.par k)):=by
    unfold mg;rw[show(k==0)=false by simp;omega];rfl
   have iX:mg (aA ahd) d.par k=true->∀ {env},jN [(0,.pt (bA f beh ahd c)),(3,.pt (ct d)),(5,I f.ab.length),(6,.fn (.func 117) [] [.pt (ct d)]),(9,I ((k+1:Nat):Int))] env->sA prog (fun k:Nat=>(⟨aD [(0,.pt (bA f beh ahd c)),(3,.pt (ct d)),(5,I f.ab.length),(6,.fn (.func 117) [] [.pt (ct d)]),(9,I k)],fun _=>none,1⟩:St))
    (fun k=>1<=k/\k<=n/\∀ i,i<k->mg (aA ahd) d.par i=true) (fun k=>n - k) k ⟨env,fun _=>none,1⟩:=fun h {env} he=>aK (k+1) (ap he) ⟨oG,oG,kP h⟩ oG
   have FL:=sW k;have rE:=A' k;generalize mg (aA ahd) d.par k=ok at C M iX;have sI:=fun a=>UI a (pA d.par k);generalize pA d.par k=p at hx C sI;generalize aA ahd k=X at uu C FL rE;refine aB (aj ?_);have J:=FK k oG;cases ho:de d.par k with
   |true=>
    rw[ho] at J C;refine ag ?_;refine cl J (af (cx rfl (fun h=>jy (mR (aq ?_))) fun h=>oH));exact af (iX C ⟨rfl,rfl,rfl,rfl,rfl,trivial⟩)
   |false=>
   rw[ho] at J C;rw[Bool.false_or] at C;refine ag ?_;refine cl J (af (cx rfl (fun h=>oH) fun h=>bP (az ?_)));clear J;refine aJ ?_
   refine af (dV (α:=Nat)
    (fun i=>⟨aD [(0,.pt (bA f beh ahd c)),(3,.pt (ct d)),(5,I f.ab.length),(6,.fn (.func 117) [] [.pt (ct d)]),(9,I k),(102,au X),(103,I X.length),(104,I i)],fun _=>none,1⟩)
    (fun i=>i<=X.length/\∀ j a,j<i->X[j]? =some a->(de d.par a||hZ d.par d.par.length a p)=true) (fun i=>X.length - i) 0 (ap eH) ⟨Nat.zero_le _,fun j a h=>absurd h (Nat.not_lt_zero _)⟩ ?_)
   rintro i ⟨hi,bm⟩;refine SS ?_;refine af ⟨_,rfl,fun h=>?_,fun h=>?_⟩
   .have fZ:i<X.length:=by simpa using h
    obtain⟨a,ha⟩:∃ a,X[i]? =some a:=⟨_,aN fZ⟩
    have gG:=FL a (bU ha);have J:=FK a oG;have sI:=sI a oG
    have gW:(de d.par a||hZ d.par d.par.length a p)=true->∀ j b,j<i+1->X[j]? =some b->(de d.par b||hZ d.par d.par.length b p)=true:=fun zD j b hj hb=>by
     by_cases e:j=i
     .subst e;rw[ha] at hb;cases hb;exact zD
     .exact bm j b oG hb
    have b8:(de d.par a||hZ d.par d.par.length a p)=false->ok=false:=fun h=>by
     rw[C,List.all_eq_false];exact⟨a,bU ha,by rw[h];simp⟩
    generalize de d.par a=q1 at J gW b8;generalize hZ d.par d.par.length a p=q2 at sI gW b8;refine ws (aq ?_);refine af (dF aaI ?_);cases q1 with
    |true=>
     refine ag ?_;refine cl J (ag ?_);(iterate 10 refine z fun _ _=>?_);refine SS ?_;refine a8 bc (gT (bS (ag ?_)));exact af (aK (i+1) (ap eH) ⟨oG,gW rfl⟩ oG)
    |false=>
    refine ag ?_;refine cl J (bK ?_);refine ag ?_;refine gc sI (ag ?_);cases q2 with
    |true=>
     refine a8 bc (gT (bS (ag ?_)));exact af (aK (i+1) (ap eH) ⟨oG,gW rfl⟩ oG)
    |false=>
     refine a8 bc (gJ (aj (SS ?_)));exact af (aY (br (br (aR (av rfl (M (b8 rfl)))))))
   .have a9:¬ i<X.length:=by simpa using h
    show AOps _ _ _ _ _ _ _ _ _;refine aq ?_;refine af (iX ?_ ⟨rfl,rfl,rfl,rfl,rfl,trivial⟩);rw[C,bj];intro a ha;obtain⟨j,hj⟩:=cC ha;exact bm j a (by have:=(bw.1 hj).1;omega) hj
  .have a9:n<=k:=by
    have:¬ k<f.ab.length:=by simpa using h
    omega
   exact⟨fS (l:=[]) trivial,fun i hi=>hinv i oG⟩
 clear gX;rintro s ⟨hg,ha⟩;refine⟨_,hg,aj ?_⟩;refine SS ?_;refine af (av (d:=B true) rfl ?_);rw[show(range n).all (mg (aA ahd) d.par)=true from bj.2 fun i hi=>ha i (List.mem_range.1 hi)]
end
theorem adJ{f:aG}{d:eW}(C:dH f≠0):PCall prog 18 [.agg (aH f),.agg (ct d)] (qR f d):=by
 have J:=RT C;refine bg ML (.cons (.agg (iu f)) (.cons (.agg (wu d)) .nil)) (Q3 f d) ?_;rw[qR,if_neg C];generalize dH f=e at J C;have dv:(e !=0)=true:=by simpa using C
 rw[Wf];refine az (aP ?_);refine af (aW (bG [(0,aH f,26),(1,ct d,30)] eH (l:=[(2,.pt (aH f)),(3,.pt (ct d))]) eH) (aj (SS ?_)));refine cl J (SS ?_);refine X3 ?_;refine aq ?_;refine af (aB (aj (ag ?_)));refine af (dN (aB (aj (aq ?_))));exact af (bX (fk rfl rfl rfl))
theorem aeQ{f:aG}{d:eW}(J:dH f=0)(hd:Ay d):PCall prog 18 [.agg (aH f),.agg (ct d)] (qR f d):=by
 have ns:=HF J
 have hf:jz f=true:=by
  unfold dH at J;split at J
  .assumption
  .cases J
 have bZ:=tG hf;have hg:=xm bZ;obtain⟨n,hn⟩:∃ n,f.ab.length=n:=⟨_,rfl⟩
 have jf:n<=1200:=hn▸bZ.mC;have jZ:0<n:=hn▸bZ.pos;have xV:wI f=bA f (bI f) (cM f.ab) (dw (cO (aT f) f.ab.length (-1))):=rfl;have cZ:(bI f).length=n:=by rw[<- hn];simp[bI]
 have mB:(cM f.ab).length=n:=by rw[<- hn];simp[cM]
 have jv:∀ b,∀ t∈aA (bI f) b,0<=t/\t.toNat<n:=fun b t ht=>hn▸hg.to b t ht
 have sW:∀ b,∀ t∈aA (cM f.ab) b,0<=t/\t.toNat<n:=fun b t ht=>by
  have:=(hg.rK b t).1 ht;exact⟨this.1,hn▸this.2.1⟩
 refine bg ML (.cons (.agg (iu f)) (.cons (.agg (wu d)) .nil)) (Q3 f d) ?_;rw[qR,if_pos J];have A9:=A9 (f:=f) (beh:=bI f) (ahd:=cM f.ab) (c:=dw (cO (aT f) f.ab.length (-1))) (.sl (.map fun _=>.s _)) rfl (d:=d) hn jZ oG cZ mB jv sW (G7 bZ);have MM:=fun l fr to=>A8 (f:=f) (beh:=bI f) (ahd:=cM f.ab) (c:=dw (cO (aT f) f.ab.length (-1))) (.sl (.map fun _=>.s _)) rfl hn oG cZ (l:=l) (fr:=fr) (to:=to);rw[hn];have jH:yM (aT f) (c9 f) n d=(qK (aA (bI f)) (aA (cM f.ab)) n d&&(range n).all (nu (aA (bI f)) n d)):=rfl;rw[jH];clear jH
 have L7:qK (aA (bI f)) (aA (cM f.ab)) n d=true->lenP d n=true:=fun h=>by
  rw[qK,aM] at h;exact h.1
 rw[xV] at ns;generalize qK (aA (bI f)) (aA (cM f.ab)) n d=rt at A9 L7 ⊢;generalize dw (cO (aT f) f.ab.length (-1))=cnt at ns A9 MM;have dv:((0:Int) !=0)=false:=rfl;rw[Wf];refine az (aP ?_);refine af (aW (bG [(0,aH f,26),(1,ct d,30)] eH (l:=[(2,.pt (aH f)),(3,.pt (ct d))]) eH) (aj (SS ?_)));refine cl ns (SS ?_);refine X4 ?_;refine SS ?_;refine Wg ?_;refine SS ?_;refine af (aB (aj (ag ?_)));refine af (gU (bP (aB (aj ?_))));cases rt with
 |false=>
  refine ag ?_;refine cl A9 (SS ?_);refine af (dN (aB (aj (ag ?_))));exact af (bX (fk rfl rfl rfl))
 |true=>
 have hlen:=tl.1 (L7 rfl);clear L7;rw[Bool.true_and];refine ag ?_;refine cl A9 (SS ?_);refine af (gU (bP (aB (az ?_))));clear ns A9;refine aP ?_
 refine af (bR (fun s=>(∃ nx,Ghost prog s ⟨aD [],fun _=>none,nx⟩)/\∀ i,i<n->nu (aA (bI f)) n d i=true) (dV (α:=Nat)
  (fun k=>⟨aD [(3,.pt (ct d)),(6,.pt (bA f (bI f) (cM f.ab) cnt)),(27,au d.par),(28,I d.par.length),(29,I k)],fun _=>none,2⟩)
  (fun k=>k<=n/\∀ i,i<k->nu (aA (bI f)) n d i=true) (fun k=>n - k) 0 (ap eH) ⟨Nat.zero_le _,fun i h=>absurd h (Nat.not_lt_zero _)⟩ ?_) ?_)
 .rintro k ⟨hk,hinv⟩;refine SS ?_;refine af ⟨_,rfl,fun h=>?_,fun h=>?_⟩
  .have ao:k<n:=by
    have:k<d.par.length:=by simpa using h
    omega
   have hx:=ss (par:=d.par) (b:=k) oG;have zE:d.one[k]? =some (d.one.getD k []):=by rw[bl,aN oG];rfl
   have Db:d.two[k]? =some (d.two.getD k []):=by rw[bl,aN oG];rfl
   have qm:=G6 (b:=k) hd.o;have Ba:=G6 (b:=k) hd.t;have X:nu (aA (bI f)) n d k=false->D.tup [B false,I 0]=.tup [B ((range n).all (nu (aA (bI f)) n d)),I 0]:=fun h=>by rw[j6 ao h]
   have kP:nu (aA (bI f)) n d k=true->∀ i,i<k+1->nu (aA (bI f)) n d i=true:=fun h i hi=>by
    by_cases e:i=k
    .subst e;exact h
    .exact hinv i oG
   have C:nu (aA (bI f)) n d k=if pA d.par k= -1 then(d.one.getD k []).length+(d.two.getD k []).length==0 else od (aA (bI f)) n (d.one.getD k []) (pA d.par k) k&&(od (aA (bI f)) n (d.two.getD k []) (pA d.par k) k&&yN (d.one.getD k []) (d.two.getD k [])):=rfl
   have iX:nu (aA (bI f)) n d k=true->∀ {env},jN [(3,.pt (ct d)),(6,.pt (bA f (bI f) (cM f.ab) cnt)),(27,au d.par),(28,I d.par.length),(29,I ((k+1:Nat):Int))] env->sA prog (fun k:Nat=>(⟨aD [(3,.pt (ct d)),(6,.pt (bA f (bI f) (cM f.ab) cnt)),(27,au d.par),(28,I d.par.length),(29,I k)],fun _=>none,2⟩:St))
    (fun k=>k<=n/\∀ i,i<k->nu (aA (bI f)) n d i=true) (fun k=>n - k) k ⟨env,fun _=>none,2⟩:=fun h {env} he=>aK (k+1) (ap he) ⟨oG,kP h⟩ oG
   generalize nu (aA (bI f)) n d k=ok at C X iX;generalize pA d.par k=p at hx C;generalize d.one.getD k []=one at zE qm C;generalize d.two.getD k []=two at Db Ba C;refine ws (aO ?_);refine af (dF ace (aJ ?_));refine aq ?_;refine a8 bc (aB (aj ?_));by_cases hp:p= -1
   .have dY:(p== -1)=true:=by simp[hp]
    rw[if_pos hp] at C;refine ag ?_;refine af (dN (aB (aB (aj ?_))));by_cases hz:one.length+two.length=0
    .have eM:decide ((0:Int)<(one.length:Int)+(two.length:Int))=false:=decide_eq_false oG;refine bB ?_;refine af (gU (bP (jy (mR (ag ?_)))));exact af (iX (by rw[C];simpa using hz) ⟨rfl,rfl,rfl,rfl,rfl,trivial⟩)
    .have eM:decide ((0:Int)<(one.length:Int)+(two.length:Int))=true:=decide_eq_true oG;refine bB ?_;refine af (dN (aB (aj (ag ?_))));exact af (bX (br (aR (fk rfl rfl (X (by rw[C];simpa using hz))))))
   have dY:(p== -1)=false:=by simp[hp]
   rw[if_neg hp] at C;refine ag ?_;refine af (gU (bP (aB (aj ?_))));have A8:=MM one p k;have Wh:=MM two p k
   have rL:od (aA (bI f)) n one p k=true->2<=one.length:=fun h=>by
    unfold od jV at h;simp only[aM,decide_eq_true_eq] at h;exact h.2.1
   generalize od (aA (bI f)) n one p k=q1 at A8 C rL;generalize od (aA (bI f)) n two p k=q2 at Wh C;cases q1 with
   |false=>
    refine aP ?_;refine cl A8 (ag ?_);(iterate 6 refine z fun _ _=>?_);refine SS ?_;refine af (dN (aB (aj (ag ?_))));exact af (bX (br (aR (fk rfl rfl (X C)))))
   |true=>
   have rL:=rL rfl;refine aP ?_;refine cl A8 (bB ?_);have A8:=Wh;refine gc A8 (ag ?_);cases q2 with
   |false=>
    refine af (dN (aB (aj (ag ?_))));exact af (bX (br (aR (fk rfl rfl (X C)))))
   |true=>
   rw[Bool.true_and,Bool.true_and] at C;refine af (gU (bP (az ?_)));have nh:((one.length:Nat):Int) - 1=((one.length - 1:Nat):Int)/\ -9223372036854775808<=((one.length - 1:Nat):Int)/\((one.length - 1:Nat):Int)<=9223372036854775807:=by omega
   have zF:((one.map I).drop ((1:Int).toNat*1)).take ((((one.length - 1:Nat):Int) - 1).toNat*1)=((one.drop 1).take (one.length - 2)).map I:=by
    rw[show(1:Int).toNat*1=1 by rfl,show(((one.length - 1:Nat):Int) - 1).toNat*1=one.length - 2 by omega, <- List.map_drop,List.map_take]
   have om:(((one.length - 1:Nat):Int) - 1).toNat=((one.drop 1).take (one.length - 2)).length:=by rw[RS];omega
   refine aP ?_;refine aI (ww (es':=((one.drop 1).take (one.length - 2)).map I) rfl vV c3 rfl rfl zF) cv ⟨vp,oG,oG,oG⟩ ?_;rw[om];clear zF om nh;have X5:=fun {i:Nat} (h:i<one.length - 2)=>adI h;have om:=RS (one:=one);have qp:yN one two=(range (one.length - 2)).all fun i=> !(eQ two (one.getD (i+1) 0)):=rfl;generalize (one.drop 1).take (one.length - 2)=M at X5 om ⊢;refine ag ?_
   refine af (dV (α:=Nat)
    (fun i=>⟨aD [(3,.pt (ct d)),(6,.pt (bA f (bI f) (cM f.ab) cnt)),(27,au d.par),(28,I d.par.length),(29,I k),(11,au two),(70,au M),(71,I M.length),(72,I i)],fun _=>none,2⟩)
    (fun i=>i<=M.length/\∀ j,j<i->eQ two (one.getD (j+1) 0)=false) (fun i=>M.length - i) 0 (ap eH) ⟨Nat.zero_le _,fun j h=>absurd h (Nat.not_lt_zero _)⟩ ?_)
   rintro i ⟨hi,bm⟩;refine SS ?_;refine af ⟨_,rfl,fun h=>?_,fun h=>?_⟩
   .have fZ:i<M.length:=by simpa using h
    have hm:=X5 (show i<one.length - 2 by omega)
    have gW:eQ two (one.getD (i+1) 0)=false->∀ j,j<i+1->eQ two (one.getD (j+1) 0)=false:=fun hy j hj=>by
     by_cases e:j=i
     .subst e;exact hy
     .exact bm j oG
    have b8:eQ two (one.getD (i+1) 0)=true->ok=false:=fun h=>by
     rw[C,qp,List.all_eq_false];exact⟨i,List.mem_range.2 oG,by rw[h];simp⟩
    generalize one.getD (i+1) 0=x at hm gW b8;have k8:=k8 (l:=two) (v:=x);refine ws (aq ?_);refine er ?_;generalize eQ two x=q3 at k8 gW b8;refine ag ?_;refine cl k8 ?_;cases q3 with
    |true=>
     refine af (gJ (aj (ag ?_)));exact af (aY (br (br (aR (fk rfl rfl (X (b8 rfl)))))))
    |false=>
     refine af (gT (bS (ag ?_)));exact af (aK (i+1) (ap eH) ⟨oG,gW rfl⟩ oG)
   .have a9:¬ i<M.length:=by simpa using h
    show AOps _ _ _ _ _ _ _ _ _;refine ag ?_;refine af (iX ?_ ⟨rfl,rfl,rfl,rfl,rfl,trivial⟩);rw[C,qp,bj];intro j hj;rw[bm j (by have:=List.mem_range.1 hj;omega)];rfl
  .have a9:n<=k:=by
    have:¬ k<d.par.length:=by simpa using h
    omega
   exact⟨⟨2,fS (l:=[]) trivial⟩,fun i hi=>hinv i oG⟩
 rintro s ⟨⟨nx,hg⟩,ha⟩;refine⟨_,hg,aj ?_⟩;refine ag ?_;refine af (fk rfl rfl ?_);rw[show(range n).all (nu (aA (bI f)) n d)=true from bj.2 fun i hi=>ha i (List.mem_range.1 hi)];rfl
theorem Bb{f:aG}{d:eW}(hd:Ay d):PCall prog 18 [.agg (aH f),.agg (ct d)] (qR f d):=by
 by_cases h:dH f=0
 .exact aeQ h hd
 .exact adJ h
theorem jI{par:List Int}{b:Int}(hl:par.length<=100000):PCall prog 57 [au par,I b] (Dc par b):=by
 have X:∀ x∈[au par,I b],Tr x:=.cons (cL _) (.cons (.s _) .nil);refine bg ajW X (af' par b) ?_;rw[ajX];unfold Dc;rw[aaJ];refine ws (ag ?_);refine af (az (SS ?_))
 refine af (bR (fun s=>∃ j m nx O,Ghost prog s ⟨aD [(6,.rs j 0 O.length)],m,nx⟩/\j<nx/\m j=some (.cells (O.map I) 3)/\O.length<=100001/\rM par [] (par.length+1) b=some (O++[0])) (yC (α:=List Int×Int×Nat×Mem×Nat)
  (fun s=>⟨aD [(0,au par),(1,I s.2.1),(6,.rs s.2.2.1 0 s.1.length)],s.2.2.2.1,s.2.2.2.2⟩)
  (fun s=>s.1.length<=par.length+1/\s.2.2.1<s.2.2.2.2/\s.2.2.2.1 s.2.2.1=some (.cells (s.1.map I) 3)/\rM par [] (par.length+1) b=rM par s.1 (par.length+1 - s.1.length) s.2.1) (fun s=>par.length+1 - s.1.length) ([],b,0,bf [(0,.cells [] 3)],1)
  ((Ghost.nilrow _ _ _ 6 3 rfl).trans (aQ (l:=[(0,au par),(1,I b),(6,.rs 0 0 0)]) (ml:=[(0,.cells [] 3)]) eH ⟨up_same _ _ _,trivial⟩)) ⟨Nat.zero_le _,Nat.zero_lt_one,rfl,rfl⟩ ?_) ?_)
 .rintro⟨O,c,j,m,nx⟩ ⟨M,hj,ax,hinv⟩;dsimp only at M hj ax hinv ⊢;by_cases hc:c=0
  .have dv:(c !=0)=false:=by simp[hc]
   refine ag ?_;refine af ⟨_,rfl,fun h=>oH,fun _=>?_⟩;refine⟨j,m,nx,O,ap eH,hj,ax,oG,?_⟩;rw[hinv,hc,acf]
  have dv:(c !=0)=true:=by simp[hc]
  refine ag ?_;refine af ⟨_,rfl,fun _=>aB (aj ?_),fun h=>oH⟩
  have C:(par.length+1 - O.length=0\/c<0\/(par.length:Int)<=c)->D.tup [.z,B false]=(match rM par [] (par.length+1) b with
   |none=>.tup [.z,B false]
   |some l=>.tup [au l,B true]):=fun h=>by rw[hinv,adK hc h]
  have np:(O.map I).length=O.length:=by simp
  by_cases h0:c<0
  .have jU:decide (c<0)=true:=decide_eq_true h0;refine aq ?_;(iterate 4 refine z fun _ _=>?_);refine ag ?_;(iterate 5 refine z fun _ _=>?_);refine SS ?_;refine af (dN (aB (aj (ag ?_))));exact af (bX (br (aR (fk rfl rfl (C (.inr (.inl h0)))))))
  have jU:decide (c<0)=false:=decide_eq_false h0;by_cases h1:(par.length:Int)<=c
  .have xd:decide ((par.length:Int)<=c)=true:=decide_eq_true h1;refine aJ ?_;(iterate 5 refine z fun _ _=>?_);refine SS ?_;refine af (dN (aB (aj (ag ?_))));exact af (bX (br (aR (fk rfl rfl (C (.inr (.inr h1)))))))
  have xd:decide ((par.length:Int)<=c)=false:=decide_eq_false h1;by_cases h2:par.length<O.length
  .have eM:decide ((par.length:Int)<(O.length:Int))=true:=decide_eq_true oG;refine bK ?_;refine ag ?_;refine bt rfl rfl (BZ rfl ax) (fun hc=>⟨ak,V.h⟩) (aP ?_);refine af (dN (aB (aj (ag ?_))));exact af (bX (br (aR (fk rfl rfl (C (.inl oG))))))
  have eM:decide ((par.length:Int)<(O.length:Int))=false:=decide_eq_false oG;obtain⟨J,rfl⟩:=cU (show 0<=c by omega);have hx:=ss (par:=par) (b:=J) oG;obtain⟨k,hk⟩:∃ k,par.length+1 - O.length=k+1:=⟨par.length - O.length,oG⟩
  rw[hk,acg hc oG oG] at hinv;generalize pA par J=p at hx hinv;refine bK ?_;refine ag ?_;refine bt rfl rfl (BZ rfl ax) (fun hc=>⟨ak,V.h⟩) (aP ?_);refine af (gU (bP (aj ?_)));clear C;refine aO ?_;refine af (fh (aO ?_));refine af (aK (O++[(J:Int)],p,nx+1,_,nx+2) (ap ⟨rfl,rfl,by rw[List.length_append];rfl,trivial⟩) ⟨by simp;omega,oM,?_,?_⟩ oP)
  .dsimp only;rw[List.map_append];exact up_same _ _ _
  .dsimp only;rw[hinv,List.length_append];congr 1;simp;omega
 .rintro s ⟨j,m,nx,O,hg,hj,ax,M,he⟩;rw[he];refine⟨_,hg,az ?_⟩;have np:(O.map I).length=O.length:=by simp
  refine aO ?_;refine af (aW (bG [(nx+1,O.map I++[I 0],3)] ⟨up_same _ _ _,trivial⟩ (l:=[(4,au (O++[0])),(5,B true)]) ⟨?_,rfl,trivial⟩) (fk rfl rfl rfl));show sub (fz0 (nx+1) _ (prog.cellsOf 3)) (D.rs (nx+1) 0 (O.length+1))=_;rw[nB (by rw[c3];simp)];unfold au;rw[List.map_append,List.length_append];rfl
theorem zG{f:aG}(hF:tQ f)(hw:∀ b∈f.ab,b.fin.aL.length<=9){l:List Int}{fr to:Int}:PCall prog 58 [.agg (aH f),au l,I fr,I to] (B (jV (aT f) f.ab.length l fr to)):=by
 have a7:∀ x∈[D.agg (aH f),au l,I fr,I to],Tr x:=.cons (.agg (iu f)) (.cons (cL _) (.cons (.s _) (.cons (.s _) .nil)));refine mJ Wi.he a7 fun fq=>?_;have hlen:=(fq (au l) oS).sl.1;unfold maxLen at hlen;have FM:=hF.ok.mC;refine bg Wi a7 (Tr.s _) ?_;rw[ajY];have xQ:∀ i,i<l.length->l[i]? =some (l.getD i 0):=fun i hi=>by rw[bl,aN hi];rfl
 have J:(¬ 2<=l.length\/¬ l.getD 0 0=fr\/¬ l.getD (l.length - 1) 0=to)->B false=B (jV (aT f) f.ab.length l fr to):=fun g=>by
  congr 2;refine(Bool.eq_false_iff.2 fun e=>?_).symm;unfold jV at e;simp only[aM,decide_eq_true_eq,beq_iff_eq] at e;rcases g with g|g|g
  .exact g e.1
  .exact g e.2.1
  .exact g e.2.2.1
 refine az (ag ?_);refine af (aW (bG [(0,aH f,26)] eH (l:=[(1,au l),(2,I fr),(3,I to),(4,.pt (aH f))]) eH) (aB (aj ?_)));by_cases h2:l.length<2
 .have jU:decide ((l.length:Int)<2)=true:=decide_eq_true oG;refine aP ?_;(iterate 5 refine z fun _ _=>?_);refine ag ?_;(iterate 8 refine z fun _ _=>?_);refine SS ?_;refine af (dN (aB (aj (SS ?_))));exact af (bX (av rfl (J (.inl oG))))
 have jU:decide ((l.length:Int)<2)=false:=decide_eq_false oG;have hx:=xQ 0 oG;have hy:=xQ (l.length - 1) oG;have tP:(¬ l.getD 0 0=fr\/¬ l.getD (l.length - 1) 0=to)->B false=B (jV (aT f) f.ab.length l fr to):=fun g=>J (.inr g);clear J
 have bD:l.getD 0 0=fr->l.getD (l.length - 1) 0=to->jV (aT f) f.ab.length l fr to=(range l.length).all (iV (aT f) f.ab.length l):=fun e1 e2=>by
  unfold jV;rw[e1,e2,decide_eq_true (show 2<=l.length by omega)];simp
 have nh:((l.length:Nat):Int) - 1=((l.length - 1:Nat):Int)/\ -9223372036854775808<=((l.length - 1:Nat):Int)/\((l.length - 1:Nat):Int)<=9223372036854775807:=by omega
 generalize l.getD 0 0=x0 at hx tP bD;generalize l.getD (l.length - 1) 0=xl at hy tP bD;by_cases h0:¬ x0=fr
 .have dv:(x0 !=fr)=true:=by simpa using h0
  refine aJ ?_;refine ag ?_;(iterate 8 refine z fun _ _=>?_);refine SS ?_;refine af (dN (aB (aj (SS ?_))));exact af (bX (av rfl (tP (.inl h0))))
 have h0:x0=fr:=Classical.not_not.1 h0;have dv:(x0 !=fr)=false:=by simpa using h0
 refine aJ ?_;refine aJ ?_;refine ag ?_;refine af (cx rfl (fun h=>?_) fun h=>bP (aB (az ?_)))
 .refine aB (aj (SS ?_));exact af (bX (av rfl (tP (.inr (by revert h;simp)))))
 have hl:xl=to:=by revert h;simp
 rw[bD h0 hl];clear h tP bD hx hy nh jU dv;refine SS ?_
 refine af (bR (fun s=>(∃ nx,Ghost prog s ⟨aD [],fun _=>none,nx⟩)/\∀ i,i<l.length->iV (aT f) f.ab.length l i=true) (cQ (α:=Nat)
  (fun k=>⟨aD [(1,au l),(4,.pt (aH f)),(9,I k)],fun _=>none,1⟩)
  (fun k=>k<=l.length/\∀ i,i<k->iV (aT f) f.ab.length l i=true) (fun k=>l.length - k) 0 (ap eH) ⟨Nat.zero_le _,fun i h=>absurd h (Nat.not_lt_zero _)⟩ ?_) ?_)
 .rintro k ⟨hk,hinv⟩;refine aP ?_;refine af ⟨_,rfl,fun h=>?_,fun h=>?_⟩
  .have ao:k<l.length:=by simpa using h
   have hx:=xQ k ao;have J:iV (aT f) f.ab.length l k=false->B false=B ((range l.length).all (iV (aT f) f.ab.length l)):=fun h=>by rw[j6 ao h]
   have kP:iV (aT f) f.ab.length l k=true->∀ i,i<k+1->iV (aT f) f.ab.length l i=true:=fun h i hi=>by
    by_cases e:i=k
    .subst e;exact h
    .exact hinv i oG
   have C:iV (aT f) f.ab.length l k=(nI f.ab.length (l.getD k 0)&&(!(eQ (l.take k) (l.getD k 0))&&(k==0||eQ (aT f (l.getD (k - 1) 0).toNat) (l.getD k 0)))):=rfl;generalize iV (aT f) f.ab.length l k=ok at C J kP;generalize l.getD k 0=x at hx C;refine dF ach ?_
   have oq:x<0\/(f.ab.length:Int)<=x->ok=false:=fun g=>by
    rw[C,show nI f.ab.length x=false from Bool.eq_false_iff.2 fun h=>by have:=yu.1 h;omega];rfl
   by_cases pz:x<0
   .have jU:decide (x<0)=true:=decide_eq_true pz;refine bB ?_;(iterate 8 refine z fun _ _=>?_);refine ag ?_;(iterate 8 refine z fun _ _=>?_);refine aO ?_;(iterate 14 refine z fun _ _=>?_);refine SS ?_;refine a8 bc (gJ (aj (SS ?_)));exact af (aY (br (aR (av rfl (J (oq (.inl pz)))))))
   have jU:decide (x<0)=false:=decide_eq_false pz;obtain⟨M,rfl⟩:=cU (show 0<=x by omega);by_cases hxn:f.ab.length<=M
   .have xd:decide ((f.ab.length:Int)<=(M:Int))=true:=decide_eq_true oG;refine aJ ?_;refine dA ?_;(iterate 8 refine z fun _ _=>?_);refine aO ?_;(iterate 14 refine z fun _ _=>?_);refine SS ?_;refine a8 bc (gJ (aj (SS ?_)));exact af (aY (br (aR (av rfl (J (oq (.inr oG)))))))
   have xd:decide ((f.ab.length:Int)<=(M:Int))=false:=decide_eq_false oG;rw[yu.2 (show 0<=(M:Int)/\(M:Int)<f.ab.length by omega),Bool.true_and] at C;clear oq;have eX:=eX (l:=l.take (k:Int).toNat) (v:=(M:Int));rw[bN,z6] at eX;generalize eQ (l.take k) M=q2 at eX C;refine aJ ?_;refine aJ ?_;refine bt rfl rfl (Km (f:=I) (l:=l) rfl vV c3 rfl vp ⟨oG,oG⟩) (fun hc=>⟨(by repeat' (first|exact trivial|exact hc|exact rfl|refine And.intro ?_ ?_)),trivial⟩) ?_;rw[bN];cases q2 with
   |true=>
    refine aP ?_;refine gc eX (aO ?_);(iterate 14 refine z fun _ _=>?_);refine SS ?_;refine a8 bc (gJ (aj (SS ?_)));exact af (aY (br (aR (av rfl (J C)))))
   |false=>
   cases k with
   |zero=>
    have eM:decide ((0:Int)<((0:Nat):Int))=false:=rfl;refine aP ?_;refine gc eX (aO ?_);(iterate 13 refine z fun _ _=>?_);refine ag ?_;refine a8 bc (gT (bS (aq ?_)));exact af (aK 1 (ap eH) ⟨oG,kP C⟩ oG)
   |succ j=>
    have eM:decide ((0:Int)<((j+1:Nat):Int))=true:=by simp
    have nh:((j+1:Nat):Int) - 1=(j:Int)/\ -9223372036854775808<=(j:Int)/\(j:Int)<=9223372036854775807:=by omega
    have hp:=xQ j oG;have xS:=hinv j oG;unfold iV at xS;rw[aM] at xS;have ur:=yu.1 xS.1;rw[show j+1 - 1=j by omega] at C;generalize l.getD j 0=p at hp ur C;clear xS;obtain⟨X,rfl⟩:=cU ur.1;rw[bN] at C;have iO:X<f.ab.length:=by omega
    have uv:f.ab[X]? =some f.ab[X]:=aN iO;have cz:f.ab[X]∈f.ab:=cy _;have lL:=lL uv (by have:=hw _ cz;omega);rw[(hF.ed _ cz).2, <- Kn uv] at lL;clear uv cz;refine aP ?_;refine gc eX (aJ ?_);refine ag ?_;refine gc lL (aP ?_);have eX:=K.eX (l:=aT f X) (v:=(M:Int));rw[z6] at eX;generalize eQ (aT f X) M=q3 at eX C;refine gc eX (aq ?_);cases q3 with
    |false=>
     refine a8 bc (gJ (aj (SS ?_)));exact af (aY (br (aR (av rfl (J C)))))
    |true=>
     refine a8 bc (gT (bS (aq ?_)));exact af (aK (j+2) (ap eH) ⟨oG,kP C⟩ oG)
  .have a9:¬ k<l.length:=by simpa using h
   exact⟨⟨1,fS (l:=[]) trivial⟩,fun i hi=>hinv i oG⟩
 .rintro s ⟨⟨nx,hg⟩,ha⟩;refine⟨_,hg,aj ?_⟩;refine SS ?_;refine af (av (d:=B true) rfl ?_);rw[show(range l.length).all (iV (aT f) f.ab.length l)=true from bj.2 fun i hi=>ha i (List.mem_range.1 hi)]
theorem Wj{v:Int}:PCall prog 59 [.z,I v] (B false):=by
 have h:=eX (l:=[]) (v:=v);rw[z6] at h;exact PK (k:=3) h (by simp[lD,sX,au,FN]) (.cons .z (.cons (.s _) .nil))
theorem uw{f:aG}{d:eW}(hs:yW f)(hw:∀ b∈f.ab,b.fin.aL.length<=9)(hd:Ay d):PCall prog 19 [.agg (aH f),.agg (ct d)] (wy f d):=by
 have rN:=rN hs hw;refine bg ajZ (.cons (.agg (iu f)) (.cons (.agg (wu d)) .nil)) (aaK f d) ?_;rw[aj0];unfold wy;refine az (aP ?_);refine af (aW (bG [(0,aH f,26),(1,ct d,30)] eH (l:=[(2,.pt (aH f)),(3,.pt (ct d))]) eH) (aj ?_));by_cases b9:¬ dH f=0
 .rw[if_neg b9];generalize dH f=ce at b9 rN ⊢;have dv:(ce !=0)=true:=by simp[b9]
  refine SS ?_;refine cl rN (SS ?_);refine af (aB (aj (ag ?_)));refine af (dN (aB (aj (aq ?_))));exact af (bX (fk rfl rfl rfl))
 have b9:dH f=0:=Classical.not_not.1 b9;rw[if_pos b9];rw[b9] at rN;have CX:=Dx b9;have hF:=EN CX;have bZ:=hF.ok;have hg:=xm bZ;have jZ:0<f.ab.length:=bZ.pos;have jf:f.ab.length<=1200:=bZ.mC;have sY:=aj1 CX hw;have Wl:=fun {k:Nat} (h:k<f.ab.length)=>aaL CX h;have Ih:=fun l fr to=>zG hF hw (l:=l) (fr:=fr) (to:=to)
 have sW:∀ b,∀ t∈c9 f b,0<=t/\t.toNat<f.ab.length:=fun b t ht=>by
  have:=(hg.rK b t).1 ht;exact⟨this.1,this.2.1⟩
 have A':=G7 bZ;have vW:yO (aT f) (c9 f) f.ab.length d=(lenP d f.ab.length&&((range f.ab.length).all (lE (aT f) f.ab.length d)&&(range f.ab.length).all (ni (c9 f) d.par))):=rfl;rw[vW];clear vW;generalize mO f.ab=AL at sY Wl;have dv:((0:Int) !=0)=false:=rfl;refine SS ?_;refine cl rN (SS ?_);refine af (aB (aj (ag ?_)));refine af (gU (bP (aj ?_)));clear dv;refine aP ?_;refine af (aB (aj ?_));obtain⟨n,hn⟩:∃ n,f.ab.length=n:=⟨_,rfl⟩
 have yV:lenP d n=false->D.tup [B false,I 0]=.tup [B (lenP d n&&((range n).all (lE (aT f) n d)&&(range n).all (ni (c9 f) d.par))),I 0]:=fun h=>by rw[h];rfl
 rw[hn] at sW jZ jf Ih ⊢;by_cases xT:d.par.length=0
 .have dv:((d.par.length:Int) !=(n:Int))=true:=by simp;omega
  have hb:=yV (by
   refine Bool.eq_false_iff.2 fun h=>?_;have:=(tl.1 h).1
   omega)
  refine bB ?_;(iterate 5 refine z fun _ _=>?_);refine ag ?_;(iterate 5 refine z fun _ _=>?_);refine ag ?_;(iterate 5 refine z fun _ _=>?_);refine SS ?_;refine af (dN (aB (aj (ag ?_))));exact af (bX (fk rfl rfl hb))
 have hx:=ss (par:=d.par) (b:=0) oG
 have xU:lenP d n= !(((d.par.length:Int) !=(n:Int))||(((d.one.length:Int) !=(n:Int))||(((d.two.length:Int) !=(n:Int))||(pA d.par ((0:Nat):Int) != -1)))):=by
  rw[Bool.eq_iff_iff,tl];simp only[Bool.not_eq_true',Bool.or_eq_false_iff,bne_eq_false_iff_eq];constructor
  .rintro⟨h1,h2,h3,h4⟩;exact⟨oG,oG,oG,h4⟩
  .rintro⟨h1,h2,h3,h4⟩;exact⟨oG,oG,oG,h4⟩
 generalize pA d.par ((0:Nat):Int)=x0 at hx xU;refine aJ ?_;refine aJ ?_;refine bK ?_;refine af (cx rfl (fun h=>?_) fun h=>bP (aj ?_))
 .refine aB (aj ?_)
  have hb:=yV (by
   rw[xU];have h:=(HU _ _ _ _).symm.trans h
   rw[h];rfl)
  refine ag ?_;exact af (bX (fk rfl rfl hb))
 have ao:lenP d n=true:=by
  rw[xU];have h:=(HU _ _ _ _).symm.trans h;rw[h];rfl
 rw[ao,Bool.true_and];obtain⟨iO,oi,htl,_⟩:=tl.1 ao;clear h xU yV ao xT;have Wm:=fun b=>jI (par:=d.par) (b:=b) oG;refine SS ?_;refine cl sY (SS ?_);refine af (aB (az (SS ?_)))
 refine af (bR (fun s=>Ghost prog s ⟨aD [(2,.pt (aH f)),(3,.pt (ct d)),(7,I n),(8,bx AL)],fun _=>none,2⟩/\∀ i,i<n->lE (aT f) n d i=true) (cQ (α:=Nat)
  (fun k=>⟨aD [(2,.pt (aH f)),(3,.pt (ct d)),(7,I n),(8,bx AL),(9,I k)],fun _=>none,2⟩)
  (fun k=>k<=n/\∀ i,i<k->lE (aT f) n d i=true) (fun k=>n - k) 0 (ap eH) ⟨Nat.zero_le _,fun i h=>absurd h (Nat.not_lt_zero _)⟩ ?_) ?_)
 .rintro k ⟨hk,hinv⟩;refine aq ?_;refine af ⟨_,rfl,fun h=>?_,fun h=>?_⟩
  .have ao:k<n:=by simpa using h
   have hx:=ss (par:=d.par) (b:=k) oG;have zE:d.one[k]? =some (d.one.getD k []):=by rw[bl,aN oG];rfl
   have Db:d.two[k]? =some (d.two.getD k []):=by rw[bl,aN oG];rfl
   have qm:=G6 (b:=k) hd.o;have Ba:=G6 (b:=k) hd.t;have cq:lE (aT f) n d k=false->D.tup [B false,I 0]=.tup [B ((range n).all (lE (aT f) n d)&&(range n).all (ni (c9 f) d.par)),I 0]:=fun h=>by rw[j6 ao h];rfl
   have kP:lE (aT f) n d k=true->∀ i,i<k+1->lE (aT f) n d i=true:=fun h i hi=>by
    by_cases e:i=k
    .subst e;exact h
    .exact hinv i oG
   have J:lE (aT f) n d k=if k=0\/pA d.par k= -1 then(d.one.getD k []).length+(d.two.getD k []).length==0
    else match gY d.par (d.par.length+1) k with
     |none=>false
     |some l=>jV (aT f) n (d.one.getD k []) (pA d.par k) k&&(jV (aT f) n (d.two.getD k []) (pA d.par k) k&&(!(eQ l.tail k)&&yN (d.one.getD k []) (d.two.getD k []))):=rfl
   have iX:lE (aT f) n d k=true->∀ {env},jN [(2,.pt (aH f)),(3,.pt (ct d)),(7,I n),(8,bx AL),(9,I ((k+1:Nat):Int))] env->sA prog (fun k:Nat=>(⟨aD [(2,.pt (aH f)),(3,.pt (ct d)),(7,I n),(8,bx AL),(9,I k)],fun _=>none,2⟩:St))
    (fun k=>k<=n/\∀ i,i<k->lE (aT f) n d i=true) (fun k=>n - k) k ⟨env,fun _=>none,2⟩:=fun h {env} he=>aK (k+1) (ap he) ⟨oG,kP h⟩ oG
   generalize lE (aT f) n d k=ok at J cq iX;generalize pA d.par k=p at hx J;generalize d.one.getD k []=one at zE qm J;generalize d.two.getD k []=two at Db Ba J;refine aB (aj ?_);by_cases hp:k=0\/p= -1
   .rw[if_pos hp] at J
    have LZ:((k:Int)==0)=true\/(((k:Int)==0)=false/\(p== -1)=true):=by
     by_cases h0:k=0
     .exact .inl (by simp[h0])
     .exact .inr ⟨by simp;omega,by simp;omega⟩
    rcases LZ with dY|⟨dY,Ax⟩
    .refine aq ?_;(iterate 6 refine z fun _ _=>?_);refine SS ?_;refine af (dN (aB (aB (dF Qa ?_))));by_cases hz:one.length+two.length=0
     .have eM:decide ((0:Int)<(one.length:Int)+(two.length:Int))=false:=decide_eq_false oG;refine aJ ?_;refine aO ?_;refine a8 bc (gU (bP (jy (mR (aq ?_)))));exact af (iX (by rw[J];simpa using hz) ⟨rfl,rfl,rfl,rfl,rfl,trivial⟩)
     .have eM:decide ((0:Int)<(one.length:Int)+(two.length:Int))=true:=decide_eq_true oG;refine aJ ?_;refine aO ?_;refine a8 bc (dN (aB (aj (ag ?_))));exact af (bX (br (aR (fk rfl rfl (cq (by rw[J];simpa using hz))))))
    .refine bK ?_;refine ag ?_;refine af (dN (aB (aB (dF Qa ?_))));by_cases hz:one.length+two.length=0
     .have eM:decide ((0:Int)<(one.length:Int)+(two.length:Int))=false:=decide_eq_false oG;refine aJ ?_;refine aO ?_;refine a8 bc (gU (bP (jy (mR (aq ?_)))));exact af (iX (by rw[J];simpa using hz) ⟨rfl,rfl,rfl,rfl,rfl,trivial⟩)
     .have eM:decide ((0:Int)<(one.length:Int)+(two.length:Int))=true:=decide_eq_true oG;refine aJ ?_;refine aO ?_;refine a8 bc (dN (aB (aj (ag ?_))));exact af (bX (br (aR (fk rfl rfl (cq (by rw[J];simpa using hz))))))
   rw[if_neg hp] at J;have dY:((k:Int)==0)=false:=by simp;omega
   have Ax:(p== -1)=false:=by simp;omega
   have jI:=Wm k;unfold Dc at jI;refine bK ?_;refine ag ?_;refine af (gU (bP (aj ?_)));clear dY Ax;cases hu:gY d.par (d.par.length+1) k with
   |none=>
    rw[hu] at jI J;dsimp only at jI J;refine aq ?_;refine cl jI (aO ?_);refine af (aB (dF Qb (aq ?_)));(iterate 14 refine z fun _ _=>?_);refine ag ?_;(iterate 14 refine z fun _ _=>?_);refine ag ?_;(iterate 4 refine z fun _ _=>?_);refine SS ?_;refine a8 bc (dN (aB (aj (ag ?_))));exact af (bX (br (aR (fk rfl rfl (cq J)))))
   |some X=>
   rw[hu] at jI J;dsimp only at jI J
   have aoI:1<=X.length/\X.length<=100000:=by
    obtain⟨m,hm,e⟩:=Ko hu;have:=hm.lt oG;rw[e,PM];omega
   clear hu;refine aq ?_;refine cl jI (aO ?_);refine af (aB (dF Qb ?_));have zG:=Ih one p k;have Wn:=Ih two p k;have eX:=eX (l:=X.tail) (v:=(k:Int));rw[z6] at eX
   have rL:jV (aT f) n one p k=true->2<=one.length:=fun h=>by
    unfold jV at h;simp only[aM,decide_eq_true_eq] at h;exact h.1
   generalize jV (aT f) n one p k=q1 at zG J rL;generalize jV (aT f) n two p k=q2 at Wn J;generalize eQ X.tail k=q3 at eX J
   have zF:((X.map I).drop ((1:Int).toNat*1)).take (((X.length:Int) - 1).toNat*1)=X.tail.map I:=by
    rw[show(1:Int).toNat*1=1 by rfl, <- List.map_drop,df oS,List.drop_one]
   have fQ:((X.length:Int) - 1).toNat=X.tail.length:=by simp
   cases q1 with
   |false=>
    refine aJ ?_;refine bB ?_;refine gc zG (aq ?_);(iterate 14 refine z fun _ _=>?_);refine ag ?_;(iterate 4 refine z fun _ _=>?_);refine SS ?_;refine a8 bc (dN (aB (aj (ag ?_))));exact af (bX (br (aR (fk rfl rfl (cq J)))))
   |true=>
   have rL:=rL rfl;refine aJ ?_;refine bB ?_;refine gc zG (aJ ?_);refine bB ?_;have zG:=Wn;cases q2 with
   |false=>
    refine gc zG (aq ?_);(iterate 4 refine z fun _ _=>?_);refine SS ?_;refine a8 bc (dN (aB (aj (ag ?_))));exact af (bX (br (aR (fk rfl rfl (cq J)))))
   |true=>
   refine gc zG (aP ?_);refine bt rfl rfl (ww (es':=X.tail.map I) rfl vV c3 rfl rfl zF) (fun hc=>⟨(by repeat' (first|exact trivial|exact hc|exact rfl|refine And.intro ?_ ?_)),⟨vp,oG,oG,oG⟩⟩) ?_;rw[fQ];refine SS ?_;refine gc eX (SS ?_);cases q3 with
   |true=>
    refine a8 bc (dN (aB (aj (ag ?_))));exact af (bX (br (aR (fk rfl rfl (cq J)))))
   |false=>
   rw[Bool.true_and,Bool.true_and] at J;refine a8 bc (gU (bP (aj ?_)));clear zF fQ;refine bB ?_;refine af (az (SS ?_));have qp:yN one two=(range (one.length - 2)).all fun i=> !(eQ two (one.getD (i+1) 0)):=rfl
   refine af (cQ (α:=Nat)
    (fun i=>⟨aD [(2,.pt (aH f)),(3,.pt (ct d)),(7,I n),(8,bx AL),(9,I k),(12,au one),(13,I i)],fun _=>none,2⟩)
    (fun i=>1<=i/\i<=one.length - 1/\∀ j,j+1<i->eQ two (one.getD (j+1) 0)=false) (fun i=>one.length - 1 - i) 1 (ap eH) ⟨bF _,oG,fun j h=>absurd h oG⟩ ?_)
   rintro i ⟨zH,hi,bm⟩;have nh:((one.length:Nat):Int) - 1=((one.length - 1:Nat):Int)/\ -9223372036854775808<=((one.length - 1:Nat):Int)/\((one.length - 1:Nat):Int)<=9223372036854775807:=by omega
   refine aO ?_;refine af ⟨_,rfl,fun h=>?_,fun h=>?_⟩
   .have fZ:i<one.length - 1:=by
     have:(i:Int)<((one.length - 1:Nat):Int):=by simpa using h
     omega
    have hm:one[i]? =some (one.getD i 0):=by rw[bl,aN oG];rfl
    have gW:eQ two (one.getD i 0)=false->∀ j,j+1<i+1->eQ two (one.getD (j+1) 0)=false:=fun hy j hj=>by
     by_cases e:j+1=i
     .rw[e];exact hy
     .exact bm j oG
    have b8:eQ two (one.getD i 0)=true->ok=false:=fun h=>by
     rw[J,qp];show(!false&&_)=false;rw[Bool.not_false,Bool.true_and,List.all_eq_false];exact⟨i - 1,List.mem_range.2 oG,by rw[show i - 1+1=i by omega,h];simp⟩
    generalize one.getD i 0=x at hm gW b8;have eX:=K.eX (l:=two) (v:=x);rw[z6] at eX;refine dF aaM ?_;generalize eQ two x=q3 at eX gW b8;refine aJ ?_;refine cl eX ?_;cases q3 with
    |true=>
     refine a8 bc (gJ (aj (ag ?_)));exact af (aY (br (br (aR (fk rfl rfl (cq (b8 rfl)))))))
    |false=>
     refine a8 bc (gT (bS (aq ?_)));exact af (aK (i+1) (ap eH) ⟨oG,oG,gW rfl⟩ oG)
   .have a9:¬ i<one.length - 1:=fun g=>by
     have:¬ (i:Int)<((one.length - 1:Nat):Int):=by simpa using h
     omega
    show AOps _ _ _ _ _ _ _ _ _;refine aq ?_;refine af (iX ?_ ⟨rfl,rfl,rfl,rfl,rfl,trivial⟩);rw[J,qp];show(!false&&_)=true;rw[Bool.not_false,Bool.true_and,bj];intro j hj;rw[bm j (by have:=List.mem_range.1 hj;omega)];rfl
  .have a9:¬ k<n:=by simpa using h
   exact⟨ap eH,fun i hi=>hinv i oG⟩
 clear hx Ih rN;rintro s ⟨gX,hA⟩;rw[show(range n).all (lE (aT f) n d)=true from bj.2 fun i hi=>hA i (List.mem_range.1 hi),Bool.true_and];clear hA;refine⟨_,gX,aB (az ?_)⟩;refine SS ?_
 refine af (bR (fun s=>(∃ nx,Ghost prog s ⟨aD [],fun _=>none,nx⟩)/\∀ i,i<n->ni (c9 f) d.par i=true) (cQ (α:=Nat)
  (fun k=>⟨aD [(2,.pt (aH f)),(3,.pt (ct d)),(7,I n),(8,bx AL),(14,I k)],fun _=>none,2⟩)
  (fun k=>k<=n/\∀ i,i<k->ni (c9 f) d.par i=true) (fun k=>n - k) 0 (ap eH) ⟨Nat.zero_le _,fun i h=>absurd h (Nat.not_lt_zero _)⟩ ?_) ?_)
 .clear gX;rintro k ⟨hk,hinv⟩;refine aq ?_;refine af ⟨_,rfl,fun h=>?_,fun h=>?_⟩
  .have ao:k<n:=by simpa using h
   have hx:=ss (par:=d.par) (b:=k) oG;have uu:=Wl (k:=k) oG;have cq:ni (c9 f) d.par k=false->D.tup [B false,I 0]=.tup [B ((range n).all (ni (c9 f) d.par)),I 0]:=fun h=>by rw[j6 ao h]
   have kP:ni (c9 f) d.par k=true->∀ i,i<k+1->ni (c9 f) d.par i=true:=fun h i hi=>by
    by_cases e:i=k
    .subst e;exact h
    .exact hinv i oG
   have J:ni (c9 f) d.par k=(c9 f k).all fun a=>if a≠0/\pA d.par a= -1 then true else !(decide (k≠0)&&pA d.par k== -1)&&(k==0||eQ ((gY d.par (d.par.length+1) a).getD []) (pA d.par k)):=rfl
   have iX:ni (c9 f) d.par k=true->∀ {env},jN [(2,.pt (aH f)),(3,.pt (ct d)),(7,I n),(8,bx AL),(14,I ((k+1:Nat):Int))] env->sA prog (fun k:Nat=>(⟨aD [(2,.pt (aH f)),(3,.pt (ct d)),(7,I n),(8,bx AL),(14,I k)],fun _=>none,2⟩:St))
    (fun k=>k<=n/\∀ i,i<k->ni (c9 f) d.par i=true) (fun k=>n - k) k ⟨env,fun _=>none,2⟩:=fun h {env} he=>aK (k+1) (ap he) ⟨oG,kP h⟩ oG
   have FL:=sW k;have rE:=A' k;generalize ni (c9 f) d.par k=ok at J cq iX;generalize pA d.par k=p at hx J;generalize c9 f k=nr at uu J FL rE;obtain⟨ob,vX⟩:∃ ob,(decide (k≠0)&&p== -1)=ob:=⟨_,rfl⟩
   rw[vX] at J;obtain⟨Pr,X6⟩:∃ Pr:Int->Bool,∀ a,Pr a=if a≠0/\pA d.par a= -1 then true else !ob&&(k==0||eQ ((gY d.par (d.par.length+1) a).getD []) p):=⟨fun a=>if a≠0/\pA d.par a= -1 then true else !ob&&(k==0||eQ ((gY d.par (d.par.length+1) a).getD []) p),fun _=>rfl⟩
   rw[show(fun a=>if a≠0/\pA d.par a= -1 then true else !ob&&(k==0||eQ ((gY d.par (d.par.length+1) a).getD []) p))=Pr from funext fun a=>(X6 a).symm] at J
   have M:(((k:Int) !=0)=true/\(k==0)=false/\(p== -1)=ob)\/(((k:Int) !=0)=false/\(k==0)=true/\ob=false):=by
    by_cases h0:k=0
    .refine .inr ⟨by simp[h0],by simp[h0],?_⟩;rw[<- vX,h0];rfl
    .refine .inl ⟨by simp;omega,by simpa using h0,?_⟩;rw[<- vX,decide_eq_true h0,Bool.true_and]
   refine eI (fun s=>Ghost prog s ⟨aD [(2,.pt (aH f)),(3,.pt (ct d)),(7,I n),(8,bx AL),(14,I k),(15,B ob)],fun _=>none,2⟩) (lx ?_) fun s hs=>⟨_,hs,az ?_⟩
   .rcases M with⟨dv,_,dY⟩|⟨dv,_,he⟩
    .refine aJ ?_;refine ag ?_;refine af (ap ⟨rfl,rfl,rfl,rfl,rfl,?_,trivial⟩);rfl
    .refine aq ?_;(iterate 6 refine z fun _ _=>?_);refine ag ?_;refine af (ap ⟨rfl,rfl,rfl,rfl,rfl,?_,trivial⟩);rw[he];rfl
   clear vX;refine SS ?_
   refine af (cQ (α:=Nat)
    (fun i=>⟨aD [(2,.pt (aH f)),(3,.pt (ct d)),(7,I n),(8,bx AL),(14,I k),(15,B ob),(16,I i)],fun _=>none,2⟩)
    (fun i=>i<=nr.length/\∀ j a,j<i->nr[j]? =some a->Pr a=true) (fun i=>nr.length - i) 0 (ap eH) ⟨Nat.zero_le _,fun j a h=>absurd h (Nat.not_lt_zero _)⟩ ?_)
   rintro i ⟨hi,bm⟩;refine dA ?_;refine af ⟨_,rfl,fun h=>?_,fun h=>?_⟩
   .have fZ:i<nr.length:=by simpa using h
    obtain⟨a,ha⟩:∃ a,nr[i]? =some a:=⟨_,aN fZ⟩
    have gG:=FL a (bU ha)
    have gW:Pr a=true->∀ j b,j<i+1->nr[j]? =some b->Pr b=true:=fun zD j b hj hb=>by
     by_cases e:j=i
     .subst e;rw[ha] at hb;cases hb;exact zD
     .exact bm j b oG hb
    have b8:Pr a=false->ok=false:=fun zD=>by
     rw[J,List.all_eq_false];exact⟨a,bU ha,by rw[zD];simp⟩
    have C:=X6 a;generalize Pr a=pr at gW b8 C;obtain⟨an,rfl⟩:=cU gG.1;rw[bN] at gG;have hy:=ss (par:=d.par) (b:=an) oG;have jI:=Wm an;unfold Dc at jI;generalize pA d.par an=pa at hy C;refine ws (bK ?_);refine af (aB (aj ?_));by_cases FP:(an:Int)≠0/\pa= -1
    .have dv:((an:Int) !=0)=true:=by simpa using FP.1
     have dY:(pa== -1)=true:=by simp[FP.2]
     rw[if_pos FP] at C;refine bK ?_;refine ag ?_;refine af (cx rfl (fun h=>jy (mR (aq ?_))) fun h=>oH);exact af (aK (i+1) (ap eH) ⟨oG,gW C⟩ oG)
    rw[if_neg FP] at C;by_cases FQ:(an:Int)=0
    .have dv:((an:Int) !=0)=false:=by simp[FQ]
     refine aq ?_;(iterate 6 refine z fun _ _=>?_);refine SS ?_;refine af (gU (bP (aB (aj ?_))));cases ob with
     |true=>
      refine SS ?_;refine af (dN (aB (aj (ag ?_))));exact af (bX (br (br (aR (fk rfl rfl (cq (b8 C)))))))
     |false=>
     refine SS ?_;refine af (gU (bP (aj ?_)));rw[Bool.not_false,Bool.true_and] at C;cases hu:gY d.par (d.par.length+1) an with
     |none=>
      rw[hu] at jI C;dsimp only[Option.getD] at jI C;refine aq ?_;refine cl jI (aO ?_);refine er ?_;have eX:=Wj (v:=p);rcases M with⟨dv,M,_⟩|⟨dv,M,_⟩
      .rw[M] at C;refine aq ?_;refine Wo ?_;refine aO ?_;refine gc eX (ag ?_);refine af (gJ (aj (ag ?_)));exact af (aY (br (br (aR (fk rfl rfl (cq (b8 C)))))))
      .rw[M] at C;refine aq ?_;(iterate 8 refine z fun _ _=>?_);refine SS ?_;refine af (gT (bS (aq ?_)));exact af (aK (i+1) (ap eH) ⟨oG,gW C⟩ oG)
     |some X=>
      rw[hu] at jI C;dsimp only[Option.getD] at jI C;refine aq ?_;refine cl jI (aO ?_);refine er ?_;have eX:=eX (l:=X) (v:=p);rw[z6] at eX;generalize eQ X p=q at eX C;rcases M with⟨dv,M,_⟩|⟨dv,M,_⟩
      .rw[M] at C;cases q with
       |false=>
        refine aJ ?_;refine gc eX (ag ?_);refine af (gJ (aj (ag ?_)));exact af (aY (br (br (aR (fk rfl rfl (cq (b8 C)))))))
       |true=>
        refine aJ ?_;refine gc eX (ag ?_);refine af (gT (bS (aq ?_)));exact af (aK (i+1) (ap eH) ⟨oG,gW C⟩ oG)
      .rw[M] at C;refine aq ?_;(iterate 8 refine z fun _ _=>?_);refine SS ?_;refine af (gT (bS (aq ?_)));exact af (aK (i+1) (ap eH) ⟨oG,gW C⟩ oG)
    .have dv:((an:Int) !=0)=true:=by simpa using FQ
     have dY:(pa== -1)=false:=by
      have:pa≠ -1:=fun e=>FP ⟨FQ,e⟩;simpa using this
     refine bK ?_;refine ag ?_;clear dY;refine af (gU (bP (aB (aj ?_))));cases ob with
     |true=>
      refine SS ?_;refine af (dN (aB (aj (ag ?_))));exact af (bX (br (br (aR (fk rfl rfl (cq (b8 C)))))))
     |false=>
     refine SS ?_;refine af (gU (bP (aj ?_)));rw[Bool.not_false,Bool.true_and] at C;cases hu:gY d.par (d.par.length+1) an with
     |none=>
      rw[hu] at jI C;dsimp only[Option.getD] at jI C;refine aq ?_;refine cl jI (aO ?_);refine er ?_;have eX:=Wj (v:=p);rcases M with⟨dv,M,_⟩|⟨dv,M,_⟩
      .rw[M] at C;refine aq ?_;refine Wo ?_;refine aO ?_;refine gc eX (ag ?_);refine af (gJ (aj (ag ?_)));exact af (aY (br (br (aR (fk rfl rfl (cq (b8 C)))))))
      .rw[M] at C;refine aq ?_;(iterate 8 refine z fun _ _=>?_);refine SS ?_;refine af (gT (bS (aq ?_)));exact af (aK (i+1) (ap eH) ⟨oG,gW C⟩ oG)
     |some X=>
      rw[hu] at jI C;dsimp only[Option.getD] at jI C;refine aq ?_;refine cl jI (aO ?_);refine er ?_;have eX:=eX (l:=X) (v:=p);rw[z6] at eX;generalize eQ X p=q at eX C;rcases M with⟨dv,M,_⟩|⟨dv,M,_⟩
      .rw[M] at C;cases q with
       |false=>
        refine aJ ?_;refine gc eX (ag ?_);refine af (gJ (aj (ag ?_)));exact af (aY (br (br (aR (fk rfl rfl (cq (b8 C)))))))
       |true=>
        refine aJ ?_;refine gc eX (ag ?_);refine af (gT (bS (aq ?_)));exact af (aK (i+1) (ap eH) ⟨oG,gW C⟩ oG)
      .rw[M] at C;refine aq ?_;(iterate 8 refine z fun _ _=>?_);refine SS ?_;refine af (gT (bS (aq ?_)));exact af (aK (i+1) (ap eH) ⟨oG,gW C⟩ oG)
   .have a9:¬ i<nr.length:=by simpa using h
    show AOps _ _ _ _ _ _ _ _ _;refine aq ?_;refine af (iX ?_ ⟨rfl,rfl,rfl,rfl,rfl,trivial⟩);rw[J,bj];intro a ha;obtain⟨j,hj⟩:=cC ha;exact bm j a (by have:=(bw.1 hj).1;omega) hj
  .have a9:¬ k<n:=by simpa using h
   exact⟨⟨2,fS (l:=[]) trivial⟩,fun i hi=>hinv i oG⟩
 clear gX;rintro s ⟨⟨nx,hg⟩,ha⟩;refine⟨_,hg,aj ?_⟩;refine ag ?_;refine af (fk rfl rfl ?_);rw[show(range n).all (ni (c9 f) d.par)=true from bj.2 fun i hi=>ha i (List.mem_range.1 hi)];rfl
theorem Bc{d:eW}:PCall prog 16 [.agg (ct d)] (B (BN d)):=by
 have J:∀ x∈[D.agg (ct d)],Tr x:=.cons (.agg (wu d)) .nil;refine bg aj2 J (Tr.s _) ?_;rw[aj3];refine az (ag ?_);refine af (aW (bG [(0,ct d,30)] eH (l:=[(1,.pt (ct d))]) eH) (aB (aj ?_)));unfold BN;refine aJ ?_;refine dA ?_;refine af (cx rfl (fun h=>?_) fun h=>bP (aB (az ?_)))
 .have h:=(X7 _ _ _).symm.trans h;rw[h];refine aB (aj (SS ?_));exact af (bX (av rfl rfl))
 have h3:=(X7 _ _ _).symm.trans h;rw[h3]
 have X:¬ (30:Int)<(d.one.length:Int):=by
  simp only[Bool.or_eq_false_iff,decide_eq_false_iff_not] at h3;exact h3.2.1
 have ht:¬ (30:Int)<(d.two.length:Int):=by
  simp only[Bool.or_eq_false_iff,decide_eq_false_iff_not] at h3;exact h3.2.2
 clear h3 h;rw[Bool.not_false,Bool.true_and];refine SS ?_
 refine af (bR (fun s=>Ghost prog s ⟨aD [(1,.pt (ct d))],fun _=>none,1⟩/\d.one.all sd=true) (cQ (α:=Nat)
  (fun k=>⟨aD [(1,.pt (ct d)),(3,I k)],fun _=>none,1⟩)
  (fun k=>k<=d.one.length/\∀ j l,j<k->d.one[j]? =some l->sd l=true) (fun k=>d.one.length - k) 0 (ap eH) ⟨Nat.zero_le _,fun j l h=>absurd h (Nat.not_lt_zero _)⟩ ?_) ?_)
 .rintro k ⟨hk,hinv⟩;refine aO ?_;refine af ⟨_,rfl,fun h=>?_,fun h=>?_⟩
  .have ao:k<d.one.length:=by simpa using h
   obtain⟨l,hl⟩:∃ l,d.one[k]? =some l:=⟨_,aN ao⟩
   refine ws ?_;cases hg:decide ((30:Int)<(l.length:Int)) with
   |true=>
    have eM:=hg;refine dA ?_;refine af (gJ (aj (SS ?_)));refine af (aY (br (aR (av rfl ?_))));rw[List.all_eq_false.2 ⟨l,bU hl,by unfold sd;rw[hg];simp⟩];rfl
   |false=>
    have eM:=hg;refine dA ?_;refine af (gT (bS (aq ?_)));refine af (aK (k+1) (ap eH) ⟨oG,fun j m hj hm=>?_⟩ oG);by_cases e:j=k
    .subst e;rw[hl] at hm;cases hm;unfold sd;rw[hg];rfl
    .exact hinv j m oG hm
  .have M:¬ k<d.one.length:=by simpa using h
   refine⟨ap eH,bj.2 fun l hl=>?_⟩;obtain⟨j,hj⟩:=cC hl;exact hinv j l (by have:=(bw.1 hj).1;omega) hj
 rintro s ⟨C,ha⟩;rw[ha,Bool.true_and];refine⟨_,C,aB (az ?_)⟩;refine SS ?_
 refine af (bR (fun s=>Ghost prog s ⟨aD [],fun _=>none,1⟩/\d.two.all sd=true) (cQ (α:=Nat)
  (fun k=>⟨aD [(1,.pt (ct d)),(4,I k)],fun _=>none,1⟩)
  (fun k=>k<=d.two.length/\∀ j l,j<k->d.two[j]? =some l->sd l=true) (fun k=>d.two.length - k) 0 (ap eH) ⟨Nat.zero_le _,fun j l h=>absurd h (Nat.not_lt_zero _)⟩ ?_) ?_)
 .clear C;rintro k ⟨hk,hinv⟩;refine aO ?_;refine af ⟨_,rfl,fun h=>?_,fun h=>?_⟩
  .have ao:k<d.two.length:=by simpa using h
   obtain⟨l,hl⟩:∃ l,d.two[k]? =some l:=⟨_,aN ao⟩
   refine ws ?_;cases hg:decide ((30:Int)<(l.length:Int)) with
   |true=>
    have eM:=hg;refine dA ?_;refine af (gJ (aj (SS ?_)));refine af (aY (br (aR (av rfl ?_))));rw[List.all_eq_false.2 ⟨l,bU hl,by unfold sd;rw[hg];simp⟩];rfl
   |false=>
    have eM:=hg;refine dA ?_;refine af (gT (bS (aq ?_)));refine af (aK (k+1) (ap eH) ⟨oG,fun j m hj hm=>?_⟩ oG);by_cases e:j=k
    .subst e;rw[hl] at hm;cases hm;unfold sd;rw[hg];rfl
    .exact hinv j m oG hm
  .have M:¬ k<d.two.length:=by simpa using h
   refine⟨fS (l:=[]) trivial,bj.2 fun l hl=>?_⟩;obtain⟨j,hj⟩:=cC hl;exact hinv j l (by have:=(bw.1 hj).1;omega) hj
 clear C;rintro s ⟨hg,ha⟩;refine⟨_,hg,aj ?_⟩;refine SS ?_;refine af (av (d:=B true) rfl ?_);rw[ha]
end Go.Proofs.Tryz.K
end
