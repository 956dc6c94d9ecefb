/- Part 5. -/
import Derived.Test.YtonoegleildfnaaGreatProofs4
set_option linter.all false
set_option maxHeartbeats 2000000
set_option maxRecDepth 10000
open List(range)
open List(replicate)
section
open Go Go.Abs Go.Proofs Go.Argus
namespace Go.Argus
theorem ir(a b:Bool):(if a=true then b else false)=(a&&b):=by cases a<;>rfl
theorem Am(a b:Bool):(if a=true then true else b)=(a||b):=by cases a<;>rfl
def mL(bs:List b7):List (List Int):=(range bs.length).map (lY bs bs.length)
def mW(R:Nat)(bs:List b7)(k:Nat):List Bool:=(range R).map fun(i:Nat)=>(lS bs k).any (·==(i:Int))
theorem DF(R:Nat)(bs:List b7)(k:Nat):(mW R bs k).length=R:=by simp[mW]
theorem G'{R i:Nat}{bs:List b7}{k:Nat}(h:i<R):(mW R bs k)[i]? =some ((lS bs k).any (·==(i:Int))):=by simp[mW,h]
theorem PM{bs:List b7}{k:Nat}{x:b7}(h:bs[k]? =some x):lS bs (k+1)=lS bs k++if x.fin.kind=7 then [x.fin.a] else []:=by
 unfold lS;rw[List.take_add_one,h,List.filter_append,List.map_append];congr 1;by_cases e:x.fin.kind=7<;>simp[e]
theorem ad0{R:Nat}{bs:List b7}{k:Nat}{x:b7}(h:bs[k]? =some x)(e:¬ x.fin.kind=7):mW R bs (k+1)=mW R bs k:=by
 unfold mW;rw[PM h,if_neg e,List.append_nil]
theorem acJ{R i:Nat}{bs:List b7}{k:Nat}{x:b7}(h:bs[k]? =some x)(e:x.fin.kind=7)(ha:x.fin.a=i):mW R bs (k+1)=(mW R bs k).set i true:=by
 apply List.ext_getElem?;intro j;rw[List.getElem?_set];by_cases hj:j<R
 .rw[G' hj,G' hj,PM h,if_pos e,List.any_append,ha,DF];by_cases C:i=j
  .subst C;simp[hj]
  .rw[if_neg C];have:((i:Int)==(j:Int))=false:=by simp;omega
   simp[this]
 .have h1:∀ k,(mW R bs k)[j]? =none:=fun k=>List.getElem?_eq_none (by rw[DF];omega);rw[h1,h1,DF];split
  .rw[if_neg oG]
  .rfl
theorem abj(R:Nat)(bs:List b7):mW R bs 0=replicate R false:=by
 apply List.ext_getElem?;intro j;by_cases hj:j<R
 .rw[G' hj];simp[lS,hj]
 .rw[List.getElem?_eq_none (by rw[DF];omega),List.getElem?_eq_none oP]
theorem take_set{C:List Bool}{k n:Nat}{v:Bool}(h:C[k]? =some v)(hn:C.length=n):((C.take k++replicate (n - k) false).set k v)=C.take (k+1)++replicate (n - (k+1)) false:=by
 have hk:=(bw.1 h).1;have hl:(C.take k).length=k:=by simp;omega
 rw[show n - k=n - (k+1)+1 by omega,List.replicate_succ,List.set_append_right _ _ oG,hl,Nat.sub_self,List.set_cons_zero,List.take_add_one,h];simp
def qb(p:Bool×D):List D:=[B p.1,p.2]
def dy(L:List (Bool×D)):List D:=L.flatMap qb
def Fg(c:Cert):Bool×D:=(c.any,dv c.is)
theorem BN:∀ L:List (Bool×D),(dy L).length=L.length*2
 |[]=>rfl
 |p::L=>by
  have:=BN L;unfold dy at this ⊢;rw[List.flatMap_cons,List.length_append,this];simp[qb];omega
theorem Kr:∀ {L:List (Bool×D)} {t:Nat} {p:Bool×D},L[t]? =some p->∃ r,(dy L).drop (t*2)=B p.1::p.2::r
 |[],_,_,h=>by simp at h
 |p::L,0,q,h=>by
  simp at h;subst h;exact⟨dy L,rfl⟩
 |p::L,t+1,q,h=>by
  obtain⟨r,hr⟩:=Kr (L:=L) (t:=t) (by simpa using h);refine⟨r,?_⟩;rw[show(t+1)*2=t*2+2 by omega];show(B p.1::p.2::dy L).drop (t*2+2)=_;exact hr
theorem R3:∀ {L:List (Bool×D)} {t:Nat} (q:Bool×D),t<L.length->(dy L).take (t*2)++[B q.1,q.2]++(dy L).drop (t*2+2)=dy (L.set t q)
 |[],_,_,h=>by simp at h
 |p::L,0,q,h=>rfl
 |p::L,t+1,q,h=>by
  have ih:=R3 (L:=L) (t:=t) q (by simpa using h);rw[show(t+1)*2=t*2+2 by omega,List.set_cons_succ];show B p.1::p.2::((dy L).take (t*2)++[B q.1,q.2]++(dy L).drop (t*2+2))=_;rw[ih];rfl
theorem JK{L:List (Bool×D)}{t:Nat}(q:Bool×D)(h:t<L.length):splice (dy L) (t*2) [B q.1,q.2]=dy (L.set t q):=R3 q h
theorem ae'{L:List (Bool×D)}{t:Nat}{p:Bool×D}(h:L[t]? =some p):∃ r,(dy L).drop (t*2+0)=B p.1::p.2::r:=Kr h
theorem R4{L:List (Bool×D)}{t:Nat}{p:Bool×D}(h:L[t]? =some p):((dy L).drop (t*2)).take 2=[B p.1,p.2]:=by
 obtain⟨r,hr⟩:=Kr h;rw[hr];rfl
theorem Ho(g:D->D)(hg:∀ b,g (B b)=B b):∀ L:List (Bool×D),(dy L).map g=dy (L.map fun p=>(p.1,g p.2))
 |[]=>rfl
 |p::L=>by
  show g (B p.1)::g p.2::(dy L).map g=B p.1::g p.2::_;rw[hg,Ho g hg L];rfl
def jB(n N:Nat)(d:D):Nat->List (Bool×D)
 |0=>replicate N (false,.z)
 |k+1=>(true,d)::(replicate k (true,dv (replicate n false))++replicate (N - (k+1)) (false,.z))
theorem J1{n N:Nat}{d:D}{k:Nat}(h:k<=N):(jB n N d k).length=N:=by
 cases k with
 |zero=>simp[jB]
 |succ k=>simp[jB];omega
theorem ad1{n N:Nat}{d:D}(h:0<N):(jB n N d 0).set 0 (true,d)=jB n N d 1:=by
 obtain⟨M,rfl⟩:∃ M,N=M+1:=⟨N - 1,oG⟩
 simp[jB,List.replicate_succ]
theorem ad2{n N:Nat}{d:D}{k:Nat}(h:k+1<N):(jB n N d (k+1)).set (k+1) (true,dv (replicate n false))=jB n N d (k+2):=by
 unfold jB;rw[List.set_cons_succ,show N - (k+1)=N - (k+1+1)+1 by omega,List.replicate_succ (n:=N - (k+1+1)),List.set_append_right _ _ oS,List.length_replicate,Nat.sub_self,List.set_cons_zero];show _=(true,d)::(replicate (k+1) _++_)
 rw[List.replicate_succ',List.append_assoc];rfl
def fA(R n N:Nat)(s:CS):List (Bool×D):=(range N).map fun k=>Fg (cF R n s k)
theorem yq(R n N:Nat)(s:CS):(fA R n N s).length=N:=by simp[fA]
theorem Bt{R n N:Nat}{s:CS}{k:Nat}(h:k<N):(fA R n N s)[k]? =some (Fg (cF R n s k)):=by simp[fA,h]
theorem aac{R n N:Nat}{s s':CS}{t:Nat}{c:Cert}(h:∀ k,cF R n s' k=if k=t then c else cF R n s k):(fA R n N s).set t (Fg c)=fA R n N s':=by
 apply List.ext_getElem?;intro j;rw[List.getElem?_set,yq];by_cases hj:j<N
 .rw[Bt hj,Bt hj,h j];by_cases e:t=j
  .subst e;simp[hj]
  .rw[if_neg e,if_neg fun h=>e h.symm]
 .have h1:∀ s,(fA R n N s)[j]? =none:=fun s=>by simp[fA];omega
  rw[h1,h1];split
  .rw[if_neg oG]
  .rfl
def Ez(f:aG)(s:CS):D:=.sl (dy (fA f.al.length (f.al.length+f.aZ.length) f.blocks.length s)) f.blocks.length
theorem JL{R n:Nat}{s:CS}{k:Nat}:(cF R n s k).is.length=n:=by
 unfold cF;split
 .exact DL ..
 .simp
def qX(a b:Cert)(q:Nat):Bool:=(a.any==b.any)&&(range q).all fun i=>a.is.getD i false==b.is.getD i false
theorem aad(a b:Cert)(q:Nat):qX a b (q+1)=(qX a b q&&(a.is.getD q false==b.is.getD q false)):=by
 unfold qX;rw[List.range_succ,List.all_append,Bool.and_assoc];simp
theorem abn{a b:Cert}{n:Nat}(ha:a.is.length=n)(hb:b.is.length=n):qX a b n=true↔a.any=b.any/\a.is=b.is:=by
 unfold qX;rw[aO,beq_iff_eq,bj];refine and_congr_right fun _=>⟨fun h=>?_,fun h k hk=>by rw[h];simp⟩
 apply List.ext_getElem?;intro j;by_cases hj:j<n
 .have:=h j (by simpa using hj);have h1:a.is[j]? =some a.is[j]:=aM oG;have h2:b.is[j]? =some b.is[j]:=aM oG;rw[getD_some h1,getD_some h2,beq_iff_eq] at this;rw[h1,h2,this]
 .rw[List.getElem?_eq_none oG,List.getElem?_eq_none oG]
theorem Rg:∀ n:Nat,replD n [B false,.z]=dy (replicate n (false,.z))
 |0=>rfl
 |n+1=>by
  have:=Rg n;unfold replD at this ⊢;rw[List.replicate_succ,List.replicate_succ,List.flatten_cons,this];rfl
theorem R5:∀ {L:List (Bool×D)},(∀ p∈L,Tr p.2)->∀ x∈dy L,Tr x
 |[],_,x,h=>by simp[dy] at h
 |p::L,hp,x,h=>by
  have h:x∈B p.1::p.2::dy L:=h;rcases List.mem_cons.1 h with rfl|h
  .exact .s _
  .rcases List.mem_cons.1 h with rfl|h
   .exact hp p oS
   .exact R5 (fun q hq=>hp q (by simp[hq])) x h
theorem acK(f:aG)(s:CS):Tr (Ez f s):=.sl (R5 fun p hp=>by
 obtain⟨k,_,rfl⟩:=List.mem_map.1 hp
 exact .sl (.map fun _=>.s _))
theorem acL{n N i:Nat}{cs:List D}{sz:Nat}(h:i≠2)(k:Nat):(jB n N (.rs 2 0 n) k).map (fun p=>(p.1,sub (fz0 i cs sz) p.2))=jB n N (.rs 2 0 n) k:=by
 cases k with
 |zero=>simp only[jB,List.map_replicate];rfl
 |succ k=>
  simp only[jB,List.map_cons,List.map_append,List.map_replicate,BD (Ne.symm h)];rfl
theorem ad3{n N i k:Nat}(h:i≠2)(hk:k+1<N):(dy ((jB n N (.rs 2 0 n) (k+1)).set (k+1) (true,.rs i 0 n))).map (sub (fz0 i ((replicate n false).map B) 1))=dy (jB n N (.rs 2 0 n) (k+2)):=by
 rw[Ho _ (fun _=>rfl),List.map_set,acL h,Cj,List.drop_zero,df oS, <- ad2 hk];congr 3;show _=D.sl _ _;rw[List.length_replicate]
def qc(n N:Nat):List (Bool×D):=replicate (N - 1) (true,dv (replicate n false))
theorem ad4{n N:Nat}{d:D}(h:0<N):jB n N d N=(true,d)::qc n N:=by
 obtain⟨M,rfl⟩:∃ M,N=M+1:=⟨N - 1,oG⟩
 simp[jB,qc]
theorem Qr{n N:Nat}(h:0<N):(qc n N).length+1=N:=by simp[qc];omega
theorem ak5{n N i:Nat}{cs:List D}{sz:Nat}:(qc n N).map (fun p=>(p.1,sub (fz0 i cs sz) p.2))=qc n N:=by
 unfold qc;rw[List.map_replicate];rfl
theorem Zw{R n N args:Nat}(h0:cF R n (kJ N args) 0=⟨false,replicate args true++replicate (n - args) false⟩)(h1:∀ k,0<k->k<N->cF R n (kJ N args) k=⟨true,replicate n false⟩)(C:0<N):
 fA R n N (kJ N args)=(false,dv (replicate args true++replicate (n - args) false))::qc n N:=by
 apply List.ext_getElem?;intro j;by_cases hj:j<N
 .rw[Bt hj];cases j with
  |zero=>rw[h0];rfl
  |succ j=>
   rw[h1 _ oG hj,List.getElem?_cons_succ];unfold qc;rw[List.getElem?_replicate,if_pos oG];rfl
 .rw[List.getElem?_eq_none (by rw[yq];omega),List.getElem?_eq_none (by have:=Qr (n:=n) C;simp;omega)]
theorem Ks{R n N i sz:Nat}{cs:List D}{e:TypeId}{s:CS}:Row.sub (fz0 i cs sz) (.cells (dy (fA R n N s)) e)=.cells (dy (fA R n N s)) e:=by
 refine congrArg (fun c=>Row.cells c e) ((Ho _ (fun _=>rfl) _).trans (congrArg dy ?_));unfold fA;rw[List.map_map];rfl
def Mn(f:aG)(n N:Nat):Nat->St
 |0=>⟨aD [(1,.pt (aH f)),(3,I n),(4,.rs 1 0 N),(5,I (0:Nat))],bf [(1,.cells (dy (jB n N (.rs 2 0 n) 0)) 158)],2⟩
 |k+1=>⟨aD [(1,.pt (aH f)),(3,I n),(4,.rs 1 0 N),(5,I (k+1:Nat))],bf [(1,.cells (dy (jB n N (.rs 2 0 n) (k+1))) 158),(2,.cells ((replicate n false).map B) 4)],k+3⟩
end Go.Argus
namespace Go.Proofs.Tryz.K
section
variable{f:aG}{hd:D}(ht:Tr hd)(dP:hd.one=true)
include ht dP
theorem Na{x:bE}:PCall prog 220 [.agg (bW f hd),.agg (bu x)] (B (lG f x)):=by
 have bT:∀ {r k:Int},PCall prog 215 [.agg (bW f hd),I r,U8 k] (B (bp f r k)):=fun {r k}=>bT ht dP;have vC:∀ {l:List Int},PCall prog 217 [.agg (bW f hd),au l] (B (gX f.al l)):=fun {l}=>vC ht dP;refine bg ahF (.cons (.agg (wS ht f)) (.cons (.agg (r8 x)) .nil)) (Tr.s _) ?_;rw[ahG];refine az (aq ?_);refine af (aW (bG [(0,bW f hd,208),(1,bu x,66)] eH (l:=[(2,.pt (bW f hd)),(3,.pt (bu x))]) eH) (aB (aj (ag ?_))));refine af (oD (eI (fun s=>Ghost prog s ⟨aD [(2,.pt (bW f hd)),(3,.pt (bu x)),(6,U8 x.op),(7,B (aU [30,31,32,33,34] x.op))],fun _=>none,2⟩) (aj ?_) fun s hg=>⟨_,hg,?_⟩))
 .refine ag ?_;refine af (aw rfl (fun h=>bd (ap ⟨rfl,rfl,rfl,dc h oC,trivial⟩)) fun C=>aj (ag ?_));refine af (aw rfl (fun h=>bd (ap ⟨rfl,rfl,rfl,dc h oC,trivial⟩)) fun J=>aj (ag ?_));refine af (aw rfl (fun h=>bd (ap ⟨rfl,rfl,rfl,dc h oC,trivial⟩)) fun M=>aj (ag ?_));refine af (aw rfl (fun h=>bd (ap ⟨rfl,rfl,rfl,dc h oC,trivial⟩)) fun X=>lm (ag ?_));refine af (ap ⟨rfl,rfl,rfl,?_,trivial⟩);show D.s (.bool (x.op==34))=_;simp only[aU,List.any_cons,List.any_nil,C,J,M,X,Bool.false_or,Bool.or_false]
 refine aw rfl (fun h0=>aj ?_) fun h0=>aj ?_
 .have cw:PCall prog 214 [.agg (bu x),S ⟨#[116,97,98]⟩] (B (bV x [116,97,98])):=cw oC;refine SS ?_;refine cl cw (aP ?_);refine gc bT (aN ?_);refine gc bT (aN ?_);refine gc bT (ag ?_);refine af (aY (bO (aR (av (d:=.s (.bool _)) rfl ?_))));have e:lG f x=(bV x [116,97,98]&&(bp f x.to 119&&(bp f x.a 119&&bp f x.b 119))):=by rw[lG,if_pos h0]
  rw[e];simp only[ir,Bool.and_assoc,aX]
 refine ag ?_;refine af (aw rfl (fun h1=>aj ?_) fun h1=>aj ?_)
 .have cw:PCall prog 214 [.agg (bu x),S ⟨#[97,98]⟩] (B (bV x [97,98])):=cw oC;refine SS ?_;refine cl cw (aP ?_);refine gc bT (aN ?_);refine gc bT (ag ?_);refine af (aY (bO (aR (av (d:=.s (.bool _)) rfl ?_))));have e:lG f x=(bV x [97,98]&&(bp f x.a 114&&bp f x.b 118)):=by rw[lG,if_neg (by rw[h0];decide),if_pos (by simpa using h1)]
  rw[e];simp only[ir,Bool.and_assoc,aX]
 have h1:¬ x.op=35:=by simpa using h1
 refine ag ?_;refine af (aw rfl (fun h2=>aj ?_) fun h2=>aj ?_)
 .have cw:PCall prog 214 [.agg (bu x),S ⟨#[116,97]⟩] (B (bV x [116,97])):=cw oC;refine SS ?_;refine cl cw (aP ?_);refine gc bT (aN ?_);refine gc bT (ag ?_);refine af (aY (bO (aR (av (d:=.s (.bool _)) rfl ?_))));have e:lG f x=(bV x [116,97]&&(bp f x.to 118&&bp f x.a 114)):=by rw[lG,if_neg (by rw[h0];decide),if_neg h1,if_pos (by simpa using h2)]
  rw[e];simp only[ir,Bool.and_assoc,aX]
 have h2:¬ x.op=36:=by simpa using h2
 refine ag ?_;refine af (aw rfl (fun h3=>aj ?_) fun h3=>aj ?_)
 .have cw:PCall prog 214 [.agg (bu x),S ⟨#[116,97,98]⟩] (B (bV x [116,97,98])):=cw oC;refine SS ?_;refine cl cw (aP ?_);refine gc bT (aN ?_);refine gc bT (aN ?_);refine gc bT (ag ?_);refine af (aY (bO (aR (av (d:=.s (.bool _)) rfl ?_))));have e:lG f x=(bV x [116,97,98]&&(bp f x.to 118&&(bp f x.a 114&&bp f x.b 119))):=by rw[lG,if_neg (by rw[h0];decide),if_neg h1,if_neg h2,if_pos (by simpa using h3)]
  rw[e];simp only[ir,Bool.and_assoc,aX]
 have h3:¬ x.op=37:=by simpa using h3
 refine ag ?_;refine af (aw rfl (fun h4=>aj ?_) fun h4=>nI (aj ?_))
 .have cw:PCall prog 214 [.agg (bu x),S ⟨#[97,98,108]⟩] (B (bV x [97,98,108])):=cw oC;refine SS ?_;refine cl cw (aP ?_);refine gc bT (aN ?_);refine gc bT (aJ ?_);refine ag ?_;refine gc vC (ag ?_);refine af (aY (bO (aR (av (d:=.s (.bool _)) rfl ?_))));have e:lG f x=(bV x [97,98,108]&&(bp f x.a 114&&(bp f x.b 119&&(aX x.args.length 1&&gX f.al x.args)))):=by rw[lG,if_neg (by rw[h0];decide),if_neg h1,if_neg h2,if_neg h3,if_pos (by simpa using h4)]
  rw[e];simp only[ir,Bool.and_assoc,aX];rfl
 have h4:¬ x.op=38:=by simpa using h4
 refine SS ?_;refine af (av (d:=.s (.bool _)) rfl ?_);rw[lG,if_neg (by rw[h0];decide),if_neg h1,if_neg h2,if_neg h3,if_neg h4]
end
theorem ue{f:aG}{L:List (List Int)}{b:Nat}{A:List Int}{x:bE}(hb:L[b]? =some A)(hl:f.aZ.length<=60)(hs:∀ k∈f.aZ,k=1\/k=2)(hL:L.length<=100000):
 PCall prog 171 [.agg (bW f (bx L)),.agg (bu x),I b] (B (eD f b A.length x)):=by
 have ht:=yu L;have dP:(bx L).one=true:=rfl;have bT:∀ {r k:Int},PCall prog 215 [.agg (bW f (bx L)),I r,U8 k] (B (bp f r k)):=fun {r k}=>bT ht dP;have AN:∀ {a b:Int},PCall prog 216 [.agg (bW f (bx L)),I a,I b] (B (kL f a b)):=fun {a b}=>AN ht dP;have vC:∀ {l:List Int},PCall prog 217 [.agg (bW f (bx L)),au l] (B (gX f.al l)):=fun {l}=>vC ht dP;have Ir:∀ {n r:Int},PCall prog 218 [.agg (bW f (bx L)),I n,I r] (B (mT f.al f.aZ r n)):=fun {n r}=>Ir ht dP hl hs;have hZ:∀ {n a b:Int},PCall prog 212 [I n,I a,I b] (B (dg n a b)):=fun {n a b}=>hZ;have a7:∀ a∈[D.agg (bW f (bx L)),.agg (bu x),I b],Tr a:=.cons (.agg (wS ht f)) (.cons (.agg (r8 x)) (.cons (.s _) .nil));refine mG Vy.he a7 fun fp=>?_;have hlen:x.args.length<=maxLen:=((fp _ (List.mem_cons_of_mem _ (List.mem_cons_self ..))).agg (au x.args) (by simp[bu])).sl.1;unfold maxLen at hlen;refine bg Vy a7 (Tr.s _) ?_;rw[ahH];refine az (aq ?_);refine af (aW (bG [(0,bW f (bx L),208),(1,bu x,66)] eH (l:=[(2,I b),(3,.pt (bW f (bx L))),(4,.pt (bu x))]) eH) (aB (aj (ag ?_))));refine af (oD (ws (ag ?_)));refine af (aw rfl (fun h0=>?_) fun h0=>?_)
 .refine ws ?_;have cw:PCall prog 214 [.agg (bu x),S ⟨#[116,110]⟩] (B (bV x [116,110])):=cw oC;refine SS ?_;refine cl cw (aP ?_);refine gc bT (aP ?_);refine gc hZ (ag ?_);refine af (aY (bO (aR (av (d:=.s (.bool _)) rfl ?_))));have e:eD f b A.length x=(bV x [116,110]&&(bp f x.to 119&&dg x.n (-1000000000) 1000000000)):=by rw[eD,if_pos (by simpa using h0)]
  rw[e];simp only[ir,Bool.and_assoc,aX]
 have h0:¬ x.op=1:=by simpa using h0
 refine ws (ag ?_);refine af (aw rfl (fun h1=>?_) fun h1=>?_)
 .refine ws ?_;have cw:PCall prog 214 [.agg (bu x),S ⟨#[116,97]⟩] (B (bV x [116,97])):=cw oC;refine SS ?_;refine cl cw (bB ?_);refine gc AN (ag ?_);refine af (aY (bO (aR (av (d:=.s (.bool _)) rfl ?_))));have e:eD f b A.length x=(bV x [116,97]&&kL f x.to x.a):=by rw[eD,if_neg h0,if_pos (by simpa using h1)]
  rw[e];simp only[ir,Bool.and_assoc,aX]
 have h1:¬ x.op=2:=by simpa using h1
 refine eI (fun s=>Ghost prog s ⟨aD [(2,I b),(3,.pt (bW f (bx L))),(4,.pt (bu x)),(9,U8 x.op),(37,B (aU [3,4,6,7] x.op))],fun _=>none,2⟩) (aj ?_) fun s hg=>⟨_,hg,?_⟩
 .refine ag ?_;refine af (aw rfl (fun h=>bd (ap ⟨rfl,rfl,rfl,rfl,dc h oC,trivial⟩)) fun e3=>aj (ag ?_));refine af (aw rfl (fun h=>bd (ap ⟨rfl,rfl,rfl,rfl,dc h oC,trivial⟩)) fun e4=>aj (ag ?_));refine af (aw rfl (fun h=>bd (ap ⟨rfl,rfl,rfl,rfl,dc h oC,trivial⟩)) fun e6=>lm (ag ?_));refine af (ap ⟨rfl,rfl,rfl,rfl,?_,trivial⟩);show D.s (.bool (x.op==7))=_;simp only[aU,List.any_cons,List.any_nil,e3,e4,e6,Bool.false_or,Bool.or_false]
 refine aw rfl (fun h2=>aj ?_) fun h2=>?_
 .have cw:PCall prog 214 [.agg (bu x),S ⟨#[116,97,98]⟩] (B (bV x [116,97,98])):=cw oC;refine SS ?_;refine cl cw (aP ?_);refine gc bT (aN ?_);refine gc bT (aN ?_);refine gc bT (ag ?_);refine af (aY (bO (aR (av (d:=.s (.bool _)) rfl ?_))));have e:eD f b A.length x=(bV x [116,97,98]&&(bp f x.to 119&&(bp f x.a 119&&bp f x.b 119))):=by rw[eD,if_neg h0,if_neg h1,if_pos h2]
  rw[e];simp only[ir,Bool.and_assoc,aX]
 refine ws (ag ?_);refine af (aw rfl (fun h3=>?_) fun h3=>?_)
 .refine ws ?_;have cw:PCall prog 214 [.agg (bu x),S ⟨#[116,97,98]⟩] (B (bV x [116,97,98])):=cw oC;refine SS ?_;refine cl cw (aP ?_);refine gc bT (dz ?_);refine gc AN (ag ?_);refine af (aY (bO (aR (av (d:=.s (.bool _)) rfl ?_))));have e:eD f b A.length x=(bV x [116,97,98]&&(bp f x.to 119&&kL f x.a x.b)):=by rw[eD,if_neg h0,if_neg h1,if_neg (by rw[h2];decide),if_pos (by simpa using h3)]
  rw[e];simp only[ir,Bool.and_assoc,aX]
 have h3:¬ x.op=5:=by simpa using h3
 refine ws (ag ?_);refine af (aw rfl (fun h4=>?_) fun h4=>?_)
 .refine ws ?_;have cw:PCall prog 214 [.agg (bu x),S ⟨#[116,97]⟩] (B (bV x [116,97])):=cw oC;refine SS ?_;refine cl cw (aP ?_);refine gc bT (aN ?_);refine gc bT (ag ?_);refine af (aY (bO (aR (av (d:=.s (.bool _)) rfl ?_))));have e:eD f b A.length x=(bV x [116,97]&&(bp f x.to 119&&bp f x.a 119)):=by rw[eD,if_neg h0,if_neg h1,if_neg (by rw[h2];decide),if_neg h3,if_pos (by simpa using h4)]
  rw[e];simp only[ir,Bool.and_assoc,aX]
 have h4:¬ x.op=8:=by simpa using h4
 refine ws (ag ?_);refine af (aw rfl (fun h5=>?_) fun h5=>?_)
 .refine ws ?_;have cw:PCall prog 214 [.agg (bu x),S ⟨#[116,110]⟩] (B (bV x [116,110])):=cw oC;refine SS ?_;refine cl cw (aP ?_);refine gc bT (aP ?_);refine gc hZ (ag ?_);refine af (aY (bO (aR (av (d:=.s (.bool _)) rfl ?_))));have e:eD f b A.length x=(bV x [116,110]&&(bp f x.to 114&&dg x.n 0 1)):=by rw[eD,if_neg h0,if_neg h1,if_neg (by rw[h2];decide),if_neg h3,if_neg h4,if_pos (by simpa using h5)]
  rw[e];simp only[ir,Bool.and_assoc,aX]
 have h5:¬ x.op=9:=by simpa using h5
 refine ws (ag ?_);refine af (aw rfl (fun C=>?_) fun C=>?_)
 .refine ws ?_;have cw:PCall prog 214 [.agg (bu x),S ⟨#[116,110,108]⟩] (B (bV x [116,110,108])):=cw oC;refine SS ?_;refine cl cw (aP ?_);refine gc bT (aP ?_);refine gc hZ (aN ?_);refine gc hZ (aN ?_);refine gc vC (ag ?_);refine af (aY (bO (aR (av (d:=.s (.bool _)) rfl ?_))));have e:eD f b A.length x=(bV x [116,110,108]&&(bp f x.to 114&&(dg x.n 0 5&&(dg x.args.length 1 6&&gX f.al x.args)))):=by rw[eD,if_neg h0,if_neg h1,if_neg (by rw[h2];decide),if_neg h3,if_neg h4,if_neg h5,if_pos (by simpa using C)]
  rw[e];simp only[ir,Bool.and_assoc,aX]
 have C:¬ x.op=10:=by simpa using C
 refine ws (ag ?_);refine af (aw rfl (fun J=>?_) fun J=>?_)
 .refine ws ?_;have cw:PCall prog 214 [.agg (bu x),S ⟨#[116,97,110]⟩] (B (bV x [116,97,110])):=cw oC;refine SS ?_;refine cl cw (aP ?_);refine gc bT (aN ?_);refine gc bT (aP ?_);refine gc hZ (ag ?_);refine af (aY (bO (aR (av (d:=.s (.bool _)) rfl ?_))));have e:eD f b A.length x=(bV x [116,97,110]&&(bp f x.to 118&&(bp f x.a 114&&dg x.n 0 5))):=by rw[eD,if_neg h0,if_neg h1,if_neg (by rw[h2];decide),if_neg h3,if_neg h4,if_neg h5,if_neg C,if_pos (by simpa using J)]
  rw[e];simp only[ir,Bool.and_assoc,aX]
 have J:¬ x.op=11:=by simpa using J
 refine ws (ag ?_);refine af (aw rfl (fun h8=>?_) fun h8=>?_)
 .refine ws ?_;have cw:PCall prog 214 [.agg (bu x),S ⟨#[97,98,110]⟩] (B (bV x [97,98,110])):=cw oC;refine SS ?_;refine cl cw (aP ?_);refine gc bT (aN ?_);refine gc bT (aP ?_);refine gc hZ (ag ?_);refine af (aY (bO (aR (av (d:=.s (.bool _)) rfl ?_))));have e:eD f b A.length x=(bV x [97,98,110]&&(bp f x.a 114&&(bp f x.b 118&&dg x.n 0 5))):=by rw[eD,if_neg h0,if_neg h1,if_neg (by rw[h2];decide),if_neg h3,if_neg h4,if_neg h5,if_neg C,if_neg J,if_pos (by simpa using h8)]
  rw[e];simp only[ir,Bool.and_assoc,aX]
 have h8:¬ x.op=12:=by simpa using h8
 refine eI (fun s=>Ghost prog s ⟨aD [(2,I b),(3,.pt (bW f (bx L))),(4,.pt (bu x)),(9,U8 x.op),(180,B (aU [13,14] x.op))],fun _=>none,2⟩) (aj ?_) fun s hg=>⟨_,hg,?_⟩
 .refine ag ?_;refine af (aw rfl (fun h=>bd (ap ⟨rfl,rfl,rfl,rfl,dc h oC,trivial⟩)) fun yc=>lm (ag ?_));refine af (ap ⟨rfl,rfl,rfl,rfl,?_,trivial⟩);show D.s (.bool (x.op==14))=_;simp only[aU,List.any_cons,List.any_nil,yc,Bool.false_or,Bool.or_false]
 refine aw rfl (fun h9=>aj ?_) fun h9=>?_
 .have cw:PCall prog 214 [.agg (bu x),S ⟨#[116,97]⟩] (B (bV x [116,97])):=cw oC;refine SS ?_;refine cl cw (aP ?_);refine gc bT (aN ?_);refine gc bT (ag ?_);refine af (aY (bO (aR (av (d:=.s (.bool _)) rfl ?_))));have e:eD f b A.length x=(bV x [116,97]&&(bp f x.to 119&&bp f x.a 114)):=by rw[eD,if_neg h0,if_neg h1,if_neg (by rw[h2];decide),if_neg h3,if_neg h4,if_neg h5,if_neg C,if_neg J,if_neg h8,if_pos h9]
  rw[e];simp only[ir,Bool.and_assoc,aX]
 refine ws (ag ?_);refine af (aw rfl (fun M=>?_) fun M=>?_)
 .refine ws ?_;have cw:PCall prog 214 [.agg (bu x),S ⟨#[97]⟩] (B (bV x [97])):=cw oC;refine SS ?_;refine cl cw (aP ?_);refine gc bT (ag ?_);refine af (aY (bO (aR (av (d:=.s (.bool _)) rfl ?_))));have e:eD f b A.length x=(bV x [97]&&bp f x.a 119):=by rw[eD,if_neg h0,if_neg h1,if_neg (by rw[h2];decide),if_neg h3,if_neg h4,if_neg h5,if_neg C,if_neg J,if_neg h8,if_neg (by rw[h9];decide),if_pos (by simpa using M)]
  rw[e];simp only[ir,Bool.and_assoc,aX]
 have M:¬ x.op=15:=by simpa using M
 refine ws (ag ?_);refine af (aw rfl (fun kZ=>?_) fun kZ=>?_)
 .refine ws ?_;have cw:PCall prog 214 [.agg (bu x),S ⟨#[97]⟩] (B (bV x [97])):=cw oC;refine SS ?_;refine cl cw (aP ?_);refine gc bT (ag ?_);refine af (aY (bO (aR (av (d:=.s (.bool _)) rfl ?_))));have e:eD f b A.length x=(bV x [97]&&bp f x.a 105):=by rw[eD,if_neg h0,if_neg h1,if_neg (by rw[h2];decide),if_neg h3,if_neg h4,if_neg h5,if_neg C,if_neg J,if_neg h8,if_neg (by rw[h9];decide),if_neg M,if_pos (by simpa using kZ)]
  rw[e];simp only[ir,Bool.and_assoc,aX]
 have kZ:¬ x.op=16:=by simpa using kZ
 refine ws (ag ?_);refine af (aw rfl (fun X=>?_) fun X=>?_)
 .refine ws ?_;have cw:PCall prog 214 [.agg (bu x),S ⟨#[116,110]⟩] (B (bV x [116,110])):=cw oC;refine SS ?_;refine cl cw (bB ?_);refine gc Ir (ag ?_);refine af (aY (bO (aR (av (d:=.s (.bool _)) rfl ?_))));have e:eD f b A.length x=(bV x [116,110]&&mT f.al f.aZ x.to x.n):=by rw[eD,if_neg h0,if_neg h1,if_neg (by rw[h2];decide),if_neg h3,if_neg h4,if_neg h5,if_neg C,if_neg J,if_neg h8,if_neg (by rw[h9];decide),if_neg M,if_neg kZ,if_pos (by simpa using X)]
  rw[e];simp only[ir,Bool.and_assoc,aX]
 have X:¬ x.op=17:=by simpa using X
 refine ws (ag ?_);refine af (aw rfl (fun yi=>?_) fun yi=>?_)
 .refine ws ?_;have cw:PCall prog 214 [.agg (bu x),S ⟨#[97,110]⟩] (B (bV x [97,110])):=cw oC;refine SS ?_;refine cl cw (bB ?_);refine gc Ir (ag ?_);refine af (aY (bO (aR (av (d:=.s (.bool _)) rfl ?_))));have e:eD f b A.length x=(bV x [97,110]&&mT f.al f.aZ x.a x.n):=by rw[eD,if_neg h0,if_neg h1,if_neg (by rw[h2];decide),if_neg h3,if_neg h4,if_neg h5,if_neg C,if_neg J,if_neg h8,if_neg (by rw[h9];decide),if_neg M,if_neg kZ,if_neg X,if_pos (by simpa using yi)]
  rw[e];simp only[ir,Bool.and_assoc,aX]
 have yi:¬ x.op=18:=by simpa using yi
 refine ws (ag ?_);refine af (aw rfl (fun Gb=>?_) fun Gb=>?_)
 .have cw:PCall prog 214 [.agg (bu x),S ⟨#[116,108]⟩] (B (bV x [116,108])):=cw oC;have hv:eD f b A.length x=(!aX b 0&&(bV x [116,108]&&(bp f x.to 118&&(aX x.args.length A.length&&x.args.all (kL f x.to))))):=by rw[eD,if_neg h0,if_neg h1,if_neg (by rw[h2];decide),if_neg h3,if_neg h4,if_neg h5,if_neg C,if_neg J,if_neg h8,if_neg (by rw[h9];decide),if_neg M,if_neg kZ,if_neg X,if_neg yi,if_pos (by simpa using Gb)]
  rw[hv];clear hv;have Ml:=cw;have Mm:= @bT x.to 118;have ahI:= @AN x.to;generalize bV x [116,108]=lv at Ml ⊢;generalize bp f x.to 118=iv at Mm ⊢;refine aB (dE Z3 ?_);have cw:=Ml;have bT:=Mm;by_cases dD:b=0
  .have dY:((b:Int)==0)=true:=by simp[dD]
   have e0:aX b 0=true:=by simp[aX,dD]
   rw[e0];refine aP ?_;refine gc cw (bB ?_);refine gc bT (aJ ?_);refine aN ?_;refine a8 bc (cx rfl (fun hp=>?_) fun hp=>(by cases hp));refine aB (aj (SS ?_));refine af (bX (bO (aR (av (d:=B false) rfl ?_))));rfl
  have dY:((b:Int)==0)=false:=by simp[dD]
  have e0:aX b 0=false:=by simp[aX,dD]
  rw[e0];refine aP ?_;refine gc cw (bB ?_);refine gc bT (aJ ?_);refine aN ?_;refine a8 bc (cx rfl (fun hp=>?_) fun hp=>bP ?_)
  .refine aB (aj (SS ?_));refine af (bX (bO (aR (av (d:=B false) rfl ?_))))
   have:(lv&&(iv&&aX x.args.length A.length))=false:=by
    revert hp;cases lv<;>cases iv<;>simp[aX]
   revert this;generalize x.args.all (kL f x.to)=q;generalize aX x.args.length A.length=r;cases lv<;>cases iv<;>cases r<;>simp
  have gU:lv=true/\iv=true/\aX x.args.length A.length=true:=by
   revert hp;cases lv<;>cases iv<;>simp[aX]
  obtain⟨rfl,rfl,e1⟩:=gU;rw[e1];show AW _ _ _ _ (blockQ _ (seqQ _ (retQ _ _ (fun d _=>d=B (x.args.all (kL f x.to)))))) _;clear Ml Mm cw bT hp e1 e0 dY;refine aB (az (SS ?_))
  refine af (bR (fun s=>Ghost prog s ⟨aD [],fun _=>none,2⟩/\∀ (j:Nat) y,x.args[j]? =some y->kL f x.to y=true) (cQ (α:=Nat) (fun k=>⟨aD [(3,.pt (bW f (bx L))),(4,.pt (bu x)),(7,I k)],fun _=>none,2⟩)
   (fun k=>k<=x.args.length/\∀ j y,j<k->x.args[j]? =some y->kL f x.to y=true) (fun k=>x.args.length - k) 0 (ap eH) ⟨oG,fun j y hj=>by omega⟩ ?_) ?_)
  .rintro k ⟨hk,hinv⟩;refine aN ?_;refine af ⟨_,rfl,fun h=>?_,fun h=>?_⟩
   .have ao:k<x.args.length:=by simpa using h
    have hx:x.args[k]? =some x.args[k]:=aM ao;generalize x.args[k]=y at hx;have AN:= @ahI y;refine dE Z4 (bK ?_);refine cl AN (SS ?_);refine a8 bc (aw rfl (fun hp=>?_) fun hp=>?_)
    .refine ws (SS ?_);refine af (aY (br (aR (bO (aR (av (d:=B false) rfl ?_))))));have:x.args.all (kL f x.to)=false:=List.all_eq_false.2 ⟨y,bU hx,by simpa using hp⟩;rw[this]
    .refine bS (aq ?_);refine af (aK (k+1) (ap eH) ⟨oG,fun j z hj hz=>?_⟩ oG);by_cases e:j=k
     .subst e;rw[hx] at hz;cases hz;simpa using hp
     .exact hinv j z oG hz
   .have a9:¬ k<x.args.length:=by simpa using h
    exact⟨.forget _ _ _ _ fun _=>.inr rfl,fun j y hy=>hinv j y (by have:=(bw.1 hy).1;omega) hy⟩
  .rintro s ⟨hg,bC⟩;refine⟨_,hg,aj ?_⟩;refine SS ?_;refine af (aY (bO (aR (av (d:=B true) rfl ?_))))
   have:x.args.all (kL f x.to)=true:=bj.2 fun y hy=>by
    obtain⟨j,hj⟩:=cC hy;exact bC j y hj
   rw[this]
 have Gb:¬ x.op=19:=by simpa using Gb
 refine nI (aj (SS ?_));refine af (av (d:=.s (.bool _)) rfl ?_);rw[eD,if_neg h0,if_neg h1,if_neg (by rw[h2];decide),if_neg h3,if_neg h4,if_neg h5,if_neg C,if_neg J,if_neg h8,if_neg (by rw[h9];decide),if_neg M,if_neg kZ,if_neg X,if_neg yi,if_neg Gb]
section
variable{f:aG}{hd:D}(ht:Tr hd)(dP:hd.one=true)
include ht dP
theorem Ff{x:Argus.End}(hw:∀ w∈x.aL,w.name.size<=maxLen)(hn:f.blocks.length<=1200):PCall prog 221 [.agg (bW f hd),.agg (bh x)] (B (nD f x)):=by
 have iC:∀ {b:Int},PCall prog 170 [.agg (bW f hd),I b] (B (cu f b)):=fun {b}=>iC ht dP hn;have a7:∀ a∈[D.agg (bW f hd),.agg (bh x)],Tr a:=.cons (.agg (wS ht f)) (.cons (.agg (lR x)) .nil);refine bg ahJ a7 (Tr.s _) ?_;rw[ahK];refine az (aq ?_);refine af (aW (bG [(0,bW f hd,208),(1,bh x,69)] eH (l:=[(2,.pt (bW f hd)),(3,.pt (bh x))]) eH) (aB (aj ?_)));have hh:nD f x=(HD f x.aL&&(decide ((x.aL.length:Int)<=7)&&(decide (x.cX= -1)||cu f x.cX))):=rfl;rw[hh];clear hh;generalize Yu:cu f x.cX=bo;have X:PCall prog 170 [.agg (bW f hd),I x.cX] (B bo):=Yu▸iC;clear Yu;have M:= @iC;clear iC;have iC:=X;refine aJ ?_;refine aq ?_;refine gc iC (aq ?_);refine af (cx rfl (fun h=>?_) fun h=>bP (aB (az ?_)))
 .refine aB (aj (SS ?_));refine af (bX (av (d:=B false) rfl ?_))
  have h2:(decide ((x.aL.length:Int)<=7)&&(decide (x.cX= -1)||bo))=false:=by
   revert h;cases bo<;>simp<;>grind
  rw[h2,Bool.and_false]
 have h2:(decide ((x.aL.length:Int)<=7)&&(decide (x.cX= -1)||bo))=true:=by
  revert h;cases bo<;>simp<;>grind
 have h7:x.aL.length<=7:=by
  rw[aO,decide_eq_true_eq] at h2;omega
 rw[h2,Bool.and_true];clear h h2 iC X;refine SS ?_
 refine af (bR (fun s=>Ghost prog s ⟨aD [],fun _=>none,2⟩/\∀ (j:Nat) y,x.aL[j]? =some y->qa f x.aL j y=true) (cQ (α:=Nat) (fun k=>⟨aD [(2,.pt (bW f hd)),(3,.pt (bh x)),(5,I k)],fun _=>none,2⟩)
  (fun k=>k<=x.aL.length/\∀ j y,j<k->x.aL[j]? =some y->qa f x.aL j y=true) (fun k=>x.aL.length - k) 0 (ap eH) ⟨oG,fun j y hj=>by omega⟩ ?_) ?_)
 .rintro k ⟨hk,hinv⟩;refine aN ?_;refine af ⟨_,rfl,fun h=>?_,fun h=>?_⟩
  .have ao:k<x.aL.length:=by simpa using h
   have hx:x.aL[k]? =some x.aL[k]:=aM ao;have o8:=o8 (hw _ (cy ao));generalize x.aL[k]=w at hx o8;have J:qa f x.aL k w=(isName w.name&&(cu f w.to&& !(x.aL.take k).any fun v=>v.name.toList==w.name.toList)):=rfl;have iC:= @M w.to;generalize isName w.name=a at o8 J;generalize cu f w.to=b at iC J;refine aB (dE abh (bB ?_));refine cl o8 (bB ?_);refine bt rfl rfl (yF rfl rfl V.h V.h (Dw) oN) (fun hc=>⟨ak,(yG V.h (Dw) oN)⟩) (ag ?_);refine gc iC (ag ?_);refine a8 bc (cx rfl (fun hp=>?_) fun hp=>bP (az ?_))
   .refine aB (aj (SS ?_));refine af (bX (br (aR (av (d:=B false) rfl ?_))))
    have:qa f x.aL k w=false:=by
     rw[J];revert hp;cases a<;>cases b<;>simp
    rw[Js hx this]
   have dH:a=true/\b=true:=by revert hp;cases a<;>cases b<;>simp
   obtain⟨rfl,rfl⟩:=dH;refine SS ?_
   refine af (cQ (α:=Nat) (fun q=>⟨aD [(2,.pt (bW f hd)),(3,.pt (bh x)),(5,I k),(6,I q)],fun _=>none,2⟩)
    (fun q=>q<=k/\∀ j y,j<q->x.aL[j]? =some y->(y.name.toList==w.name.toList)=false) (fun q=>k - q) 0 (ap eH) ⟨oG,fun j y hj=>by omega⟩ ?_)
   rintro q ⟨hq,nk⟩;refine aq ?_;refine af ⟨_,rfl,fun h=>?_,fun h=>?_⟩
   .have Be:q<k:=by simpa using h
    have hy:x.aL[q]? =some x.aL[q]:=aM oG;generalize x.aL[q]=y at hy;refine dE Z5 (aJ ?_);refine aq ?_;refine aI (Lc rfl rfl) ak trivial (a8 bc (aw rfl (fun hp=>?_) fun hp=>?_))
    .refine ws (SS ?_);refine af (aY (br (br (aR (av (d:=B false) rfl ?_)))))
     have:qa f x.aL k w=false:=by
      rw[J,List.any_eq_true.2 ⟨y,bU (i:=q) (by rw[List.getElem?_take,if_pos Be,hy]),hp⟩];rfl
     rw[Js hx this]
    .refine bS (aq ?_);refine af (aK (q+1) (ap eH) ⟨oG,fun j z hj C=>?_⟩ oG);by_cases e:j=q
     .subst e;rw[hy] at C;cases C;exact hp
     .exact nk j z oG C
   .have a9:¬ q<k:=by simpa using h
    have:q=k:=by omega
    subst this;show AOps _ _ _ _ _ _ _ _ _;refine aq ?_;refine af (aK (q+1) (ap eH) ⟨oG,fun j z hj C=>?_⟩ oG);by_cases e:j=q
    .subst e;rw[hx] at C;cases C;rw[J]
     have:((x.aL.take j).any fun v=>v.name.toList==w.name.toList)=false:=List.any_eq_false.2 fun v hv=>by
      obtain⟨i,hi⟩:=cC hv;have mi:i<j:=by have:=(bw.1 hi).1;simp at this;omega
      rw[List.getElem?_take,if_pos mi] at hi;rw[nk i v mi hi];simp
     rw[this];rfl
    .exact hinv j z oG C
  .have a9:¬ k<x.aL.length:=by simpa using h
   exact⟨.forget _ _ _ _ fun _=>.inr rfl,fun j y hy=>hinv j y (by have:=(bw.1 hy).1;omega) hy⟩
 .rintro s ⟨hg,bC⟩;refine⟨_,hg,aj ?_⟩;refine SS ?_;refine af (av (d:=B true) rfl ?_);rw[Pp bC]
theorem Iu{x:Argus.End}(Dn:x.name.size<=maxLen)(hw:∀ w∈x.aL,w.name.size<=maxLen)(hn:f.blocks.length<=1200):PCall prog 172 [.agg (bW f hd),.agg (bh x)] (B (ic f x)):=by
 have iC:∀ {b:Int},PCall prog 170 [.agg (bW f hd),I b] (B (cu f b)):=fun {b}=>iC ht dP hn;have bT:∀ {r k:Int},PCall prog 215 [.agg (bW f hd),I r,U8 k] (B (bp f r k)):=fun {r k}=>bT ht dP;have vC:∀ {l:List Int},PCall prog 217 [.agg (bW f hd),au l] (B (gX f.al l)):=fun {l}=>vC ht dP;have Na:PCall prog 220 [.agg (bW f hd),.agg (bu x.ins)] (B (lG f x.ins)):=Na ht dP;have Ff:=Ff ht dP hw hn;have AM:=AM Dn;have o8:=o8 Dn;have a7:∀ a∈[D.agg (bW f hd),.agg (bh x)],Tr a:=.cons (.agg (wS ht f)) (.cons (.agg (lR x)) .nil);refine bg ahM a7 (Tr.s _) ?_;rw[ahN];refine ws (aq ?_);refine af (az (aq ?_));refine cA (jh (cs':=aH _) rfl rfl rfl rfl) ak (dt V.h V.h (by first|(simp;done)|exact⟨rfl,bD rfl⟩|(simp;omega)) (by rfl)) ?_;refine af (aW (bG [(0,bW f hd,208),(1,bh x,69),(2,aH f,26)] eH (l:=[(2,.pt (bW f hd)),(3,.pt (bh x)),(5,.pt (aH f))]) eH) (aB (aj (ag ?_))));refine af (oD (ws (ag ?_)));refine af (aw rfl (fun h1=>?_) fun h1=>?_)
 .have h1:x.kind=1:=by simpa using h1
  have fq:PCall prog 219 [.agg (bh x),S ⟨#[116]⟩] (B (ei x [116])):=fq oC;refine ws (SS ?_);refine cl fq (aP ?_);refine gc iC (ag ?_);refine af (aY (bO (aR (av (d:=.s (.bool _)) rfl ?_))));have e:ic f x=(ei x [116]&&cu f x.to):=by rw[ic,if_pos h1]
  rw[e];simp only[ir,Am,Bool.and_assoc,aX,ib]
 have h1:¬ x.kind=1:=by simpa using h1
 refine ws (ag ?_);refine af (aw rfl (fun h2=>?_) fun h2=>?_)
 .have h2:x.kind=2:=by simpa using h2
  have fq:PCall prog 219 [.agg (bh x),S ⟨#[97,116,101]⟩] (B (ei x [97,116,101])):=fq oC;refine ws (SS ?_);refine cl fq (aP ?_);refine gc bT (aN ?_);refine gc iC (aN ?_);refine gc iC (ag ?_);refine af (aY (bO (aR (av (d:=.s (.bool _)) rfl ?_))));have e:ic f x=(ei x [97,116,101]&&(bp f x.a 119&&(cu f x.to&&cu f x.gD))):=by rw[ic,if_neg h1,if_pos h2]
  rw[e];simp only[ir,Am,Bool.and_assoc,aX,ib]
 have h2:¬ x.kind=2:=by simpa using h2
 refine ws (ag ?_);refine af (aw rfl (fun h3=>?_) fun h3=>?_)
 .have h3:x.kind=3:=by simpa using h3
  have fq:PCall prog 219 [.agg (bh x),S ⟨#[97]⟩] (B (ei x [97])):=fq oC;have hv:ic f x=if f.iter=true\/f.result=0 then ei x [97]&&aX x.a (-1) else ei x [97]&&(bp f x.a 118&&aX (cG f.al x.a) f.result):=by rw[ic,if_neg h1,if_neg h2,if_pos h3]
  rw[hv];clear hv;refine aB (aj (dz ?_));refine af (cx rfl (fun h=>?_) fun h=>bP ?_)
  .have qq:f.iter=true\/f.result=0:=by revert h;cases f.iter<;>simp
   rw[if_pos qq];refine aB (aj (SS ?_));refine cl fq (bB ?_);refine af (bX (bO (aR (av (d:=.s (.bool _)) rfl ?_))));simp only[ir,aX,ib]
  .have qq:¬ (f.iter=true\/f.result=0):=by revert h;cases f.iter<;>simp
   rw[if_neg qq];clear qq h;obtain⟨xk,X,xb,xt,xe,xn,xi,xs,xw,xo⟩:=x;dsimp only at*
   refine dE Z6 ?_;generalize ei _ [97]=bv at fq;cases bv with
   |false=>
    refine SS ?_;refine cl fq (SS ?_);(iterate 4 refine z fun _ _=>?_);refine ag ?_;(iterate 9 refine z fun _ _=>?_);refine ag ?_;exact a8 bc (aY (bO (aR (av rfl rfl))))
   |true=>
    have M:= @bT X 118;cases hv:bp f X 118 with
    |false=>
     rw[hv] at M;have bT:=M;refine SS ?_;refine cl fq (aP ?_);refine gc bT (ag ?_);(iterate 9 refine z fun _ _=>?_);refine ag ?_;exact a8 bc (aY (bO (aR (av rfl rfl))))
    |true=>
     rw[hv] at M;have bT:=M;obtain⟨i,hi,rfl⟩:=lP (pJ hv);have hx:f.al[i]? =some f.al[i]:=aM hi;have F7:=uN hx;rw[F7];generalize f.al[i]=y at hx;refine SS ?_;refine cl fq (aP ?_);refine gc bT (aJ ?_);refine aP ?_;refine a8 bc (aY (bO (aR (av (d:=.s (.bool _)) rfl ?_))));rfl
 have h3:¬ x.kind=3:=by simpa using h3
 refine ws (ag ?_);refine af (aw rfl (fun h4=>?_) fun h4=>?_)
 .have h4:x.kind=4:=by simpa using h4
  have fq:PCall prog 219 [.agg (bh x),S ⟨#[110]⟩] (B (ei x [110])):=fq oC;refine ws (SS ?_);refine cl fq (aq ?_);refine gc o8 (ag ?_);refine af (aY (bO (aR (av (d:=.s (.bool _)) rfl ?_))));have e:ic f x=(ei x [110]&&isName x.name):=by rw[ic,if_neg h1,if_neg h2,if_neg h3,if_pos h4]
  rw[e];simp only[ir,Am,Bool.and_assoc,aX,ib]
 have h4:¬ x.kind=4:=by simpa using h4
 refine ws (ag ?_);refine af (aw rfl (fun h5=>?_) fun h5=>?_)
 .have h5:x.kind=5:=by simpa using h5
  have fq:PCall prog 219 [.agg (bh x),S ⟨#[116,105,104]⟩] (B (ei x [116,105,104])):=fq oC;refine ws (SS ?_);refine cl fq (aP ?_);refine gc Na (aN ?_);refine gc iC (aP ?_);refine gc Ff (ag ?_);refine af (aY (bO (aR (av (d:=.s (.bool _)) rfl ?_))));have e:ic f x=(ei x [116,105,104]&&(lG f x.ins&&(cu f x.to&&nD f x))):=by rw[ic,if_neg h1,if_neg h2,if_neg h3,if_neg h4,if_pos h5]
  rw[e];simp only[ir,Am,Bool.and_assoc,aX,ib]
 have h5:¬ x.kind=5:=by simpa using h5
 refine ws (ag ?_);refine af (aw rfl (fun C=>?_) fun C=>?_)
 .have C:x.kind=6:=by simpa using C
  have fq:PCall prog 219 [.agg (bh x),S ⟨#[97,116,110,108,104]⟩] (B (ei x [97,116,110,108,104])):=fq oC;refine ws (SS ?_);refine cl fq (aq ?_);refine gc AM (aJ ?_);refine ag ?_;refine gc vC (aJ ?_);refine gc bT (bB ?_);refine gc iC (aP ?_);refine gc Ff (ag ?_);refine af (aY (bO (aR (av (d:=.s (.bool _)) rfl ?_))));have e:ic f x=(ei x [97,116,110,108,104]&&(lX x.name&&(decide ((x.args.length:Int)<=6)&&(gX f.al x.args&&((aX x.a (-1)||bp f x.a 118)&&(cu f x.to&&nD f x)))))):=by rw[ic,if_neg h1,if_neg h2,if_neg h3,if_neg h4,if_neg h5,if_pos C]
  rw[e];simp only[ir,Am,Bool.and_assoc,aX,ib]
 have C:¬ x.kind=6:=by simpa using C
 refine ws (ag ?_);refine af (aw rfl (fun J=>?_) fun J=>?_)
 .have J:x.kind=7:=by simpa using J
  have fq:PCall prog 219 [.agg (bh x),S ⟨#[97,116,110,108]⟩] (B (ei x [97,116,110,108])):=fq oC;refine ws (SS ?_);refine cl fq (aq ?_);refine gc AM (aJ ?_);refine ag ?_;refine gc vC (aN ?_);refine gc bT (aN ?_);refine gc iC (ag ?_);refine af (aY (bO (aR (av (d:=.s (.bool _)) rfl ?_))));have e:ic f x=(ei x [97,116,110,108]&&(lX x.name&&(decide ((x.args.length:Int)<=6)&&(gX f.al x.args&&(bp f x.a 105&&cu f x.to))))):=by rw[ic,if_neg h1,if_neg h2,if_neg h3,if_neg h4,if_neg h5,if_neg C,if_pos J]
  rw[e];simp only[ir,Am,Bool.and_assoc,aX,ib]
 have J:¬ x.kind=7:=by simpa using J
 refine ws (ag ?_);refine af (aw rfl (fun h8=>?_) fun h8=>?_)
 .have h8:x.kind=8:=by simpa using h8
  have fq:PCall prog 219 [.agg (bh x),S ⟨#[97,98,116,101,104]⟩] (B (ei x [97,98,116,101,104])):=fq oC;refine ws (SS ?_);refine cl fq (aP ?_);refine gc bT (aN ?_);refine gc bT (aN ?_);refine gc iC (aN ?_);refine gc iC (aP ?_);refine gc Ff (ag ?_);refine af (aY (bO (aR (av (d:=.s (.bool _)) rfl ?_))));have e:ic f x=(ei x [97,98,116,101,104]&&(bp f x.a 105&&(bp f x.b 118&&(cu f x.to&&(cu f x.gD&&nD f x))))):=by rw[ic,if_neg h1,if_neg h2,if_neg h3,if_neg h4,if_neg h5,if_neg C,if_neg J,if_pos h8]
  rw[e];simp only[ir,Am,Bool.and_assoc,aX,ib]
 have h8:¬ x.kind=8:=by simpa using h8
 refine ws (ag ?_);refine af (aw rfl (fun h9=>?_) fun h9=>?_)
 .have h9:x.kind=9:=by simpa using h9
  have fq:PCall prog 219 [.agg (bh x),S ⟨#[97,116]⟩] (B (ei x [97,116])):=fq oC;have hv:ic f x=(ei x [97,116]&&(f.iter&&(bp f x.a 118&&(aX (cG f.al x.a) f.result&&cu f x.to)))):=by rw[ic,if_neg h1,if_neg h2,if_neg h3,if_neg h4,if_neg h5,if_neg C,if_neg J,if_neg h8,if_pos h9]
  rw[hv];clear hv;obtain⟨xk,X,xb,xt,xe,xn,xi,xs,xw,xo⟩:=x;dsimp only at*
  refine dE Z7 ?_;generalize ei _ [97,116]=bv at fq;have M:= @bT X 118;have kb:= @iC xt;generalize cu f xt=bb at kb;have iC:=kb;cases bv with
  |false=>
   refine SS ?_;refine cl fq (SS ?_);(iterate 2 refine z fun _ _=>?_);refine ag ?_;(iterate 4 refine z fun _ _=>?_);refine ag ?_;(iterate 9 refine z fun _ _=>?_);refine ag ?_;(iterate 4 refine z fun _ _=>?_);refine ag ?_;exact a8 bc (aY (bO (aR (av rfl rfl))))
  |true=>
   obtain⟨fnm,fi,fa,fr,fg,fs,fz,fb⟩:=f;dsimp only at*
   cases fi with
   |false=>
    refine SS ?_;refine cl fq (aN ?_);(iterate 4 refine z fun _ _=>?_);refine ag ?_;(iterate 9 refine z fun _ _=>?_);refine ag ?_;(iterate 4 refine z fun _ _=>?_);refine ag ?_;exact a8 bc (aY (bO (aR (av rfl rfl))))
   |true=>
    cases hv:bp ⟨fnm,true,fa,fr,fg,fs,fz,fb⟩ X 118 with
    |false=>
     rw[hv] at M;have bT:=M;refine SS ?_;refine cl fq (bK ?_);refine gc bT (ag ?_);(iterate 9 refine z fun _ _=>?_);refine ag ?_;(iterate 4 refine z fun _ _=>?_);refine ag ?_;exact a8 bc (aY (bO (aR (av rfl rfl))))
    |true=>
     rw[hv] at M;have bT:=M;obtain⟨i,hi,rfl⟩:=lP (pJ hv);have hx:fg[i]? =some fg[i]:=aM hi;have F7:=uN hx;rw[F7];generalize fg[i]=y at hx;cases zV:decide (y=fr) with
     |false=>
      have dY:(y==fr)=false:=by simpa using zV
      refine SS ?_;refine cl fq (bK ?_);refine gc bT (aJ ?_);refine aP ?_;(iterate 4 refine z fun _ _=>?_);refine ag ?_;refine a8 bc (aY (bO (aR (av (d:=.s (.bool _)) rfl ?_))));simp[aX,zV]
     |true=>
      have dY:(y==fr)=true:=by simpa using zV
      refine SS ?_;refine cl fq (bK ?_);refine gc bT (aJ ?_);refine dz ?_;refine gc iC (ag ?_);refine a8 bc (aY (bO (aR (av (d:=.s (.bool _)) rfl ?_))));simp[aX,zV]
 have h9:¬ x.kind=9:=by simpa using h9
 refine nI (aj (SS ?_));refine af (av (d:=.s (.bool _)) rfl ?_);rw[ic,if_neg h1,if_neg h2,if_neg h3,if_neg h4,if_neg h5,if_neg C,if_neg J,if_neg h8,if_neg h9]
end
theorem lJ{f:aG}{b:Nat}{x:Argus.b7}(hx:f.blocks[b]? =some x)(hw:x.fin.aL.length<=100):PCall prog 76 [.agg (aH f),I b] (au (qV x.fin)):=by
 have sM:=sM (x:=x.fin) oG;have M:=DB x.fin;refine bg ak1 (.cons (.agg (iq f)) (.cons (.s _) .nil)) (cL _) ?_;rw[ak2];refine az (ag ?_);refine af (aW (bG [(0,aH f,26)] eH (l:=[(1,I b),(2,.pt (aH f))]) eH) (az (SS ?_)));refine af ⟨_,(Ghost.nilrow _ _ _ 5 3 rfl).trans (bG [(1,[],3)] ⟨up_same _ _ _,trivial⟩ (l:=[(1,I b),(2,.pt (aH f)),(5,au [])]) ⟨rfl,rfl,ly (sz:=1) c3 rfl,trivial⟩),aj ?_⟩;unfold qV;generalize dW x.fin=l at sM M;refine bB ?_;refine cl sM (SS ?_);refine af (aB (az (SS ?_)))
 refine af (bR (fun s=>Ghost prog s ⟨aD [(5,au (tR l))],fun _=>none,2⟩) (cQ (α:=Nat) (fun k=>⟨aD [(5,au (tR (l.take k))),(6,au l),(7,I k)],fun _=>none,2⟩)
  (fun k=>k<=l.length) (fun k=>l.length - k) 0 (ap eH) oG ?_) ?_)
 .intro k hk;have J:=(DE (l:=l.take k) (z:=[]) .nil).2.2;have C:∀ t,l[k]? =some t->tR (l.take (k+1))=kz (tR (l.take k)) t:=fun t ht=>oB ht;have X:k=l.length->tR (l.take k)=tR l:=fun e=>by rw[e,List.take_length]
  change (tR (l.take k)).length<=_ at J
  rw[List.length_take,List.length_nil] at J;generalize tR (l.take k)=c at J C X;refine aP ?_;refine af ⟨_,rfl,fun h=>?_,fun h=>?_⟩
  .have ao:k<l.length:=by simpa using h
   have hy:l[k]? =some l[k]:=aM ao;have C:=C _ hy;generalize l[k]=t at hy C;have OE:=OE (l:=c) (n:=t) oG;refine ff (aN ?_);refine cl OE (SS ?_);refine af (aq ?_);refine af (aK (k+1) (ap ⟨?_,rfl,rfl,trivial⟩) oG oG);rw[C];rfl
  .have a9:¬ k<l.length:=by simpa using h
   rw[<- X oG];exact ap eH
 .intro s hg;refine⟨_,hg,aj ?_⟩;refine ag ?_;exact af (av rfl rfl)
theorem sW{f:aG}{n:Nat}(hn:f.blocks.length=n)(jd:n<=100000)(hw:∀ b∈f.blocks,b.fin.aL.length<=9)(ht:∀ b∈f.blocks,∀ t∈qV b.fin,0<=t/\t<n):
 PCall prog 56 [.agg (aH f)] (bx (mL f.blocks)):=by
 have a7:∀ a∈[D.agg (aH f)],Tr a:=.cons (.agg (iq f)) .nil;refine bg ak3 a7 (yu _) ?_;rw[ak4];refine az (ag ?_);refine af (aW (bG [(0,aH f,26)] eH (l:=[(1,.pt (aH f))]) eH) (az (aN ?_)));have dn:((f.blocks.length:Nat):Int).toNat=n:=hn;refine af (aW (aQ (l:=[(1,.pt (aH f)),(3,.rs 1 0 n)]) (ml:=[(1,.cells (replicate n .z) 27)]) ⟨rfl,congrArg (fun k=>D.rs 1 0 k) dn,trivial⟩ ⟨?_,trivial⟩) (aB (az ?_)))
 .exact congrArg (fun c=>some (Row.cells c 27)) ((congrArg (fun k=>replD k [D.z]) dn).trans (BJ n))
 refine SS ?_
 refine af (bR (fun s=>∃ m nx ρ,Ghost prog s ⟨aD [(3,.rs 1 0 n)],m,nx⟩/\eP m nx 1 n 27 3 ρ (fun i=>(lY f.blocks n i).map I)) (cQ (α:=Nat×Mem×Nat)
  (fun k=>⟨aD [(1,.pt (aH f)),(3,.rs 1 0 n),(4,I k.1)],k.2.1,k.2.2⟩)
  (fun k=>k.1<=n/\(∃ ρ,eP k.2.1 k.2.2 1 n 27 3 ρ (fun i=>(lY f.blocks k.1 i).map I))/\∀ i,(lY f.blocks k.1 i).length<=12*k.1) (fun k=>n - k.1) (0,bf [(1,.cells (replicate n .z) 27)],2)
  (ap eH) ⟨Nat.zero_le _,⟨fun _=>0,Kn (show 1<2 by decide) rfl⟩,fun _=>bF _⟩ ?_) ?_)
 .rintro⟨k,m,nx⟩ ⟨hk,⟨ρ,C⟩,hlen⟩;dsimp only at hk C hlen ⊢;have ax:=C.row;have cV:=C.qy;refine aN ?_;refine af ⟨_,rfl,fun h=>?_,fun h=>?_⟩
  .have ao:k<n:=by simpa[hn] using h
   have hx:f.blocks[k]? =some f.blocks[k]:=aM oG;have cz:f.blocks[k]∈f.blocks:=cy _;have lJ:=lJ hx (by have:=hw _ cz;omega);generalize f.blocks[k]=x at hx cz lJ
   have cg:lY f.blocks (k+1)=(qV x.fin).foldl (dM k) (lY f.blocks k):=by
    rw[lY,List.range_succ,List.foldl_append];show DV f.blocks _ k=_;rw[DV,hx];rfl
   generalize lY f.blocks k=L0 at C hlen ax cg;have dU:=ht x cz;have jg:=abi x.fin;have I5:=hw x cz;generalize qV x.fin=l at lJ dU jg cg;refine ws (ag ?_);refine cl lJ (SS ?_);refine af (az (SS ?_))
   refine af (cQ (α:=Nat×Mem×Nat)
    (fun j=>⟨aD [(1,.pt (aH f)),(3,.rs 1 0 n),(4,I k),(5,au l),(6,I j.1)],j.2.1,j.2.2⟩)
    (fun j=>j.1<=l.length/\(∃ ρ,eP j.2.1 j.2.2 1 n 27 3 ρ (fun i=>((l.take j.1).foldl (dM k) L0 i).map I))/\∀ i,((l.take j.1).foldl (dM k) L0 i).length<=12*k+j.1) (fun j=>l.length - j.1) (0,m,nx)
    (ap eH) ⟨Nat.zero_le _,⟨ρ,C⟩,hlen⟩ ?_)
   clear C ax hlen;rintro⟨j,m,nx⟩ ⟨hj,⟨ρ,C⟩,hlen⟩;dsimp only at hj C hlen ⊢;have ax:=C.row;have cV:=C.qy;have X:∀ t,l[j]? =some t->(l.take (j+1)).foldl (dM k) L0=dM k ((l.take j).foldl (dM k) L0) t:=fun t ht=>oB ht;have p8:j=l.length->(l.take j).foldl (dM k) L0=lY f.blocks (k+1):=fun e=>by rw[cg,df oG]
   generalize (l.take j).foldl (dM k) L0=L at C hlen ax X p8;refine aP ?_;refine af ⟨_,rfl,fun h=>?_,fun h=>?_⟩
   .have ze:j<l.length:=by simpa using h
    have s5:l[j]? =some l[j]:=aM ze;have pF:=dU _ (cy ze);generalize l[j]=t at s5 pF;obtain⟨i,rfl⟩:=cU pF.1;have J:i<n:=by omega
    have hL:=hlen i;have X:(l.take (j+1)).foldl (dM k) L0=up L i (L i++[(k:Int)]):=X _ s5
    have tM:∀ i,((l.take (j+1)).foldl (dM k) L0 i).length<=12*k+(j+1):=fun a=>by
     rw[X];exact Gt (t:=(i:Int)) hlen a
    have zR:(fun a=>((l.take (j+1)).foldl (dM k) L0 a).map I)=up (fun a=>(L a).map I) i ((L i++[(k:Int)]).map I):=by rw[X];exact Ll
    obtain⟨cs,kd⟩:=G5 (ρ:=ρ) (L:=fun i=>(L i).map I) J;refine pM acI ?_;by_cases hz:L i=[]
    .have uB:jc (ρ i) ((L i).map I)=.z:=by rw[hz];rfl
     rw[uB] at kd;refine aJ ?_;refine bK ?_;refine a8 bc (aq ?_);refine af (aK (j+1,up (up (up m nx (some (.cells [I k] 3))) (nx+1) (some (.cells [I k] 3))) 1 (some (.cells ((jD ρ (fun i=>(L i).map I) n).set i (.rs (nx+1) 0 1)) 27)),nx+2) (ap eH) ⟨oM,⟨up ρ i (nx+1),?_⟩,tM⟩ oM);dsimp only;rw[zR];refine C.kG J oS oG oG ?_ ?_ (fun q hq s9 _=>?_)
     .rw[hz];exact up_same _ _ _
     .rw[hz];exact aC oG (up_same _ _ _)
     .exact aC oG (aC oG (aC oG rfl))
    .have M:(L i).map I≠[]:=by simpa using hz
     have uB:jc (ρ i) ((L i).map I)=.rs (ρ i) 0 (L i).length:=by rw[p9 M,List.length_map]
     rw[uB] at kd;have di:=C.sK i J M;have Bf:=C.lt i J M;have Oj:=C.ne i J M;refine aJ ?_;refine bK ?_;refine a8 bc (aq ?_);refine af (aK (j+1,up (up (up (up m nx (some (.cells [I k] 3))) (ρ i) none) (nx+1) (some (.cells ((L i).map I++[I k]) 3))) 1 (some (.cells ((jD ρ (fun i=>(L i).map I) n).set i (.rs (nx+1) 0 ((L i).length+1))) 27)),nx+2) (ap eH) ⟨oM,⟨up ρ i (nx+1),?_⟩,tM⟩ oM);dsimp only;rw[zR];refine C.kG J oS oG oG ?_ ?_ (fun q hq s9 nk=>?_)
     .rw[List.length_map,List.length_append];exact up_same _ _ _
     .rw[List.map_append];exact aC oG (up_same _ _ _)
     .have:=nk M;exact aC oG (aC oG (aC oG (aC oG rfl)))
   .have a9:¬ j<l.length:=by simpa using h
    have vl:=p8 oG;subst vl;show AOps _ _ _ _ _ _ _ _ _;refine aq ?_;refine af (aK (k+1,m,nx) (ap eH) ⟨oM,⟨ρ,C⟩,fun i=>by have:=hlen i;dsimp only at this ⊢;omega⟩ oM)
  .have a9:¬ k<n:=by simpa[hn] using h
   have:k=n:=by omega
   subst this;exact⟨m,nx,ρ,ap eH,C⟩
 .rintro s ⟨m,nx,ρ,hg,C⟩;have qB:¬ ∃ i,i<n/\(lY f.blocks n i).map I≠[]/\ρ i=1:=fun⟨i,h1,h2,h3⟩=>C.ne i h1 h2 h3;refine⟨_,hg.trans (GJ (l:=[(3,.rs 1 0 n)]) (ml:=[]) (fun r=>∃ i,i<n/\(lY f.blocks n i).map I≠[]/\ρ i=r) C (fun _=>.map) c3 (fun i h1 h2=>⟨i,h1,h2,rfl⟩) qB ⟨rfl,trivial⟩ (fun x hx=>?_) trivial (fun x hx=>by cases hx)),az ?_⟩
  .simp at hx;subst hx;exact .rs qB
  refine ag ?_;refine af (aW (bG [(1,_,27)] eH (l:=[(2,bx (mL f.blocks))]) ⟨?_,trivial⟩) (av rfl rfl));show sub (fz0 1 _ (prog.cellsOf 27)) (D.rs 1 0 n)=_;rw[nw (by rw[Bd];simp),G4,mL,hn]
theorem CH{f:aG}(hs:yT f)(hw:∀ b∈f.blocks,b.fin.aL.length<=9):PCall prog 120 [.agg (aH f)] (B (wy f)):=by
 have CG:=CG hs;refine bg ahO (.cons (.agg (iq f)) .nil) (Tr.s _) ?_;rw[ahP];refine az (ag ?_);refine af (aW (bG [(0,aH f,26)] eH (l:=[(1,.pt (aH f))]) eH) (aj ?_));cases hh:sy f with
 |false=>
  rw[hh] at CG;refine SS ?_;refine cl CG (SS ?_);refine af (aB (aj (ag ?_)));refine af (dN (aB (aj (SS ?_))));refine af (bX (av (d:=B false) rfl ?_));rw[wy,hh];rfl
 |true=>
  rw[hh] at CG;have hF:wy f=(Hn f&&(range f.blocks.length).all (sO f)):=by rw[wy,hh];rfl
  rw[hF];clear hF;unfold sy at hh;simp only[aO] at hh;obtain⟨h1,h2,_⟩:=hh;unfold oJ at h1;simp only[aO,Bool.not_eq_true',decide_eq_false_iff_not,lh] at h1;have hN:f.blocks.length<=1200:=by omega
  have hR:f.al.length<=1200:=by omega
  have fO:f.aZ.length<=60:=by omega
  have zW:∀ k∈f.aZ,k=1\/k=2:=fun k hk=>by
   unfold sc at h2;simp only[aO] at h2;have h3:=h2.2.2.1;simp only[fx,Bool.not_eq_true',List.any_eq_false] at h3;have:=h3 k hk;simp[nB] at this;omega
  clear h1 h2;refine SS ?_;refine cl CG (SS ?_);refine af (aB (aj (ag ?_)));refine af (gS (bP (az (SS ?_))));refine aI (GW (cs:=bW _ _) V.h V.h V.h rfl rfl) ak ⟨V.h,V.h⟩ (SS ?_);refine cA (jh (cs':=bW _ _) rfl rfl rfl rfl) ak (dt V.h V.h (by first|(simp;done)|exact⟨rfl,bD rfl⟩|(simp;omega)) (by rfl)) ?_;refine af (aW (aQ (l:=[(1,.pt (aH f)),(4,.rp 1 0)]) (ml:=[(1,.cells (bW f .z) 208)]) eH eH) (aB (az (SS ?_))))
  refine af (bR (fun s=>Ghost prog s ⟨aD [(1,.pt (aH f)),(4,.rp 1 0)],bf [(1,.cells (bW f .z) 208)],2⟩/\∀ (j:Nat) x,f.blocks[j]? =some x->(dW x.fin).all (cu f)=true) (cQ (α:=Nat) (fun k=>⟨aD [(1,.pt (aH f)),(4,.rp 1 0),(5,I k)],bf [(1,.cells (bW f .z) 208)],2⟩)
   (fun k=>k<=f.blocks.length/\∀ j x,j<k->f.blocks[j]? =some x->(dW x.fin).all (cu f)=true) (fun k=>f.blocks.length - k) 0 (aQ eH eH) ⟨oG,fun j y hj=>by omega⟩ ?_) ?_)
  .rintro k ⟨hk,hinv⟩;refine aN ?_;refine af ⟨_,rfl,fun h=>?_,fun h=>?_⟩
   .have ao:k<f.blocks.length:=by simpa using h
    have hx:f.blocks[k]? =some f.blocks[k]:=aM ao;have Yv:=hw _ (cy ao);generalize f.blocks[k]=x at hx Yv;have sM:=sM (x:=x.fin) oG;have hle:=DB x.fin;have cq:(dW x.fin).all (cu f)=false->Hn f=false:=fun h=>List.all_eq_false.2 ⟨x,bU hx,by simp[h]⟩
    have kO:(dW x.fin).all (cu f)=true->∀ j y,j<k+1->f.blocks[j]? =some y->(dW y.fin).all (cu f)=true:=fun hq j y hj hy=>by
     by_cases e:j=k
     .subst e;rw[hx] at hy;cases hy;exact hq
     .exact hinv j y oG hy
    generalize dW x.fin=l at sM hle cq kO;refine ws (bB ?_);refine cl sM (SS ?_);refine af (az (SS ?_))
    refine af (cQ (α:=Nat) (fun q=>⟨aD [(1,.pt (aH f)),(4,.rp 1 0),(5,I k),(6,au l),(7,I q)],bf [(1,.cells (bW f .z) 208)],2⟩)
     (fun q=>q<=l.length/\∀ j y,j<q->l[j]? =some y->cu f y=true) (fun q=>l.length - q) 0 (aQ eH eH) ⟨oG,fun j y hj=>by omega⟩ ?_)
    rintro q ⟨hq,nk⟩;refine aP ?_;refine af ⟨_,rfl,fun h=>?_,fun h=>?_⟩
    .have Dq:q<l.length:=by simpa using h
     have hy:l[q]? =some l[q]:=aM Dq;generalize l[q]=y at hy;have iC:PCall prog 170 [.agg (bW f .z),I y] (B (cu f y)):=iC HQ rfl hN;refine dE Z8 (aI (ep (vs:=bW _ _) rfl rfl V.h V.h rfl) ak (ez V.h V.h (by first|(simp;done)|omega|exact bD rfl)) ?_);refine aP ?_;refine cl iC (SS ?_);refine a8 bc (aj (ag ?_));refine af (aw rfl (fun hp=>?_) fun hp=>?_)
     .refine ws (SS ?_);refine af (aY (br (br (aR (av (d:=B false) rfl ?_)))));rw[cq (List.all_eq_false.2 ⟨y,bU hy,by simpa using hp⟩)];rfl
     .refine bS (aq ?_);refine af (aK (q+1) (aQ eH eH) ⟨oG,fun j z hj hz=>?_⟩ oG);by_cases e:j=q
      .subst e;rw[hy] at hz;cases hz;simpa using hp
      .exact nk j z oG hz
    .have a9:¬ q<l.length:=by simpa using h
     show AOps _ _ _ _ _ _ _ _ _;refine aq ?_;refine af (aK (k+1) (aQ eH eH) ⟨oG,kO (bj.2 fun y hy=>?_)⟩ oG);obtain⟨j,hj⟩:=cC hy;exact nk j y (by have:=(bw.1 hj).1;omega) hj
   .have a9:¬ k<f.blocks.length:=by simpa using h
    exact⟨aQ eH eH,fun j y hy=>hinv j y (by have:=(bw.1 hy).1;omega) hy⟩
  rintro s ⟨hg,M⟩
  have hE:Hn f=true:=bj.2 fun x hx=>by
   obtain⟨j,hj⟩:=cC hx;exact M j x hj
  rw[hE,Bool.true_and]
  have dU:∀ b∈f.blocks,∀ t∈qV b.fin,0<=t/\t<f.blocks.length:=fun b hb t ht=>by
   have:=bj.1 (bj.1 hE b hb) t (Qq.1 ht);rw[cu,lh] at this;omega
  have sW:=sW (f:=f) rfl oG hw dU;have my:∀ k,k<f.blocks.length->(mL f.blocks)[k]? =some (lY f.blocks f.blocks.length k):=fun k hk=>by simp[mL,hk]
  have Jd:(mL f.blocks).length<=100000:=by simp[mL];omega
  clear M hE dU;refine⟨_,hg,az ?_⟩;generalize hL:mL f.blocks=L at sW my Jd;clear hL;refine SS ?_;refine cl sW (SS ?_);refine cA (fG (d:=.sl _ _) (cs':=_) rfl rfl rfl rfl rfl) ak (dt V.h V.h (by first|(simp;done)|exact⟨rfl,bD rfl⟩|(simp;omega)) rfl) ?_;refine af (aW (bG [(1,bW f (bx L),208)] eH (l:=[(1,.pt (aH f)),(4,.pt (bW f (bx L)))]) eH) (az (aN ?_)));have dn:((f.al.length:Nat):Int).toNat=f.al.length:=bN _;refine af (aW (aQ (l:=[(1,.pt (aH f)),(4,.pt (bW f (bx L))),(9,.rs 2 0 f.al.length)]) (ml:=[(2,.cells ((replicate f.al.length false).map B) 4)]) ⟨rfl,rfl,congrArg (fun k=>D.rs 2 0 k) dn,trivial⟩ ⟨?_,trivial⟩) (aB (az ?_)))
  .exact congrArg (fun c=>some (Row.cells c 4)) ((congrArg (fun k=>replD k [B false]) dn).trans (wx _ false))
  rw[<- abj f.al.length f.blocks];refine SS ?_
  refine af (bR (fun s=>∃ N,Ghost prog s ⟨aD [],fun _=>none,N⟩/\(range f.blocks.length).all (sO f)=true) (cQ (α:=Nat×Nat) (fun q=>⟨aD [(1,.pt (aH f)),(4,.pt (bW f (bx L))),(9,.rs 2 0 f.al.length),(10,I q.1)],bf [(2,.cells ((mW f.al.length f.blocks q.1).map B) 4)],q.2⟩)
   (fun q=>q.1<=f.blocks.length/\3<=q.2/\(range q.1).all (sO f)=true) (fun q=>f.blocks.length - q.1) (0,3) (aQ eH eH) ⟨Nat.zero_le _,bF _,rfl⟩ ?_) ?_)
  .rintro⟨k,N⟩ ⟨hk,FR,M⟩;dsimp only at hk FR M ⊢;refine aN ?_;refine af ⟨_,rfl,fun h=>?_,fun h=>?_⟩
   .have ao:k<f.blocks.length:=by simpa using h
    have hx:f.blocks[k]? =some f.blocks[k]:=aM ao;have vL:=hs.en _ (cy ao)
    have C:sO f k=(!decide ((200:Int)<f.blocks[k].ins.length)&&((range f.blocks[k].ins.length).all (wT f k f.blocks[k].ins)&&(ic f f.blocks[k].fin&& !(f.blocks[k].fin.kind==7&&(lS f.blocks k).any (·==f.blocks[k].fin.a))))):=by
     unfold sO;simp only[getD_some hx]
    have cq:sO f k=false->(range f.blocks.length).all (sO f)=false:=fun hq=>j5 ao hq;have b8:=ad0 (R:=f.al.length) hx;have gU:=fun(i:Nat)=>acJ (R:=f.al.length) (i:=i) hx;have hA:=my k ao;have ue:∀ {y:bE},PCall prog 171 [.agg (bW f (bx L)),.agg (bu y),I k] (B (eD f k (lY f.blocks f.blocks.length k).length y)):=fun {y}=>ue hA fO zW Jd;have J:∀ j,wT f k f.blocks[k].ins j=(eD f k (lY f.blocks f.blocks.length k).length (f.blocks[k].ins.getD j eB)&& !(cr (f.blocks[k].ins.getD j eB)&&(decide (0<j)&& !cr (f.blocks[k].ins.getD (j - 1) eB)))):=fun j=>rfl;generalize lY f.blocks f.blocks.length k=A at ue J hA;generalize f.blocks[k]=x at hx vL C b8 gU J;have Iu:=Iu (f:=f) (yu L) rfl vL.1 vL.2 hN;refine ws (dz ?_);refine af (aB (aj (aq ?_)));refine af (cx rfl (fun hp=>?_) fun hp=>bP (aB (az ?_)))
    .refine aB (aj (SS ?_));refine af (bX (br (aR (av (d:=B false) rfl ?_))));rw[cq (by rw[C,hp];rfl)]
    rw[hp,Bool.not_false,Bool.true_and] at C;have fX:x.ins.length<=200:=by have:=of_decide_eq_false hp;omega
    refine SS ?_
    refine af (bR (fun s=>Ghost prog s ⟨aD [(1,.pt (aH f)),(4,.pt (bW f (bx L))),(9,.rs 2 0 f.al.length),(10,I k)],bf [(2,.cells ((mW f.al.length f.blocks k).map B) 4)],N⟩/\(range x.ins.length).all (wT f k x.ins)=true) (cQ (α:=Nat) (fun j=>⟨aD [(1,.pt (aH f)),(4,.pt (bW f (bx L))),(9,.rs 2 0 f.al.length),(10,I k),(11,iF x.ins),(12,I j)],bf [(2,.cells ((mW f.al.length f.blocks k).map B) 4)],N⟩)
     (fun j=>j<=x.ins.length/\(range j).all (wT f k x.ins)=true) (fun j=>x.ins.length - j) 0 (aQ eH eH) ⟨Nat.zero_le _,rfl⟩ ?_) ?_)
    .rintro j ⟨hj,wa⟩;refine aP ?_;refine af ⟨_,rfl,fun h=>?_,fun h=>?_⟩
     .have cV:j<x.ins.length:=by simpa using h
      have hy:x.ins[j]? =some x.ins[j]:=aM cV;have J:=J j;rw[getD_some hy] at J;have tS:wT f k x.ins j=false->(range f.blocks.length).all (sO f)=false:=fun hq=>cq (by rw[C,j5 cV hq];rfl);have X:wT f k x.ins j=true->(range (j+1)).all (wT f k x.ins)=true:=fun hq=>lN wa hq;generalize x.ins[j]=y at hy J;have ue:= @ue y;generalize eD f k A.length y=v at ue J;rw[J] at tS X;clear J;refine dE Z9 ?_;cases v with
      |false=>
       refine bB ?_;refine cl ue (aJ ?_);refine dz ?_;(iterate 5 refine z fun _ _=>?_);refine SS ?_;refine a8 bc (aw rfl (fun hp=>?_) fun hp=>(by cases hp));refine ws (SS ?_);refine af (aY (br (aR (br (aR (av (d:=B false) rfl ?_))))));rw[tS rfl]
      |true=>
       rw[Bool.true_and] at tS X;by_cases fF:y.op=19
       .have uC:cr y=true:=by simp[cr,fF]
        rw[uC,Bool.true_and] at tS X;have dY:(y.op==19)=true:=by simp[fF]
        cases j with
        |zero=>
         have eM:decide ((0:Int)<((0:Nat):Int))=false:=rfl;refine bB ?_;refine cl ue (aJ ?_);refine aP ?_;(iterate 7 refine z fun _ _=>?_);refine ag ?_;refine a8 bc (aw rfl (fun hp=>(by cases hp)) fun hp=>bS ?_);refine aq ?_;refine af (aK 1 (aQ eH eH) ⟨oG,X rfl⟩ oG)
        |succ i=>
         have eM:decide ((0:Int)<((i+1:Nat):Int))=true:=decide_eq_true oG;have m9:((i+1:Nat):Int) - 1=(i:Int)/\ -9223372036854775808<=(i:Int)/\(i:Int)<=9223372036854775807:=by omega
         have hz:x.ins[i]? =some x.ins[i]:=aM oG;rw[show i+1 - 1=i from rfl,getD_some hz] at tS X;generalize x.ins[i]=z at hz tS X;refine bB ?_;refine cl ue (aJ ?_);refine aJ ?_;refine aP ?_;refine a8 bc (aw rfl (fun hp=>?_) fun hp=>?_)
         .refine ws (SS ?_);refine af (aY (br (aR (br (aR (av (d:=B false) rfl ?_))))));rw[tS (by revert hp;simp[cr])]
         .refine bS (aq ?_);refine af (aK (i+1+1) (aQ eH eH) ⟨oG,X (by revert hp;simp[cr])⟩ oG)
       .have uC:cr y=false:=by simp[cr,fF]
        rw[uC,Bool.false_and] at tS X;have dY:(y.op==19)=false:=by simp[fF]
        refine bB ?_;refine cl ue (aJ ?_);refine dz ?_;(iterate 4 refine z fun _ _=>?_);refine ag ?_;refine a8 bc (aw rfl (fun hp=>(by cases hp)) fun hp=>bS ?_);refine aq ?_;refine af (aK (j+1) (aQ eH eH) ⟨oG,X rfl⟩ oG)
     .have a9:¬ j<x.ins.length:=by simpa using h
      have:j=x.ins.length:=by omega
      subst this;exact⟨aQ eH eH,wa⟩
    rintro s ⟨hg,J⟩;rw[J,Bool.true_and] at C;refine⟨_,hg,az ?_⟩;clear hg ue J hA;obtain⟨aoI,xk,xa,xb,xt,xe,xn,OM,xs,xw,xo⟩:=x;dsimp only at*
    refine dz ?_;refine cA (jh (cs':=bh _) rfl rfl (up_same _ _ _) rfl) ak (dt V.h V.h (by first|(simp;done)|exact⟨rfl,bD rfl⟩|(simp;omega)) (by rfl)) ?_;refine af (aW (lO (i:=N) (l:=[(1,.pt (aH f)),(4,.pt (bW f (bx L))),(9,.rs 2 0 f.al.length),(10,I k),(13,.pt (bh ⟨xk,xa,xb,xt,xe,xn,OM,xs,xw,xo⟩))]) (ml:=[(2,.cells ((mW f.al.length f.blocks k).map B) 4)]) (up_same _ _ _) ⟨rfl,rfl,BD oG,rfl,oX,trivial⟩ ⟨KV oG (aC oG (aC oG rfl)) .map,trivial⟩) (aj ?_));have bm:= @K0 f ⟨xk,xa,xb,xt,xe,xn,OM,xs,xw,xo⟩;generalize ic f ⟨xk,xa,xb,xt,xe,xn,OM,xs,xw,xo⟩=v at Iu C bm;refine ag ?_;refine cl Iu (SS ?_);refine af (aB (aj (ag ?_)));refine af (cx rfl (fun hp=>?_) fun hp=>bP (aj ?_))
    .refine aB (aj (SS ?_));refine af (bX (br (aR (av (d:=B false) rfl ?_))));rw[cq (by rw[C];revert hp;cases v<;>simp)]
    have hv:v=true:=by simpa using hp
    subst hv;rw[Bool.true_and] at C;refine aq ?_;refine af (aw rfl (fun h7=>?_) fun h7=>bS ?_)
    .have e7:xk=7:=by simpa using h7
     obtain⟨i,hi,e⟩:=(bm rfl).2.2 e7;dsimp only at e;subst e;have gU:=gU i e7 rfl;have xA:(mW f.al.length f.blocks k)[i]? =some ((lS f.blocks k).any (·==(i:Int))):=G' hi;have oe:=DF f.al.length f.blocks k;rw[e7] at C;generalize (lS f.blocks k).any (·==(i:Int))=o at xA C;generalize mW f.al.length f.blocks k=O at xA oe gU ⊢;have kd:=iE (f:=B) xA;refine aB (aj (aN ?_));refine af (cx rfl (fun hp=>?_) fun hp=>bP ?_)
     .refine aB (aj (SS ?_));refine af (bX (br (aR (av (d:=B false) rfl ?_))));rw[cq (by rw[C,hp];rfl)]
     .refine ff (aN ?_);refine af (aq ?_);refine af (aK (k+1,N+1) (aQ eH ⟨?_,trivial⟩) ⟨oM,oM,lN M (by rw[C,hp];rfl)⟩ oM);dsimp only;rw[gU,List.map_set];rfl
    .have h7:¬ xk=7:=by simpa using h7
     have b8:=b8 h7;refine aq ?_;refine af (aK (k+1,N+1) (aQ eH ⟨?_,trivial⟩) ⟨oM,oM,lN M (by rw[C];simp[h7])⟩ oM);dsimp only;rw[b8];rfl
   .have a9:¬ k<f.blocks.length:=by simpa using h
    have:k=f.blocks.length:=by omega
    subst this;exact⟨N,fQ (l:=[]) trivial,M⟩
  .rintro s ⟨N,hg,M⟩;refine⟨_,hg,aj ?_⟩;refine SS ?_;refine af (av (d:=B true) rfl ?_);rw[M]
theorem CI{a b:Cert}(hl:a.is.length=b.is.length)(hm:a.is.length<=100000):PCall prog 173 [.agg (cH a),.agg (cH b)] (.agg (cH (qW a b))):=by
 refine bg ahT (.cons (.agg (uW a)) (.cons (.agg (uW b)) .nil)) (.agg (uW _)) ?_;rw[ahU];obtain⟨aa,C⟩:=a;obtain⟨ba,J⟩:=b;dsimp only at hl hm;refine az (aq ?_);refine af (aW (aQ (l:=[(2,.rp 0 0),(3,.rp 1 0),(4,.rp 2 0)]) (ml:=[(0,.cells (cH ⟨aa,C⟩) 158),(1,.cells (cH ⟨ba,J⟩) 158),(2,.cells [B false,.z] 158)]) eH eH) (aB (aj (ag ?_))));cases aa with
 |true=>
  refine af (dN (aB (aj (ag ?_))));exact af (bX (nH (mF rfl rfl ud nh rfl t158 (bD rfl)) rfl))
 |false=>
 refine af (gS (bP (aB (aj (ag ?_)))));cases ba with
 |true=>
  refine af (dN (aB (aj (ag ?_))));exact af (bX (nH (mF rfl rfl ud nh rfl t158 (bD rfl)) rfl))
 |false=>
 refine af (gS (bP (az ?_)));have hb:qW ⟨false,C⟩ ⟨false,J⟩=⟨false,List.zipWith (fun x y=>x&&y) C J⟩:=rfl;rw[hb];clear hb;have ja:({ any:=false,is:=C }:Cert).is.length<=100000:=hm;have dn:((C.length:Nat):Int).toNat=C.length:=bN _;have M:(List.zipWith (fun x y=>x&&y) C J).length=C.length:=by simp;omega
 have Yw:∀ (k:Nat) x y,C[k]? =some x->J[k]? =some y->(List.zipWith (fun x y=>x&&y) C J)[k]? =some (x&&y):=fun k x y h1 h2=>by rw[List.getElem?_zipWith,h1,h2]
 generalize List.zipWith (fun x y=>x&&y) C J=zQ at M Yw;refine dz ?_;refine af (aW (aQ (l:=[(2,.rp 0 0),(3,.rp 1 0),(4,.rp 2 0),(5,.rp 4 0)]) (ml:=[(0,.cells (cH ⟨false,C⟩) 158),(1,.cells (cH ⟨false,J⟩) 158),(2,.cells [B false,.z] 158),(3,.cells ((replicate C.length false).map B) 4),(4,.cells [B false,.rs 3 0 C.length] 158)]) eH ⟨rfl,rfl,rfl,?_,?_,trivial⟩) (aB (az ?_)))
 .exact congrArg (fun c=>some (Row.cells c 4)) ((congrArg (fun k=>replD k [B false]) dn).trans (wx _ false))
 .exact congrArg (fun k=>some (Row.cells [B false,.rs 3 0 k] 158)) dn
 refine SS ?_
 refine af (bR (fun s=>Ghost prog s ⟨aD [(4,.rp 2 0),(5,.rp 4 0)],bf [(2,.cells [B false,.z] 158),(3,.cells (zQ.map B) 4),(4,.cells [B false,.rs 3 0 C.length] 158)],5⟩) (cQ (α:=Nat) (fun k=>⟨aD [(2,.rp 0 0),(3,.rp 1 0),(4,.rp 2 0),(5,.rp 4 0),(6,I k)],bf [(0,.cells (cH ⟨false,C⟩) 158),(1,.cells (cH ⟨false,J⟩) 158),(2,.cells [B false,.z] 158),(3,.cells ((zQ.take k++replicate (C.length - k) false).map B) 4),(4,.cells [B false,.rs 3 0 C.length] 158)],5⟩)
  (fun k=>k<=C.length) (fun k=>C.length - k) 0 (aQ eH eH) oG ?_) ?_)
 .intro k hk;refine aN ?_;refine af ⟨_,rfl,fun h=>?_,fun h=>?_⟩
  .have ao:k<C.length:=by simpa using h
   have hx:C[k]? =some C[k]:=aM ao;have hy:J[k]? =some J[k]:=aM oG;have X:=Yw k _ _ hx hy;generalize C[k]=x at hx X;generalize J[k]=y at hy X;have sJ:=take_set X M;have kX:(zQ.take k++replicate (C.length - k) false).length=C.length:=by simp;omega
   refine pM abk ?_;cases x with
   |false=>
    refine aJ ?_;(iterate 5 refine z fun _ _=>?_);refine aq ?_;refine a8 bc (aq ?_);refine af (aK (k+1) (aQ eH ⟨rfl,rfl,rfl,?_,rfl,trivial⟩) oG oG);rw[<- sJ,List.map_set];rfl
   |true=>
    refine aJ ?_;refine bK ?_;refine a8 bc (aq ?_);refine af (aK (k+1) (aQ eH ⟨rfl,rfl,rfl,?_,rfl,trivial⟩) oG oG);rw[<- sJ,List.map_set];rfl
  .have a9:¬ k<C.length:=by simpa using h
   have:k=C.length:=by omega
   subst this;refine aQ eH ⟨rfl,?_,rfl,trivial⟩;rw[Nat.sub_self,List.replicate_zero,List.append_nil,df oG];rfl
 .intro s hg;refine⟨_,hg,az ?_⟩;refine ag ?_
  have e:sub (fz0 3 (zQ.map B) (prog.cellsOf 4)) (.rs 3 0 C.length)=.sl (zQ.map B) C.length:=by
   rw[c4,Cj,List.drop_zero,df oP]
  refine af (aW (bG [(3,zQ.map B,4),(2,[B false,.sl (zQ.map B) C.length],158)] ⟨rfl,?_,trivial⟩ (l:=[(4,.pt [B false,.sl (zQ.map B) C.length])]) eH) (aY (nH (R2 rfl ud nh rfl t158 (bD rfl)) ?_)))
  .exact congrArg (fun d=>some (Row.cells [B false,d] 158)) e
  .rw[<- M];rfl
theorem xr{f:aG}{b:Nat}{x:Argus.b7}{c:Cert}(hx:f.blocks[b]? =some x)(hl:c.is.length=f.al.length+f.aZ.length)(hm:c.is.length<=2000)(hi:∀ y∈x.ins,AO f.al.length (f.al.length+f.aZ.length) y)(sT:x.ins.length<=100000):
 PCall prog 127 [.agg (aH f),I b,.agg (cH c)] (.agg (cH (fB f.al.length x.ins c))):=by
 have kA:∀ {d:Cert} {r:Int},d.is.length=f.al.length+f.aZ.length->Fb (f.al.length+f.aZ.length) r->PCall prog 124 [.agg (cH d),I r] (.agg (cH (jR d r))):=fun {d r} h1 h2=>kA oG (by rw[h1];exact h2);refine bg ahV (.cons (.agg (iq f)) (.cons (.s _) (.cons (.agg (uW c)) .nil))) (.agg (uW _)) ?_;rw[ahW];refine az (aq ?_);refine af (aW (aQ (l:=[(1,I b),(3,.rp 0 0),(5,.rp 1 0),(6,.rp 2 0)]) (ml:=[(0,.cells (aH f) 26),(1,.cells (cH c) 158),(2,.cells [B false,.z] 158)]) eH eH) (aj (dz ?_)));refine af (aB (az (SS ?_)))
 refine af (bR (fun s=>Ghost prog s ⟨aD [(5,.rp 1 0),(6,.rp 2 0)],bf [(1,.cells (cH (fB f.al.length x.ins c)) 158),(2,.cells [B false,.z] 158)],3⟩) (cQ (α:=Nat) (fun k=>⟨aD [(3,.rp 0 0),(5,.rp 1 0),(6,.rp 2 0),(7,iF x.ins),(8,I k)],bf [(0,.cells (aH f) 26),(1,.cells (cH (fB f.al.length (x.ins.take k) c)) 158),(2,.cells [B false,.z] 158)],3⟩)
  (fun k=>k<=x.ins.length) (fun k=>x.ins.length - k) 0 (aQ eH eH) oG ?_) ?_)
 .intro k hk;have C:∀ y,x.ins[k]? =some y->fB f.al.length (x.ins.take (k+1)) c=xq f.al.length (fB f.al.length (x.ins.take k) c) y:=fun y hy=>oB hy;have fS:k=x.ins.length->fB f.al.length (x.ins.take k) c=fB f.al.length x.ins c:=fun e=>by rw[e,List.take_length]
  have zX:=(DD f.al.length (x.ins.take k) c).trans hl;generalize fB f.al.length (x.ins.take k) c=d at C fS zX;refine aP ?_;refine af ⟨_,rfl,fun h=>?_,fun h=>?_⟩
  .have ao:k<x.ins.length:=by simpa using h
   have hy:x.ins[k]? =some x.ins[k]:=aM ao;have C:=C _ hy;have M:=hi _ (cy ao);generalize x.ins[k]=y at hy C M;have sN:=sN (x:=y)
   have hp:Fb (f.al.length+f.aZ.length) (dL y):=by
    rcases M.w with e|⟨i,h1,h2⟩
    .exact .inl e
    .exact .inr ⟨i,oG,h2⟩
   have X:=kA zX hp;have v9:=(GN d (dL y)).trans zX
   have kv:y.op=18->PCall prog 124 [.agg (cH (jR d (dL y))),I ((f.al.length:Int)+y.n)] (.agg (cH (jR (jR d (dL y)) ((f.al.length:Int)+y.n)))):=fun e=>kA v9 (by
    obtain⟨i,h1,h2⟩:=M.s e
    exact .inr ⟨f.al.length+i,h1,by rw[h2];omega⟩)
   unfold xq at C;generalize jR d (dL y)=d1 at X v9 kv C;generalize dL y=w at sN X;clear kA;have kA:=X;refine dE abl (aN ?_);refine cl sN (cl kA (SS ?_));refine a8 bc (aj (bB ?_));refine af (aw rfl (fun J=>?_) fun J=>?_)
   .have J:y.op=18:=by simpa using J
    rw[if_pos J] at C;have kA:=kv J;obtain⟨i,h1,h2⟩:=M.s J;have jY:0<=y.n/\y.n<=2000:=by omega
    refine pM abm (bK ?_);refine ag ?_;refine cl kA (SS ?_);refine a8 bc (aq ?_);refine af (aK (k+1) (aQ eH ⟨rfl,?_,rfl,trivial⟩) oG oG);rw[C];rfl
   .have J:¬ y.op=18:=by simpa using J
    rw[if_neg J] at C;refine bS (aq ?_);refine af (aK (k+1) (aQ eH ⟨rfl,?_,rfl,trivial⟩) oG oG);rw[C];rfl
  .have a9:¬ k<x.ins.length:=by simpa using h
   rw[<- fS oG];exact aQ eH eH
 .intro s hg;refine⟨_,hg,aj ?_⟩;generalize fB f.al.length x.ins c=d;refine ag ?_;exact af (aY (nH (mF rfl rfl ud nh rfl t158 (bD rfl)) rfl))
theorem zi{f:aG}{b:Nat}{x:Argus.b7}{c:Cert}{to:Int}(hx:f.blocks[b]? =some x)(hw:x.fin.aL.length<=100)(hm:c.is.length<=2000)(rU:Fb c.is.length (eS x.fin)):
 PCall prog 126 [.agg (aH f),I b,I to,.agg (cH c)] (.agg (cH (nV x.fin to c))):=by
 have kA:=kA (c:=c) oG rU;have sM:=sM (x:=x.fin) oG;have Is:=Is (x:=x.fin);have J:=DB x.fin;refine bg ahX (.cons (.agg (iq f)) (.cons (.s _) (.cons (.s _) (.cons (.agg (uW c)) .nil)))) (.agg (uW _)) ?_;rw[ahY];refine ws (aq ?_);refine af (az (dz ?_));refine Xl ?_;refine af (aW (aQ (l:=[(2,I to),(7,.rp 1 0),(8,.rp 2 0),(9,.rp 3 0)]) (ml:=[(1,.cells (cH c) 158),(2,.cells [B false,.z] 158),(3,.cells (bh x.fin) 69)]) eH eH) (aj ?_));have M:nV x.fin to c=if x.fin.to≠to\/(dW x.fin).tail.any (·==to)=true\/x.fin.kind=3\/x.fin.kind=4 then c else jR c (eS x.fin):=rfl
 rw[M];clear M;generalize dW x.fin=l at sM J;refine SS ?_;refine cl sM (SS ?_);refine er (SS ?_);refine af (aB (az (SS ?_)))
 refine af (bR (fun s=>Ghost prog s ⟨aD [(2,I to),(7,.rp 1 0),(8,.rp 2 0),(9,.rp 3 0),(11,B (l.tail.any (·==to)))],bf [(1,.cells (cH c) 158),(2,.cells [B false,.z] 158),(3,.cells (bh x.fin) 69)],4⟩) (cQ (α:=Nat) (fun k=>⟨aD [(2,I to),(7,.rp 1 0),(8,.rp 2 0),(9,.rp 3 0),(10,au l),(11,B ((l.tail.take k).any (·==to))),(12,I ((k+1:Nat):Int))],bf [(1,.cells (cH c) 158),(2,.cells [B false,.z] 158),(3,.cells (bh x.fin) 69)],4⟩)
  (fun k=>k<=l.tail.length) (fun k=>l.tail.length - k) 0 (aQ eH eH) oG ?_) ?_)
 .intro k hk;have htl:l.tail.length=l.length - 1:=List.length_tail ..;have C:∀ y,l.tail[k]? =some y->(l.tail.take (k+1)).any (·==to)=((l.tail.take k).any (·==to)||y==to):=fun y hy=>by rw[List.take_add_one,hy,List.any_append];simp
  have X:k=l.tail.length->(l.tail.take k).any (·==to)=l.tail.any (·==to):=fun e=>by rw[e,List.take_length]
  generalize (l.tail.take k).any (·==to)=ob at C X;refine aP ?_;refine af ⟨_,rfl,fun h=>?_,fun h=>?_⟩
  .have ao:k+1<l.length:=by
    have:=of_decide_eq_true h;omega
   have hy:l[k+1]? =some l[k+1]:=aM ao;have C:=C l[k+1] (by rw[List.getElem?_tail];exact hy);generalize l[k+1]=y at hy C;refine ff ?_;cases ob with
   |false=>
    refine bK ?_;refine ag ?_;refine af (aq ?_);refine af (aK (k+1) (aQ ⟨rfl,rfl,rfl,rfl,rfl,?_,rfl,trivial⟩ eH) oG oG);rw[C];rfl
   |true=>
    refine ag ?_;(iterate 6 refine z fun _ _=>?_);refine ag ?_;refine af (aq ?_);refine af (aK (k+1) (aQ ⟨rfl,rfl,rfl,rfl,rfl,?_,rfl,trivial⟩ eH) oG oG);rw[C];rfl
  .have a9:¬ k+1<l.length:=fun hh=>by
    have:=of_decide_eq_false h;omega
   rw[<- X oG];exact aQ eH eH
 .intro s hg;refine⟨_,hg,aB (aj ?_)⟩;generalize l.tail.any (·==to)=ob;refine aJ ?_;refine bK ?_;refine af (cx rfl (fun h=>?_) fun h=>bP (dE aab ?_))
  .refine aB (aj (ag ?_));refine af (bX (nH (mF rfl rfl ud nh rfl t158 (bD rfl)) ?_));rw[if_pos]
   .rfl
   .revert h;simp;grind
  .rw[if_neg (by revert h;simp;grind)];generalize jR c (eS x.fin)=d at kA;generalize eS x.fin=w at kA Is;refine ag ?_;refine cl Is (cl kA (SS ?_));exact a8 bc (aY (nH (mF rfl rfl ud nh rfl t158 (bD rfl)) rfl))
theorem CJ{f:aG}(hF:tO f)(hw:∀ b∈f.blocks,b.fin.aL.length<=9):PCall prog 121 [.agg (aH f)] (Ez f (iW f.blocks f.args.toNat)):=by
 have hR:=hF.ok.al;have hS:=hF.sl;have FI:=hF.ok.mz;have oq:=hF.ok.pos;obtain⟨a,ha,ui⟩:=hF.ar;have EQ:=Qs (R:=f.al.length) (n:=f.al.length+f.aZ.length) (N:=f.blocks.length) (args:=a) hR oG oG oq ui;rw[ha,bN];refine bg ahZ (.cons (.agg (iq f)) .nil) (acK f _) ?_;rw[ah0];refine az (ag ?_);refine af (aW (bG [(0,aH f,26)] eH (l:=[(1,.pt (aH f))]) eH) (az (bK ?_)));refine af (aW (ap (l:=[(1,.pt (aH f)),(3,I ((f.al.length+f.aZ.length:Nat):Int))]) eH) (az ?_));have hnn:f.al.length+f.aZ.length<=1260:=by omega
 have ON:f.al.length<=f.al.length+f.aZ.length:=by omega
 unfold Ez;generalize hn:f.al.length+f.aZ.length=n at EQ hnn ON ⊢;have dn:((f.blocks.length:Nat):Int).toNat=f.blocks.length:=bN _;refine aq ?_;refine iz (Bz rfl rfl V.h V.h) ak ⟨oG,rfl,oG,by rw[Xm];omega,V.h⟩ (SS ?_);refine af (aW (aQ (l:=[(1,.pt (aH f)),(3,I n),(4,.rs 1 0 f.blocks.length)]) (ml:=[(1,.cells (dy (jB n f.blocks.length (.rs 2 0 n) 0)) 158)]) ⟨rfl,rfl,congrArg (fun k=>D.rs 1 0 k) dn,trivial⟩ ⟨?_,trivial⟩) (aB (az ?_)))
 .exact congrArg (fun c=>some (Row.cells c 158)) ((congrArg (fun k=>replD k [B false,D.z]) dn).trans (Rg _))
 refine SS ?_;have AV:((n:Nat):Int).toNat=n:=bN _
 refine af (bR (fun s=>∃ N,Ghost prog s ⟨aD [(1,.pt (aH f)),(3,I n),(4,.rs 1 0 f.blocks.length)],bf [(1,.cells (dy ((true,.rs 2 0 n)::qc n f.blocks.length)) 158),(2,.cells ((replicate n false).map B) 4)],N⟩/\3<=N) (cQ (α:=Nat) (Mn f n f.blocks.length)
  (fun k=>k<=f.blocks.length) (fun k=>f.blocks.length - k) 0 (aQ eH eH) oG ?_) ?_)
 .intro k hk;have M:=(BN (jB n f.blocks.length (.rs 2 0 n) k)).trans (congrArg (·*2) (J1 (n:=n) (d:=.rs 2 0 n) hk));cases k with
  |zero=>
   show AOps _ _ _ _ _ _ _ _ _;unfold Mn;refine aP ?_;refine af ⟨_,rfl,fun h=>?_,fun h=>?_⟩
   .refine ff ?_;have rV:=JK (L:=jB n f.blocks.length (.rs 2 0 n) 0) (t:=0) (true,.rs 2 0 n) (by rw[J1 hk];exact oq);rw[ad1 oq] at rV;refine bB ?_;refine cA (jh (vs:=[B true,.rs 2 0 n]) rfl rfl rfl rV) cv (dt t158 nh ⟨rfl,by rw[M];omega⟩ rfl) (af (aq ?_));refine af (aK 1 (aQ eH ⟨rfl,?_,trivial⟩) oG oG)
    .exact congrArg (fun c=>some (Row.cells c 4)) ((congrArg (fun k=>replD k [B false]) AV).trans (wx _ false))
   .exact absurd (of_decide_eq_false h) oG
  |succ k=>
   show AOps _ _ _ _ _ _ _ _ _;unfold Mn;refine aP ?_;refine af ⟨_,rfl,fun h=>?_,fun h=>?_⟩
   .have ao:k+1<f.blocks.length:=by have:=of_decide_eq_true h;omega
    refine ff ?_;have rV:=JK (L:=jB n f.blocks.length (.rs 2 0 n) (k+1)) (t:=k+1) (true,.rs (k+3) 0 n) (by rw[J1 hk];exact ao);refine bB ?_;refine cA (jh (vs:=[B true,.rs (k+3) 0 n]) rfl rfl (aC oG rfl) rV) cv (dt t158 nh ⟨rfl,by rw[M];omega⟩ rfl) (af (aq ?_));refine af (aK (k+2) (lO (i:=k+3) (e:=4) (cs:=(replicate n false).map B) (aC oG ?_) ⟨rfl,rfl,BD oG,rfl,trivial⟩ ⟨?_,KV oG (aC oG (aC oG rfl)) .map,trivial⟩) oG oG)
    .exact(up_same _ _ _).trans (congrArg (fun c=>some (Row.cells c 4)) ((congrArg (fun k=>replD k [B false]) AV).trans (wx _ false)))
    .rw[c4];refine(if_neg (show ¬ 1=k+3 by omega)).trans ?_;exact(congrArg (Option.map _) (up_same _ _ _)).trans (congrArg (fun c=>some (Row.cells c 158)) (ad3 oG ao))
   .have a9:¬ k+1<f.blocks.length:=by have:=of_decide_eq_false h;omega
    have hkN:k+1=f.blocks.length:=by omega
    refine⟨k+3,aQ eH ⟨?_,rfl,trivial⟩,oG⟩;rw[<- ad4 oq, <- hkN];rfl
 rintro s ⟨N3,hg,FR⟩;have uk:=Qr (n:=n) oq;have Bk:=Zw EQ.2.1 EQ.2.2 oq;have OO:∀ cs sz,(qc n f.blocks.length).map (fun p=>(p.1,sub (fz0 2 cs sz) p.2))=qc n f.blocks.length:=fun cs sz=>ak5;have M:=BN (qc n f.blocks.length);generalize qc n f.blocks.length=T at hg uk Bk OO M;refine⟨_,hg,az ?_⟩;refine aP ?_;refine af (aW (aQ (l:=[(1,.pt (aH f)),(3,I n),(4,.rs 1 0 f.blocks.length)]) (ml:=[(1,.cells (dy ((false,.rs 2 0 n)::T)) 158),(2,.cells ((replicate 0 true++replicate (n - 0) false).map B) 4)]) eH eH) (aB (az (SS ?_))))
 refine af (bR (fun s=>Ghost prog s ⟨aD [(1,.pt (aH f)),(3,I n),(4,.rs 1 0 f.blocks.length)],bf [(1,.cells (dy ((false,.rs 2 0 n)::T)) 158),(2,.cells ((replicate a true++replicate (n - a) false).map B) 4)],N3⟩) (cQ (α:=Nat) (fun r=>⟨aD [(1,.pt (aH f)),(3,I n),(4,.rs 1 0 f.blocks.length),(6,I r)],bf [(1,.cells (dy ((false,.rs 2 0 n)::T)) 158),(2,.cells ((replicate r true++replicate (n - r) false).map B) 4)],N3⟩)
  (fun r=>r<=a) (fun r=>a - r) 0 (aQ eH eH) oG ?_) ?_)
 .intro r hr;refine aP ?_;refine af ⟨_,rfl,fun h=>?_,fun h=>?_⟩
  .have ao:r<a:=by have:=of_decide_eq_true h;omega
   have sJ:=Hj (x:=true) (y:=false) (n:=n) (k:=r) oG;have kX:(replicate r true++replicate (n - r) false).length=n:=by simp;omega
   refine ff (dz ?_);refine af (aq ?_);refine af (aK (r+1) (aQ eH ⟨rfl,?_,trivial⟩) oG oG);rw[<- sJ,List.map_set];rfl
  .have a9:¬ r<a:=by have:=of_decide_eq_false h;omega
   have:r=a:=by omega
   subst this;exact aQ eH eH
 clear hg;rintro s hg;refine⟨_,hg.trans (lO (i:=2) (e:=4) (cs:=(replicate a true++replicate (n - a) false).map B) (l:=[(1,.pt (aH f)),(3,I n),(4,.rs 1 0 f.blocks.length)]) (ml:=[(1,.cells (dy (fA f.al.length n f.blocks.length (kJ f.blocks.length a))) 158)]) rfl eH ⟨?_,trivial⟩),aB (az ?_)⟩
 .rw[c4,Bk];refine congrArg (fun c=>some (Row.cells c 158)) ((Ho _ (fun _=>rfl) _).trans (congrArg dy ?_));rw[List.map_cons,OO,Cj,List.drop_zero,df oP];have:(replicate a true++replicate (n - a) false).length=n:=by simp;omega
  show(false,D.sl _ n)::T=(false,D.sl _ (List.length _))::T;rw[this]
 clear hg uk Bk OO M T;refine SS ?_;have hG0:=EQ.1;clear EQ;have Jf:iW f.blocks a=nA f.blocks (rP (kJ f.blocks.length a)+1) (kJ f.blocks.length a):=rfl;generalize iW f.blocks a=RR at Jf ⊢
 refine af (bR (fun s=>∃ N,Ghost prog s ⟨aD [(4,.rs 1 0 f.blocks.length)],bf [(1,.cells (dy (fA f.al.length n f.blocks.length RR)) 158)],N⟩) (yx (α:=CS×Nat)
  (fun s=>⟨aD [(1,.pt (aH f)),(3,I n),(4,.rs 1 0 f.blocks.length),(7,B s.1.ch)],bf [(1,.cells (dy (fA f.al.length n f.blocks.length s.1)) 158)],s.2⟩)
  (fun s=>qY f.al.length n f.blocks.length s.1/\2<=s.2/\(s.1.ch=true->∃ k,rP s.1<k/\nA f.blocks k s.1=RR)/\(s.1.ch=false->s.1=RR)) (fun s=>2*rP s.1+if s.1.ch=true then 1 else 0) (kJ f.blocks.length a,N3)
  (aQ eH eH) ⟨hG0,oM,fun _=>⟨_,Nat.lt_succ_self _,Jf.symm⟩,fun h=>by cases h⟩ ?_) ?_)
 .rintro⟨C,N0⟩ ⟨hG,Xn,qx,zd⟩;dsimp only at hG Xn qx zd ⊢;refine SS ?_;refine af ⟨_,rfl,fun h0=>?_,fun h=>?_⟩
  .obtain⟨jC,agv,EM⟩:=qx h0;obtain⟨jC,rfl⟩:∃ j,jC=j+1:=⟨jC - 1,oG⟩
   have EN:=Dv hF.ok.blk hG.ok;refine ws (SS ?_);refine af (az (SS ?_))
   refine af (cQ (α:=Nat×Nat)
    (fun k=>⟨aD [(1,.pt (aH f)),(3,I n),(4,.rs 1 0 f.blocks.length),(7,B ((range k.1).foldl (dX f.blocks) ⟨C.ws,C.re,false⟩).ch),(8,I k.1)],bf [(1,.cells (dy (fA f.al.length n f.blocks.length ((range k.1).foldl (dX f.blocks) ⟨C.ws,C.re,false⟩))) 158)],k.2⟩)
    (fun k=>k.1<=f.blocks.length/\2<=k.2/\qY f.al.length n f.blocks.length ((range k.1).foldl (dX f.blocks) ⟨C.ws,C.re,false⟩)) (fun k=>f.blocks.length - k.1) (0,N0) (aQ eH eH) ⟨Nat.zero_le _,Xn,R6 hG false⟩ ?_)
   rintro⟨k,N⟩ ⟨hk,hN,Bl⟩;dsimp only at hk hN Bl ⊢;have cg:(range (k+1)).foldl (dX f.blocks) ⟨C.ws,C.re,false⟩=dX f.blocks ((range k).foldl (dX f.blocks) ⟨C.ws,C.re,false⟩) k:=by rw[List.range_succ,List.foldl_append];rfl
   have fS:k=f.blocks.length->(range k).foldl (dX f.blocks) ⟨C.ws,C.re,false⟩=kI f.blocks C:=fun e=>by rw[e,kI]
   generalize (range k).foldl (dX f.blocks) ⟨C.ws,C.re,false⟩=u at Bl cg fS;refine aP ?_;refine af ⟨_,rfl,fun h=>?_,fun h=>?_⟩
   .have ao:k<f.blocks.length:=by simpa using h
    have hx:f.blocks[k]? =some f.blocks[k]:=aM ao;have X:f.blocks[k]∈f.blocks:=cy _;generalize f.blocks[k]=x at hx X;have J:dX f.blocks u k=if u.re.getD k false=true then(nextR x.fin).foldl (cW x.fin (jJ x (u.ws.getD k [])).1) u else u:=by rw[dX,hx]
    have Dr:=Bt (R:=f.al.length) (n:=n) (s:=u) ao;obtain⟨rr,kd⟩:=ae' Dr;have rS:=R4 Dr;have M:=(BN (fA f.al.length n f.blocks.length u)).trans (congrArg (·*2) (yq f.al.length n f.blocks.length u));have Gc:cF f.al.length n u k=if u.re.getD k false=true then⟨false,cD f.al.length n (u.ws.getD k [])⟩ else⟨true,replicate n false⟩:=rfl
    have Jg:=Bl.yes k ao;have Xo:=Bl.ok.Xp ao;refine aB (aj ?_);cases qD:u.re.getD k false with
    |false=>
     rw[qD] at Gc J;rw[Gc] at kd;have J:dX f.blocks u k=u:=J;have kd:(dy (fA f.al.length n f.blocks.length u)).drop (k*2+0)=B true::dv (replicate n false)::rr:=kd;refine aN ?_;refine af (cx rfl (fun h=>jw (mO (aq ?_))) fun h=>oH);refine af (aK (k+1,N) (aQ ⟨rfl,rfl,rfl,?_,rfl,trivial⟩ ⟨?_,trivial⟩) ⟨oM,hN,?_⟩ oM)
     .dsimp only;rw[cg,J];rfl
     .dsimp only;rw[cg,J];rfl
     .dsimp only;rw[cg,J];exact Bl
    |true=>
    rw[qD] at Gc J;rw[Gc] at kd rS;have J:dX f.blocks u k=(nextR x.fin).foldl (cW x.fin (jJ x (u.ws.getD k [])).1) u:=J;have Jg:=Jg qD;generalize u.ws.getD k []=w at Gc J kd rS Jg Xo;have kd:(dy (fA f.al.length n f.blocks.length u)).drop (k*2+0)=B false::dv (cD f.al.length n w)::rr:=kd;refine aN ?_;refine af (cx rfl (fun h=>oH) fun h=>bP (pI aae ?_));have Yt:(cD f.al.length n w).length=n:=DL ..;obtain⟨q1,q2,q3⟩:=DM (R:=f.al.length) (n:=n) hR oG ON (l:=x.ins) (ok:=true) (fun y hy=>hn▸(hF.ins x X y hy).1) Xo Jg;have xr:PCall prog 127 [.agg (aH f),I k,.agg (cH ⟨false,cD f.al.length n w⟩)] (.agg (cH (fB f.al.length x.ins ⟨false,cD f.al.length n w⟩))):=xr hx (by rw[hn];exact Yt) (by show(cD f.al.length n w).length<=_;omega) (fun y hy=>(hF.ins x X y hy).1) (by have:=(hF.ok.blk x X).len;omega);rw[q1] at xr;have vW:(jJ x w).1=(x.ins.foldl oW (w,true)).1:=rfl;rw[vW] at J;clear vW;generalize (x.ins.foldl oW (w,true)).1=w' at q1 q2 q3 xr J;refine aN ?_;refine aI (ep rfl rfl ud nh rS) cv (ez t158 nh (by rw[M];omega)) ?_;refine cl xr (ag ?_);have ak6:(cD f.al.length n w').length=n:=DL ..;refine a8 bc (aW (lO (i:=N) (l:=[(1,.pt (aH f)),(3,I n),(4,.rs 1 0 f.blocks.length),(7,B u.ch),(8,I k),(9,.pt (cH ⟨false,cD f.al.length n w'⟩))]) (ml:=[(1,.cells (dy (fA f.al.length n f.blocks.length u)) 158)]) (up_same _ _ _) ⟨rfl,rfl,BD oG,rfl,rfl,oX,trivial⟩ ⟨z9 oG (aC oG (aC oG rfl)) Ks,trivial⟩) (aj ?_));have lJ:=lJ hx (by have:=hw x X;omega);rw[(hF.ed x X).2] at lJ;have dU:=(hF.ok.blk x X).to;have jg:=z4 x.fin;have Yv:=hw x X;have rU:=hF.wr x X;have mj:=(hF.ed x X).1;generalize nextR x.fin=l at lJ dU jg J;refine ag ?_;refine cl lJ (SS ?_);refine af (az (SS ?_))
    refine af (cQ (α:=Nat×Nat)
     (fun j=>⟨aD [(1,.pt (aH f)),(3,I n),(4,.rs 1 0 f.blocks.length),(7,B ((l.take j.1).foldl (cW x.fin w') u).ch),(8,I k),(9,.pt (cH ⟨false,cD f.al.length n w'⟩)),(10,au l),(11,I j.1)],bf [(1,.cells (dy (fA f.al.length n f.blocks.length ((l.take j.1).foldl (cW x.fin w') u))) 158)],j.2⟩)
     (fun j=>j.1<=l.length/\2<=j.2/\qY f.al.length n f.blocks.length ((l.take j.1).foldl (cW x.fin w') u)) (fun j=>l.length - j.1) (0,N+1) (aQ eH eH) ⟨Nat.zero_le _,oM,Bl⟩ ?_)
    clear rS M;rintro⟨j,N'⟩ ⟨hj,I6,Jh⟩;dsimp only at hj I6 Jh ⊢;have eL:∀ t,l[j]? =some t->(l.take (j+1)).foldl (cW x.fin w') u=cW x.fin w' ((l.take j).foldl (cW x.fin w') u) t:=fun t ht=>oB ht;have p8:j=l.length->(l.take j).foldl (cW x.fin w') u=dX f.blocks u k:=fun e=>by rw[J,df oG]
    generalize (l.take j).foldl (cW x.fin w') u=v at Jh eL p8;refine aP ?_;refine af ⟨_,rfl,fun h=>?_,fun h=>?_⟩
    .have cV:j<l.length:=by simpa using h
     have ht:l[j]? =some l[j]:=aM cV;have pF:=dU _ (cy cV);generalize l[j]=t at ht pF;obtain⟨i,rfl⟩:=cU pF.1;have bm:i<f.blocks.length:=by omega
     have Dr:=Bt (R:=f.al.length) (n:=n) (s:=v) bm;have rS:=R4 Dr;have M:=(BN (fA f.al.length n f.blocks.length v)).trans (congrArg (·*2) (yq f.al.length n f.blocks.length v));have rV:=fun q=>JK (L:=fA f.al.length n f.blocks.length v) (t:=i) q (by rw[yq];exact bm);obtain⟨OP,j4⟩:=R7 (R:=f.al.length) (n:=n) hR oG ON Jh mj rU bm q2 q3;have eL:=eL _ ht
     have zi:PCall prog 126 [.agg (aH f),I k,I i,.agg (cH ⟨false,cD f.al.length n w'⟩)] (.agg (cH (nV x.fin i ⟨false,cD f.al.length n w'⟩))):=zi hx oG (by show(cD f.al.length n w').length<=_;omega) (by
      rcases rU with e|⟨r,h1,h2⟩
      .exact .inl e
      .exact .inr ⟨r,by show r<(cD f.al.length n w').length;omega,h2⟩)
     have oe:(nV x.fin i ⟨false,cD f.al.length n w'⟩).is.length=n:=(Qp ..).trans ak6;have cJ:(cF f.al.length n v i).is.length=n:=JL;have CI:=CI (a:=cF f.al.length n v i) (b:=nV x.fin i ⟨false,cD f.al.length n w'⟩) (by rw[cJ,oe]) oG;unfold CK at j4
     have CY:(qW (cF f.al.length n v i) (nV x.fin i ⟨false,cD f.al.length n w'⟩)).is.length=n:=by
      unfold qW;split
      .exact oe
      .split
       .exact cJ
       .show(List.zipWith _ _ _).length=n;rw[List.length_zipWith];omega
     generalize qW (cF f.al.length n v i) (nV x.fin i ⟨false,cD f.al.length n w'⟩)=now at CI j4 CY;generalize nV x.fin i ⟨false,cD f.al.length n w'⟩=ov at zi CI oe;generalize aoJ:cF f.al.length n v i=mD at CI j4 cJ rS;have rS:((dy (fA f.al.length n f.blocks.length v)).drop (i*2)).take 2=cH mD:=rS;refine az (bB ?_);refine aI (ep rfl rfl ud nh rS) cv (ez t158 nh (by rw[M];omega)) ?_;refine ag ?_;refine af (aW (lO (i:=N') (l:=[(1,.pt (aH f)),(3,I n),(4,.rs 1 0 f.blocks.length),(7,B v.ch),(8,I k),(9,.pt (cH ⟨false,cD f.al.length n w'⟩)),(10,au l),(11,I j),(12,.pt (cH mD))]) (ml:=[(1,.cells (dy (fA f.al.length n f.blocks.length v)) 158)]) (up_same _ _ _) ⟨rfl,rfl,BD oG,rfl,rfl,rfl,rfl,rfl,oX,trivial⟩ ⟨z9 oG (aC oG (aC oG rfl)) Ks,trivial⟩) (pI aaf (bK ?_)));refine cl zi (cl CI (ag ?_));refine a8 bc (aW (lO (i:=N'+1) (l:=[(1,.pt (aH f)),(3,I n),(4,.rs 1 0 f.blocks.length),(7,B v.ch),(8,I k),(9,.pt (cH ⟨false,cD f.al.length n w'⟩)),(10,au l),(11,I j),(12,.pt (cH mD)),(13,.pt (cH now))]) (ml:=[(1,.cells (dy (fA f.al.length n f.blocks.length v)) 158)]) (up_same _ _ _) ⟨rfl,rfl,BD oG,rfl,rfl,rfl,rfl,rfl,rfl,oX,trivial⟩ ⟨z9 oG (aC oG (aC oG rfl)) Ks,trivial⟩) (aj (aP ?_)));refine aI (S5 rfl rfl) ak V.h (SS ?_);refine af (aB (az (SS ?_)))
     refine af (bR (fun s=>Ghost prog s ⟨aD [(1,.pt (aH f)),(3,I n),(4,.rs 1 0 f.blocks.length),(7,B v.ch),(8,I k),(9,.pt (cH ⟨false,cD f.al.length n w'⟩)),(10,au l),(11,I j),(13,.pt (cH now)),(14,B (qX mD now n))],bf [(1,.cells (dy (fA f.al.length n f.blocks.length v)) 158)],N'+2⟩) (cQ (α:=Nat) (fun q=>⟨aD [(1,.pt (aH f)),(3,I n),(4,.rs 1 0 f.blocks.length),(7,B v.ch),(8,I k),(9,.pt (cH ⟨false,cD f.al.length n w'⟩)),(10,au l),(11,I j),(12,.pt (cH mD)),(13,.pt (cH now)),(14,B (qX mD now q)),(15,I q)],bf [(1,.cells (dy (fA f.al.length n f.blocks.length v)) 158)],N'+2⟩)
      (fun q=>q<=n) (fun q=>n - q) 0 (aQ ⟨rfl,rfl,rfl,rfl,rfl,rfl,rfl,rfl,rfl,rfl,?_,rfl,trivial⟩ eH) oG ?_) ?_)
     .show B (mD.any==now.any)=B (qX mD now 0);unfold qX;rw[List.range_zero,List.all_nil,Bool.and_true]
     .intro q hq;have zW:=aad mD now q;have Yx:q=n->qX mD now q=qX mD now n:=fun e=>by rw[e]
      generalize qX mD now q=sq at zW Yx;refine aq ?_;refine af ⟨_,rfl,fun h=>?_,fun h=>?_⟩
      .have Dq:q<n:=by simpa using h
       have zB:mD.is[q]? =some mD.is[q]:=aM oG;have zA:now.is[q]? =some now.is[q]:=aM oG;rw[getD_some zB,getD_some zA] at zW;generalize mD.is[q]=b1 at zB zW;generalize now.is[q]=b2 at zA zW;refine pM aag ?_;cases sq with
       |false=>
        refine ag ?_;(iterate 11 refine z fun _ _=>?_);refine ag ?_;refine a8 bc (aq ?_);refine af (aK (q+1) (aQ ⟨rfl,rfl,rfl,rfl,rfl,rfl,rfl,rfl,rfl,rfl,?_,rfl,trivial⟩ eH) oG oG);rw[zW];rfl
       |true=>
        refine aJ ?_;refine aq ?_;refine ak7 ?_;refine ag ?_;refine a8 bc (aq ?_);refine af (aK (q+1) (aQ ⟨rfl,rfl,rfl,rfl,rfl,rfl,rfl,rfl,rfl,rfl,?_,rfl,trivial⟩ eH) oG oG);rw[zW];rfl
      .have a9:¬ q<n:=by simpa using h
       rw[<- Yx oG];exact aQ eH eH
     rintro s1 xC;have dx:=abn cJ CY;generalize qX mD now n=sq at xC dx;refine⟨_,xC,aj ?_⟩;clear xC;refine ag ?_;refine af (aw rfl (fun hp=>?_) fun hp=>bS ?_)
     .have hns:¬ (mD.any=now.any/\mD.is=now.is):=fun h=>by rw[dx.2 h] at hp;cases hp
      have rV:=rV (Fg now);rcases j4 with⟨j4,_⟩|⟨_,qo,OQ⟩
      .exact absurd ⟨congrArg Cert.any j4.symm,congrArg Cert.is j4.symm⟩ hns
      rw[aac OQ] at rV;refine dE aah (dz ?_);refine cA (jh (vs:=cH now) rfl rfl rfl rV) cv (dt t158 nh ⟨rfl,by rw[M];omega⟩ rfl) (a8 bc (ff (SS ?_)));refine af (aq ?_);refine af (aK (j+1,N'+2) (aQ ⟨rfl,rfl,rfl,?_,rfl,rfl,rfl,rfl,trivial⟩ ⟨?_,trivial⟩) ⟨oM,oM,?_⟩ oM)
      .dsimp only;rw[eL,qo];rfl
      .dsimp only;rw[eL];rfl
      .dsimp only;rw[eL];exact OP
     .have hsq:sq=true:=by simpa using hp
      have zC:=dx.1 hsq;rcases j4 with⟨_,j4⟩|⟨aE,_,_⟩
      .rw[j4] at eL OP;refine aq ?_;refine af (aK (j+1,N'+2) (aQ ⟨rfl,rfl,rfl,?_,rfl,rfl,rfl,rfl,trivial⟩ ⟨?_,trivial⟩) ⟨oM,oM,?_⟩ oM)
       .dsimp only;rw[eL];rfl
       .dsimp only;rw[eL];rfl
       .dsimp only;rw[eL];exact OP
      .exfalso;rcases aE with h|h
       .exact h zC.1.symm
       .exact h zC.2.symm
    .have a9:¬ j<l.length:=by simpa using h
     have vl:=p8 oG;subst vl;show AOps _ _ _ _ _ _ _ _ _;refine aq ?_;refine af (aK (k+1,N') (aQ ⟨rfl,rfl,rfl,?_,rfl,trivial⟩ ⟨?_,trivial⟩) ⟨oM,I6,?_⟩ oM)
     .dsimp only;rw[cg];rfl
     .dsimp only;rw[cg];rfl
     .dsimp only;rw[cg];exact Jh
   .have a9:¬ k<f.blocks.length:=by simpa using h
    have hl:=fS oG;subst hl;refine aK (kI f.blocks C,N) (aQ eH eH) ⟨Bl,hN,fun hc=>?_,fun hc=>?_⟩ ?_
    .refine⟨jC,?_,?_⟩
     .have:=EN.2;unfold pE at this;show rP (kI f.blocks C)<jC;rw[if_pos hc] at this;omega
     .dsimp only at hc ⊢;rw[<- EM,nA,if_pos hc]
    .dsimp only at hc ⊢;rw[<- EM,nA,if_neg (by simp[hc])]
    .have:=EN.2;unfold pE at this;dsimp only;rw[if_pos h0];split at this<;>rename_i hc
     .rw[if_pos hc];omega
     .rw[if_neg hc];omega
  .have Bb:=zd h;subst Bb;exact⟨N0,aQ eH eH⟩
 .rintro s ⟨N4,hg⟩;refine⟨_,hg,az ?_⟩;refine ag ?_;refine af (aW (bG [(1,dy (fA f.al.length n f.blocks.length RR),158)] eH (l:=[(2,.sl (dy (fA f.al.length n f.blocks.length RR)) f.blocks.length)]) ⟨?_,trivial⟩) (av rfl rfl));show sub (fz0 1 _ (prog.cellsOf 158)) (D.rs 1 0 f.blocks.length)=_;rw[nw (by rw[nh,BN,yq])]
end Go.Proofs.Tryz.K
namespace Go.Argus
open Go.Proofs.Tryz.K (nextR)
@[simp] theorem PF (p : Bool × D) : (qb p).length = 2 := rfl
theorem Pq{f:aG}(h:jx f=true):∀ b∈f.blocks,j8 f b.fin=true:=fun b hb=>by
 unfold jx at h;simp only[aO] at h;obtain⟨_,_,_,h4,_⟩:=h;obtain⟨k,hk⟩:=cC hb;have:=bj.1 h4 k (by simpa using(bw.1 hk).1);unfold j7 at this;simp only[getD_some hk,aO] at this;exact this.1
theorem Kj{f:aG}{k:Nat}{x:b7}(h:f.blocks[k]? =some x):aT f k=nextR x.fin:=by
 unfold aT aA bI;rw[bl,List.getElem?_map,h];rfl
theorem ad5{l:List Bool}{b:Nat}(hb:b<l.length)(h:l.getD b false=false):(l.set b true).count false<l.count false:=by
 have:=yj (yp h hb);omega
end Go.Argus
namespace Go.Proofs.Tryz.K
theorem rL{f:aG}(hs:yT f)(hw:∀ b∈f.blocks,b.fin.aL.length<=9):PCall prog 55 [.agg (aH f)] (I (dG f)):=by
 rw[<- abo];have CH:=CH hs hw;have IQ:Lm f=if wy f=true then(if(range f.blocks.length).all (qZ f (iW f.blocks f.args.toNat))=true then 0 else 81) else 80:=rfl
 refine bg ak8 (.cons (.agg (iq f)) .nil) (Tr.s _) ?_;rw[ak9,IQ];clear IQ;refine az (ag ?_);refine af (aW (bG [(0,aH f,26)] eH (l:=[(1,.pt (aH f))]) eH) (aj ?_));cases hf:wy f with
 |false=>
  rw[hf] at CH;refine SS ?_;refine cl CH (SS ?_);refine af (aB (aj (ag ?_)));refine af (dN (aB (aj (SS ?_))));exact af (bX (av rfl rfl))
 |true=>
 rw[hf] at CH;rw[if_pos rfl];rw[PN] at hf;have he:=Pq hf;have hF:=EJ hf;have CJ:=CJ hF hw;have hR:=hF.ok.al;have hS:=hF.sl;have FI:=hF.ok.mz;have sW:=sW (f:=f) rfl oG hw (fun b hb t ht=>by rw[(hF.ed b hb).2] at ht;exact(hF.ok.blk b hb).to t ht)
 have Yy:∀ k,k<f.blocks.length->(mL f.blocks)[k]? =some (bH f.blocks f.blocks.length k):=fun k hk=>by
  rw[<- J2 he];simp[mL,hk]
 have Jd:(mL f.blocks).length=f.blocks.length:=by simp[mL]
 generalize mL f.blocks=L at sW Yy Jd
 have Yz:Ez f (iW f.blocks f.args.toNat)=.sl ((fA f.al.length (f.al.length+f.aZ.length) f.blocks.length (iW f.blocks f.args.toNat)).flatMap qb) (fA f.al.length (f.al.length+f.aZ.length) f.blocks.length (iW f.blocks f.args.toNat)).length:=by
  unfold Ez;rw[yq];rfl
 rw[Yz] at CJ;clear Yz;generalize iW f.blocks f.args.toNat=RR at CJ ⊢;have OR:∀ k,k<f.blocks.length->(fA f.al.length (f.al.length+f.aZ.length) f.blocks.length RR)[k]? =some (Fg (cF f.al.length (f.al.length+f.aZ.length) RR k)):=fun k hk=>Bt hk;have hCl:=yq f.al.length (f.al.length+f.aZ.length) f.blocks.length RR;generalize fA f.al.length (f.al.length+f.aZ.length) f.blocks.length RR=CP at CJ OR hCl;refine SS ?_;refine cl CH (SS ?_);refine af (aB (aj (ag ?_)));refine af (gS (bP (aj (SS ?_))));refine cl CJ (SS ?_);refine er (SS ?_);refine cl sW (SS ?_);refine af (aB (az (SS ?_)))
 refine af (bR (fun s=>(∃ N,Ghost prog s ⟨aD [],fun _=>none,N⟩)/\(range f.blocks.length).all (qZ f RR)=true) (cQ (α:=Nat×Nat) (fun q=>⟨aD [(1,.pt (aH f)),(4,.sl (CP.flatMap qb) CP.length),(5,bx L),(6,I q.1)],fun _=>none,q.2⟩)
  (fun q=>q.1<=f.blocks.length/\(range q.1).all (qZ f RR)=true) (fun q=>f.blocks.length - q.1) (0,1) (fQ eH) ⟨Nat.zero_le _,rfl⟩ ?_) ?_)
 .rintro⟨k,N⟩ ⟨hk,bC⟩;dsimp only at hk bC ⊢;refine aN ?_;refine af ⟨_,rfl,fun h=>?_,fun h=>?_⟩
  .have ao:k<f.blocks.length:=by simpa using h
   have hx:f.blocks[k]? =some f.blocks[k]:=aM ao;have cz:f.blocks[k]∈f.blocks:=cy _;have Dr:=OR k ao;have cq:qZ f RR k=false->(if(range f.blocks.length).all (qZ f RR)=true then(0:Int) else 81)=81:=fun hq=>by rw[j5 ao hq];rfl
   have zY:qZ f RR k=((cF f.al.length (f.al.length+f.aZ.length) RR k).any||((range f.blocks[k].ins.length).all (AP f RR k f.blocks[k].ins (cF f.al.length (f.al.length+f.aZ.length) RR k))&&ta (fB f.al.length f.blocks[k].ins (cF f.al.length (f.al.length+f.aZ.length) RR k)) (cK f.blocks[k].fin))):=by
    unfold qZ;simp only[getD_some hx]
   have cJ:(cF f.al.length (f.al.length+f.aZ.length) RR k).is.length=f.al.length+f.aZ.length:=JL;generalize f.blocks[k]=x at hx cz zY;generalize cF f.al.length (f.al.length+f.aZ.length) RR k=c at Dr zY cJ;obtain⟨ca,C⟩:=c;refine aB (aj ?_);cases ca with
   |true=>
    refine aN ?_;refine af (cx rfl (fun h=>jw (mO (aq ?_))) fun h=>oH);exact af (aK (k+1,N) (fQ eH) ⟨oM,lN bC zY⟩ oM)
   |false=>
   refine aN ?_;refine af (cx rfl (fun h=>oH) fun h=>bP (az ?_));rw[show({ any:=false,is:=C }:Cert).any=false from rfl,Bool.false_or] at zY;refine bB ?_;refine af (aW (aQ (l:=[(1,.pt (aH f)),(4,.sl (CP.flatMap qb) CP.length),(5,bx L),(6,I k),(7,.rp N 0)]) (ml:=[(N,.cells (cH ⟨false,C⟩) 158)]) eH ⟨up_same _ _ _,trivial⟩) (aj (dz ?_)));have cZ:=(hF.ok.blk x cz).len;have ak':=hF.ins x cz;have AI:=hF.Ja k x hx;have hAg:=Yy k ao;have ala:=JM (fun b hb t ht=>((hF.ok.blk b hb).to t ht).1) f.blocks.length k;have ah1:=hF.ok.blk;have J:∀ y q,q0 f RR k y q=q0 f RR k y q:=fun _ _=>rfl;refine af (aB (az (SS ?_)))
   refine af (bR (fun s=>∃ N',Ghost prog s ⟨aD [(1,.pt (aH f)),(4,.sl (CP.flatMap qb) CP.length),(5,bx L),(6,I k),(7,.rp N 0)],bf [(N,.cells (cH (fB f.al.length x.ins ⟨false,C⟩)) 158)],N'⟩/\N<N'/\(range x.ins.length).all (AP f RR k x.ins ⟨false,C⟩)=true) (cQ (α:=Nat×Nat) (fun j=>⟨aD [(1,.pt (aH f)),(4,.sl (CP.flatMap qb) CP.length),(5,bx L),(6,I k),(7,.rp N 0),(8,iF x.ins),(9,I j.1)],bf [(N,.cells (cH (fB f.al.length (x.ins.take j.1) ⟨false,C⟩)) 158)],j.2⟩)
    (fun j=>j.1<=x.ins.length/\N<j.2/\(range j.1).all (AP f RR k x.ins ⟨false,C⟩)=true) (fun j=>x.ins.length - j.1) (0,N+1) (aQ eH ⟨up_same _ _ _,trivial⟩) ⟨Nat.zero_le _,Nat.lt_succ_self _,rfl⟩ ?_) ?_)
   .rintro⟨j,M⟩ ⟨hj,hM,wa⟩;dsimp only at hj hM wa ⊢;have aF:∀ y,x.ins[j]? =some y->fB f.al.length (x.ins.take (j+1)) ⟨false,C⟩=xq f.al.length (fB f.al.length (x.ins.take j) ⟨false,C⟩) y:=fun y hy=>oB hy;have fS:j=x.ins.length->fB f.al.length (x.ins.take j) ⟨false,C⟩=fB f.al.length x.ins ⟨false,C⟩:=fun e=>by rw[e,List.take_length]
    have zX:=(DD f.al.length (x.ins.take j) ⟨false,C⟩).trans cJ;have dK:AP f RR k x.ins ⟨false,C⟩ j=(opsV f.al.length (fB f.al.length (x.ins.take j) ⟨false,C⟩) (x.ins.getD j eB)&&CL f RR k (x.ins.getD j eB)):=rfl;generalize fB f.al.length (x.ins.take j) ⟨false,C⟩=d at aF fS zX dK;refine aP ?_;refine af ⟨_,rfl,fun h=>?_,fun h=>?_⟩
    .have cV:j<x.ins.length:=by simpa using h
     have hy:x.ins[j]? =some x.ins[j]:=aM cV;have aF:=aF _ hy;rw[getD_some hy] at dK;have vY:=ak' _ (cy cV);have uC:=AI j _ hy;have tS:AP f RR k x.ins ⟨false,C⟩ j=false->(if(range f.blocks.length).all (qZ f RR)=true then(0:Int) else 81)=81:=fun hq=>cq (by rw[zY,j5 cV hq];rfl);generalize x.ins[j]=y at hy aF dK vY uC;refine az (bB ?_);refine af (aW (lO (i:=M) (l:=[(1,.pt (aH f)),(4,.sl (CP.flatMap qb) CP.length),(5,bx L),(6,I k),(7,.rp N 0),(8,iF x.ins),(9,I j),(10,.pt (bu y))]) (ml:=[(N,.cells (cH d) 158)]) (up_same _ _ _) ⟨rfl,rfl,rfl,rfl,G8 oG,rfl,rfl,oX,trivial⟩ ⟨z9 oG (aC oG (aC oG (up_same _ _ _))) rfl,trivial⟩) (eI (fun s=>Ghost prog s ⟨aD [(1,.pt (aH f)),(4,.sl (CP.flatMap qb) CP.length),(5,bx L),(6,I k),(7,.rp N 0),(8,iF x.ins),(9,I j),(10,.pt (bu y))],bf [(N,.cells (cH d) 158)],M+1⟩/\opsV f.al.length d y=true) ?_ ?_))
     .have bZ:=(ah1 x cz).ins y (bU hy);clear aF uC;obtain⟨X,yt,ya,yb,yn,yl⟩:=y;have qC:opsV f.al.length d ⟨X,yt,ya,yb,yn,yl⟩=((X !=17||d.is.getD ((f.al.length:Int)+yn).toNat false)&&ta d (cP ⟨X,yt,ya,yb,yn,yl⟩)):=rfl;have zh:=zh (x:=⟨X,yt,ya,yb,yn,yl⟩) (fun ho=>by have:=bZ.ar ho;dsimp only at this ⊢;omega)
      have uc:=uc (c:=d) (rs:=cP ⟨X,yt,ya,yb,yn,yl⟩) (fun r hr=>by
       obtain⟨i,h1,h2⟩:=vY.2.r r hr
       exact⟨i,oG,h2⟩)
      generalize ta d (cP ⟨X,yt,ya,yb,yn,yl⟩)=v at uc qC;generalize cP ⟨X,yt,ya,yb,yn,yl⟩=rs at uc zh;have Xq:opsV f.al.length d ⟨X,yt,ya,yb,yn,yl⟩=false->I 81=I (if(range f.blocks.length).all (qZ f RR)=true then 0 else 81):=fun hq=>by rw[tS (by rw[dK,hq];rfl)]
      refine dE abp ?_;by_cases iR:X=17
      .obtain⟨i,hi,e⟩:=vY.2.s iR;dsimp only at e;subst e;have YA:d.is[f.al.length+i]? =some d.is[f.al.length+i]:=aM oG;have dY:(X==17)=true:=by simp[iR]
       rw[show((f.al.length:Int)+(i:Int)).toNat=f.al.length+i by omega,getD_some YA,show(X !=17)=false by simp[iR],Bool.false_or] at qC;generalize d.is[f.al.length+i]=b at YA qC;have hqn:({ op:=X,to:=yt,a:=ya,b:=yb,n:=(i:Int),args:=yl }:bE).n=(i:Int):=rfl;refine aJ ?_;refine bK ?_;refine bt rfl rfl (ep rfl (up_same _ _ _) V.h V.h rfl) (fun hc=>⟨ak,(ez V.h V.h (by first|(simp;done)|omega|exact bD rfl))⟩) ?_;refine SS ?_;refine gc zh (gc uc (ag ?_));refine a8 bc (aw rfl (fun hp=>aj (SS ?_)) fun hp=>bd ⟨aQ eH ⟨up_same _ _ _,trivial⟩,by rw[qC];revert hp;cases b<;>cases v<;>simp⟩);exact af (aY (aR (br (aR (br (aR (av rfl (Xq (by rw[qC];revert hp;cases b<;>cases v<;>simp)))))))))
      .have dY:(X==17)=false:=by simp[iR]
       rw[show(X !=17)=true by simp[iR],Bool.true_or,Bool.true_and] at qC;refine aP ?_;(iterate 11 refine z fun _ _=>?_);refine ag ?_;refine bt rfl rfl (ep rfl (up_same _ _ _) V.h V.h rfl) (fun hc=>⟨ak,(ez V.h V.h (by first|(simp;done)|omega|exact bD rfl))⟩) ?_;refine SS ?_;refine gc zh (gc uc (ag ?_));refine a8 bc (aw rfl (fun hp=>aj (SS ?_)) fun hp=>bd ⟨aQ eH ⟨up_same _ _ _,trivial⟩,by rw[qC];revert hp;cases v<;>simp⟩);exact af (aY (aR (br (aR (br (aR (av rfl (Xq (by rw[qC];revert hp;cases v<;>simp)))))))))
     rintro s ⟨hg,Xr⟩;rw[Xr,Bool.true_and] at dK;clear Xr;have sN:=sN (x:=y)
     have hp:Fb d.is.length (dL y):=by
      rcases vY.1.w with e|⟨i,h1,h2⟩
      .exact .inl e
      .exact .inr ⟨i,oG,h2⟩
     have kw:=kA (c:=d) oG hp;have v9:=(GN d (dL y)).trans zX
     have kv:y.op=18->PCall prog 124 [.agg (cH (jR d (dL y))),I ((f.al.length:Int)+y.n)] (.agg (cH (jR (jR d (dL y)) ((f.al.length:Int)+y.n)))):=fun e=>kA oG (by
      obtain⟨i,h1,h2⟩:=vY.1.s e
      exact .inr ⟨f.al.length+i,oG,by rw[h2];omega⟩)
     have fO:y.op=18->0<=y.n/\y.n<=2000:=fun e=>by
      obtain⟨i,h1,h2⟩:=vY.1.s e;omega
     have tU:=aF;unfold xq at tU;generalize jR d (dL y)=d1 at kw v9 kv tU;generalize dL y=w at sN kw;have kA:=kw;refine⟨_,hg,pI abq ?_⟩;clear hg;refine ag ?_;refine cl sN (cl kA (SS ?_));refine a8 bc (aW (aQ (l:=[(1,.pt (aH f)),(4,.sl (CP.flatMap qb) CP.length),(5,bx L),(6,I k),(7,.rp N 0),(8,iF x.ins),(9,I j),(10,.pt (bu y))]) (ml:=[(N,.cells (cH d1) 158)]) eH ⟨up_same _ _ _,trivial⟩) (eI (fun s=>Ghost prog s ⟨aD [(1,.pt (aH f)),(4,.sl (CP.flatMap qb) CP.length),(5,bx L),(6,I k),(7,.rp N 0),(8,iF x.ins),(9,I j),(10,.pt (bu y))],bf [(N,.cells (cH (fB f.al.length (x.ins.take (j+1)) ⟨false,C⟩)) 158)],M+1⟩) (aj ?_) ?_))
     .refine aq ?_;refine af (aw rfl (fun eR=>lm ?_) fun eR=>bd ?_)
      .have eR:y.op=18:=by simpa using eR
       rw[if_pos eR] at tU;have kA:=kv eR;have jY:=fO eR;refine dz ?_;refine cl kA (SS ?_);refine af (aQ eH ⟨?_,trivial⟩);rw[tU];exact up_same _ _ _
      .have eR:¬ y.op=18:=by simpa using eR
       rw[if_neg eR] at tU;refine aQ eH ⟨?_,trivial⟩;rw[tU];exact up_same _ _ _
     intro s hg;refine⟨_,hg,az ?_⟩;clear hg tU kw kv v9 kA sN hp fO aF;refine SS ?_;generalize YB:fB f.al.length (x.ins.take (j+1)) ⟨false,C⟩=dj
     refine af (cQ (α:=Nat×Nat) (fun q=>⟨aD [(1,.pt (aH f)),(4,.sl (CP.flatMap qb) CP.length),(5,bx L),(6,I k),(7,.rp N 0),(8,iF x.ins),(9,I j),(10,.pt (bu y)),(11,I q.1)],bf [(N,.cells (cH dj) 158)],q.2⟩)
      (fun q=>q.1<=y.args.length/\N<q.2/\(q.1=0\/y.op=19)/\(range q.1).all (q0 f RR k y)=true) (fun q=>y.args.length - q.1) (0,M+1) (aQ eH ⟨up_same _ _ _,trivial⟩) ⟨Nat.zero_le _,oM,.inl rfl,rfl⟩ ?_)
     rintro⟨q,M2⟩ ⟨hq,ik,alb,Gd⟩;dsimp only at hq ik alb Gd ⊢;by_cases fF:y.op=19
     .have dY:(y.op==19)=true:=by simp[fF]
      have YC:cr y=true:=by simp[cr,fF]
      have uC:=(uC YC).1;have vT:CL f RR k y=(range y.args.length).all (q0 f RR k y):=by unfold CL;rw[YC];rfl
      have FY:∀ p∈bH f.blocks f.blocks.length k,∃ pn:Nat,p=pn/\pn<f.blocks.length:=fun p hp=>by
       obtain⟨b,h1,h2,_⟩:=Gu.1 hp;exact⟨b,h1,h2⟩
      have J:∀ q,q0 f RR k y q=((cF f.al.length (f.al.length+f.aZ.length) RR ((bH f.blocks f.blocks.length k).getD q 0).toNat).any||(nV (f.blocks.getD ((bH f.blocks f.blocks.length k).getD q 0).toNat ki).fin k (fB f.al.length (f.blocks.getD ((bH f.blocks f.blocks.length k).getD q 0).toNat ki).ins (cF f.al.length (f.al.length+f.aZ.length) RR ((bH f.blocks f.blocks.length k).getD q 0).toNat))).is.getD (y.args.getD q 0).toNat false):=fun q=>rfl;have AG:=vY.2.p fF;have Om:=Gv hw f.blocks.length k;generalize bH f.blocks f.blocks.length k=A at uC FY J hAg Om;by_cases Dq:q<y.args.length
      .have jT:decide ((q:Int)<(y.args.length:Int))=true:=decide_eq_true oG;refine bK ?_;refine ag ?_;refine af ⟨_,rfl,fun h=>?_,fun h=>oH⟩;have J:=J q;have YD:A[q]? =some A[q]:=aM oG;obtain⟨pn,e1,Dk⟩:=FY _ (cy (h:=by omega):A[q]∈A);rw[e1] at YD;clear e1;rw[getD_some YD,bN] at J;have Bk:=OR pn Dk;have Nb:(cF f.al.length (f.al.length+f.aZ.length) RR pn).is.length=f.al.length+f.aZ.length:=JL;generalize cF f.al.length (f.al.length+f.aZ.length) RR pn=cp at Bk J Nb;obtain⟨pa,pi⟩:=cp;refine ws (bK ?_);refine af (aB (aj ?_));cases pa with
       |true=>
        refine aN ?_;refine af (cx rfl (fun h=>jw (mO (aq ?_))) fun h=>oH);exact af (aK (q+1,M2) (aQ eH ⟨up_same _ _ _,trivial⟩) ⟨oM,ik,.inr fF,lN Gd J⟩ oM)
       |false=>
       refine aN ?_;refine af (cx rfl (fun h=>oH) fun h=>bP (pI abr ?_));have vX:f.blocks[pn]? =some f.blocks[pn]:=aM Dk;have rj:f.blocks[pn]∈f.blocks:=cy _;rw[getD_some vX] at J;generalize f.blocks[pn]=xp at vX rj J;have xr:=xr (c:=⟨false,pi⟩) vX Nb oG (fun y hy=>(hF.ins xp rj y hy).1) (by have:=(hF.ok.blk xp rj).len;omega);have iN:=(DD f.al.length xp.ins ⟨false,pi⟩).trans Nb;generalize fB f.al.length xp.ins ⟨false,pi⟩=pc at xr J iN
       have zi:=zi (c:=pc) (to:=(k:Int)) vX (by have:=hw xp rj;omega) oG (by
        rcases hF.wr xp rj with e|⟨r,h1,h2⟩
        .exact .inl e
        .exact .inr ⟨r,oG,h2⟩)
       have A2:=(Qp xp.fin k pc).trans iN;generalize nV xp.fin k pc=zQ at zi J A2;have FP:y.args[q]? =some y.args[q]:=aM Dq;obtain⟨ri,On,e2⟩:=AG _ (cy Dq);rw[e2] at FP;clear e2;have YE:zQ.is[ri]? =some zQ.is[ri]:=aM oG;rw[getD_some FP,bN,getD_some YE] at J;generalize zQ.is[ri]=bz at YE J;have J:q0 f RR k y q=bz:=J;refine aJ ?_;refine cl xr (cl zi (ag ?_));refine a8 bc (aW (lO (i:=M2) (l:=[(1,.pt (aH f)),(4,.sl (CP.flatMap qb) CP.length),(5,bx L),(6,I k),(7,.rp N 0),(8,iF x.ins),(9,I j),(10,.pt (bu y)),(11,I q),(13,.pt (cH zQ))]) (ml:=[(N,.cells (cH dj) 158)]) (up_same _ _ _) ⟨rfl,rfl,rfl,rfl,G8 oG,rfl,rfl,rfl,rfl,oX,trivial⟩ ⟨z9 oG (aC oG (aC oG (up_same _ _ _))) rfl,trivial⟩) (dE abt (bK ?_)));refine ag ?_;refine a8 bc (aw rfl (fun hp=>aj ?_) fun hp=>bS ?_)
       .have OS:bz=false:=by simpa using hp
        refine SS ?_;refine af (aY (br (br (aR (br (aR (av (d:=I 81) rfl ?_)))))));rw[tS (by rw[dK,vT,j5 Dq (by rw[J,OS])])]
       .have OS:bz=true:=by simpa using hp
        refine aq ?_;exact af (aK (q+1,M2+1) (aQ eH ⟨up_same _ _ _,trivial⟩) ⟨oM,oM,.inr fF,lN Gd (by rw[J,OS])⟩ oM)
      .have jT:decide ((q:Int)<(y.args.length:Int))=false:=decide_eq_false oG;have:q=y.args.length:=by omega
       subst this;rw[<- vT] at Gd;refine bK ?_;refine ag ?_;refine af ⟨_,rfl,fun h=>oH,fun h=>?_⟩;show AOps _ _ _ _ _ _ _ _ _;refine aq ?_;refine af (aK (j+1,M2) (aQ eH ⟨?_,trivial⟩) ⟨oM,ik,lN wa (by rw[dK,Gd])⟩ oM);dsimp only;rw[YB];exact up_same _ _ _
     .have dY:(y.op==19)=false:=by simp[fF]
      have vT:CL f RR k y=true:=by unfold CL cr;simp[fF]
      refine aP ?_;(iterate 5 refine z fun _ _=>?_);refine SS ?_;refine af ⟨_,rfl,fun h=>oH,fun h=>?_⟩;show AOps _ _ _ _ _ _ _ _ _;refine aq ?_;refine af (aK (j+1,M2) (aQ eH ⟨?_,trivial⟩) ⟨oM,ik,lN wa (by rw[dK,vT])⟩ oM);dsimp only;rw[YB];exact up_same _ _ _
    .have a9:¬ j<x.ins.length:=by simpa using h
     have:j=x.ins.length:=by omega
     subst this;rw[<- fS rfl];exact⟨M,aQ eH ⟨up_same _ _ _,trivial⟩,hM,wa⟩
   .rintro s ⟨M,hg,hM,oA⟩;rw[oA,Bool.true_and] at zY;have zX:=(DD f.al.length x.ins ⟨false,C⟩).trans cJ;refine⟨_,hg,dE abu ?_⟩;generalize fB f.al.length x.ins ⟨false,C⟩=d at zY zX;have It:=It (x:=x.fin) (fun h5 ho=>by have:=(hF.ok.akA x cz h5).ar ho;omega) (fun h1=>by have:=(hF.ok.ends x cz).fin.a2 (by rcases h1 with e|e<;>simp[aU,e]);omega)
    have uc:=uc (c:=d) (rs:=cK x.fin) (fun r hr=>by
     obtain⟨i,h1,h2⟩:=hF.rd x cz r hr
     exact⟨i,oG,h2⟩)
    rw[<- zY] at uc;generalize cK x.fin=rs at It uc;refine dz ?_;refine cl It (cl uc (SS ?_));refine a8 bc (aw rfl (fun hp=>?_) fun hp=>bS ?_)
    .refine ws (SS ?_);refine af (aY (br (aR (av (d:=I 81) rfl ?_))));rw[cq (by simpa using hp)]
    .refine aq ?_;exact af (aK (k+1,M) (fQ eH) ⟨oM,lN bC (by simpa using hp)⟩ oM)
  .have a9:¬ k<f.blocks.length:=by simpa using h
   have:k=f.blocks.length:=by omega
   subst this;exact⟨⟨N,fQ (l:=[]) trivial⟩,bC⟩
 .rintro s ⟨⟨N,hg⟩,bC⟩;refine⟨_,hg,aj ?_⟩;refine SS ?_;refine af (av (d:=I 0) rfl ?_);rw[bC];rfl
end Go.Proofs.Tryz.K
end
namespace Go.Argus
open Go Go.Abs
section
variable{beh:Nat->List Int}{w:Int}{S:Nat->Prop}(hS:∀ x,S x->∀ c∈beh x,c≠w->S c.toNat)
include hS
theorem SV:∀ (k:Nat) (s:List Bool×List Int) (b:Nat),S b->(∀ i,s.1.getD i false=true->S i)->∀ i,(eO beh w k s b).1.getD i false=true->S i
 |0,s,b,_,h,i,hi=>h i hi
 |k+1,s,b,hb,h,i,hi=>by
  rw[wi] at hi
  have h1:∀ i,(s.1.set b true).getD i false=true->S i:=fun i hi=>by
   rw[bl,List.getElem?_set] at hi;by_cases e:b=i
   .subst e;exact hb
   .rw[if_neg e, <- List.getD_eq_getElem?_getD] at hi;exact h i hi
  have key:∀ l:List Int,(∀ c∈l,c∈beh b)->∀ t:List Bool×List Int,(∀ i,t.1.getD i false=true->S i)->∀ i,(dZ beh w k t l).1.getD i false=true->S i:=fun l=>by
   induction l with
   |nil=>exact fun _ t ht i hi=>ht i hi
   |cons c l ih=>
    intro hl t ht i hi;unfold dZ at hi;rw[List.foldl_cons] at hi;refine ih (fun c hc=>hl c (by simp[hc])) _ ?_ i hi;split
    .rename_i hc;exact SV k t c.toNat (hS b hb c (hl c oS) hc.2) ht
    .exact ht
  exact key (beh b) (fun _ h=>h) _ h1 i hi
theorem GQ{n:Nat}(h0:S 0):∀ i,(cO beh n w).getD i false=true->S i:=fun i hi=>by
 have C:∀ i,(replicate n false).getD i false=false:=fun i=>by
  rw[bl,List.getElem?_replicate];split<;>rfl
 unfold cO at hi;split at hi
 .rw[C] at hi;cases hi
 .exact SV hS n _ 0 h0 (fun i hi=>by rw[C] at hi;cases hi) i hi
end
theorem JN{beh:Nat->List Int}{n:Nat}{w:Int}(hb:∀ b,∀ c∈beh b,0<=c/\c.toNat<n)(hn:0<n)(C:w≠0):(cO beh n w).getD 0 false=true/\∀ x,(cO beh n w).getD x false=true->∀ c∈beh x,c≠w->(cO beh n w).getD c.toNat false=true:=by
 obtain⟨_,h2,h3⟩:=Fj hb hn w;unfold cO;rw[if_neg C];exact⟨h2,h3⟩
theorem acN{beh:Nat->List Int}{n:Nat}{w:Int}(hb:∀ b,∀ c∈beh b,0<=c/\c.toNat<n)(hn:0<n){o:List Bool}(hl:o.length=n)(h0:o.getD 0 false=true)
 (hc:∀ x,o.getD x false=true->∀ c∈beh x,c≠w->o.getD c.toNat false=true) (hs:∀ i,o.getD i false=true->(cO beh n w).getD i false=true):o=cO beh n w:=by
 have hr:=wg hb hn w;apply List.ext_getElem?;intro i;by_cases hi:i<n
 .have h1:o[i]? =some o[i]:=aM oG;have h2:(cO beh n w)[i]? =some (cO beh n w)[i]:=aM oG;have e1:o.getD i false=o[i]:=by simp[bl,h1]
  have e2:(cO beh n w).getD i false=(cO beh n w)[i]:=by simp[bl,h2]
  rw[h1,h2];congr 1;rw[Bool.eq_iff_iff, <- e1, <- e2];exact⟨hs i,GQ (S:=fun i=>o.getD i false=true) hc h0 i⟩
 .rw[List.getElem?_eq_none oG,List.getElem?_eq_none oG]
def dB(beh:Nat->List Int)(n a b:Nat):Bool:=(cO beh n (-1)).getD a false&&((cO beh n (-1)).getD b false&& !(cO beh n a).getD b false)
def H0(beh:Nat->List Int)(n b:Nat)(p:Int)(a:Nat):Int:=if a≠b/\dB beh n a b=true/\(p<0\/dB beh n p.toNat a=true) then a else p
def iy(beh:Nat->List Int)(n b k:Nat):Int:=(range k).foldl (H0 beh n b) (-1)
def Cn(beh:Nat->List Int)(n:Nat):List Int:=(range n).map fun b=>iy beh n b n
theorem JO(beh:Nat->List Int)(n b k:Nat):iy beh n b (k+1)=H0 beh n b (iy beh n b k) k:=by
 unfold iy;rw[List.range_succ,List.foldl_append];rfl
theorem ac9{beh:Nat->List Int}{n:Nat}(hb:∀ b,∀ c∈beh b,0<=c/\c.toNat<n)(hn:0<n){a x:Nat}:(cO beh n a).getD x false=true↔Av (iX beh) a x:=by
 by_cases h0:a=0
 .subst h0;constructor
  .intro h;unfold cO at h;rw[if_pos (show((0:Nat):Int)=0 from rfl),bl,List.getElem?_replicate] at h;split at h<;>cases h
  .intro h;exfalso
   induction h with
   |zero h=>exact h rfl
   |step _ _ _ ih=>exact ih
 .constructor
  .refine GQ (S:=fun i=>Av (iX beh) a i) (fun x hx c hc C=>?_) (.zero (fun e=>h0 e.symm)) x;have:=hb x c hc;have e:((c.toNat:Nat):Int)=c:=Int.toNat_of_nonneg this.1;refine .step hx ?_ fun J=>C (by rw[<- e,J]);show((c.toNat:Nat):Int)∈beh x;rw[e];exact hc
  .intro h;obtain⟨h1,h2⟩:=JN (w:=(a:Int)) hb hn oG
   induction h with
   |zero _=>exact h1
   |step _ e C ih=>
    have:=h2 _ ih _ e oG
    rwa[bN] at this
theorem bL.chain{N:Nat->Nat}{a c x:Nat}(h1:bL N a x)(h2:bL N c x):bL N a c\/bL N c a:=by
 induction h1 with
 |refl=>exact .inr h2
 |@up x h1 ih=>
  rcases h2.inv with e|h2
  .subst e;exact .inl (.up h1)
  .exact ih h2
section
variable{beh ahd:Nat->List Int}{n:Nat}(h:ua beh ahd n)
include h
theorem wU{a b:Nat}:dB beh n a b=true↔bM beh n a/\bM beh n b/\vH beh a b:=by
 unfold dB;rw[aO,aO,Bool.not_eq_true'];show bM beh n a/\bM beh n b/\_↔_;refine and_congr_right fun _=>and_congr_right fun _=>?_;unfold vH;rw[<- ac9 h.to h.pos,Bool.not_eq_true]
theorem KB{b:Nat}(rb:bM beh n b):∀ k,(iy beh n b k= -1/\∀ a,a<k->a≠b->¬ dB beh n a b=true)\/
 ∃ q:Nat,iy beh n b k=q/\q≠b/\dB beh n q b=true/\∀ a,a<k->a≠b->dB beh n a b=true->bL (fu beh ahd n) a q
 |0=>.inl ⟨rfl,fun a ha=>absurd ha (Nat.not_lt_zero _)⟩
 |k+1=>by
  rw[JO];unfold H0;rcases KB rb k with⟨e,hn⟩|⟨q,e,hq,dq,hn⟩
  .rw[e];by_cases hc:k≠b/\dB beh n k b=true
   .rw[if_pos ⟨hc.1,hc.2,.inl oG⟩];refine .inr ⟨k,rfl,hc.1,hc.2,fun a ha J C=>?_⟩;by_cases M:a=k
    .subst M;exact .refl _
    .exact absurd C (hn a oG J)
   .rw[if_neg fun hx=>hc ⟨hx.1,hx.2.1⟩];refine .inl ⟨rfl,fun a ha J C=>?_⟩;by_cases M:a=k
    .subst M;exact hc ⟨J,C⟩
    .exact hn a oG J C
  .rw[e,bN];have rq:=((wU h).1 dq).1;by_cases hc:k≠b/\dB beh n k b=true/\((q:Int)<0\/dB beh n q k=true)
   .rw[if_pos hc];refine .inr ⟨k,rfl,hc.1,hc.2.1,fun a ha J C=>?_⟩;by_cases M:a=k
    .subst M;exact .refl _
    .have dk:=(wU h).1 (hc.2.2.resolve_left oG);exact(hn a oG J C).trans ((sj h dk.2.1).2 dk.2.2)
   .rw[if_neg hc];refine .inr ⟨q,rfl,hq,dq,fun a ha J C=>?_⟩;by_cases M:a=k
    .subst M;have X:=(wU h).1 C;have d2:=(wU h).1 dq;rcases((sj h rb).2 X.2.2).chain ((sj h rb).2 d2.2.2) with g|g
     .exact g
     .exact absurd ⟨J,C,.inr ((wU h).2 ⟨rq,X.1,(sj h X.1).1 g⟩)⟩ hc
    .exact hn a oG J C
theorem ac'(b:Nat):iy beh n b n=dC (gg beh ahd n) b:=by
 by_cases C:bM beh n b
 .by_cases hz:b=0
  .subst hz;rw[Rm h];rcases KB h C n with⟨e,_⟩|⟨q,_,hq,dq,_⟩
   .exact e
   .exact absurd (.zero fun e=>hq e.symm) ((wU h).1 dq).2.2
  .obtain⟨p1,X,p3⟩:=HB h C hz;have aE:fu beh ahd n b≠b:=fun e=>by rw[e] at p3;omega
   have hd:dB beh n (fu beh ahd n b) b=true:=(wU h).2 ⟨X,C,(sj h C).1 (.up (.refl _))⟩;rw[p1];rcases KB h C n with⟨_,hn⟩|⟨q,e,hq,dq,hn⟩
   .exact absurd hd (hn _ (B4 h X) aE)
   .rw[e];have a1:=hn _ (B4 h X) aE hd;have d:=(wU h).1 dq;rcases((sj h C).2 d.2.2).inv with e'|a2
    .exact absurd e' hq
    .have J:=((pS h).low d.1 a1).2;have M:=((pS h).low X a2).2
     have:q=fu beh ahd n b:=by
      rcases J with J|J
      .exact J.symm
      .rcases M with M|M
       .exact M
       .omega
     rw[this]
 .rw[SJ h C]
  have:∀ k,iy beh n b k= -1:=fun k=>by
   induction k with
   |zero=>rfl
   |succ k ih=>
    rw[JO,ih];unfold H0;rw[if_neg fun hx=>C ((wU h).1 hx.2.1).2.1]
  exact this n
theorem aea:Cn beh n=gg beh ahd n:=by
 refine List.ext_getElem? fun i=>?_;unfold Cn;have hl:=z2 h;rcases Nat.lt_or_ge i n with g|g
 .rw[List.getElem?_map,List.getElem?_range g,aM (show i<(gg beh ahd n).length by omega)];show some (iy beh n i n)=_;rw[ac' h i];unfold dC;rw[bN,bl,aM (show i<(gg beh ahd n).length by omega)];rfl
 .rw[List.getElem?_eq_none (by simpa using g),List.getElem?_eq_none oG]
end
section
variable{beh ahd:Nat->List Int}{n:Nat}(h:ua beh ahd n)
include h
end
end Go.Argus
section
open Go Go.Abs Go.Proofs Go.Argus
namespace Go.Proofs.Tryz.K
theorem alc{f:aG}(hF:tO f)(hw:∀ b∈f.blocks,b.fin.aL.length<=9){w:Int}:OCall prog 75 [.agg (aH f),I w] ((cO (aT f) f.blocks.length w).map B) f.blocks.length 4:=by
 have hb:=beh_in hF.ok
 change ∀ b,∀ t∈aT f b,_ at hb
 have FI:=hF.ok.mz;have oq:=hF.ok.pos;have a7:∀ a∈[D.agg (aH f),I w],Tr a:=.cons (.agg (iq f)) (.cons (.s _) .nil);refine zH ald a7 (.map fun _=>.s _) ?_;rw[ale];refine az (ag ?_);refine af (aW (bG [(0,aH f,26)] eH (l:=[(1,I w),(2,.pt (aH f))]) eH) (az ?_));have dn:((f.blocks.length:Nat):Int).toNat=f.blocks.length:=bN _;refine aN ?_;refine af (aW (aQ (l:=[(1,I w),(2,.pt (aH f)),(5,.rs 1 0 f.blocks.length)]) (ml:=[(1,.cells ((replicate f.blocks.length false).map B) 4)]) ⟨rfl,rfl,congrArg (fun k=>D.rs 1 0 k) dn,trivial⟩ ⟨?_,trivial⟩) (aB (aj ?_)))
 .exact congrArg (fun c=>some (Row.cells c 4)) ((congrArg (fun k=>replD k [B false]) dn).trans (wx _ false))
 by_cases Ds:w=0
 .have dY:(w==0)=true:=by simp[Ds]
  have hr:cO (aT f) f.blocks.length w=replicate f.blocks.length false:=by unfold cO;rw[if_pos Ds]
  rw[hr];refine ag ?_;refine af (dN (aB (aj (ag ?_))));exact af (bX (av rfl ⟨1,rfl,rfl⟩))
 have dY:(w==0)=false:=by simp[Ds]
 refine ag ?_;refine af (gS (bP (az ?_)));clear dY;obtain⟨AS,YF⟩:=JN hb oq Ds;have kX:=wg hb oq w;have xK:=fun(o:List Bool)=> @acN (aT f) f.blocks.length w hb oq o;generalize cO (aT f) f.blocks.length w=RR at AS YF kX xK ⊢;have hlz:((replicate f.blocks.length false).map B).length=f.blocks.length:=by simp
 refine aq ?_;refine af (aW (aQ (l:=[(1,I w),(2,.pt (aH f)),(5,.rs 1 0 f.blocks.length)]) (ml:=[(1,.cells (((replicate f.blocks.length false).set 0 true).map B) 4)]) eH ⟨by rw[List.map_set];rfl,trivial⟩) (az (SS ?_)))
 refine af (bR (fun s=>Ghost prog s ⟨aD [(5,.rs 1 0 f.blocks.length)],bf [(1,.cells (RR.map B) 4)],2⟩) (yx (α:=List Bool×Bool) (fun s=>⟨aD [(1,I w),(2,.pt (aH f)),(5,.rs 1 0 f.blocks.length),(6,B s.2)],bf [(1,.cells (s.1.map B) 4)],2⟩)
  (fun s=>s.1.length=f.blocks.length/\s.1.getD 0 false=true/\(∀ i,s.1.getD i false=true->RR.getD i false=true)/\(s.2=false->∀ x,s.1.getD x false=true->∀ c∈aT f x,c≠w->s.1.getD c.toNat false=true)) (fun s=>2*s.1.count false+if s.2=true then 1 else 0) ((replicate f.blocks.length false).set 0 true,true)
  (aQ eH eH) ⟨oS,?_,fun i hi=>?_,fun h=>by cases h⟩ ?_) ?_)
 .rw[z7 oP,if_pos rfl]
 .dsimp only at hi;rw[z7 oP] at hi;by_cases e:i=0
  .rw[e];exact AS
  .rw[if_neg e,bl,List.getElem?_replicate] at hi;split at hi<;>cases hi
 .rintro⟨J,t0⟩ ⟨rF,Ge,zq,vQ⟩;dsimp only at rF Ge zq vQ ⊢;refine SS ?_;refine af ⟨_,rfl,fun ht=>?_,fun ht=>?_⟩
  .refine ws (SS ?_);refine af (az (SS ?_))
   refine af (cQ (α:=Nat×List Bool×Bool) (fun s=>⟨aD [(1,I w),(2,.pt (aH f)),(5,.rs 1 0 f.blocks.length),(6,B s.2.2),(7,I s.1)],bf [(1,.cells (s.2.1.map B) 4)],2⟩)
    (fun s=>s.1<=f.blocks.length/\s.2.1.length=f.blocks.length/\s.2.1.getD 0 false=true/\(∀ i,s.2.1.getD i false=true->RR.getD i false=true)/\(s.2.2=false->s.2.1=J/\∀ x,x<s.1->J.getD x false=true->∀ c∈aT f x,c≠w->J.getD c.toNat false=true)/\(s.2.2=true->s.2.1.count false<J.count false)) (fun s=>f.blocks.length - s.1) (0,J,false)
    (aQ eH eH) ⟨Nat.zero_le _,rF,Ge,zq,fun _=>⟨rfl,fun x hx=>by dsimp only at hx;omega⟩,fun h=>by cases h⟩ ?_)
   rintro⟨k,o,t⟩ ⟨hk,hl,h0,hs,hf,M⟩;dsimp only at hk hl h0 hs hf M ⊢;have xv:(o.map B).length=f.blocks.length:=by simp[hl]
   refine aN ?_;refine af ⟨_,rfl,fun h=>?_,fun h=>?_⟩
   .have ao:k<f.blocks.length:=by simpa using h
    have hx:f.blocks[k]? =some f.blocks[k]:=aM ao;have cz:f.blocks[k]∈f.blocks:=cy _;have lJ:=lJ hx (by have:=hw _ cz;omega);rw[(hF.ed _ cz).2, <- Kj hx] at lJ;have iP:=hb k;have Xs:=YF k
    have bZ:o[k]? =some (o.getD k false):=by
     rw[aM (show k<o.length by omega),getD_some (aM (show k<o.length by omega))]
    have xB:∀ b,o.getD k false=b->o.getD k false=b:=fun _ h=>h
    have jg:(aT f k).length<=100000:=by
     rw[Kj hx];have:=z4 f.blocks[k].fin;have:=hw _ cz;omega
    have kd:=iE (f:=B) bZ;refine aB (aj ?_);generalize alf:aT f k=l at lJ iP Xs jg;cases X:o.getD k false with
    |false=>
     rw[X] at kd;refine aN ?_;refine af (cx rfl (fun h=>jw (mO (aq ?_))) fun h=>oH);refine af (aK (k+1,o,t) (aQ eH eH) ⟨oM,hl,h0,hs,fun h=>⟨(hf h).1,fun x hx C=>?_⟩,M⟩ oM);dsimp only at hx;by_cases e:x=k
     .subst e;rw[<- (hf h).1,X] at C;cases C
     .exact(hf h).2 x oG C
    |true=>
    rw[X] at kd;refine aN ?_;refine af (cx rfl (fun h=>oH) fun h=>bP (aj (ag ?_)));refine cl lJ (SS ?_);refine af (az (SS ?_))
    refine af (cQ (α:=Nat×List Bool×Bool) (fun s=>⟨aD [(1,I w),(2,.pt (aH f)),(5,.rs 1 0 f.blocks.length),(6,B s.2.2),(7,I k),(8,au l),(9,I s.1)],bf [(1,.cells (s.2.1.map B) 4)],2⟩)
     (fun s=>s.1<=l.length/\s.2.1.length=f.blocks.length/\s.2.1.getD 0 false=true/\s.2.1.getD k false=true/\(∀ i,s.2.1.getD i false=true->RR.getD i false=true)/\(s.2.2=false->s.2.1=J/\(∀ x,x<k->J.getD x false=true->∀ c∈aT f x,c≠w->J.getD c.toNat false=true)/\∀ c∈l.take s.1,c≠w->J.getD c.toNat false=true)/\(s.2.2=true->s.2.1.count false<J.count false)) (fun s=>l.length - s.1) (0,o,t)
     (aQ eH eH) ⟨Nat.zero_le _,hl,h0,X,hs,fun h=>⟨(hf h).1,(hf h).2,fun c hc=>by simp at hc⟩,M⟩ ?_)
    clear hl h0 hs hf M xv bZ xB kd X;rintro⟨j,o,t⟩ ⟨hj,hl,h0,X,hs,hf,M⟩;dsimp only at hj hl h0 X hs hf M ⊢;have xv:(o.map B).length=f.blocks.length:=by simp[hl]
    refine aP ?_;refine af ⟨_,rfl,fun h=>?_,fun h=>?_⟩
    .have cV:j<l.length:=by simpa using h
     have hy:l[j]? =some l[j]:=aM cV;have xX:=iP _ (cy cV);have zV:=Xs (hs k X) _ (cy cV);have uv:l.take (j+1)=l.take j++[l[j]]:=by rw[List.take_add_one,hy];rfl
     generalize l[j]=c at hy xX zV uv;obtain⟨i,rfl⟩:=cU xX.1;rw[bN] at xX zV
     have xA:o[i]? =some (o.getD i false):=by
      rw[aM (show i<o.length by omega),getD_some (aM (show i<o.length by omega))]
     have kd:=iE (f:=B) xA;refine ws ?_;by_cases uG:(i:Int)=w
     .have du:((i:Int) !=w)=false:=by simp[uG]
      refine dz ?_;(iterate 8 refine z fun _ _=>?_);refine SS ?_;refine af (aw rfl (fun h=>oH) fun h=>bS (aq ?_));refine af (aK (j+1,o,t) (aQ eH eH) ⟨oM,hl,h0,X,hs,fun h=>⟨(hf h).1,(hf h).2.1,fun c hc aE=>?_⟩,M⟩ oM);dsimp only at hc;rw[uv] at hc;rcases List.mem_append.1 hc with hc|hc
      .exact(hf h).2.2 c hc aE
      .rw[List.mem_singleton.1 hc] at aE;exact absurd uG aE
     .have du:((i:Int) !=w)=true:=by simp[uG]
      cases qA:o.getD i false with
      |true=>
       rw[qA] at kd;refine aJ ?_;refine aq ?_;refine bt rfl rfl (mK rfl rfl rfl V.h V.h) (fun hc=>⟨ak,⟨V.h,oG⟩⟩) (bt rfl rfl (gO rfl rfl kd V.h) (fun hc=>⟨ak,(gP V.h V.h kd)⟩) (ag ?_));refine af (aw rfl (fun h=>oH) fun h=>bS (aq ?_));refine af (aK (j+1,o,t) (aQ eH eH) ⟨oM,hl,h0,X,hs,fun h=>⟨(hf h).1,(hf h).2.1,fun c hc aE=>?_⟩,M⟩ oM);dsimp only at hc;rw[uv] at hc;rcases List.mem_append.1 hc with hc|hc
       .exact(hf h).2.2 c hc aE
       .rw[List.mem_singleton.1 hc,bN, <- (hf h).1];exact qA
      |false=>
       rw[qA] at kd;have sQ:=ad5 (show i<o.length by omega) qA;have sJ:∀ q,(o.set i true).getD q false=if q=i then true else o.getD q false:=fun q=>z7 oG
       refine aJ ?_;refine aq ?_;refine bt rfl rfl (mK rfl rfl rfl V.h V.h) (fun hc=>⟨ak,⟨V.h,oG⟩⟩) (bt rfl rfl (gO rfl rfl kd V.h) (fun hc=>⟨ak,(gP V.h V.h kd)⟩) (ag ?_));refine af (aw rfl (fun h=>aj (dz ?_)) fun h=>oH);refine af (ff (SS ?_));refine af (aq ?_);refine af (aK (j+1,o.set i true,true) (aQ eH ⟨by rw[List.map_set];rfl,trivial⟩) ⟨oM,by dsimp only;rw[List.length_set];exact hl,?_,?_,fun q hq=>?_,fun h=>oH,fun _=>?_⟩ oM)
       .dsimp only;rw[sJ];split
        .rfl
        .exact h0
       .dsimp only;rw[sJ];split
        .rfl
        .exact X
       .dsimp only at hq;rw[sJ] at hq;split at hq
        .rename_i e;rw[e];exact zV uG
        .exact hs q hq
       .dsimp only;cases t with
        |false=>rw[(hf rfl).1] at sQ ⊢;exact sQ
        |true=>exact Nat.lt_trans sQ (M rfl)
    .have a9:¬ j<l.length:=by simpa using h
     rw[df oG] at hf;show AOps _ _ _ _ _ _ _ _ _;refine aq ?_;refine af (aK (k+1,o,t) (aQ eH eH) ⟨oM,hl,h0,hs,fun h=>⟨(hf h).1,fun x hx C=>?_⟩,M⟩ oM);dsimp only at hx;by_cases e:x=k
     .rw[e,alf];exact(hf h).2.2
     .exact(hf h).2.1 x oG C
   .have a9:¬ k<f.blocks.length:=by simpa using h
    refine aK (o,t) (aQ eH eH) ⟨hl,h0,hs,fun h x C=>?_⟩ ?_
    .dsimp only at h C ⊢;have hh:=hf h;rw[hh.1] at C ⊢;by_cases mA:x<k
     .exact hh.2 x mA C
     .exfalso;rw[bl,List.getElem?_eq_none oG] at C;cases C
    .dsimp only;rw[if_pos ht];cases t with
     |false=>rw[(hf rfl).1];simp
     |true=>have:=M rfl;simp;omega
  .have ho:=xK J rF Ge (vQ ht) zq;rw[<- ho];exact aQ eH eH
 .intro s hg;refine⟨_,hg,aj ?_⟩;refine ag ?_;exact af (av rfl ⟨1,rfl,rfl⟩)
theorem Bm{f:aG}(hF:tO f)(C:∀ b∈f.blocks,b.fin.aL.length<=9){w:Int}:PCall prog 75 [.agg (aH f),I w] (dv (cO (aT f) f.blocks.length w)):=by
 have hb:=beh_in hF.ok
 change ∀ b,∀ t∈aT f b,_ at hb
 have hl:=wg (w:=w) hb hF.ok.pos
 have h:=(alc hF C (w:=w)).afJ (fun d hd=>by obtain⟨x,_,rfl⟩:=List.mem_map.1 hd;rfl) (.sl fun d hd=>by
  obtain⟨x,_,rfl⟩:=List.mem_map.1 (List.mem_of_mem_take hd)
  exact .s _)
 rw[c4,df (by simp[hl])] at h;unfold dv;rw[hl];exact h
theorem OT{a b:List Int}:PCall prog 64 [au a,au b] (B (decide (a=b))):=by
 have J:∀ x∈[au a,au b],Tr x:=.cons (cL _) (.cons (cL _) .nil);refine mG Nc.he J fun X=>?_;have hlen:=(X (au a) oS).sl.1;unfold maxLen at hlen;refine bg Nc J (Tr.s _) ?_;rw[alg];refine ws (SS ?_);refine af (aB (aj (aN ?_)));refine af (cx rfl (fun h=>?_) fun h=>bP (aB (az ?_)))
 .refine aB (aj (SS ?_));refine af (bX (av (d:=B false) rfl ?_));have C:a≠b:=fun e=>by subst e;simp at h
  rw[decide_eq_false C]
 have jg:a.length=b.length:=by
  have:¬ ((a.length:Int)≠(b.length:Int)):=by simpa using h
  omega
 clear h;refine SS ?_
 refine af (bR (fun s=>Ghost prog s ⟨aD [],fun _=>none,0⟩/\a=b) (cQ (α:=Nat) (fun k=>⟨aD [(0,au a),(1,au b),(5,I k)],fun _=>none,0⟩)
  (fun k=>k<=a.length/\∀ j,j<k->a[j]? =b[j]?) (fun k=>a.length - k) 0 (ap eH) ⟨oG,fun j hj=>by omega⟩ ?_) ?_)
 .rintro k ⟨hk,hinv⟩;refine aP ?_;refine af ⟨_,rfl,fun h=>?_,fun h=>?_⟩
  .have ao:k<a.length:=by simpa using h
   have hx:a[k]? =some a[k]:=aM ao;have hy:b[k]? =some b[k]:=aM oG;generalize a[k]=x at hx;generalize b[k]=y at hy;refine dE acO (aJ ?_);refine a8 bc (aw rfl (fun hp=>?_) fun hp=>?_)
   .refine ws (SS ?_);refine af (aY (br (aR (av (d:=B false) rfl ?_))))
    have C:a≠b:=fun e=>by
     subst e;rw[hx] at hy;cases hy;simp at hp
    rw[decide_eq_false C]
   .refine bS (aq ?_);refine af (aK (k+1) (ap eH) ⟨oG,fun j hj=>?_⟩ oG);by_cases e:j=k
    .subst e;rw[hx,hy];congr 1;simpa using hp
    .exact hinv j oG
  .have a9:¬ k<a.length:=by simpa using h
   refine⟨fQ (l:=[]) trivial,List.ext_getElem? fun j=>?_⟩;by_cases hj:j<k
   .exact hinv j hj
   .rw[List.getElem?_eq_none oG,List.getElem?_eq_none oG]
 .rintro s ⟨hg,M⟩;refine⟨_,hg,aj ?_⟩;refine SS ?_;refine af (av (d:=B true) rfl ?_);rw[decide_eq_true M]
theorem Dh{a b:List Int}:PCall prog 22 [au a,au b] (B (decide (a=b))):=by
 have OT:=OT (a:=a) (b:=b);refine bg Xt (.cons (cL _) (.cons (cL _) .nil)) (Tr.s _) ?_;rw[alh];refine ws (SS ?_);refine er (ag ?_);refine cl OT (SS ?_);exact af (av rfl rfl)
end Go.Proofs.Tryz.K
namespace Go.Argus
theorem Dt{f:aG}(h:dG f=0):jx f=true:=by
 unfold dG at h;split at h
 .assumption
 .cases h
theorem K2{l:List Bool}{i:Nat}(h:i<l.length):l[i]? =some (l.getD i false):=by
 rw[aM h,getD_some (aM h)]
end Go.Argus
end
namespace Go.Argus
open Go Go.Abs
open Go.Proofs.Tryz.K (nextR lg_ok beh_in ord_in)
section
variable{f:aG}(hF:tO f)
include hF
end
section
variable{f:aG}(hF:tO f)
include hF
end
end Go.Argus
namespace Go.Proofs.Tryz.K
open Go.Abs
theorem ajR:uY=(S1 (G1 uY 0) (S1 (G1 uY 1) (S1 (B1 0 (.loop (S1 (S1 (G1 uY 2) (C1 8 K1 (X1 0))) (B1 1 (S1 (S1 (G1 uY 3) (C1 23 (S1 (G1 uY 4) .ret) K1)) (S1 (G1 uY 5) (G1 uY 6))))))) (S1 (G1 uY 7) .ret)))):=kr
theorem ab':drawInfo (Z ss 6)=some [(35,38),(35,39)]:=kr
theorem ajS:ss=(S1 (G1 ss 0) (S1 (S1 (G1 ss 1) (C1 29 (S1 (G1 ss 2) .ret) K1)) (S1 (S1 (G1 ss 3) (B1 0 (.loop (S1 (S1 (G1 ss 4) (C1 33 K1 (X1 0))) (S1 (B1 1 (S1 (G2 ss 6) (C1 79 (S1 (G1 ss 7) .ret) K1))) (G1 ss 5)))))) (S1 (G1 ss 8) .ret)))):=kr
theorem alp:wI=(S1 (G1 wI 0) (S1 (S1 (G1 wI 1) (B1 0 (.loop (S1 (S1 (G1 wI 2) (C1 9 K1 (X1 0))) (S1 (B1 1 (S1 (G1 wI 4) (C1 17 (S1 (G1 wI 5) .ret) K1))) (G1 wI 3)))))) (S1 (G1 wI 6) .ret))):=kr
theorem sk3:oY=(S1 (G1 oY 0) (S1 (S1 (G1 oY 1) (C1 22 (S1 (G1 oY 2) .ret) K1)) (S1 (G1 oY 3) (S1 (G1 oY 4) (S1 (G1 oY 5) (S1 (G1 oY 6) (S1 (S1 (G1 oY 7) (C1 58 (S1 (G1 oY 8) .ret) K1)) (S1 (S1 (G1 oY 9) (C1 60 (S1 (G1 oY 10) .ret) K1)) (S1 (G1 oY 11) (S1 (G1 oY 12) .ret)))))))))):=kr
theorem ajX:nL=(S1 (G1 nL 0) (S1 (S1 (G1 nL 1) (C1 20 (S1 (G1 nL 2) .ret) K1)) (S1 (S1 (G1 nL 3) (B1 0 (.loop (S1 (S1 (G1 nL 4) (C1 25 K1 (X1 0))) (S1 (B1 1 (S1 (G1 nL 6) (C1 34 (S1 (G1 nL 7) .ret) K1))) (G1 nL 5)))))) (S1 (S1 (G1 nL 8) (B1 2 (.loop (S1 (S1 (G1 nL 9) (C1 39 K1 (X1 2))) (S1 (B1 3 (S1 (G1 nL 11) (C1 48 (S1 (G1 nL 12) .ret) K1))) (G1 nL 10)))))) (S1 (G1 nL 13) .ret))))):=kr
theorem ab7:drawInfo (Z iw 9)=some []:=kr
theorem V9:iw=(S1 (G1 iw 0) (S1 (G1 iw 1) (S1 (S1 (G1 iw 2) (C1 20 (S1 (G1 iw 3) .ret) K1)) (S1 (S1 (G1 iw 4) (C1 25 (S1 (G1 iw 5) .ret) K1)) (S1 (S1 (G1 iw 6) (B1 0 (.loop (S1 (G1 iw 7) (S1 (C1 30 K1 (X1 0)) (S1 (B1 1 (S1 (G1 iw 8) (S1 (G2 iw 9) (S1 (S1 (G1 iw 10) (C1 45 (S1 (S1 (G1 iw 11) (C1 51 (S1 (G1 iw 12) .ret) K1)) (X1 1)) K1)) (S1 (S1 (G1 iw 13) (C1 65 (S1 (G1 iw 14) .ret) K1)) (S1 (G1 iw 15) (B1 2 (.loop (S1 (G1 iw 16) (S1 (C1 73 K1 (X1 2)) (S1 (B1 3 (S1 (G1 iw 17) (S1 (G1 iw 18) (C1 78 (S1 (G1 iw 19) .ret) K1)))) (G1 iw 20)))))))))))) (G1 iw 21))))))) (S1 (G1 iw 22) .ret)))))):=kr
theorem PX:drawInfo (Z eg 12)=some []:=kr
theorem PY:drawInfo (Z eg 15)=some []:=kr
theorem aaG:drawInfo (Z eg 21)=some []:=kr
theorem ajU:eg=(S1 (G1 eg 0) (S1 (G1 eg 1) (S1 (S1 (G1 eg 2) (C1 23 (S1 (G1 eg 3) .ret) K1)) (S1 (G1 eg 4) (S1 (S1 (G1 eg 5) (C1 53 (S1 (G1 eg 6) .ret) K1)) (S1 (G1 eg 7) (S1 (S1 (G1 eg 8) (B1 0 (.loop (S1 (S1 (G1 eg 9) (C1 58 K1 (X1 0))) (S1 (B1 1 (S1 (S1 (G1 eg 11) (C1 70 (S1 (S1 (G2 eg 12) (C1 84 (S1 (G1 eg 13) .ret) K1)) (X1 1)) K1)) (S1 (G1 eg 14) (S1 (S1 (G2 eg 15) (C1 131 (S1 (G1 eg 16) .ret) K1)) (S1 (G1 eg 17) (S1 (G1 eg 18) (B1 2 (.loop (S1 (S1 (G1 eg 19) (C1 141 K1 (X1 2))) (S1 (B1 3 (S1 (G2 eg 21) (C1 153 (S1 (G1 eg 22) .ret) K1))) (G1 eg 20))))))))))) (G1 eg 10)))))) (S1 (S1 (G1 eg 23) (B1 4 (.loop (S1 (S1 (G1 eg 24) (C1 156 K1 (X1 4))) (S1 (B1 5 (S1 (G1 eg 26) (S1 (G1 eg 27) (B1 6 (.loop (S1 (S1 (G1 eg 28) (C1 175 K1 (X1 6))) (S1 (B1 7 (S1 (G1 eg 30) (S1 (S1 (G1 eg 31) (C1 194 (X1 7) K1)) (S1 (S1 (G1 eg 32) (C1 195 (S1 (G1 eg 33) .ret) K1)) (S1 (G1 eg 34) (S1 (G1 eg 35) (C1 214 (S1 (G1 eg 36) .ret) K1))))))) (G1 eg 29)))))))) (G1 eg 25)))))) (S1 (G1 eg 37) .ret))))))))):=kr
theorem acg:drawInfo (Z nM 5)=some []:=kr
theorem ach:drawInfo (Z nM 9)=some [(0,13),(1,13),(3,13),(4,13),(3,18),(4,18)]:=kr
theorem Wz:nM=(S1 (G1 nM 0) (S1 (G1 nM 1) (S1 (S1 (G1 nM 2) (C1 15 (S1 (G1 nM 3) .ret) K1)) (S1 (G1 nM 4) (S1 (G2 nM 5) (S1 (S1 (G1 nM 6) (B1 0 (.rangeFunc (.tmp 32) #[33] (G1 nM 7) (B1 1 (S1 (G1 nM 8) (C1 35 (G2 nM 9) K1)))))) (S1 (G1 nM 10) .ret))))))):=kr
theorem aaC:drawInfo (Z ix 19)=some []:=kr
theorem ajP:ix=(S1 (G1 ix 0) (S1 (G1 ix 1) (S1 (S1 (G1 ix 2) (C1 43 (S1 (G1 ix 3) .ret) K1)) (S1 (G1 ix 4) (S1 (S1 (G1 ix 5) (B1 0 (.loop (S1 (G1 ix 6) (S1 (C1 49 K1 (X1 0)) (S1 (B1 1 (S1 (G1 ix 7) (S1 (S1 (G1 ix 8) (C1 55 (X1 1) K1)) (S1 (G1 ix 9) (C1 86 (S1 (G1 ix 10) .ret) K1))))) (G1 ix 11))))))) (S1 (S1 (G1 ix 12) (B1 2 (.loop (S1 (S1 (G1 ix 13) (C1 90 K1 (X1 2))) (S1 (B1 3 (S1 (S1 (G1 ix 15) (C1 95 (X1 3) K1)) (S1 (G1 ix 16) (B1 4 (.loop (S1 (G1 ix 17) (S1 (C1 105 K1 (X1 4)) (S1 (B1 5 (S1 (G1 ix 18) (S1 (G2 ix 19) (C1 123 (S1 (G1 ix 20) .ret) K1)))) (G1 ix 21))))))))) (G1 ix 14)))))) (S1 (G1 ix 22) .ret))))))):=kr
theorem ab6:drawInfo (Z pV 6)=some []:=kr
theorem ajO:pV=(S1 (G1 pV 0) (S1 (S1 (G1 pV 1) (C1 41 (S1 (G1 pV 2) .ret) K1)) (S1 (S1 (G1 pV 3) (B1 0 (.loop (S1 (G1 pV 4) (S1 (C1 45 K1 (X1 0)) (S1 (B1 1 (S1 (G1 pV 5) (S1 (G2 pV 6) (C1 79 (S1 (G1 pV 7) .ret) K1)))) (G1 pV 8))))))) (S1 (G1 pV 9) .ret)))):=kr
theorem aaK:drawInfo (Z bJ 24)=some []:=kr
theorem aaL:drawInfo (Z bJ 15)=some []:=kr
theorem aaN:drawInfo (Z bJ 53)=some [(1,15),(2,15),(3,15),(4,15),(5,15),(6,15)]:=kr
theorem aaO:drawInfo (Z bJ 59)=some []:=kr
theorem ajZ:bJ=(S1 (G1 bJ 0) (S1 (S1 (G1 bJ 1) (C1 36 (S1 (G1 bJ 2) .ret) K1)) (S1 (G1 bJ 3) (S1 (S1 (G1 bJ 4) (B1 0 (.loop (S1 (G1 bJ 5) (S1 (C1 45 K1 (X1 0)) (S1 (B1 1 (.scope (S1 (G1 bJ 6) (S1 (G1 bJ 7) (S1 (G1 bJ 8) (S1 (G1 bJ 9) (S1 (G1 bJ 10) (S1 (.label 0) (S1 (B1 2 (.loop (S1 (S1 (G1 bJ 11) (C1 57 K1 (X1 2))) (B1 3 (S1 (G1 bJ 12) (S1 (G1 bJ 13) (B1 4 (S1 (G1 bJ 22) (C1 94 (X1 2) (S1 (G1 bJ 23) (C1 104 (S1 (S1 (G2 bJ 24) (B1 7 (.loop (S1 (G1 bJ 25) (S1 (C1 117 K1 (X1 7)) (S1 (B1 8 (S1 (G1 bJ 26) (S1 (G1 bJ 27) (C1 122 (G1 bJ 28) K1)))) (G1 bJ 29))))))) (S1 (G1 bJ 30) (S1 (G1 bJ 31) (C1 142 (G1 bJ 32) K1)))) (S1 (G1 bJ 14) (S1 (G2 bJ 15) (B1 5 (.loop (S1 (G1 bJ 16) (S1 (C1 79 K1 (X1 5)) (S1 (B1 6 (S1 (G1 bJ 17) (S1 (G1 bJ 18) (S1 (G1 bJ 19) (C1 88 (G1 bJ 20) K1))))) (G1 bJ 21))))))))))))))))))) (S1 (G1 bJ 33) (B1 9 (.loop (S1 (S1 (G1 bJ 34) (C1 151 K1 (X1 9))) (S1 (B1 10 (S1 (G1 bJ 36) (S1 (G1 bJ 37) (C1 162 (G1 bJ 38) (G1 bJ 39))))) (S1 (S1 (G1 bJ 40) (G1 bJ 41)) (G1 bJ 35)))))))))))))))) (G1 bJ 42))))))) (S1 (G1 bJ 43) (S1 (G1 bJ 44) (S1 (S1 (G1 bJ 45) (B1 11 (.loop (S1 (G1 bJ 46) (S1 (C1 182 K1 (X1 11)) (S1 (B1 12 (S1 (G1 bJ 47) (S1 (S1 (G1 bJ 48) (C1 196 (X1 12) K1)) (S1 (G1 bJ 49) (S1 (S1 (G1 bJ 50) (B1 13 (.loop (S1 (B1 14 (S1 (G1 bJ 51) (S1 (S1 (G1 bJ 52) (C1 206 (X1 13) K1)) (G2 bJ 53)))) (S1 (G1 bJ 54) (G1 bJ 55)))))) (S1 (G1 bJ 56) (G1 bJ 57))))))) (G1 bJ 58))))))) (S1 (G2 bJ 59) .ret)))))))):=kr
theorem af7:yB=(S1 (G1 yB 0) (S1 (G1 yB 1) (S1 (G1 yB 2) (C1 24 (S1 (G1 yB 3) (G1 yB 4)) K1)))):=kr
theorem agc:DY=(S1 (G1 DY 0) (S1 (G1 DY 1) .ret)):=kr
end Go.Proofs.Tryz.K
section
open Go Go.Abs Go.Proofs Go.Argus
namespace Go.Abs
theorem abv{ρ:Nat->Nat}{L:Nat->List D}{k r:Nat}{l:List D}(hl:l≠[]):jD (up ρ k r) (up L k l) (k+1)=jD ρ L k++[.rs r 0 l.length]:=by
 unfold jD;rw[List.range_succ,List.map_append];congr 1
 .refine List.map_congr_left fun i hi=>?_;have:i≠k:=by have:=List.mem_range.1 hi;omega
  rw[up_ne _ _ this,up_ne _ _ this]
 .show [jc (up ρ k r k) (up L k l k)]=_;rw[up_same,up_same,p9 hl]
theorem eP.push{m m':Mem}{nx nx' j j' k r:Nat}{e et:TypeId}{ρ:Nat->Nat}{L:Nat->List D}{l:List D}(h:eP m nx j k e et ρ L)(hl:l≠[])(hr:nx<=r)(jq:r<nx')(hj:nx<=j')(po:j'<nx')(hrj:r≠j')
 (ax:m' j'=some (.cells (jD ρ L k++[.rs r 0 l.length]) e)) (Mz:m' r=some (.cells l et)) (hk:∀ q,q<nx->q≠j->m' q=m q):eP m' nx' j' (k+1) e et (up ρ k r) (up L k l):=by
 have pG:∀ i,i<k+1->i≠k->L i≠[]->ρ i<nx/\m' (ρ i)=some (.cells (L i) et):=fun i hi C jW=>
  ⟨h.lt i oG jW,(hk _ (h.lt i oG jW) (h.ne i oG jW)).trans (h.sK i oG jW)⟩
 refine⟨by rw[ax,abv hl],po,fun i hi C=>?_,fun i hi C=>?_,fun i hi C=>?_,fun a b ha hb qz jH M=>?_⟩
 .by_cases e:i=k
  .subst e;rw[up_same,up_same];exact Mz
  .rw[up_ne _ _ e] at C ⊢;rw[up_ne _ _ e];exact(pG i hi e C).2
 .by_cases e:i=k
  .subst e;rw[up_same];exact jq
  .rw[up_ne _ _ e] at C ⊢;have:=(pG i hi e C).1;omega
 .by_cases e:i=k
  .subst e;rw[up_same];exact hrj
  .rw[up_ne _ _ e] at C ⊢;have:=(pG i hi e C).1;omega
 .by_cases X:a=k
  .by_cases J:b=k
   .omega
   .subst X;rw[up_same,up_ne _ _ J] at M;rw[up_ne _ _ J] at jH;have:=(pG b hb J jH).1;omega
  .by_cases J:b=k
   .subst J;rw[up_same,up_ne _ _ X] at M;rw[up_ne _ _ X] at qz;have:=(pG a ha X qz).1;omega
   .rw[up_ne _ _ X] at qz M;rw[up_ne _ _ J] at jH M;exact h.inj a b oG oG qz jH M
theorem eP.nil{m:Mem}{nx j:Nat}{e et:TypeId}{ρ:Nat->Nat}{L:Nat->List D}(hm:m j=some (.cells [] e))(hj:j<nx):eP m nx j 0 e et ρ L:=
 ⟨hm,hj,fun _ h=>absurd h (Nat.not_lt_zero _),fun _ h=>absurd h (Nat.not_lt_zero _),fun _ h=>absurd h (Nat.not_lt_zero _),fun _ _ h=>absurd h (Nat.not_lt_zero _)⟩
theorem eP.congr{m:Mem}{nx j n:Nat}{e et:TypeId}{ρ:Nat->Nat}{L M:Nat->List D}(h:eP m nx j n e et ρ L)(J:∀ i,i<n->M i=L i):eP m nx j n e et ρ M:=by
 refine⟨?_,h.qy,fun i hi C=>?_,fun i hi C=>h.lt i hi (J i hi▸C),fun i hi C=>h.ne i hi (J i hi▸C),fun a b ha hb qz X=>h.inj a b ha hb (J a ha▸qz) (J b hb▸X)⟩
 .rw[h.row];congr 2;exact List.map_congr_left fun i hi=>by rw[J i (List.mem_range.1 hi)]
 .rw[J i hi] at C ⊢;exact h.sK i hi C
theorem eP.put{m:Mem}{nx j n i:Nat}{e et:TypeId}{ρ:Nat->Nat}{L:Nat->List D}{l:List D}(h:eP m nx j n e et ρ L)(hi:i<n)(hl:l.length=(L i).length)(M:L i≠[]):eP (up m (ρ i) (some (.cells l et))) nx j n e et ρ (up L i l):=by
 have rF:l≠[]:=fun e=>by
  subst e;exact M (List.eq_nil_of_length_eq_zero hl.symm)
 have J:∀ k,up L i l k≠[]->L k≠[]:=fun k hk=>by
  by_cases e:k=i
  .subst e;exact M
  .rwa[up_ne _ _ e] at hk
 refine⟨?_,h.qy,fun k hk C=>?_,fun k hk C=>h.lt k hk (J k C),fun k hk C=>h.ne k hk (J k C),fun a b ha hb qz jH=>h.inj a b ha hb (J a qz) (J b jH)⟩
 .rw[up_ne _ _ (fun e=>h.ne i hi M e.symm),h.row];congr 2;refine List.map_congr_left fun k hk=>?_;by_cases e:k=i
  .subst e;rw[up_same,p9 rF,p9 M,hl]
  .rw[up_ne _ _ e]
 .by_cases e:k=i
  .subst e;rw[up_same,up_same]
  .rw[up_ne _ _ e,up_ne _ _ fun X=>e (h.inj k i hk hi (J k C) M X)];exact h.sK k hk (J k C)
section
variable{m m':Mem}{nx nx' j n w:Nat}{e et:TypeId}{ρ:Nat->Nat}{L:Nat->List D}
end
section
variable{P:Program}
end
section
variable{m m':Mem}{nx nx' ji jo n w:Nat}{ρi ρo:Nat->Nat}{Li Lo:Nat->List D}
end
section
variable{P:Program}
end
end Go.Abs
namespace Go.Argus
def oR(beh:Nat->List Int)(n b:Nat):List Bool:=(range n).map fun a=>dB beh n a b
def Cm(beh:Nat->List Int)(n:Nat):D:=.sl ((range n).map fun b=>dv (oR beh n b)) n
theorem ad6(beh:Nat->List Int)(n:Nat):Tr (Cm beh n):=.sl (.map fun _=>.sl (.map fun _=>.s _))
def iT(beh:Nat->List Int)(n a b i:Nat):List D:=(range n).map fun c=>B (if c<a\/(c=a/\i<b) then dB beh n c i else false)
theorem ad7(beh:Nat->List Int)(n a b i:Nat):(iT beh n a b i).length=n:=by simp[iT]
theorem ad8{beh:Nat->List Int}{n a b:Nat}:(iT beh n a b b).set a (B (dB beh n a b))=iT beh n a (b+1) b:=by
 unfold iT;rw[GF];refine List.map_congr_left fun c hc=>?_;by_cases e:c=a
 .subst e;rw[up_same,if_pos (.inr ⟨rfl,Nat.lt_succ_self _⟩)]
 .rw[up_ne _ _ e];congr 2;simp[e]
theorem afa{beh:Nat->List Int}{n a b i:Nat}(h:i≠b):iT beh n a (b+1) i=iT beh n a b i:=by
 unfold iT;refine List.map_congr_left fun c hc=>?_;have:i<b+1↔i<b:=by omega
 simp only[this]
theorem afb{beh:Nat->List Int}{n a b:Nat}:up (iT beh n a b) b ((iT beh n a b b).set a (B (dB beh n a b)))=iT beh n a (b+1):=by
 funext i;by_cases e:i=b
 .subst e;rw[up_same,ad8]
 .rw[up_ne _ _ e,afa e]
theorem acP{beh:Nat->List Int}{n a i:Nat}(h:i<n):iT beh n (a+1) 0 i=iT beh n a n i:=by
 unfold iT;refine List.map_congr_left fun c hc=>?_;have:(c<a+1\/(c=a+1/\i<0))↔(c<a\/(c=a/\i<n)):=by omega
 simp only[this]
theorem acQ{beh:Nat->List Int}{n i:Nat}:iT beh n 0 0 i=(replicate n false).map B:=by
 unfold iT;rw[List.map_replicate];have:∀ c,(c<0\/(c=0/\i<0))↔False:=fun c=>by simp
 simp only[this,if_false];rw[List.map_const',List.length_range]
theorem ad9{beh:Nat->List Int}{n i:Nat}:iT beh n n 0 i=(oR beh n i).map B:=by
 unfold iT oR;rw[List.map_map];refine List.map_congr_left fun c hc=>?_;rw[if_pos (.inl (List.mem_range.1 hc))];rfl
def yW(f:aG):D:=if dG f=0 then .tup [au (gg (aT f) (c9 f) f.blocks.length),I 0] else .tup [.z,I (dG f)]
theorem ad'(f:aG):Tr (yW f):=by
 unfold yW;split
 .exact .tup (.cons (cL _) (.cons (.s _) .nil))
 .exact .tup (.cons HQ (.cons (.s _) .nil))
theorem acR{beh:Nat->List Int}{n b:Nat}(h:b<n):((range n).map fun b=>oR beh n b)[b]? =some (oR beh n b):=by simp[h]
theorem aai{beh:Nat->List Int}{n b a:Nat}(h:a<n):(oR beh n b)[a]? =some (dB beh n a b):=by simp[oR,h]
theorem acS(beh:Nat->List Int)(n:Nat):Cm beh n=.sl (((range n).map fun b=>oR beh n b).map dv) ((range n).map fun b=>oR beh n b).length:=by
 unfold Cm;rw[List.map_map,List.length_map,List.length_range];rfl
theorem abx(beh:Nat->List Int)(n k:Nat):((range k).map fun b=>iy beh n b n).length=k:=by simp
theorem aaR{f:aG}(h:sI f=true):∀ b∈f.blocks,b.fin.aL.length<=9:=fun b hb=>by
 unfold sI at h;rw[aO,aO] at h;have:=bj.1 h.2.2 b hb;rw[aO,Bool.not_eq_true'] at this;have:=this.1;unfold tG at this;simp only[Bool.or_eq_false_iff,decide_eq_false_iff_not] at this;omega
theorem aaF{f:aG}(h:jx f=true){k:Nat}(hk:k<f.blocks.length):(mL f.blocks)[k]? =some (c9 f k):=by
 have he:=Pq h;rw[KY hk, <- J2 he];simp[mL,hk]
theorem z3(l:List Int)(v:Int):Cv l v=eQ l v:=by rw[Bool.eq_iff_iff,ab4,te]
end Go.Argus
namespace Go.Proofs.Tryz.K
theorem Gf{f:aG}(hF:tO f)(hw:∀ b∈f.blocks,b.fin.aL.length<=9):PCall prog 91 [.agg (aH f)] (Cm (aT f) f.blocks.length):=by
 have hb:=beh_in hF.ok
 change ∀ b,∀ t∈aT f b,_ at hb
 have FI:=hF.ok.mz;have oq:=hF.ok.pos;have Xu:∀ {w:Int},PCall prog 75 [.agg (aH f),I w] (dv (cO (aT f) f.blocks.length w)):=fun {w}=>Bm hF hw;have kX:=fun w=>wg (w:=w) hb oq;refine bg ali (.cons (.agg (iq f)) .nil) (ad6 _ _) ?_;rw[alj];refine az (ag ?_);refine af (aW (bG [(0,aH f,26)] eH (l:=[(1,.pt (aH f))]) eH) (aj ?_));have J:∀ a b,dB (aT f) f.blocks.length a b=((cO (aT f) f.blocks.length (-1)).getD a false&&((cO (aT f) f.blocks.length (-1)).getD b false&& !(cO (aT f) f.blocks.length a).getD b false)):=fun _ _=>rfl;have Bm:=Xu (w:= -1);have cJ:=kX (-1);generalize cO (aT f) f.blocks.length (-1)=CN at Bm J cJ;refine SS ?_;refine cl Bm (SS ?_);refine af (az (SS ?_));refine af ⟨_,(Ghost.nilrow _ _ _ 4 52 rfl).trans (aQ (l:=[(1,.pt (aH f)),(3,dv CN),(4,.rs 1 0 0)]) (ml:=[(1,.cells [] 52)]) eH ⟨up_same _ _ _,trivial⟩),aB (az (SS ?_))⟩
 refine af (bR (fun s=>∃ j m nx ρ,Ghost prog s ⟨aD [(1,.pt (aH f)),(3,dv CN),(4,.rs j 0 f.blocks.length)],m,nx⟩/\eP m nx j f.blocks.length 52 4 ρ fun _=>(replicate f.blocks.length false).map B) (cQ (α:=Nat×Nat×Mem×Nat)
  (fun s=>⟨aD [(1,.pt (aH f)),(3,dv CN),(4,.rs s.2.1 0 s.1),(5,I s.1)],s.2.2.1,s.2.2.2⟩)
  (fun s=>s.1<=f.blocks.length/\∃ ρ,eP s.2.2.1 s.2.2.2 s.2.1 s.1 52 4 ρ fun _=>(replicate f.blocks.length false).map B) (fun s=>f.blocks.length - s.1) (0,1,bf [(1,.cells [] 52)],2)
  (ap eH) ⟨Nat.zero_le _,fun _=>0,.nil rfl oC⟩ ?_) ?_)
 .rintro⟨k,j,m,nx⟩ ⟨hk,ρ,C⟩;dsimp only at hk C ⊢;have ax:=C.row;have cV:=C.qy;have rR:(jD ρ (fun _=>(replicate f.blocks.length false).map B) k).length=k:=by simp
  have X:(replicate f.blocks.length false).map B≠[]:=fun e=>by
   have:=congrArg List.length e;rw[List.length_map,List.length_replicate,List.length_nil] at this;omega
  refine aN ?_;refine af ⟨_,rfl,fun h=>?_,fun h=>?_⟩
  .have ao:k<f.blocks.length:=by simpa using h
   have dn:((f.blocks.length:Nat):Int).toNat=f.blocks.length:=bN _;refine ff (bB ?_);refine vm (uV rfl (aC oG (aC oG ax)) rfl V.h V.h (wj (up_same _ _ _) rfl) rfl) ak ⟨V.h,rfl,(by first|omega|exact bD rfl|(simp;done)|(simp;omega)),oC,(by first|rfl|(simp;done)|(simp;omega)),(by unfold maxLen;first|omega|(simp;omega)),(by rw[YG];first|omega|(simp;omega)),(by first|(simp;done)|(simp;omega))⟩ ?_;refine SS ?_;refine af (aq ?_)
   refine af (aK (k+1,nx+2,up (up (up (up m nx (some (.cells (replD ((f.blocks.length:Nat):Int).toNat [B false]) 4))) (nx+1) (some (.cells [.rs nx 0 ((f.blocks.length:Nat):Int).toNat] 52))) j none) (nx+2) (some (.cells (jD ρ (fun _=>(replicate f.blocks.length false).map B) k++[.rs nx 0 ((f.blocks.length:Nat):Int).toNat]) 52)),nx+3)
    (nz eH rfl) ⟨oM,up ρ k nx,?_⟩ oM)
   dsimp only;rw[dn]
   have:=C.push (m':=up (up (up (up m nx (some (.cells (replD f.blocks.length [B false]) 4))) (nx+1) (some (.cells [.rs nx 0 f.blocks.length] 52))) j none) (nx+2) (some (.cells (jD ρ (fun _=>(replicate f.blocks.length false).map B) k++[.rs nx 0 f.blocks.length]) 52)))
    (nx':=nx+3) (j':=nx+2) (r:=nx) X (bF _) oG oG oG oG (by rw[up_same];simp) (by rw[aC oG (aC oG (aC oG (up_same _ _ _))),wx]) (fun q hq s9=>aC oG (aC s9 (aC oG (aC oG rfl))))
   rwa[show up (fun _:Nat=>(replicate f.blocks.length false).map B) k ((replicate f.blocks.length false).map B)=fun _=>(replicate f.blocks.length false).map B from funext fun i=>by simp[up]] at this
  .have a9:¬ k<f.blocks.length:=by simpa using h
   have:k=f.blocks.length:=by omega
   subst this;exact⟨j,m,nx,ρ,ap eH,C⟩
 .rintro s ⟨j,m,nx,ρ,hg,C⟩;refine⟨_,hg,aB (az ?_)⟩;refine SS ?_;have OU:eP m nx j f.blocks.length 52 4 ρ (iT (aT f) f.blocks.length 0 0):=C.congr fun i _=>acQ;clear C
  refine af (bR (fun s=>∃ m,Ghost prog s ⟨aD [(4,.rs j 0 f.blocks.length)],m,nx⟩/\eP m nx j f.blocks.length 52 4 ρ (iT (aT f) f.blocks.length f.blocks.length 0)) (cQ (α:=Nat×Mem)
   (fun s=>⟨aD [(1,.pt (aH f)),(3,dv CN),(4,.rs j 0 f.blocks.length),(6,I s.1)],s.2,nx⟩)
   (fun s=>s.1<=f.blocks.length/\eP s.2 nx j f.blocks.length 52 4 ρ (iT (aT f) f.blocks.length s.1 0)) (fun s=>f.blocks.length - s.1) (0,m)
   (ap eH) ⟨Nat.zero_le _,OU⟩ ?_) ?_)
  .clear OU;rintro⟨a,m⟩ ⟨ha,C⟩;dsimp only at ha C ⊢;refine aN ?_;refine af ⟨_,rfl,fun h=>?_,fun h=>?_⟩
   .have ao:a<f.blocks.length:=by simpa using h
    refine ws ?_;have kX:=kX (a:Int);have J:=J a;have Bm:=Xu (w:=(a:Int));generalize cO (aT f) f.blocks.length (a:Int)=LF at Bm J kX;refine ag ?_;refine cl Bm (SS ?_);refine af (az (SS ?_))
    refine af (cQ (α:=Nat×Mem)
     (fun s=>⟨aD [(1,.pt (aH f)),(3,dv CN),(4,.rs j 0 f.blocks.length),(6,I a),(7,dv LF),(8,I s.1)],s.2,nx⟩)
     (fun s=>s.1<=f.blocks.length/\eP s.2 nx j f.blocks.length 52 4 ρ (iT (aT f) f.blocks.length a s.1)) (fun s=>f.blocks.length - s.1) (0,m)
     (ap eH) ⟨Nat.zero_le _,C⟩ ?_)
    clear C;rintro⟨b,m⟩ ⟨pz,C⟩;dsimp only at pz C ⊢;have ax:=C.row;have cV:=C.qy;refine aN ?_;refine af ⟨_,rfl,fun h=>?_,fun h=>?_⟩
    .have Fh:b<f.blocks.length:=by simpa using h
     have hlen:=ad7 (aT f) f.blocks.length a b b
     have X:iT (aT f) f.blocks.length a b b≠[]:=fun e=>by
      rw[e] at hlen;simp at hlen;omega
     have rR:(jD ρ (iT (aT f) f.blocks.length a b) f.blocks.length).length=f.blocks.length:=by simp
     obtain⟨cs,kd⟩:=G5 (ρ:=ρ) (L:=iT (aT f) f.blocks.length a b) Fh;rw[p9 X,hlen] at kd;have di:=C.sK b Fh X;have Bf:=C.lt b Fh X;have Oj:=C.ne b Fh X;have M:=C.put (l:=(iT (aT f) f.blocks.length a b b).set a (B (dB (aT f) f.blocks.length a b))) Fh oS X;rw[afb] at M;have xJ:=K2 (l:=CN) (i:=a) oG;have gl:=K2 (l:=CN) (i:=b) oG;have N9:=K2 (l:=LF) (i:=b) oG;have J:=J b;generalize dB (aT f) f.blocks.length a b=dd at J M;refine pM abw ?_;cases fY:CN.getD a false with
     |false=>
      rw[fY] at xJ J;refine bK ?_;refine ag ?_;(iterate 4 refine z fun _ _=>?_);refine ag ?_;(iterate 5 refine z fun _ _=>?_);refine aq ?_;refine a8 bc (aq ?_);refine af (aK (b+1,_) (ap eH) ⟨oM,?_⟩ oM);dsimp only;rw[J] at M;exact M
     |true=>
      rw[fY] at xJ J;cases qo:CN.getD b false with
      |false=>
       rw[qo] at gl J;refine aJ ?_;refine dz ?_;(iterate 5 refine z fun _ _=>?_);refine aq ?_;refine a8 bc (aq ?_);refine af (aK (b+1,_) (ap eH) ⟨oM,?_⟩ oM);dsimp only;rw[J] at M;exact M
      |true=>
       rw[qo] at gl J;generalize LF.getD b false=lf at N9 J;refine aJ ?_;refine aJ ?_;refine bB ?_;refine a8 bc (aq ?_);refine af (aK (b+1,_) (ap eH) ⟨oM,?_⟩ oM);dsimp only;rw[J] at M;exact M
    .have a9:¬ b<f.blocks.length:=by simpa using h
     have:b=f.blocks.length:=by omega
     subst this;show AOps _ _ _ _ _ _ _ _ _;refine aq ?_;refine af (aK (a+1,m) (ap eH) ⟨oM,C.congr fun i hi=>acP hi⟩ oM)
   .have a9:¬ a<f.blocks.length:=by simpa using h
    have:a=f.blocks.length:=by omega
    subst this;exact⟨m,ap eH,C⟩
  .rintro s ⟨m,hg,C⟩;clear OU;have C:eP m nx j f.blocks.length 52 4 ρ (fun i=>(oR (aT f) f.blocks.length i).map B):=C.congr fun i _=>ad9.symm;have qB:¬ ∃ i,i<f.blocks.length/\(oR (aT f) f.blocks.length i).map B≠[]/\ρ i=j:=fun⟨i,h1,h2,h3⟩=>C.ne i h1 h2 h3;refine⟨_,hg.trans (GJ (l:=[(4,.rs j 0 f.blocks.length)]) (ml:=[]) (fun r=>∃ i,i<f.blocks.length/\(oR (aT f) f.blocks.length i).map B≠[]/\ρ i=r) C (fun _=>.map) c4 (fun i h1 h2=>⟨i,h1,h2,rfl⟩) qB ⟨rfl,trivial⟩ (fun x hx=>?_) trivial (fun x hx=>by cases hx)),az ?_⟩
   .simp at hx;subst hx;exact .rs qB
   refine ag ?_;refine af (aW (bG [(j,_,52)] ⟨if_pos rfl,trivial⟩ (l:=[(2,Cm (aT f) f.blocks.length)]) ⟨?_,trivial⟩) (av rfl rfl));show sub (fz0 j _ (prog.cellsOf 52)) (D.rs j 0 f.blocks.length)=_;rw[nw (by rw[YH];simp)];unfold Cm dv;simp
theorem Ji{f:aG}(hF:tO f)(hw:∀ b∈f.blocks,b.fin.aL.length<=9):PCall prog 63 [.agg (aH f)] (au (gg (aT f) (c9 f) f.blocks.length)):=by
 have hg:=xf hF.ok;rw[<- aea hg];have FI:=hF.ok.mz;have oq:=hF.ok.pos;have Gf:=Gf hF hw;rw[acS] at Gf;refine bg alk (.cons (.agg (iq f)) .nil) (cL _) ?_;rw[alm];have HZ:=fun {b:Nat} (h:b<f.blocks.length)=>acR (beh:=aT f) h;have Cg:=fun {a b:Nat} (h:a<f.blocks.length)=>aai (beh:=aT f) (b:=b) h;have hRl:((range f.blocks.length).map fun b=>oR (aT f) f.blocks.length b).length=f.blocks.length:=by simp
 generalize ((range f.blocks.length).map fun b=>oR (aT f) f.blocks.length b)=RW at Gf HZ hRl;generalize Jf:oR (aT f) f.blocks.length=RR at HZ Cg;clear Jf;refine az (ag ?_);refine af (aW (bG [(0,aH f,26)] eH (l:=[(1,.pt (aH f))]) eH) (aj (SS ?_)));refine cl Gf (SS ?_);refine af (az (SS ?_));refine af ⟨_,(Ghost.nilrow _ _ _ 4 3 rfl).trans (aQ (l:=[(1,.pt (aH f)),(3,.sl (RW.map dv) RW.length),(4,.rs 1 0 0)]) (ml:=[(1,.cells [] 3)]) eH ⟨up_same _ _ _,trivial⟩),aB (az (SS ?_))⟩
 refine af (bR (fun s=>∃ j m nx,Ghost prog s ⟨aD [(4,.rs j 0 f.blocks.length)],m,nx⟩/\m j=some (.cells ((Cn (aT f) f.blocks.length).map I) 3)) (cQ (α:=Nat×Nat×Mem×Nat)
  (fun s=>⟨aD [(1,.pt (aH f)),(3,.sl (RW.map dv) RW.length),(4,.rs s.2.1 0 s.1),(5,I s.1)],s.2.2.1,s.2.2.2⟩)
  (fun s=>s.1<=f.blocks.length/\s.2.1<s.2.2.2/\s.2.2.1 s.2.1=some (.cells (((range s.1).map fun b=>iy (aT f) f.blocks.length b f.blocks.length).map I) 3)) (fun s=>f.blocks.length - s.1) (0,1,bf [(1,.cells [] 3)],2)
  (ap eH) ⟨Nat.zero_le _,oC,rfl⟩ ?_) ?_)
 .rintro⟨b,j,m,nx⟩ ⟨hb,cV,ax⟩;dsimp only at hb cV ax ⊢;refine aN ?_;refine af ⟨_,rfl,fun h=>?_,fun h=>?_⟩
  .have ao:b<f.blocks.length:=by simpa using h
   refine ws (SS ?_);refine af (aB (az (SS ?_)))
   refine af (bR (fun s=>Ghost prog s ⟨aD [(1,.pt (aH f)),(3,.sl (RW.map dv) RW.length),(4,.rs j 0 b),(5,I b),(6,I (iy (aT f) f.blocks.length b f.blocks.length))],m,nx⟩) (cQ (α:=Nat)
    (fun a=>⟨aD [(1,.pt (aH f)),(3,.sl (RW.map dv) RW.length),(4,.rs j 0 b),(5,I b),(6,I (iy (aT f) f.blocks.length b a)),(7,I a)],m,nx⟩)
    (fun a=>a<=f.blocks.length/\(iy (aT f) f.blocks.length b a<0\/∃ p:Nat,iy (aT f) f.blocks.length b a=p/\p<f.blocks.length)) (fun a=>f.blocks.length - a) 0
    (ap eH) ⟨Nat.zero_le _,.inl (by show(-1:Int)<0;omega)⟩ ?_) ?_)
   .rintro a ⟨ha,hp⟩;refine aN ?_;refine af ⟨_,rfl,fun h=>?_,fun h=>?_⟩
    .have halt:a<f.blocks.length:=by simpa using h
     have hx:=HZ ao;have hy:=HZ halt;have ur:=Cg (b:=b) halt;have J:=fun(p:Nat) (h:p<f.blocks.length)=>Cg (a:=p) (b:=a) h;have C:iy (aT f) f.blocks.length b (a+1)=if a≠b/\dB (aT f) f.blocks.length a b=true/\(iy (aT f) f.blocks.length b a<0\/dB (aT f) f.blocks.length (iy (aT f) f.blocks.length b a).toNat a=true) then(a:Int) else iy (aT f) f.blocks.length b a:=JO _ _ _ _
     have M:iy (aT f) f.blocks.length b (a+1)<0\/∃ p:Nat,iy (aT f) f.blocks.length b (a+1)=p/\p<f.blocks.length:=by
      rw[C];split
      .exact .inr ⟨a,rfl,halt⟩
      .exact hp
     generalize iy (aT f) f.blocks.length b a=p at hp C ⊢;generalize RR b=Rb at hx ur;generalize RR a=Ra at hy J;refine ws ?_;by_cases dH:a=b
     .have du:((a:Int) !=(b:Int))=false:=by simp[dH]
      rw[if_neg fun h=>h.1 dH] at C;refine aJ ?_;refine aJ ?_;refine aq ?_;(iterate 3 refine z fun _ _=>?_);refine SS ?_;refine af (aw rfl (fun h=>oH) fun h=>bS (aq ?_));refine af (aK (a+1) (ap ⟨rfl,rfl,rfl,rfl,congrArg I C.symm,rfl,trivial⟩) ⟨oG,M⟩ oG)
     have du:((a:Int) !=(b:Int))=true:=by simp;omega
     cases hd:dB (aT f) f.blocks.length a b with
     |false=>
      rw[hd] at ur C;rw[if_neg fun h=>by simp at h] at C;refine aJ ?_;refine aJ ?_;refine aq ?_;(iterate 3 refine z fun _ _=>?_);refine SS ?_;refine af (aw rfl (fun h=>oH) fun h=>bS (aq ?_));refine af (aK (a+1) (ap ⟨rfl,rfl,rfl,rfl,congrArg I C.symm,rfl,trivial⟩) ⟨oG,M⟩ oG)
     |true=>
      rw[hd] at ur C;by_cases X:p<0
      .have jT:decide (p<0)=true:=decide_eq_true X;rw[if_pos ⟨dH,rfl,.inl X⟩] at C;refine aJ ?_;refine aJ ?_;refine aq ?_;(iterate 2 refine z fun _ _=>?_);refine ag ?_;refine af (aw rfl (fun h=>ff (ag ?_)) fun h=>oH);refine af (aq ?_);refine af (aK (a+1) (ap ⟨rfl,rfl,rfl,rfl,congrArg I C.symm,rfl,trivial⟩) ⟨oG,M⟩ oG)
      .have jT:decide (p<0)=false:=decide_eq_false X;obtain⟨q,rfl,hq⟩:=hp.resolve_left X;have hz:=J q hq;rw[bN] at C;cases YI:dB (aT f) f.blocks.length q a with
       |false=>
        rw[YI] at hz C;rw[if_neg fun h=>by rcases h.2.2 with h|h;exact X h;cases h] at C;refine aJ ?_;refine aJ ?_;refine dz ?_;refine af (aw rfl (fun h=>oH) fun h=>bS (aq ?_));refine af (aK (a+1) (ap ⟨rfl,rfl,rfl,rfl,congrArg I C.symm,rfl,trivial⟩) ⟨oG,M⟩ oG)
       |true=>
        rw[YI] at hz C;rw[if_pos ⟨dH,rfl,.inr rfl⟩] at C;refine aJ ?_;refine aJ ?_;refine dz ?_;refine af (aw rfl (fun h=>ff (ag ?_)) fun h=>oH);refine af (aq ?_);refine af (aK (a+1) (ap ⟨rfl,rfl,rfl,rfl,congrArg I C.symm,rfl,trivial⟩) ⟨oG,M⟩ oG)
    .have a9:¬ a<f.blocks.length:=by simpa using h
     have:a=f.blocks.length:=by omega
     subst this;exact ap eH
   .intro s hg;refine⟨_,hg,ff ?_⟩;have jg:=abx (aT f) f.blocks.length b
    have OV:((range (b+1)).map fun b=>iy (aT f) f.blocks.length b f.blocks.length).map I=((range b).map fun b=>iy (aT f) f.blocks.length b f.blocks.length).map I++[I (iy (aT f) f.blocks.length b f.blocks.length)]:=by
     rw[List.range_succ,List.map_append,List.map_append];rfl
    generalize iy (aT f) f.blocks.length b f.blocks.length=p at OV ⊢;generalize ((range b).map fun b=>iy (aT f) f.blocks.length b f.blocks.length)=Lb at ax jg OV;refine aN ?_;refine af (aq ?_);refine af (aK (b+1,nx+1,up (up (up m nx (some (.cells [I p] 3))) j none) (nx+1) (some (.cells (Lb.map I++[I p]) 3)),nx+2) (ap eH) ⟨oM,oM,?_⟩ oM);dsimp only;rw[up_same,OV]
  .have a9:¬ b<f.blocks.length:=by simpa using h
   have:b=f.blocks.length:=by omega
   subst this;exact⟨j,m,nx,ap eH,ax⟩
 .rintro s ⟨j,m,nx,hg,ax⟩;refine⟨_,hg,az ?_⟩;have fX:(Cn (aT f) f.blocks.length).length=f.blocks.length:=by simp[Cn]
  generalize Cn (aT f) f.blocks.length=IL at ax fX;refine ag ?_;refine af (aW (bG [(j,IL.map I,3)] ⟨ax,trivial⟩ (l:=[(2,au IL)]) ⟨?_,trivial⟩) (av rfl rfl));show sub (fz0 j _ (prog.cellsOf 3)) (D.rs j 0 f.blocks.length)=_;rw[nw (by rw[c3];simp[fX])];unfold au;rw[fX]
theorem zN{f:aG}(hs:yT f)(J:∀ b∈f.blocks,b.fin.aL.length<=9):PCall prog 21 [.agg (aH f)] (yW f):=by
 have rL:=rL hs J;refine bg aln (.cons (.agg (iq f)) .nil) (ad' f) ?_;rw[alo];unfold yW;refine az (aq ?_);refine af (aW (bG [(0,aH f,26)] eH (l:=[(1,.pt (aH f))]) eH) (aj ?_));by_cases C:dG f=0
 .rw[C] at rL;rw[if_pos C];have Ji:=Ji (EJ (Dt C)) J;generalize gg (aT f) (c9 f) f.blocks.length=par at Ji ⊢;refine SS ?_;refine cl rL (SS ?_);refine af (aB (aj (ag ?_)));refine af (gS (bP (aj (SS ?_))));refine cl Ji (ag ?_);exact af (fj rfl rfl rfl)
 .rw[if_neg C];generalize dG f=ce at C rL ⊢;have du:(ce !=0)=true:=by simp[C]
  refine SS ?_;refine cl rL (SS ?_);refine af (aB (aj (ag ?_)));refine af (dN (aB (aj (aq ?_))));exact af (bX (fj rfl rfl rfl))
theorem aki{l:List Int}:PCall prog 22 [au l,au l] (B true):=by
 have:=Dh (a:=l) (b:=l)
 rwa[decide_eq_true rfl] at this
theorem eW{l:List Int}{v:Int}:PCall prog 59 [au l,I v] (B (Cv l v)):=by
 refine mG Xv.he (.cons (cL _) (.cons (.s _) .nil)) fun C=>?_;have hlen:=(C (au l) oS).sl.1;unfold maxLen at hlen;refine bg Xv (.cons (cL _) (.cons (.s _) .nil)) (Tr.s _) ?_;rw[alp];refine ws (SS ?_);refine af (aB (az (SS ?_)))
 refine af (bR (fun s=>Ghost prog s ⟨aD [],fun _=>none,0⟩/\∀ (j:Nat) y,l[j]? =some y->(y==v)=false) (cQ (α:=Nat) (fun k=>⟨aD [(0,au l),(1,I v),(5,I k)],fun _=>none,0⟩)
  (fun k=>k<=l.length/\∀ j y,j<k->l[j]? =some y->(y==v)=false) (fun k=>l.length - k) 0 (ap eH) ⟨oG,fun j y hj=>by omega⟩ ?_) ?_)
 .rintro k ⟨hk,hinv⟩;refine aP ?_;refine af ⟨_,rfl,fun h=>?_,fun h=>?_⟩
  .have ao:k<l.length:=by simpa using h
   have hx:l[k]? =some l[k]:=by simp[ao]
   generalize l[k]=x at hx;refine ws (bB ?_);refine af (aw rfl (fun hp=>?_) fun hp=>?_)
   .refine ws (SS ?_);refine af (aY (br (aR (av (d:=B true) rfl ?_))));have:Cv l v=true:=List.any_eq_true.2 ⟨x,bU hx,hp⟩;rw[this]
   .refine bS (aq ?_);refine af (aK (k+1) (ap eH) ⟨oG,fun j y hj hy=>?_⟩ oG);by_cases e:j=k
    .subst e;rw[hx] at hy;cases hy;exact hp
    .exact hinv j y oG hy
  .have M:¬ k<l.length:=by simpa using h
   exact⟨.forget _ _ _ _ fun _=>.inr rfl,fun j y hy=>hinv j y (by have:=(bw.1 hy).1;omega) hy⟩
 .rintro s ⟨hg,J⟩;refine⟨_,hg,aj ?_⟩;refine SS ?_;refine af (av (d:=B false) rfl ?_)
  have:Cv l v=false:=List.any_eq_false.2 fun x hx=>by
   obtain⟨j,hj⟩:=cC hx;rw[J j x hj];simp
  rw[this]
theorem ajV{f:aG}(hf:jx f=true)(C:∀ b∈f.blocks,b.fin.aL.length<=9):PCall prog 56 [.agg (aH f)] (bx (mL f.blocks)):=
 sW (f:=f) rfl (by have:=(tE hf).mz;omega) C (fun b hb t ht=>by rw[((EJ hf).ed b hb).2] at ht;exact((tE hf).blk b hb).to t ht)
end Go.Proofs.Tryz.K
end
namespace Go.Argus
open Go Go.Abs
abbrev ay:=Int×Bool
section
variable(beh:Nat->List Int)(fr to:Int)
inductive lx:ay->ay->Prop
 |out {a c:Int}:c∈beh a.toNat->c≠fr->a≠to->lx (a,true) (c,false)
 |A' {b:Int}:b≠fr->b≠to->lx (b,false) (b,true)
inductive Rf(v:Int):Int->Prop
 |one {c:Int}:c∈beh fr.toNat->c≠fr->c≠v->Rf v c
 |step {x c:Int}:Rf v x->c∈beh x.toNat->c≠fr->c≠v->Rf v c
theorem Rf.ne{v x:Int}(h:Rf beh fr v x):x≠fr/\x≠v:=by
 cases h with
 |one _ a b=>exact⟨a,b⟩
 |step _ _ a b=>exact⟨a,b⟩
end
def kT(U:List (ay×ay))(s:ay):Int:=(U.countP fun e=>e.1==s:Nat) - (U.countP fun e=>e.2==s:Nat)
structure iJ(beh:Nat->List Int)(fr to:Int)(v:Int)(U:List (ay×ay)):Prop where
 nd:U.Nodup
 ed:∀ e∈U,lx beh fr to e.1 e.2
 src:kT U (fr,true)=v
 mid:∀ s,s≠(fr,true)->s≠(to,false)->kT U s=0
theorem Gr{α:Type}{p:α->Bool}{l:List α}{a:α}(h:a∈l)(hp:p a=true):0<l.countP p:=List.countP_pos_iff.2 ⟨a,h,hp⟩
theorem Lu{α:Type}{p:α->Bool}:∀ {l:List α},l.Nodup->l.countP p<=1->∀ a∈l,∀ b∈l,p a=true->p b=true->a=b
 |[],_,_,a,ha,_,_,_,_=>by simp at ha
 |x::l,hn,hc,a,ha,b,hb,ug,zM=>by
  rw[List.nodup_cons] at hn;rw[List.countP_cons] at hc;rcases List.mem_cons.1 ha with e|J
  .rcases List.mem_cons.1 hb with e2|C
   .rw[e,e2]
   .rw[e] at ug;rw[if_pos ug] at hc;have:=Gr C zM;omega
  .rcases List.mem_cons.1 hb with e2|C
   .rw[e2] at zM;rw[if_pos zM] at hc;have:=Gr J ug;omega
   .exact Lu hn.2 oG a J b C ug zM
theorem T5{α:Type}[DecidableEq α]{p:α->Bool}{e:α}:∀ {l:List α},l.Nodup->(∀ a∈l,p a=true->a=e)->l.countP p<=1
 |[],_,_=>by simp
 |x::l,hn,h=>by
  rw[List.nodup_cons] at hn;rw[List.countP_cons];have ih:=T5 hn.2 fun a ha=>h a (by simp[ha]);by_cases hp:p x=true
  .have hx:=h x oS hp;have:l.countP p=0:=List.countP_eq_zero.2 fun a ha C=>hn.1 (by rw[hx, <- h a (by simp[ha]) C];exact ha);rw[if_pos hp,this];omega
  .rw[if_neg hp];omega
section
variable{beh:Nat->List Int}{fr to:Int}{v:Int}{U:List (ay×ay)}(h:iJ beh fr to v U)
include h
theorem iJ.afm{b:Int}:U.countP (fun e=>e.1==(b,false))<=1:=T5 (e:=((b,false),(b,true))) h.nd fun e he hp=>by
 have hp:e.1=(b,false):=by simpa using hp
 have:=h.ed e he;obtain⟨x,y⟩:=e;dsimp only at hp this;subst hp;cases this;rfl
theorem iJ.pass{a b:Int}(he:((a,true),(b,false))∈U)(hb:b≠to):((b,false),(b,true))∈U/\∃ d,((b,true),(d,false))∈U:=by
 have uA:b≠fr:=by have:=h.ed _ he;cases this;assumption
 have X:=h.mid (b,false) oS (by simpa using hb);have p1:=Gr (p:=fun e:ay×ay=>e.2==(b,false)) he oS;unfold kT at X;have p2:0<U.countP fun e=>e.1==(b,false):=by omega
 obtain⟨⟨x,y⟩,J,hp⟩:=List.countP_pos_iff.1 p2;have hp:x=(b,false):=by simpa using hp
 subst hp;have C:=h.ed _ J;dsimp only at C;cases C;refine⟨J,?_⟩;have n2:=h.mid (b,true) (by simpa using uA) oS;have p3:=Gr (p:=fun e:ay×ay=>e.2==(b,true)) J oS;unfold kT at n2;have p4:0<U.countP fun e=>e.1==(b,true):=by omega
 obtain⟨⟨x,y⟩,M,hp⟩:=List.countP_pos_iff.1 p4;have hp:x=(b,true):=by simpa using hp
 subst hp;have C:=h.ed _ M;dsimp only at C;cases C;exact⟨_,M⟩
theorem iJ.alM{a a' b:Int}(hb:b≠to)(he:((a,true),(b,false))∈U)(C:((a',true),(b,false))∈U):a=a':=by
 have J:=h.mid (b,false) oS (by simpa using hb);have:=h.afm (b:=b);unfold kT at J;have:=Lu (p:=fun e:ay×ay=>e.2==(b,false)) h.nd oG _ he _ C oS oS;simpa using this
omit h in
theorem Zy{S:List ay}(U:List (ay×ay)):U.countP (fun e=>decide (e.1∈S))=U.countP (fun e=>decide (e.1∈S)&&decide (e.2∈S))+U.countP (fun e=>decide (e.1∈S)&& !decide (e.2∈S)):=by
 induction U with
 |nil=>rfl
 |cons e U ih=>
  simp only[List.countP_cons,ih];by_cases h1:e.1∈S<;>by_cases h2:e.2∈S<;>simp[h1,h2]<;>omega
omit h in
theorem K7{S:List ay}(hS:S.Nodup)(g:ay×ay->ay):∀ U:List (ay×ay),(S.map fun s=>((U.countP fun e=>g e==s:Nat):Int)).sum=(U.countP (fun e=>decide (g e∈S)):Nat)
 |[]=>by
  simp only[List.countP_nil]
  induction S with
  |nil=>rfl
  |cons a S ih=>rw[List.nodup_cons] at hS;rw[List.map_cons,List.sum_cons,ih hS.2];rfl
 |e::U=>by
  have ih:=K7 hS g U;simp only[List.countP_cons]
  have key:∀ (S:List ay),S.Nodup->∀ F:ay->Nat,(S.map fun s=>((F s+(if(g e==s)=true then 1 else 0):Nat):Int)).sum=(S.map fun s=>((F s:Nat):Int)).sum+(if g e∈S then 1 else 0):=fun S=>by
   induction S with
   |nil=>intro _ F;simp
   |cons a S C=>
    intro hn F;rw[List.nodup_cons] at hn;rw[List.map_cons,List.map_cons,List.sum_cons,List.sum_cons,C hn.2 F];by_cases ha:g e=a
    .subst ha;simp[hn.1];omega
    .have:¬ (g e==a)=true:=by simpa using ha
     by_cases hm:g e∈S<;>simp[ha,hm]<;>omega
  rw[key S hS,ih];by_cases hm:g e∈S<;>simp[hm]
omit h in
theorem aen{S:List ay}(hS:S.Nodup)(U:List (ay×ay)):(S.map (kT U)).sum=(U.countP (fun e=>decide (e.1∈S)):Nat) - (U.countP (fun e=>decide (e.2∈S)):Nat):=by
 rw[<- K7 hS (·.1), <- K7 hS (·.2)];unfold kT;clear hS
 induction S with
 |nil=>rfl
 |cons a S ih=>simp only[List.map_cons,List.sum_cons,ih];omega
theorem iJ.aeo{S:List ay}(hS:S.Nodup)(h1:(fr,true)∈S)(h2:(to,false)∉S):(S.map (kT U)).sum=v:=by
 have zero:∀ S:List ay,(fr,true)∉S->(to,false)∉S->(S.map (kT U)).sum=0:=fun S=>by
  induction S with
  |nil=>intro _ _;rfl
  |cons a S ih=>
   intro ha hb;simp only[List.mem_cons,not_or] at ha hb;rw[List.map_cons,List.sum_cons,ih ha.2 hb.2,h.mid a (fun e=>ha.1 e.symm) (fun e=>hb.1 e.symm)];rfl
 induction S with
 |nil=>simp at h1
 |cons a S ih=>
  rw[List.nodup_cons] at hS;simp only[List.mem_cons,not_or] at h1 h2;rw[List.map_cons,List.sum_cons];rcases h1 with h1|h1
  .subst h1;rw[h.src,zero S hS.1 h2.2];omega
  .rw[ih hS.2 h1 h2.2,h.mid a (fun e=>hS.1 (e▸h1)) (fun e=>h2.1 e.symm)];omega
theorem iJ.aiH{S:List ay}(hv:v<=1)(hS:S.Nodup)(h1:(fr,true)∈S)(h2:(to,false)∉S)(X:∀ x∈S,∀ y,lx beh fr to x y->(x,y)∉U->y∈S)(c2:∀ x y,(x,y)∈U->y∈S->x∈S)
 {x y C J:ay} (hx:x∈S) (hy:y∉S) (he:lx beh fr to x y) (pg:C∈S) (zu:J∉S) (fE:lx beh fr to C J):(x,y)=(C,J):=by
 have M:=h.aeo hS h1 h2;rw[aen hS,Zy] at M
 have e2:U.countP (fun e=>decide (e.2∈S))=U.countP (fun e=>decide (e.1∈S)&&decide (e.2∈S)):=List.countP_congr fun e he=>by
  have:=c2 e.1 e.2 he;by_cases g:e.2∈S
  .simp[g,this g]
  .simp[g]
 rw[e2] at M;have hm:(x,y)∈U:=Classical.byContradiction fun g=>hy (X x hx y he g);have ja:(C,J)∈U:=Classical.byContradiction fun g=>zu (X C pg J fE g);exact Lu (p:=fun e:ay×ay=>decide (e.1∈S)&& !decide (e.2∈S)) h.nd oG _ hm _ ja (by simp[hx,hy]) (by simp[pg,zu])
omit h in
theorem Rz{S:List ay}(h1:(fr,true)∈S)(h2:(to,false)∉S)(M:fr≠to){w:Int}(hR:Rf beh fr w to):
 ∃ x y,x∈S/\y∉S/\lx beh fr to x y/\(x.1=w->fr=w)/\y.1≠w:=by
 apply Classical.byContradiction;intro C;have C:∀ x y,x∈S->lx beh fr to x y->(x.1=w->fr=w)->y.1≠w->y∈S:=fun x y hx he h1 h2=>Classical.byContradiction fun g=>C ⟨x,y,hx,g,he,h1,h2⟩
 have key:∀ x,Rf beh fr w x->(x,false)∈S:=fun x hx=>by
  induction hx with
  |one hc hf J=>exact C (fr,true) _ h1 (.out hc hf M) (fun e=>e) J
  |@step x c hx hc hf J ih=>
   have hn:=hx.ne;have ht:x≠to:=fun e=>h2 (e▸ih);have h3:(x,true)∈S:=C (x,false) (x,true) ih (.A' hn.1 ht) (fun e=>absurd e hn.2) hn.2;exact C (x,true) (c,false) h3 (.out hc hf ht) (fun e=>absurd e hn.2) J
 exact h2 (key to hR)
theorem iJ.aiI{S:List ay}(hv:v<=1)(X:fr≠to)(jH:to∉beh fr.toNat)(hR:∀ w,w≠fr->w≠to->Rf beh fr w to)(xF:∃ w,w≠fr/\w≠to)(hS:S.Nodup)(h1:(fr,true)∈S)
 (c1:∀ x∈S,∀ y,lx beh fr to x y->(x,y)∉U->y∈S) (c2:∀ x y,(x,y)∈U->y∈S->x∈S):(to,false)∈S:=by
 apply Classical.byContradiction;intro h2;obtain⟨w0,Ds,C⟩:=xF;obtain⟨x,y,hx,hy,he,_,_⟩:=Rz h1 h2 X (hR w0 Ds C)
 have key:∀ w,w≠fr->w≠to->(x.1=w\/y.1=w)->False:=fun w M Bn F3=>by
  obtain⟨x',y',pg,zu,fE,g1,g2⟩:=Rz h1 h2 X (hR w M Bn);have:=h.aiH hv hS h1 h2 c1 c2 hx hy he pg zu fE;simp only[bQ] at this;obtain⟨rfl,rfl⟩:=this;rcases F3 with g|g
  .exact M (g1 g).symm
  .exact g2 g
 cases he with
 |@out a c hc rA sU=>
  by_cases J:a=fr
  .subst J;exact key c rA (fun e=>jH (e▸hc)) (.inr rfl)
  .exact key a J sU (.inl rfl)
 |@A' b uA jt=>exact key b uA jt (.inl rfl)
end
def uw(beh:Nat->List Int)(fr to:Int)(U:List (ay×ay))(x y:ay):Prop:=(lx beh fr to x y/\(x,y)∉U)\/(y,x)∈U
def bY(cm:List (ay×ay)):List ay:=cm.map (·.1)
structure SR(beh:Nat->List Int)(fr to:Int)(U:List (ay×ay))(cm:List (ay×ay))(op:List ay):Prop where
 hd:cm[0]? =some ((fr,true),(fr,true))
 nd:(bY cm).Nodup
 par:∀ i y x,0<i->cm[i]? =some (y,x)->uw beh fr to U x y/\∃ (j:Nat) (z:ay),j<i/\cm[j]? =some (x,z)
 IW:∀ x∈op,x∈bY cm
 Gi:∀ x∈bY cm,x∉op->x≠(to,false)/\∀ y,uw beh fr to U x y->y∈bY cm
section
variable{beh:Nat->List Int}{fr to:Int}{U cm:List (ay×ay)}{op:List ay}
theorem SR.init:SR beh fr to U [((fr,true),(fr,true))] [(fr,true)]:=by
 refine⟨rfl,by simp[bY],fun i y x hi h=>?_,fun x h=>by simpa[bY] using h,fun x h1 h2=>absurd h1 (by simpa[bY] using h2)⟩;obtain⟨i,rfl⟩:∃ j,i=j+1:=⟨i - 1,oG⟩
 simp at h
theorem SR.push(h:SR beh fr to U cm op){x y:ay}(hx:x∈bY cm)(hr:uw beh fr to U x y)(hy:y∉bY cm):SR beh fr to U (cm++[(y,x)]) (op++[y]):=by
 have hk:bY (cm++[(y,x)])=bY cm++[y]:=by simp[bY]
 have X:0<cm.length:=(bw.1 h.hd).1;refine⟨by rw[List.getElem?_append_left X];exact h.hd,?_,fun i y' x' hi hc=>?_,fun z C=>?_,fun z C J=>?_⟩
 .rw[hk,List.nodup_append];exact⟨h.nd,oS,fun a ha b hb e=>by simp at hb;subst hb;exact hy (e▸ha)⟩
 .rcases Nat.lt_trichotomy i cm.length with g|g|g
  .rw[List.getElem?_append_left g] at hc;obtain⟨h1,j,z,hj,h2⟩:=h.par i y' x' hi hc;exact⟨h1,j,z,hj,by rw[List.getElem?_append_left oG];exact h2⟩
  .subst g;rw[List.getElem?_append_right (bF _),Nat.sub_self] at hc;simp only[List.getElem?_cons_zero,aV,bQ] at hc;obtain⟨rfl,rfl⟩:=hc;refine⟨hr,?_⟩;obtain⟨⟨a,z⟩,ha,e⟩:=List.mem_map.1 hx;obtain⟨j,hj⟩:=cC ha;dsimp only at e;subst e;have:=(bw.1 hj).1;exact⟨j,z,this,by rw[List.getElem?_append_left this];exact hj⟩
  .rw[List.getElem?_eq_none oP] at hc;cases hc
 .rw[hk,List.mem_append];rcases List.mem_append.1 C with g|g
  .exact .inl (h.IW z g)
  .exact .inr g
 .rw[hk,List.mem_append] at C;rw[List.mem_append,not_or] at J;rcases C with C|C
  .obtain⟨h1,h2⟩:=h.Gi z C J.1;exact⟨h1,fun w M=>by rw[hk,List.mem_append];exact .inl (h2 w M)⟩
  .exact absurd C J.2
theorem SR.pop{x:ay}(h:SR beh fr to U cm (x::op))(ht:x≠(to,false))(hr:∀ y,uw beh fr to U x y->y∈bY cm):SR beh fr to U cm op:=by
 refine⟨h.hd,h.nd,h.par,fun z C=>h.IW z (by simp[C]),fun z C J=>?_⟩;by_cases e:z=x
 .subst e;exact⟨ht,hr⟩
 .exact h.Gi z C (by simp[e,J])
theorem SR.full(h:SR beh fr to U cm []){v:Int}(C:iJ beh fr to v U)(hv:v<=1)(M:fr≠to)(J:to∉beh fr.toNat)(hR:∀ w,w≠fr->w≠to->Rf beh fr w to)(X:∃ w,w≠fr/\w≠to):False:=by
 have h1:(fr,true)∈bY cm:=List.mem_map.2 ⟨_,bU h.hd,rfl⟩;have:=C.aiI hv M J hR X h.nd h1 (fun x hx y he hn=>(h.Gi x hx oS).2 y (.inl ⟨he,hn⟩)) fun x y he hy=>(h.Gi y hy oS).2 x (.inr he);exact(h.Gi _ this oS).1 rfl
def ES(s:ay):Int:=2*s.1+(if s.2=true then 1 else 0)
theorem abC{s t:ay}(h:ES s=ES t):s=t:=by
 obtain⟨a,x⟩:=s;obtain⟨b,y⟩:=t;cases x<;>cases y<;>simp[ES] at h ⊢<;>omega
end
def eh(U:List (ay×ay))(x y:ay):Bool:=decide ((x,y)∈U)
def lZ(U:List (ay×ay))(x y:ay):List (ay×ay):=if eh U y x=true then U.erase (y,x) else U++[(x,y)]
theorem aep(U:List (ay×ay))(x y s:ay):kT (U++[(x,y)]) s=kT U s+(if x=s then 1 else 0) - (if y=s then 1 else 0):=by
 unfold kT;rw[List.countP_append,List.countP_append];by_cases h1:x=s<;>by_cases h2:y=s<;>simp[h1,h2]<;>omega
theorem count_erase{p:ay×ay->Bool}{e:ay×ay}:∀ {U:List (ay×ay)},e∈U->U.countP p=(U.erase e).countP p+(if p e=true then 1 else 0)
 |[],h=>by simp at h
 |a::U,h=>by
  by_cases C:a=e
  .subst C;rw[List.erase_cons_head,List.countP_cons]
  .rw[List.erase_cons_tail (by simpa using C),List.countP_cons,List.countP_cons];have:=count_erase (p:=p) (U:=U) (by rcases List.mem_cons.1 h with g|g;exact absurd g.symm C;exact g);omega
theorem abD{U:List (ay×ay)}{x y s:ay}(h:(y,x)∈U):kT (U.erase (y,x)) s=kT U s+(if x=s then 1 else 0) - (if y=s then 1 else 0):=by
 unfold kT;have h1:=count_erase (p:=fun e:ay×ay=>e.1==s) h;have h2:=count_erase (p:=fun e:ay×ay=>e.2==s) h;by_cases C:x=s<;>by_cases J:y=s<;>simp[C,J] at h1 h2 ⊢<;>omega
theorem adb(U:List (ay×ay))(x y s:ay):kT (lZ U x y) s=kT U s+(if x=s then 1 else 0) - (if y=s then 1 else 0):=by
 unfold lZ eh;split
 .rename_i h;exact abD (by simpa using h)
 .exact aep U x y s
theorem ade{U:List (ay×ay)}(C:U.Nodup){x y a b:ay}(h1:a≠y)(h2:b≠y):(a,b)∈lZ U x y↔(a,b)∈U:=by
 unfold lZ;split
 .rw[List.Nodup.mem_erase_iff C];simp[h1]
 .simp[h2]
structure TR(beh:Nat->List Int)(fr to:Int)(U cm:List (ay×ay))(i:Nat)(y:ay)(V:List (ay×ay)):Prop where
 at_:∃ x,cm[i]? =some (y,x)
 Jn:∀ a b,a∈bY (cm.take (i+1))->b∈bY (cm.take (i+1))->((a,b)∈V↔(a,b)∈U)
 nd:V.Nodup
 ed:∀ e∈V,lx beh fr to e.1 e.2
 O1:∀ s,kT V s=kT U s+(if y=s then 1 else 0) - (if(to,false)=s then 1 else 0)
section
variable{beh:Nat->List Int}{fr to:Int}{U cm:List (ay×ay)}{op:List ay}
theorem TR.init(h:SR beh fr to U cm op){v:Int}(C:iJ beh fr to v U)(ht:(to,false)∈bY cm):∃ i,TR beh fr to U cm i (to,false) U:=by
 obtain⟨⟨a,x⟩,ha,e⟩:=List.mem_map.1 ht;obtain⟨i,hi⟩:=cC ha;dsimp only at e;subst e;exact⟨i,⟨x,hi⟩,fun _ _ _ _=>Iff.rfl,C.nd,C.ed,fun s=>by omega⟩
theorem J5{i j:Nat}{x z:ay}(hj:cm[j]? =some (x,z))(h:j<=i):x∈bY (cm.take (i+1)):=by
 refine List.mem_map.2 ⟨(x,z),bU (i:=j) ?_,rfl⟩;rw[List.getElem?_take,if_pos oG];exact hj
theorem KP(hn:(bY cm).Nodup){i j:Nat}{x z C:ay}(hi:cm[i]? =some (x,z))(hj:cm[j]? =some (x,C)):i=j:=by
 have h1:(bY cm)[i]? =some x:=by unfold bY;rw[List.getElem?_map,hi];rfl
 have h2:(bY cm)[j]? =some x:=by unfold bY;rw[List.getElem?_map,hj];rfl
 exact(List.getElem?_inj (bw.1 h1).1 hn).1 (h1.trans h2.symm)
theorem TR.step(h:SR beh fr to U cm op){i:Nat}{y x:ay}{V:List (ay×ay)}(C:TR beh fr to U cm i y V)(hi:cm[i]? =some (y,x))(aE:y≠(fr,true)):∃ j,j<i/\TR beh fr to U cm j x (lZ V x y):=by
 have h0:0<i:=by
  rcases Nat.eq_zero_or_pos i with g|g
  .subst g;rw[h.hd] at hi;simp only[aV,bQ] at hi;exact absurd hi.1.symm aE
  .exact g
 obtain⟨hr,j,z,hj,hc⟩:=h.par i y x h0 hi;have M:x∈bY (cm.take (i+1)):=J5 hc oG;have ky:y∈bY (cm.take (i+1)):=J5 hi (bF _)
 have X:∀ a,a∈bY (cm.take (j+1))->a≠y/\a∈bY (cm.take (i+1)):=fun a ha=>by
  obtain⟨⟨b,w⟩,hb,e⟩:=List.mem_map.1 ha;obtain⟨k,hk⟩:=cC hb;dsimp only at e;subst e;have rC:k<j+1:=by have:=(bw.1 hk).1;simp at this;omega
  rw[List.getElem?_take,if_pos rC] at hk;refine⟨fun e=>?_,J5 hk oG⟩;subst e;have:=KP h.nd hk hi;omega
 refine⟨j,hj,⟨z,hc⟩,fun a b ha hb=>?_,?_,?_,fun s=>?_⟩
 .obtain⟨a1,a2⟩:=X a ha;obtain⟨b1,b2⟩:=X b hb;rw[ade C.nd a1 b1];exact C.Jn a b a2 b2
 .unfold lZ eh;split
  .exact C.nd.erase _
  .rename_i J;have J:(y,x)∉V:=by simpa using J
   rw[List.nodup_append];refine⟨C.nd,oS,fun a ha b hb e=>?_⟩;simp only[List.mem_singleton] at hb;subst hb;subst e;rcases hr with⟨_,hr⟩|hr
   .exact hr ((C.Jn x y M ky).1 ha)
   .exact J ((C.Jn y x ky M).2 hr)
 .unfold lZ eh;split
  .exact fun e he=>C.ed e (List.mem_of_mem_erase he)
  .rename_i J;have J:(y,x)∉V:=by simpa using J
   intro e he;rcases List.mem_append.1 he with g|g
   .exact C.ed e g
   .simp only[List.mem_singleton] at g;subst g;rcases hr with⟨hr,_⟩|hr
    .exact hr
    .exact absurd ((C.Jn y x ky M).2 hr) J
 .rw[adb,C.O1 s];by_cases g:y=s<;>simp[g]<;>omega
theorem TR.fin{v:Int}(J:iJ beh fr to v U){i:Nat}{V:List (ay×ay)}(C:TR beh fr to U cm i (fr,true) V):iJ beh fr to (v+1) V:=by
 refine⟨C.nd,C.ed,?_,fun s h1 h2=>?_⟩
 .rw[C.O1,J.src];simp
 .rw[C.O1,J.mid s h1 h2,if_neg (fun e=>h1 e.symm),if_neg (fun e=>h2 e.symm)];rfl
theorem iJ.nil:iJ beh fr to 0 []:=⟨List.nodup_nil,fun e h=>by simp at h,rfl,fun _ _ _=>rfl⟩
end
structure me(beh:Nat->List Int)(fr to:Int)(l:List Int):Prop where
 len:2<=l.length
 hd:l.getD 0 0=fr
 O2:l.getD (l.length - 1) 0=to
 nd:l.Nodup
 st:∀ i,i+1<l.length->l.getD (i+1) 0∈beh (l.getD i 0).toNat
structure iB(U:List (ay×ay))(fr to:Int)(l:List Int):Prop where
 len:2<=l.length
 hd:l.getD 0 0=fr
 ch:∀ i,i+1<l.length->((l.getD i 0,true),(l.getD (i+1) 0,false))∈U
 nt:∀ i,0<i->i+1<l.length->l.getD i 0≠to
theorem Br{l:List Int}{x:Int}{i:Nat}(h:i<l.length):(l++[x]).getD i 0=l.getD i 0:=by
 rw[bl,List.getElem?_append_left h, <- List.getD_eq_getElem?_getD]
theorem Pn{l:List Int}{x:Int}:(l++[x]).getD l.length 0=x:=by
 rw[bl,List.getElem?_append_right (bF _),Nat.sub_self];rfl
section
variable{beh:Nat->List Int}{fr to:Int}{v:Int}{U:List (ay×ay)}{l l':List Int}
theorem iB.two{c:Int}(hc:((fr,true),(c,false))∈U):iB U fr to [fr,c]:=by
 refine⟨bF _,rfl,fun i hi=>?_,fun i h0 hi=>?_⟩
 .have:i=0:=by simp at hi;omega
  subst this;exact hc
 .simp at hi;omega
theorem iB.next(h:iB U fr to l){d:Int}(hl:l.getD (l.length - 1) 0≠to)(hd:((l.getD (l.length - 1) 0,true),(d,false))∈U):iB U fr to (l++[d]):=by
 have h2:=h.len;refine⟨by simp;omega,by rw[Br oG];exact h.hd,fun i hi=>?_,fun i h0 hi=>?_⟩
 .have hi:i<l.length:=by simp at hi;exact hi
  by_cases g:i+1=l.length
  .rw[Br hi,g,Pn];rw[show i=l.length - 1 by omega];exact hd
  .rw[Br hi,Br oG];exact h.ch i oG
 .have hi:i<l.length:=by simp at hi;exact hi
  rw[Br hi];by_cases g:i+1=l.length
  .rw[show i=l.length - 1 by omega];exact hl
  .exact h.nt i h0 oG
theorem iB.ne(C:iJ beh fr to v U)(h:iB U fr to l){i:Nat}(h0:0<i)(hi:i<l.length):l.getD i 0≠fr:=by
 have:=C.ed _ (h.ch (i - 1) oG);rw[show i - 1+1=i by omega] at this;cases this;assumption
theorem iB.inj(C:iJ beh fr to v U)(h:iB U fr to l)(h':iB U fr to l'):∀ i j,0<i->0<j->i<l.length->j<l'.length->l.getD i 0≠to->l.getD i 0=l'.getD j 0->i=j/\l.getD 1 0=l'.getD 1 0:=fun i=>by
 induction i with
 |zero=>intro j h0;omega
 |succ i ih=>
  intro j _ h0 hi hj ht he;obtain⟨j,rfl⟩:∃ k,j=k+1:=⟨j - 1,oG⟩
  have e1:=h.ch i hi;have e2:=h'.ch j hj;rw[<- he] at e2;have hp:=C.alM ht e1 e2;by_cases M:i=0
  .by_cases J:j=0
   .subst M J;exact⟨rfl,he⟩
   .exfalso;subst M;exact h'.ne C (i:=j) oG oG (by rw[<- hp,h.hd])
  .by_cases J:j=0
   .exfalso;subst J;exact h.ne C (i:=i) oG oG (by rw[hp,h'.hd])
   .obtain⟨a,b⟩:=ih j oG oG oG oG (h.nt i oG hi) hp;exact⟨oG,b⟩
theorem iB.nodup(J:iJ beh fr to v U)(X:fr≠to)(h:iB U fr to l):l.Nodup:=by
 unfold List.Nodup;rw[List.pairwise_iff_getElem];intro i j hi hj M he;have C:∀ k (hk:k<l.length),l[k]=l.getD k 0:=fun k hk=>by rw[bl,aM hk];rfl
 have he:l.getD i 0=l.getD j 0:=by rw[<- C i hi, <- C j hj];exact he
 have h2:=h.len;rcases Nat.eq_zero_or_pos i with g|g
 .subst g;exact h.ne J (i:=j) oG hj (by rw[<- he,h.hd])
 .have:=(h.inj J h i j g oG oG hj (h.nt i g oG) he).1;omega
theorem iB.X8(C:iJ beh fr to v U)(J:fr≠to)(h:iB U fr to l)(hl:l.getD (l.length - 1) 0=to):me beh fr to l:=by
 refine⟨h.len,h.hd,hl,h.nodup C J,fun i hi=>?_⟩;have:=C.ed _ (h.ch i hi);cases this;assumption
theorem iB.apart(C:iJ beh fr to v U)(h:iB U fr to l)(h':iB U fr to l')(J:l.getD 1 0≠l'.getD 1 0):∀ i,0<i->i+1<l.length->l.getD i 0∉l':=fun i h0 hi hm=>by
 obtain⟨j,hj⟩:=cC hm;have M:=(bw.1 hj).1;have hg:l'.getD j 0=l.getD i 0:=by rw[bl,hj];rfl
 rcases Nat.eq_zero_or_pos j with g|g
 .subst g;exact h.ne C h0 oG (by rw[<- hg,h'.hd])
 .exact J (h.inj C h' i j h0 g oG M (h.nt i h0 hi) hg.symm).2
theorem iB.more(C:iJ beh fr to v U)(h:iB U fr to l)(hl:l.getD (l.length - 1) 0≠to):∃ d,((l.getD (l.length - 1) 0,true),(d,false))∈U/\d∈beh (l.getD (l.length - 1) 0).toNat:=by
 have h2:=h.len;have he:=h.ch (l.length - 2) oG;rw[show l.length - 2+1=l.length - 1 by omega] at he;obtain⟨_,d,hd⟩:=C.pass he hl;have:=C.ed _ hd;cases this;exact⟨d,hd,oN⟩
theorem iJ.outs(J:iJ beh fr to 2 U){L:List Int}(hL:L.Nodup)(M:∀ c,c∈L↔c∈beh fr.toNat):(L.filter fun c=>eh U (fr,true) (c,false)).length=2:=by
 have bm:U.countP (fun e=>e.2==(fr,true))=0:=List.countP_eq_zero.2 fun e he hp=>by
  have hp:e.2=(fr,true):=by simpa using hp
  have C:=J.ed e he;obtain⟨x,y⟩:=e;dsimp only at hp C;subst hp;cases C;contradiction
 have hs:=J.src;unfold kT at hs;have wX:U.countP (fun e=>e.1==(fr,true))=2:=by omega
 rw[List.countP_eq_length_filter] at wX
 have hp:((L.filter fun c=>eh U (fr,true) (c,false)).map fun c=>(((fr,true),(c,false)):ay×ay)).Perm (U.filter fun e=>e.1==(fr,true)):=by
  refine(List.perm_ext_iff_of_nodup ?_ (J.nd.filter _)).2 fun e=>?_
  .refine List.Pairwise.map _ (fun a b X e=>X ?_) (hL.filter _);simpa using e
  .rw[List.mem_map,List.mem_filter];constructor
   .rintro⟨c,hc,rfl⟩;rw[List.mem_filter] at hc;exact⟨by simpa[eh] using hc.2,oS⟩
   .rintro⟨he,h1⟩;obtain⟨x,y⟩:=e;have h1:x=(fr,true):=by simpa using h1
    subst h1;have C:=J.ed _ he;dsimp only at C;cases C with
    |out hc _ _=>exact⟨_,List.mem_filter.2 ⟨(M _).2 hc,by simpa[eh] using he⟩,rfl⟩
 have:=hp.length_eq;rw[List.length_map] at this;omega
end
structure eV where
 par:List Int
 one:List (List Int)
 two:List (List Int)
def pA(par:List Int)(b:Int):Int:=par.getD b.toNat 0
inductive dR(par:List Int):Nat->Int->Int->Prop
 |refl (a:Int):dR par 0 a a
 |step {m:Nat} {b a:Int}:0<b->b<par.length->dR par m (pA par b) a->dR par (m+1) b a
def hC(par:List Int):Nat->Int->Int->Bool
 |0,b,a=>b==a
 |k+1,b,a=>if(b==a)=true then true else if b<=0\/pA par b<0\/(par.length:Int)<=pA par b then false else hC par k (pA par b) a
def gW(par:List Int):Nat->Int->Option (List Int)
 |k,b=>if b=0 then some [0] else match k with
  |0=>none
  |k+1=>if b<0\/(par.length:Int)<=b then none else(gW par k (pA par b)).map (b::·)
section
variable{par:List Int}
theorem dR.O3:∀ {m:Nat} {b:Int} {m':Nat},dR par m b 0->dR par m' b 0->m=m'
 |0,b,m',h,h'=>by
  cases h;cases h' with
  |refl=>rfl
  |step h0 _ _=>omega
 |m+1,b,m',h,h'=>by
  cases h with
  |step h0 h1 h2=>
   cases h' with
   |refl=>omega
   |step _ _ C=>rw[h2.O3 C]
theorem dR.trans:∀ {m k:Nat} {b c a:Int},dR par m b c->dR par k c a->dR par (m+k) b a
 |0,k,b,c,a,h,h'=>by cases h;rw[Nat.zero_add];exact h'
 |m+1,k,b,c,a,h,h'=>by
  cases h with
  |step h0 h1 h2=>rw[Nat.add_right_comm];exact .step h0 h1 (h2.trans h')
theorem dR.rest:∀ {m k:Nat} {b c:Int},dR par m b 0->dR par k b c->∃ j,m=k+j/\dR par j c 0
 |m,0,b,c,h,h'=>by cases h';exact⟨m,oG,h⟩
 |m,k+1,b,c,h,h'=>by
  cases h' with
  |step h0 h1 h2=>
   cases h with
   |refl=>omega
   |step _ _ h3=>
    obtain⟨j,e,hj⟩:=h3.rest h2;exact⟨j,oG,hj⟩
def su(par:List Int):Nat->Int->List Int
 |0,b=>[b]
 |m+1,b=>b::su par m (pA par b)
theorem PH(m:Nat):∀ b,(su par m b).length=m+1:=by
 induction m with
 |zero=>intro b;rfl
 |succ m ih=>intro b;simp[su,ih]
theorem Bu:∀ {m:Nat} {b x:Int},dR par m b 0->(x∈su par m b↔∃ k,k<=m/\dR par k b x)
 |0,b,x,h=>by
  cases h;simp only[su,List.mem_singleton];constructor
  .rintro rfl;exact⟨0,bF _,.refl _⟩
  .rintro⟨k,hk,hl⟩;obtain rfl:k=0:=by omega
   cases hl;rfl
 |m+1,b,x,h=>by
  cases h with
  |step h0 h1 h2=>
   simp only[su,List.mem_cons];constructor
   .rintro(rfl|hx)
    .exact⟨0,Nat.zero_le _,.refl _⟩
    .obtain⟨k,hk,hl⟩:=(Bu h2).1 hx;exact⟨k+1,oG,.step h0 h1 hl⟩
   .rintro⟨k,hk,hl⟩;cases hl with
    |refl=>exact .inl rfl
    |step _ _ hl=>exact .inr ((Bu h2).2 ⟨_,oG,hl⟩)
theorem dR.range{m:Nat}{b:Int}(h:dR par m b 0)(hp:0<par.length):0<=b/\b.toNat<par.length:=by
 cases h with
 |refl=>exact⟨Int.le_refl _,by simpa using hp⟩
 |step h0 h1 _=>exact⟨oG,oG⟩
theorem Gn:∀ {m:Nat} {b:Int},dR par m b 0->(su par m b).Nodup
 |0,b,_=>by simp[su]
 |m+1,b,h=>by
  cases h with
  |step h0 h1 h2=>
   refine List.nodup_cons.2 ⟨fun hm=>?_,Gn h2⟩;obtain⟨k,hk,hl⟩:=(Bu h2).1 hm;obtain⟨j,e,hj⟩:=h2.rest hl;have:=hj.O3 (dR.step h0 h1 h2);omega
theorem dR.lt{m:Nat}{b:Int}(h:dR par m b 0)(hp:0<par.length):m<par.length:=by
 have:=Bx (n:=par.length) (Gn h) fun x hx=>by
  obtain⟨k,_,hl⟩:=(Bu h).1 hx;obtain⟨j,_,hj⟩:=h.rest hl;exact hj.range hp
 rw[PH] at this;omega
theorem Jt:∀ {k:Nat} {b a:Int},b<par.length->hC par k b a=true->∃ m,m<=k/\dR par m b a
 |0,b,a,_,h=>by
  have:b=a:=by simpa[hC] using h
  subst this;exact⟨0,bF _,.refl _⟩
 |k+1,b,a,hb,h=>by
  unfold hC at h;split at h
  .rename_i e;have:b=a:=by simpa using e
   subst this;exact⟨0,Nat.zero_le _,.refl _⟩
  .split at h
   .cases h
   .rename_i e;obtain⟨m,hm,hl⟩:=Jt oG h;exact⟨m+1,oG,.step oG hb hl⟩
theorem O7:∀ {k m:Nat} {b a:Int},(∀ x,∀ j,dR par j b x->x≠a->j<m->0<=pA par x/\pA par x<par.length)->dR par m b a->m<=k->hC par k b a=true
 |0,m,b,a,_,h,hm=>by
  obtain rfl:m=0:=by omega
  cases h;simp[hC]
 |k+1,m,b,a,hr,h,hm=>by
  unfold hC;by_cases e:b=a
  .rw[if_pos (by simp[e])]
  .rw[if_neg (by simp[e])];cases h with
   |refl=>exact absurd rfl e
   |step h0 h1 h2=>
    have:=hr b 0 (.refl _) e oG;rw[if_neg oG];exact O7 (fun x j hj hx C=>hr x (j+1) (.step h0 h1 hj) hx oG) h2 oG
theorem J6{m:Nat}{b:Int}(h:dR par m b 0)(hp:0<par.length){a:Int}:hC par par.length b a=true↔∃ k,dR par k b a:=by
 constructor
 .intro hl;obtain⟨k,_,hk⟩:=Jt (by have:=h.range hp;omega) hl;exact⟨k,hk⟩
 .rintro⟨k,hk⟩;obtain⟨j,e,hj⟩:=h.rest hk;have:=h.lt hp;refine O7 (fun x i hi hx J=>?_) hk oG;obtain⟨M,e2,C⟩:=h.rest hi;cases C with
  |refl=>omega
  |step _ _ h3=>have:=h3.range hp;omega
theorem PQ{b:Int}(hb:b<par.length)(hp:0<par.length):hC par par.length b 0=true↔∃ m,dR par m b 0:=by
 constructor
 .intro hl;obtain⟨m,_,hm⟩:=Jt hb hl;exact⟨m,hm⟩
 .rintro⟨m,hm⟩;exact(J6 hm hp).2 ⟨m,hm⟩
theorem Kk:∀ {k:Nat} {b:Int} {l:List Int},gW par k b=some l->∃ m,dR par m b 0/\l=su par m b
 |k,b,l,h=>by
  unfold gW at h;split at h
  .rename_i e;subst e;cases h;exact⟨0,.refl _,rfl⟩
  .rename_i e;cases k with
   |zero=>cases h
   |succ k=>
    dsimp only at h;split at h
    .cases h
    .rename_i e2;obtain⟨l',h1,rfl⟩:=dw.1 h;obtain⟨m,hm,rfl⟩:=Kk h1;exact⟨m+1,.step oG oG hm,rfl⟩
theorem T6:∀ {k m:Nat} {b:Int},dR par m b 0->m<=k->gW par k b=some (su par m b)
 |k,0,b,h,_=>by cases h;unfold gW;rw[if_pos rfl];rfl
 |0,m+1,b,h,hm=>by omega
 |k+1,m+1,b,h,hm=>by
  cases h with
  |step h0 h1 h2=>
   unfold gW;rw[if_neg oG];dsimp only;rw[if_neg oG,T6 h2 oG];rfl
theorem K8{m:Nat}{b:Int}(h:dR par m b 0)(hp:0<par.length):gW par (par.length+1) b=some (su par m b):=T6 h (by have:=h.lt hp;omega)
end
def de(par:List Int)(b:Int):Bool:=decide (0<b)&&pA par b== -1
def lenP(d:eV)(n:Nat):Bool:=decide (d.par.length=n)&&(decide (d.one.length=n)&&(decide (d.two.length=n)&&pA d.par 0== -1))
def o5(beh:Nat->List Int)(par:List Int)(n b:Nat):Bool:=de par b||((b==0||(nF n (pA par b)&&(!(de par (pA par b))&&hC par par.length b 0)))&& !((beh b).any (de par)))
def mb(ahd:Nat->List Int)(par:List Int)(b:Nat):Bool:=b==0||(de par b||(ahd b).all fun a=>de par a||hC par par.length a (pA par b))
def qI(beh ahd:Nat->List Int)(n:Nat)(d:eV):Bool:=lenP d n&&((range n).all (o5 beh d.par n)&&(range n).all (mb ahd d.par))
def iU(beh:Nat->List Int)(n:Nat)(l:List Int)(i:Nat):Bool:=nF n (l.getD i 0)&&(!(eQ (l.take i) (l.getD i 0))&&(i==0||eQ (beh (l.getD (i - 1) 0).toNat) (l.getD i 0)))
def jU(beh:Nat->List Int)(n:Nat)(l:List Int)(fr to:Int):Bool:=decide (2<=l.length)&&(l.getD 0 0==fr&&(l.getD (l.length - 1) 0==to&&(range l.length).all (iU beh n l)))
def nY(beh:Nat->List Int)(n:Nat)(l:List Int)(fr to:Int):Bool:=decide (l.length<=n)&&jU beh n l fr to
def yJ(one two:List Int):Bool:=(range (one.length - 2)).all fun i=> !(eQ two (one.getD (i+1) 0))
def nq(beh:Nat->List Int)(n:Nat)(d:eV)(b:Nat):Bool:=
 if pA d.par b= -1 then(d.one.getD b []).length+(d.two.getD b []).length==0 else nY beh n (d.one.getD b []) (pA d.par b) b&&(nY beh n (d.two.getD b []) (pA d.par b) b&&yJ (d.one.getD b []) (d.two.getD b []))
def yI(beh ahd:Nat->List Int)(n:Nat)(d:eV):Bool:=qI beh ahd n d&&(range n).all (nq beh n d)
def lC(beh:Nat->List Int)(n:Nat)(d:eV)(b:Nat):Bool:=
 if b=0\/pA d.par b= -1 then(d.one.getD b []).length+(d.two.getD b []).length==0
 else match gW d.par (d.par.length+1) b with
  |none=>false
  |some l=>jU beh n (d.one.getD b []) (pA d.par b) b&&(jU beh n (d.two.getD b []) (pA d.par b) b&&(!(eQ l.tail b)&&yJ (d.one.getD b []) (d.two.getD b [])))
def ng(ahd:Nat->List Int)(par:List Int)(b:Nat):Bool:=(ahd b).all fun a=>if a≠0/\pA par a= -1 then true else !(decide (b≠0)&&pA par b== -1)&&(b==0||eQ ((gW par (par.length+1) a).getD []) (pA par b))
def yK(beh ahd:Nat->List Int)(n:Nat)(d:eV):Bool:=lenP d n&&((range n).all (lC beh n d)&&(range n).all (ng ahd d.par))
structure oQ(beh ahd:Nat->List Int)(n:Nat)(d:eV):Prop where
 lp:d.par.length=n
 lo:d.one.length=n
 lt:d.two.length=n
 p0:pA d.par 0= -1
 chain:∀ b:Nat,b<n->b≠0->pA d.par b≠ -1->∃ m,dR d.par m b 0
 Nh:∀ b:Nat,b<n->de d.par b=false->∀ c∈beh b,de d.par c=false
 vJ:∀ b:Nat,b<n->b≠0->de d.par b=false->∀ a∈ahd b,de d.par a=false->∃ k,dR d.par k a (pA d.par b)
 none:∀ b:Nat,b<n->pA d.par b= -1->d.one.getD b []=[]/\d.two.getD b []=[]
 ways:∀ b:Nat,b<n->pA d.par b≠ -1->me beh (pA d.par b) b (d.one.getD b [])/\me beh (pA d.par b) b (d.two.getD b [])/\∀ i,0<i->i+1<(d.one.getD b []).length->(d.one.getD b []).getD i 0∉d.two.getD b []
theorem wD{beh:Nat->List Int}{n:Nat}(hb:∀ b,∀ c∈beh b,0<=c/\c.toNat<n){l:List Int}{fr to:Int}:jU beh n l fr to=true↔me beh fr to l/\0<=fr/\fr.toNat<n:=by
 have C:∀ k (hk:k<l.length),l[k]=l.getD k 0:=fun k hk=>by rw[bl,aM hk];rfl
 unfold jU;simp only[aO,decide_eq_true_eq,beq_iff_eq,bj,List.mem_range];constructor
 .rintro⟨h1,h2,h3,h4⟩
  have hs:∀ i,i<l.length->nF n (l.getD i 0)=true/\eQ (l.take i) (l.getD i 0)=false/\(i=0\/l.getD i 0∈beh (l.getD (i - 1) 0).toNat):=fun i hi=>by
   have:=h4 i hi;unfold iU at this;simp only[aO,Bool.not_eq_true',Bool.or_eq_true,beq_iff_eq,te] at this;exact this
  have h0:=ym.1 (hs 0 oG).1;rw[h2] at h0;refine⟨⟨h1,h2,h3,?_,fun i hi=>?_⟩,h0.1,oG⟩
  .unfold List.Nodup;rw[List.pairwise_iff_getElem];intro i j hi hj mi he;rw[C i hi,C j hj] at he;have:=(hs j hj).2.1;rw[Bool.eq_false_iff] at this;refine this (te.2 ?_);rw[<- he, <- C i hi];exact bU (i:=i) (by rw[List.getElem?_take,if_pos mi,aM hi])
  .rcases(hs (i+1) hi).2.2 with h|h
   .omega
   .exact h
 .rintro⟨h,h0,h1⟩;refine⟨h.len,h.hd,h.O2,fun i hi=>?_⟩;unfold iU;simp only[aO,Bool.not_eq_true',Bool.or_eq_true,beq_iff_eq,te]
  have J:0<=l.getD i 0/\(l.getD i 0).toNat<n/\(i=0\/l.getD i 0∈beh (l.getD (i - 1) 0).toNat):=by
   cases i with
   |zero=>rw[h.hd];exact⟨h0,h1,.inl rfl⟩
   |succ i=>
    have:=h.st i hi;exact⟨(hb _ _ this).1,(hb _ _ this).2,.inr this⟩
  refine⟨ym.2 ⟨J.1,oG⟩,?_,J.2.2⟩;rw[Bool.eq_false_iff];intro X;have hm:=te.1 X;obtain⟨j,hj⟩:=cC hm;have M:=(bw.1 hj).1;rw[List.length_take] at M;rw[List.getElem?_take,if_pos oG,aM oG] at hj;have cR:=h.nd;unfold List.Nodup at cR;rw[List.pairwise_iff_getElem] at cR;exact cR j i oG hi oG (by rw[C i hi];exact Option.some.inj hj)
theorem KR{beh:Nat->List Int}{n:Nat}(hb:∀ b,∀ c∈beh b,0<=c/\c.toNat<n){l:List Int}{fr to:Int}(h:me beh fr to l)(h0:0<=fr)(h1:fr.toNat<n):l.length<=n:=Bx h.nd fun x hx=>by
 obtain⟨i,hi⟩:=cC hx;have C:=(bw.1 hi).1;have e:l.getD i 0=x:=by rw[bl,hi];rfl
 rw[<- e];cases i with
 |zero=>rw[h.hd];exact⟨h0,h1⟩
 |succ i=>exact hb _ _ (h.st i C)
theorem Hs{beh:Nat->List Int}{n:Nat}(hb:∀ b,∀ c∈beh b,0<=c/\c.toNat<n){l:List Int}{fr to:Int}:nY beh n l fr to=jU beh n l fr to:=by
 unfold nY;cases h:jU beh n l fr to with
 |false=>simp
 |true=>
  obtain⟨h1,h2,h3⟩:=(wD hb).1 h;simp[KR hb h1 h2 h3]
theorem GR{one two:List Int}:yJ one two=true↔∀ i,0<i->i+1<one.length->one.getD i 0∉two:=by
 unfold yJ;simp only[bj,List.mem_range,Bool.not_eq_true'];constructor
 .intro h i h0 hi hm;have:=h (i - 1) oG;rw[show i - 1+1=i by omega,Bool.eq_false_iff] at this;exact this (te.2 hm)
 .intro h i hi;rw[Bool.eq_false_iff];intro C;exact h (i+1) oG oG (te.1 C)
theorem tg{d:eV}{n:Nat}:lenP d n=true↔d.par.length=n/\d.one.length=n/\d.two.length=n/\pA d.par 0= -1:=by
 unfold lenP;simp
section
variable{beh ahd:Nat->List Int}{n:Nat}(h:ua beh ahd n){d:eV}
theorem GS{par:List Int}{b:Int}:de par b=true↔0<b/\pA par b= -1:=by
 unfold de;rw[aO,decide_eq_true_eq,beq_iff_eq]
theorem qF{par:List Int}{b:Int}:de par b=false↔b<=0\/pA par b≠ -1:=by
 rw[Bool.eq_false_iff,ne_eq,GS];omega
include h
theorem YY(hp:yI beh ahd n d=true):oQ beh ahd n d:=by
 have iL:=h.pos;unfold yI qI at hp;rw[aO,aO,aO,tg] at hp;obtain⟨⟨⟨l1,l2,l3,l4⟩,h1,h2⟩,h3⟩:=hp
 have r1:∀ b:Nat,b<n->de d.par b=true\/((b=0\/(nF n (pA d.par b)=true/\de d.par (pA d.par b)=false/\hC d.par d.par.length b 0=true))/\(beh b).any (de d.par)=false):=fun b hb=>by
  have:=bj.1 h1 b (List.mem_range.2 hb);unfold o5 at this;simpa only[Bool.or_eq_true,aO,beq_iff_eq,Bool.not_eq_true'] using this
 have r2:∀ b:Nat,b<n->b=0\/de d.par b=true\/∀ a∈ahd b,de d.par a=true\/hC d.par d.par.length a (pA d.par b)=true:=fun b hb=>by
  have:=bj.1 h2 b (List.mem_range.2 hb);unfold mb at this;simpa only[Bool.or_eq_true,bj,beq_iff_eq] using this
 have r3:∀ b:Nat,b<n->nq beh n d b=true:=fun b hb=>bj.1 h3 b (List.mem_range.2 hb)
 have qx:∀ b:Nat,b<n->b≠0->pA d.par b≠ -1->∃ m,dR d.par m b 0:=fun b hb C M=>by
  rcases r1 b hb with g|⟨g,_⟩
  .exact absurd (GS.1 g).2 M
  .rcases g with g|⟨_,_,g⟩
   .exact absurd g C
   .exact(PQ oG oG).1 g
 have AR:∀ b:Nat,b<n->de d.par b=false->∃ m,dR d.par m b 0:=fun b hb J=>by
  by_cases C:b=0
  .subst C;exact⟨0,.refl _⟩
  .rcases qF.1 J with g|g
   .omega
   .exact qx b hb C g
 refine⟨l1,l2,l3,l4,qx,fun b hb J c hc=>?_,fun b hb C J a ha jI=>?_,fun b hb he=>?_,fun b hb M=>?_⟩
 .rcases r1 b hb with g|⟨_,g⟩
  .rw[J] at g;cases g
  .have:=List.any_eq_false.1 g c hc;simpa using this
 .rcases r2 b hb with g|g|g
  .exact absurd g C
  .rw[J] at g;cases g
  .rcases g a ha with g|g
   .rw[jI] at g;cases g
   .have X:=(h.rI b a).1 ha;obtain⟨an,rfl⟩:=cU X.1;obtain⟨m,hm⟩:=AR an (by simpa using X.2.1) jI;exact(J6 hm oG).1 g
 .have:=r3 b hb;unfold nq at this;rw[if_pos he,beq_iff_eq] at this;exact⟨List.length_eq_zero_iff.1 oG,List.length_eq_zero_iff.1 oG⟩
 .have:=r3 b hb;unfold nq at this;rw[if_neg M,aO,aO,Hs h.to,Hs h.to,wD h.to,wD h.to,GR] at this;exact⟨this.1.1,this.2.1.1,this.2.2⟩
theorem YZ(hp:oQ beh ahd n d):yI beh ahd n d=true:=by
 have iL:=h.pos
 have AR:∀ b:Nat,b<n->de d.par b=false->∃ m,dR d.par m b 0:=fun b hb J=>by
  by_cases C:b=0
  .subst C;exact⟨0,.refl _⟩
  .rcases qF.1 J with g|g
   .omega
   .exact hp.chain b hb C g
 have v9:=hp.lp
 have j4:∀ b:Nat,b<n->b≠0->pA d.par b≠ -1->0<=pA d.par b/\(pA d.par b).toNat<n/\de d.par (pA d.par b)=false:=fun b hb C M=>by
  obtain⟨m,hm⟩:=hp.chain b hb C M;cases hm with
  |refl=>exact absurd rfl C
  |step h0 h1 h2=>
   have:=h2.range oG;refine⟨this.1,oG,qF.2 ?_⟩;generalize pA d.par b=p at h2 this M ⊢;cases h2 with
   |refl=>exact .inl oG
   |step _ _ h3=>
    have:=h3.range oG;exact .inr oG
 unfold yI qI;rw[aO,aO,aO,tg];refine⟨⟨⟨hp.lp,hp.lo,hp.lt,hp.p0⟩,bj.2 fun b hb=>?_,bj.2 fun b hb=>?_⟩,bj.2 fun b hb=>?_⟩
 .have hb:=List.mem_range.1 hb;unfold o5;simp only[Bool.or_eq_true,aO,beq_iff_eq,Bool.not_eq_true'];cases J:de d.par b with
  |true=>exact .inl rfl
  |false=>
   refine .inr ⟨?_,List.any_eq_false.2 fun c hc=>by rw[hp.Nh b hb J c hc];simp⟩;by_cases C:b=0
   .exact .inl C
   .have M:pA d.par b≠ -1:=by
     rcases qF.1 J with g|g
     .omega
     .exact g
    obtain⟨X,u2,u3⟩:=j4 b hb C M;exact .inr ⟨ym.2 ⟨X,oG⟩,u3,(PQ oG oG).2 (hp.chain b hb C M)⟩
 .have hb:=List.mem_range.1 hb;unfold mb;simp only[Bool.or_eq_true,bj,beq_iff_eq];by_cases C:b=0
  .exact .inl C
  .refine .inr ?_;cases J:de d.par b with
   |true=>exact .inl rfl
   |false=>
    refine .inr fun a ha=>?_;cases jI:de d.par a with
    |true=>exact .inl rfl
    |false=>
     have gE:=(h.rI b a).1 ha;obtain⟨k,hk⟩:=hp.vJ b hb C J a ha jI;obtain⟨an,rfl⟩:=cU gE.1;obtain⟨m,hm⟩:=AR an (by simpa using gE.2.1) jI;exact .inr ((J6 hm oG).2 ⟨k,hk⟩)
 .have hb:=List.mem_range.1 hb;unfold nq;by_cases he:pA d.par b= -1
  .obtain⟨e1,e2⟩:=hp.none b hb he;rw[if_pos he,e1,e2];rfl
  .obtain⟨w1,w2,w3⟩:=hp.ways b hb he;have C:b≠0:=fun e=>he (by rw[e];exact hp.p0);obtain⟨X,u2,_⟩:=j4 b hb C he;rw[if_neg he,aO,aO,Hs h.to,Hs h.to,wD h.to,wD h.to,GR];exact⟨⟨w1,X,u2⟩,⟨w2,X,u2⟩,w3⟩
theorem abE:yI beh ahd n d=true↔oQ beh ahd n d:=⟨YY h,YZ h⟩
theorem Zj(hp:yK beh ahd n d=true):oQ beh ahd n d:=by
 have iL:=h.pos;unfold yK at hp;rw[aO,aO,tg] at hp;obtain⟨⟨l1,l2,l3,l4⟩,h1,h2⟩:=hp;have r1:∀ b:Nat,b<n->lC beh n d b=true:=fun b hb=>bj.1 h1 b (List.mem_range.2 hb)
 have r2:∀ b:Nat,b<n->∀ a∈ahd b,¬ (a≠0/\pA d.par a= -1)->¬ (b≠0/\pA d.par b= -1)/\(b=0\/pA d.par b∈(gW d.par (d.par.length+1) a).getD []):=fun b hb a ha hn=>by
  have:=bj.1 h2 b (List.mem_range.2 hb);unfold ng at this;have:=bj.1 this a ha;rw[if_neg hn] at this;simp only[aO,Bool.not_eq_true',Bool.and_eq_false_iff,decide_eq_false_iff_not,beq_eq_false_iff_ne,Bool.or_eq_true,beq_iff_eq,te,Decidable.not_not,ne_eq] at this;refine⟨fun g=>?_,this.2⟩;rcases this.1 with g1|g1
  .exact g.1 g1
  .exact g1 g.2
 have qx:∀ b:Nat,b<n->b≠0->pA d.par b≠ -1->∃ m,dR d.par m b 0:=fun b hb C aE=>by
  have:=r1 b hb;unfold lC at this;rw[if_neg oG] at this;cases M:gW d.par (d.par.length+1) b with
  |none=>rw[M] at this;cases this
  |some l=>
   obtain⟨m,hm,_⟩:=Kk M;exact⟨m,hm⟩
 have hz:∀ a:Int,de d.par a=false->0<=a->¬ (a≠0/\pA d.par a= -1):=fun a J h0=>by
  have:=qF.1 J;omega
 have AR:∀ b:Nat,b<n->de d.par b=false->∃ m,dR d.par m b 0:=fun b hb J=>by
  by_cases C:b=0
  .subst C;exact⟨0,.refl _⟩
  .rcases qF.1 J with g|g
   .omega
   .exact qx b hb C g
 refine⟨l1,l2,l3,l4,qx,fun b hb J c hc=>?_,fun b hb C J a ha jI=>?_,fun b hb he=>?_,fun b hb aE=>?_⟩
 .have lM:=h.to b c hc;obtain⟨X,rfl⟩:=cU lM.1;rw[bN] at lM;have dH:(b:Int)∈ahd X:=(h.rI X b).2 ⟨oG,by simpa using hb,by simpa using hc⟩;obtain⟨g,_⟩:=r2 X lM.2 b dH (hz b J oG);refine qF.2 ?_;omega
 .have gE:=(h.rI b a).1 ha;obtain⟨_,g⟩:=r2 b hb a ha (hz a jI gE.1);obtain⟨an,rfl⟩:=cU gE.1;obtain⟨m,hm⟩:=AR an (by simpa using gE.2.1) jI;rcases g with g|g
  .exact absurd g C
  .rw[K8 hm oG] at g;obtain⟨k,_,hk⟩:=(Bu hm).1 g;exact⟨k,hk⟩
 .have:=r1 b hb;unfold lC at this;rw[if_pos (.inr he),beq_iff_eq] at this;exact⟨List.length_eq_zero_iff.1 oG,List.length_eq_zero_iff.1 oG⟩
 .have:=r1 b hb;have C:b≠0:=fun e=>aE (by rw[e];exact l4);unfold lC at this;rw[if_neg oG] at this;cases M:gW d.par (d.par.length+1) b with
  |none=>rw[M] at this;cases this
  |some l=>
   rw[M] at this;dsimp only at this;rw[aO,aO,aO,wD h.to,wD h.to,GR] at this;exact⟨this.1.1,this.2.1.1,this.2.2.2⟩
theorem Zk(hp:oQ beh ahd n d):yK beh ahd n d=true:=by
 have iL:=h.pos;have v9:=hp.lp
 have AR:∀ b:Nat,b<n->de d.par b=false->∃ m,dR d.par m b 0:=fun b hb ho=>by
  by_cases C:b=0
  .subst C;exact⟨0,.refl _⟩
  .rcases qF.1 ho with g|g
   .omega
   .exact hp.chain b hb C g
 unfold yK;rw[aO,aO,tg];refine⟨⟨hp.lp,hp.lo,hp.lt,hp.p0⟩,bj.2 fun b hb=>?_,bj.2 fun b hb=>?_⟩
 .have hb:=List.mem_range.1 hb;unfold lC;by_cases he:b=0\/pA d.par b= -1
  .have fE:pA d.par b= -1:=by
    rcases he with rfl|g
    .exact hp.p0
    .exact g
   obtain⟨e1,e2⟩:=hp.none b hb fE;rw[if_pos he,e1,e2];rfl
  .have C:b≠0:=fun e=>he (.inl e);have J:pA d.par b≠ -1:=fun e=>he (.inr e);obtain⟨m,hm⟩:=hp.chain b hb C J;obtain⟨w1,w2,w3⟩:=hp.ways b hb J;rw[if_neg he,K8 hm oG];dsimp only
   have hr:0<=pA d.par b/\(pA d.par b).toNat<n:=by
    cases hm with
    |refl=>exact absurd rfl C
    |step h0 h1 h2=>have:=h2.range oG;exact⟨this.1,oG⟩
   have cR:=Gn hm;rw[aO,aO,aO,wD h.to,wD h.to,GR];refine⟨⟨w1,hr.1,hr.2⟩,⟨w2,hr.1,hr.2⟩,?_,w3⟩;rw[Bool.not_eq_true',Bool.eq_false_iff];intro hh;have mg:=te.1 hh;cases m with
   |zero=>simp[su] at mg
   |succ m=>exact(List.nodup_cons.1 cR).1 mg
 .have hb:=List.mem_range.1 hb;unfold ng;refine bj.2 fun a ha=>?_;have X:=(h.rI b a).1 ha;by_cases hn:a≠0/\pA d.par a= -1
  .rw[if_pos hn]
  .rw[if_neg hn];have jI:de d.par a=false:=qF.2 oG;obtain⟨M,rfl⟩:=cU X.1;have my:M<n:=by simpa using X.2.1
   have vU:=hp.Nh M my jI b (by simpa using X.2.2);obtain⟨m,hm⟩:=AR M my jI;have ho:=qF.1 vU;rw[aO,Bool.not_eq_true',Bool.or_eq_true,K8 hm oG];constructor
   .by_cases e:b=0
    .subst e;rfl
    .have J:pA d.par b≠ -1:=by omega
     rw[Bool.and_eq_false_iff];exact .inr (beq_eq_false_iff_ne.2 J)
   .by_cases e:b=0
    .subst e;exact .inl rfl
    .refine .inr (te.2 ?_);obtain⟨k,hk⟩:=hp.vJ b hb e vU _ ha jI;obtain⟨j,ej,_⟩:=hm.rest hk;exact(Bu hm).2 ⟨k,oG,hk⟩
theorem RQ:yK beh ahd n d=true↔oQ beh ahd n d:=⟨Zj h,Zk h⟩
theorem aci:yI beh ahd n d=yK beh ahd n d:=by rw[Bool.eq_iff_iff,abE h,RQ h]
end
section
variable{beh ahd:Nat->List Int}{n:Nat}(h:ua beh ahd n)
include h
theorem Ix:bM beh n 0:=(JN (w:= -1) h.to h.pos oG).1
theorem KC{x:Nat}{c:Int}(hx:bM beh n x)(hc:c∈beh x):bM beh n c.toNat:=Pe h.to h.pos hx c hc
theorem aiJ{b:Nat}(hb:b<n):pA (gg beh ahd n) b=dC (gg beh ahd n) b:=by
 unfold pA dC;have:(b:Int).toNat<(gg beh ahd n).length:=by rw[z2 h];simpa using hb
 rw[bl,bl,aM this];rfl
theorem wG{b:Nat}(C:bM beh n b):b<n:=by
 rcases Nat.lt_or_ge b n with g|g
 .exact g
 .exfalso;have hl:=wg (w:= -1) h.to h.pos;unfold bM at C;rw[bl,List.getElem?_eq_none oG] at C;cases C
open Classical in
theorem ww{b:Nat}(hb:b<n):pA (gg beh ahd n) b=if b≠0/\bM beh n b then((fu beh ahd n b:Nat):Int) else -1:=by
 rw[aiJ h hb];by_cases h0:b=0
 .subst h0;rw[if_neg oS];exact Rm h
 .by_cases C:bM beh n b
  .rw[if_pos ⟨h0,C⟩];exact(HB h C h0).1
  .rw[if_neg (fun g=>C g.2)];exact SJ h C
theorem Ht{b:Nat}(hb:b<n):de (gg beh ahd n) b=true↔¬ bM beh n b:=by
 rw[GS,ww h hb];by_cases h0:b=0
 .subst h0;simp[Ix h]
 .by_cases C:bM beh n b
  .rw[if_pos ⟨h0,C⟩];simp[C]
  .rw[if_neg (fun g=>C g.2)];simp[C];omega
theorem RA{w:Nat}:∀ x,bM beh n x->bL (fu beh ahd n) w x->∃ k,dR (gg beh ahd n) k x w:=
 (pS h).ind (p:=fun x=>bL (fu beh ahd n) w x->∃ k,dR (gg beh ahd n) k x w) (fun ha=>by
  have:=ha.zero (pS h).mE rfl;subst this
  exact⟨0,.refl _⟩) fun x C hx _ _ ih ha=>by
  rcases ha.inv with e|ha
  .subst e;exact⟨0,.refl _⟩
  .obtain⟨k,hk⟩:=ih ha;have J:=wG h C;refine⟨k+1,.step oG (by rw[z2 h];omega) ?_⟩;rw[ww h J,if_pos ⟨hx,C⟩];exact hk
omit h in
theorem adf{p a b:Nat}(hd:vH beh p b)(J:p≠b)(C:(b:Int)∈beh a):vH beh p a:=fun hv=>hd (.step hv C fun e=>J e.symm)
theorem Lv{b:Nat}(C:bM beh n b)(J:b≠0):vH beh (fu beh ahd n b) b/\fu beh ahd n b≠b:=by
 refine⟨(sj h C).1 (.up (.refl _)),fun e=>?_⟩;have:=((pS h).par b C J).2;rw[e] at this;omega
theorem ZN{d:eV}(hp:d.par=gg beh ahd n)(lo:d.one.length=n)(lt:d.two.length=n)(b8:∀ b:Nat,b<n->(b=0\/¬ bM beh n b)->d.one.getD b []=[]/\d.two.getD b []=[])
 (hw:∀ b:Nat,bM beh n b->b≠0->me beh (fu beh ahd n b:Nat) b (d.one.getD b [])/\me beh (fu beh ahd n b:Nat) b (d.two.getD b [])/\∀ i,0<i->i+1<(d.one.getD b []).length->(d.one.getD b []).getD i 0∉d.two.getD b []):oQ beh ahd n d:=by
 have bm:∀ b:Nat,b<n->pA d.par b≠ -1->b≠0/\bM beh n b:=fun b hb J=>by
  rw[hp,ww h hb] at J;by_cases g:b≠0/\bM beh n b
  .exact g
  .rw[if_neg g] at J;exact absurd rfl J
 refine⟨by rw[hp];exact z2 h,lo,lt,?_,fun b hb X J=>?_,fun b hb M c hc=>?_,fun b hb X M a ha jI=>?_,fun b hb he=>?_,fun b hb J=>?_⟩
 .rw[hp];have:=ww h h.pos;rw[if_neg oS] at this;exact this
 .obtain⟨_,C⟩:=bm b hb J;rw[hp];exact RA h b C ((pS h).aed b C)
 .rw[hp] at M ⊢;have C:bM beh n b:=Classical.byContradiction fun g=>by rw[(Ht h hb).2 g] at M;cases M
  have rc:=KC h C hc;have lM:=h.to b c hc;obtain⟨cn,rfl⟩:=cU lM.1;rw[Bool.eq_false_iff];intro g;exact(Ht h lM.2).1 g rc
 .rw[hp] at M jI ⊢;have C:bM beh n b:=Classical.byContradiction fun g=>by rw[(Ht h hb).2 g] at M;cases M
  have gE:=(h.rI b a).1 ha;obtain⟨an,rfl⟩:=cU gE.1;rw[bN] at gE;have ra:bM beh n an:=Classical.byContradiction fun g=>by rw[(Ht h gE.2.1).2 g] at jI;cases jI
  rw[ww h hb,if_pos ⟨X,C⟩];obtain⟨hd,J⟩:=Lv h C X;exact RA h an ra ((sj h ra).2 (adf hd J gE.2.2))
 .refine b8 b hb ?_;rw[hp,ww h hb] at he;by_cases g:b≠0/\bM beh n b
  .rw[if_pos g] at he;omega
  .by_cases h0:b=0
   .exact .inl h0
   .exact .inr fun C=>g ⟨h0,C⟩
 .obtain⟨X,C⟩:=bm b hb J;have:=hw b C X;rw[hp,ww h hb,if_pos ⟨X,C⟩];exact this
omit h in
theorem SW{fr to:Int}{l:List Int}(C:me beh fr to l){S:Nat->Prop}(h0:S fr.toNat)(hS:∀ x,S x->∀ c∈beh x,c∈l->S c.toNat):S to.toNat:=by
 have J:∀ i,i<l.length->l.getD i 0∈l:=fun i hi=>by
  rw[bl,aM hi];exact cy hi
 have key:∀ i,i<l.length->S (l.getD i 0).toNat:=fun i=>by
  induction i with
  |zero=>intro _;rw[C.hd];exact h0
  |succ i ih=>
   intro hi;exact hS _ (ih oG) _ (C.st i hi) (J _ hi)
 have:=key (l.length - 1) (by have:=C.len;omega)
 rwa[C.O2] at this
theorem GU{d:eV}(hp:oQ beh ahd n d){b:Nat}(hb:b<n):de d.par b=false↔bM beh n b:=by
 have iL:=h.pos;have hl:=hp.lp;constructor
 .have key:∀ m (b:Nat),b<n->dR d.par m b 0->bM beh n b:=fun m=>by
   induction m with
   |zero=>
    intro b hb hl;cases hl;exact Ix h
   |succ m ih=>
    intro b hb hl;have rJ:=hl;cases hl with
    |step h0 h1 h2=>
     have hr:=h2.range oG;have C:pA d.par b≠ -1:=by omega
     have X:=ih (pA d.par b).toNat oG (by rw[Int.toNat_of_nonneg hr.1];exact h2);have:=SW (hp.ways b hb C).1 (S:=bM beh n) X fun x hx c hc _=>KC h hx hc
     rwa[bN] at this
  intro ho;by_cases J:b=0
  .subst J;exact Ix h
  .have C:pA d.par b≠ -1:=by
    rcases qF.1 ho with g|g
    .omega
    .exact g
   obtain⟨m,hm⟩:=hp.chain b hb J C;exact key m b hb hm
 .have:=GQ (beh:=beh) (w:= -1) (n:=n) (S:=fun x=>x<n/\de d.par x=false) (fun x hx c hc _=>by
   have M:=h.to x c hc;have:=hp.Nh x hx.1 hx.2 c hc
   exact⟨M.2,by rw[Int.toNat_of_nonneg M.1];exact this⟩) ⟨iL,qF.2 (.inl oS)⟩ b
  exact fun rb=>(this rb).2
theorem abF{d:eV}(hp:oQ beh ahd n d){q:Nat}:∀ {x:Nat},Av (iX beh) q x->bM beh n x/\∀ k,¬ dR d.par k x q:=fun {x} hv=>by
 induction hv with
 |zero M=>
  refine⟨Ix h,fun k hk=>?_⟩;have hk:dR d.par k 0 q:=hk;generalize hq:(q:Int)=qi at hk;cases hk with
  |refl=>omega
  |step h0 _ _=>omega
 |@step x c hv he M ih=>
  have rc:bM beh n c:=by
   have:=KC h ih.1 he
   rwa[bN] at this
  refine⟨rc,fun k hk=>?_⟩;have C:=wG h rc;have J:=wG h ih.1;generalize hq:(q:Int)=qi at hk;cases hk with
  |refl=>omega
  |step h0 h1 h2=>
   have X:(x:Int)∈ahd c:=(h.rI c x).2 ⟨oG,by simpa using J,by rw[bN];exact he⟩;obtain⟨j,hj⟩:=hp.vJ c C oG ((GU h hp C).2 rc) x X ((GU h hp J).2 ih.1);rw[<- hq] at h2;exact ih.2 _ (hj.trans h2)
theorem aaQ{d:eV}(hp:oQ beh ahd n d):d.par=gg beh ahd n:=by
 have iL:=h.pos;have hl:=hp.lp;refine List.ext_getElem? fun i=>?_;rcases(Nat.lt_or_ge i n).symm with hi|hi
 .rw[List.getElem?_eq_none oG,List.getElem?_eq_none (by rw[z2 h];omega)]
 have gd:∀ (l:List Int),l.length=n->l[i]? =some (pA l i):=fun l hl=>by
  unfold pA;rw[bN,bl,aM oG];rfl
 rw[gd _ hl,gd _ (z2 h),ww h hi];congr 1;by_cases h0:i=0
 .subst h0;rw[if_neg oS];exact hp.p0
 by_cases ri:¬ bM beh n i
 .rw[if_neg (fun g=>ri g.2)]
  have:de d.par i=true:=by
   cases e:de d.par i with
   |true=>rfl
   |false=>exact absurd ((GU h hp hi).1 e) ri
  exact(GS.1 this).2
 have ri:bM beh n i:=Classical.not_not.1 ri;rw[if_pos ⟨h0,ri⟩]
 have X:pA d.par i≠ -1:=by
  rcases qF.1 ((GU h hp hi).2 ri) with g|g
  .omega
  .exact g
 obtain⟨m,hm⟩:=hp.chain i hi h0 X;obtain⟨M,w2,w3⟩:=hp.ways i hi X;have cR:=Gn hm
 have J:0<=pA d.par i/\(pA d.par i).toNat<n/\pA d.par i≠i:=by
  generalize vY:(i:Int)=ii at hm;cases hm with
  |refl=>omega
  |step h0 h1 h2=>
   have:=h2.range oG;refine⟨this.1,oG,fun e=>?_⟩;have hd:=dR.O3 h2 (by rw[e];exact .step h0 h1 h2);omega
 obtain⟨p,fw⟩:=cU J.1;rw[fw] at J M w2 X;rw[fw];have Dk:p<n:=by simpa using J.2.1
 have uo:p≠i:=fun e=>J.2.2 (by rw[e]);have rO:vH beh p i:=fun hv=>(abF h hp hv).2 1 (.step oG oG (by rw[fw];exact .refl _))
 have qm:bL (fu beh ahd n) p (fu beh ahd n i):=by
  rcases((sj h ri).2 rO).inv with g|g
  .exact absurd g uo
  .exact g
 obtain⟨rp,iN⟩:=(pS h).low ((pS h).par i ri h0).1 qm
 have j4:vH beh (fu beh ahd n i) p:=fun hv=>by
  generalize hq:fu beh ahd n i=q at hv;obtain⟨YS,nk⟩:=Lv h ri h0;rw[hq] at YS nk
  have hqp:(q:Int)≠p:=fun e=>by
   have e:q=p:=by omega
   subst e;cases hv with
   |zero g=>
    have:=(pS h).mE;exact g rfl
   |step _ _ g=>exact g rfl
  have key:∀ l,me beh p i l->(q:Int)∈l:=fun l hw=>Classical.byContradiction fun Dn=>YS (by
   have:=SW hw (S:=fun x=>Av (iX beh) q x) (by rw[bN];exact hv) fun x hx c hc cJ=>by
    have lM:=h.to x c hc;refine .step hx ?_ fun e=>Dn ?_
    .show((c.toNat:Nat):Int)∈beh x;rw[Int.toNat_of_nonneg lM.1];exact hc
    .have:(q:Int)=c:=by rw[<- e];exact Int.toNat_of_nonneg lM.1
     rw[this];exact cJ
   rwa[bN] at this)
  have m1:=key _ M;have m2:=key _ w2;obtain⟨j,hj⟩:=cC m1;have cV:=(bw.1 hj).1;have C:(d.one.getD i []).getD j 0=q:=by rw[bl,hj];rfl
  have kW:j≠0:=fun e=>by rw[e,M.hd] at C;exact hqp C.symm
  have hje:j≠(d.one.getD i []).length - 1:=fun e=>by rw[e,M.O2] at C;omega
  exact w3 j oG oG (by rw[C];exact m2)
 have zP:=(sj h rp).2 j4;obtain⟨_,aoK⟩:=(pS h).low rp zP;have:p=fu beh ahd n i:=by omega
 rw[this]
end
section
variable{beh ahd:Nat->List Int}{n:Nat}(h:ua beh ahd n)
include h
theorem SX{fr:Nat}{w:Int}{x:Nat}(c:Int)(hx:Av (iX beh) fr x\/x=fr\/Rf beh fr w x)(hc:c∈beh x)(C:c≠w\/Av (iX beh) fr c.toNat):Av (iX beh) fr c.toNat\/c.toNat=fr\/Rf beh fr w c:=by
 have J:=h.to x c hc
 have he:iX beh x c.toNat:=by
  show((c.toNat:Nat):Int)∈beh x;rw[Int.toNat_of_nonneg J.1];exact hc
 by_cases hf:c.toNat=fr
 .exact .inr (.inl hf)
 .rcases C with C|C
  .rcases hx with hx|hx|hx
   .exact .inl (.step hx he hf)
   .subst hx;exact .inr (.inr (.one (by simpa using hc) oG C))
   .exact .inr (.inr (.step hx (by simpa using hc) oG C))
  .exact .inl C
theorem adO{b:Nat}(C:bM beh n b)(hz:b≠0){w:Int}(hw:w≠(fu beh ahd n b:Nat))(zU:w≠b):Rf beh (fu beh ahd n b:Nat) w b:=by
 obtain⟨hd,M⟩:=Lv h C hz;have rf:=((pS h).par b C hz).1;generalize hf:fu beh ahd n b=fr at hw hd M rf
 have fin:(Av (iX beh) fr b\/b=fr\/Rf beh fr w (b:Nat))->Rf beh fr w b:=fun g=>by
  rcases g with g|g|g
  .exact absurd g hd
  .exact absurd g.symm M
  .exact g
 by_cases X:0<=w/\¬ Av (iX beh) fr w.toNat
 .obtain⟨J,rfl⟩:=cU X.1;have hwd:vH beh fr J:=by have:=X.2;rwa[bN] at this
  have hv:Av (iX beh) J b:=by
   apply Classical.byContradiction;intro b8;have dH:=(sj h C).2 (show vH beh J b from b8);rcases dH.inv with g|g
   .exact zU (by rw[g])
   .rw[hf] at g;obtain⟨Jk,hl⟩:=(pS h).low rf g;have hfa:=(sj h Jk).2 hwd;obtain⟨_,rJ⟩:=(pS h).low Jk hfa;have:J≠fr:=fun e=>hw (by rw[e]);omega
  refine fin ?_;clear fin hd M C hz zU hf
  induction hv with
  |zero g=>
   by_cases e:0=fr
   .exact .inr (.inl e)
   .exact .inl (.zero e)
  |@step x c _ he g ih=>
   have:=SX h (w:=(J:Int)) (c:Int) ih he (.inl oG)
   rwa[bN] at this
 .refine fin ?_
  have key:=GQ (beh:=beh) (w:= -1) (n:=n) (S:=fun x=>Av (iX beh) fr x\/x=fr\/Rf beh fr w (x:Nat)) (fun x hx c hc _=>by
   have lM:=h.to x c hc
   have:=SX h (w:=w) c hx hc (by
    by_cases e:c=w
    .refine .inr ?_;subst e;exact Classical.byContradiction fun g=>X ⟨lM.1,g⟩
    .exact .inl e)
   rw[Int.toNat_of_nonneg lM.1];exact this) (by
   by_cases e:0=fr
   .exact .inr (.inl e)
   .exact .inl (.zero e)) b
  exact key C
end
def wP(n:Nat)(fr to:Int)(s:ay):Prop:=0<=s.1/\s.1.toNat<n/\(s.2=false->s.1≠fr)/\(s.2=true->s.1≠to)
def N2(U:List (ay×ay)):Prop:=∀ x y,(x,y)∈U->(y,x)∉U
section
variable{beh:Nat->List Int}{fr to:Int}{n:Nat}{U cm:List (ay×ay)}{op:List ay}
theorem adH(hb:∀ b,∀ c∈beh b,0<=c/\c.toNat<n)(J:∀ b,n<=b->beh b=[])(us:∀ e∈U,0<=e.1.1/\0<=e.2.1)(ed:∀ e∈U,lx beh fr to e.1 e.2){x y:ay}(hx:wP n fr to x)(h:uw beh fr to U x y):wP n fr to y:=by
 rcases h with⟨h,_⟩|h
 .cases h with
  |out hc hf _=>exact⟨(hb _ _ hc).1,(hb _ _ hc).2,fun _=>hf,fun e=>by cases e⟩
  |A' hf ht=>exact⟨hx.1,hx.2.1,(fun e=>by cases e),fun _=>ht⟩
 .have C:=us _ h;have he:=ed _ h;obtain⟨M,X⟩:=y;dsimp only at he C;cases he with
  |out hc hf ht=>
   refine⟨C.1,?_,(fun e=>by cases e),fun _=>ht⟩;rcases Nat.lt_or_ge M.toNat n with g|g
   .exact g
   .rw[J _ g] at hc;simp at hc
  |A' hf _=>exact⟨hx.1,hx.2.1,(fun _=>hf),fun e=>by cases e⟩
theorem B0(h:SR beh fr to U cm op)(hk:∀ k∈bY cm,wP n fr to k):cm.length<=2*n:=by
 have h1:((bY cm).map ES).Nodup:=List.Pairwise.map _ (fun a b J e=>J (abC e)) h.nd
 have:=Bx (n:=2*n) h1 fun x hx=>by
  obtain⟨k,C,rfl⟩:=List.mem_map.1 hx;have:=hk k C;unfold ES wP at*
  obtain⟨k1,M⟩:=k;dsimp only at*
  cases M<;>simp<;>omega
 rw[List.length_map] at this;unfold bY at this
 rwa[List.length_map] at this
theorem adI(ed:∀ e∈U,lx beh fr to e.1 e.2)(h:N2 U)(hn:U.Nodup){x y:ay}(hxy:x≠y):N2 (lZ U x y):=by
 unfold lZ eh;split
 .intro a b X J;exact h a b (List.mem_of_mem_erase X) (List.mem_of_mem_erase J)
 .rename_i M;have M:(y,x)∉U:=by simpa using M
  intro a b X J;rcases List.mem_append.1 X with g|g
  .rcases List.mem_append.1 J with C|C
   .exact h a b g C
   .simp only[List.mem_singleton,bQ] at C;obtain⟨rfl,rfl⟩:=C;exact M g
  .simp only[List.mem_singleton,bQ] at g;obtain⟨rfl,rfl⟩:=g;rcases List.mem_append.1 J with C|C
   .exact M C
   .simp only[List.mem_singleton,bQ] at C;exact hxy C.1.symm
theorem SY{x y:ay}(h:lx beh fr to x y):x≠y:=by
 cases h<;>simp
theorem aeQ(ed:∀ e∈U,lx beh fr to e.1 e.2){x y:ay}(h:uw beh fr to U x y):x≠y:=by
 rcases h with⟨h,_⟩|h
 .exact SY h
 .exact fun e=>SY (ed _ h) e.symm
theorem Jv(ed:∀ e∈U,lx beh fr to e.1 e.2){a:Int}{K:ay->Prop}(h1:∀ c∈beh a.toNat,c≠fr->((a,true),(c,false))∉U->K (c,false))(h2:a≠fr->((a,false),(a,true))∈U->K (a,false)):∀ y,uw beh fr to U (a,true) y->K y:=fun y h=>by
 rcases h with⟨h,hn⟩|h
 .cases h with
  |out hc hf _=>exact h1 _ hc hf hn
 .have he:=ed _ h;obtain⟨C,J⟩:=y;dsimp only at he;cases he with
  |A' hf _=>exact h2 hf h
theorem aaM(ed:∀ e∈U,lx beh fr to e.1 e.2)(us:∀ e∈U,0<=e.1.1/\0<=e.2.1){b:Int}{K:ay->Prop}(h1:((b,false),(b,true))∉U->K (b,true))(h2:∀ a:Int,0<=a->b∈beh a.toNat->((a,true),(b,false))∈U->K (a,true)):∀ y,uw beh fr to U (b,false) y->K y:=fun y h=>by
 rcases h with⟨h,hn⟩|h
 .cases h with
  |A' _ _=>exact h1 hn
 .have he:=ed _ h;have C:=us _ h;obtain⟨J,M⟩:=y;dsimp only at he C;cases he with
  |out hc _ _=>exact h2 _ C.1 hc h
end
def oi{σ:Type}(step:σ->Option σ):Nat->σ->Option σ
 |0,s=>some s
 |k+1,s=>(oi step k s).bind step
theorem K9{σ:Type}{step:σ->Option σ}{k:Nat}{s t:σ}(h:oi step k s=some t)(he:step t=none):∀ j,oi step (k+j+1) s=none
 |0=>by show(oi step k s).bind step=none;rw[h];exact he
 |j+1=>by show(oi step (k+j+1) s).bind step=none;rw[K9 h he j];rfl
theorem KD{σ:Type}{step:σ->Option σ}{k C:Nat}{s t J:σ}(h:oi step k s=some t)(he:step t=none)(h':oi step C s=some J)(M:step J=none):t=J:=by
 rcases Nat.lt_trichotomy k C with g|g|g
 .have:=K9 h he (C - k - 1);rw[show k+(C - k - 1)+1=C by omega,h'] at this;cases this
 .subst g;rw[h] at h';cases h';rfl
 .have:=K9 h' M (k - C - 1);rw[show C+(k - C - 1)+1=k by omega,h] at this;cases this
theorem BC{σ:Type}{step:σ->Option σ}{k:Nat}{s t u:σ}(h:oi step k s=some t)(hs:step t=some u):oi step (k+1) s=some u:=by
 show(oi step k s).bind step=_;rw[h];exact hs
abbrev SS:=List (ay×ay)×List ay
def rN(U:List (ay×ay))(x:ay)(s:SS)(y:ay):SS:=if y∉bY s.1/\(x,y)∉U then(s.1++[(y,x)],s.2++[y]) else s
def zI(fr:Int)(U:List (ay×ay))(b:Int)(l:List Int)(s:SS):SS:=l.foldl (fun s t=>if t=fr then s else rN U (b,true) s (t,false)) s
def zK(U:List (ay×ay))(b:Int)(l:List Int)(s:SS):SS:=l.foldl (fun s t=>if eh U (t,true) (b,false)=true then rN U (b,false) s (t,true) else s) s
def EK(beh ahd:Nat->List Int)(fr to:Int)(U:List (ay×ay))(s:SS):Option SS:=match s.2 with
 |[]=>none
 |(b,true)::op=>some (if b≠fr/\eh U (b,false) (b,true)=true then rN U (b,true) (zI fr U b (beh b.toNat) (s.1,op)) (b,false) else zI fr U b (beh b.toNat) (s.1,op))
 |(b,false)::op=>if b=to then none else some (zK U b (ahd b.toNat) (rN U (b,false) (s.1,op) (b,true)))
def Es(beh ahd:Nat->List Int)(fr to:Int)(U cm:List (ay×ay)):Prop:=∃ k op,oi (EK beh ahd fr to U) k ([((fr,true),(fr,true))],[(fr,true)])=some (cm,op)/\EK beh ahd fr to U (cm,op)=none
def Mo(cm:List (ay×ay))(y:ay):Option ay:=(cm.find? fun e=>e.1==y).map (·.2)
def HS(fr:Int)(cm:List (ay×ay))(s:ay×List (ay×ay)):Option (ay×List (ay×ay)):=if s.1=(fr,true) then none else(Mo cm s.1).map fun x=>(x,lZ s.2 x s.1)
def Iy(fr to:Int)(cm U V:List (ay×ay)):Prop:=∃ k,oi (HS fr cm) k ((to,false),U)=some ((fr,true),V)
inductive vV(beh ahd:Nat->List Int)(fr to:Int):Nat->List (ay×ay)->Prop
 |zero:vV beh ahd fr to 0 []
 |succ {r:Nat} {U cm V:List (ay×ay)} (h:vV beh ahd fr to r U) (hs:Es beh ahd fr to U cm) (hb:Iy fr to cm U V):vV beh ahd fr to (r+1) V
def Ch(beh:Nat->List Int)(to:Int)(U:List (ay×ay))(s:List Int×Int):Option (List Int×Int):=if s.2=to then none else((beh s.2.toNat)[(nX (fun d=>eh U (s.2,true) (d,false)) (beh s.2.toNat)).toNat]?).map fun d=>(s.1++[s.2],d)
def Au(beh:Nat->List Int)(fr to:Int)(U:List (ay×ay))(c:Int)(w:List Int):Prop:=∃ k w',oi (Ch beh to U) k ([fr],c)=some (w',to)/\w=w'++[to]
def Cx(beh ahd:Nat->List Int)(fr to:Int)(d:D):Prop:=
 (to∈beh fr.toNat/\d=.tup [au [fr,to],au [fr,to]])\/(to∉beh fr.toNat/\∃ U C J,vV beh ahd fr to 2 U/\[C,J].map (fun w=>w.getD 1 0)=(beh fr.toNat).filter (fun c=>eh U (fr,true) (c,false))/\(∀ w∈[C,J],Au beh fr to U (w.getD 1 0) w)/\d=.tup [au C,au J])
section
variable{beh ahd:Nat->List Int}{fr to:Int}{U cm uy V V':List (ay×ay)}
theorem Es.vt(h:Es beh ahd fr to U cm)(h':Es beh ahd fr to U uy):cm=uy:=by
 obtain⟨k,op,h1,h2⟩:=h;obtain⟨X,M,J,C⟩:=h';have:=KD h1 h2 J C;cases this;rfl
theorem Iy.vt(h:Iy fr to cm U V)(h':Iy fr to cm U V'):V=V':=by
 obtain⟨k,h1⟩:=h;obtain⟨J,C⟩:=h';have he:∀ W,HS fr cm ((fr,true),W)=none:=fun W=>if_pos rfl;have:=KD h1 (he _) C (he _);cases this;rfl
theorem vV.vt{r:Nat}(h:vV beh ahd fr to r V):∀ {V'},vV beh ahd fr to r V'->V=V':=by
 induction h with
 |zero=>intro V' h';cases h';rfl
 |succ h hs hb ih=>
  intro V' h';cases h' with
  |succ g gs C=>
   have:=ih g;subst this;have:=hs.vt gs;subst this;exact hb.vt C
theorem Au.vt{c:Int}{w w':List Int}(h:Au beh fr to U c w)(h':Au beh fr to U c w'):w=w':=by
 obtain⟨k,v,h1,rfl⟩:=h;obtain⟨J,M,C,rfl⟩:=h';have he:∀ W,Ch beh to U (W,to)=none:=fun W=>if_pos rfl;have:=KD h1 (he _) C (he _);cases this;rfl
theorem Cx.vt{d d':D}(h:Cx beh ahd fr to d)(h':Cx beh ahd fr to d'):d=d':=by
 rcases h with⟨h0,rfl⟩|⟨h0,U,J,M,hS,hm,C,rfl⟩<;>rcases h' with⟨O5,rfl⟩|⟨O5,U',w1',w2',Fw,ja,Bn,rfl⟩
 .rfl
 .exact absurd h0 O5
 .exact absurd O5 h0
 .have:=hS.vt Fw;subst this;rw[<- ja] at hm;simp only[List.map_cons,List.map_nil,List.cons.injEq,and_true] at hm;have e1:=(C J oS).vt (hm.1▸Bn w1' oS);have e2:=(C M oS).vt (hm.2▸Bn w2' oS);rw[e1,e2]
theorem QZ{l:List Int}{i:Nat}{t b:Int}{s:SS}(ht:l[i]? =some t):zI fr U b (l.take (i+1)) s=if t=fr then zI fr U b (l.take i) s else rN U (b,true) (zI fr U b (l.take i) s) (t,false):=by
 unfold zI;rw[List.take_add_one,ht,Option.toList_some,List.foldl_append,List.foldl_cons,List.foldl_nil]
theorem Q1{l:List Int}{i:Nat}{t b:Int}{s:SS}(ht:l[i]? =some t):zK U b (l.take (i+1)) s=if eh U (t,true) (b,false)=true then rN U (b,false) (zK U b (l.take i) s) (t,true) else zK U b (l.take i) s:=by
 unfold zK;rw[List.take_add_one,ht,Option.toList_some,List.foldl_append,List.foldl_cons,List.foldl_nil]
theorem adJ(hn:(bY cm).Nodup){x y:ay}(h:(y,x)∈cm):Mo cm y=some x:=by
 unfold Mo;cases hf:cm.find? fun e=>e.1==y with
 |none=>
  rw[List.find?_eq_none] at hf;have:=hf _ h;simp at this
 |some e=>
  have h1:=List.mem_of_find?_eq_some hf;have h2:=List.find?_some hf;obtain⟨a,b⟩:=e;have h2:a=y:=by simpa using h2
  subst h2;obtain⟨i,hi⟩:=cC h1;obtain⟨j,hj⟩:=cC h;have:=KP hn hi hj;subst this;rw[hi] at hj;cases hj;rfl
end
end Go.Argus
section
open Go Go.Abs Go.Proofs Go.Argus
namespace Go.Argus
def ct(d:eV):List D:=[au d.par,bx d.one,bx d.two]
theorem wm(d:eV):∀ a∈ct d,Tr a:=.cons (cL _) (.cons (yu _) (.cons (yu _) .nil))
@[simp] theorem an4 (d : eV) : (ct d).length = 3 := rfl
theorem sm{par:List Int}{b:Nat}(h:b<par.length):par[b]? =some (pA par b):=by
 unfold pA;rw[bN,bl,aM h];rfl
theorem HP:∀ a b c d:Bool,(if(if(if a=true then true else b)=true then true else c)=true then true else d)=(a||(b||(c||d))):=by decide
def qP(f:aG)(d:eV):D:=if dG f=0 then .tup [B (yI (aT f) (c9 f) f.blocks.length d),I 0] else .tup [B false,I (dG f)]
theorem QW(f:aG)(d:eV):Tr (qP f d):=by
 unfold qP;split<;>exact .tup (.cons (.s _) (.cons (.s _) .nil))
structure At(d:eV):Prop where
 o:∀ l∈d.one,l.length<=10000
 t:∀ l∈d.two,l.length<=10000
theorem GZ{L:List (List Int)}{n b:Nat}(h:∀ l∈L,l.length<=n):(L.getD b []).length<=n:=by
 rw[bl];cases e:L[b]? with
 |none=>exact Nat.zero_le _
 |some l=>exact h l (bU e)
theorem adC{one:List Int}{i:Nat}(h:i<one.length - 2):((one.drop 1).take (one.length - 2))[i]? =some (one.getD (i+1) 0):=by
 rw[List.getElem?_take,if_pos h,List.getElem?_drop,bl,Nat.add_comm,aM oG];rfl
theorem RM{one:List Int}:((one.drop 1).take (one.length - 2)).length=one.length - 2:=by simp;omega
def C0(par:List Int)(b:Int):D:=match gW par (par.length+1) b with
 |none=>.tup [.z,B false]
 |some l=>.tup [au l,B true]
theorem af4(par:List Int)(b:Int):Tr (C0 par b):=by
 unfold C0;split
 .exact .tup (.cons HQ (.cons (.s _) .nil))
 .exact .tup (.cons (cL _) (.cons (.s _) .nil))
def rK(par:List Int)(O:List Int)(k:Nat)(b:Int):Option (List Int):=(gW par k b).map (O++·)
theorem aaD(par:List Int)(b:Int):gW par (par.length+1) b=rK par [] (par.length+1) b:=by
 unfold rK;cases gW par (par.length+1) b<;>rfl
theorem ab8(par O:List Int)(k:Nat):rK par O k 0=some (O++[0]):=by
 unfold rK;cases k<;>(unfold gW;rw[if_pos rfl];rfl)
theorem adE{par O:List Int}{k:Nat}{b:Int}(h0:b≠0)(h:k=0\/b<0\/(par.length:Int)<=b):rK par O k b=none:=by
 unfold rK;cases k with
 |zero=>unfold gW;rw[if_neg h0];rfl
 |succ k=>unfold gW;rw[if_neg h0];dsimp only;rw[if_pos oG];rfl
theorem ab9{par O:List Int}{k:Nat}{b:Int}(h0:b≠0)(h1:0<=b)(h2:b<par.length):rK par O (k+1) b=rK par (O++[b]) k (pA par b):=by
 unfold rK
 conv=>lhs;unfold gW
 rw[if_neg h0];dsimp only;rw[if_neg oG];cases gW par k (pA par b) with
 |none=>rfl
 |some l=>simp
def wv(f:aG)(d:eV):D:=if dG f=0 then .tup [B (yK (aT f) (c9 f) f.blocks.length d),I 0] else .tup [B false,I (dG f)]
theorem aaE(f:aG)(d:eV):Tr (wv f d):=by
 unfold wv;split<;>exact .tup (.cons (.s _) (.cons (.s _) .nil))
def r9(l:List Int):Bool:= !decide ((30:Int)<(l.length:Int))
def BI(d:eV):Bool:= !((decide ((30:Int)<(d.par.length:Int)))||((decide ((30:Int)<(d.one.length:Int)))||(decide ((30:Int)<(d.two.length:Int)))))&&(d.one.all r9&&d.two.all r9)
theorem aca{d:eV}(h:BI d=true):At d:=by
 unfold BI at h;rw[aO,aO] at h;refine⟨fun l hl=>?_,fun l hl=>?_⟩
 .have:=bj.1 h.2.1 l hl;unfold r9 at this;have:¬ (30:Int)<(l.length:Int):=by simpa using this
  omega
 .have:=bj.1 h.2.2 l hl;unfold r9 at this;have:¬ (30:Int)<(l.length:Int):=by simpa using this
  omega
theorem XZ:∀ a b c:Bool,(if(if a=true then true else b)=true then true else c)=(a||(b||c)):=by decide
end Go.Argus
namespace Go.Proofs.Tryz.K
theorem sG{par:List Int}{b a:Int}(hb:b<par.length):PCall prog 118 [au par,I b,I a] (B (hC par par.length b a)):=by
 have a7:∀ x∈[au par,I b,I a],Tr x:=.cons (cL _) (.cons (.s _) (.cons (.s _) .nil));refine mG L2.he a7 fun fp=>?_;have hlen:=(fp (au par) oS).sl.1;unfold maxLen at hlen;refine bg L2 a7 (Tr.s _) ?_;rw[af2];refine ws (SS ?_);refine af (aB (az (aq ?_)))
 refine af (bR (fun s=>∃ M,Ghost prog s ⟨aD [(1,I M),(2,I a)],fun _=>none,0⟩/\hC par par.length b a=(M==a)) (dV (α:=Nat×Int)
  (fun s=>⟨aD [(0,au par),(1,I s.2),(2,I a),(8,I par.length),(9,I s.1)],fun _=>none,0⟩)
  (fun s=>s.1<=par.length/\s.2<par.length/\hC par par.length b a=hC par (par.length - s.1) s.2 a) (fun s=>par.length - s.1) (0,b) (ap eH) ⟨Nat.zero_le _,hb,rfl⟩ ?_) ?_)
 .rintro⟨k,c⟩ ⟨hk,hc,hinv⟩;dsimp only at hk hc hinv ⊢;refine SS ?_;refine af ⟨_,rfl,fun h=>?_,fun h=>?_⟩
  .have ao:k<par.length:=by simpa using h
   obtain⟨j,hj⟩:∃ j,par.length - k=j+1:=⟨par.length - k - 1,oG⟩
   rw[hj,hC] at hinv;refine aB (aj ?_);by_cases xJ:c=a
   .have dY:(c==a)=true:=by simp[xJ]
    rw[if_pos dY] at hinv;refine aq ?_;refine af (dN (aB (aj (SS ?_))));refine af (bX (br (aR (av (d:=B true) rfl ?_))));rw[hinv]
   have dY:(c==a)=false:=by simp[xJ]
   rw[if_neg (by rw[dY];simp)] at hinv;refine aq ?_;refine af (gS (bP (aB (aj ?_))));have C:(c<=0\/pA par c<0\/(par.length:Int)<=pA par c)->B false=B (hC par par.length b a):=fun g=>by rw[hinv,if_pos g]
   by_cases vQ:c<=0
   .have EX:decide (c<=0)=true:=decide_eq_true vQ;refine aq ?_;(iterate 5 refine z fun _ _=>?_);refine ag ?_;(iterate 7 refine z fun _ _=>?_);refine SS ?_;refine af (dN (aB (aj (SS ?_))));exact af (bX (br (aR (av (d:=B false) rfl (C (.inl vQ))))))
   have EX:decide (c<=0)=false:=decide_eq_false vQ;obtain⟨cn,rfl⟩:=cU (show 0<=c by omega);have hx:=sm (par:=par) (b:=cn) oG;generalize pA par cn=x at hx C hinv;by_cases X:x<0
   .have jT:decide (x<0)=true:=decide_eq_true X;refine bK ?_;refine ag ?_;(iterate 7 refine z fun _ _=>?_);refine SS ?_;refine af (dN (aB (aj (SS ?_))));exact af (bX (br (aR (av (d:=B false) rfl (C (.inr (.inl X)))))))
   have jT:decide (x<0)=false:=decide_eq_false X;by_cases J:(par.length:Int)<=x
   .have w7:decide ((par.length:Int)<=x)=true:=decide_eq_true J;refine aJ ?_;refine aJ ?_;refine af (cx rfl (fun _=>?_) fun h=>(by revert h;simp[J]));refine aB (aj (SS ?_));exact af (bX (br (aR (av (d:=B false) rfl (C (.inr (.inr J)))))))
   have w7:decide ((par.length:Int)<=x)=false:=decide_eq_false J;rw[if_neg oG] at hinv;refine aJ ?_;refine aJ ?_;refine af (cx rfl (fun h=>(by revert h;simp)) fun _=>bP (ff ?_));refine aN ?_;refine af (ag ?_);refine af (aK (k+1,x) (ap eH) ⟨oM,oM,?_⟩ oM);dsimp only;rw[hinv,show par.length - (k+1)=j by omega]
  .have a9:¬ k<par.length:=by simpa using h
   refine⟨c,ap eH,?_⟩;rw[hinv,show par.length - k=0 by omega];rfl
 .rintro s ⟨M,hg,he⟩;refine⟨_,hg,aj ?_⟩;refine aP ?_;refine af (av (d:=.s (.bool _)) rfl ?_);rw[he]
theorem ajN{d:eV}{b:Int}(hb:b<d.par.length):PCall prog 117 [I b,.pt (ct d)] (B (de d.par b)):=by
 refine bg UC (.cons (.s _) (.cons (.pt (wm d)) .nil)) (Tr.s _) ?_;rw[af3];refine ws (SS ?_);refine er ?_;by_cases h0:0<b
 .have eM:decide (0<b)=true:=decide_eq_true h0;obtain⟨C,rfl⟩:=cU (show 0<=b by omega);have hx:=sm (par:=d.par) (b:=C) oG;have J:de d.par C=(pA d.par C== -1):=by unfold de;rw[eM];rfl
  generalize pA d.par C=x at hx J;refine aJ ?_;refine ag ?_;refine af (av (d:=.s (.bool _)) rfl ?_);rw[J]
 .have eM:decide (0<b)=false:=decide_eq_false h0;have J:de d.par b=false:=by unfold de;rw[eM];rfl
  refine aq ?_;(iterate 6 refine z fun _ _=>?_);refine ag ?_;refine af (av (d:=.s (.bool _)) rfl ?_);rw[J]
section
variable{f:aG}{beh ahd:List (List Int)}{c:D}(hc:Tr c)(fY:c.one=true)
include hc fY
theorem A4{n:Nat}(hn:f.blocks.length=n)(jd:n<=100000)(cZ:beh.length=n){l:List Int}{fr to:Int}:PCall prog 53 [.pt (bA f beh ahd c),au l,I fr,I to] (B (nY (aA beh) n l fr to)):=by
 have a7:∀ x∈[D.pt (bA f beh ahd c),au l,I fr,I to],Tr x:=.cons (z8 hc) (.cons (cL _) (.cons (.s _) (.cons (.s _) .nil)));refine mG MG.he a7 fun fp=>?_;have hlen:=(fp (au l) oS).sl.1;unfold maxLen at hlen;have Cw:=fun b=>qt (f:=f) (beh:=beh) (ahd:=ahd) (c:=c) hc fY (b:=b);rw[hn] at Cw;refine bg MG a7 (Tr.s _) ?_;rw[ajO];have xM:∀ i,i<l.length->l[i]? =some (l.getD i 0):=fun i hi=>by rw[bl,aM hi];rfl
 refine ws (SS ?_);refine af (aB (aj ?_))
 have J:(¬ 2<=l.length\/¬ l.length<=n\/¬ l.getD 0 0=fr\/¬ l.getD (l.length - 1) 0=to)->B false=B (nY (aA beh) n l fr to):=fun g=>by
  congr 2;refine(Bool.eq_false_iff.2 fun e=>?_).symm;unfold nY jU at e;simp only[aO,decide_eq_true_eq,beq_iff_eq] at e;rcases g with g|g|g|g
  .exact g e.2.1
  .exact g e.1
  .exact g e.2.2.1
  .exact g e.2.2.2.1
 by_cases h2:l.length<2
 .have jT:decide ((l.length:Int)<2)=true:=decide_eq_true oG;refine aP ?_;(iterate 9 refine z fun _ _=>?_);refine ag ?_;(iterate 5 refine z fun _ _=>?_);refine ag ?_;(iterate 8 refine z fun _ _=>?_);refine SS ?_;refine af (dN (aB (aj (SS ?_))));exact af (bX (av rfl (J (.inl oG))))
 have jT:decide ((l.length:Int)<2)=false:=decide_eq_false oG;by_cases xN:n<l.length
 .have eM:decide ((f.blocks.length:Int)<(l.length:Int))=true:=decide_eq_true oG;refine aJ ?_;refine bB ?_;(iterate 5 refine z fun _ _=>?_);refine ag ?_;(iterate 8 refine z fun _ _=>?_);refine SS ?_;refine af (dN (aB (aj (SS ?_))));exact af (bX (av rfl (J (.inr (.inl oG)))))
 have eM:decide ((f.blocks.length:Int)<(l.length:Int))=false:=decide_eq_false oG;have hx:=xM 0 oG;have hy:=xM (l.length - 1) oG;have M:(¬ l.getD 0 0=fr\/¬ l.getD (l.length - 1) 0=to)->B false=B (nY (aA beh) n l fr to):=fun g=>J (.inr (.inr g));clear J
 have X:l.getD 0 0=fr->l.getD (l.length - 1) 0=to->nY (aA beh) n l fr to=(range l.length).all (iU (aA beh) n l):=fun e1 e2=>by
  unfold nY jU;rw[e1,e2,decide_eq_true (show 2<=l.length by omega),decide_eq_true (show l.length<=n by omega)];simp
 have m9:((l.length:Nat):Int) - 1=((l.length - 1:Nat):Int)/\ -9223372036854775808<=((l.length - 1:Nat):Int)/\((l.length - 1:Nat):Int)<=9223372036854775807:=by omega
 generalize l.getD 0 0=x0 at hx M X;generalize l.getD (l.length - 1) 0=xl at hy M X;by_cases h0:¬ x0=fr
 .have du:(x0 !=fr)=true:=by simpa using h0
  refine aJ ?_;refine aJ ?_;refine aP ?_;(iterate 8 refine z fun _ _=>?_);refine SS ?_;refine af (dN (aB (aj (SS ?_))));exact af (bX (av rfl (M (.inl h0))))
 have h0:x0=fr:=Classical.not_not.1 h0;have du:(x0 !=fr)=false:=by simpa using h0
 refine aJ ?_;refine aJ ?_;refine aJ ?_;refine aP ?_;refine af (cx rfl (fun h=>?_) fun h=>bP (aB (az ?_)))
 .refine aB (aj (SS ?_));exact af (bX (av rfl (M (.inr (by revert h;simp)))))
 have hl:xl=to:=by revert h;simp
 rw[X h0 hl];clear h M X hx hy m9 eM jT du;refine aq ?_
 refine af (bR (fun s=>Ghost prog s ⟨aD [],fun _=>none,0⟩/\∀ i,i<l.length->iU (aA beh) n l i=true) (dV (α:=Nat)
  (fun k=>⟨aD [(0,.pt (bA f beh ahd c)),(1,au l),(42,au l),(43,I l.length),(44,I k)],fun _=>none,0⟩)
  (fun k=>k<=l.length/\∀ i,i<k->iU (aA beh) n l i=true) (fun k=>l.length - k) 0 (ap eH) ⟨Nat.zero_le _,fun i h=>absurd h (Nat.not_lt_zero _)⟩ ?_) ?_)
 .rintro k ⟨hk,hinv⟩;refine SS ?_;refine af ⟨_,rfl,fun h=>?_,fun h=>?_⟩
  .have ao:k<l.length:=by simpa using h
   have hx:=xM k ao;have J:iU (aA beh) n l k=false->B false=B ((range l.length).all (iU (aA beh) n l)):=fun h=>by rw[j5 ao h]
   have kO:iU (aA beh) n l k=true->∀ i,i<k+1->iU (aA beh) n l i=true:=fun h i hi=>by
    by_cases e:i=k
    .subst e;exact h
    .exact hinv i oG
   have C:iU (aA beh) n l k=(nF n (l.getD k 0)&&(!(eQ (l.take k) (l.getD k 0))&&(k==0||eQ (aA beh (l.getD (k - 1) 0).toNat) (l.getD k 0)))):=rfl;generalize iU (aA beh) n l k=ok at C J kO;generalize l.getD k 0=x at hx C;refine ws (aN ?_);refine af (dE ab6 ?_);have qt:=Cw x;have kY:=kY (l:=l.take (k:Int).toNat) (v:=x);rw[bN] at kY;generalize eQ (l.take k) x=q2 at kY C;generalize nF n x=q1 at qt C;cases q1 with
   |false=>
    refine ag ?_;refine cl qt (ag ?_);(iterate 5 refine z fun _ _=>?_);refine aN ?_;(iterate 15 refine z fun _ _=>?_);refine SS ?_;refine a8 bc (gH (aj (SS ?_)));exact af (aY (br (aR (av rfl (J C)))))
   |true=>
   refine ag ?_;refine cl qt (aP ?_);refine bt rfl rfl (Ki (f:=I) (l:=l) rfl vS c3 rfl vn ⟨oG,oG⟩) (fun hc=>⟨(by repeat' (first|exact trivial|exact hc|exact rfl|refine And.intro ?_ ?_)),trivial⟩) ?_;rw[bN];cases q2 with
   |true=>
    refine SS ?_;refine gc kY (aN ?_);(iterate 15 refine z fun _ _=>?_);refine SS ?_;refine a8 bc (gH (aj (SS ?_)));exact af (aY (br (aR (av rfl (J C)))))
   |false=>
   cases k with
   |zero=>
    have eM:decide ((0:Int)<((0:Nat):Int))=false:=rfl;refine SS ?_;refine gc kY (aN ?_);(iterate 14 refine z fun _ _=>?_);refine ag ?_;refine a8 bc (gR (bS (ag ?_)));exact af (aK 1 (ap eH) ⟨oG,kO C⟩ oG)
   |succ j=>
    have eM:decide ((0:Int)<((j+1:Nat):Int))=true:=by simp
    have m9:((j+1:Nat):Int) - 1=(j:Int)/\ -9223372036854775808<=(j:Int)/\(j:Int)<=9223372036854775807:=by omega
    have hp:=xM j oG;have xO:=hinv j oG;unfold iU at xO;rw[aO] at xO;have uo:=ym.1 xO.1;rw[show j+1 - 1=j by omega] at C;generalize l.getD j 0=p at hp uo C;clear xO;obtain⟨pn,rfl⟩:=cU uo.1;rw[bN] at C;have NM:=tf (beh:=beh) (b:=pn) oG;refine SS ?_;refine gc kY (aJ ?_);refine bK ?_;have kY:=K.kY (l:=aA beh pn) (v:=x);generalize eQ (aA beh pn) x=q3 at kY C;refine gc kY (aq ?_);cases q3 with
    |false=>
     refine a8 bc (gH (aj (SS ?_)));exact af (aY (br (aR (av rfl (J C)))))
    |true=>
     refine a8 bc (gR (bS (ag ?_)));exact af (aK (j+2) (ap eH) ⟨oG,kO C⟩ oG)
  .have a9:¬ k<l.length:=by simpa using h
   exact⟨fQ (l:=[]) trivial,fun i hi=>hinv i oG⟩
 .rintro s ⟨hg,ha⟩;refine⟨_,hg,aj ?_⟩;refine SS ?_;refine af (av (d:=B true) rfl ?_);rw[show(range l.length).all (iU (aA beh) n l)=true from bj.2 fun i hi=>ha i (List.mem_range.1 hi)]
end
section
variable{f:aG}{beh ahd:List (List Int)}{c:D}(hc:Tr c)(fY:c.one=true)
include hc fY
theorem A5{n:Nat}{d:eV}(hn:f.blocks.length=n)(jY:0<n)(jd:n<=100000)(cZ:beh.length=n)(my:ahd.length=n)(jt:∀ b,∀ t∈aA beh b,0<=t/\t.toNat<n)(sU:∀ b,∀ t∈aA ahd b,0<=t/\t.toNat<n)(A6:∀ b,(aA ahd b).length<=100000):
 PCall prog 52 [.pt (bA f beh ahd c),.agg (ct d)] (B (qI (aA beh) (aA ahd) n d)):=by
 have a7:∀ x∈[D.pt (bA f beh ahd c),.agg (ct d)],Tr x:=.cons (z8 hc) (.cons (.agg (wm d)) .nil);have Cw:=fun b=>qt (f:=f) (beh:=beh) (ahd:=ahd) (c:=c) hc fY (b:=b);rw[hn] at Cw;have aE:ct d=[au d.par,bx d.one,bx d.two]:=rfl;refine bg V8 a7 (Tr.s _) ?_;rw[ajP];refine az (ag ?_);refine af (aW (bG [(0,ct d,30)] eH (l:=[(0,.pt (bA f beh ahd c)),(3,.pt (ct d))]) eH) (aj (dz ?_)));refine af (aB (aj ?_));have yS:lenP d n=false->B false=B (qI (aA beh) (aA ahd) n d):=fun h=>by rw[qI,h];rfl
 have Lk:lenP d n=true->qI (aA beh) (aA ahd) n d=((range n).all (o5 (aA beh) d.par n)&&(range n).all (mb (aA ahd) d.par)):=fun h=>by rw[qI,h];rfl
 generalize qI (aA beh) (aA ahd) n d=NN at yS Lk ⊢;by_cases xP:d.par.length=0
 .have du:((d.par.length:Int) !=(f.blocks.length:Int))=true:=by simp;omega
  have hb:=yS (by
   refine Bool.eq_false_iff.2 fun h=>?_;have:=(tg.1 h).1
   omega)
  refine bB ?_;(iterate 5 refine z fun _ _=>?_);refine ag ?_;(iterate 5 refine z fun _ _=>?_);refine ag ?_;(iterate 5 refine z fun _ _=>?_);refine SS ?_;refine af (dN (aB (aj (SS ?_))));exact af (bX (av rfl hb))
 have hx:=sm (par:=d.par) (b:=0) oG
 have xQ:lenP d n= !(((d.par.length:Int) !=(f.blocks.length:Int))||(((d.one.length:Int) !=(f.blocks.length:Int))||(((d.two.length:Int) !=(f.blocks.length:Int))||(pA d.par ((0:Nat):Int) != -1)))):=by
  rw[Bool.eq_iff_iff,tg];simp only[Bool.not_eq_true',Bool.or_eq_false_iff,bne_eq_false_iff_eq];constructor
  .rintro⟨h1,h2,h3,h4⟩;exact⟨oG,oG,oG,h4⟩
  .rintro⟨h1,h2,h3,h4⟩;exact⟨oG,oG,oG,h4⟩
 generalize pA d.par ((0:Nat):Int)=x0 at hx xQ;refine aJ ?_;refine aJ ?_;refine bK ?_;refine af (cx rfl (fun h=>?_) fun h=>bP (aj ?_))
 .refine aB (aj ?_)
  have hb:=yS (by
   rw[xQ];have h:=(HP _ _ _ _).symm.trans h
   rw[h];rfl)
  refine SS ?_;exact af (bX (av rfl hb))
 have ao:lenP d n=true:=by
  rw[xQ];have h:=(HP _ _ _ _).symm.trans h;rw[h];rfl
 rw[Lk ao];have iN:=(tg.1 ao).1;clear h xQ Lk yS ao xP;have FG:∀ b:Int,b<n->PCall prog 117 [I b,.pt (ct d)] (B (de d.par b)):=fun b hb=>ajN oG;have UD:∀ b a:Int,b<n->PCall prog 118 [au d.par,I b,I a] (B (hC d.par d.par.length b a)):=fun b a hb=>sG oG;have UE:∀ b,PCall prog 119 [au (aA beh b),.fn (.func 117) [] [.pt (ct d)]] (B ((aA beh b).any (de d.par))):=fun b=>sD (.fn oS (.cons (.pt (wm d)) .nil)) fun x hx=>FG x (by have:=jt b x hx;omega);refine ag ?_;refine af (aB (az (aP ?_)))
 refine af (bR (fun s=>Ghost prog s ⟨aD [(0,.pt (bA f beh ahd c)),(3,.pt (ct d)),(5,I f.blocks.length),(6,.fn (.func 117) [] [.pt (ct d)])],fun _=>none,1⟩/\∀ i,i<n->o5 (aA beh) d.par n i=true) (dV (α:=Nat)
  (fun k=>⟨aD [(0,.pt (bA f beh ahd c)),(3,.pt (ct d)),(5,I f.blocks.length),(6,.fn (.func 117) [] [.pt (ct d)]),(46,au d.par),(47,I d.par.length),(48,I k)],fun _=>none,1⟩)
  (fun k=>k<=n/\∀ i,i<k->o5 (aA beh) d.par n i=true) (fun k=>n - k) 0 (ap eH) ⟨Nat.zero_le _,fun i h=>absurd h (Nat.not_lt_zero _)⟩ ?_) ?_)
 .rintro k ⟨hk,hinv⟩;refine SS ?_;refine af ⟨_,rfl,fun h=>?_,fun h=>?_⟩
  .have ao:k<n:=by
    have:k<d.par.length:=by simpa using h
    omega
   have hx:=sm (par:=d.par) (b:=k) oG;have py:=tf (beh:=beh) (b:=k) oG;have X:o5 (aA beh) d.par n k=false->B false=B ((range n).all (o5 (aA beh) d.par n)&&(range n).all (mb (aA ahd) d.par)):=fun h=>by rw[j5 ao h,Bool.false_and]
   have kO:o5 (aA beh) d.par n k=true->∀ i,i<k+1->o5 (aA beh) d.par n i=true:=fun h i hi=>by
    by_cases e:i=k
    .subst e;exact h
    .exact hinv i oG
   have C:o5 (aA beh) d.par n k=(de d.par k||((k==0||(nF n (pA d.par k)&&(!(de d.par (pA d.par k))&&hC d.par d.par.length k 0)))&& !((aA beh k).any (de d.par)))):=rfl;have sG:=UD k 0 oG;have sD:=UE k
   have iV:o5 (aA beh) d.par n k=true->∀ {env},jM [(0,.pt (bA f beh ahd c)),(3,.pt (ct d)),(5,I f.blocks.length),(6,.fn (.func 117) [] [.pt (ct d)]),(46,au d.par),(47,I d.par.length),(48,I ((k+1:Nat):Int))] env->sw prog (fun k:Nat=>(⟨aD [(0,.pt (bA f beh ahd c)),(3,.pt (ct d)),(5,I f.blocks.length),(6,.fn (.func 117) [] [.pt (ct d)]),(46,au d.par),(47,I d.par.length),(48,I k)],fun _=>none,1⟩:St))
    (fun k=>k<=n/\∀ i,i<k->o5 (aA beh) d.par n i=true) (fun k=>n - k) k ⟨env,fun _=>none,1⟩:=fun h {env} he=>aK (k+1) (ap he) ⟨oG,kO h⟩ oG
   generalize o5 (aA beh) d.par n k=ok at C X iV;have CW:=FG (pA d.par k);have Ft:=ym (n:=n) (b:=pA d.par k);have qt:=Cw (pA d.par k);generalize pA d.par k=p at hx C CW Ft qt;generalize hC d.par d.par.length k 0=q3 at sG C;generalize (aA beh k).any (de d.par)=q4 at sD C;generalize aA beh k=bk at py sD;refine ws (aN ?_);refine af (aB (aj ?_));have J:=FG k oG;cases ho:de d.par k with
   |true=>
    rw[ho] at J C;refine ag ?_;refine cl J (af (cx rfl (fun h=>jw (mO (ag ?_))) fun h=>oH));exact af (iV C ⟨rfl,rfl,rfl,rfl,rfl,rfl,rfl,trivial⟩)
   |false=>
   rw[ho] at J C;refine ag ?_;refine cl J (af (cx rfl (fun h=>oH) fun h=>bP (aj ?_)));clear J;cases k with
   |zero=>
    have eM:decide ((0:Int)<((0:Nat):Int))=false:=rfl;have J:(false==true&&(!nF n p)==false)=true->PCall prog 117 [I p,.pt (ct d)] (B false):=fun h=>by simp at h
    refine aN ?_;refine gc qt (aP ?_);refine BX rfl rfl rfl (fun hc=>⟨ak,J hc⟩) (aN ?_);refine gc sG (aJ ?_);refine aq ?_;refine gc sD (SS ?_);cases q4 with
    |true=>
     refine af (gH (aj (SS ?_)));exact af (aY (br (aR (av rfl (X C)))))
    |false=>
     refine af (gR (bS (ag ?_)));exact af (iV C ⟨rfl,rfl,rfl,rfl,rfl,rfl,rfl,trivial⟩)
   |succ j=>
    have eM:decide ((0:Int)<((j+1:Nat):Int))=true:=by simp
    generalize nF n p=q1 at qt C Ft;cases q1 with
    |false=>
     refine aN ?_;refine gc qt (ag ?_);(iterate 3 refine z fun _ _=>?_);refine ag ?_;(iterate 5 refine z fun _ _=>?_);refine aq ?_;(iterate 9 refine z fun _ _=>?_);refine SS ?_;refine af (gH (aj (SS ?_)));exact af (aY (br (aR (av rfl (X C)))))
    |true=>
    have uo:=Ft.1 rfl;have J:=CW oG;generalize de d.par p=q2 at J C;cases q2 with
    |true=>
     refine aN ?_;refine gc qt (aP ?_);refine gc J (ag ?_);(iterate 5 refine z fun _ _=>?_);refine aq ?_;(iterate 9 refine z fun _ _=>?_);refine SS ?_;refine af (gH (aj (SS ?_)));exact af (aY (br (aR (av rfl (X C)))))
    |false=>
    cases q3 with
    |false=>
     refine aN ?_;refine gc qt (aP ?_);refine gc J (aN ?_);refine gc sG (aP ?_);(iterate 9 refine z fun _ _=>?_);refine SS ?_;refine af (gH (aj (SS ?_)));exact af (aY (br (aR (av rfl (X C)))))
    |true=>
    refine aN ?_;refine gc qt (aP ?_);refine gc J (aN ?_);refine gc sG (aJ ?_);refine aq ?_;refine gc sD (SS ?_);cases q4 with
    |true=>
     refine af (gH (aj (SS ?_)));exact af (aY (br (aR (av rfl (X C)))))
    |false=>
     refine af (gR (bS (ag ?_)));exact af (iV C ⟨rfl,rfl,rfl,rfl,rfl,rfl,rfl,trivial⟩)
  .have a9:n<=k:=by
    have:¬ k<d.par.length:=by simpa using h
    omega
   exact⟨ap eH,fun i hi=>hinv i oG⟩
 clear hx Cw UE;rintro s ⟨gV,hA⟩;rw[show(range n).all (o5 (aA beh) d.par n)=true from bj.2 fun i hi=>hA i (List.mem_range.1 hi),Bool.true_and];clear hA;refine⟨_,gV,aB (az ?_)⟩
 have qp:∀ i,i<1->mb (aA ahd) d.par i=true:=fun i h=>by
  have:i=0:=by omega
  subst this;rfl
 refine SS ?_
 refine af (bR (fun s=>Ghost prog s ⟨aD [],fun _=>none,1⟩/\∀ i,i<n->mb (aA ahd) d.par i=true) (cQ (α:=Nat)
  (fun k=>⟨aD [(0,.pt (bA f beh ahd c)),(3,.pt (ct d)),(5,I f.blocks.length),(6,.fn (.func 117) [] [.pt (ct d)]),(9,I k)],fun _=>none,1⟩)
  (fun k=>1<=k/\k<=n/\∀ i,i<k->mb (aA ahd) d.par i=true) (fun k=>n - k) 1 (ap eH) ⟨bF _,oG,qp⟩ ?_) ?_)
 .clear gV;rintro k ⟨dT,hk,hinv⟩;refine aq ?_;refine af ⟨_,rfl,fun h=>?_,fun h=>?_⟩
  .have ao:k<n:=by
    have:k<f.blocks.length:=by simpa using h
    omega
   have hx:=sm (par:=d.par) (b:=k) oG;have uq:=tf (beh:=ahd) (b:=k) oG;have X:mb (aA ahd) d.par k=false->B false=B ((range n).all (mb (aA ahd) d.par)):=fun h=>by rw[j5 ao h]
   have kO:mb (aA ahd) d.par k=true->∀ i,i<k+1->mb (aA ahd) d.par i=true:=fun h i hi=>by
    by_cases e:i=k
    .subst e;exact h
    .exact hinv i oG
   have C:mb (aA ahd) d.par k=(de d.par k||(aA ahd k).all fun a=>de d.par a||hC d.par d.par.length a (pA d.par k)):=by
    unfold mb;rw[show(k==0)=false by simp;omega];rfl
   have iV:mb (aA ahd) d.par k=true->∀ {env},jM [(0,.pt (bA f beh ahd c)),(3,.pt (ct d)),(5,I f.blocks.length),(6,.fn (.func 117) [] [.pt (ct d)]),(9,I ((k+1:Nat):Int))] env->sw prog (fun k:Nat=>(⟨aD [(0,.pt (bA f beh ahd c)),(3,.pt (ct d)),(5,I f.blocks.length),(6,.fn (.func 117) [] [.pt (ct d)]),(9,I k)],fun _=>none,1⟩:St))
    (fun k=>1<=k/\k<=n/\∀ i,i<k->mb (aA ahd) d.par i=true) (fun k=>n - k) k ⟨env,fun _=>none,1⟩:=fun h {env} he=>aK (k+1) (ap he) ⟨oG,oG,kO h⟩ oG
   have FH:=sU k;have rC:=A6 k;generalize mb (aA ahd) d.par k=ok at C X iV;have sG:=fun a=>UD a (pA d.par k);generalize pA d.par k=p at hx C sG;generalize aA ahd k=M at uq C FH rC;refine aB (aj ?_);have J:=FG k oG;cases ho:de d.par k with
   |true=>
    rw[ho] at J C;refine ag ?_;refine cl J (af (cx rfl (fun h=>jw (mO (aq ?_))) fun h=>oH));exact af (iV C ⟨rfl,rfl,rfl,rfl,rfl,trivial⟩)
   |false=>
   rw[ho] at J C;rw[Bool.false_or] at C;refine ag ?_;refine cl J (af (cx rfl (fun h=>oH) fun h=>bP (az ?_)));clear J;refine aJ ?_
   refine af (dV (α:=Nat)
    (fun i=>⟨aD [(0,.pt (bA f beh ahd c)),(3,.pt (ct d)),(5,I f.blocks.length),(6,.fn (.func 117) [] [.pt (ct d)]),(9,I k),(102,au M),(103,I M.length),(104,I i)],fun _=>none,1⟩)
    (fun i=>i<=M.length/\∀ j a,j<i->M[j]? =some a->(de d.par a||hC d.par d.par.length a p)=true) (fun i=>M.length - i) 0 (ap eH) ⟨Nat.zero_le _,fun j a h=>absurd h (Nat.not_lt_zero _)⟩ ?_)
   rintro i ⟨hi,bm⟩;refine SS ?_;refine af ⟨_,rfl,fun h=>?_,fun h=>?_⟩
   .have fX:i<M.length:=by simpa using h
    obtain⟨a,ha⟩:∃ a,M[i]? =some a:=⟨_,aM fX⟩
    have gE:=FH a (bU ha);have J:=FG a oG;have sG:=sG a oG
    have gU:(de d.par a||hC d.par d.par.length a p)=true->∀ j b,j<i+1->M[j]? =some b->(de d.par b||hC d.par d.par.length b p)=true:=fun zA j b hj hb=>by
     by_cases e:j=i
     .subst e;rw[ha] at hb;cases hb;exact zA
     .exact bm j b oG hb
    have b8:(de d.par a||hC d.par d.par.length a p)=false->ok=false:=fun h=>by
     rw[C,List.all_eq_false];exact⟨a,bU ha,by rw[h];simp⟩
    generalize de d.par a=q1 at J gU b8;generalize hC d.par d.par.length a p=q2 at sG gU b8;refine ws (aq ?_);refine af (dE aaC ?_);cases q1 with
    |true=>
     refine ag ?_;refine cl J (ag ?_);(iterate 10 refine z fun _ _=>?_);refine SS ?_;refine a8 bc (gR (bS (ag ?_)));exact af (aK (i+1) (ap eH) ⟨oG,gU rfl⟩ oG)
    |false=>
    refine ag ?_;refine cl J (bK ?_);refine ag ?_;refine gc sG (ag ?_);cases q2 with
    |true=>
     refine a8 bc (gR (bS (ag ?_)));exact af (aK (i+1) (ap eH) ⟨oG,gU rfl⟩ oG)
    |false=>
     refine a8 bc (gH (aj (SS ?_)));exact af (aY (br (br (aR (av rfl (X (b8 rfl)))))))
   .have a9:¬ i<M.length:=by simpa using h
    show AOps _ _ _ _ _ _ _ _ _;refine aq ?_;refine af (iV ?_ ⟨rfl,rfl,rfl,rfl,rfl,trivial⟩);rw[C,bj];intro a ha;obtain⟨j,hj⟩:=cC ha;exact bm j a (by have:=(bw.1 hj).1;omega) hj
  .have a9:n<=k:=by
    have:¬ k<f.blocks.length:=by simpa using h
    omega
   exact⟨fQ (l:=[]) trivial,fun i hi=>hinv i oG⟩
 clear gV;rintro s ⟨hg,ha⟩;refine⟨_,hg,aj ?_⟩;refine SS ?_;refine af (av (d:=B true) rfl ?_);rw[show(range n).all (mb (aA ahd) d.par)=true from bj.2 fun i hi=>ha i (List.mem_range.1 hi)]
end
theorem adD{f:aG}{d:eV}(C:dG f≠0):PCall prog 18 [.agg (aH f),.agg (ct d)] (qP f d):=by
 have J:=RN C;refine bg MH (.cons (.agg (iq f)) (.cons (.agg (wm d)) .nil)) (QW f d) ?_;rw[qP,if_neg C];generalize dG f=e at J C;have du:(e !=0)=true:=by simpa using C
 rw[V9];refine az (aP ?_);refine af (aW (bG [(0,aH f,26),(1,ct d,30)] eH (l:=[(2,.pt (aH f)),(3,.pt (ct d))]) eH) (aj (SS ?_)));refine cl J (SS ?_);refine XV ?_;refine aq ?_;refine af (aB (aj (ag ?_)));refine af (dN (aB (aj (aq ?_))));exact af (bX (fj rfl rfl rfl))
theorem aeK{f:aG}{d:eV}(J:dG f=0)(hd:At d):PCall prog 18 [.agg (aH f),.agg (ct d)] (qP f d):=by
 have np:=HA J
 have hf:jx f=true:=by
  unfold dG at J;split at J
  .assumption
  .cases J
 have bZ:=tE hf;have hg:=xf bZ;obtain⟨n,hn⟩:∃ n,f.blocks.length=n:=⟨_,rfl⟩
 have jd:n<=1200:=hn▸bZ.mz;have jY:0<n:=hn▸bZ.pos;have xR:wF f=bA f (bI f) (cM f.blocks) (dv (cO (aT f) f.blocks.length (-1))):=rfl;have cZ:(bI f).length=n:=by rw[<- hn];simp[bI]
 have my:(cM f.blocks).length=n:=by rw[<- hn];simp[cM]
 have jt:∀ b,∀ t∈aA (bI f) b,0<=t/\t.toNat<n:=fun b t ht=>hn▸hg.to b t ht
 have sU:∀ b,∀ t∈aA (cM f.blocks) b,0<=t/\t.toNat<n:=fun b t ht=>by
  have:=(hg.rI b t).1 ht;exact⟨this.1,hn▸this.2.1⟩
 refine bg MH (.cons (.agg (iq f)) (.cons (.agg (wm d)) .nil)) (QW f d) ?_;rw[qP,if_pos J];have A5:=A5 (f:=f) (beh:=bI f) (ahd:=cM f.blocks) (c:=dv (cO (aT f) f.blocks.length (-1))) (.sl (.map fun _=>.s _)) rfl (d:=d) hn jY oG cZ my jt sU (G0 bZ);have MI:=fun l fr to=>A4 (f:=f) (beh:=bI f) (ahd:=cM f.blocks) (c:=dv (cO (aT f) f.blocks.length (-1))) (.sl (.map fun _=>.s _)) rfl hn oG cZ (l:=l) (fr:=fr) (to:=to);rw[hn];have jF:yI (aT f) (c9 f) n d=(qI (aA (bI f)) (aA (cM f.blocks)) n d&&(range n).all (nq (aA (bI f)) n d)):=rfl;rw[jF];clear jF
 have L3:qI (aA (bI f)) (aA (cM f.blocks)) n d=true->lenP d n=true:=fun h=>by
  rw[qI,aO] at h;exact h.1
 rw[xR] at np;generalize qI (aA (bI f)) (aA (cM f.blocks)) n d=rt at A5 L3 ⊢;generalize dv (cO (aT f) f.blocks.length (-1))=cnt at np A5 MI;have du:((0:Int) !=0)=false:=rfl;rw[V9];refine az (aP ?_);refine af (aW (bG [(0,aH f,26),(1,ct d,30)] eH (l:=[(2,.pt (aH f)),(3,.pt (ct d))]) eH) (aj (SS ?_)));refine cl np (SS ?_);refine XW ?_;refine SS ?_;refine Wa ?_;refine SS ?_;refine af (aB (aj (ag ?_)));refine af (gS (bP (aB (aj ?_))));cases rt with
 |false=>
  refine ag ?_;refine cl A5 (SS ?_);refine af (dN (aB (aj (ag ?_))));exact af (bX (fj rfl rfl rfl))
 |true=>
 have hlen:=tg.1 (L3 rfl);clear L3;rw[Bool.true_and];refine ag ?_;refine cl A5 (SS ?_);refine af (gS (bP (aB (az ?_))));clear np A5;refine aP ?_
 refine af (bR (fun s=>(∃ nx,Ghost prog s ⟨aD [],fun _=>none,nx⟩)/\∀ i,i<n->nq (aA (bI f)) n d i=true) (dV (α:=Nat)
  (fun k=>⟨aD [(3,.pt (ct d)),(6,.pt (bA f (bI f) (cM f.blocks) cnt)),(27,au d.par),(28,I d.par.length),(29,I k)],fun _=>none,2⟩)
  (fun k=>k<=n/\∀ i,i<k->nq (aA (bI f)) n d i=true) (fun k=>n - k) 0 (ap eH) ⟨Nat.zero_le _,fun i h=>absurd h (Nat.not_lt_zero _)⟩ ?_) ?_)
 .rintro k ⟨hk,hinv⟩;refine SS ?_;refine af ⟨_,rfl,fun h=>?_,fun h=>?_⟩
  .have ao:k<n:=by
    have:k<d.par.length:=by simpa using h
    omega
   have hx:=sm (par:=d.par) (b:=k) oG;have zB:d.one[k]? =some (d.one.getD k []):=by rw[bl,aM oG];rfl
   have CZ:d.two[k]? =some (d.two.getD k []):=by rw[bl,aM oG];rfl
   have qj:=GZ (b:=k) hd.o;have A7:=GZ (b:=k) hd.t;have X:nq (aA (bI f)) n d k=false->D.tup [B false,I 0]=.tup [B ((range n).all (nq (aA (bI f)) n d)),I 0]:=fun h=>by rw[j5 ao h]
   have kO:nq (aA (bI f)) n d k=true->∀ i,i<k+1->nq (aA (bI f)) n d i=true:=fun h i hi=>by
    by_cases e:i=k
    .subst e;exact h
    .exact hinv i oG
   have C:nq (aA (bI f)) n d k=if pA d.par k= -1 then(d.one.getD k []).length+(d.two.getD k []).length==0 else nY (aA (bI f)) n (d.one.getD k []) (pA d.par k) k&&(nY (aA (bI f)) n (d.two.getD k []) (pA d.par k) k&&yJ (d.one.getD k []) (d.two.getD k [])):=rfl
   have iV:nq (aA (bI f)) n d k=true->∀ {env},jM [(3,.pt (ct d)),(6,.pt (bA f (bI f) (cM f.blocks) cnt)),(27,au d.par),(28,I d.par.length),(29,I ((k+1:Nat):Int))] env->sw prog (fun k:Nat=>(⟨aD [(3,.pt (ct d)),(6,.pt (bA f (bI f) (cM f.blocks) cnt)),(27,au d.par),(28,I d.par.length),(29,I k)],fun _=>none,2⟩:St))
    (fun k=>k<=n/\∀ i,i<k->nq (aA (bI f)) n d i=true) (fun k=>n - k) k ⟨env,fun _=>none,2⟩:=fun h {env} he=>aK (k+1) (ap he) ⟨oG,kO h⟩ oG
   generalize nq (aA (bI f)) n d k=ok at C X iV;generalize pA d.par k=p at hx C;generalize d.one.getD k []=one at zB qj C;generalize d.two.getD k []=two at CZ A7 C;refine ws (aN ?_);refine af (dE ab7 (aJ ?_));refine aq ?_;refine a8 bc (aB (aj ?_));by_cases hp:p= -1
   .have dY:(p== -1)=true:=by simp[hp]
    rw[if_pos hp] at C;refine ag ?_;refine af (dN (aB (aB (aj ?_))));by_cases hz:one.length+two.length=0
    .have eM:decide ((0:Int)<(one.length:Int)+(two.length:Int))=false:=decide_eq_false oG;refine bB ?_;refine af (gS (bP (jw (mO (ag ?_)))));exact af (iV (by rw[C];simpa using hz) ⟨rfl,rfl,rfl,rfl,rfl,trivial⟩)
    .have eM:decide ((0:Int)<(one.length:Int)+(two.length:Int))=true:=decide_eq_true oG;refine bB ?_;refine af (dN (aB (aj (ag ?_))));exact af (bX (br (aR (fj rfl rfl (X (by rw[C];simpa using hz))))))
   have dY:(p== -1)=false:=by simp[hp]
   rw[if_neg hp] at C;refine ag ?_;refine af (gS (bP (aB (aj ?_))));have A4:=MI one p k;have Wb:=MI two p k
   have rJ:nY (aA (bI f)) n one p k=true->2<=one.length:=fun h=>by
    unfold nY jU at h;simp only[aO,decide_eq_true_eq] at h;exact h.2.1
   generalize nY (aA (bI f)) n one p k=q1 at A4 C rJ;generalize nY (aA (bI f)) n two p k=q2 at Wb C;cases q1 with
   |false=>
    refine aP ?_;refine cl A4 (ag ?_);(iterate 6 refine z fun _ _=>?_);refine SS ?_;refine af (dN (aB (aj (ag ?_))));exact af (bX (br (aR (fj rfl rfl (X C)))))
   |true=>
   have rJ:=rJ rfl;refine aP ?_;refine cl A4 (bB ?_);have A4:=Wb;refine gc A4 (ag ?_);cases q2 with
   |false=>
    refine af (dN (aB (aj (ag ?_))));exact af (bX (br (aR (fj rfl rfl (X C)))))
   |true=>
   rw[Bool.true_and,Bool.true_and] at C;refine af (gS (bP (az ?_)));have m9:((one.length:Nat):Int) - 1=((one.length - 1:Nat):Int)/\ -9223372036854775808<=((one.length - 1:Nat):Int)/\((one.length - 1:Nat):Int)<=9223372036854775807:=by omega
   have zC:((one.map I).drop ((1:Int).toNat*1)).take ((((one.length - 1:Nat):Int) - 1).toNat*1)=((one.drop 1).take (one.length - 2)).map I:=by
    rw[show(1:Int).toNat*1=1 by rfl,show(((one.length - 1:Nat):Int) - 1).toNat*1=one.length - 2 by omega, <- List.map_drop,List.map_take]
   have og:(((one.length - 1:Nat):Int) - 1).toNat=((one.drop 1).take (one.length - 2)).length:=by rw[RM];omega
   refine aP ?_;refine aI (wq (es':=((one.drop 1).take (one.length - 2)).map I) rfl vS c3 rfl rfl zC) cv ⟨vn,oG,oG,oG⟩ ?_;rw[og];clear zC og m9;have XX:=fun {i:Nat} (h:i<one.length - 2)=>adC h;have og:=RM (one:=one);have qm:yJ one two=(range (one.length - 2)).all fun i=> !(eQ two (one.getD (i+1) 0)):=rfl;generalize (one.drop 1).take (one.length - 2)=M at XX og ⊢;refine ag ?_
   refine af (dV (α:=Nat)
    (fun i=>⟨aD [(3,.pt (ct d)),(6,.pt (bA f (bI f) (cM f.blocks) cnt)),(27,au d.par),(28,I d.par.length),(29,I k),(11,au two),(70,au M),(71,I M.length),(72,I i)],fun _=>none,2⟩)
    (fun i=>i<=M.length/\∀ j,j<i->eQ two (one.getD (j+1) 0)=false) (fun i=>M.length - i) 0 (ap eH) ⟨Nat.zero_le _,fun j h=>absurd h (Nat.not_lt_zero _)⟩ ?_)
   rintro i ⟨hi,bm⟩;refine SS ?_;refine af ⟨_,rfl,fun h=>?_,fun h=>?_⟩
   .have fX:i<M.length:=by simpa using h
    have hm:=XX (show i<one.length - 2 by omega)
    have gU:eQ two (one.getD (i+1) 0)=false->∀ j,j<i+1->eQ two (one.getD (j+1) 0)=false:=fun hy j hj=>by
     by_cases e:j=i
     .subst e;exact hy
     .exact bm j oG
    have b8:eQ two (one.getD (i+1) 0)=true->ok=false:=fun h=>by
     rw[C,qm,List.all_eq_false];exact⟨i,List.mem_range.2 oG,by rw[h];simp⟩
    generalize one.getD (i+1) 0=x at hm gU b8;have kY:=kY (l:=two) (v:=x);refine ws (aq ?_);refine er ?_;generalize eQ two x=q3 at kY gU b8;refine ag ?_;refine cl kY ?_;cases q3 with
    |true=>
     refine af (gH (aj (ag ?_)));exact af (aY (br (br (aR (fj rfl rfl (X (b8 rfl)))))))
    |false=>
     refine af (gR (bS (ag ?_)));exact af (aK (i+1) (ap eH) ⟨oG,gU rfl⟩ oG)
   .have a9:¬ i<M.length:=by simpa using h
    show AOps _ _ _ _ _ _ _ _ _;refine ag ?_;refine af (iV ?_ ⟨rfl,rfl,rfl,rfl,rfl,trivial⟩);rw[C,qm,bj];intro j hj;rw[bm j (by have:=List.mem_range.1 hj;omega)];rfl
  .have a9:n<=k:=by
    have:¬ k<d.par.length:=by simpa using h
    omega
   exact⟨⟨2,fQ (l:=[]) trivial⟩,fun i hi=>hinv i oG⟩
 rintro s ⟨⟨nx,hg⟩,ha⟩;refine⟨_,hg,aj ?_⟩;refine ag ?_;refine af (fj rfl rfl ?_);rw[show(range n).all (nq (aA (bI f)) n d)=true from bj.2 fun i hi=>ha i (List.mem_range.1 hi)];rfl
theorem A8{f:aG}{d:eV}(hd:At d):PCall prog 18 [.agg (aH f),.agg (ct d)] (qP f d):=by
 by_cases h:dG f=0
 .exact aeK h hd
 .exact adD h
theorem jG{par:List Int}{b:Int}(hl:par.length<=100000):PCall prog 57 [au par,I b] (C0 par b):=by
 have X:∀ x∈[au par,I b],Tr x:=.cons (cL _) (.cons (.s _) .nil);refine bg ajQ X (af4 par b) ?_;rw[ajR];unfold C0;rw[aaD];refine ws (ag ?_);refine af (az (SS ?_))
 refine af (bR (fun s=>∃ j m nx O,Ghost prog s ⟨aD [(6,.rs j 0 O.length)],m,nx⟩/\j<nx/\m j=some (.cells (O.map I) 3)/\O.length<=100001/\rK par [] (par.length+1) b=some (O++[0])) (yx (α:=List Int×Int×Nat×Mem×Nat)
  (fun s=>⟨aD [(0,au par),(1,I s.2.1),(6,.rs s.2.2.1 0 s.1.length)],s.2.2.2.1,s.2.2.2.2⟩)
  (fun s=>s.1.length<=par.length+1/\s.2.2.1<s.2.2.2.2/\s.2.2.2.1 s.2.2.1=some (.cells (s.1.map I) 3)/\rK par [] (par.length+1) b=rK par s.1 (par.length+1 - s.1.length) s.2.1) (fun s=>par.length+1 - s.1.length) ([],b,0,bf [(0,.cells [] 3)],1)
  ((Ghost.nilrow _ _ _ 6 3 rfl).trans (aQ (l:=[(0,au par),(1,I b),(6,.rs 0 0 0)]) (ml:=[(0,.cells [] 3)]) eH ⟨up_same _ _ _,trivial⟩)) ⟨Nat.zero_le _,Nat.zero_lt_one,rfl,rfl⟩ ?_) ?_)
 .rintro⟨O,c,j,m,nx⟩ ⟨M,hj,ax,hinv⟩;dsimp only at M hj ax hinv ⊢;by_cases hc:c=0
  .have du:(c !=0)=false:=by simp[hc]
   refine ag ?_;refine af ⟨_,rfl,fun h=>oH,fun _=>?_⟩;refine⟨j,m,nx,O,ap eH,hj,ax,oG,?_⟩;rw[hinv,hc,ab8]
  have du:(c !=0)=true:=by simp[hc]
  refine ag ?_;refine af ⟨_,rfl,fun _=>aB (aj ?_),fun h=>oH⟩
  have C:(par.length+1 - O.length=0\/c<0\/(par.length:Int)<=c)->D.tup [.z,B false]=(match rK par [] (par.length+1) b with
   |none=>.tup [.z,B false]
   |some l=>.tup [au l,B true]):=fun h=>by rw[hinv,adE hc h]
  have nj:(O.map I).length=O.length:=by simp
  by_cases h0:c<0
  .have jT:decide (c<0)=true:=decide_eq_true h0;refine aq ?_;(iterate 4 refine z fun _ _=>?_);refine ag ?_;(iterate 5 refine z fun _ _=>?_);refine SS ?_;refine af (dN (aB (aj (ag ?_))));exact af (bX (br (aR (fj rfl rfl (C (.inr (.inl h0)))))))
  have jT:decide (c<0)=false:=decide_eq_false h0;by_cases h1:(par.length:Int)<=c
  .have w7:decide ((par.length:Int)<=c)=true:=decide_eq_true h1;refine aJ ?_;(iterate 5 refine z fun _ _=>?_);refine SS ?_;refine af (dN (aB (aj (ag ?_))));exact af (bX (br (aR (fj rfl rfl (C (.inr (.inr h1)))))))
  have w7:decide ((par.length:Int)<=c)=false:=decide_eq_false h1;by_cases h2:par.length<O.length
  .have eM:decide ((par.length:Int)<(O.length:Int))=true:=decide_eq_true oG;refine bK ?_;refine ag ?_;refine bt rfl rfl (BV rfl ax) (fun hc=>⟨ak,V.h⟩) (aP ?_);refine af (dN (aB (aj (ag ?_))));exact af (bX (br (aR (fj rfl rfl (C (.inl oG))))))
  have eM:decide ((par.length:Int)<(O.length:Int))=false:=decide_eq_false oG;obtain⟨J,rfl⟩:=cU (show 0<=c by omega);have hx:=sm (par:=par) (b:=J) oG;obtain⟨k,hk⟩:∃ k,par.length+1 - O.length=k+1:=⟨par.length - O.length,oG⟩
  rw[hk,ab9 hc oG oG] at hinv;generalize pA par J=p at hx hinv;refine bK ?_;refine ag ?_;refine bt rfl rfl (BV rfl ax) (fun hc=>⟨ak,V.h⟩) (aP ?_);refine af (gS (bP (aj ?_)));clear C;refine aN ?_;refine af (ff (aN ?_));refine af (aK (O++[(J:Int)],p,nx+1,_,nx+2) (ap ⟨rfl,rfl,by rw[List.length_append];rfl,trivial⟩) ⟨by simp;omega,oM,?_,?_⟩ oP)
  .dsimp only;rw[List.map_append];exact up_same _ _ _
  .dsimp only;rw[hinv,List.length_append];congr 1;simp;omega
 .rintro s ⟨j,m,nx,O,hg,hj,ax,M,he⟩;rw[he];refine⟨_,hg,az ?_⟩;have nj:(O.map I).length=O.length:=by simp
  refine aN ?_;refine af (aW (bG [(nx+1,O.map I++[I 0],3)] ⟨up_same _ _ _,trivial⟩ (l:=[(4,au (O++[0])),(5,B true)]) ⟨?_,rfl,trivial⟩) (fj rfl rfl rfl));show sub (fz0 (nx+1) _ (prog.cellsOf 3)) (D.rs (nx+1) 0 (O.length+1))=_;rw[nw (by rw[c3];simp)];unfold au;rw[List.map_append,List.length_append];rfl
theorem zD{f:aG}(hF:tO f)(hw:∀ b∈f.blocks,b.fin.aL.length<=9){l:List Int}{fr to:Int}:PCall prog 58 [.agg (aH f),au l,I fr,I to] (B (jU (aT f) f.blocks.length l fr to)):=by
 have a7:∀ x∈[D.agg (aH f),au l,I fr,I to],Tr x:=.cons (.agg (iq f)) (.cons (cL _) (.cons (.s _) (.cons (.s _) .nil)));refine mG Wc.he a7 fun fp=>?_;have hlen:=(fp (au l) oS).sl.1;unfold maxLen at hlen;have FI:=hF.ok.mz;refine bg Wc a7 (Tr.s _) ?_;rw[ajS];have xM:∀ i,i<l.length->l[i]? =some (l.getD i 0):=fun i hi=>by rw[bl,aM hi];rfl
 have J:(¬ 2<=l.length\/¬ l.getD 0 0=fr\/¬ l.getD (l.length - 1) 0=to)->B false=B (jU (aT f) f.blocks.length l fr to):=fun g=>by
  congr 2;refine(Bool.eq_false_iff.2 fun e=>?_).symm;unfold jU at e;simp only[aO,decide_eq_true_eq,beq_iff_eq] at e;rcases g with g|g|g
  .exact g e.1
  .exact g e.2.1
  .exact g e.2.2.1
 refine az (ag ?_);refine af (aW (bG [(0,aH f,26)] eH (l:=[(1,au l),(2,I fr),(3,I to),(4,.pt (aH f))]) eH) (aB (aj ?_)));by_cases h2:l.length<2
 .have jT:decide ((l.length:Int)<2)=true:=decide_eq_true oG;refine aP ?_;(iterate 5 refine z fun _ _=>?_);refine ag ?_;(iterate 8 refine z fun _ _=>?_);refine SS ?_;refine af (dN (aB (aj (SS ?_))));exact af (bX (av rfl (J (.inl oG))))
 have jT:decide ((l.length:Int)<2)=false:=decide_eq_false oG;have hx:=xM 0 oG;have hy:=xM (l.length - 1) oG;have tN:(¬ l.getD 0 0=fr\/¬ l.getD (l.length - 1) 0=to)->B false=B (jU (aT f) f.blocks.length l fr to):=fun g=>J (.inr g);clear J
 have bC:l.getD 0 0=fr->l.getD (l.length - 1) 0=to->jU (aT f) f.blocks.length l fr to=(range l.length).all (iU (aT f) f.blocks.length l):=fun e1 e2=>by
  unfold jU;rw[e1,e2,decide_eq_true (show 2<=l.length by omega)];simp
 have m9:((l.length:Nat):Int) - 1=((l.length - 1:Nat):Int)/\ -9223372036854775808<=((l.length - 1:Nat):Int)/\((l.length - 1:Nat):Int)<=9223372036854775807:=by omega
 generalize l.getD 0 0=x0 at hx tN bC;generalize l.getD (l.length - 1) 0=xl at hy tN bC;by_cases h0:¬ x0=fr
 .have du:(x0 !=fr)=true:=by simpa using h0
  refine aJ ?_;refine ag ?_;(iterate 8 refine z fun _ _=>?_);refine SS ?_;refine af (dN (aB (aj (SS ?_))));exact af (bX (av rfl (tN (.inl h0))))
 have h0:x0=fr:=Classical.not_not.1 h0;have du:(x0 !=fr)=false:=by simpa using h0
 refine aJ ?_;refine aJ ?_;refine ag ?_;refine af (cx rfl (fun h=>?_) fun h=>bP (aB (az ?_)))
 .refine aB (aj (SS ?_));exact af (bX (av rfl (tN (.inr (by revert h;simp)))))
 have hl:xl=to:=by revert h;simp
 rw[bC h0 hl];clear h tN bC hx hy m9 jT du;refine SS ?_
 refine af (bR (fun s=>(∃ nx,Ghost prog s ⟨aD [],fun _=>none,nx⟩)/\∀ i,i<l.length->iU (aT f) f.blocks.length l i=true) (cQ (α:=Nat)
  (fun k=>⟨aD [(1,au l),(4,.pt (aH f)),(9,I k)],fun _=>none,1⟩)
  (fun k=>k<=l.length/\∀ i,i<k->iU (aT f) f.blocks.length l i=true) (fun k=>l.length - k) 0 (ap eH) ⟨Nat.zero_le _,fun i h=>absurd h (Nat.not_lt_zero _)⟩ ?_) ?_)
 .rintro k ⟨hk,hinv⟩;refine aP ?_;refine af ⟨_,rfl,fun h=>?_,fun h=>?_⟩
  .have ao:k<l.length:=by simpa using h
   have hx:=xM k ao;have J:iU (aT f) f.blocks.length l k=false->B false=B ((range l.length).all (iU (aT f) f.blocks.length l)):=fun h=>by rw[j5 ao h]
   have kO:iU (aT f) f.blocks.length l k=true->∀ i,i<k+1->iU (aT f) f.blocks.length l i=true:=fun h i hi=>by
    by_cases e:i=k
    .subst e;exact h
    .exact hinv i oG
   have C:iU (aT f) f.blocks.length l k=(nF f.blocks.length (l.getD k 0)&&(!(eQ (l.take k) (l.getD k 0))&&(k==0||eQ (aT f (l.getD (k - 1) 0).toNat) (l.getD k 0)))):=rfl;generalize iU (aT f) f.blocks.length l k=ok at C J kO;generalize l.getD k 0=x at hx C;refine dE ab' ?_
   have oh:x<0\/(f.blocks.length:Int)<=x->ok=false:=fun g=>by
    rw[C,show nF f.blocks.length x=false from Bool.eq_false_iff.2 fun h=>by have:=ym.1 h;omega];rfl
   by_cases pw:x<0
   .have jT:decide (x<0)=true:=decide_eq_true pw;refine bB ?_;(iterate 8 refine z fun _ _=>?_);refine ag ?_;(iterate 8 refine z fun _ _=>?_);refine aN ?_;(iterate 14 refine z fun _ _=>?_);refine SS ?_;refine a8 bc (gH (aj (SS ?_)));exact af (aY (br (aR (av rfl (J (oh (.inl pw)))))))
   have jT:decide (x<0)=false:=decide_eq_false pw;obtain⟨M,rfl⟩:=cU (show 0<=x by omega);by_cases hxn:f.blocks.length<=M
   .have w7:decide ((f.blocks.length:Int)<=(M:Int))=true:=decide_eq_true oG;refine aJ ?_;refine dz ?_;(iterate 8 refine z fun _ _=>?_);refine aN ?_;(iterate 14 refine z fun _ _=>?_);refine SS ?_;refine a8 bc (gH (aj (SS ?_)));exact af (aY (br (aR (av rfl (J (oh (.inr oG)))))))
   have w7:decide ((f.blocks.length:Int)<=(M:Int))=false:=decide_eq_false oG;rw[ym.2 (show 0<=(M:Int)/\(M:Int)<f.blocks.length by omega),Bool.true_and] at C;clear oh;have eW:=eW (l:=l.take (k:Int).toNat) (v:=(M:Int));rw[bN,z3] at eW;generalize eQ (l.take k) M=q2 at eW C;refine aJ ?_;refine aJ ?_;refine bt rfl rfl (Ki (f:=I) (l:=l) rfl vS c3 rfl vn ⟨oG,oG⟩) (fun hc=>⟨(by repeat' (first|exact trivial|exact hc|exact rfl|refine And.intro ?_ ?_)),trivial⟩) ?_;rw[bN];cases q2 with
   |true=>
    refine aP ?_;refine gc eW (aN ?_);(iterate 14 refine z fun _ _=>?_);refine SS ?_;refine a8 bc (gH (aj (SS ?_)));exact af (aY (br (aR (av rfl (J C)))))
   |false=>
   cases k with
   |zero=>
    have eM:decide ((0:Int)<((0:Nat):Int))=false:=rfl;refine aP ?_;refine gc eW (aN ?_);(iterate 13 refine z fun _ _=>?_);refine ag ?_;refine a8 bc (gR (bS (aq ?_)));exact af (aK 1 (ap eH) ⟨oG,kO C⟩ oG)
   |succ j=>
    have eM:decide ((0:Int)<((j+1:Nat):Int))=true:=by simp
    have m9:((j+1:Nat):Int) - 1=(j:Int)/\ -9223372036854775808<=(j:Int)/\(j:Int)<=9223372036854775807:=by omega
    have hp:=xM j oG;have xO:=hinv j oG;unfold iU at xO;rw[aO] at xO;have uo:=ym.1 xO.1;rw[show j+1 - 1=j by omega] at C;generalize l.getD j 0=p at hp uo C;clear xO;obtain⟨X,rfl⟩:=cU uo.1;rw[bN] at C;have iN:X<f.blocks.length:=by omega
    have ur:f.blocks[X]? =some f.blocks[X]:=aM iN;have cz:f.blocks[X]∈f.blocks:=cy _;have lJ:=lJ ur (by have:=hw _ cz;omega);rw[(hF.ed _ cz).2, <- Kj ur] at lJ;clear ur cz;refine aP ?_;refine gc eW (aJ ?_);refine ag ?_;refine gc lJ (aP ?_);have eW:=K.eW (l:=aT f X) (v:=(M:Int));rw[z3] at eW;generalize eQ (aT f X) M=q3 at eW C;refine gc eW (aq ?_);cases q3 with
    |false=>
     refine a8 bc (gH (aj (SS ?_)));exact af (aY (br (aR (av rfl (J C)))))
    |true=>
     refine a8 bc (gR (bS (aq ?_)));exact af (aK (j+2) (ap eH) ⟨oG,kO C⟩ oG)
  .have a9:¬ k<l.length:=by simpa using h
   exact⟨⟨1,fQ (l:=[]) trivial⟩,fun i hi=>hinv i oG⟩
 .rintro s ⟨⟨nx,hg⟩,ha⟩;refine⟨_,hg,aj ?_⟩;refine SS ?_;refine af (av (d:=B true) rfl ?_);rw[show(range l.length).all (iU (aT f) f.blocks.length l)=true from bj.2 fun i hi=>ha i (List.mem_range.1 hi)]
theorem Wd{v:Int}:PCall prog 59 [.z,I v] (B false):=by
 have h:=eW (l:=[]) (v:=v);rw[z3] at h;exact PG (k:=3) h (by simp[lB,sV,au,FJ]) (.cons .z (.cons (.s _) .nil))
theorem uu{f:aG}{d:eV}(hs:yT f)(hw:∀ b∈f.blocks,b.fin.aL.length<=9)(hd:At d):PCall prog 19 [.agg (aH f),.agg (ct d)] (wv f d):=by
 have rL:=rL hs hw;refine bg ajT (.cons (.agg (iq f)) (.cons (.agg (wm d)) .nil)) (aaE f d) ?_;rw[ajU];unfold wv;refine az (aP ?_);refine af (aW (bG [(0,aH f,26),(1,ct d,30)] eH (l:=[(2,.pt (aH f)),(3,.pt (ct d))]) eH) (aj ?_));by_cases b9:¬ dG f=0
 .rw[if_neg b9];generalize dG f=ce at b9 rL ⊢;have du:(ce !=0)=true:=by simp[b9]
  refine SS ?_;refine cl rL (SS ?_);refine af (aB (aj (ag ?_)));refine af (dN (aB (aj (aq ?_))));exact af (bX (fj rfl rfl rfl))
 have b9:dG f=0:=Classical.not_not.1 b9;rw[if_pos b9];rw[b9] at rL;have CT:=Dt b9;have hF:=EJ CT;have bZ:=hF.ok;have hg:=xf bZ;have jY:0<f.blocks.length:=bZ.pos;have jd:f.blocks.length<=1200:=bZ.mz;have sW:=ajV CT hw;have We:=fun {k:Nat} (h:k<f.blocks.length)=>aaF CT h;have Ia:=fun l fr to=>zD hF hw (l:=l) (fr:=fr) (to:=to)
 have sU:∀ b,∀ t∈c9 f b,0<=t/\t.toNat<f.blocks.length:=fun b t ht=>by
  have:=(hg.rI b t).1 ht;exact⟨this.1,this.2.1⟩
 have A6:=G0 bZ;have vT:yK (aT f) (c9 f) f.blocks.length d=(lenP d f.blocks.length&&((range f.blocks.length).all (lC (aT f) f.blocks.length d)&&(range f.blocks.length).all (ng (c9 f) d.par))):=rfl;rw[vT];clear vT;generalize mL f.blocks=AL at sW We;have du:((0:Int) !=0)=false:=rfl;refine SS ?_;refine cl rL (SS ?_);refine af (aB (aj (ag ?_)));refine af (gS (bP (aj ?_)));clear du;refine aP ?_;refine af (aB (aj ?_));obtain⟨n,hn⟩:∃ n,f.blocks.length=n:=⟨_,rfl⟩
 have yS:lenP d n=false->D.tup [B false,I 0]=.tup [B (lenP d n&&((range n).all (lC (aT f) n d)&&(range n).all (ng (c9 f) d.par))),I 0]:=fun h=>by rw[h];rfl
 rw[hn] at sU jY jd Ia ⊢;by_cases xP:d.par.length=0
 .have du:((d.par.length:Int) !=(n:Int))=true:=by simp;omega
  have hb:=yS (by
   refine Bool.eq_false_iff.2 fun h=>?_;have:=(tg.1 h).1
   omega)
  refine bB ?_;(iterate 5 refine z fun _ _=>?_);refine ag ?_;(iterate 5 refine z fun _ _=>?_);refine ag ?_;(iterate 5 refine z fun _ _=>?_);refine SS ?_;refine af (dN (aB (aj (ag ?_))));exact af (bX (fj rfl rfl hb))
 have hx:=sm (par:=d.par) (b:=0) oG
 have xQ:lenP d n= !(((d.par.length:Int) !=(n:Int))||(((d.one.length:Int) !=(n:Int))||(((d.two.length:Int) !=(n:Int))||(pA d.par ((0:Nat):Int) != -1)))):=by
  rw[Bool.eq_iff_iff,tg];simp only[Bool.not_eq_true',Bool.or_eq_false_iff,bne_eq_false_iff_eq];constructor
  .rintro⟨h1,h2,h3,h4⟩;exact⟨oG,oG,oG,h4⟩
  .rintro⟨h1,h2,h3,h4⟩;exact⟨oG,oG,oG,h4⟩
 generalize pA d.par ((0:Nat):Int)=x0 at hx xQ;refine aJ ?_;refine aJ ?_;refine bK ?_;refine af (cx rfl (fun h=>?_) fun h=>bP (aj ?_))
 .refine aB (aj ?_)
  have hb:=yS (by
   rw[xQ];have h:=(HP _ _ _ _).symm.trans h
   rw[h];rfl)
  refine ag ?_;exact af (bX (fj rfl rfl hb))
 have ao:lenP d n=true:=by
  rw[xQ];have h:=(HP _ _ _ _).symm.trans h;rw[h];rfl
 rw[ao,Bool.true_and];obtain⟨iN,oe,htl,_⟩:=tg.1 ao;clear h xQ yS ao xP;have Wf:=fun b=>jG (par:=d.par) (b:=b) oG;refine SS ?_;refine cl sW (SS ?_);refine af (aB (az (SS ?_)))
 refine af (bR (fun s=>Ghost prog s ⟨aD [(2,.pt (aH f)),(3,.pt (ct d)),(7,I n),(8,bx AL)],fun _=>none,2⟩/\∀ i,i<n->lC (aT f) n d i=true) (cQ (α:=Nat)
  (fun k=>⟨aD [(2,.pt (aH f)),(3,.pt (ct d)),(7,I n),(8,bx AL),(9,I k)],fun _=>none,2⟩)
  (fun k=>k<=n/\∀ i,i<k->lC (aT f) n d i=true) (fun k=>n - k) 0 (ap eH) ⟨Nat.zero_le _,fun i h=>absurd h (Nat.not_lt_zero _)⟩ ?_) ?_)
 .rintro k ⟨hk,hinv⟩;refine aq ?_;refine af ⟨_,rfl,fun h=>?_,fun h=>?_⟩
  .have ao:k<n:=by simpa using h
   have hx:=sm (par:=d.par) (b:=k) oG;have zB:d.one[k]? =some (d.one.getD k []):=by rw[bl,aM oG];rfl
   have CZ:d.two[k]? =some (d.two.getD k []):=by rw[bl,aM oG];rfl
   have qj:=GZ (b:=k) hd.o;have A7:=GZ (b:=k) hd.t;have cq:lC (aT f) n d k=false->D.tup [B false,I 0]=.tup [B ((range n).all (lC (aT f) n d)&&(range n).all (ng (c9 f) d.par)),I 0]:=fun h=>by rw[j5 ao h];rfl
   have kO:lC (aT f) n d k=true->∀ i,i<k+1->lC (aT f) n d i=true:=fun h i hi=>by
    by_cases e:i=k
    .subst e;exact h
    .exact hinv i oG
   have J:lC (aT f) n d k=if k=0\/pA d.par k= -1 then(d.one.getD k []).length+(d.two.getD k []).length==0
    else match gW d.par (d.par.length+1) k with
     |none=>false
     |some l=>jU (aT f) n (d.one.getD k []) (pA d.par k) k&&(jU (aT f) n (d.two.getD k []) (pA d.par k) k&&(!(eQ l.tail k)&&yJ (d.one.getD k []) (d.two.getD k []))):=rfl
   have iV:lC (aT f) n d k=true->∀ {env},jM [(2,.pt (aH f)),(3,.pt (ct d)),(7,I n),(8,bx AL),(9,I ((k+1:Nat):Int))] env->sw prog (fun k:Nat=>(⟨aD [(2,.pt (aH f)),(3,.pt (ct d)),(7,I n),(8,bx AL),(9,I k)],fun _=>none,2⟩:St))
    (fun k=>k<=n/\∀ i,i<k->lC (aT f) n d i=true) (fun k=>n - k) k ⟨env,fun _=>none,2⟩:=fun h {env} he=>aK (k+1) (ap he) ⟨oG,kO h⟩ oG
   generalize lC (aT f) n d k=ok at J cq iV;generalize pA d.par k=p at hx J;generalize d.one.getD k []=one at zB qj J;generalize d.two.getD k []=two at CZ A7 J;refine aB (aj ?_);by_cases hp:k=0\/p= -1
   .rw[if_pos hp] at J
    have LV:((k:Int)==0)=true\/(((k:Int)==0)=false/\(p== -1)=true):=by
     by_cases h0:k=0
     .exact .inl (by simp[h0])
     .exact .inr ⟨by simp;omega,by simp;omega⟩
    rcases LV with dY|⟨dY,As⟩
    .refine aq ?_;(iterate 6 refine z fun _ _=>?_);refine SS ?_;refine af (dN (aB (aB (dE PX ?_))));by_cases hz:one.length+two.length=0
     .have eM:decide ((0:Int)<(one.length:Int)+(two.length:Int))=false:=decide_eq_false oG;refine aJ ?_;refine aN ?_;refine a8 bc (gS (bP (jw (mO (aq ?_)))));exact af (iV (by rw[J];simpa using hz) ⟨rfl,rfl,rfl,rfl,rfl,trivial⟩)
     .have eM:decide ((0:Int)<(one.length:Int)+(two.length:Int))=true:=decide_eq_true oG;refine aJ ?_;refine aN ?_;refine a8 bc (dN (aB (aj (ag ?_))));exact af (bX (br (aR (fj rfl rfl (cq (by rw[J];simpa using hz))))))
    .refine bK ?_;refine ag ?_;refine af (dN (aB (aB (dE PX ?_))));by_cases hz:one.length+two.length=0
     .have eM:decide ((0:Int)<(one.length:Int)+(two.length:Int))=false:=decide_eq_false oG;refine aJ ?_;refine aN ?_;refine a8 bc (gS (bP (jw (mO (aq ?_)))));exact af (iV (by rw[J];simpa using hz) ⟨rfl,rfl,rfl,rfl,rfl,trivial⟩)
     .have eM:decide ((0:Int)<(one.length:Int)+(two.length:Int))=true:=decide_eq_true oG;refine aJ ?_;refine aN ?_;refine a8 bc (dN (aB (aj (ag ?_))));exact af (bX (br (aR (fj rfl rfl (cq (by rw[J];simpa using hz))))))
   rw[if_neg hp] at J;have dY:((k:Int)==0)=false:=by simp;omega
   have As:(p== -1)=false:=by simp;omega
   have jG:=Wf k;unfold C0 at jG;refine bK ?_;refine ag ?_;refine af (gS (bP (aj ?_)));clear dY As;cases hu:gW d.par (d.par.length+1) k with
   |none=>
    rw[hu] at jG J;dsimp only at jG J;refine aq ?_;refine cl jG (aN ?_);refine af (aB (dE PY (aq ?_)));(iterate 14 refine z fun _ _=>?_);refine ag ?_;(iterate 14 refine z fun _ _=>?_);refine ag ?_;(iterate 4 refine z fun _ _=>?_);refine SS ?_;refine a8 bc (dN (aB (aj (ag ?_))));exact af (bX (br (aR (fj rfl rfl (cq J)))))
   |some X=>
   rw[hu] at jG J;dsimp only at jG J
   have aoB:1<=X.length/\X.length<=100000:=by
    obtain⟨m,hm,e⟩:=Kk hu;have:=hm.lt oG;rw[e,PH];omega
   clear hu;refine aq ?_;refine cl jG (aN ?_);refine af (aB (dE PY ?_));have zD:=Ia one p k;have Wg:=Ia two p k;have eW:=eW (l:=X.tail) (v:=(k:Int));rw[z3] at eW
   have rJ:jU (aT f) n one p k=true->2<=one.length:=fun h=>by
    unfold jU at h;simp only[aO,decide_eq_true_eq] at h;exact h.1
   generalize jU (aT f) n one p k=q1 at zD J rJ;generalize jU (aT f) n two p k=q2 at Wg J;generalize eQ X.tail k=q3 at eW J
   have zC:((X.map I).drop ((1:Int).toNat*1)).take (((X.length:Int) - 1).toNat*1)=X.tail.map I:=by
    rw[show(1:Int).toNat*1=1 by rfl, <- List.map_drop,df oS,List.drop_one]
   have fO:((X.length:Int) - 1).toNat=X.tail.length:=by simp
   cases q1 with
   |false=>
    refine aJ ?_;refine bB ?_;refine gc zD (aq ?_);(iterate 14 refine z fun _ _=>?_);refine ag ?_;(iterate 4 refine z fun _ _=>?_);refine SS ?_;refine a8 bc (dN (aB (aj (ag ?_))));exact af (bX (br (aR (fj rfl rfl (cq J)))))
   |true=>
   have rJ:=rJ rfl;refine aJ ?_;refine bB ?_;refine gc zD (aJ ?_);refine bB ?_;have zD:=Wg;cases q2 with
   |false=>
    refine gc zD (aq ?_);(iterate 4 refine z fun _ _=>?_);refine SS ?_;refine a8 bc (dN (aB (aj (ag ?_))));exact af (bX (br (aR (fj rfl rfl (cq J)))))
   |true=>
   refine gc zD (aP ?_);refine bt rfl rfl (wq (es':=X.tail.map I) rfl vS c3 rfl rfl zC) (fun hc=>⟨(by repeat' (first|exact trivial|exact hc|exact rfl|refine And.intro ?_ ?_)),⟨vn,oG,oG,oG⟩⟩) ?_;rw[fO];refine SS ?_;refine gc eW (SS ?_);cases q3 with
   |true=>
    refine a8 bc (dN (aB (aj (ag ?_))));exact af (bX (br (aR (fj rfl rfl (cq J)))))
   |false=>
   rw[Bool.true_and,Bool.true_and] at J;refine a8 bc (gS (bP (aj ?_)));clear zC fO;refine bB ?_;refine af (az (SS ?_));have qm:yJ one two=(range (one.length - 2)).all fun i=> !(eQ two (one.getD (i+1) 0)):=rfl
   refine af (cQ (α:=Nat)
    (fun i=>⟨aD [(2,.pt (aH f)),(3,.pt (ct d)),(7,I n),(8,bx AL),(9,I k),(12,au one),(13,I i)],fun _=>none,2⟩)
    (fun i=>1<=i/\i<=one.length - 1/\∀ j,j+1<i->eQ two (one.getD (j+1) 0)=false) (fun i=>one.length - 1 - i) 1 (ap eH) ⟨bF _,oG,fun j h=>absurd h oG⟩ ?_)
   rintro i ⟨zE,hi,bm⟩;have m9:((one.length:Nat):Int) - 1=((one.length - 1:Nat):Int)/\ -9223372036854775808<=((one.length - 1:Nat):Int)/\((one.length - 1:Nat):Int)<=9223372036854775807:=by omega
   refine aN ?_;refine af ⟨_,rfl,fun h=>?_,fun h=>?_⟩
   .have fX:i<one.length - 1:=by
     have:(i:Int)<((one.length - 1:Nat):Int):=by simpa using h
     omega
    have hm:one[i]? =some (one.getD i 0):=by rw[bl,aM oG];rfl
    have gU:eQ two (one.getD i 0)=false->∀ j,j+1<i+1->eQ two (one.getD (j+1) 0)=false:=fun hy j hj=>by
     by_cases e:j+1=i
     .rw[e];exact hy
     .exact bm j oG
    have b8:eQ two (one.getD i 0)=true->ok=false:=fun h=>by
     rw[J,qm];show(!false&&_)=false;rw[Bool.not_false,Bool.true_and,List.all_eq_false];exact⟨i - 1,List.mem_range.2 oG,by rw[show i - 1+1=i by omega,h];simp⟩
    generalize one.getD i 0=x at hm gU b8;have eW:=K.eW (l:=two) (v:=x);rw[z3] at eW;refine dE aaG ?_;generalize eQ two x=q3 at eW gU b8;refine aJ ?_;refine cl eW ?_;cases q3 with
    |true=>
     refine a8 bc (gH (aj (ag ?_)));exact af (aY (br (br (aR (fj rfl rfl (cq (b8 rfl)))))))
    |false=>
     refine a8 bc (gR (bS (aq ?_)));exact af (aK (i+1) (ap eH) ⟨oG,oG,gU rfl⟩ oG)
   .have a9:¬ i<one.length - 1:=fun g=>by
     have:¬ (i:Int)<((one.length - 1:Nat):Int):=by simpa using h
     omega
    show AOps _ _ _ _ _ _ _ _ _;refine aq ?_;refine af (iV ?_ ⟨rfl,rfl,rfl,rfl,rfl,trivial⟩);rw[J,qm];show(!false&&_)=true;rw[Bool.not_false,Bool.true_and,bj];intro j hj;rw[bm j (by have:=List.mem_range.1 hj;omega)];rfl
  .have a9:¬ k<n:=by simpa using h
   exact⟨ap eH,fun i hi=>hinv i oG⟩
 clear hx Ia rL;rintro s ⟨gV,hA⟩;rw[show(range n).all (lC (aT f) n d)=true from bj.2 fun i hi=>hA i (List.mem_range.1 hi),Bool.true_and];clear hA;refine⟨_,gV,aB (az ?_)⟩;refine SS ?_
 refine af (bR (fun s=>(∃ nx,Ghost prog s ⟨aD [],fun _=>none,nx⟩)/\∀ i,i<n->ng (c9 f) d.par i=true) (cQ (α:=Nat)
  (fun k=>⟨aD [(2,.pt (aH f)),(3,.pt (ct d)),(7,I n),(8,bx AL),(14,I k)],fun _=>none,2⟩)
  (fun k=>k<=n/\∀ i,i<k->ng (c9 f) d.par i=true) (fun k=>n - k) 0 (ap eH) ⟨Nat.zero_le _,fun i h=>absurd h (Nat.not_lt_zero _)⟩ ?_) ?_)
 .clear gV;rintro k ⟨hk,hinv⟩;refine aq ?_;refine af ⟨_,rfl,fun h=>?_,fun h=>?_⟩
  .have ao:k<n:=by simpa using h
   have hx:=sm (par:=d.par) (b:=k) oG;have uq:=We (k:=k) oG;have cq:ng (c9 f) d.par k=false->D.tup [B false,I 0]=.tup [B ((range n).all (ng (c9 f) d.par)),I 0]:=fun h=>by rw[j5 ao h]
   have kO:ng (c9 f) d.par k=true->∀ i,i<k+1->ng (c9 f) d.par i=true:=fun h i hi=>by
    by_cases e:i=k
    .subst e;exact h
    .exact hinv i oG
   have J:ng (c9 f) d.par k=(c9 f k).all fun a=>if a≠0/\pA d.par a= -1 then true else !(decide (k≠0)&&pA d.par k== -1)&&(k==0||eQ ((gW d.par (d.par.length+1) a).getD []) (pA d.par k)):=rfl
   have iV:ng (c9 f) d.par k=true->∀ {env},jM [(2,.pt (aH f)),(3,.pt (ct d)),(7,I n),(8,bx AL),(14,I ((k+1:Nat):Int))] env->sw prog (fun k:Nat=>(⟨aD [(2,.pt (aH f)),(3,.pt (ct d)),(7,I n),(8,bx AL),(14,I k)],fun _=>none,2⟩:St))
    (fun k=>k<=n/\∀ i,i<k->ng (c9 f) d.par i=true) (fun k=>n - k) k ⟨env,fun _=>none,2⟩:=fun h {env} he=>aK (k+1) (ap he) ⟨oG,kO h⟩ oG
   have FH:=sU k;have rC:=A6 k;generalize ng (c9 f) d.par k=ok at J cq iV;generalize pA d.par k=p at hx J;generalize c9 f k=Y1 at uq J FH rC;obtain⟨ob,vU⟩:∃ ob,(decide (k≠0)&&p== -1)=ob:=⟨_,rfl⟩
   rw[vU] at J;obtain⟨Pr,XY⟩:∃ Pr:Int->Bool,∀ a,Pr a=if a≠0/\pA d.par a= -1 then true else !ob&&(k==0||eQ ((gW d.par (d.par.length+1) a).getD []) p):=⟨fun a=>if a≠0/\pA d.par a= -1 then true else !ob&&(k==0||eQ ((gW d.par (d.par.length+1) a).getD []) p),fun _=>rfl⟩
   rw[show(fun a=>if a≠0/\pA d.par a= -1 then true else !ob&&(k==0||eQ ((gW d.par (d.par.length+1) a).getD []) p))=Pr from funext fun a=>(XY a).symm] at J
   have M:(((k:Int) !=0)=true/\(k==0)=false/\(p== -1)=ob)\/(((k:Int) !=0)=false/\(k==0)=true/\ob=false):=by
    by_cases h0:k=0
    .refine .inr ⟨by simp[h0],by simp[h0],?_⟩;rw[<- vU,h0];rfl
    .refine .inl ⟨by simp;omega,by simpa using h0,?_⟩;rw[<- vU,decide_eq_true h0,Bool.true_and]
   refine eI (fun s=>Ghost prog s ⟨aD [(2,.pt (aH f)),(3,.pt (ct d)),(7,I n),(8,bx AL),(14,I k),(15,B ob)],fun _=>none,2⟩) (lm ?_) fun s hs=>⟨_,hs,az ?_⟩
   .rcases M with⟨du,_,dY⟩|⟨du,_,he⟩
    .refine aJ ?_;refine ag ?_;refine af (ap ⟨rfl,rfl,rfl,rfl,rfl,?_,trivial⟩);rfl
    .refine aq ?_;(iterate 6 refine z fun _ _=>?_);refine ag ?_;refine af (ap ⟨rfl,rfl,rfl,rfl,rfl,?_,trivial⟩);rw[he];rfl
   clear vU;refine SS ?_
   refine af (cQ (α:=Nat)
    (fun i=>⟨aD [(2,.pt (aH f)),(3,.pt (ct d)),(7,I n),(8,bx AL),(14,I k),(15,B ob),(16,I i)],fun _=>none,2⟩)
    (fun i=>i<=Y1.length/\∀ j a,j<i->Y1[j]? =some a->Pr a=true) (fun i=>Y1.length - i) 0 (ap eH) ⟨Nat.zero_le _,fun j a h=>absurd h (Nat.not_lt_zero _)⟩ ?_)
   rintro i ⟨hi,bm⟩;refine dz ?_;refine af ⟨_,rfl,fun h=>?_,fun h=>?_⟩
   .have fX:i<Y1.length:=by simpa using h
    obtain⟨a,ha⟩:∃ a,Y1[i]? =some a:=⟨_,aM fX⟩
    have gE:=FH a (bU ha)
    have gU:Pr a=true->∀ j b,j<i+1->Y1[j]? =some b->Pr b=true:=fun zA j b hj hb=>by
     by_cases e:j=i
     .subst e;rw[ha] at hb;cases hb;exact zA
     .exact bm j b oG hb
    have b8:Pr a=false->ok=false:=fun zA=>by
     rw[J,List.all_eq_false];exact⟨a,bU ha,by rw[zA];simp⟩
    have C:=XY a;generalize Pr a=pr at gU b8 C;obtain⟨an,rfl⟩:=cU gE.1;rw[bN] at gE;have hy:=sm (par:=d.par) (b:=an) oG;have jG:=Wf an;unfold C0 at jG;generalize pA d.par an=pa at hy C;refine ws (bK ?_);refine af (aB (aj ?_));by_cases FK:(an:Int)≠0/\pa= -1
    .have du:((an:Int) !=0)=true:=by simpa using FK.1
     have dY:(pa== -1)=true:=by simp[FK.2]
     rw[if_pos FK] at C;refine bK ?_;refine ag ?_;refine af (cx rfl (fun h=>jw (mO (aq ?_))) fun h=>oH);exact af (aK (i+1) (ap eH) ⟨oG,gU C⟩ oG)
    rw[if_neg FK] at C;by_cases FL:(an:Int)=0
    .have du:((an:Int) !=0)=false:=by simp[FL]
     refine aq ?_;(iterate 6 refine z fun _ _=>?_);refine SS ?_;refine af (gS (bP (aB (aj ?_))));cases ob with
     |true=>
      refine SS ?_;refine af (dN (aB (aj (ag ?_))));exact af (bX (br (br (aR (fj rfl rfl (cq (b8 C)))))))
     |false=>
     refine SS ?_;refine af (gS (bP (aj ?_)));rw[Bool.not_false,Bool.true_and] at C;cases hu:gW d.par (d.par.length+1) an with
     |none=>
      rw[hu] at jG C;dsimp only[Option.getD] at jG C;refine aq ?_;refine cl jG (aN ?_);refine er ?_;have eW:=Wd (v:=p);rcases M with⟨du,M,_⟩|⟨du,M,_⟩
      .rw[M] at C;refine aq ?_;refine Wh ?_;refine aN ?_;refine gc eW (ag ?_);refine af (gH (aj (ag ?_)));exact af (aY (br (br (aR (fj rfl rfl (cq (b8 C)))))))
      .rw[M] at C;refine aq ?_;(iterate 8 refine z fun _ _=>?_);refine SS ?_;refine af (gR (bS (aq ?_)));exact af (aK (i+1) (ap eH) ⟨oG,gU C⟩ oG)
     |some X=>
      rw[hu] at jG C;dsimp only[Option.getD] at jG C;refine aq ?_;refine cl jG (aN ?_);refine er ?_;have eW:=eW (l:=X) (v:=p);rw[z3] at eW;generalize eQ X p=q at eW C;rcases M with⟨du,M,_⟩|⟨du,M,_⟩
      .rw[M] at C;cases q with
       |false=>
        refine aJ ?_;refine gc eW (ag ?_);refine af (gH (aj (ag ?_)));exact af (aY (br (br (aR (fj rfl rfl (cq (b8 C)))))))
       |true=>
        refine aJ ?_;refine gc eW (ag ?_);refine af (gR (bS (aq ?_)));exact af (aK (i+1) (ap eH) ⟨oG,gU C⟩ oG)
      .rw[M] at C;refine aq ?_;(iterate 8 refine z fun _ _=>?_);refine SS ?_;refine af (gR (bS (aq ?_)));exact af (aK (i+1) (ap eH) ⟨oG,gU C⟩ oG)
    .have du:((an:Int) !=0)=true:=by simpa using FL
     have dY:(pa== -1)=false:=by
      have:pa≠ -1:=fun e=>FK ⟨FL,e⟩;simpa using this
     refine bK ?_;refine ag ?_;clear dY;refine af (gS (bP (aB (aj ?_))));cases ob with
     |true=>
      refine SS ?_;refine af (dN (aB (aj (ag ?_))));exact af (bX (br (br (aR (fj rfl rfl (cq (b8 C)))))))
     |false=>
     refine SS ?_;refine af (gS (bP (aj ?_)));rw[Bool.not_false,Bool.true_and] at C;cases hu:gW d.par (d.par.length+1) an with
     |none=>
      rw[hu] at jG C;dsimp only[Option.getD] at jG C;refine aq ?_;refine cl jG (aN ?_);refine er ?_;have eW:=Wd (v:=p);rcases M with⟨du,M,_⟩|⟨du,M,_⟩
      .rw[M] at C;refine aq ?_;refine Wh ?_;refine aN ?_;refine gc eW (ag ?_);refine af (gH (aj (ag ?_)));exact af (aY (br (br (aR (fj rfl rfl (cq (b8 C)))))))
      .rw[M] at C;refine aq ?_;(iterate 8 refine z fun _ _=>?_);refine SS ?_;refine af (gR (bS (aq ?_)));exact af (aK (i+1) (ap eH) ⟨oG,gU C⟩ oG)
     |some X=>
      rw[hu] at jG C;dsimp only[Option.getD] at jG C;refine aq ?_;refine cl jG (aN ?_);refine er ?_;have eW:=eW (l:=X) (v:=p);rw[z3] at eW;generalize eQ X p=q at eW C;rcases M with⟨du,M,_⟩|⟨du,M,_⟩
      .rw[M] at C;cases q with
       |false=>
        refine aJ ?_;refine gc eW (ag ?_);refine af (gH (aj (ag ?_)));exact af (aY (br (br (aR (fj rfl rfl (cq (b8 C)))))))
       |true=>
        refine aJ ?_;refine gc eW (ag ?_);refine af (gR (bS (aq ?_)));exact af (aK (i+1) (ap eH) ⟨oG,gU C⟩ oG)
      .rw[M] at C;refine aq ?_;(iterate 8 refine z fun _ _=>?_);refine SS ?_;refine af (gR (bS (aq ?_)));exact af (aK (i+1) (ap eH) ⟨oG,gU C⟩ oG)
   .have a9:¬ i<Y1.length:=by simpa using h
    show AOps _ _ _ _ _ _ _ _ _;refine aq ?_;refine af (iV ?_ ⟨rfl,rfl,rfl,rfl,rfl,trivial⟩);rw[J,bj];intro a ha;obtain⟨j,hj⟩:=cC ha;exact bm j a (by have:=(bw.1 hj).1;omega) hj
  .have a9:¬ k<n:=by simpa using h
   exact⟨⟨2,fQ (l:=[]) trivial⟩,fun i hi=>hinv i oG⟩
 clear gV;rintro s ⟨⟨nx,hg⟩,ha⟩;refine⟨_,hg,aj ?_⟩;refine ag ?_;refine af (fj rfl rfl ?_);rw[show(range n).all (ng (c9 f) d.par)=true from bj.2 fun i hi=>ha i (List.mem_range.1 hi)];rfl
theorem A9{d:eV}:PCall prog 16 [.agg (ct d)] (B (BI d)):=by
 have J:∀ x∈[D.agg (ct d)],Tr x:=.cons (.agg (wm d)) .nil;refine bg ajW J (Tr.s _) ?_;rw[ajX];refine az (ag ?_);refine af (aW (bG [(0,ct d,30)] eH (l:=[(1,.pt (ct d))]) eH) (aB (aj ?_)));unfold BI;refine aJ ?_;refine dz ?_;refine af (cx rfl (fun h=>?_) fun h=>bP (aB (az ?_)))
 .have h:=(XZ _ _ _).symm.trans h;rw[h];refine aB (aj (SS ?_));exact af (bX (av rfl rfl))
 have h3:=(XZ _ _ _).symm.trans h;rw[h3]
 have X:¬ (30:Int)<(d.one.length:Int):=by
  simp only[Bool.or_eq_false_iff,decide_eq_false_iff_not] at h3;exact h3.2.1
 have ht:¬ (30:Int)<(d.two.length:Int):=by
  simp only[Bool.or_eq_false_iff,decide_eq_false_iff_not] at h3;exact h3.2.2
 clear h3 h;rw[Bool.not_false,Bool.true_and];refine SS ?_
 refine af (bR (fun s=>Ghost prog s ⟨aD [(1,.pt (ct d))],fun _=>none,1⟩/\d.one.all r9=true) (cQ (α:=Nat)
  (fun k=>⟨aD [(1,.pt (ct d)),(3,I k)],fun _=>none,1⟩)
  (fun k=>k<=d.one.length/\∀ j l,j<k->d.one[j]? =some l->r9 l=true) (fun k=>d.one.length - k) 0 (ap eH) ⟨Nat.zero_le _,fun j l h=>absurd h (Nat.not_lt_zero _)⟩ ?_) ?_)
 .rintro k ⟨hk,hinv⟩;refine aN ?_;refine af ⟨_,rfl,fun h=>?_,fun h=>?_⟩
  .have ao:k<d.one.length:=by simpa using h
   obtain⟨l,hl⟩:∃ l,d.one[k]? =some l:=⟨_,aM ao⟩
   refine ws ?_;cases hg:decide ((30:Int)<(l.length:Int)) with
   |true=>
    have eM:=hg;refine dz ?_;refine af (gH (aj (SS ?_)));refine af (aY (br (aR (av rfl ?_))));rw[List.all_eq_false.2 ⟨l,bU hl,by unfold r9;rw[hg];simp⟩];rfl
   |false=>
    have eM:=hg;refine dz ?_;refine af (gR (bS (aq ?_)));refine af (aK (k+1) (ap eH) ⟨oG,fun j m hj hm=>?_⟩ oG);by_cases e:j=k
    .subst e;rw[hl] at hm;cases hm;unfold r9;rw[hg];rfl
    .exact hinv j m oG hm
  .have M:¬ k<d.one.length:=by simpa using h
   refine⟨ap eH,bj.2 fun l hl=>?_⟩;obtain⟨j,hj⟩:=cC hl;exact hinv j l (by have:=(bw.1 hj).1;omega) hj
 rintro s ⟨C,ha⟩;rw[ha,Bool.true_and];refine⟨_,C,aB (az ?_)⟩;refine SS ?_
 refine af (bR (fun s=>Ghost prog s ⟨aD [],fun _=>none,1⟩/\d.two.all r9=true) (cQ (α:=Nat)
  (fun k=>⟨aD [(1,.pt (ct d)),(4,I k)],fun _=>none,1⟩)
  (fun k=>k<=d.two.length/\∀ j l,j<k->d.two[j]? =some l->r9 l=true) (fun k=>d.two.length - k) 0 (ap eH) ⟨Nat.zero_le _,fun j l h=>absurd h (Nat.not_lt_zero _)⟩ ?_) ?_)
 .clear C;rintro k ⟨hk,hinv⟩;refine aN ?_;refine af ⟨_,rfl,fun h=>?_,fun h=>?_⟩
  .have ao:k<d.two.length:=by simpa using h
   obtain⟨l,hl⟩:∃ l,d.two[k]? =some l:=⟨_,aM ao⟩
   refine ws ?_;cases hg:decide ((30:Int)<(l.length:Int)) with
   |true=>
    have eM:=hg;refine dz ?_;refine af (gH (aj (SS ?_)));refine af (aY (br (aR (av rfl ?_))));rw[List.all_eq_false.2 ⟨l,bU hl,by unfold r9;rw[hg];simp⟩];rfl
   |false=>
    have eM:=hg;refine dz ?_;refine af (gR (bS (aq ?_)));refine af (aK (k+1) (ap eH) ⟨oG,fun j m hj hm=>?_⟩ oG);by_cases e:j=k
    .subst e;rw[hl] at hm;cases hm;unfold r9;rw[hg];rfl
    .exact hinv j m oG hm
  .have M:¬ k<d.two.length:=by simpa using h
   refine⟨fQ (l:=[]) trivial,bj.2 fun l hl=>?_⟩;obtain⟨j,hj⟩:=cC hl;exact hinv j l (by have:=(bw.1 hj).1;omega) hj
 clear C;rintro s ⟨hg,ha⟩;refine⟨_,hg,aj ?_⟩;refine SS ?_;refine af (av (d:=B true) rfl ?_);rw[ha]
end Go.Proofs.Tryz.K
namespace Go.Proofs.Tryz.K
theorem Tq{P:Program}{d:Nat}{fs:List Field}{cs:List Value}{G:Nat×Nat->Option (List Lit)}{ts:List (Nat×Nat)}(h:fs.map (fun f=>(f.type,f.offset))=ts)(C:∀ t o,G (t,o)=P.keyLits d t ((cs.drop o).take (P.cellsOf t))):
 fs.mapM (fun f=>P.keyLits d f.type ((cs.drop f.offset).take (P.cellsOf f.type)))=ts.mapM G:=by
 rw[<- h,List.mapM_map];congr 1;funext f;exact(C _ _).symm
theorem kl3(d:Nat){a:Int}(h: -9223372036854775808<=a/\a<=9223372036854775807):prog.keyLits (d+1) 3 [.int .i64 a]=some [.int .i64 a]:=by
 have u3:prog.underlying 3=some (.int .i64):=kr
 have C:(Lit.int .i64 a).wf=true:=by
  have e1:IntKind.i64.min= -9223372036854775808:=kr;have e2:IntKind.i64.max=9223372036854775807:=kr;simp[Lit.wf,e1,e2,h]
 simp only[Program.keyLits,u3,C,and_self,if_true]
theorem kl4(d:Nat)(b:Bool):prog.keyLits (d+1) 4 [.bool b]=some [.bool b]:=by
 have C:prog.underlying 4=some .bool:=kr;simp only[Program.keyLits,C]
theorem L4:∃ fs:Array Field,prog.underlying 168=some (.struct fs)/\prog.cellsOf 168=2/\fs.all (·.name !="_")=true/\fs.toList.map (fun f=>(f.type,f.offset))=[(3,0),(4,1)]:=
 ⟨match prog.underlying 168 with|some (.struct fs)=>fs|_=> #[],by kernel_rfl,by kernel_rfl,by kernel_rfl,by kernel_rfl⟩
theorem UF:∃ fs:Array Field,prog.underlying 172=some (.struct fs)/\prog.cellsOf 172=4/\fs.all (·.name !="_")=true/\fs.toList.map (fun f=>(f.type,f.offset))=[(168,0),(168,2)]:=
 ⟨match prog.underlying 172 with|some (.struct fs)=>fs|_=> #[],by kernel_rfl,by kernel_rfl,by kernel_rfl,by kernel_rfl⟩
theorem L5(d:Nat){a:Int}(b:Bool)(h: -9223372036854775808<=a/\a<=9223372036854775807):prog.keyLits (d+2) 168 [.int .i64 a,.bool b]=some [.int .i64 a,.bool b]:=by
 obtain⟨fs,C,hc,hn,hf⟩:=L4;have c3:prog.cellsOf 3=1:=kr;have c4:prog.cellsOf 4=1:=kr;unfold Program.keyLits;simp only[C];rw[if_pos ⟨by rw[hc];rfl,hn⟩,Tq (G:=fun p=>prog.keyLits (d+1) p.1 (([.int .i64 a,.bool b].drop p.2).take (prog.cellsOf p.1))) hf fun _ _=>by dsimp only];simp[c3,c4,kl3 d h,kl4]
theorem af5(d:Nat){a c:Int}(b e:Bool)(h: -9223372036854775808<=a/\a<=9223372036854775807)(h': -9223372036854775808<=c/\c<=9223372036854775807):prog.keyLits (d+3) 172 [.int .i64 a,.bool b,.int .i64 c,.bool e]=some [.int .i64 a,.bool b,.int .i64 c,.bool e]:=by
 obtain⟨fs,C,hc,hn,hf⟩:=UF;obtain⟨_,_,y8,_,_⟩:=L4;unfold Program.keyLits;simp only[C];rw[if_pos ⟨by rw[hc];rfl,hn⟩,Tq (G:=fun p=>prog.keyLits (d+2) p.1 (([.int .i64 a,.bool b,.int .i64 c,.bool e].drop p.2).take (prog.cellsOf p.1))) hf fun _ _=>by dsimp only];simp[y8,L5 d _ h,L5 d _ h']
theorem X0:∃ d,prog.types.size+1=d+3:=⟨prog.types.size - 2,by
 have:Nat.ble 2 prog.types.size=true:=kr;have:=bD this
 omega⟩
theorem Cc{a:Int}(b:Bool)(h: -9223372036854775808<=a/\a<=9223372036854775807):keyP prog 168 (.agg #[.int .i64 a,.bool b])=true:=by
 obtain⟨fs,C,hc,_,_⟩:=L4;have hk:prog.keyType 168=true:=kr;obtain⟨d,hd⟩:=X0;simp only[keyP,C,keyOf,hk,Value.formed,hc,hd];have:=L5 (d+1) b h;simp[Value.cells,this]
theorem wM{a c:Int}(b e:Bool)(h: -9223372036854775808<=a/\a<=9223372036854775807)(h': -9223372036854775808<=c/\c<=9223372036854775807):keyP prog 172 (.agg #[.int .i64 a,.bool b,.int .i64 c,.bool e])=true:=by
 obtain⟨fs,C,hc,_,_⟩:=UF;have hk:prog.keyType 172=true:=kr;obtain⟨d,hd⟩:=X0;simp only[keyP,C,keyOf,hk,Value.formed,hc,hd];have:=af5 d b e h h';simp[Value.cells,this]
end Go.Proofs.Tryz.K
end
