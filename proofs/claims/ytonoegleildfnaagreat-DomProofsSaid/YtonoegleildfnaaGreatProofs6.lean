/- Part 6. -/
import Derived.Test.YtonoegleildfnaaGreatProofs5
set_option linter.all false
set_option maxHeartbeats 4000000
set_option maxRecDepth 10000
section
open Go Go.Abs Go.Proofs Go.Argus
namespace Go.Proofs.Tryz.K
theorem Tw{P:Program}{d:Nat}{fs:List Field}{cs:List Value}{G:Nat×Nat->Option (List Lit)}{ts:List (Nat×Nat)}(h:fs.map (fun f=>(f.type,f.offset))=ts)(C:∀ t o,G (t,o)=P.keyLits d t ((cs.drop o).take (P.cellsOf t))):
 fs.mapM (fun f=>P.keyLits d f.type ((cs.drop f.offset).take (P.cellsOf f.type)))=ts.mapM G:=by
 rw[<- h,List.mapM_map];congr 1;funext f;exact(C _ _).symm
theorem kl3(d:Nat){a:Int}(h: -9223372036854775808<=a/\a<=9223372036854775807):prog.keyLits (d+1) 3 [.int .i64 a]=some [.int .i64 a]:=by
 have u3:prog.underlying 3=some (.int .i64):=kr
 have C:(Lit.int .i64 a).wf=true:=by
  have e1:IntKind.i64.min= -9223372036854775808:=kr;have e2:IntKind.i64.max=9223372036854775807:=kr;simp[Lit.wf,e1,e2,h]
 simp only[Program.keyLits,u3,C,and_self,if_true]
theorem kl4(d:Nat)(b:Bool):prog.keyLits (d+1) 4 [.bool b]=some [.bool b]:=by
 have C:prog.underlying 4=some .bool:=kr;simp only[Program.keyLits,C]
theorem L8:∃ fs:Array Field,prog.underlying 168=some (.struct fs)/\prog.cellsOf 168=2/\fs.all (·.name !="_")=true/\fs.toList.map (fun f=>(f.type,f.offset))=[(3,0),(4,1)]:=
 ⟨match prog.underlying 168 with|some (.struct fs)=>fs|_=> #[],by kernel_rfl,by kernel_rfl,by kernel_rfl,by kernel_rfl⟩
theorem UK:∃ fs:Array Field,prog.underlying 172=some (.struct fs)/\prog.cellsOf 172=4/\fs.all (·.name !="_")=true/\fs.toList.map (fun f=>(f.type,f.offset))=[(168,0),(168,2)]:=
 ⟨match prog.underlying 172 with|some (.struct fs)=>fs|_=> #[],by kernel_rfl,by kernel_rfl,by kernel_rfl,by kernel_rfl⟩
theorem L9(d:Nat){a:Int}(b:Bool)(h: -9223372036854775808<=a/\a<=9223372036854775807):prog.keyLits (d+2) 168 [.int .i64 a,.bool b]=some [.int .i64 a,.bool b]:=by
 obtain⟨fs,C,hc,hn,hf⟩:=L8;have c3:prog.cellsOf 3=1:=kr;have c4:prog.cellsOf 4=1:=kr;unfold Program.keyLits;simp only[C];rw[if_pos ⟨by rw[hc];rfl,hn⟩,Tw (G:=fun p=>prog.keyLits (d+1) p.1 (([.int .i64 a,.bool b].drop p.2).take (prog.cellsOf p.1))) hf fun _ _=>by dsimp only];simp[c3,c4,kl3 d h,kl4]
theorem aga(d:Nat){a c:Int}(b e:Bool)(h: -9223372036854775808<=a/\a<=9223372036854775807)(h': -9223372036854775808<=c/\c<=9223372036854775807):prog.keyLits (d+3) 172 [.int .i64 a,.bool b,.int .i64 c,.bool e]=some [.int .i64 a,.bool b,.int .i64 c,.bool e]:=by
 obtain⟨fs,C,hc,hn,hf⟩:=UK;obtain⟨_,_,zb,_,_⟩:=L8;unfold Program.keyLits;simp only[C];rw[if_pos ⟨by rw[hc];rfl,hn⟩,Tw (G:=fun p=>prog.keyLits (d+2) p.1 (([.int .i64 a,.bool b,.int .i64 c,.bool e].drop p.2).take (prog.cellsOf p.1))) hf fun _ _=>by dsimp only];simp[zb,L9 d _ h,L9 d _ h']
theorem X8:∃ d,prog.types.size+1=d+3:=⟨prog.types.size - 2,by
 have:Nat.ble 2 prog.types.size=true:=kr;have:=bE this
 omega⟩
theorem Cg{a:Int}(b:Bool)(h: -9223372036854775808<=a/\a<=9223372036854775807):keyP prog 168 (.agg #[.int .i64 a,.bool b])=true:=by
 obtain⟨fs,C,hc,_,_⟩:=L8;have hk:prog.keyType 168=true:=kr;obtain⟨d,hd⟩:=X8;simp only[keyP,C,keyOf,hk,Value.formed,hc,hd];have:=L9 (d+1) b h;simp[Value.cells,this]
theorem wQ{a c:Int}(b e:Bool)(h: -9223372036854775808<=a/\a<=9223372036854775807)(h': -9223372036854775808<=c/\c<=9223372036854775807):keyP prog 172 (.agg #[.int .i64 a,.bool b,.int .i64 c,.bool e])=true:=by
 obtain⟨fs,C,hc,_,_⟩:=UK;have hk:prog.keyType 172=true:=kr;obtain⟨d,hd⟩:=X8;simp only[keyP,C,keyOf,hk,Value.formed,hc,hd];have:=aga d b e h h';simp[Value.cells,this]
end Go.Proofs.Tryz.K
namespace Go.Argus
def p7(s:ay):Value:=.agg #[.int .i64 s.1,.bool s.2]
def mU(x y:ay):Value:=.agg #[.int .i64 x.1,.bool x.2,.int .i64 y.1,.bool y.2]
def eV(s:ay):List D:=[I s.1,B s.2]
def um(U:List (ay×ay)):List (Value×D):=U.map fun e=>(mU e.1 e.2,B true)
def lM(cm:List (ay×ay)):List (Value×D):=cm.map fun e=>(p7 e.1,.agg (eV e.2))
def p8(l:List ay):List D:=l.flatMap eV
@[simp] theorem aaN (s : ay) : (eV s).length = 2 := rfl
theorem JV:∀ l:List ay,(p8 l).length=2*l.length
 |[]=>rfl
 |s::l=>by
  have:=JV l;unfold p8 at this ⊢;rw[List.flatMap_cons,List.length_append,this,List.length_cons,aaN];omega
theorem aaO(l:List ay)(s:ay):p8 (l++[s])=p8 l++eV s:=by simp[p8]
theorem Q4(s t:ay):veq (p7 s) (p7 t)=decide (s=t):=by
 obtain⟨a,x⟩:=s;obtain⟨b,y⟩:=t;rw[Bool.eq_iff_iff];simp[p7,veq,veqs,veq1]
theorem acj(x y C J:ay):veq (mU x y) (mU C J)=decide ((x,y)=(C,J)):=by
 obtain⟨a,b⟩:=x;obtain⟨c,d⟩:=y;obtain⟨a',M⟩:=C;obtain⟨X,d'⟩:=J;rw[Bool.eq_iff_iff];simp[mU,veq,veqs,veq1,and_assoc]
theorem DW{x y:ay}:∀ {U:List (ay×ay)},((x,y)∈U->∃ i,lookD (mU x y) (um U)=some (i,B true)/\(um U).eraseIdx i=um (U.erase (x,y)))/\((x,y)∉U->lookD (mU x y) (um U)=none)
 |[]=>⟨fun h=>by simp at h,fun _=>rfl⟩
 |(a,b)::U=>by
  obtain⟨i1,i2⟩:=DW (x:=x) (y:=y) (U:=U);unfold um at i1 i2 ⊢;simp only[List.map_cons,lookD,acj];by_cases h:(a,b)=(x,y)
  .rw[if_pos (by simpa using h)];refine⟨fun _=>⟨0,rfl,?_⟩,fun hn=>absurd (by rw[h];simp) hn⟩;rw[h,List.erase_cons_head];rfl
  .rw[if_neg (by simpa using h)];refine⟨fun hm=>?_,fun hn=>?_⟩
   .have hm:(x,y)∈U:=by
     rcases List.mem_cons.1 hm with e|e
     .exact absurd e.symm h
     .exact e
    obtain⟨i,e1,e2⟩:=i1 hm;refine⟨i+1,by rw[e1];rfl,?_⟩;rw[List.eraseIdx_cons_succ,e2,List.erase_cons_tail (by simpa using h)];rfl
   .rw[i2 fun hm=>hn (by simp[hm])];rfl
theorem B3{P:Program}{t:TypeId}(C:zeroD P (melP P t)=B false)(x y:ay)(U:List (ay×ay)):gotD P t false (lookD (mU x y) (um U))=B (eh U x y):=by
 unfold eh;by_cases h:(x,y)∈U
 .obtain⟨i,e,_⟩:=DW.1 h;rw[e,decide_eq_true h];rfl
 .rw[DW.2 h,decide_eq_false h];simp[gotD,C]
theorem aeR{x y:ay}{U:List (ay×ay)}(h:(x,y)∉U):putD (mU x y) (B true) (um U)=um (U++[(x,y)]):=by
 unfold putD;rw[DW.2 h];simp[um]
theorem aeS{x y:ay}{U:List (ay×ay)}(h:(x,y)∈U):delD (mU x y) (um U)=um (U.erase (x,y)):=by
 obtain⟨i,e1,e2⟩:=DW.1 h;unfold delD;rw[e1];exact e2
theorem DN{y:ay}:∀ {cm:List (ay×ay)},(y∈bY cm->∃ i x,lookD (p7 y) (lM cm)=some (i,.agg (eV x))/\(y,x)∈cm)/\(y∉bY cm->lookD (p7 y) (lM cm)=none)
 |[]=>⟨fun h=>by simp[bY] at h,fun _=>rfl⟩
 |(a,b)::cm=>by
  obtain⟨i1,i2⟩:=DN (y:=y) (cm:=cm);unfold lM bY at i1 i2 ⊢;simp only[List.map_cons,lookD,Q4];by_cases h:a=y
  .rw[if_pos (by simpa using h)];exact⟨fun _=>⟨0,b,rfl,by rw[h];simp⟩,fun hn=>absurd (by rw[h];simp) hn⟩
  .rw[if_neg (by simpa using h)];refine⟨fun hm=>?_,fun hn=>?_⟩
   .have hm:y∈cm.map (·.1):=by
     rcases List.mem_cons.1 hm with e|e
     .exact absurd e.symm h
     .exact e
    obtain⟨i,x,e1,e2⟩:=i1 hm;exact⟨i+1,x,by rw[e1];rfl,by simp[e2]⟩
   .rw[i2 fun hm=>hn (by simp[hm])];rfl
theorem adL{x y:ay}{cm:List (ay×ay)}(h:y∉bY cm):putD (p7 y) (.agg (eV x)) (lM cm)=lM (cm++[(y,x)]):=by
 unfold putD;rw[DN.2 h];simp[lM]
def io(s:ay):Prop:=0<=s.1/\s.1<=100000
structure qw(i8 i9 i11 u c q:Nat)(m:Mem)(nx:Nat)(U cm:List (ay×ay))(op:List ay)(off:Nat):Prop where
 h8:m i8=some (.cells [.mp u] 165)
 h9:m i9=some (.cells [.mp c] 166)
 la:m i11=some (.cells [.rs q off op.length] 169)
 mu:m u=some (.map (um U))
 mc:m c=some (.map (lM cm))
 mq:∃ pre,m q=some (.cells (pre++p8 op) 168)/\pre.length=off
 lt:i8<nx/\i9<nx/\i11<nx/\u<nx/\c<nx/\q<nx
 ne:i8≠i9/\i8≠i11/\i8≠c/\i8≠q/\i9≠i11/\i9≠c/\i9≠q/\i11≠c/\i11≠q/\i11≠u/\u≠c/\u≠q/\c≠q/\i8≠u/\i9≠u
 us:∀ e∈U,io e.1/\io e.2
 cs:∀ e∈cm,io e.1/\io e.2
 ol:op.length<=100000
def WB(beh:Nat->List Int)(fr to:Int)(d:D):Prop:=∃ C J,d=.tup [au C,au J]/\mh beh fr to C/\mh beh fr to J/\∀ i,0<i->i+1<C.length->C.getD i 0∉J
theorem aeV{beh:Nat->List Int}{fr to:Int}(d:D)(h:WB beh fr to d):Tr d:=by
 obtain⟨C,J,rfl,_⟩:=h;exact .tup (.cons (cL _) (.cons (cL _) .nil))
def Wu(beh ahd:Nat->List Int)(fr to:Int)(d:D):Prop:=WB beh fr to d/\CB beh ahd fr to d
def o8:List (List Int)->List D
 |[]=>[.z,.z]
 |[a]=>[au a,.z]
 |a::b::_=>[au a,au b]
theorem Mb(U:List (ay×ay)):Tr (.im (um U)):=.im fun x hx=>by
 obtain⟨e,_,rfl⟩:=List.mem_map.1 hx;exact .s _
theorem acn(C:List (List Int))(i:Nat)(cs:List D)(sz:Nat):(o8 C).map (Abs.sub (fz0 i cs sz))=o8 C:=by
 match C with
 |[]=>rfl
 |[a]=>rfl
 |a::b::_=>rfl
theorem adQ{p:Int->Bool}{l:List Int}{x:Int}(hx:x∈l)(hp:p x=true):∃ (k:Nat) (y:Int),oc p l=k/\l[k]? =some y/\p y=true:=by
 cases h:l.findIdx? p with
 |none=>rw[List.findIdx?_eq_none_iff] at h;rw[h x hx] at hp;cases hp
 |some k=>
  obtain⟨h1,h2,_⟩:=List.findIdx?_eq_some_iff_getElem.1 h;exact⟨k,l[k],by unfold oc;rw[h],aN h1,h2⟩
theorem iD.rng{beh:Nat->List Int}{fr to v:Int}{U:List (ay×ay)}{l:List Int}{n:Nat}(C:iK beh fr to v U)(h:iD U fr to l)(hb:∀ b,∀ c∈beh b,0<=c/\c.toNat<n)(hf:0<=fr/\fr.toNat<n):∀ x∈l,0<=x/\x.toNat<n:=fun x hx=>by
 obtain⟨j,hj⟩:=cC hx;have J:=(bw.1 hj).1;have hg:l.getD j 0=x:=by rw[bl,hj];rfl
 rcases Nat.eq_zero_or_pos j with g|g
 .subst g;rw[<- hg,h.hd];exact hf
 .have:=C.ed _ (h.ch (j - 1) oG);rw[show j - 1+1=j by omega,hg] at this;cases this;exact hb _ _ oN
theorem Y9{α:Type}(p:α->Bool)(l:List α)(i:Nat):((l.take i).filter p).length<=(l.filter p).length:=((List.take_sublist i l).filter p).length_le
theorem Y4{α:Type}(p:α->Bool){l:List α}{i:Nat}{x:α}(h:l[i]? =some x):(l.take (i+1)).filter p=(l.take i).filter p++(if p x=true then [x] else []):=by
 rw[List.take_add_one,h,Option.toList_some,List.filter_append];congr 1;simp only[List.filter_cons,List.filter_nil]
theorem adM{beh:Nat->List Int}{fr to:Int}(C:fr≠to)(h:to∈beh fr.toNat):mh beh fr to [fr,to]:=by
 refine⟨bF _,rfl,rfl,by simp[C],fun i hi=>?_⟩;have:i=0:=by simp at hi;omega
 subst this;exact h
theorem ack{beh:Nat->List Int}{fr to:Int}{n:Nat}{i8 i9 i11 u c q off nx nx':Nat}{m':Mem}{U cm:List (ay×ay)}{op:List ay}{x y:ay}(hb:∀ b,∀ c∈beh b,0<=c/\c.toNat<n)(pC:∀ b,n<=b->beh b=[])(us:∀ e∈U,0<=e.1.1/\0<=e.2.1)(ed:∀ e∈U,lz beh fr to e.1 e.2)
 (hS:SR beh fr to U cm (x::op)) (hk:∀ k∈bY cm,wT n fr to k) (fD:(x,y)∉U->uz beh fr to U x y)
 (X:if y∉bY cm/\(x,y)∉U then(∃ C,nx<=C/\qw i8 i9 i11 u c C m' nx' U (cm++[(y,x)]) (op++[y]) 0) else qw i8 i9 i11 u c q m' nx' U cm op off):
 ∃ uA M C aj4,qw i8 i9 i11 u c C m' nx' U uA M aj4/\SR beh fr to U uA (x::M)/\((x,y)∉U->y∈bY uA)/\(∀ k∈bY uA,wT n fr to k)/\uA.length+op.length=cm.length+M.length/\(∀ k∈bY cm,k∈bY uA)/\(C=q\/nx<=C)/\cm.length<=uA.length/\(uA,M)=rP U x (cm,op) y:=by
 have mD:x∈bY cm:=hS.I1 x oS;by_cases h:y∉bY cm/\(x,y)∉U
 .rw[if_pos h] at X;obtain⟨C,hq,hM⟩:=X;have FA:=hS.push mD (fD h.2) h.1;have jG:bY (cm++[(y,x)])=bY cm++[y]:=by simp[bY]
  refine⟨_,_,C,0,hM,FA,fun _=>by rw[jG];simp,fun k J=>?_,by simp;omega,fun k J=>by rw[jG];simp[J],.inr hq,oS,by unfold rP;rw[if_pos h]⟩;rw[jG,List.mem_append] at J;rcases J with g|g
  .exact hk k g
  .simp only[List.mem_singleton] at g;subst g;exact adN hb pC us ed (hk x mD) (fD h.2)
 .rw[if_neg h] at X;exact⟨cm,op,q,off,X,hS,fun hn=>Classical.byContradiction fun g=>h ⟨g,hn⟩,hk,rfl,fun _ g=>g,.inl rfl,bF _,by unfold rP;rw[if_neg h]⟩
structure SI(beh:Nat->List Int)(fr to:Int)(n nx a:Nat)(U cm:List (ay×ay))(op:List ay)(x:ay)(fR:List (ay×ay))(jh:List ay)(q off:Nat)(m:Mem)(cI:Nat):Prop where
 nm:qw 1 (nx+1) (nx+4) 0 nx q m cI U fR jh off
 sr:SR beh fr to U fR (x::jh)
 ky:∀ k∈bY fR,wT n fr to k
 le:fR.length+op.length=cm.length+jh.length
 ge:cm.length<=fR.length
 ra:m a=some (.cells (eV x) 168)
 rs:m (nx+2)=some (.cells (eV (fr,true)) 168)
 lo:a<cI/\nx+5<=a
 qn:q≠nx+2/\q≠a
theorem SI.ext{beh:Nat->List Int}{fr to:Int}{n nx a:Nat}{U cm:List (ay×ay)}{op:List ay}{x:ay}{fR:List (ay×ay)}{jh:List ay}{q off:Nat}{m m':Mem}{cI nx':Nat}(h:SI beh fr to n nx a U cm op x fR jh q off m cI)(hf:∀ i,i<cI->m' i=m i)(hn:cI<=nx'):
 SI beh fr to n nx a U cm op x fR jh q off m' nx':=by
 have⟨h8,h9,la,mu,mc,⟨pre,mq,sE⟩,lt,ne,us,cs,ol⟩:=h.nm;have:=h.lo;exact⟨⟨(hf _ oG).trans h8,(hf _ oG).trans h9,(hf _ oG).trans la,(hf _ oG).trans mu,(hf _ oG).trans mc,⟨pre,(hf _ oG).trans mq,sE⟩,oG,ne,us,cs,ol⟩,h.sr,h.ky,h.le,h.ge,(hf _ oG).trans h.ra,(hf _ oG).trans h.rs,oG,h.qn⟩
theorem SI.next{beh:Nat->List Int}{fr to:Int}{n nx a:Nat}{U cm:List (ay×ay)}{op:List ay}{x y:ay}{fR:List (ay×ay)}{jh:List ay}{q off:Nat}{m m':Mem}{cI nx':Nat}(h:SI beh fr to n nx a U cm op x fR jh q off m cI)
 (hb:∀ b,∀ c∈beh b,0<=c/\c.toNat<n) (pC:∀ b,n<=b->beh b=[]) (us:∀ e∈U,0<=e.1.1/\0<=e.2.1) (ed:∀ e∈U,lz beh fr to e.1 e.2) (fD:(x,y)∉U->uz beh fr to U x y)
 (hn:cI<=nx') (hf:∀ i,i<cI->i≠nx+4->i≠nx->i≠q->m' i=m i)
 (hP:if y∉bY fR/\(x,y)∉U then(∃ q',cI<=q'/\qw 1 (nx+1) (nx+4) 0 nx q' m' nx' U (fR++[(y,x)]) (jh++[y]) 0) else qw 1 (nx+1) (nx+4) 0 nx q m' nx' U fR jh off):
 ∃ C J M X,SI beh fr to n nx a U cm op x C J M X m' nx'/\((x,y)∉U->y∈bY C)/\(∀ k∈bY fR,k∈bY C)/\(C,J)=rP U x (fR,jh) y:=by
 obtain⟨C,J,M,X,h1,h2,h3,h4,h5,h6,h7,h8,h9⟩:=ack hb pC us ed h.sr h.ky fD hP;have:=h.lo;have:=h.qn;have:=h.le;have:=h.ge;refine⟨C,J,M,X,⟨h1,h2,h4,oG,oG,(hf a oG oG oG oG).trans h.ra,(hf (nx+2) oG oG oG oG).trans h.rs,oG,oG⟩,h3,h6,h9⟩
end Go.Argus
namespace Go.Proofs.Tryz.K
theorem jw{s:ay}(h:io s): -9223372036854775808<=s.1/\s.1<=9223372036854775807:=by
 have:=h.1;have:=h.2;omega
theorem yD{U:List (ay×ay)}(h:∀ e∈U,io e.1/\io e.2):(um U).all (fun e=>keyP prog 172 e.1)=true:=by
 refine bj.2 fun x hx=>?_;obtain⟨e,he,rfl⟩:=List.mem_map.1 hx;exact wQ _ _ (jw (h e he).1) (jw (h e he).2)
theorem G8{cm:List (ay×ay)}(h:∀ e∈cm,io e.1/\io e.2):(lM cm).all (fun e=>keyP prog 168 e.1)=true:=by
 refine bj.2 fun x hx=>?_;obtain⟨e,he,rfl⟩:=List.mem_map.1 hx;exact Cg _ (jw (h e he).1)
theorem Ch:zeroD prog (melP prog 165)=B false:=kr
theorem agb:zeroD prog (melP prog 166)=.agg (eV (0,false)):=kr
theorem Ii{i8 i9 i11 u c q off:Nat}{m:Mem}{nx:Nat}{U cm:List (ay×ay)}{op:List ay}{x y:ay}(hM:qw i8 i9 i11 u c q m nx U cm op off)(hx:io x)(hy:io y)(oi:op.length<100000):
 ACalls prog 129 [.agg (eV x),.agg (eV y),.rp i9 0,.rp i8 0,.rp i11 0] m nx (fun d m' nx'=>d=.tup []/\nx<=nx'/\(∀ i,i<nx->i≠i11->i≠c->i≠q->m' i=m i)/\
  if y∉bY cm/\(x,y)∉U then(∃ q',nx<=q'/\qw i8 i9 i11 u c q' m' nx' U (cm++[(y,x)]) (op++[y]) 0) else qw i8 i9 i11 u c q m' nx' U cm op off):=by
 refine zI UL ?_;rw[agc];have⟨h8,h9,la,mu,mc,⟨pre,mq,sE⟩,⟨l8,l9,l11,lu,lc,lq⟩,⟨n1,n2,n3,n4,n5,n6,n7,n8,n9,n10,n11,n12,n13,n14,n15⟩,us,cs,ol⟩:=hM;have xW:eV x=[I x.1,B x.2]:=rfl;have zJ:eV y=[I y.1,B y.2]:=rfl
 have AI:∃ x0,gotD prog 166 true (lookD (p7 y) (lM cm))=.tup [.agg (eV x0),B (decide (y∈bY cm))]:=by
  by_cases hk:y∈bY cm
  .obtain⟨i,x0,e,_⟩:=DN.1 hk;exact⟨x0,by rw[e,decide_eq_true hk];rfl⟩
  .refine⟨(0,false),?_⟩;rw[DN.2 hk,decide_eq_false hk];simp only[gotD,if_true,agb]
 obtain⟨x0,AI⟩:=AI;refine ws (ag ?_);refine af (az ?_);have ax:=h9;refine aI (gQ rfl (aC oG (aC oG ax)) rfl V.h) ak (gR V.h V.h rfl) (SS ?_);refine aI (yx (es:=lM cm) (key:=p7 y) rfl (aC oG (aC oG mc)) rfl Ci AI) cv ⟨Cj,Cg _ (jw hy),G8 cs⟩ (bB ?_);generalize hk:decide (y∈bY cm)=yk;refine af (su (l:=[(2,.rp i9 0),(3,.rp i8 0),(4,.rp i11 0),(5,.rp nx 0),(6,.rp (nx+1) 0),(8,B yk)]) ⟨rfl,rfl,rfl,rfl,rfl,rfl,trivial⟩ fun C J=>?_);have g8:C i8=some (.cells [.mp u] 165):=(dI J h8)
 have g9:C i9=some (.cells [.mp c] 166):=(dI J h9)
 have NS:C i11=some (.cells [.rs q off op.length] 169):=(dI J la)
 have gu:C u=some (.map (um U)):=(dI J mu)
 have gc:C c=some (.map (lM cm)):=(dI J mc)
 have gq:C q=some (.cells (pre++p8 op) 168):=(dI J mq)
 have gx:C nx=some (.cells (eV x) 168):=(dI J mq)
 have gy:C (nx+1)=some (.cells (eV y) 168):=(dI J mq)
 have gf:∀ i,i<nx->C i=m i:=fun i hi=>by
  rw[J]
  repeat (first|exact rfl|refine aC oG ?_)
 clear J AI h8 h9 la mu mc mq ax
 have qg:yk=true\/eh U x y=true->¬ (y∉bY cm/\(x,y)∉U):=fun h=>by
  rintro⟨h1,h2⟩;rcases h with h|h
  .rw[h] at hk;exact h1 (by simpa using hk)
  .unfold eh at h;exact h2 (by simpa using h)
 have b8:(yk=true\/eh U x y=true)->(D.tup []:D)=.tup []/\nx<=nx+3/\(∀ i,i<nx->i≠i11->i≠c->i≠q->C i=m i)/\(if y∉bY cm/\(x,y)∉U then(∃ q',nx<=q'/\qw i8 i9 i11 u c q' C (nx+3) U (cm++[(y,x)]) (op++[y]) 0) else qw i8 i9 i11 u c q C (nx+3) U cm op off):=fun h=>by
  refine⟨rfl,oG,fun i hi _ _ _=>gf i hi,?_⟩;rw[if_neg (qg h)];exact⟨g8,g9,NS,gu,gc,⟨pre,gq,sE⟩,oG,oG,us,cs,ol⟩
 refine ws ?_;cases yk with
 |true=>
  refine aq ?_;(iterate 6 refine z fun _ _=>?_);refine SS ?_;refine af (gT (bS (qP (b8 (.inl rfl)))))
 |false=>
 have ax:=g8;have di:=gx;have gV:=gy;refine aP ?_;refine bt rfl rfl (ep rfl di V.h V.h rfl) (fun hc=>⟨ak,(ez V.h V.h (by first|(simp;done)|omega|exact bE rfl))⟩) ?_;refine bt rfl rfl (ep rfl gV V.h V.h rfl) (fun hc=>⟨ak,(ez V.h V.h (by first|(simp;done)|omega|exact bE rfl))⟩) ?_;refine SS ?_;refine bt rfl rfl (yx (es:=um U) (key:=mU x y) rfl gu rfl wR (B3 Ch x y U)) (fun hc=>⟨(by repeat' (first|exact trivial|exact hc|exact rfl|refine And.intro ?_ ?_)),⟨wS,wQ _ _ (jw hx) (jw hy),yD us⟩⟩) ?_;generalize hu:eh U x y=ux at qg b8;refine ag ?_;cases ux with
 |true=>
  refine af (gT (bS (qP (b8 (.inr rfl)))))
 |false=>
 have I0:y∉bY cm:=by simpa using hk
 have hxu:(x,y)∉U:=by unfold eh at hu;simpa using hu
 clear b8;refine af (gJ (az ?_));have ax:=g9;have di:=gy;have gV:=gx;refine aq ?_;refine cA (HC (es:=lM cm) (key:=p7 y) (v:=.agg (eV x)) rfl gc rfl rfl Ci) cv ⟨Cj,Cg _ (jw hy),G8 cs⟩ ?_;rw[adL I0];refine af (su (l:=[(2,.rp i9 0),(3,.rp i8 0),(4,.rp i11 0),(6,.rp (nx+1) 0)]) ⟨rfl,rfl,rfl,rfl,trivial⟩ fun M X=>gB ?_);have e8:M i8=some (.cells [.mp u] 165):=(dI X g8)
 have e9:M i9=some (.cells [.mp c] 166):=(dI X g9)
 have sZ:M i11=some (.cells [.rs q off op.length] 169):=(dI X NS)
 have eu:M u=some (.map (um U)):=(dI X gu)
 have ec:M c=some (.map (lM (cm++[(y,x)]))):=(dI X gc)
 have eq:M q=some (.cells (pre++p8 op) 168):=(dI X gq)
 have ey:M (nx+1)=some (.cells (eV y) 168):=(dI X gy)
 have ef:∀ i,i<nx->i≠c->M i=m i:=fun i hi hc=>by
  rw[X];refine(aC ?_ rfl).trans (gf i hi);exact hc
 clear X g8 g9 NS gu gc gq gx gy gf ax di gV;have ax:=sZ;have di:=ey;have gV:=eq;have s5:=JV op;refine ag ?_;refine Wp ?_;refine vo (uX (sz:=2) (cs:=pre++p8 op) rfl (aC oG eq) rfl Ij zb (wm (news:=eV y) (up_same _ _ _) rfl) rfl) cv ⟨HW,rfl,(show 0+1*2<=2 by decide),oC,(by rw[List.length_append];omega),(by unfold maxLen;omega),(by rw[Wq];omega),oP⟩ ?_;have ax:up (up (up M (nx+3) (some (.cells (eV y) 168))) q none) (nx+3+1) (some (.cells ((pre++p8 op).drop off++eV y) 168)) i11=some (.cells [.rs q off op.length] 169):=aC oG (aC oG (aC oG sZ));refine cA (fI (d:=.rs _ _ _) (cs':=[_]) rfl rfl ax rfl rfl) ak (du V.h V.h (by first|(simp;done)|exact⟨rfl,bE rfl⟩|(simp;omega)) rfl) ?_;refine af (qP ⟨rfl,oM,fun i hi h1 h2 h3=>?_,?_⟩)
 .dsimp only;exact aC h1 (aC oG (aC h3 (aC oG (ef i hi h2))))
 .rw[if_pos ⟨I0,hxu⟩];refine⟨nx+3+1,oG,⟨(rj e8),(rj e9),?_,(rj eu),(rj ec),⟨[],?_,rfl⟩,oM,oG,us,fun e he=>?_,?_⟩⟩
  .dsimp only;rw[up_same,List.length_append];rfl
  .dsimp only;rw[up_ne _ _ oG,up_same,aaO,List.nil_append, <- sE,List.drop_left]
  .rcases List.mem_append.1 he with g|g
   .exact cs e g
   .simp only[List.mem_singleton] at g;subst g;exact⟨hy,hx⟩
  .rw[List.length_append,List.length_singleton];omega
end Go.Proofs.Tryz.K
namespace Go.Abs
theorem agi{P:Program}{rds:List Nat}{m:Mem}{f:Fn}{xs bs:List D}(h:Sns P rds m xs bs):Sn P rds m (.fn f [] xs) (.fn f [] bs):=fun F β w v hl hv=>by
 cases hv with
 |fn _ _ _ us vs C hv h1 h2=>
  obtain⟨e1,e2⟩:=sns_R hl h;refine .fn f [] bs us vs C oG (fun k d v hd _=>by simp at hd) fun k d u hd C=>?_;have hk:k<xs.length:=by rw[e1];exact(bw.1 hd).1
  exact e2 k xs[k] d (by simp[hk]) hd u (h2 k xs[k] u (by simp[hk]) C)
theorem aeX{id:Nat}{Q:Exit->St->Prop}{s:St}(h:Q .normal s):blockQ id Q (.exit id) s:=by simp only[blockQ,if_true];exact h
theorem acm{P:Program}{env:Env}{m:Mem}{nx i j:Nat}{es:List (Value×D)}{t:TypeId}{l:List (Nat×D)}(hi:m i=some (.map es))(hj:m j=some (.cells [.mp i] t))(C:j≠i)(hl:jN l fun u=>sub (fz0 j [.im es] (P.cellsOf t)) (sub (fm0 i es) (env u))):
 Ghost P ⟨env,m,nx⟩ ⟨aD l,fun _=>none,nx⟩:=by
 refine(Ghost.freezeM env m nx i es hi).trans ((Ghost.freeze _ _ nx j [.im es] t ?_).trans ((Ghost.forget _ _ _ _ (pN hl)).trans (Ghost.drop _ _ _ _ fun _=>.inr rfl)));show(if j=i then none else(m j).map _)=_;rw[if_neg C,hj];simp[Row.sub,sub,sub1,fm0]
theorem aaP{P:Program}{Y:YSpec}{rf:Bool}{b:Code}{Q:Exit->St->Prop}{st:St}{l:Nat}(h:∃ st',Ghost P st st'/\AW P Y rf b Q st'):AW P Y rf (.seq (.label l) b) Q st:=h
theorem aeT{P:Program}{Y:YSpec}[eC Y]{rf:Bool}{Q:Exit->St->Prop}{st:St}{id t i1:Nat}{rc:Array Oper}{body:Code}{α:Type}(S:α->St)(J:α->Prop)(μ:α->Nat)(C:α)(hg:Ghost P st (S C))(M:J C)
 (h:∀ x,J x->AOps P Y rc false [] (gM fun s=>∃ g,opd s.env (.tmp t)=.s (.bool g)/\(g=true->AW P Y rf body (seqQ (sA P S J μ x) (blockQ id Q)) s)/\(g=false->Q .normal s)) rc.toList (S x) []):
 ∃ st',Ghost P st st'/\AW P Y rf (.block id (.loop (.seq (.seq (.region i1 rc false) (.cond (.tmp t) .skip (.exit id))) body))) Q st':=by
 refine BK (Q:=blockQ id Q) S J μ C hg M (fun x hx=>aB (qI (rf:=rf) (id:=i1) (AOps.lC (h x hx) fun s hs=>?_))) (a:=.skip) fun _ h=>h;obtain⟨g,h1,h2,h3⟩:=hs;refine⟨s,.refl s,cx h1 (fun X=>?_) fun xI=>?_⟩
 .exact bP (h2 X)
 .refine jy ?_;simp only[seqQ,blockQ,if_true];exact h3 xI
theorem aeU{P:Program}{env:Env}{m:Mem}{nx i:Nat}{es:List (Value×D)}{key:Value}{kt t C:TypeId}{x y:Operand}(hx:(opd env x).core=.mp i)(hm:m i=some (.map es))(hk:keyV (opd env y).core=some key)(ht:mkeyP P t=kt):
 Ef P (.call { callee:=.builtin .delete,args:= #[x,y],argTypes:= #[t,C] }) env m nx ⟨mapT P t=true/\keyP P kt key=true/\es.all (fun e=>keyP P kt e.1)=true,.tup [],[(i,some (.map (delD key es)))],[i],0⟩:=
 wN («aS»:=[.mp i,(opd env y).core]) rfl (by simp[hx]) (by
  show mapDelD P m t _ _=_
  simp only[mapDelD,hk,hm,ht])
section
variable{P:Program}{f:FuncId}
def EP(d:D):Prop:=∃ F w v,(∀ b,F b->b<w.heap.size)/\R F noRows w d v
theorem Zi{a:D}{cN:D->Prop}(he:enterOk P f=true)(ht:∀ x∈[a],Tr x)(h:EP a->tH P f [a] cN):tH P f [a] cN:=
 ⟨he,ht,fun F w vs hF hR=>by
  have hs:0<vs.size:=by rw[hR.1];exact Nat.one_pos
  exact(h ⟨F,w,vs[0],hF,hR.2 0 a _ rfl (by simp[hs])⟩).2.2 F w vs hF hR⟩
theorem ZQ{a r:D}(hc:PCall P f [a] r)(h:EP a):EP r:=by
 obtain⟨F,w,v,hF,hR⟩:=h
 obtain⟨e,w',_,⟨M,_,J,hk⟩,_⟩:=hc.2.2 F w #[v] hF ⟨rfl,fun k d u hd C=>by
  obtain rfl:k=0:=by
   have:=(bw.1 hd).1;simp at this;omega
  simp at hd C;subst hd C
  exact hR⟩ []
 exact⟨F,w',M,fun b hb=>Nat.lt_of_lt_of_le (hF b hb) (kept_step (β:=noRows) hk).size,J⟩
theorem ZR{args:List D}{cN:D->Prop}(h:tH P f args cN)(M:∀ d d',cN d->cN d'->d=d')(hr:∃ F w vs,(∀ b,F b->b<w.heap.size)/\Rs F noRows w args vs):∃ d,cN d/\PCall P f args d:=by
 obtain⟨F,w,vs,hF,hR⟩:=hr;obtain⟨_,_,_,⟨_,d,hp,_⟩,_⟩:=h.2.2 F w vs hF hR [];refine⟨d,hp,h.1,h.2.1,fun F w vs hF hR=>(h.2.2 F w vs hF hR).mono fun e w' hq=>?_⟩;obtain⟨v,r,J,he,C,hk⟩:=hq;rw[M d r hp J];exact⟨v,he,C,hk⟩
theorem adR{a q:D}(h:EP (.tup [a,q]))(u v:Int):∃ F w vs,(∀ b,F b->b<w.heap.size)/\Rs F noRows w [a,Argus.I u,Argus.I v] vs:=by
 obtain⟨F,w,x,hF,hR⟩:=h;obtain⟨us,rfl,hl,C⟩:=hR.tup_inv;have h0:0<us.length:=by rw[hl];exact Nat.succ_pos _
 refine⟨F,w, #[us[0],.int .i64 u,.int .i64 v],hF,rfl,fun k d y hd hy=>?_⟩;have hk:k<3:=by simpa using(bw.1 hd).1
 match k,hk with
 |0,_=>
  simp at hd hy;subst hd hy;exact C 0 _ _ rfl (by simp[h0])
 |1,_=>simp at hd hy;subst hd hy;exact .s _ rfl
 |2,_=>simp at hd hy;subst hd hy;exact .s _ rfl
end
end Go.Abs
namespace Go.Proofs.Tryz.K
theorem ake{U:List (ay×ay)}(us:∀ e∈U,io e.1/\io e.2){b d:Int}(hb:0<=b/\b<=100000)(hd:0<=d/\d<=100000):PCall prog 131 [I d,.pt [.im (um U)],.pt [I b]] (B (eh U (b,true) (d,false))):=by
 refine bg UQ (.cons (.s _) (.cons (.pt (.cons (Mb U) .nil)) (.cons (.pt (.cons (.s _) .nil)) .nil))) (Tr.s _) ?_;rw[agj];refine ws (SS ?_);refine er (bB ?_);refine aI (GC (es:=um U) (key:=mU (b,true) (d,false)) rfl rfl wR (B3 Ch (b,true) (d,false) U)) cv ⟨wS,wQ _ _ (jw ⟨hb.1,hb.2⟩) (jw ⟨hd.1,hd.2⟩),yD us⟩ (SS ?_);refine af (aY (av rfl rfl))
section
variable{f:aG}{beh ahd:List (List Int)}{c:D}
theorem akd{n:Nat}(jf:n<=10000)(cZ:beh.length=n)(jv:∀ b,∀ t∈aA beh b,0<=t/\t.toNat<n)
 (cR:∀ b,(aA beh b).Nodup) (iQ:∀ b,(aA beh b).length<=100000) {fn C:Nat} (pg:fn<n) (De:C<n) (qx:fn≠C) {U:List (ay×ay)} {m:Mem} {o:Nat} (ho:2<=o) (mu:m 0=some (.map (um U))) (h8:m 1=some (.cells [.mp 0] 165)) (hU:iK (aA beh) fn C 2 U) (us:∀ e∈U,io e.1/\io e.2) (hW:vY (aA beh) (aA ahd) fn C 2 U) (jJ:(C:Int)∉aA beh fn):
 ∃ s',Ghost prog ⟨aD [(0,.pt (bA f beh ahd c)),(1,I fn),(2,I C),(8,.rp 1 0)],m,o⟩ s'/\AW prog noY true  (.seq (.region 43 (Z bJ 43) false) (.seq (.region 44 (Z bJ 44) false) (.seq (.seq (.region 45 (Z bJ 45) false) (.block 11 (.loop (.seq (.region 46 (Z bJ 46) false) (.seq (.cond (.tmp 182) .skip (.exit 11)) (.seq (.block 12 (.seq (.region 47 (Z bJ 47) false) (.seq (.seq (.region 48 (Z bJ 48) false) (.cond (.tmp 196) (.exit 12) .skip)) (.seq (.region 49 (Z bJ 49) false) (.seq (.seq (.region 50 (Z bJ 50) false) (.block 13 (.loop (.seq (.block 14 (.seq (.region 51 (Z bJ 51) false) (.seq (.seq (.region 52 (Z bJ 52) false) (.cond (.tmp 206) (.exit 13) .skip)) (.region 53 (Z bJ 53) true)))) (.seq (.region 54 (Z bJ 54) false) (.region 55 (Z bJ 55) false)))))) (.seq (.region 56 (Z bJ 56) false) (.region 57 (Z bJ 57) false))))))) (.region 58 (Z bJ 58) false))))))) (.seq (.region 59 (Z bJ 59) true) .ret)))) (retQ prog [ResultVar.tmp 6,ResultVar.tmp 7] fun d _=>Wu (aA beh) (aA ahd) fn C d) s':=by
 refine⟨_,acm mu h8 oG (l:=[(0,.pt (bA f beh ahd c)),(1,I fn),(2,I C),(8,.pt [.im (um U)])]) eH,aj ?_⟩;clear mu h8;refine SS ?_;refine er (SS ?_);refine af (aB (az ?_));have pB:=tk (beh:=beh) (b:=fn) oG;have ao:=jv fn;have MR:=cR fn;have jj:=iQ fn;have Mc:=hU.outs (L:=aA beh fn) MR (fun c=>by rw[bN]);generalize hl:aA beh fn=l at pB ao jj MR Mc jJ;refine aJ ?_
 refine af (bR (fun s=>∃ w1 w2 M nx,Ghost prog s ⟨aD [(22,.rp o 0)],M,nx⟩/\M o=some (.cells [au w1,au w2] 174)/\iD U fn C w1/\iD U fn C w2/\w1.getD (w1.length - 1) 0=(C:Int)/\w2.getD (w2.length - 1) 0=(C:Int)/\w1.getD 1 0≠w2.getD 1 0/\CB (aA beh) (aA ahd) fn C (.tup [au w1,au w2])) (dV (α:=Nat×List (List Int)×Mem×Nat)
  (fun s=>⟨aD [(0,.pt (bA f beh ahd c)),(1,I fn),(2,I C),(8,.pt [.im (um U)]),(22,.rp o 0),(23,I s.2.1.length),(179,au l),(180,I l.length),(181,I s.1)],s.2.2.1,s.2.2.2⟩)
  (fun s=>s.1<=l.length/\s.2.1.length<=2/\(∀ w∈s.2.1,iD U fn C w/\w.getD (w.length - 1) 0=(C:Int)/\Az (aA beh) fn C U (w.getD 1 0) w)/\s.2.1.map (fun w=>w.getD 1 0)=(l.take s.1).filter (fun c=>eh U ((fn:Int),true) (c,false))/\s.2.2.1 o=some (.cells (o8 s.2.1) 174)/\o<s.2.2.2) (fun s=>l.length - s.1) (0,[],up (fun _=>none) o (some (.cells [.z,.z] 174)),o+1)
  (ap eH) ⟨Nat.zero_le _,Nat.zero_le _,fun w h=>(by simp at h),rfl,(by dsimp only[o8];exact up_same _ _ _),Nat.lt_succ_self _⟩ ?_) ?_)
 .rintro⟨i,J,M,nx⟩ ⟨hi,xX,ou,xY,hM,mE⟩;dsimp only at hi xX ou xY hM mE ⊢;refine SS ?_;refine af ⟨_,rfl,fun h=>?_,fun h=>?_⟩
  .have fZ:i<l.length:=by simpa using h
   obtain⟨t,ht⟩:∃ t,l[i]? =some t:=⟨_,aN fZ⟩
   have s7:=ao t (bU ht);have vT:=Y4 (fun c=>eh U ((fn:Int),true) (c,false)) ht;have xK:=Y9 (fun c=>eh U ((fn:Int),true) (c,false)) l (i+1);rw[Mc,vT,List.length_append, <- xY,List.length_map] at xK;refine ws (aq ?_);refine af (aB (aj ?_));by_cases h2:J.length=2
   .have eM:decide ((1:Int)<(J.length:Int))=true:=by simp[h2]
    refine aq ?_;(iterate 8 refine z fun _ _=>?_);refine SS ?_;refine af (dN (jy (mR ?_)));show AOps _ _ _ _ _ _ _ _ _;refine ag ?_;refine af (aK (i+1,J,M,nx) (ap eH) ⟨oM,xX,ou,?_,hM,mE⟩ oM);dsimp only;rw[vT,xY];cases hu:eh U ((fn:Int),true) (t,false) with
    |false=>simp
    |true=>rw[hu] at xK;simp at xK;omega
   .have eM:decide ((1:Int)<(J.length:Int))=false:=by simp;omega
    refine aJ ?_;refine bt rfl rfl (GC (es:=um U) (key:=mU ((fn:Int),true) (t,false)) rfl rfl wR (B3 Ch _ _ U)) (fun hc=>⟨(by repeat' (first|exact trivial|exact hc|exact rfl|refine And.intro ?_ ?_)),⟨wS,wQ _ _ (jw ⟨oM,oM⟩) (jw ⟨oM,oM⟩),yD us⟩⟩) ?_;generalize hu:eh U ((fn:Int),true) (t,false)=ux at vT xK;refine ag ?_;cases ux with
    |false=>
     refine af (dN (jy (mR ?_)));show AOps _ _ _ _ _ _ _ _ _;refine ag ?_;refine af (aK (i+1,J,M,nx) (ap eH) ⟨oM,xX,ou,by dsimp only;rw[vT,xY];simp,hM,mE⟩ oM)
    |true=>
     have s8:((((fn:Int),true),(t,false)):ay×ay)∈U:=by unfold eh at hu;simpa using hu
     refine af (gU (bP (az ?_)));have akf:J.length<2:=by omega
     clear xK hu eM;refine aq ?_;refine af (su (l:=[(0,.pt (bA f beh ahd c)),(1,I fn),(2,I C),(8,.pt [.im (um U)]),(22,.rp o 0),(23,I J.length),(179,au l),(180,I l.length),(181,I i),(25,I t),(26,.rs nx 0 1)]) ⟨rfl,rfl,rfl,rfl,rfl,rfl,rfl,rfl,rfl,rfl,rfl,trivial⟩ fun M1 j4=>aB (az ?_));have Oa:M1 nx=some (.cells [I fn] 3):=(dI j4 j4)
     have Ob:M1 o=some (.cells (o8 J) 174):=(dI j4 hM)
     clear j4 hM;refine ag ?_;refine cA (fI (d:=.s (.int _ _)) (cs':=[_]) rfl rfl (up_same _ _ _) rfl rfl) ak (du V.h V.h (by first|(simp;done)|exact⟨rfl,bE rfl⟩|(simp;omega)) rfl) ?_
     refine af (bR (fun s=>∃ w q M nx,Ghost prog s ⟨aD [(0,.pt (bA f beh ahd c)),(1,I fn),(2,I C),(8,.pt [.im (um U)]),(22,.rp o 0),(23,I J.length),(179,au l),(180,I l.length),(181,I i),(26,.rs q 0 w.length)],M,nx⟩/\M q=some (.cells (w.map I) 3)/\q≠o/\M o=some (.cells (o8 J) 174)/\iD U fn C w/\w.getD (w.length - 1) 0=(C:Int)/\w.getD 1 0=t/\o<nx/\q<nx/\Az (aA beh) fn C U t w)
      (BK (Q:=blockQ 13 _) (α:=List Int×Int×Nat×Nat×Mem×Nat) (fun s=>⟨aD [(0,.pt (bA f beh ahd c)),(1,I fn),(2,I C),(8,.pt [.im (um U)]),(22,.rp o 0),(23,I J.length),(179,au l),(180,I l.length),(181,I i),(26,.rs s.2.2.1 0 s.1.length),(27,.rp s.2.2.2.1 0)],s.2.2.2.2.1,s.2.2.2.2.2⟩)
      (fun s=>(∃ k,ot (Cl (aA beh) C U) k ([(fn:Int)],t)=some (s.1,s.2.1))/\iD U fn C (s.1++[s.2.1])/\(s.1++[s.2.1]).getD 1 0=t/\1<=s.1.length/\s.2.2.2.2.1 s.2.2.1=some (.cells (s.1.map I) 3)/\s.2.2.2.2.1 s.2.2.2.1=some (.cells [I s.2.1] 3)/\s.2.2.2.2.1 o=some (.cells (o8 J) 174)/\s.2.2.1≠o/\s.2.2.2.1≠o/\s.2.2.1≠s.2.2.2.1/\s.2.2.1<s.2.2.2.2.2/\s.2.2.2.1<s.2.2.2.2.2/\o<s.2.2.2.2.2)
      (fun s=>n - s.1.length) ([(fn:Int)],t,nx,nx+1,up (up M1 (nx+1) (some (.cells [I 0] 3))) (nx+1) (some (.cells [I t] 3)),nx+2)
      (ap eH) ⟨⟨0,rfl⟩,.two s8,rfl,bF _,(rj Oa),up_same _ _ _,(rj Ob),oM,oM,oM,oM,oM,oM⟩ (fun x hx=>?_) (a:=.skip) fun _ h=>h) ?_)
     .clear Oa Ob;obtain⟨w,b,q,a,M,jg⟩:=x;obtain⟨⟨k0,dT⟩,hF,Di,oq,mq,ma,mo,n1,n2,n3,l1,l2,l3⟩:=hx;dsimp only at dT hF Di oq mq ma mo n1 n2 n3 l1 l2 l3 ⊢;have WC:=hF.rng hU jv (n:=n) ⟨oG,oG⟩;have Oc:=BB (hF.nodup hU oG) WC;have nv:=WC b oS
      have fU:(w++[b]).getD ((w++[b]).length - 1) 0=b:=by
       rw[show(w++[b]).length - 1=w.length by simp];exact Ps
      rw[List.length_append,List.length_singleton] at Oc;obtain⟨X,rfl⟩:=cU nv.1;have pC:X<n:=by have:=nv.2;simpa using this
      refine Pc (fun s=>∃ d M2,Ghost prog s ⟨aD [(0,.pt (bA f beh ahd c)),(1,I fn),(2,I C),(8,.pt [.im (um U)]),(22,.rp o 0),(23,I J.length),(179,au l),(180,I l.length),(181,I i),(26,.rs (jg+1) 0 (w.length+1)),(27,.rp a 0)],M2,jg+2⟩/\((((X:Int),true),(d,false)):ay×ay)∈U/\(X:Int)≠C/\Cl (aA beh) C U (w,(X:Int))=some (w++[(X:Int)],d)/\M2 a=some (.cells [I d] 3)/\M2 (jg+1)=some (.cells ((w++[(X:Int)]).map I) 3)/\M2 o=some (.cells (o8 J) 174)) (az ?_) fun s hs=>?_
      .have ax:=ma;refine aq ?_;refine vo (uX (sz:=1) (cs:=w.map I) rfl (aC oG mq) rfl vV c3 (wm (news:=[I X]) (up_same _ _ _) rfl) rfl) cv ⟨vp,rfl,(show 0+1*1<=1 by decide),oC,(by rw[List.length_map];omega),(by unfold maxLen;omega),(by rw[b3];omega),oP⟩ ?_;refine SS ?_;refine af (su (l:=[(0,.pt (bA f beh ahd c)),(1,I fn),(2,I C),(8,.pt [.im (um U)]),(22,.rp o 0),(23,I J.length),(179,au l),(180,I l.length),(181,I i),(26,.rs (jg+1) 0 (w.length+1)),(27,.rp a 0)]) ⟨rfl,rfl,rfl,rfl,rfl,rfl,rfl,rfl,rfl,rfl,rfl,trivial⟩ fun M2 iq=>aB (aj ?_));have I7:M2 (jg+1)=some (.cells ((w++[(X:Int)]).map I) 3):=(by rw[iq,up_same,List.map_append];rfl)
       have ea:M2 a=some (.cells [I X] 3):=(dI iq ma)
       have eo:M2 o=some (.cells (o8 J) 174):=(dI iq mo)
       clear iq ma mo mq ax;have ax:=ea;by_cases AJ:X=C
       .have dY:((X:Int)==(C:Int))=true:=by simp[AJ]
        refine aq ?_;refine af (dN (jy (Tx oC (Tk (Tk (aeX ⟨w++[(X:Int)],jg+1,M2,jg+2,ap ⟨rfl,rfl,rfl,rfl,rfl,rfl,rfl,rfl,rfl,?_,trivial⟩,I7,oG,eo,hF,by rw[fU,AJ],Di,oG,oG,⟨k0,w,by rw[dT,AJ],by rw[AJ]⟩⟩))))));rw[List.length_append];rfl
       .have dY:((X:Int)==(C:Int))=false:=by simp;omega
        have xq:(X:Int)≠(C:Int):=by omega
        refine aq ?_;refine af (gU (bP (Kk aaT ?_)));have UR:=hF.more hU (by rw[fU];exact xq);rw[fU,bN] at UR;obtain⟨d0,kE,xC⟩:=UR;have akg:=tk (beh:=beh) (b:=X) oG;have vu:=jv X;have akh:=iQ X;generalize Od:aA beh X=lb at akg vu akh xC;obtain⟨k,d,hk,hkd,rQ⟩:=adQ (p:=fun d=>eh U ((X:Int),true) (d,false)) xC (by unfold eh;simpa using kE);have Be:((((X:Int),true),(d,false)):ay×ay)∈U:=by unfold eh at rQ;simpa using rQ
        have aF:Cl (aA beh) C U (w,(X:Int))=some (w++[(X:Int)],d):=by
         unfold Cl;rw[if_neg xq,bN,Od,hk,bN,hkd];rfl
        have AH:=AH (l:=lb) (g:=131) (fs:=[]) (cs:=[.pt [.im (um U)],.pt [I X]]) (p:=fun d=>eh U ((X:Int),true) (d,false)) (.fn oS (.cons (.pt (.cons (Mb U) .nil)) (.cons (.pt (.cons (.s _) .nil)) .nil))) fun x hx=>ake us ⟨oG,oG⟩ (by have:=vu x hx;omega);rw[hk] at AH;have agk:Sns prog [a] M2 [au lb,.fn (.func 131) [] [.pt [.im (um U)],.rp a 0]] [au lb,.fn (.func 131) [] [.pt [.im (um U)],.pt [I X]]]:=⟨c8 (cL _),agi ⟨c8 (.pt (.cons (Mb U) .nil)),Us ea oS rfl (.cons (.s _) .nil),trivial⟩,trivial⟩
        clear hk rQ;refine aJ ?_;refine bB ?_;refine afS AH rfl agk rfl cv (ag ?_);refine cA (fI (d:=.s (.int _ _)) (cs':=[_]) rfl rfl ax rfl rfl) ak (du V.h V.h (by first|(simp;done)|exact⟨rfl,bE rfl⟩|(simp;omega)) rfl) ?_;refine a8 bc ⟨d,_,ap eH,Be,xq,aF,up_same _ _ _,?_,?_⟩
        .exact aC oG I7
        .exact aC oG eo
      .obtain⟨d,M2,gX,Be,xq,aF,ma2,mq2,mo2⟩:=hs;refine⟨_,gX,az ?_⟩;have ax:=ma2;refine SS ?_;refine af (su (l:=[(0,.pt (bA f beh ahd c)),(1,I fn),(2,I C),(8,.pt [.im (um U)]),(22,.rp o 0),(23,I J.length),(179,au l),(180,I l.length),(181,I i),(26,.rs (jg+1) 0 (w.length+1)),(225,I d)]) ⟨rfl,rfl,rfl,rfl,rfl,rfl,rfl,rfl,rfl,rfl,rfl,trivial⟩ fun M4 pE=>qI (rf:=true) (id:=_) ?_);have I7:M4 (jg+1)=_:=pE▸mq2;have eo:M4 o=_:=pE▸mo2;clear pE ax;refine SS ?_;refine cA (fI (d:=.s (.int _ _)) (cs':=[_]) rfl rfl (up_same _ _ _) rfl rfl) ak (du V.h V.h (by first|(simp;done)|exact⟨rfl,bE rfl⟩|(simp;omega)) rfl) ?_;refine af (aK (w++[(X:Int)],d,jg+1,jg+2,up (up M4 (jg+2) (some (.cells [I 0] 3))) (jg+2) (some (.cells [I d] 3)),jg+3) (ap ⟨rfl,rfl,rfl,rfl,rfl,rfl,rfl,rfl,rfl,?_,rfl,trivial⟩) ⟨⟨k0+1,BG dT aF⟩,hF.next (by rw[fU];exact xq) (by rw[fU];exact Be),?_,by dsimp only;rw[List.length_append];omega,?_,up_same _ _ _,?_,oM,oM,oM,oM,oM,oM⟩ (by dsimp only;rw[List.length_append,List.length_singleton];omega))
       .dsimp only;rw[List.length_append];rfl
       .dsimp only;rw[Bv (by rw[List.length_append,List.length_singleton];omega)];exact Di
       .dsimp only;exact(aC oG (aC oG rfl)).trans I7
       .dsimp only;exact(aC oG (aC oG rfl)).trans eo
     .clear Oa Ob;rintro s ⟨w,q,M,nx4,gX,mq,Yc,mo,hF,Nq,Di,l1,l2,hWy⟩
      have Yd:(if o=q then none else(M o).map (Row.sub (fz0 q (w.map I) (prog.cellsOf 3))))=some (.cells (o8 J) 174):=by
       rw[if_neg (Ne.symm Yc),mo];show some (Row.cells ((o8 J).map _) 174)=_;rw[acn]
      refine⟨_,gX.trans (lQ (l:=[(0,.pt (bA f beh ahd c)),(1,I fn),(2,I C),(8,.pt [.im (um U)]),(22,.rp o 0),(23,I J.length),(179,au l),(180,I l.length),(181,I i),(26,au w)]) (ml:=[(o,.cells (o8 J) 174)]) mq ⟨rfl,rfl,rfl,rfl,if_neg (Ne.symm Yc),rfl,rfl,rfl,rfl,?_,trivial⟩ ⟨Yd,trivial⟩),aj ?_⟩
      .show(if q=q then D.sl (((w.map I).drop 0).take (w.length*prog.cellsOf 3)) w.length else _)=_;rw[if_pos rfl,c3,List.drop_zero,Nat.mul_one,df oS]
      .have qy:bf [(o,.cells (o8 J) 174)] o=some (.cells (o8 J) 174):=by simp[bf]
       generalize bf [(o,Row.cells (o8 J) 174)]=M3 at qy;clear mq mo Yd gX
       have WD:∀ x∈J++[w],iD U fn C x/\x.getD (x.length - 1) 0=(C:Int)/\Az (aA beh) fn C U (x.getD 1 0) x:=fun x hx=>by
        rcases List.mem_append.1 hx with g|g
        .exact ou x g
        .simp only[List.mem_singleton] at g;subst g;exact⟨hF,Nq,by rw[Di];exact hWy⟩
       have WE:(J++[w]).map (fun w=>w.getD 1 0)=(l.take (i+1)).filter (fun c=>eh U ((fn:Int),true) (c,false)):=by
        rw[vT,List.map_append,xY,if_pos rfl];show _++[w.getD 1 0]=_;rw[Di]
       have ax:=qy;rcases J with _|⟨a,_|⟨b,J⟩⟩
       .have ax:M3 o=some (.cells [.z,.z] 174):=qy;refine aq ?_;refine cA (fI (d:=.sl _ _) (cs':=_) rfl rfl ax rfl rfl) ak (du V.h V.h (by first|(simp;done)|exact⟨rfl,bE rfl⟩|(simp;omega)) rfl) ?_;refine af (gB (aq ?_));refine af ?_;show AOps _ _ _ _ _ _ _ _ _;refine ag ?_;refine af (aK (i+1,[w],_,_) (ap eH) ⟨oM,(show _<=2 from by simp),WD,WE,up_same _ _ _,oM⟩ oM)
       .have ax:M3 o=some (.cells [au a,.z] 174):=qy;refine aq ?_;refine cA (fI (d:=.sl _ _) (cs':=_) rfl rfl ax rfl rfl) ak (du V.h V.h (by first|(simp;done)|exact⟨rfl,bE rfl⟩|(simp;omega)) rfl) ?_;refine af (gB (aq ?_));refine af ?_;show AOps _ _ _ _ _ _ _ _ _;refine ag ?_;refine af (aK (i+1,[a,w],_,_) (ap eH) ⟨oM,(show _<=2 from by simp),WD,WE,up_same _ _ _,oM⟩ oM)
       .simp at akf;omega
  .have a9:¬ i<l.length:=by simpa using h
   rw[df oG] at xY;have Oc:J.length=2:=by rw[<- Mc, <- xY,List.length_map]
   obtain⟨w1,w2,rfl⟩:∃ a b,J=[a,b]:=by
    match J,Oc with
    |[a,b],_=>exact⟨a,b,rfl⟩
   have Oe:=MR.filter (fun c=>eh U ((fn:Int),true) (c,false));rw[<- xY] at Oe;refine⟨w1,w2,M,nx,ap eH,hM,(ou w1 oS).1,(ou w2 oS).1,(ou w1 oS).2.1,(ou w2 oS).2.1,fun e=>?_,.inr ⟨by rw[bN,hl];exact jJ,U,w1,w2,hW,by rw[bN,hl];exact xY,fun w hw=>(ou w hw).2.2,rfl⟩⟩;simp at Oe;exact Oe (by simpa using e)
 .rintro s ⟨w1,w2,M,nx,gX,hM,f1,f2,e1,e2,aE,NU⟩;refine⟨_,gX,dF aaU ?_⟩;have ax:=hM;refine bB ?_;refine a8 bc (aY (fk rfl rfl ⟨⟨w1,w2,rfl,f1.Ye hU oG e1,f2.Ye hU oG e2,f1.apart hU f2 aE⟩,NU⟩))
end
section
variable{f:aG}{beh ahd:List (List Int)}{c:D}(hc:Tr c)
include hc
theorem I2{n:Nat}(jf:n<=10000)(cZ:beh.length=n)(mB:ahd.length=n)(jv:∀ b,∀ t∈aA beh b,0<=t/\t.toNat<n)(Wt:∀ (c:Nat) (a:Int),a∈aA ahd c↔0<=a/\a.toNat<n/\(c:Int)∈aA beh a.toNat)
 (cR:∀ b,(aA beh b).Nodup) (iQ:∀ b,(aA beh b).length<=100000) (A':∀ b,(aA ahd b).length<=100000) {fn J:Nat} (pg:fn<n) (De:J<n) (qx:fn≠J) (hR:∀ w,w≠(fn:Int)->w≠(J:Int)->Rf (aA beh) fn w J):
 tH prog 62 [.pt (bA f beh ahd c),I fn,I J] (Wu (aA beh) (aA ahd) fn J):=by
 have a7:∀ x∈[D.pt (bA f beh ahd c),I fn,I J],Tr x:=.cons (Ab hc) (.cons (.s _) (.cons (.s _) .nil));refine NT Wv a7 (fun d h=>aeV d h.1) ?_;rw[aj5];have pB:=tk (beh:=beh) (b:=fn) oG;have k8:=k8 (l:=aA beh fn) (v:=(J:Int));have jq:=tg (l:=aA beh fn) (x:=(J:Int));generalize hq:eQ (aA beh fn) J=q at k8 jq;refine ws (ag ?_);refine af (aB (aj (bK ?_)));refine cl k8 ?_;cases q with
 |true=>
  have Ww:=adM (beh:=aA beh) (fr:=(fn:Int)) (to:=(J:Int)) oG (by simpa using jq.1 rfl);have NU:CB (aA beh) (aA ahd) fn J (.tup [au [(fn:Int),(J:Int)],au [(fn:Int),(J:Int)]]):=.inl ⟨by simpa using jq.1 rfl,rfl⟩;refine af (dN (aB (az (bK ?_))));refine af (aW (bG [(0,[I fn,I J],3),(1,[I fn,I J],3)] eH (l:=[(6,au [(fn:Int),(J:Int)]),(7,au [(fn:Int),(J:Int)])]) eH) (bX (fk rfl rfl ⟨⟨_,_,rfl,Ww,Ww,fun i h0 hi=>?_⟩,NU⟩)));simp at hi;omega
 |false=>
 have jJ:(J:Int)∉aA beh fn:=fun h=>by
  have:=jq.2 h;cases this
 clear jq hq k8;refine af (gU (bP (aj (ag ?_))));refine cA (fI (d:=.mp _) (cs':=[_]) rfl rfl rfl rfl rfl) ak (du V.h V.h (by first|(simp;done)|exact⟨rfl,bE rfl⟩|(simp;omega)) rfl) ?_;refine af (aB (az ?_))
 have E5:∀ b,n<=b->aA beh b=[]:=fun b hb=>by
  unfold aA;rw[bl,List.getElem?_eq_none oG];rfl
 have agh:∀ b,∀ t∈aA beh b,io (t,false)/\io (t,true):=fun b t ht=>by
  have:=jv b t ht;exact⟨⟨this.1,oM⟩,⟨this.1,oM⟩⟩
 refine SS ?_
 refine af (bR (fun s=>∃ U m nx,Ghost prog s ⟨aD [(0,.pt (bA f beh ahd c)),(1,I fn),(2,I J),(8,.rp 1 0)],m,nx⟩/\2<=nx/\m 0=some (.map (um U))/\m 1=some (.cells [.mp 0] 165)/\iK (aA beh) fn J 2 U/\(∀ e∈U,io e.1/\io e.2)/\N2 U/\vY (aA beh) (aA ahd) fn J 2 U) (dV (α:=Nat×List (ay×ay)×Mem×Nat)
  (fun s=>⟨aD [(0,.pt (bA f beh ahd c)),(1,I fn),(2,I J),(8,.rp 1 0),(44,I s.1)],s.2.2.1,s.2.2.2⟩)
  (fun s=>s.1<=2/\2<=s.2.2.2/\s.2.2.1 0=some (.map (um s.2.1))/\s.2.2.1 1=some (.cells [.mp 0] 165)/\iK (aA beh) fn J s.1 s.2.1/\(∀ e∈s.2.1,io e.1/\io e.2)/\N2 s.2.1/\vY (aA beh) (aA ahd) fn J s.1 s.2.1) (fun s=>2 - s.1) (0,[],_,2)
  (ap eH) ⟨Nat.zero_le _,bF _,rfl,rfl,iK.nil,fun e h=>(by simp at h),fun x y h=>(by simp at h),.zero⟩ ?_) ?_)
 .rintro⟨r,U,m,nx⟩ ⟨hr,fO,mu,h8,hU,us,Df,FT⟩;dsimp only at hr fO mu h8 hU us Df FT ⊢;refine SS ?_;refine af ⟨_,rfl,fun h=>?_,fun h=>?_⟩
  .have FU:r<2:=by
    have:(r:Int)<2:=by simpa using h
    omega
   show AW _ _ _ _ (scopeQ _) _;refine ws (ag ?_);refine cA (fI (d:=.mp _) (cs':=[_]) rfl rfl (up_same _ _ _) rfl rfl) ak (du V.h V.h (by first|(simp;done)|exact⟨rfl,bE rfl⟩|(simp;omega)) rfl) ?_;refine er (aP ?_);refine af (az ?_);have NV:io ((fn:Int),true):=⟨oM,oM⟩
   refine aI (gQ rfl (aC oG (aC oG (up_same _ _ _))) rfl V.h) ak (gR V.h V.h rfl) (ag ?_);refine cA (HC (es:=[]) (key:=p7 ((fn:Int),true)) (v:=.agg (eV ((fn:Int),true))) rfl (aC oG (aC oG (aC oG (aC oG (up_same _ _ _))))) rfl rfl Ci) cv ⟨Cj,Cg _ (jw NV),rfl⟩ (af (su (l:=[(0,.pt (bA f beh ahd c)),(1,I fn),(2,I J),(8,.rp 1 0),(44,I r),(9,.rp (nx+1) 0),(10,.rp (nx+2) 0)]) ⟨rfl,rfl,rfl,rfl,rfl,rfl,rfl,trivial⟩ fun M1 j4=>aj ?_));have f0:M1 0=some (.map (um U)):=(dI j4 mu)
   have f1:M1 1=some (.cells [.mp 0] 165):=(dI j4 h8)
   have fc:M1 nx=some (.map (lM [(((fn:Int),true),((fn:Int),true))])):=(dI j4 h8)
   have f9:M1 (nx+1)=some (.cells [.mp nx] 166):=(dI j4 h8)
   have f10:M1 (nx+2)=some (.cells (eV ((fn:Int),true)) 168):=(dI j4 h8)
   clear j4 mu h8;have ax:=f10;refine SS ?_;refine Wp ?_;refine SS ?_;refine cA (fI (d:=.rs _ _ _) (cs':=[_]) rfl rfl (up_same _ _ _) rfl rfl) ak (du V.h V.h (by first|(simp;done)|exact⟨rfl,bE rfl⟩|(simp;omega)) rfl) ?_;refine af (az (ag ?_));refine af (su (l:=[(0,.pt (bA f beh ahd c)),(1,I fn),(2,I J),(8,.rp 1 0),(44,I r),(9,.rp (nx+1) 0),(10,.rp (nx+2) 0),(11,.rp (nx+4) 0),(12,.fn (.func 129) [] [.rp (nx+1) 0,.rp 1 0,.rp (nx+4) 0])]) ⟨rfl,rfl,rfl,rfl,rfl,rfl,rfl,rfl,rfl,trivial⟩ fun M2 iq=>aaP ?_)
   have NW:qw 1 (nx+1) (nx+4) 0 nx (nx+3) M2 (nx+5) U [(((fn:Int),true),((fn:Int),true))] [((fn:Int),true)] 0:=by
    refine⟨(dI iq f1),(dI iq f9),(dI iq f9),(dI iq f0),(dI iq fc),⟨[],(dI iq f9),rfl⟩,oG,oG,us,fun e he=>?_,oS⟩;simp only[List.mem_singleton] at he;subst he;exact⟨NV,NV⟩
   have Dg:M2 (nx+2)=some (.cells (eV ((fn:Int),true)) 168):=(dI iq f10)
   clear iq f0 f1 fc f9 f10 ax;have NX:SR (aA beh) fn J U [(((fn:Int),true),((fn:Int),true))] [((fn:Int),true)]:=SR.init;have hr2:((r:Nat):Int)<=1:=by omega
   have FV:∀ e∈U,0<=e.1.1/\0<=e.2.1:=fun e he=>⟨(us e he).1.1,(us e he).2.1⟩
   have hK0:∀ k∈bY [(((fn:Int),true),((fn:Int),true))],wT n fn J k:=fun k hk=>by
    simp only[bY,List.map_cons,List.map_nil,List.mem_singleton] at hk;subst hk;exact⟨oM,oM,(fun h=>by cases h),fun _=>by dsimp only;omega⟩
   refine bR (fun s=>∃ cm op m nx',Ghost prog s ⟨aD [(0,.pt (bA f beh ahd c)),(1,I fn),(2,I J),(8,.rp 1 0),(44,I r),(9,.rp (nx+1) 0),(10,.rp (nx+2) 0)],m,nx'⟩/\m 0=some (.map (um U))/\m 1=some (.cells [.mp 0] 165)/\m nx=some (.map (lM cm))/\m (nx+1)=some (.cells [.mp nx] 166)/\(∀ e∈cm,io e.1/\io e.2)/\SR (aA beh) fn J U cm op/\m (nx+2)=some (.cells (eV ((fn:Int),true)) 168)/\((J:Int),false)∈bY cm/\nx+5<=nx'/\Ew (aA beh) (aA ahd) fn J U cm) (yC (α:=List (ay×ay)×List ay×Nat×Nat×Mem×Nat)
    (fun s=>⟨aD [(0,.pt (bA f beh ahd c)),(1,I fn),(2,I J),(8,.rp 1 0),(44,I r),(9,.rp (nx+1) 0),(10,.rp (nx+2) 0),(11,.rp (nx+4) 0),(12,.fn (.func 129) [] [.rp (nx+1) 0,.rp 1 0,.rp (nx+4) 0])],s.2.2.2.2.1,s.2.2.2.2.2⟩)
    (fun s=>qw 1 (nx+1) (nx+4) 0 nx s.2.2.1 s.2.2.2.2.1 s.2.2.2.2.2 U s.1 s.2.1 s.2.2.2.1/\SR (aA beh) fn J U s.1 s.2.1/\s.2.2.2.2.1 (nx+2)=some (.cells (eV ((fn:Int),true)) 168)/\nx+5<=s.2.2.2.2.2/\s.2.2.1≠nx+2/\s.2.1.length<=s.1.length/\(∀ k∈bY s.1,wT n fn J k)/\∃ k,ot (EO (aA beh) (aA ahd) fn J U) k ([(((fn:Int),true),((fn:Int),true))],[((fn:Int),true)])=some (s.1,s.2.1)) (fun s=>2*(2*n - s.1.length)+s.2.1.length) ([(((fn:Int),true),((fn:Int),true))],[((fn:Int),true)],nx+3,0,M2,nx+5)
    (ap eH) ⟨NW,NX,Dg,bF _,oM,bF _,hK0,0,rfl⟩ ?_) ?_
   .clear NW NX Dg;rintro⟨cm,op,q,off,m,nx'⟩ ⟨hM,hS,vr,Wx,X9,Wy,hK,k0,dT⟩;dsimp only at hM hS vr Wx X9 Wy hK dT ⊢;have⟨h8,h9,la,mu,mc,⟨pre,mq,sE⟩,⟨l8,l9,l11,lu,lc,lq⟩,⟨n1,n2,n3,n4,n5,n6,n7,n8,n9,n10,n11,n12,n13,n14,n15⟩,us,cs,ol⟩:=hM;have ax:=la;have di:=mq;cases op with
    |nil=>
     exfalso;exact hS.full hU hr2 oG (by simpa using jJ) hR ⟨-1,oG,oG⟩
    |cons x op=>
     have eM:decide ((0:Int)<(((x::op).length:Nat):Int))=true:=decide_eq_true (by rw[List.length_cons];omega);refine SS ?_;refine aI (BZ rfl di) ak V.h (SS ?_);refine af ⟨_,rfl,fun _=>ws ?_,fun h=>oH⟩
     have Ck:((pre++p8 (x::op)).drop (off+(0:Int).toNat*2)).take 2=eV x:=by
      rw[show off+(0:Int).toNat*2=pre.length by rw[sE];rfl,List.drop_left];rfl
     have iO:(pre++p8 (x::op)).length=off+2*(op.length+1):=by rw[List.length_append,JV,sE];rfl
     refine SS ?_;refine aI (HB rfl rfl mq Ij zb) cv ⟨HW,oG,by rw[List.length_cons];omega⟩ (aI (ep (vs:=eV x) rfl mq Wz zb Ck) cv (ez t168 zb (by rw[iO];simp;omega)) ?_);refine ag ?_;refine af (az (aI (gQ rfl (aC oG (aC oG ax)) rfl V.h) ak (gR V.h V.h rfl) (aI (Kc (a:=1) (b:=((op.length+1:Nat):Int)) rfl (aC oG (aC oG mq)) Ij zb rfl rfl) cv ⟨⟨HW,rfl⟩,oG,oG,by rw[List.length_cons];omega⟩ (SS ?_))));refine af (su (l:=[(0,.pt (bA f beh ahd c)),(1,I fn),(2,I J),(8,.rp 1 0),(44,I r),(9,.rp (nx+1) 0),(10,.rp (nx+2) 0),(11,.rp (nx+4) 0),(12,.fn (.func 129) [] [.rp (nx+1) 0,.rp 1 0,.rp (nx+4) 0]),(13,.rp nx' 0)]) ⟨rfl,rfl,rfl,rfl,rfl,rfl,rfl,rfl,rfl,rfl,trivial⟩ fun M3 qy=>?_)
     have FW:qw 1 (nx+1) (nx+4) 0 nx q M3 (nx'+1) U cm op (off+2):=by
      refine⟨(dI qy h8),(dI qy h9),?_,(dI qy mu),(dI qy mc),⟨pre++eV x,?_,by rw[List.length_append,sE];rfl⟩,oG,oG,us,cs,by simp at ol;omega⟩
      .rw[qy,up_same,show(((op.length+1:Nat):Int) - 1).toNat=op.length by omega];rfl
      .rw[show pre++eV x++p8 op=pre++p8 (x::op) by rw[List.append_assoc];rfl];exact(dI qy mq)
     have NY:M3 nx'=some (.cells (eV x) 168):=(dI qy mq)
     have Dg:M3 (nx+2)=some (.cells (eV ((fn:Int),true)) 168):=(dI qy vr)
     clear qy h8 h9 la mu mc mq ax di vr Ck iO eM hM sE ol;have mD:=hS.I1 x oS;have ir:=hK x mD;have cJ:=B5 hS hK;obtain⟨xb,xl⟩:=x;obtain⟨C,rfl⟩:=cU ir.1;have pC:C<n:=by have:=ir.2.1;simpa using this
     refine oL (aj ?_);have ax:=NY;have aj6:q<nx':=by omega
     have aoJ:nx+5<=nx':=Wx;have M:SI (aA beh) fn J n nx nx' U cm op ((C:Int),xl) cm op q (off+2) M3 (nx'+1):=⟨FW,hS,hK,rfl,bF _,NY,Dg,oG,X9,oG⟩
     have aoy:op.length<cm.length:=by rw[List.length_cons] at Wy;omega
     clear FW ax NY Dg;have ax:=M.ra;cases xl with
     |true=>
      refine aO ?_;refine WA ?_;refine aP ?_;refine af (aw rfl (fun h=>(by revert h;simp)) fun _=>aj ?_);refine aq ?_;refine af (gJ (aB (pK aaQ ?_)));have pB:=tk (beh:=beh) (b:=C) oG;have ao:=jv C;have jj:=iQ C;generalize hl:aA beh C=l at pB ao jj;refine bK ?_;refine ag ?_
      refine a8 bc (bR (fun s=>∃ fR jh q2 vt m2 cI,Ghost prog s ⟨aD [(0,.pt (bA f beh ahd c)),(1,I fn),(2,I J),(8,.rp 1 0),(44,I r),(9,.rp (nx+1) 0),(10,.rp (nx+2) 0),(11,.rp (nx+4) 0),(12,.fn (.func 129) [] [.rp (nx+1) 0,.rp 1 0,.rp (nx+4) 0]),(13,.rp nx' 0)],m2,cI⟩/\SI (aA beh) fn J n nx nx' U cm op ((C:Int),true) fR jh q2 vt m2 cI/\(∀ t∈l,t≠(fn:Int)->((((C:Int),true),(t,false)):ay×ay)∉U->(t,false)∈bY fR)/\(fR,jh)=zL fn U C l (cm,op)) (dV (α:=Nat×List (ay×ay)×List ay×Nat×Nat×Mem×Nat)
       (fun s=>⟨aD [(0,.pt (bA f beh ahd c)),(1,I fn),(2,I J),(8,.rp 1 0),(44,I r),(9,.rp (nx+1) 0),(10,.rp (nx+2) 0),(11,.rp (nx+4) 0),(12,.fn (.func 129) [] [.rp (nx+1) 0,.rp 1 0,.rp (nx+4) 0]),(13,.rp nx' 0),(114,au l),(115,I l.length),(116,I s.1)],s.2.2.2.2.2.1,s.2.2.2.2.2.2⟩)
       (fun s=>s.1<=l.length/\SI (aA beh) fn J n nx nx' U cm op ((C:Int),true) s.2.1 s.2.2.1 s.2.2.2.1 s.2.2.2.2.1 s.2.2.2.2.2.1 s.2.2.2.2.2.2/\(∀ j t,j<s.1->l[j]? =some t->t≠(fn:Int)->((((C:Int),true),(t,false)):ay×ay)∉U->(t,false)∈bY s.2.1)/\(s.2.1,s.2.2.1)=zL fn U C (l.take s.1) (cm,op)) (fun s=>l.length - s.1) (0,cm,op,q,off+2,M3,nx'+1)
       (ap eH) ⟨Nat.zero_le _,M,fun j t h=>absurd h (Nat.not_lt_zero _),rfl⟩ ?_) ?_)
      .clear M ax;rintro⟨i,fR,jh,q2,vt,m2,cI⟩ ⟨hi,M,bm,hex⟩;dsimp only at hi M bm hex ⊢;refine SS ?_;refine af ⟨_,rfl,fun h=>?_,fun h=>?_⟩
       .have fZ:i<l.length:=by simpa using h
        obtain⟨t,ht⟩:∃ t,l[i]? =some t:=⟨_,aN fZ⟩
        have s7:=ao t (bU ht);refine ws (aq ?_);refine er ?_;by_cases Dh:t=(fn:Int)
        .have dv:(t !=(fn:Int))=false:=by simp[Dh]
         refine aq ?_;refine af (gT (bS (ag ?_)));refine af (aK (i+1,fR,jh,q2,vt,m2,cI) (ap eH) ⟨oM,M,fun j s hj hs aE b8=>?_,by dsimp only;rw[Q5 ht,if_pos Dh];exact hex⟩ oM);by_cases e:j=i
         .subst e;rw[ht] at hs;cases hs;exact absurd Dh aE
         .exact bm j s (by dsimp only at hj;omega) hs aE b8
        .have dv:(t !=(fn:Int))=true:=by simp[Dh]
         refine aq ?_;refine af (gJ (fh ?_));have ax:=M.ra;refine aP ?_;have aoK:=B5 M.sr M.ky;have aoL:=M.le;refine kO (Ii (x:=((C:Int),true)) (y:=(t,false)) M.nm ⟨oM,oM⟩ (agh C t (by rw[hl];exact bU ht)).1 oG) rfl cv fun d m' jg hp=>?_;obtain⟨rfl,zc,j0,yX⟩:=hp;obtain⟨pD,s6,q3,tZ,mi,zM,yY,uB⟩:=M.next jv E5 FV hU.ed (fun hn=>.inl ⟨.out (by rw[bN,hl];exact bU ht) Dh (ir.2.2.2 rfl),hn⟩) zc j0 yX
         refine af (ag ?_);refine af (aK (i+1,pD,s6,q3,tZ,m',jg) (ap eH) ⟨oM,mi,fun j s hj hs aE b8=>?_,by dsimp only;rw[Q5 ht,if_neg Dh, <- hex];exact uB⟩ oM);by_cases e:j=i
         .subst e;rw[ht] at hs;cases hs;exact zM b8
         .exact yY _ (bm j s (by dsimp only at hj;omega) hs aE b8)
       .have a9:¬ i<l.length:=by simpa using h
        refine⟨fR,jh,q2,vt,m2,cI,ap eH,M,fun t ht aE b8=>?_,by rw[df oG] at hex;exact hex⟩;obtain⟨j,hj⟩:=cC ht;exact bm j t (by have:=(bw.1 hj).1;omega) hj aE b8
      .clear M ax;rintro s ⟨fR,jh,q2,vt,m2,cI,gX,Ik,bD,hex⟩
       have aF:EO (aA beh) (aA ahd) fn J U (cm,((C:Int),true)::op)=some (if(C:Int)≠(fn:Int)/\eh U ((C:Int),false) ((C:Int),true)=true then rP U ((C:Int),true) (fR,jh) ((C:Int),false) else(fR,jh)):=by
        rw[hex, <- hl];rfl
       refine⟨_,gX,az ?_⟩;have ax:=Ik.ra;refine aO ?_;refine af (su (l:=[(0,.pt (bA f beh ahd c)),(1,I fn),(2,I J),(8,.rp 1 0),(44,I r),(9,.rp (nx+1) 0),(10,.rp (nx+2) 0),(11,.rp (nx+4) 0),(12,.fn (.func 129) [] [.rp (nx+1) 0,.rp 1 0,.rp (nx+4) 0]),(13,.rp nx' 0),(16,.rp cI 0)]) ⟨rfl,rfl,rfl,rfl,rfl,rfl,rfl,rfl,rfl,rfl,rfl,trivial⟩ fun M4 pE=>aj ?_);have aj7:=Ik.lo;have X:=Ik.ext (m':=M4) (nx':=cI+1) (fun i hi=>(dI pE pE)) oG;have NZ:M4 cI=some (.cells (eV ((C:Int),false)) 168):=(dI pE pE)
       clear pE Ik ax;have ax:=X.ra;have di:=NZ;have gV:=X.nm.h8;have I3:=B5 X.sr X.ky;have I4:=X.le;have N5:=X.ge;have N6:=X.lo
       have Ma:∀ t∈aA beh (((C:Nat):Int)).toNat,t≠(fn:Int)->((((C:Int),true),(t,false)):ay×ay)∉U->(t,false)∈bY fR:=by
        rw[bN,hl];exact bD
       by_cases uC:C=fn
       .have dv:((C:Int) !=(fn:Int))=false:=by simp[uC]
        have cJ:=JA hU.ed (K:=fun y=>y∈bY fR) Ma (fun h=>absurd (by rw[uC]) h);refine aO ?_;(iterate 5 refine z fun _ _=>?_);refine SS ?_;refine af (gT (bS (aK (fR,jh,q2,vt,M4,cI+1) (ap eH) ⟨X.nm,X.sr.pop oS cJ,X.rs,oM,X.qn.1,oM,X.ky,k0+1,BG dT (by rw[aF,if_neg (fun h=>h.1 (by rw[uC]))])⟩ (by dsimp only;rw[List.length_cons];omega))))
       .have dv:((C:Int) !=(fn:Int))=true:=by simp;omega
        refine aO ?_;refine bt rfl rfl (gQ rfl gV rfl V.h) (fun hc=>⟨ak,(gR V.h V.h rfl)⟩) (bt rfl rfl (ep rfl di V.h V.h rfl) (fun hc=>⟨ak,(ez V.h V.h (by first|(simp;done)|omega|exact bE rfl))⟩) ?_);refine bt rfl rfl (ep rfl ax V.h V.h rfl) (fun hc=>⟨ak,(ez V.h V.h (by first|(simp;done)|omega|exact bE rfl))⟩) ?_;refine SS ?_;refine bt rfl rfl (yx (es:=um U) (key:=mU ((C:Int),false) ((C:Int),true)) rfl X.nm.mu rfl wR (B3 Ch _ _ U)) (fun hc=>⟨(by repeat' (first|exact trivial|exact hc|exact rfl|refine And.intro ?_ ?_)),⟨wS,wQ _ _ (jw ⟨oM,oM⟩) (jw ⟨oM,oM⟩),yD us⟩⟩) ?_;generalize hu:eh U ((C:Int),false) ((C:Int),true)=ux;refine SS ?_;cases ux with
        |false=>
         have N7:((((C:Int),false),((C:Int),true)):ay×ay)∉U:=by unfold eh at hu;simpa using hu
         have cJ:=JA hU.ed (K:=fun y=>y∈bY fR) Ma (fun _ h=>absurd h N7);refine af (gT (bS (aK (fR,jh,q2,vt,M4,cI+1) (ap eH) ⟨X.nm,X.sr.pop oS cJ,X.rs,oM,X.qn.1,oM,X.ky,k0+1,BG dT (by rw[aF,if_neg (fun h=>by rw[hu] at h;cases h.2)])⟩ (by dsimp only;rw[List.length_cons];omega))))
        |true=>
         have s8:((((C:Int),false),((C:Int),true)):ay×ay)∈U:=by unfold eh at hu;simpa using hu
         have b8:=Df _ _ s8;refine af (gJ (gB (aq ?_)));refine kO (Ii (x:=((C:Int),true)) (y:=((C:Int),false)) X.nm ⟨oM,oM⟩ ⟨oM,oM⟩ oG) rfl cv fun d m' jg hp=>?_;obtain⟨rfl,zc,j0,yX⟩:=hp;obtain⟨pD,s6,q3,tZ,mi,zM,yY,uB⟩:=X.next jv E5 FV hU.ed (fun _=>.inr s8) zc j0 yX
         have cJ:=JA hU.ed (K:=fun y=>y∈bY pD) (fun t ht h1 h2=>yY _ (Ma t ht h1 h2)) (fun _ _=>zM b8);clear I3 I4 N5 N6;have I3:=B5 mi.sr mi.ky;have I4:=mi.le;have N5:=mi.ge;have N6:=mi.lo;refine af (aK (pD,s6,q3,tZ,m',jg) (ap eH) ⟨mi.nm,mi.sr.pop oS cJ,mi.rs,oM,mi.qn.1,oM,mi.ky,k0+1,BG dT (by rw[aF,if_pos ⟨oG,hu⟩, <- uB])⟩ (by dsimp only;rw[List.length_cons];omega))
     |false=>
      by_cases AJ:C=J
      .have dY:((C:Int)==(J:Int))=true:=by simp[AJ]
       refine aO ?_;refine WA ?_;refine aP ?_;refine af (gJ (aeK (Tx oC (ady oC ⟨cm,_,M3,nx'+1,ap eH,M.nm.mu,M.nm.h8,M.nm.mc,M.nm.h9,M.nm.cs,hS,M.rs,?_,oG,k0,_,dT,?_⟩))))
       .rw[<- AJ];exact mD
       .show(if(C:Int)=(J:Int) then none else _)=none;rw[if_pos oG]
      .have dY:((C:Int)==(J:Int))=false:=by simp;omega
       have aj8:(C:Int)≠(fn:Int):=ir.2.2.1 rfl;have xq:(C:Int)≠(J:Int):=by omega
       refine aO ?_;(iterate 3 refine z fun _ _=>?_);refine ag ?_;refine af (aw rfl (fun h=>(by revert h;simp)) fun _=>aj ?_);refine aq ?_;refine af (gT (aj (aO ?_)));refine kO (Ii (x:=((C:Int),false)) (y:=((C:Int),true)) M.nm ⟨oM,oM⟩ ⟨oM,oM⟩ oG) rfl cv fun d m' jg hp=>?_;obtain⟨rfl,zc,j0,yX⟩:=hp;obtain⟨pD,s6,q3,tZ,mi,zM,yY,uB⟩:=M.next jv E5 FV hU.ed (fun hn=>.inl ⟨.Bd aj8 xq,hn⟩) zc j0 yX
       clear M ax j0 yX cJ zc aj6;refine af (pK aaR ?_);have pB:=tk (beh:=ahd) (b:=C) oG
       have ao:∀ t∈aA ahd C,0<=t/\t.toNat<n:=fun t ht=>by
        have:=(Wt C t).1 ht;exact⟨this.1,this.2.1⟩
       have jj:=A' C
       have bm:∀ a:Int,0<=a->(C:Int)∈aA beh a.toNat->a∈aA ahd C:=fun a h0 hm=>by
        refine(Wt C a).2 ⟨h0,Nat.lt_of_not_le fun h=>?_,hm⟩;rw[E5 _ h] at hm;cases hm
       generalize hl:aA ahd C=l at pB ao jj bm;have ax:=mi.ra;refine bK ?_;refine ag ?_
       refine a8 bc (dV (α:=Nat×List (ay×ay)×List ay×Nat×Nat×Mem×Nat)
        (fun s=>⟨aD [(0,.pt (bA f beh ahd c)),(1,I fn),(2,I J),(8,.rp 1 0),(44,I r),(9,.rp (nx+1) 0),(10,.rp (nx+2) 0),(11,.rp (nx+4) 0),(12,.fn (.func 129) [] [.rp (nx+1) 0,.rp 1 0,.rp (nx+4) 0]),(13,.rp nx' 0),(76,au l),(77,I l.length),(78,I s.1)],s.2.2.2.2.2.1,s.2.2.2.2.2.2⟩)
        (fun s=>s.1<=l.length/\SI (aA beh) fn J n nx nx' U cm op ((C:Int),false) s.2.1 s.2.2.1 s.2.2.2.1 s.2.2.2.2.1 s.2.2.2.2.2.1 s.2.2.2.2.2.2/\(((((C:Int),false),((C:Int),true)):ay×ay)∉U->(((C:Int),true):ay)∈bY s.2.1)/\(∀ j t,j<s.1->l[j]? =some t->(((t,true),((C:Int),false)):ay×ay)∈U->(t,true)∈bY s.2.1)/\(s.2.1,s.2.2.1)=zN U C (l.take s.1) (rP U ((C:Int),false) (cm,op) ((C:Int),true))) (fun s=>l.length - s.1) (0,pD,s6,q3,tZ,m',jg)
        (ap eH) ⟨Nat.zero_le _,mi,zM,fun j t h=>absurd h (Nat.not_lt_zero _),uB⟩ ?_)
       have aF:EO (aA beh) (aA ahd) fn J U (cm,((C:Int),false)::op)=some (zN U C l (rP U ((C:Int),false) (cm,op) ((C:Int),true))):=by
        show(if(C:Int)=(J:Int) then none else some (zN U C (aA ahd C) _))=_;rw[if_neg xq,hl]
       clear mi zM yY ax uB;rintro⟨i,fR,jh,q2,vt,m2,cI⟩ ⟨hi,M,vZ,Il,hex⟩;dsimp only at hi M vZ Il hex ⊢;refine SS ?_;refine af ⟨_,rfl,fun h=>?_,fun h=>?_⟩
       .have fZ:i<l.length:=by simpa using h
        obtain⟨t,ht⟩:∃ t,l[i]? =some t:=⟨_,aN fZ⟩
        have s7:=ao t (bU ht);refine ws (aq ?_);refine af (az (aP ?_));refine af (su (l:=[(0,.pt (bA f beh ahd c)),(1,I fn),(2,I J),(8,.rp 1 0),(44,I r),(9,.rp (nx+1) 0),(10,.rp (nx+2) 0),(11,.rp (nx+4) 0),(12,.fn (.func 129) [] [.rp (nx+1) 0,.rp 1 0,.rp (nx+4) 0]),(13,.rp nx' 0),(76,au l),(77,I l.length),(78,I i),(19,.rp cI 0)]) ⟨rfl,rfl,rfl,rfl,rfl,rfl,rfl,rfl,rfl,rfl,rfl,rfl,rfl,rfl,trivial⟩ fun M4 pE=>aj ?_);have aj7:=M.lo;have X:=M.ext (m':=M4) (nx':=cI+1) (fun i hi=>(dI pE pE)) oG;have NZ:M4 cI=some (.cells (eV (t,true)) 168):=(dI pE pE)
        clear pE M;have ax:=X.ra;have di:=NZ;have gV:=X.nm.h8;have I3:=B5 X.sr X.ky;have I4:=X.le;refine aP ?_;refine aI (yx (es:=um U) (key:=mU (t,true) ((C:Int),false)) rfl X.nm.mu rfl wR (B3 Ch _ _ U)) cv ⟨wS,wQ _ _ (jw ⟨oM,oM⟩) (jw ⟨oM,oM⟩),yD us⟩ ?_;generalize hu:eh U (t,true) ((C:Int),false)=ux;cases ux with
        |false=>
         have N7:(((t,true),((C:Int),false)):ay×ay)∉U:=by unfold eh at hu;simpa using hu
         refine af (gT (bS (ag ?_)));refine af (aK (i+1,fR,jh,q2,vt,M4,cI+1) (ap eH) ⟨oM,X,vZ,fun j s hj hs s8=>?_,by dsimp only;rw[Q6 ht,hu,if_neg oS];exact hex⟩ oM);by_cases e:j=i
         .subst e;rw[ht] at hs;cases hs;exact absurd s8 N7
         .exact Il j s (by dsimp only at hj;omega) hs s8
        |true=>
         have s8:(((t,true),((C:Int),false)):ay×ay)∈U:=by unfold eh at hu;simpa using hu
         have b8:=Df _ _ s8;refine af (gJ (fh (aq ?_)));refine kO (Ii (x:=((C:Int),false)) (y:=(t,true)) X.nm ⟨oM,oM⟩ ⟨oM,oM⟩ oG) rfl cv fun d m' jg hp=>?_;obtain⟨rfl,zc,j0,yX⟩:=hp;obtain⟨pD,s6,q3,tZ,mi,zM,yY,uB⟩:=X.next jv E5 FV hU.ed (fun _=>.inr s8) zc j0 yX
         refine af (ag ?_);refine af (aK (i+1,pD,s6,q3,tZ,m',jg) (ap eH) ⟨oM,mi,fun h=>yY _ (vZ h),fun j s hj hs aj9=>?_,by dsimp only;rw[Q6 ht,hu,if_pos rfl, <- hex];exact uB⟩ oM);by_cases e:j=i
         .subst e;rw[ht] at hs;cases hs;exact zM b8
         .exact yY _ (Il j s (by dsimp only at hj;omega) hs aj9)
       .have a9:¬ i<l.length:=by simpa using h
        have cJ:=aaS hU.ed FV (b:=(C:Int)) (K:=fun y=>y∈bY fR) vZ (fun a h0 hm s8=>by
         obtain⟨j,hj⟩:=cC (bm a h0 hm)
         exact Il j a (by have:=(bw.1 hj).1;omega) hj s8)
        have I3:=B5 M.sr M.ky;have I4:=M.le;have N5:=M.ge;have N6:=M.lo;refine aK (fR,jh,q2,vt,m2,cI) (ap eH) ⟨M.nm,M.sr.pop (by simpa using xq) cJ,M.rs,oM,M.qn.1,oM,M.ky,k0+1,BG dT (by rw[aF];rw[df oG] at hex;rw[hex])⟩ (by dsimp only;rw[List.length_cons];omega)
   .clear NW NX Dg;rintro s ⟨cm,op,m,nx',gX,mu,h8,mc,h9,cs,hS,vr,uy,np,aj'⟩;refine⟨_,gX,az ?_⟩;refine aP ?_;obtain⟨i0,X'⟩:=TR.init hS hU uy
    refine af (aeT (α:=Nat×ay×List (ay×ay)×Nat×Mem×Nat)
     (fun s=>⟨aD [(0,.pt (bA f beh ahd c)),(1,I fn),(2,I J),(8,.rp 1 0),(44,I r),(9,.rp (nx+1) 0),(10,.rp (nx+2) 0),(20,.rp s.2.2.2.1 0)],s.2.2.2.2.1,s.2.2.2.2.2⟩)
     (fun s=>(∃ k,ot (HX (fn:Int) cm) k (((J:Int),false),U)=some (s.2.1,s.2.2.1))/\TR (aA beh) fn J U cm s.1 s.2.1 s.2.2.1/\N2 s.2.2.1/\(∀ e∈s.2.2.1,io e.1/\io e.2)/\s.2.2.2.2.1 0=some (.map (um s.2.2.1))/\s.2.2.2.2.1 1=some (.cells [.mp 0] 165)/\s.2.2.2.2.1 nx=some (.map (lM cm))/\s.2.2.2.2.1 (nx+1)=some (.cells [.mp nx] 166)/\s.2.2.2.2.1 (nx+2)=some (.cells (eV ((fn:Int),true)) 168)/\s.2.2.2.2.1 s.2.2.2.1=some (.cells (eV s.2.1) 168)/\nx+5<=s.2.2.2.1/\s.2.2.2.1<s.2.2.2.2.2)
     (fun s=>s.1) (i0,((J:Int),false),U,nx',_,_)
     (ap eH) ⟨⟨0,rfl⟩,X',Df,us,(rj mu),(rj h8),(rj mc),(rj h9),(rj vr),(rj h9),oM,oM⟩ ?_)
    clear mu h8 mc h9 vr X' gX;rintro⟨i,y,Vv,a,m,zO⟩ ⟨⟨k0,dT⟩,hT,hN,vs,mu,h8,mc,h9,vr,I5,mB,uu⟩;dsimp only at dT hT hN vs mu h8 mc h9 vr I5 mB uu ⊢;have ax:=I5;have di:=vr;have xK:flatT prog 168=some [0,1]:=kr;have heg:prog.eqGuardType prog.depth 168=false:=kr
    have Ya:(!veqs [.int .i64 y.1,.bool y.2] [.int .i64 (fn:Int),.bool true])= !decide (y=((fn:Int),true)):=by
     rw[<- Q4];rfl
    refine ag ?_;generalize Be:decide (y=((fn:Int),true))=yd at Ya;refine aI (UP (us:=[.int .i64 y.1,.bool y.2]) (vs:=[.int .i64 (fn:Int),.bool true]) rfl rfl xK rfl Ya) cv ⟨rfl,heg⟩ (af ⟨_,rfl,fun h=>?_,fun h=>?_⟩)
    .have N8:y≠((fn:Int),true):=by
      intro e;rw[e,decide_eq_true rfl] at Be;subst Be;cases h
     have AK:=hT.at_;obtain⟨x0,pz⟩:=AK;have I0:y∈bY cm:=List.mem_map.2 ⟨_,bU pz,rfl⟩;obtain⟨k9,x,rO,zB⟩:=DN.1 I0
     have FX:cm[i]? =some (y,x):=by
      obtain⟨j,hj⟩:=cC zB;rw[KT hS.nd pz hj];exact hj
     obtain⟨j,dm,Yb⟩:=hT.step hS FX N8
     have fD:uz (aA beh) fn J U x y:=by
      refine(hS.par i y x ?_ FX).1;rcases Nat.eq_zero_or_pos i with g|g
      .subst g;rw[hS.hd] at FX;simp only[aV,bQ] at FX;exact absurd FX.1.symm N8
      .exact g
     have aka:x≠y:=aeW hU.ed fD;have akb:=adO hT.ed hN hT.nd aka;have zJ:=(cs _ zB).1;have xW:=(cs _ zB).2;dsimp only at xW zJ
     have XU:∀ e∈l5 Vv x y,io e.1/\io e.2:=fun e he=>by
      unfold l5 at he;split at he
      .exact vs e (List.mem_of_mem_erase he)
      .rcases List.mem_append.1 he with g|g
       .exact vs e g
       .simp only[List.mem_singleton] at g;subst g;exact⟨xW,zJ⟩
     have AI:gotD prog 166 false (lookD (p7 y) (lM cm))=.agg (eV x):=by rw[rO];rfl
     refine Pc (fun s=>∃ m2 cI,Ghost prog s ⟨aD [(0,.pt (bA f beh ahd c)),(1,I fn),(2,I J),(8,.rp 1 0),(44,I r),(9,.rp (nx+1) 0),(10,.rp (nx+2) 0),(20,.rp a 0)],m2,cI⟩/\zO<=cI/\m2 0=some (.map (um (l5 Vv x y)))/\∀ i,i<zO->i≠0->m2 i=m i) (az ?_) fun s hs=>?_
     .have gV:=h9;refine ag ?_;refine aI (yx (es:=lM cm) (key:=p7 y) rfl mc rfl Ci AI) cv ⟨Cj,Cg _ (jw zJ),G8 cs⟩ (ag ?_);refine af (su (l:=[(0,.pt (bA f beh ahd c)),(1,I fn),(2,I J),(8,.rp 1 0),(44,I r),(9,.rp (nx+1) 0),(10,.rp (nx+2) 0),(20,.rp a 0),(21,.rp zO 0)]) ⟨rfl,rfl,rfl,rfl,rfl,rfl,rfl,rfl,rfl,trivial⟩ fun M5 FY=>aj ?_);have j0:∀ i,i<zO->M5 i=m i:=fun i hi=>(dI FY FY)
      have g21:M5 zO=some (.cells (eV x) 168):=(dI FY FY)
      have N9:M5 0=some (.map (um Vv)):=(j0 0 oG).trans mu;clear FY ax di gV;have ax:=(j0 1 oG).trans h8;have di:=(j0 a uu).trans I5;have gV:=g21;refine aP ?_;refine aI (yx (es:=um Vv) (key:=mU y x) rfl N9 rfl wR (B3 Ch y x Vv)) cv ⟨wS,wQ _ _ (jw zJ) (jw xW),yD vs⟩ ?_;generalize hu:eh Vv y x=ux;cases ux with
      |true=>
       have hyx:(y,x)∈Vv:=by unfold eh at hu;simpa using hu
       refine af (gJ (nH (aP ?_)));refine cA (aeU (es:=um Vv) (key:=mU y x) rfl N9 rfl wR) cv ⟨wS,wQ _ _ (jw zJ) (jw xW),yD vs⟩ (af ⟨_,_,ap eH,oG,?_,fun i hi h0=>?_⟩)
       .unfold l5;rw[hu,if_pos rfl, <- aeS hyx];exact up_same _ _ _
       .exact(aC h0 rfl).trans (j0 i hi)
      |false=>
       refine af (gT (nH (aP ?_)));refine cA (HC (es:=um Vv) (key:=mU x y) (v:=B true) rfl N9 rfl rfl wR) cv ⟨wS,wQ _ _ (jw xW) (jw zJ),yD vs⟩ ?_
       have akc:(x,y)∉Vv:=fun hm=>by
        have cR:=Yb.nd;unfold l5 at cR;rw[hu,if_neg oS,List.nodup_append] at cR;exact cR.2.2 _ hm _ oS rfl
       refine af ⟨_,_,ap eH,oG,?_,fun i hi h0=>?_⟩
       .unfold l5;rw[hu,if_neg oS, <- aeR akc];exact up_same _ _ _
       .exact(aC h0 rfl).trans (j0 i hi)
     .obtain⟨m2,cI,gX,A0,mu2,j0⟩:=hs;refine⟨_,gX,aB (aj ?_)⟩;have ax:=(j0 a uu oG).trans I5;refine SS ?_;refine af (az (ag ?_));refine af (su (l:=[(0,.pt (bA f beh ahd c)),(1,I fn),(2,I J),(8,.rp 1 0),(44,I r),(9,.rp (nx+1) 0),(10,.rp (nx+2) 0),(20,.rp cI 0)]) ⟨rfl,rfl,rfl,rfl,rfl,rfl,rfl,rfl,trivial⟩ fun M6 FZ=>qI (rf:=true) (id:=_) ?_);have MQ:∀ i,i<zO->i≠0->M6 i=m i:=fun i hi h0=>(dI FZ (j0 i hi h0))
      have g20:M6 cI=some (.cells (eV y) 168):=(dI FZ FZ)
      have mu6:M6 0=some (.map (um (l5 Vv x y))):=(dI FZ mu2)
      have mc6:=(MQ nx oG oG).trans mc;clear FZ ax di;have ax:=(MQ (nx+1) oG oG).trans h9;have di:=g20;refine ag ?_;refine aI (yx (es:=lM cm) (key:=p7 y) rfl mc6 rfl Ci AI) cv ⟨Cj,Cg _ (jw zJ),G8 cs⟩ (cA (jk rfl rfl di rfl) ak (du V.h V.h (by first|(simp;done)|exact⟨rfl,bE rfl⟩|(simp;omega)) (by rfl)) ?_);have I6:∀ i,i<zO->i≠0->∀ r,up M6 cI r i=m i:=fun i hi h0 r=>(aC oG rfl).trans (MQ i hi h0);refine af (aK (j,x,l5 Vv x y,cI,_,_) (ap eH) ⟨⟨k0+1,BG dT (by unfold HX;rw[if_neg N8,adP hS.nd zB];rfl)⟩,Yb,akb,XU,(rj mu6),(I6 1 oG oG _).trans h8,(I6 nx oG oG _).trans mc,(I6 (nx+1) oG oG _).trans h9,(I6 (nx+2) oG oG _).trans vr,up_same _ _ _,oM,oM⟩ dm)
    .have hyf:y=((fn:Int),true):=by
      cases yd with
      |true=>simpa using Be
      |false=>cases h
     subst hyf;have sJ:=hT.fin hU;show AOps _ _ _ _ _ _ _ _ _;refine ag ?_;refine af (aK (r+1,Vv,m,zO) (ap eH) ⟨oM,oM,mu,h8,by dsimp only;push_cast;exact sJ,vs,hN,FT.succ aj' ⟨k0,dT⟩⟩ oM)
  .have FU:r=2:=by
    have:¬ (r:Int)<2:=by simpa using h
    omega
   subst FU;exact⟨U,m,nx,ap eH,fO,mu,h8,hU,us,Df,FT⟩
 rintro s ⟨U,m,nx,gX,fO,mu,h8,hU,us,Df,FT⟩;obtain⟨s',h1,h2⟩:=akd (f:=f) (ahd:=ahd) (c:=c) jf cZ jv cR iQ pg De qx fO mu h8 hU us FT jJ;exact⟨s',gX.trans h1,h2⟩
end
end Go.Proofs.Tryz.K
namespace Go.Argus
def jx(G:Nat->List Int)(n:Nat):List D:=(List.range n).map fun i=>au (G i)
@[simp] theorem aos (G : Nat -> List Int) (n : Nat) : (jx G n).length = n := by simp [jx]
theorem RU{G:Nat->List Int}{n i:Nat}{l:List Int}:(jx G n).set i (au l)=jx (up G i l) n:=by
 unfold jx;rw[GJ];refine congrArg (fun F=>(List.range n).map F) (funext fun k=>?_);by_cases e:k=i
 .subst e;rw[up_same,up_same]
 .rw[up_ne _ _ e,up_ne _ _ e]
def pV(f:aG)(d:D):Prop:=
 if dH f=0 then ∃ x:eW,d=.tup [.agg (ct x),I 0]/\oV (aT f) (c9 f) f.ab.length x/\Ay x else d=.tup [.agg [.z,.z,.z],I (dH f)]
theorem Q7{f:aG}(d:D)(h:pV f d):Tr d:=by
 unfold pV at h;split at h
 .obtain⟨x,rfl,_⟩:=h;exact .tup (.cons (.agg (wu x)) (.cons (.s _) .nil))
 .subst h;exact .tup (.cons (.agg (.cons .z (.cons .z (.cons .z .nil)))) (.cons (.s _) .nil))
theorem adS(f:aG)(b:Nat):(aT f b).Nodup:=by
 rcases Nat.lt_or_ge b f.ab.length with g|g
 .rw[show aT f b=_ from yA (aN g)];exact(JW _).imp fun h=>by omega
 .rw[show aT f b=[] from GK g];exact List.nodup_nil
theorem aaV(f:aG)(d:eW):wy f d=qR f d:=by
 unfold wy qR;split
 .rename_i C;rw[acq (xm (tG (Dx C)))]
 .rfl
theorem Zj{f:aG}{d:eW}(C:dH f=0)(h:oV (aT f) (c9 f) f.ab.length d):wy f d=.tup [B true,I 0]:=by
 unfold wy;rw[if_pos C,(RX (xm (tG (Dx C)))).2 h]
theorem ZU{f:aG}{d:eW}(C:dH f=0)(h:oV (aT f) (c9 f) f.ab.length d):d.par=gj (aT f) (c9 f) f.ab.length:=aaW (xm (tG (Dx C))) h
end Go.Argus
namespace Go.Proofs.Tryz.K
theorem adT{f:aG}(C:dH f≠0):tH prog 20 [.agg (aH f)] (pV f):=by
 have M:=RT C;refine NT Im (.cons (.agg (iu f)) .nil) Q7 ?_
 have J:pV f (.tup [.agg [.z,.z,.z],I (dH f)]):=by
  unfold pV;rw[if_neg C]
 generalize pV f=Q at J;generalize dH f=e at M C J;have dv:(e !=0)=true:=by simpa using C
 rw[WG];refine ws (aq ?_);refine er (SS ?_);refine cl M (SS ?_);refine X3 ?_;refine ag ?_;refine aki ?_;refine SS ?_;refine af (aB (aj (ag ?_)));refine af (dN (aB (aj (aP ?_))));refine af (bX (JJ (mI rfl rfl Og Oh rfl t30 (bE rfl)) rfl J))
theorem ZS{f:aG}(C:dH f=0)(hr:EP (.agg (aH f))):∀ b:Nat,bM (aT f) f.ab.length b->b≠0->∃ w:List Int×List Int,PCall prog 62 [.pt (wI f),I (fw (aT f) (c9 f) f.ab.length b:Nat),I b] (.tup [au w.1,au w.2])/\
 mh (aT f) (fw (aT f) (c9 f) f.ab.length b:Nat) b w.1/\mh (aT f) (fw (aT f) (c9 f) f.ab.length b:Nat) b w.2/\∀ i,0<i->i+1<w.1.length->w.1.getD i 0∉w.2:=fun b X hz=>by
 have hf:jz f=true:=by
  unfold dH at C;split at C
  .assumption
  .cases C
 have J:=tG hf;have hg:=xm J;have akj:=J.mC;obtain⟨_,Oi,ao⟩:=HG hg X hz;have M:=wJ hg Oi;have Nn:=wJ hg X;have aE:fw (aT f) (c9 f) f.ab.length b≠b:=fun e=>by rw[e] at ao;omega
 have F0:=I2 (f:=f) (beh:=bI f) (ahd:=cM f.ab) (c:=dw (cO (aA (bI f)) f.ab.length (-1))) (.sl (.map fun _=>.s _)) (n:=f.ab.length) oG (by simp[bI]) (by simp[cM]) hg.to hg.rK (adS f) (KU J) (G7 J) M Nn aE (fun w h1 h2=>adU hg X hz h1 h2);obtain⟨d,⟨⟨l1,l2,rfl,h1,h2,h3⟩,_⟩,hc⟩:=ZR F0 (fun d d' h h'=>h.2.vw h'.2) (adR (ZQ (HF C) hr) _ _);exact⟨(l1,l2),hc,h1,h2,h3⟩
theorem Ty{n:Nat}:∀ (k:Nat) (d d':D),(List.replicate n D.z)[k]? =some d->(jx (fun _=>[]) n)[k]? =some d'->Wk d d':=fun k d d' hd C=>by
 have h1:=bU hd;rw[(List.mem_replicate.1 h1).2];unfold jx at C;rw[List.getElem?_map,dx] at C;obtain⟨q,_,rfl⟩:=C;exact WH
def iR(W:Nat->List Int):List Int->Nat->List Int:=fun xs=>xs.foldl (fun G b=>if 0<b then up G b.toNat (W b.toNat) else G) fun _=>[]
theorem RV(W:Nat->List Int)(b:Nat):∀ xs:List Int,(∀ x∈xs,0<=x)->iR W xs b=if(b:Int)∈xs/\0<b then W b else []:=fun xs=>by
 unfold iR
 induction xs using Hm with
 |h0=>intro _;simp
 |h1 xs x ih=>
  intro hx;rw[List.foldl_append,List.foldl_cons,List.foldl_nil];have ih:=ih fun y hy=>hx y (by simp[hy]);have h0:=hx x oS;by_cases hp:0<x
  .rw[if_pos hp];by_cases e:b=x.toNat
   .have e1:(b:Int)=x:=by omega
    rw[e,up_same,if_pos ⟨by rw[<- e,e1];simp,oG⟩]
   .have e1:(b:Int)≠x:=by omega
    rw[up_ne _ _ e,ih];simp[e1]
  .rw[if_neg hp,ih];by_cases e:(b:Int)=x
   .have:¬ 0<b:=by omega
    simp[this]
   .simp[e]
structure I8(par:List Int)(n:Nat)(G1 G2:Nat->List Int)(m:Mem)(nx:Nat):Prop where
 Nv:6<=nx
 m1:m 1=some (.cells [.z,.z,.z] 30)
 m3:m 3=some (.cells (jx G1 n) 27)
 m4:m 4=some (.cells (jx G2 n) 27)
 m5:m 5=some (.cells [au par,.rs 3 0 n,.rs 4 0 n] 30)
theorem adV{P:Program}{Y:YSpec}{rf:Bool}{Q:Exit->St->Prop}{st:St}[eC Y]{ops:Array Oper}{cf:List (Nat×Nat)}{i:Nat}(hi:drawInfo ops=some cf)(h:AOps P Y ops true cf (gM (Q .normal)) ops.toList st []):AW P Y rf (.region i ops true) Q st:=B0 (rf:=rf) (id:=i) hi (AOps.lC h fun _ h=>h)
theorem akl{f:aG}{xs par:List Int}{n:Nat}(hn:f.ab.length=n)(jf:n<=10000){R:Nat->Prop}{Oj:Nat->Nat}{W1 W2:Nat->List Int}{Q:D->Prop}{M:D}(ns:PCall prog 51 [.agg (aH f)] (.tup [.pt (bA f (bI f) (cM f.ab) M),I 0]))
 (Bg:PCall prog 60 [.pt (bA f (bI f) (cM f.ab) M)] (au par)) (xZ:SeqA prog 61 [.pt (bA f (bI f) (cM f.ab) M)] [] (xs.map fun n=>[I n])) (cz:∀ b:Nat,(b:Int)∈xs↔R b) (pz:∀ x∈xs,∃ b:Nat,x=b)
 (AK:∀ b:Nat,R b->b≠0->par[b]? =some ((Oj b:Nat):Int)) (kZ:∀ b:Nat,R b->b<n) (F0:∀ b:Nat,R b->b≠0->PCall prog 62 [.pt (bA f (bI f) (cM f.ab) M),I (Oj b:Nat),I b] (.tup [au (W1 b),au (W2 b)]))
 (hQt:∀ d,Q d->Tr d) (hQ:Q (.tup [.agg [au par,bx ((List.range n).map (iR W1 xs)),bx ((List.range n).map (iR W2 xs))],I 0])):tH prog 20 [.agg (aH f)] Q:=by
 refine NT Im (.cons (.agg (iu f)) .nil) hQt ?_;generalize bI f=BL at ns Bg xZ F0;generalize cM f.ab=AL at ns Bg xZ F0;rw[WG];refine ws (aq ?_);refine af (az (SS ?_));refine cl ns (SS ?_);refine X4 ?_;refine ag ?_;refine akm ?_;refine SS ?_;refine af (aW (lQ (i:=2) (e:=79) (cs:=[.pt (bA f BL AL M)]) (l:=[(2,.rp 1 0),(4,.pt [.pt (bA f BL AL M)]),(5,I 0)]) (ml:=[(1,.cells [.z,.z,.z] 30)]) rfl eH eH) (aB (aj (ag ?_))));refine af (gU (bP (aj (dA ?_))));refine af (pK aco ?_);have dn:((f.ab.length:Nat):Int).toNat=n:=hn;refine SS ?_;refine cl Bg (dA ?_)
 refine a8 bc ⟨_,(aQ (l:=[(2,.rp 1 0),(4,.pt [.pt (bA f BL AL M)]),(7,.rp 5 0)]) (ml:=[(1,.cells [.z,.z,.z] 30),(3,.cells (List.replicate n .z) 27),(4,.cells (List.replicate n .z) 27),(5,.cells [au par,.rs 3 0 n,.rs 4 0 n] 30)]) eH ⟨rfl,?_,?_,?_,trivial⟩).trans
  (.weak _ _ _ (bf [(1,.cells [.z,.z,.z] 30),(3,.cells (jx (fun _=>[]) n) 27),(4,.cells (jx (fun _=>[]) n) 27),(5,.cells [au par,.rs 3 0 n,.rs 4 0 n] 30)]) _ (fun _=>Hn _) fun i=>?_),eI (fun s=>∃ m nx,Ghost prog s ⟨aD [(2,.rp 1 0),(7,.rp 5 0)],m,nx⟩/\I8 par n (iR W1 xs) (iR W2 xs) m nx) (aj ?_) fun s hs=>?_⟩
 .exact congrArg (fun c=>some (Row.cells c 27)) ((congrArg (fun k=>replD k [D.z]) dn).trans (BO n))
 .exact congrArg (fun c=>some (Row.cells c 27)) ((congrArg (fun k=>replD k [D.z]) dn).trans (BO n))
 .exact congrArg (fun k=>some (Row.cells [au par,.rs 3 0 k,.rs 4 0 k] 30)) dn
 .by_cases e:i=3
  .subst e;exact .inr ⟨_,_,27,rfl,rfl,oS,Ty⟩
  .by_cases e4:i=4
   .subst e4;exact .inr ⟨_,_,27,rfl,rfl,oS,Ty⟩
   .exact .inl (by simp[bf,e,e4])
 .refine ag ?_;refine af (oL ?_);refine⟨rfl,trivial,61,_,[],xs.map (fun n=>[I n]),fun k m nx=>I8 par n (iR W1 (xs.take k)) (iR W2 (xs.take k)) m nx,rfl,xZ,?_,?_,?_,?_⟩
  .intro y hy;obtain⟨n,_,rfl⟩:=List.mem_map.1 hy;exact⟨rfl,.cons (.s _) .nil⟩
  .exact⟨bF _,rfl,rfl,rfl,rfl⟩
  .rintro k m nx y hy C;simp only[List.getElem?_map,dx] at hy;obtain⟨b,hb,rfl⟩:=hy;obtain⟨J,rfl⟩:=pz b (bU hb);have hR:=(cz J).1 (bU hb);have pC:=kZ J hR
   have aF:∀ W:Nat->List Int,iR W (xs.take (k+1))=if(0:Int)<(J:Int) then up (iR W (xs.take k)) J (W J) else iR W (xs.take k):=fun W=>by
    unfold iR;rw[List.take_add_one,hb,Option.toList_some,List.foldl_append];rfl
   have X:∀ m nx,I8 par n (if(0:Int)<(J:Int) then up (iR W1 (xs.take k)) J (W1 J) else iR W1 (xs.take k)) (if(0:Int)<(J:Int) then up (iR W2 (xs.take k)) J (W2 J) else iR W2 (xs.take k)) m nx->I8 par n (iR W1 (xs.take (k+1))) (iR W2 (xs.take (k+1))) m nx:=fun m nx h=>by rw[aF W1,aF W2];exact h
   clear aF;generalize iR W1 (xs.take k)=G1 at C X;generalize iR W2 (xs.take k)=G2 at C X;refine gB (SS ?_);refine af (show AW _ _ _ _ _ _ from oL (aj ?_));by_cases hz:J=0
   .have eM:decide ((0:Int)<(J:Int))=false:=by simp[hz]
    refine ag ?_;refine af (gT (bS ?_));rw[if_neg oG,if_neg oG] at X;exact X _ _ C
   .have eM:decide ((0:Int)<(J:Int))=true:=by simp;omega
    refine ag ?_;refine af (gJ (adV acp ?_));have ax:=C.m5;have di:=C.m3;have gV:=C.m4;have zP:=AK J hR hz;have I2:=F0 J hR hz;generalize ((Oj J:Nat):Int)=u at zP I2;rw[if_pos oG,if_pos oG] at X;have akn:=C.Nv;have Ns:=C.m1;clear C;refine aJ ?_;refine aP ?_;refine cl I2 (aP ?_);refine cA (fI (d:=.sl _ _) (cs':=_) rfl rfl di rfl rfl) ak (du V.h V.h (by first|(simp;done)|exact⟨rfl,bE rfl⟩|(simp;omega)) rfl) ?_;refine aI (mN rfl rfl gV V.h V.h) ak ⟨V.h,oG⟩ (cA (fI (d:=.sl _ _) (cs':=_) rfl rfl gV rfl rfl) ak (du V.h V.h (by first|(simp;done)|exact⟨rfl,bE rfl⟩|(simp;omega)) rfl) ?_);refine a8 bc (X _ _ ⟨akn,?_,?_,?_,?_⟩)
    .dsimp only;rw[up_ne _ _ oC,up_ne _ _ oC];exact Ns
    .dsimp only;rw[<- RU,up_ne _ _ oC,up_same]
    .dsimp only;rw[<- RU,up_same]
    .dsimp only;rw[up_ne _ _ oC,up_ne _ _ oC];exact ax
  .rintro m nx C;rw[List.length_map,List.take_length] at C;exact⟨m,nx,ap eH,C⟩
 .obtain⟨m,nx,gX,C⟩:=hs
  have Yf:∀ G:Nat->List Int,((jx G n).drop 0).take (n*prog.cellsOf 27)=jx G n:=fun G=>by
   rw[Bh,List.drop_zero,Nat.mul_one,df oS]
  have WI:∀ G:Nat->List Int,D.sl (jx G n) n=bx ((List.range n).map G):=fun G=>by
   rw[<- G9];unfold jx;congr 1;exact List.map_congr_left fun i _=>by simp[au]
  have bm:∀ (G:Nat->List Int) (i:Nat) (cs:List D) (sz:Nat),(jx G n).map (Abs.sub (fz0 i cs sz))=jx G n:=fun G i cs sz=>by
   unfold jx;rw[List.map_map];exact List.map_congr_left fun i _=>rfl
  generalize iR W1 xs=G1 at C hQ;generalize iR W2 xs=G2 at C hQ
  refine⟨_,gX.trans ((lQ (i:=3) (e:=27) (cs:=jx G1 n) (l:=[(2,.rp 1 0),(7,.rp 5 0)]) (ml:=[(1,.cells [.z,.z,.z] 30),(4,.cells (jx G2 n) 27),(5,.cells [au par,bx ((List.range n).map G1),.rs 4 0 n] 30)]) C.m3 eH ⟨?_,?_,?_,trivial⟩).trans
   (lQ (i:=4) (e:=27) (cs:=jx G2 n) (l:=[(2,.rp 1 0),(7,.rp 5 0)]) (ml:=[(1,.cells [.z,.z,.z] 30),(5,.cells [au par,bx ((List.range n).map G1),bx ((List.range n).map G2)] 30)]) rfl eH ⟨rfl,?_,trivial⟩)),aj ?_⟩
  .dsimp only;rw[if_neg oC,C.m1];rfl
  .dsimp only;rw[if_neg oC,C.m4];show some (Row.cells ((jx G2 n).map _) 27)=_;rw[bm]
  .dsimp only;rw[if_neg oC,C.m5];show some (Row.cells [au par,D.sl (((jx G1 n).drop 0).take (n*prog.cellsOf 27)) n,.rs 4 0 n] 30)=_;rw[Yf,WI]
  .show some (Row.cells [au par,bx ((List.range n).map G1),D.sl (((jx G2 n).drop 0).take (n*prog.cellsOf 27)) n] 30)=_;rw[Yf,WI]
  .refine aq ?_;refine af (aY (JJ (mI rfl rfl Og Oh rfl t30 (bE rfl)) rfl hQ))
theorem aeY{f:aG}(M:dH f=0):tH prog 20 [.agg (aH f)] (pV f):=by
 refine Zi Im.he (.cons (.agg (iu f)) .nil) fun fq=>?_;have X:=ZS M fq;have ns:=HF M
 have hf:jz f=true:=by
  unfold dH at M;split at M
  .assumption
  .cases M
 have bZ:=tG hf;have hg:=xm bZ;have akj:=bZ.mC
 obtain⟨W,X⟩:∃ W:Nat->List Int×List Int,∀ b:Nat,bM (aT f) f.ab.length b->b≠0->PCall prog 62 [.pt (wI f),I (fw (aT f) (c9 f) f.ab.length b:Nat),I b] (.tup [au (W b).1,au (W b).2])/\
  mh (aT f) (fw (aT f) (c9 f) f.ab.length b:Nat) b (W b).1/\mh (aT f) (fw (aT f) (c9 f) f.ab.length b:Nat) b (W b).2/\∀ i,0<i->i+1<(W b).1.length->(W b).1.getD i 0∉(W b).2:=
  Classical.axiomOfChoice (r:=fun(b:Nat) (w:List Int×List Int)=>bM (aT f) f.ab.length b->b≠0->PCall prog 62 [.pt (wI f),I (fw (aT f) (c9 f) f.ab.length b:Nat),I b] (.tup [au w.1,au w.2])/\
   mh (aT f) (fw (aT f) (c9 f) f.ab.length b:Nat) b w.1/\mh (aT f) (fw (aT f) (c9 f) f.ab.length b:Nat) b w.2/\∀ i,0<i->i+1<w.1.length->w.1.getD i 0∉w.2) fun b=>by
   by_cases h:bM (aT f) f.ab.length b/\b≠0
   .obtain⟨w,hw⟩:=X b h.1 h.2;exact⟨w,fun _ _=>hw⟩
   .exact⟨([],[]),fun h1 h2=>absurd ⟨h1,h2⟩ h⟩
 have xV:wI f=bA f (bI f) (cM f.ab) (dw (cO (aT f) f.ab.length (-1))):=rfl;have Bg:=ako bZ (c:=dw (cO (aT f) f.ab.length (-1))) (.sl (.map fun _=>.s _)) rfl;have kZ:=wk (w:= -1) hg.to hg.pos;have xZ:=xZ (f:=f) (beh:=bI f) (ahd:=cM f.ab) (cnt:=cO (aT f) f.ab.length (-1)) (by rw[kZ];omega);rw[kZ] at xZ;have iO:=z5 hg
 have cz:∀ b:Nat,(b:Int)∈allI (cO (aT f) f.ab.length (-1)) f.ab.length↔bM (aT f) f.ab.length b:=fun b=>by
  unfold allI;rw[List.mem_map];constructor
  .rintro⟨c,hc,e⟩;obtain rfl:c=b:=by omega
   exact(List.mem_filter.1 hc).2
  .intro h;exact⟨b,List.mem_filter.2 ⟨List.mem_range.2 (wJ hg h),h⟩,rfl⟩
 have pz:∀ x∈allI (cO (aT f) f.ab.length (-1)) f.ab.length,∃ b:Nat,x=b:=fun x hx=>by
  unfold allI at hx;obtain⟨b,_,rfl⟩:=List.mem_map.1 hx;exact⟨b,rfl⟩
 have AK:∀ b:Nat,bM (aT f) f.ab.length b->b≠0->(gj (aT f) (c9 f) f.ab.length)[b]? =some ((fw (aT f) (c9 f) f.ab.length b:Nat):Int):=fun b C J=>by
  have hb:=wJ hg C;rw[ss (by rw[iO];exact hb),wz hg hb,if_pos ⟨J,C⟩]
 have zd:∀ b:Nat,bM (aT f) f.ab.length b->b<f.ab.length:=fun b C=>wJ hg C
 have hP:pV f (.tup [.agg [au (gj (aT f) (c9 f) f.ab.length),bx ((List.range f.ab.length).map (iR (fun b=>(W b).1) (allI (cO (aT f) f.ab.length (-1)) f.ab.length))),bx ((List.range f.ab.length).map (iR (fun b=>(W b).2) (allI (cO (aT f) f.ab.length (-1)) f.ab.length)))],I 0]):=by
  have WJ:∀ x∈allI (cO (aT f) f.ab.length (-1)) f.ab.length,0<=x:=fun x hx=>by
   obtain⟨b,rfl⟩:=pz x hx;omega
  have pF:∀ (G:Nat->List Int) (b:Nat),b<f.ab.length->((List.range f.ab.length).map G).getD b []=G b:=fun G b hb=>by
   rw[bl,List.getElem?_map,List.getElem?_range hb];rfl
  have h1:=fun b=>RV (fun b=>(W b).1) b _ WJ;have h2:=fun b=>RV (fun b=>(W b).2) b _ WJ;generalize iR (fun b=>(W b).1) _=G1 at h1 ⊢;generalize iR (fun b=>(W b).2) _=G2 at h2 ⊢
  have MS:∀ b:Nat,bM (aT f) f.ab.length b->b≠0->G1 b=(W b).1/\G2 b=(W b).2:=fun b C J=>by
   rw[h1 b,h2 b,if_pos ⟨(cz b).2 C,oG⟩,if_pos ⟨(cz b).2 C,oG⟩];exact⟨rfl,rfl⟩
  have WK:∀ b:Nat,(b=0\/¬ bM (aT f) f.ab.length b)->G1 b=[]/\G2 b=[]:=fun b b8=>by
   have:¬ ((b:Int)∈allI (cO (aT f) f.ab.length (-1)) f.ab.length/\0<b):=fun h=>by
    rcases b8 with g|g
    .omega
    .exact g ((cz b).1 h.1)
   rw[h1 b,h2 b,if_neg this,if_neg this];exact⟨rfl,rfl⟩
  have hlen:∀ b,b<f.ab.length->(G1 b).length<=10000/\(G2 b).length<=10000:=fun b hb=>by
   by_cases h:b≠0/\bM (aT f) f.ab.length b
   .obtain⟨e1,e2⟩:=MS b h.2 h.1;obtain⟨_,w1,w2,_⟩:=X b h.2 h.1;obtain⟨_,Oi,_⟩:=HG hg h.2 h.1;have:=wJ hg Oi;have:=KV hg.to w1 oG oG;have:=KV hg.to w2 oG oG;rw[e1,e2];omega
   .obtain⟨e1,e2⟩:=WK b (by
     by_cases g:b=0
     .exact .inl g
     .exact .inr fun r=>h ⟨g,r⟩)
    rw[e1,e2];simp
  unfold pV;rw[if_pos M];refine⟨⟨_,_,_⟩,rfl,ZT hg rfl oS oS (fun b hb b8=>?_) (fun b C J=>?_),⟨fun l hl=>?_,fun l hl=>?_⟩⟩
  .rw[pF _ _ hb,pF _ _ hb];exact WK b b8
  .dsimp only;rw[pF _ _ (zd b C),pF _ _ (zd b C),(MS b C J).1,(MS b C J).2];exact(X b C J).2
  .obtain⟨b,hb,rfl⟩:=List.mem_map.1 hl;exact(hlen b (List.mem_range.1 hb)).1
  .obtain⟨b,hb,rfl⟩:=List.mem_map.1 hl;exact(hlen b (List.mem_range.1 hb)).2
 rw[xV] at ns X;exact akl (W1:=fun b=>(W b).1) (W2:=fun b=>(W b).2) rfl oG ns Bg xZ cz pz AK zd (fun b C J=>(X b C J).1) Q7 hP
theorem I9{f:aG}:tH prog 20 [.agg (aH f)] (pV f):=by
 by_cases h:dH f=0
 .exact aeY h
 .exact adT h
theorem k3{f:aG}{d:eW}(hs:yW f)(Dj:PCall prog 17 [] (B true)):PCall prog 3 [.agg (aH f),.agg (ct d)] (B true):=by
 have Dk:=Dk (f:=f);have Bc:=Bc (d:=d);have a7:∀ x∈[D.agg (aH f),.agg (ct d)],Tr x:=.cons (.agg (iu f)) (.cons (.agg (wu d)) .nil);refine bg ok3 a7 (Tr.s _) ?_;have Ol:sK f=true->_:=aaX;have fQ:BN d=true->_:=aci;generalize sK f=fb at Dk Ol;generalize BN d=sb at Bc fQ;rw[sk3];refine az (aq ?_);refine af (aW (bG [(0,aH f,26),(1,ct d,30)] eH (l:=[(2,.pt (aH f)),(3,.pt (ct d))]) eH) (aB (aj ?_)));cases fb with
 |false=>
  refine SS ?_;refine cl Dk (ag ?_);(iterate 3 refine z fun _ _=>?_);refine SS ?_;refine af (dN (aB (aj (cl Dj (SS ?_)))));exact af (bX (av rfl rfl))
 |true=>
 have Bc:(false==false)=true->PCall prog 16 [.agg (ct d)] (B sb):=fun _=>Bc;refine SS ?_;refine cl Dk (ag ?_);refine bt rfl rfl (mK rfl V.h V.h rfl) (fun hc=>⟨ak,(mL V.h V.h oS)⟩) (B2 rfl rfl rfl (fun hc=>⟨ak,Bc hc⟩) (ag ?_));refine af (cx rfl (fun h=>?_) fun h=>bP (aj ?_))
 .refine aB (aj (cl Dj (SS ?_)));exact af (bX (av rfl rfl))
 have hw:=Ol rfl;have hd:=fQ (by revert h;cases sb<;>simp);clear h Dk Bc Ol fQ;have Bb:=Bb (f:=f) hd;have WL:=fun(x:eW) (hx:Ay x)=>uw (f:=f) (d:=x) hs hw hx;have uw:=uw hs hw hd;rw[aaV] at uw;have zR:=zR hs hw;have I9:=ZV (P:=prog) (m:=fun _=>none) (nx:=2) (I9 (f:=f));by_cases C:dH f=0
 .have M:∃ x,qR f d=.tup [B x,I 0]:=⟨_,by unfold qR;rw[if_pos C]⟩
  have s9:yZ f=.tup [au (gj (aT f) (c9 f) f.ab.length),I 0]:=by unfold yZ;rw[if_pos C]
  have vW:∀ x,oV (aT f) (c9 f) f.ab.length x->wy f x=.tup [B true,I 0]/\x.par=gj (aT f) (c9 f) f.ab.length:=fun x hx=>⟨Zj C hx,ZU C hx⟩
  have X:∀ d',pV f d'->∃ x:eW,d'=.tup [.agg (ct x),I 0]/\oV (aT f) (c9 f) f.ab.length x/\Ay x:=fun d' h=>by
   unfold pV at h
   rwa[if_pos C] at h
  obtain⟨x,M⟩:=M;rw[M] at Bb uw;rw[s9] at zR;clear M s9;refine ag ?_;refine cl Bb (aO ?_);refine er (ag ?_);refine cl uw (aO ?_);refine er (SS ?_);refine kO I9 rfl cv fun d' m' nx' hp=>?_;obtain⟨hp,rfl,rfl⟩:=hp;obtain⟨y,rfl,hy,CZ⟩:=X d' hp;obtain⟨hyv,J⟩:=vW y hy;have WM:=WL y CZ;rw[hyv] at WM;generalize gj (aT f) (c9 f) f.ab.length=par at zR J;clear X vW WL hy CZ;refine bB ?_;refine er (SS ?_);refine cl zR (aO ?_);refine af (aB (aj (ag ?_)));refine WN ?_;refine bK ?_;refine ag ?_;refine af (cx rfl (fun h=>(by revert h;simp)) fun _=>bP (aB (aj ?_)));refine ag ?_;refine af (gU (bP (aj ?_)));have uw:=WM;refine ag ?_;refine cl uw (aO ?_);refine er ?_;have Dl:=akp (l:=par);rw[<- J] at Dl;rw[<- J];have Dl:(true==true)=true->PCall prog 22 [au y.par,au y.par] (B true):=fun _=>Dl;refine cl Dj (aJ ?_);refine ag ?_;refine B2 rfl rfl rfl (fun hc=>⟨ak,Dl hc⟩) (ag ?_);exact af (aY (av rfl rfl))
 .have M:qR f d=.tup [B false,I (dH f)]:=by unfold qR;rw[if_neg C]
  have s9:yZ f=.tup [.z,I (dH f)]:=by unfold yZ;rw[if_neg C]
  have X:∀ d',pV f d'->d'=.tup [.agg [.z,.z,.z],I (dH f)]:=fun d' h=>by
   unfold pV at h
   rwa[if_neg C] at h
  rw[M] at Bb uw;rw[s9] at zR;clear M s9;generalize dH f=e at Bb uw zR C X;refine ag ?_;refine cl Bb (aO ?_);refine er (ag ?_);refine cl uw (aO ?_);refine er (SS ?_);refine kO I9 rfl cv fun d' m' nx' hp=>?_;obtain⟨hp,rfl,rfl⟩:=hp;obtain rfl:=X d' hp;clear X;refine bB ?_;refine er (SS ?_);refine cl zR (aO ?_);refine af (aB (aj (ag ?_)));refine WN ?_;refine bK ?_;refine ag ?_;refine af (cx rfl (fun h=>(by revert h;simp)) fun _=>bP (aB (aj ?_)));have dv:(e !=0)=true:=by simpa using C
  refine ag ?_;refine af (dN (aB (aj (cl Dj (aJ ?_)))));refine bB ?_;exact af (bX (av rfl rfl))
end Go.Proofs.Tryz.K
namespace Go.Proofs.Tryz.K
theorem aaY{f:aG}{d:eW}(hs:yW f):PCall prog 3 [.agg (aH f),.agg (ct d)] (B true):=k3 hs Dj
end Go.Proofs.Tryz.K
end
namespace Go.Argus
open Go.Abs
abbrev EE:Sh:=.pair (.sl m8) (.pair (.sl (.sl m8)) (.pair (.sl (.sl m8)) .unit))
def afu(x:EE.val):eW:=⟨x.1,x.2.1,x.2.2.1⟩
theorem RH(L:List (List Int)):D.sl (List.flatMap (Sh.enc (.sl m8)) L) L.length=bx L:=
 congrArg (D.sl · L.length) ((flat_congr (g:=fun l=>[au l]) (h:=id) (fun l=>congrArg (fun d=>[d]) (B9 (k:=.i64) l)) L).trans ((congrArg (List.flatMap _) (List.map_id L)).trans (flat_one au L)))
theorem ac4(x:EE.val):EE.arg x=.agg (ct (afu x)):=
 Y3 (fun a b c=>D.agg [a,b,c]) (B9 (k:=.i64) x.1) (RH x.2.1) (RH x.2.2.1)
end Go.Argus
