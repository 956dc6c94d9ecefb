/- Part 21. -/
import Derived.Test.YtnagfmlifobdiaaGreatDoorShareShapes4
import Derived.Test.YtnagfmlifobdiaaGreatDoorShareShapes18
import Derived.Test.YtnagfmlifobdiaaGreatDoorShareShapes20
set_option linter.all false
set_option maxHeartbeats 1000000
set_option maxRecDepth 10000
open List(range)
open List(replicate)
section
open Go Go.Abs Go.Proofs Go.Argus
namespace Go.Argus
open Go.Proofs.Tryz.K (nextR)
def ll:List Int->Int->List Int
 |[],n=>[n]
 |x::l,n=>if x<n then x::ll l n else if x=n then x::l else n::x::l
theorem Wa{n:Int}:∀ {l:List Int} {k:Nat},k<=l.length->(∀ j y,j<k->l[j]? =some y->y<n)->(∀ y,l[k]? =some y->¬ y<n)->
 ll l n=if l[k]? =some n then l else l.take k++n::l.drop k
 |[],k,hk,_,_=>by
  have:k=0:=by simpa using hk
  subst this;simp[ll]
 |x::l,0,_,_,h=>by
  have h0:¬ x<n:=h x rfl;by_cases e:x=n
  .subst e;simp[ll]
  .simp[ll,h0,e]
 |x::l,k+1,hk,h1,h2=>by
  have h0:x<n:=h1 0 x oG rfl;have ih:=Wa (n:=n) (l:=l) (k:=k) (by simpa using hk) (fun j y hj hy=>h1 (j+1) y oG (by simpa using hy)) (fun y hy=>h2 y (by simpa using hy));simp only[ll,if_pos h0,ih,List.getElem?_cons_succ];split<;>simp
theorem Me{n x:Int}:∀ {l:List Int},x∈ll l n↔x∈l\/x=n
 |[]=>by simp[ll]
 |y::l=>by
  unfold ll;split
  .rw[List.mem_cons,Me (l:=l),List.mem_cons];exact or_assoc.symm
  .split
   .rename_i e;subst e;simp only[List.mem_cons];constructor
    .exact .inl
    .rintro(h|h)
     .exact h
     .exact .inl h
   .simp only[List.mem_cons];constructor
    .rintro(h|h)
     .exact .inr h
     .exact .inl h
    .rintro(h|h)
     .exact .inr h
     .exact .inl h
theorem TY{n:Int}:∀ {l:List Int},l.Pairwise (·<·)->(ll l n).Pairwise (·<·)
 |[],_=>by simp[ll]
 |y::l,h=>by
  rw[List.pairwise_cons] at h;unfold ll;split
  .rename_i hy;refine List.pairwise_cons.2 ⟨fun z hz=>?_,TY h.2⟩;rcases Me.1 hz with hz|rfl
   .exact h.1 z hz
   .exact hy
  .split
   .exact List.pairwise_cons.2 h
   .refine List.pairwise_cons.2 ⟨fun z hz=>?_,List.pairwise_cons.2 h⟩;rcases List.mem_cons.1 hz with rfl|hz
    .omega
    .have:=h.1 z hz;omega
theorem TZ{n:Int}:∀ {l:List Int},(ll l n).length<=l.length+1
 |[]=>by simp[ll]
 |y::l=>by
  have:=TZ (n:=n) (l:=l);unfold ll;split
  .simp;omega
  .split<;>simp
def s9(l:List Int):List Int:=l.foldl ll []
theorem DU:∀ {l z:List Int},z.Pairwise (·<·)->(l.foldl ll z).Pairwise (·<·)/\(∀ x,x∈l.foldl ll z↔x∈z\/x∈l)/\(l.foldl ll z).length<=z.length+l.length
 |[],z,h=>⟨h,fun x=>by simp,oS⟩
 |y::l,z,h=>by
  obtain⟨h1,h2,C⟩:=DU (l:=l) (TY (n:=y) h);have:=TZ (n:=y) (l:=z);refine⟨h1,fun x=>?_,by simp only[List.length_cons,List.foldl_cons];omega⟩;rw[List.foldl_cons,h2,Me,List.mem_cons,or_assoc]
theorem Va:∀ {l z:List Int},l.Pairwise (·<·)->z.Pairwise (·<·)->(∀ x,x∈l↔x∈z)->l=z
 |[],[],_,_,_=>rfl
 |[],y::z,_,_,h=>by have:=(h y).2 oS;simp at this
 |y::l,[],_,_,h=>by have:=(h y).1 oS;simp at this
 |x::l,y::z,hl,hz,h=>by
  rw[List.pairwise_cons] at hl hz
  have e:x=y:=by
   have h1:=(h x).1 oS;have h2:=(h y).2 oS;rcases List.mem_cons.1 h1 with h1|h1
   .exact h1
   .rcases List.mem_cons.1 h2 with h2|h2
    .exact h2.symm
    .have:=hl.1 y h2;have:=hz.1 x h1;omega
  subst e;rw[Va hl.2 hz.2 fun w=>⟨fun C=>?_,fun C=>?_⟩]
  .rcases List.mem_cons.1 ((h w).1 (by simp[C])) with e|e
   .have:=hl.1 w C;omega
   .exact e
  .rcases List.mem_cons.1 ((h w).2 (by simp[C])) with e|e
   .have:=hz.1 w C;omega
   .exact e
def qG(x:End):List Int:=s9 (fv x)
theorem SV{x:End}{t:Int}:t∈qG x↔t∈fv x:=by
 unfold qG s9;rw[(DU (l:=fv x) (z:=[]) .nil).2.1];simp
theorem ado(x:End):(qG x).length<=x.aC.length+3:=by
 have:=(DU (l:=fv x) (z:=[]) .nil).2.2;have:=Ha x;unfold qG s9;simp at*;omega
def Ei(bs:List bB)(L:Nat->List Int)(b:Nat):Nat->List Int:=match bs[b]? with
 |none=>L
 |some x=>(qG x.fin).foldl (fY b) L
def mB(bs:List bB)(k:Nat):Nat->List Int:=(range k).foldl (Ei bs) fun _=>[]
def lj(x:bK)(c:Int):bK:=if c=116 then { x with to:=0 } else if c=97 then { x with a:=0 } else if c=98 then { x with b:=0 } else if c=110 then { x with n:=0 } else if c=108 then { x with args:=[] } else x
def lU(x:bK):Bool:=aQ x.to 0&&(aQ x.a 0&&(aQ x.b 0&&(aQ x.n 0&&jW x)))
def ct(x:bK)(fs:List Int):Bool:=lU (fs.foldl lj x)
def l8(f:aK)(x:bK):Bool:=
 if aP [30,31,32,33,34] x.op then ct x [116,97,98]&&(bD f x.to 119&&(bD f x.a 119&&bD f x.b 119))
 else if x.op=35 then ct x [97,98]&&(bD f x.a 114&&bD f x.b 118)
 else if x.op=36 then ct x [116,97]&&(bD f x.to 118&&bD f x.a 114)
 else if x.op=37 then ct x [116,97,98]&&(bD f x.to 118&&(bD f x.a 114&&bD f x.b 119))
 else if x.op=38 then ct x [97,98,108]&&(bD f x.a 114&&(bD f x.b 119&&(aQ x.args.length 1&&ie f.ag x.args)))
 else false
def eu(f:aK)(b C:Int)(x:bK):Bool:=
 if x.op=1 then ct x [116,110]&&(bD f x.to 119&&dx x.n (-1000000000) 1000000000)
 else if x.op=2 then ct x [116,97]&&lC f x.to x.a
 else if aP [3,4,6,7] x.op then ct x [116,97,98]&&(bD f x.to 119&&(bD f x.a 119&&bD f x.b 119))
 else if x.op=5 then ct x [116,97,98]&&(bD f x.to 119&&lC f x.a x.b)
 else if x.op=8 then ct x [116,97]&&(bD f x.to 119&&bD f x.a 119)
 else if x.op=9 then ct x [116,110]&&(bD f x.to 114&&dx x.n 0 1)
 else if x.op=10 then ct x [116,110,108]&&(bD f x.to 114&&(dx x.n 0 5&&(dx x.args.length 1 6&&ie f.ag x.args)))
 else if x.op=11 then ct x [116,97,110]&&(bD f x.to 118&&(bD f x.a 114&&dx x.n 0 5))
 else if x.op=12 then ct x [97,98,110]&&(bD f x.a 114&&(bD f x.b 118&&dx x.n 0 5))
 else if aP [13,14] x.op then ct x [116,97]&&(bD f x.to 119&&bD f x.a 114)
 else if x.op=15 then ct x [97]&&bD f x.a 119
 else if x.op=16 then ct x [97]&&bD f x.a 105
 else if x.op=17 then ct x [116,110]&&nr f.ag f.aN x.to x.n
 else if x.op=18 then ct x [97,110]&&nr f.ag f.aN x.a x.n
 else if x.op=19 then !aQ b 0&&(ct x [116,108]&&(bD f x.to 118&&(aQ x.args.length C&&x.args.all (lC f x.to))))
 else false
def iy(x:End)(c:Int):End:=
 if c=97 then { x with a:=0 } else if c=98 then { x with b:=0 } else if c=116 then { x with to:=0 } else if c=101 then { x with fL:=0 }
 else if c=110 then { x with name:=.empty } else if c=105 then { x with ins:=dW } else if c=108 then { x with args:=[] } else x
def qF(x:End):Bool:=aQ x.a 0&&(aQ x.b 0&&(aQ x.to 0&&(aQ x.fL 0&&(x.name.toList==[]&&(aQ x.args.length 0&&(aQ x.ins.op 0&&lU x.ins))))))
def eg(x:End)(fs:List Int):Bool:=(fs.any (·==104)||(aQ x.aC.length 0&&aQ x.others (-1)))&&qF (fs.foldl iy x)
def iz(f:aK)(x:End):Bool:=
 if x.kind=1 then eg x [116]&&cv f x.to
 else if x.kind=2 then eg x [97,116,101]&&(bD f x.a 119&&(cv f x.to&&cv f x.fL))
 else if x.kind=3 then(if f.iter=true\/f.result=0 then eg x [97]&&aQ x.a (-1) else eg x [97]&&(bD f x.a 118&&aQ (cB f.ag x.a) f.result))
 else if x.kind=4 then eg x [110]&&isName x.name
 else if x.kind=5 then eg x [116,105,104]&&(l8 f x.ins&&(cv f x.to&&kz f x))
 else if x.kind=6 then eg x [97,116,110,108,104]&&(jr x.name&&(decide ((x.args.length:Int)<=6)&&(ie f.ag x.args&&((aQ x.a (-1)||bD f x.a 118)&&(cv f x.to&&kz f x)))))
 else if x.kind=7 then eg x [97,116,110,108]&&(jr x.name&&(decide ((x.args.length:Int)<=6)&&(ie f.ag x.args&&(bD f x.a 105&&cv f x.to))))
 else if x.kind=8 then eg x [97,98,116,101,104]&&(bD f x.a 105&&(bD f x.b 118&&(cv f x.to&&(cv f x.fL&&kz f x))))
 else if x.kind=9 then eg x [97,116]&&(f.iter&&(bD f x.a 118&&(aQ (cB f.ag x.a) f.result&&cv f x.to)))
 else false
theorem uN(f:aK)(r:Int):bD f r 119=aQ (cB f.ag r) 1:=rfl
theorem Ac(f:aK)(r:Int):bD f r 114=aQ (cB f.ag r) 2:=rfl
theorem ES(f:aK)(r:Int):bD f r 105=aQ (cB f.ag r) 3:=rfl
theorem tc(f:aK)(r:Int):bD f r 118=eU f.ag r:=rfl
theorem abW{f:aK}{r n:Int}(hs:∀ k∈f.aN,k=1\/k=2)(h:nr f.ag f.aN r n=true):eU f.ag r=true:=by
 unfold nr at h;rw[aB,iW] at h;obtain⟨⟨h1,h2⟩,C⟩:=h;obtain⟨k,rfl⟩:=iG h1;have hk:k<f.aN.length:=by omega
 rw[ug (bc hk)] at C;have C:cB f.ag r=f.aN[k]:=by simpa using C
 have:=hs _ (di hk);unfold eU;rw[C];rcases this with e|e<;>simp[e]
theorem agQ(f:aK)(x:bK):l8 f x=((fk iP x.op).isSome&&oK f.ag x ((fk iP x.op).getD zB)):=by
 obtain⟨op,to,a,b,n,args⟩:=x;unfold l8;dsimp only;by_cases h0:op=30\/op=31\/op=32\/op=33\/op=34
 .rcases h0 with rfl|rfl|rfl|rfl|rfl<;>
   (simp[aP,fk,iP,List.find?,oK,lQ,rM,ql,ct,lj,lU,uN,aQ,jW,dx];grind)
 by_cases C:op=35
 .subst C;simp[aP,fk,iP,List.find?,oK,lQ,rM,ql,ct,lj,lU,uN,Ac,tc,aQ,jW,dx];grind
 by_cases J:op=36
 .subst J;simp[aP,fk,iP,List.find?,oK,lQ,rM,ql,ct,lj,lU,uN,Ac,tc,aQ,jW,dx];grind
 by_cases M:op=37
 .subst M;simp[aP,fk,iP,List.find?,oK,lQ,rM,ql,ct,lj,lU,uN,Ac,tc,aQ,jW,dx];grind
 by_cases O:op=38
 .subst O;simp[aP,fk,iP,List.find?,oK,lQ,rM,ql,ct,lj,lU,uN,Ac,tc,aQ,jW,dx];grind
 have hn:fk iP op=none:=by
  simp only[fk,iP,Option.map_eq_none_iff,List.find?_eq_none];simp;omega
 rw[hn,if_neg (by simp[aP];omega),if_neg C,if_neg J,if_neg M,if_neg O];rfl
theorem agR(f:aK)(to:Int)(l:List Int)(h:eU f.ag to=true):l.all (lC f to)= !l.any fun r=> !aQ (cB f.ag r) (cB f.ag to):=by
 have hk:cB f.ag to=1\/cB f.ag to=2:=by simpa[eU] using h
 rw[List.not_any_eq_all_not];congr 1;funext r;simp only[lC,h,Bool.true_and,aQ,Bool.not_not,eU];grind
theorem Vb{f:aK}{b U:Nat}{x:bK}(hs:∀ k∈f.aN,k=1\/k=2):eu f b U x=jb f b x true U:=by
 have X:= @abW f;obtain⟨op,to,a,b',n,args⟩:=x;unfold eu jb;dsimp only;by_cases O:op=16
 .subst O;simp[aP,ct,lj,lU,ES,aQ,jW];grind
 by_cases M:op=17
 .subst M;simp[aP,ct,lj,lU,aQ,jW];grind
 by_cases C:op=18
 .subst C;simp[aP,ct,lj,lU,aQ,jW];grind
 by_cases J:op=19
 .subst J;cases hv:eU f.ag to with
  |false=>simp[aP,tc,hv]
  |true=>
   rw[agR f to args hv]
   have hb:decide (0<(b:Int))= !decide ((b:Int)=0):=by
    by_cases h:b=0<;>simp[h];omega
   simp[aP,tc,hv,hb,ct,lj,lU,aQ,jW];grind
 rw[if_neg O,if_neg M,if_neg C,if_neg J,if_neg O,if_neg M,if_neg C,if_neg J];by_cases hm:op∈[1,2,3,4,5,6,7,8,9,10,11,12,13,14,15]
 .simp only[List.mem_cons,List.not_mem_nil,or_false] at hm
  rcases hm with rfl|rfl|rfl|rfl|rfl|rfl|rfl|rfl|rfl|rfl|rfl|rfl|rfl|rfl|rfl<;>
   (simp[aP,fk,lB,List.find?,oK,lQ,rM,ql,ct,lj,lU,uN,Ac,tc,aQ,jW,dx,lC,eU];grind)
 .have hn:fk lB op=none:=by
   simp only[fk,lB,Option.map_eq_none_iff,List.find?_eq_none];simp at hm ⊢;omega
  simp only[List.mem_cons,List.not_mem_nil,or_false,not_or] at hm;rw[hn];simp[aP];grind
theorem ML{f:aK}{x:End}(hr:oB f=true):iz f x=gB f x:=by
 have ht:=agQ f x.ins
 have pb:(f.result=1\/f.result=2)\/f.result=0/\f.iter=false:=by
  simp[oB] at hr;grind
 obtain⟨kind,a,b,to,fL,name,ins,args,aC,others⟩:=x;dsimp only at ht;have hz:∀ y:bK,xY y=(aQ y.op 0&&lU y):=fun y=>by simp[xY,lU,aQ,jW]
 have h0:lU dW=true:=rfl;have he:ByteArray.toList .empty=[]:=by simp
 unfold iz gB fw s7;simp only[hz];by_cases h1:kind=1
 .subst h1;simp[eg,iy,qF,aQ];grind
 by_cases h2:kind=2
 .subst h2;simp[eg,iy,qF,aQ,uN];grind
 by_cases C:kind=3
 .subst C;simp[eg,iy,qF,aQ,tc,eU];grind
 by_cases J:kind=4
 .subst J;simp[eg,iy,qF,aQ];grind
 by_cases M:kind=5
 .subst M;simp[eg,iy,qF,aQ,ht,h0,dW];grind
 by_cases O:kind=6
 .subst O;simp[eg,iy,qF,aQ,tc,he];grind
 by_cases U:kind=7
 .subst U;simp[eg,iy,qF,aQ,ES,he];grind
 by_cases X:kind=8
 .subst X;simp[eg,iy,qF,aQ,ES,tc];grind
 by_cases h9:kind=9
 .subst h9;simp[eg,iy,qF,aQ,tc,eU];grind
 simp[h1,h2,C,J,M,O,U,X,h9]
end Go.Argus
namespace Go.Argus
def Ab(y:bK)(d:D):List D:=[U8 y.op,I y.to,I y.a,I y.b,I y.n,d]
theorem Xi:Tr .z:=fun F β w v h=>by
 rw[h.yD];exact .z
def vg(d:D)(l:List Int):Prop:=d=aT l\/d=.z/\l=[]
theorem agA{d:D}{l:List Int}(h:vg d l):Tr d:=by
 rcases h with rfl|⟨rfl,_⟩
 .exact dU _
 .exact Xi
theorem ae8{y:bK}{d:D}(h:vg d y.args):∀ a∈Ab y d,Tr a:=.cons (.s _) (.cons (.s _) (.cons (.s _) (.cons (.s _) (.cons (.s _) (.cons (agA h) .nil)))))
theorem ae9{y:bK}{d:D}(h:vg d y.args):(Ab y d).all D.one=true:=by
 rcases h with rfl|⟨rfl,_⟩<;>rfl
def Xk(y:End)(C J:D):List D:=[U8 y.kind,I y.a,I y.b,I y.to,I y.fL,S y.name,U8 y.ins.op,I y.ins.to,I y.ins.a,I y.ins.b,I y.ins.n,C,J,mo y.aC,I y.others]
end Go.Argus
namespace Go.Proofs.Tryz.K
theorem Xj{x:bK}{d0:D}{s:ByteArray}(U:vg d0 x.args)(hs:s.size<=8):az prog 190 [.agg (Ab x d0),S s] (B (ct x (dd s))):=by
 refine bu akV (.cons (.agg (ae8 U)) (.cons (.s _) .nil)) (Tr.s _) ?_;rw[akW];refine ay ?_;refine cR (uy (cs:=Ab x d0) rfl) aG (ae9 U) ?_;refine SS ?_;refine ab (aX (aY (l:=[(1,S s),(2,.rp 0 0)]) (ml:=[(0,.cells (Ab x d0) 54)]) eH eH) (aI (ay ?_)));refine SS ?_
 refine ab (cD (fun st=>∃ y d,aM prog st ⟨aF [(2,.rp 0 0)],bJ [(0,.cells (Ab y d) 54)],1⟩/\(dd s).foldl lj x=y/\vg d y.args) (dD (α:=Nat×bK×D) (fun q=>⟨aF [(1,S s),(2,.rp 0 0),(5,I q.1)],bJ [(0,.cells (Ab q.2.1 q.2.2) 54)],1⟩)
  (fun q=>q.1<=s.size/\((dd s).take q.1).foldl lj x=q.2.1/\vg q.2.2 q.2.1.args) (fun q=>s.size - q.1) (0,x,d0) (aY eH eH) ⟨Nat.zero_le _,rfl,U⟩ ?_) ?_)
 .rintro⟨k,y,d⟩ ⟨hk,hy,hd⟩;dsimp only at hk hy hd ⊢;refine aR ?_;refine ab ⟨_,rfl,fun h=>?_,fun h=>?_⟩
  .have al:k<s.size:=by simpa using h
   obtain⟨hm,hx⟩:=HK al;generalize hz:s.data.toList.getD (k:Int).toNat 0=z at hm hx;have O:((dd s).take (k+1)).foldl lj x=lj y z.toNat:=by rw[rI hx,hy]
   refine ws ?_;refine av ?_;refine ab (sN (aj ?_));refine af ?_;refine ab (ap rfl (fun h1=>kF ?_) fun h1=>aj ?_)
   .refine af ?_;refine ab ?_;show ax _ _ _ _ _ _ _ _ _;refine av ?_;refine ab (bg (k+1,{ y with to:=0 },d) (aY eH eH) ⟨oM,?_,hd⟩ oM);rw[hz] at h1;rw[O,lj,if_pos (by simpa using h1)]
   rw[hz] at h1;have h1:¬ (z.toNat:Int)=116:=by simpa using h1
   refine af ?_;refine ab (ap rfl (fun h2=>kF ?_) fun h2=>aj ?_)
   .refine af ?_;refine ab ?_;show ax _ _ _ _ _ _ _ _ _;refine av ?_;refine ab (bg (k+1,{ y with a:=0 },d) (aY eH eH) ⟨oM,?_,hd⟩ oM);rw[hz] at h2;rw[O,lj,if_neg h1,if_pos (by simpa using h2)]
   rw[hz] at h2;have h2:¬ (z.toNat:Int)=97:=by simpa using h2
   refine af ?_;refine ab (ap rfl (fun C=>kF ?_) fun C=>aj ?_)
   .refine af ?_;refine ab ?_;show ax _ _ _ _ _ _ _ _ _;refine av ?_;refine ab (bg (k+1,{ y with b:=0 },d) (aY eH eH) ⟨oM,?_,hd⟩ oM);rw[hz] at C;rw[O,lj,if_neg h1,if_neg h2,if_pos (by simpa using C)]
   rw[hz] at C;have C:¬ (z.toNat:Int)=98:=by simpa using C
   refine af ?_;refine ab (ap rfl (fun J=>kF ?_) fun J=>aj ?_)
   .refine af ?_;refine ab ?_;show ax _ _ _ _ _ _ _ _ _;refine av ?_;refine ab (bg (k+1,{ y with n:=0 },d) (aY eH eH) ⟨oM,?_,hd⟩ oM);rw[hz] at J;rw[O,lj,if_neg h1,if_neg h2,if_neg C,if_pos (by simpa using J)]
   rw[hz] at J;have J:¬ (z.toNat:Int)=110:=by simpa using J
   refine af ?_;refine ab (ap rfl (fun M=>kF ?_) fun M=>?_)
   .refine af ?_;refine ab ?_;show ax _ _ _ _ _ _ _ _ _;refine av ?_;refine ab (bg (k+1,{ y with args:=[] },.z) (aY eH eH) ⟨oM,?_,.inr ⟨rfl,rfl⟩⟩ oM);rw[hz] at M;rw[O,lj,if_neg h1,if_neg h2,if_neg C,if_neg J,if_pos (by simpa using M)]
   rw[hz] at M;have M:¬ (z.toNat:Int)=108:=by simpa using M
   refine dE ?_;show ax _ _ _ _ _ _ _ _ _;refine av ?_;refine ab (bg (k+1,y,d) (aY eH eH) ⟨oM,?_,hd⟩ oM);rw[O,lj,if_neg h1,if_neg h2,if_neg C,if_neg J,if_neg M]
  .have bG:¬ k<s.size:=by simpa using h
   rw[cO (by simp[dd];omega)] at hy;exact⟨y,d,aY eH eH,hy,hd⟩
 .rintro st ⟨y,d,hg,hy,hd⟩;refine⟨_,hg,aj ?_⟩;have hl:ct x (dd s)=lU y:=by rw[ct,hy]
  rw[hl];have X:((y.args.length:Int)=0)↔y.args=[]:=⟨fun h=>List.length_eq_zero_iff.1 oG,fun h=>by rw[h];rfl⟩
  rcases hd with rfl|⟨rfl,hd⟩
  .refine bj ?_;refine bj ?_;refine fB ?_;refine ab (aw (d:=.s (.bool _)) rfl ?_);simp[lU,aQ,jW];grind
  .refine bj ?_;refine bj ?_;refine av ?_;refine cq rfl rfl (Vq rfl) (fun hc=>⟨ak,V.h⟩) ?_;refine av ?_;refine ab (aw (d:=.s (.bool _)) rfl ?_);simp[lU,aQ,jW,hd];grind
theorem cy{x:bK}{s:ByteArray}(hs:s.size<=8):az prog 190 [.agg (bA x),S s] (B (ct x (dd s))):=Xj (d0:=aT x.args) (.inl rfl) hs
theorem fy{x:Argus.End}{s:ByteArray}(hs:s.size<=8):az prog 195 [.agg (a8 x),S s] (B (eg x (dd s))):=by
 refine bu akX (.cons (.agg (mr x)) (.cons (.s _) .nil)) (Tr.s _) ?_;rw[akY];refine ay ?_;refine af ?_;refine ab (aX (aY (l:=[(1,S s),(2,.rp 0 0)]) (ml:=[(0,.cells (a8 x) 57)]) eH eH) (aj ?_));refine SS ?_;refine ab (aI (ay ?_));refine SS ?_
 refine ab (cD (fun st=>∃ y C O,aM prog st ⟨aF [(2,.rp 0 0),(5,B ((dd s).any (·==104)))],bJ [(0,.cells (Xk y C O) 57)],1⟩/\(dd s).foldl iy x=y/\vg C y.ins.args/\vg O y.args) (dD (α:=Nat×Argus.End×D×D) (fun q=>⟨aF [(1,S s),(2,.rp 0 0),(5,B (((dd s).take q.1).any (·==104))),(6,I q.1)],bJ [(0,.cells (Xk q.2.1 q.2.2.1 q.2.2.2) 57)],1⟩)
  (fun q=>q.1<=s.size/\((dd s).take q.1).foldl iy x=q.2.1/\vg q.2.2.1 q.2.1.ins.args/\vg q.2.2.2 q.2.1.args) (fun q=>s.size - q.1) (0,x,aT x.ins.args,aT x.args) (aY eH eH) ⟨Nat.zero_le _,rfl,.inl rfl,.inl rfl⟩ ?_) ?_)
 .rintro⟨k,y,C,O⟩ ⟨hk,hy,dc,M⟩;dsimp only at hk hy dc M ⊢;refine aR ?_;refine ab ⟨_,rfl,fun h=>?_,fun h=>?_⟩
  .have al:k<s.size:=by simpa using h
   obtain⟨hm,hx⟩:=HK al;generalize hz:s.data.toList.getD (k:Int).toNat 0=z at hm hx;have dn:((dd s).take (k+1)).foldl iy x=iy y z.toNat:=by rw[rI hx,hy]
   have vj:((dd s).take (k+1)).any (·==104)=(((dd s).take k).any (·==104)||(z.toNat:Int)==104):=by rw[List.take_add_one,hx,List.any_append];simp
   generalize ((dd s).take k).any (·==104)=hb at vj;refine ws ?_;refine av ?_;refine ab (sN (aj ?_));refine af ?_;refine ab (ap rfl (fun h0=>kF ?_) fun h0=>aj ?_)
   .refine af ?_;refine ab ?_;show ax _ _ _ _ _ _ _ _ _;refine av ?_;rw[hz] at h0;have h0:(z.toNat:Int)=97:=by simpa using h0
    refine ab (bg (k+1,{ y with a:=0 },C,O) (aY ⟨rfl,rfl,?_,rfl,trivial⟩ eH) ⟨oM,?_,dc,M⟩ oM)
    .show B hb=B (((dd s).take (k+1)).any (·==104));rw[vj,h0];simp
    .rw[dn,iy,if_pos h0]
   rw[hz] at h0;have h0:¬ (z.toNat:Int)=97:=by simpa using h0
   refine af ?_;refine ab (ap rfl (fun h1=>kF ?_) fun h1=>aj ?_)
   .refine af ?_;refine ab ?_;show ax _ _ _ _ _ _ _ _ _;refine av ?_;rw[hz] at h1;have h1:(z.toNat:Int)=98:=by simpa using h1
    refine ab (bg (k+1,{ y with b:=0 },C,O) (aY ⟨rfl,rfl,?_,rfl,trivial⟩ eH) ⟨oM,?_,dc,M⟩ oM)
    .show B hb=B (((dd s).take (k+1)).any (·==104));rw[vj,h1];simp
    .rw[dn,iy,if_neg h0,if_pos h1]
   rw[hz] at h1;have h1:¬ (z.toNat:Int)=98:=by simpa using h1
   refine af ?_;refine ab (ap rfl (fun h2=>kF ?_) fun h2=>aj ?_)
   .refine af ?_;refine ab ?_;show ax _ _ _ _ _ _ _ _ _;refine av ?_;rw[hz] at h2;have h2:(z.toNat:Int)=116:=by simpa using h2
    refine ab (bg (k+1,{ y with to:=0 },C,O) (aY ⟨rfl,rfl,?_,rfl,trivial⟩ eH) ⟨oM,?_,dc,M⟩ oM)
    .show B hb=B (((dd s).take (k+1)).any (·==104));rw[vj,h2];simp
    .rw[dn,iy,if_neg h0,if_neg h1,if_pos h2]
   rw[hz] at h2;have h2:¬ (z.toNat:Int)=116:=by simpa using h2
   refine af ?_;refine ab (ap rfl (fun J=>kF ?_) fun J=>aj ?_)
   .refine af ?_;refine ab ?_;show ax _ _ _ _ _ _ _ _ _;refine av ?_;rw[hz] at J;have J:(z.toNat:Int)=101:=by simpa using J
    refine ab (bg (k+1,{ y with fL:=0 },C,O) (aY ⟨rfl,rfl,?_,rfl,trivial⟩ eH) ⟨oM,?_,dc,M⟩ oM)
    .show B hb=B (((dd s).take (k+1)).any (·==104));rw[vj,J];simp
    .rw[dn,iy,if_neg h0,if_neg h1,if_neg h2,if_pos J]
   rw[hz] at J;have J:¬ (z.toNat:Int)=101:=by simpa using J
   refine af ?_;refine ab (ap rfl (fun U=>kF ?_) fun U=>aj ?_)
   .refine af ?_;refine ab ?_;show ax _ _ _ _ _ _ _ _ _;refine av ?_;rw[hz] at U;have U:(z.toNat:Int)=110:=by simpa using U
    refine ab (bg (k+1,{ y with name:=.empty },C,O) (aY ⟨rfl,rfl,?_,rfl,trivial⟩ eH) ⟨oM,?_,dc,M⟩ oM)
    .show B hb=B (((dd s).take (k+1)).any (·==104));rw[vj,U];simp
    .rw[dn,iy,if_neg h0,if_neg h1,if_neg h2,if_neg J,if_pos U]
   rw[hz] at U;have U:¬ (z.toNat:Int)=110:=by simpa using U
   refine af ?_;refine ab (ap rfl (fun X=>kF ?_) fun X=>aj ?_)
   .refine av ?_;refine ab ?_;show ax _ _ _ _ _ _ _ _ _;refine av ?_;rw[hz] at X;have X:(z.toNat:Int)=105:=by simpa using X
    refine ab (bg (k+1,{ y with ins:=dW },.z,O) (aY ⟨rfl,rfl,?_,rfl,trivial⟩ eH) ⟨oM,?_,.inr ⟨rfl,rfl⟩,M⟩ oM)
    .show B hb=B (((dd s).take (k+1)).any (·==104));rw[vj,X];simp
    .rw[dn,iy,if_neg h0,if_neg h1,if_neg h2,if_neg J,if_neg U,if_pos X]
   rw[hz] at X;have X:¬ (z.toNat:Int)=105:=by simpa using X
   refine af ?_;refine ab (ap rfl (fun h6=>kF ?_) fun h6=>aj ?_)
   .refine af ?_;refine ab ?_;show ax _ _ _ _ _ _ _ _ _;refine av ?_;rw[hz] at h6;have h6:(z.toNat:Int)=108:=by simpa using h6
    refine ab (bg (k+1,{ y with args:=[] },C,.z) (aY ⟨rfl,rfl,?_,rfl,trivial⟩ eH) ⟨oM,?_,dc,.inr ⟨rfl,rfl⟩⟩ oM)
    .show B hb=B (((dd s).take (k+1)).any (·==104));rw[vj,h6];simp
    .rw[dn,iy,if_neg h0,if_neg h1,if_neg h2,if_neg J,if_neg U,if_neg X,if_pos h6]
   rw[hz] at h6;have h6:¬ (z.toNat:Int)=108:=by simpa using h6
   refine af ?_;refine ab (ap rfl (fun h8=>kF ?_) fun h8=>?_)
   .refine SS ?_;refine ab ?_;show ax _ _ _ _ _ _ _ _ _;refine av ?_;rw[hz] at h8;refine ab (bg (k+1,y,C,O) (aY ⟨rfl,rfl,?_,rfl,trivial⟩ eH) ⟨oM,?_,dc,M⟩ oM)
    .show B true=B (((dd s).take (k+1)).any (·==104));rw[vj,h8];simp
    .rw[dn,iy,if_neg h0,if_neg h1,if_neg h2,if_neg J,if_neg U,if_neg X,if_neg h6]
   rw[hz] at h8;refine dE ?_;show ax _ _ _ _ _ _ _ _ _;refine av ?_;refine ab (bg (k+1,y,C,O) (aY ⟨rfl,rfl,?_,rfl,trivial⟩ eH) ⟨oM,?_,dc,M⟩ oM)
   .show B hb=B (((dd s).take (k+1)).any (·==104));rw[vj,h8];simp
   .rw[dn,iy,if_neg h0,if_neg h1,if_neg h2,if_neg J,if_neg U,if_neg X,if_neg h6]
  .have bG:¬ k<s.size:=by simpa using h
   rw[cO (by simp[dd];omega)] at hy ⊢;exact⟨y,C,O,aY eH eH,hy,dc,M⟩
 .rintro st ⟨y,C,O,hg,hy,dc,M⟩;refine⟨_,hg,aI (aj ?_)⟩
  have hl:eg x (dd s)=(((dd s).any (·==104)||(aQ y.aC.length 0&&aQ y.others (-1)))&&qF y):=by
   have hw:∀ (l:List Int) (x:Argus.End),(l.foldl iy x).aC=x.aC/\(l.foldl iy x).others=x.others:=fun l=>by
    induction l with
    |nil=>exact fun _=>⟨rfl,rfl⟩
    |cons a l ih=>
     intro x
     have:(iy x a).aC=x.aC/\(iy x a).others=x.others:=by
      unfold iy
      repeat' split
      all_goals exact⟨rfl,rfl⟩
     rw[List.foldl_cons,(ih _).1,(ih _).2,this.1,this.2];exact⟨rfl,rfl⟩
   obtain⟨h1,h2⟩:=hw (dd s) x;rw[hy] at h1 h2;rw[eg,hy,h1,h2]
  rw[hl];clear hl hy;generalize (dd s).any (·==104)=hb;have cy:az prog 190 [.agg [U8 y.ins.op,I y.ins.to,I y.ins.a,I y.ins.b,I y.ins.n,C],S ⟨#[]⟩] (B (lU y.ins)):=Xj (x:=y.ins) dc oC;refine bj ?_;refine aR ?_;refine ab (dZ rfl (fun h=>?_) fun h=>cX (aj ?_))
  .refine aI (aj ?_);refine SS ?_;refine ab (eb (aw (d:=.s (.bool _)) rfl ?_));revert h;simp[aQ];grind
  rcases M with rfl|⟨rfl,M⟩
  .refine bj ?_;refine bj ?_;refine bj ?_;refine bj ?_;refine af ?_;refine gc cy ?_;refine af ?_;refine ab (aw (d:=.s (.bool _)) rfl ?_);revert h;simp[qF,aQ];grind
  .refine bj ?_;refine bj ?_;refine cP ?_;refine cq rfl rfl (Vq rfl) (fun hc=>⟨ak,V.h⟩) ?_;refine bj ?_;refine af ?_;refine gc cy ?_;refine af ?_;refine ab (aw (d:=.s (.bool _)) rfl ?_);revert h;simp[qF,aQ,M];grind
end Go.Proofs.Tryz.K
end
namespace Go.Abs
section
variable{P:Program}{m:Mem}{br:List Nat}
end
end Go.Abs
section
open Go Go.Abs Go.Proofs Go.Argus
namespace Go.Proofs.Tryz.K
set_option maxRecDepth 100000
def bP(x:Argus.End)(l:List Int)(s:St):Prop:=∃ r m nx,r<nx/\m r=some (.cells (l.map I) 3)/\aM prog s ⟨aF [(1,.pt (a8 x)),(3,.rs r 0 l.length)],m,nx⟩
theorem se{x:Argus.End}(hlen:x.aC.length<=100000):az prog 137 [.agg (a8 x)] (aT (fv x)):=by
 have bx:∀ a∈[D.agg (a8 x)],Tr a:=.cons (.agg (mr x)) .nil;refine bu akZ bx (dU _) ?_;rw[ak0];refine ay ?_;refine af ?_;refine ab (aX (bZ [(0,a8 x,57)] eH (l:=[(1,.pt (a8 x))]) eH) (ay ?_));refine SS ?_;refine ab ⟨_,.sU _ _ _ 3 3 rfl,?_⟩;refine eT (bP x (kX x)) (aj ?_) fun s hs=>?_
 .have yes:x.kind≠3/\x.kind≠4->kX x=[x.to]:=fun h=>by rw[kX,if_pos h]
  have no:¬ (x.kind≠3/\x.kind≠4)->kX x=[]:=fun h=>by rw[kX,if_neg h]
  have aA:up (fun _=>(none:Option Row)) 1 (some (.cells [] 3)) 1=some (.cells [] 3):=an _ _ _;by_cases O:x.kind=3
  .have pX:(x.kind !=3)=false:=by simp[O]
   refine aR ?_;(iterate 3 refine z fun _ _=>?_);refine SS ?_;refine ab (ap rfl (fun h=>oH) fun h=>bw ?_);rw[no (by simp[O])];exact⟨_,_,_,Nat.lt_succ_self _,an _ _ _,ao eH⟩
  .by_cases C:x.kind=4
   .have pX:(x.kind !=3)=true:=by simp[C]
    have U:(x.kind !=4)=false:=by simp[C]
    refine cP ?_;refine ab (ap rfl (fun h=>(by simp[C] at h)) fun h=>bw ?_);rw[no (by simp[C])];exact⟨_,_,_,Nat.lt_succ_self _,an _ _ _,ao eH⟩
   .have pX:(x.kind !=3)=true:=by simp[O]
    have U:(x.kind !=4)=true:=by simp[C]
    refine cP ?_;refine ab (ap rfl (fun h=>?_) fun h=>(by simp[C] at h));refine kF ?_;refine aR ?_;refine eE (eC rfl rfl rfl V.h V.h (gL rfl rfl) rfl) ak ⟨V.h,rfl,(by first|omega|exact bt rfl|(simp;done)|(simp;omega)),oC,(by first|rfl|(simp;done)|(simp;omega)),(by unfold maxLen;first|omega|(simp;omega)),(by rw[b3];first|omega|(simp;omega)),(by first|(simp;done)|(simp;omega))⟩ ?_;refine SS ?_;refine ab ?_;rw[yes ⟨O,C⟩];exact⟨_,_,_,Nat.lt_succ_self _,an _ _ _,ao eH⟩
 obtain⟨r,m,nx,hr,aA,hg⟩:=hs;refine⟨_,hg,eT (bP x (qg x)) (aj ?_) fun s hs=>?_⟩
 .have M:qg x=if x.kind=2\/x.kind=8 then kX x++[x.fL] else kX x:=rfl
  have J:(kX x).length<=1:=by unfold kX;split<;>simp
  generalize kX x=l at aA M J;have sx:(l.map I).length=l.length:=by simp
  by_cases h2:x.kind=2\/x.kind=8
  .rw[if_pos h2] at M;refine cP ?_;refine ab (ap rfl (fun h=>kF ?_) fun h=>(by rcases h2 with h2|h2<;>simp[h2] at h));refine cG ?_;refine ab ?_;rw[M];refine⟨_,_,_,Nat.lt_succ_self _,(an _ _ _).trans (by rw[List.map_append];rfl),ao ⟨rfl,?_,trivial⟩⟩;show D.rs _ 0 _=D.rs _ 0 _;rw[List.length_append];rfl
  .rw[if_neg h2] at M;refine cP ?_;refine ab (ap rfl (fun h=>(by exfalso;apply h2;revert h;by_cases e2:x.kind=2<;>by_cases e8:x.kind=8<;>simp[e2,e8])) fun h=>bw ?_);rw[M];exact⟨r,m,nx,hr,aA,ao eH⟩
 clear hg hr aA;obtain⟨r,m,nx,hr,aA,hg⟩:=hs;refine⟨_,hg,eT (bP x (gz x x.aC.length)) (ay ?_) fun s hs=>?_⟩
 .refine SS ?_
  refine ab (dD (α:=Nat×Nat×Mem×Nat) (fun s=>⟨aF [(1,.pt (a8 x)),(3,.rs s.2.1 0 (gz x s.1).length),(4,I s.1)],s.2.2.1,s.2.2.2⟩)
   (fun s=>s.1<=x.aC.length/\s.2.1<s.2.2.2/\s.2.2.1 s.2.1=some (.cells ((gz x s.1).map I) 3)) (fun s=>x.aC.length - s.1) (0,r,m,nx) (ao ⟨rfl,?_,rfl,trivial⟩) ⟨Nat.zero_le _,hr,?_⟩ ?_)
  .show D.rs r 0 _=D.rs r 0 _;simp[gz]
  .show m r=_;rw[aA];simp[gz]
  clear hg hr aA;rintro⟨j,r,m,nx⟩ ⟨hj,hr,aA⟩;dsimp only at hj hr aA ⊢;refine bm ?_;refine ab ⟨_,rfl,fun h=>?_,fun h=>?_⟩
  .have dK:j<x.aC.length:=by simpa using h
   have hy:x.aC[j]? =some x.aC[j]:=bc dK;generalize x.aC[j]=w at hy;have X:=ae' hy;have Gj:(gz x (j+1)).length=(gz x j).length+1:=by rw[X];simp
   have sx:((gz x j).map I).length=(gz x j).length:=by simp
   have J:(gz x j).length<=2+j:=by have:=MG x;unfold gz;simp;omega
   generalize gz x j=l at aA X sx Gj J;refine jn ?_;refine cP ?_;refine af ?_;refine ab ?_;refine av ?_;refine ab (bg (j+1,nx+1,_,_) (ao ⟨rfl,?_,rfl,trivial⟩) ⟨oM,oM,?_⟩ oM)
   .show D.rs _ 0 _=D.rs _ 0 _;rw[Gj]
   .dsimp only;rw[X,List.map_append];exact an _ _ _
  .have bG:¬ j<x.aC.length:=by simpa using h
   have:j=x.aC.length:=by omega
   subst this;exact⟨r,m,nx,hr,aA,ao eH⟩
 clear hg hr aA;obtain⟨r,m,nx,hr,aA,hg⟩:=hs;refine⟨_,hg,eT (bP x (fv x)) (aj ?_) fun s hs=>?_⟩
 .have hd:fv x=if 0<=x.others then gz x x.aC.length++[x.others] else gz x x.aC.length:=rfl
  have J:(gz x x.aC.length).length<=2+x.aC.length:=by have:=MG x;unfold gz;simp;omega
  generalize gz x x.aC.length=l at aA hd J;have sx:(l.map I).length=l.length:=by simp
  refine av ?_;refine ab (ap rfl (fun h=>kF ?_) fun h=>bw ?_)
  .rw[if_pos (by simpa using h)] at hd;refine cG ?_;refine ab ?_;rw[hd];refine⟨_,_,_,Nat.lt_succ_self _,(an _ _ _).trans (by rw[List.map_append];rfl),ao ⟨rfl,?_,trivial⟩⟩;show D.rs _ 0 _=D.rs _ 0 _;rw[List.length_append];rfl
  .rw[if_neg (by simpa using h)] at hd;rw[hd];exact⟨r,m,nx,hr,aA,ao eH⟩
 clear hg hr aA;obtain⟨r,m,nx,hr,aA,hg⟩:=hs;refine⟨_,hg,ay ?_⟩;refine af ?_;refine ab (aX (bZ [(r,(fv x).map I,3)] ⟨aA,trivial⟩ (l:=[(2,aT (fv x))]) ⟨lT (sz:=1) c3 (by rw[List.drop_zero,cO oS]),trivial⟩) (aw rfl rfl))
theorem Pt{l:List Int}{n:Int}(hl:l.length<=100000):az prog 198 [aT l,I n] (aT (ll l n)):=by
 refine bu ak2 (.cons (dU _) (.cons (.s _) .nil)) (dU _) ?_;rw[ak3];refine ws ?_;refine SS ?_;refine ab (ay ?_);refine SS ?_
 refine ab (cD (fun st=>∃ k:Nat,aM prog st ⟨aF [(0,aT l),(1,I n),(5,I k)],fun _=>none,0⟩/\k<=l.length/\(∀ (j:Nat) y,j<k->l[j]? =some y->y<n)/\∀ y,l[k]? =some y->¬ y<n) (Mm (α:=Nat) (fun k=>⟨aF [(0,aT l),(1,I n),(5,I k)],fun _=>none,0⟩)
  (fun k=>k<=l.length/\∀ (j:Nat) y,j<k->l[j]? =some y->y<n) (fun k=>l.length - k) 0 (ao eH) ⟨Nat.zero_le _,fun j y hj=>by omega⟩ ?_) ?_)
 .rintro k ⟨hk,hinv⟩;by_cases al:k<l.length
  .have hx:l[k]? =some l[k]:=bc al;generalize l[k]=y at hx;have qS:decide ((k:Int)<(l.length:Int))=true:=decide_eq_true oG;refine bj ?_;refine av ?_;refine ab ⟨_,rfl,fun h=>?_,fun h=>?_⟩
   .have hy:y<n:=by simpa using h
    refine jn ?_;refine av ?_;refine ab (bg (k+1) (ao eH) ⟨oG,fun j M hj hz=>?_⟩ oG);by_cases e:j=k
    .subst e;rw[hx] at hz;cases hz;exact hy
    .exact hinv j M oG hz
   .have hy:¬ y<n:=by simpa using h
    exact⟨k,ao eH,hk,hinv,fun M hz=>by rw[hx] at hz;cases hz;exact hy⟩
  .have qS:decide ((k:Int)<(l.length:Int))=false:=decide_eq_false oG;refine bm ?_;(iterate 6 refine z fun _ _=>?_);refine SS ?_;refine ab ⟨_,rfl,fun h=>oH,fun h=>?_⟩;exact⟨k,ao eH,hk,hinv,fun M hz=>by have:=(bX.1 hz).1;omega⟩
 .rintro st ⟨k,hg,hk,hinv,bH⟩;have U:=Wa hk hinv bH;refine⟨_,hg,aI (aj ?_)⟩;by_cases X:l[k]? =some n
  .rw[if_pos X] at U;have qS:decide ((k:Int)<(l.length:Int))=true:=decide_eq_true (by have:=(bX.1 X).1;omega);refine bj ?_;refine av ?_;refine ab (dZ rfl (fun h=>?_) fun h=>(by simp at h));refine aI (aj ?_);refine af ?_;refine ab (eb (aw rfl ?_));rw[U];rfl
  rw[if_neg X] at U
  have iE:((l.map I).drop ((0:Int).toNat*1)).take (((k:Int) - 0).toNat*1)=(l.take k).map I:=by
   rw[show(0:Int).toNat*1=0 by simp,show((k:Int) - 0).toNat*1=k by omega,List.drop_zero,List.map_take]
  have tN:((l.map I).drop ((k:Int).toNat*1)).take (((l.length:Int) - k).toNat*1)=(l.drop k).map I:=by
   rw[show(k:Int).toNat*1=k by omega, <- List.map_drop,cO (by simp;try omega)]
  have QO:((l.take k).map I).take (((k:Int) - 0).toNat*1)=(l.take k).map I:=cO (by simp;try omega);have QP:((l.drop k).map I).take (((l.length:Int) - k).toNat*1)=(l.drop k).map I:=cO (by simp;try omega);have AZ:((l.take k).map I).length=k:=by simp;omega
  have F6:((l.drop k).map I).length=l.length - k:=by simp
  have O:((l.take k).map I++[I n])++(l.drop k).map I=(l.take k++n::l.drop k).map I:=by simp
  have hlen:(l.take k++n::l.drop k).length=l.length+1:=by simp;omega
  rw[U];generalize l.take k++n::l.drop k=M at O hlen;generalize (l.take k).map I=A at iE QO AZ O;generalize (l.drop k).map I=C at tN QP F6 O;by_cases al:k<l.length
  .have hx:l[k]? =some l[k]:=bc al;have bf:l[k]≠n:=fun e=>X (by rw[hx,e]);generalize l[k]=y at hx bf;have qS:decide ((k:Int)<(l.length:Int))=true:=decide_eq_true oG;have ki:(y==n)=false:=by simpa using bf
   refine bj ?_;refine av ?_;refine ab (dZ rfl (fun h=>oH) fun h=>cX (aj ?_));refine av ?_;refine aq (Bu (es':=A) rfl dm c3 rfl rfl iE) aG ⟨df,oG,oG,oG⟩ ?_;have J:=QO
   (first|refine eE (eC rfl rfl rfl dm c3 (fN J) rfl) aG ⟨df,rfl,(by first|omega|exact bt rfl|(simp;done)|(simp;omega)),oC,(by first|rfl|(simp;done)|(simp;omega)),(by unfold maxLen;first|omega|(simp;omega)),(by rw[b3];first|omega|(simp;omega)),(by first|(simp;done)|(simp;omega))⟩ ?_|refine eE (eC rfl rfl rfl dm c3 (gL rfl rfl) rfl) aG ⟨df,rfl,(by first|omega|exact bt rfl|(simp;done)|(simp;omega)),oC,(by first|rfl|(simp;done)|(simp;omega)),(by unfold maxLen;first|omega|(simp;omega)),(by rw[b3];first|omega|(simp;omega)),(by first|(simp;done)|(simp;omega))⟩ ?_|refine cR (jV rfl rfl dm c3 (fN J)) aG ⟨df,(by first|omega|exact bt rfl|(simp;done)|(simp;omega)),oC,(by unfold maxLen;first|omega|(simp;omega)),(by rw[b3];first|omega|(simp;omega))⟩ ?_|refine cR (jV rfl rfl dm c3 (gL rfl rfl)) aG ⟨df,(by first|omega|exact bt rfl|(simp;done)|(simp;omega)),oC,(by unfold maxLen;first|omega|(simp;omega)),(by rw[b3];first|omega|(simp;omega))⟩ ?_)
   refine aq (gX (v:=.s (.int _ _)) rfl) aG trivial ?_
   (first|refine cR (mV (cs:=[_]) dm c3 z3 rfl rfl) aG ⟨rfl,oC,df,oC⟩ ?_|refine cR (mV dm c3 z3 rfl rfl) aG ⟨rfl,oC,df,oC⟩ ?_)
   (first|refine eE (eC rfl rfl rfl dm c3 (fN J) rfl) aG ⟨df,rfl,(by first|omega|exact bt rfl|(simp;done)|(simp;omega)),oC,(by first|rfl|(simp;done)|(simp;omega)),(by unfold maxLen;first|omega|(simp;omega)),(by rw[b3];first|omega|(simp;omega)),(by first|(simp;done)|(simp;omega))⟩ ?_|refine eE (eC rfl rfl rfl dm c3 (gL rfl rfl) rfl) aG ⟨df,rfl,(by first|omega|exact bt rfl|(simp;done)|(simp;omega)),oC,(by first|rfl|(simp;done)|(simp;omega)),(by unfold maxLen;first|omega|(simp;omega)),(by rw[b3];first|omega|(simp;omega)),(by first|(simp;done)|(simp;omega))⟩ ?_|refine cR (jV rfl rfl dm c3 (fN J)) aG ⟨df,(by first|omega|exact bt rfl|(simp;done)|(simp;omega)),oC,(by unfold maxLen;first|omega|(simp;omega)),(by rw[b3];first|omega|(simp;omega))⟩ ?_|refine cR (jV rfl rfl dm c3 (gL rfl rfl)) aG ⟨df,(by first|omega|exact bt rfl|(simp;done)|(simp;omega)),oC,(by unfold maxLen;first|omega|(simp;omega)),(by rw[b3];first|omega|(simp;omega))⟩ ?_)
   (first|refine aq (eQ (v:=.sl _ _) rfl) aG trivial ?_|refine aq (eQ (v:=.rs _ _ _) rfl) aG trivial ?_|refine aq (eQ (v:=.z) rfl) aG trivial ?_)
   refine ab (ay ?_);refine av ?_;refine aq (Bu (es':=C) rfl dm c3 rfl rfl tN) aG ⟨df,oG,oG,oG⟩ ?_;have J:=QP
   (first|refine eE (eC rfl rfl rfl dm c3 (fN J) rfl) aG ⟨df,rfl,(by first|omega|exact bt rfl|(simp;done)|(simp;omega)),oC,(by first|rfl|(simp;done)|(simp;omega)),(by unfold maxLen;first|omega|(simp;omega)),(by rw[b3];first|omega|(simp;omega)),(by first|(simp;done)|(simp;omega))⟩ ?_|refine eE (eC rfl rfl rfl dm c3 (gL rfl rfl) rfl) aG ⟨df,rfl,(by first|omega|exact bt rfl|(simp;done)|(simp;omega)),oC,(by first|rfl|(simp;done)|(simp;omega)),(by unfold maxLen;first|omega|(simp;omega)),(by rw[b3];first|omega|(simp;omega)),(by first|(simp;done)|(simp;omega))⟩ ?_|refine cR (jV rfl rfl dm c3 (fN J)) aG ⟨df,(by first|omega|exact bt rfl|(simp;done)|(simp;omega)),oC,(by unfold maxLen;first|omega|(simp;omega)),(by rw[b3];first|omega|(simp;omega))⟩ ?_|refine cR (jV rfl rfl dm c3 (gL rfl rfl)) aG ⟨df,(by first|omega|exact bt rfl|(simp;done)|(simp;omega)),oC,(by unfold maxLen;first|omega|(simp;omega)),(by rw[b3];first|omega|(simp;omega))⟩ ?_)
   (first|refine aq (eQ (v:=.sl _ _) rfl) aG trivial ?_|refine aq (eQ (v:=.rs _ _ _) rfl) aG trivial ?_|refine aq (eQ (v:=.z) rfl) aG trivial ?_)
   refine ab (aX (bZ [(4,M.map I,3)] ⟨by rw[<- O];rfl,trivial⟩ (l:=[(4,aT M)]) ⟨?_,trivial⟩) (bp (aw rfl rfl)));show tE _ [(4,_,3)] (.rs 4 0 (0+((k:Int) - 0).toNat+1+((l.length:Int) - k).toNat))=_;rw[show 0+((k:Int) - 0).toNat+1+((l.length:Int) - k).toNat=M.length by omega];exact lT (sz:=1) c3 (by rw[List.drop_zero,cO oS])
  .have qS:decide ((k:Int)<(l.length:Int))=false:=decide_eq_false oG;refine bm ?_;(iterate 6 refine z fun _ _=>?_);refine SS ?_;refine ab (dZ rfl (fun h=>oH) fun h=>cX (aj ?_));refine av ?_;refine aq (Bu (es':=A) rfl dm c3 rfl rfl iE) aG ⟨df,oG,oG,oG⟩ ?_;have J:=QO
   (first|refine eE (eC rfl rfl rfl dm c3 (fN J) rfl) aG ⟨df,rfl,(by first|omega|exact bt rfl|(simp;done)|(simp;omega)),oC,(by first|rfl|(simp;done)|(simp;omega)),(by unfold maxLen;first|omega|(simp;omega)),(by rw[b3];first|omega|(simp;omega)),(by first|(simp;done)|(simp;omega))⟩ ?_|refine eE (eC rfl rfl rfl dm c3 (gL rfl rfl) rfl) aG ⟨df,rfl,(by first|omega|exact bt rfl|(simp;done)|(simp;omega)),oC,(by first|rfl|(simp;done)|(simp;omega)),(by unfold maxLen;first|omega|(simp;omega)),(by rw[b3];first|omega|(simp;omega)),(by first|(simp;done)|(simp;omega))⟩ ?_|refine cR (jV rfl rfl dm c3 (fN J)) aG ⟨df,(by first|omega|exact bt rfl|(simp;done)|(simp;omega)),oC,(by unfold maxLen;first|omega|(simp;omega)),(by rw[b3];first|omega|(simp;omega))⟩ ?_|refine cR (jV rfl rfl dm c3 (gL rfl rfl)) aG ⟨df,(by first|omega|exact bt rfl|(simp;done)|(simp;omega)),oC,(by unfold maxLen;first|omega|(simp;omega)),(by rw[b3];first|omega|(simp;omega))⟩ ?_)
   refine aq (gX (v:=.s (.int _ _)) rfl) aG trivial ?_
   (first|refine cR (mV (cs:=[_]) dm c3 z3 rfl rfl) aG ⟨rfl,oC,df,oC⟩ ?_|refine cR (mV dm c3 z3 rfl rfl) aG ⟨rfl,oC,df,oC⟩ ?_)
   (first|refine eE (eC rfl rfl rfl dm c3 (fN J) rfl) aG ⟨df,rfl,(by first|omega|exact bt rfl|(simp;done)|(simp;omega)),oC,(by first|rfl|(simp;done)|(simp;omega)),(by unfold maxLen;first|omega|(simp;omega)),(by rw[b3];first|omega|(simp;omega)),(by first|(simp;done)|(simp;omega))⟩ ?_|refine eE (eC rfl rfl rfl dm c3 (gL rfl rfl) rfl) aG ⟨df,rfl,(by first|omega|exact bt rfl|(simp;done)|(simp;omega)),oC,(by first|rfl|(simp;done)|(simp;omega)),(by unfold maxLen;first|omega|(simp;omega)),(by rw[b3];first|omega|(simp;omega)),(by first|(simp;done)|(simp;omega))⟩ ?_|refine cR (jV rfl rfl dm c3 (fN J)) aG ⟨df,(by first|omega|exact bt rfl|(simp;done)|(simp;omega)),oC,(by unfold maxLen;first|omega|(simp;omega)),(by rw[b3];first|omega|(simp;omega))⟩ ?_|refine cR (jV rfl rfl dm c3 (gL rfl rfl)) aG ⟨df,(by first|omega|exact bt rfl|(simp;done)|(simp;omega)),oC,(by unfold maxLen;first|omega|(simp;omega)),(by rw[b3];first|omega|(simp;omega))⟩ ?_)
   (first|refine aq (eQ (v:=.sl _ _) rfl) aG trivial ?_|refine aq (eQ (v:=.rs _ _ _) rfl) aG trivial ?_|refine aq (eQ (v:=.z) rfl) aG trivial ?_)
   refine ab (ay ?_);refine av ?_;refine aq (Bu (es':=C) rfl dm c3 rfl rfl tN) aG ⟨df,oG,oG,oG⟩ ?_;have J:=QP
   (first|refine eE (eC rfl rfl rfl dm c3 (fN J) rfl) aG ⟨df,rfl,(by first|omega|exact bt rfl|(simp;done)|(simp;omega)),oC,(by first|rfl|(simp;done)|(simp;omega)),(by unfold maxLen;first|omega|(simp;omega)),(by rw[b3];first|omega|(simp;omega)),(by first|(simp;done)|(simp;omega))⟩ ?_|refine eE (eC rfl rfl rfl dm c3 (gL rfl rfl) rfl) aG ⟨df,rfl,(by first|omega|exact bt rfl|(simp;done)|(simp;omega)),oC,(by first|rfl|(simp;done)|(simp;omega)),(by unfold maxLen;first|omega|(simp;omega)),(by rw[b3];first|omega|(simp;omega)),(by first|(simp;done)|(simp;omega))⟩ ?_|refine cR (jV rfl rfl dm c3 (fN J)) aG ⟨df,(by first|omega|exact bt rfl|(simp;done)|(simp;omega)),oC,(by unfold maxLen;first|omega|(simp;omega)),(by rw[b3];first|omega|(simp;omega))⟩ ?_|refine cR (jV rfl rfl dm c3 (gL rfl rfl)) aG ⟨df,(by first|omega|exact bt rfl|(simp;done)|(simp;omega)),oC,(by unfold maxLen;first|omega|(simp;omega)),(by rw[b3];first|omega|(simp;omega))⟩ ?_)
   (first|refine aq (eQ (v:=.sl _ _) rfl) aG trivial ?_|refine aq (eQ (v:=.rs _ _ _) rfl) aG trivial ?_|refine aq (eQ (v:=.z) rfl) aG trivial ?_)
   refine ab (aX (bZ [(4,M.map I,3)] ⟨by rw[<- O];rfl,trivial⟩ (l:=[(4,aT M)]) ⟨?_,trivial⟩) (bp (aw rfl rfl)));show tE _ [(4,_,3)] (.rs 4 0 (0+((k:Int) - 0).toNat+1+((l.length:Int) - k).toNat))=_;rw[show 0+((k:Int) - 0).toNat+1+((l.length:Int) - k).toNat=M.length by omega];exact lT (sz:=1) c3 (by rw[List.drop_zero,cO oS])
end Go.Proofs.Tryz.K
end
namespace Go.Argus
open Go Go.Abs
open Go.Proofs.Tryz.K (nextR)
def vo(w v:List Int):Prop:=∀ r,eM w r=true->eM v r=true
theorem vo.refl(w:List Int):vo w w:=fun _ h=>h
theorem vo.trans{u w v:List Int}(h:vo u w)(k:vo w v):vo u v:=fun r x=>k r (h r x)
structure ff(w:List Int):Prop where
 len:w.length=20
 all:hP w
theorem ff.gD{w:List Int}(h:ff w)(n:Int):ff (gD w n):=⟨by simp[h.len],R6 h.all⟩
theorem adI{w v:List Int}(C:ff w)(hv:ff v)(h:vo w v)(n:Int):vo (gD w n) (gD v n):=by
 unfold Argus.gD;split
 .by_cases hn:n.toNat / 64<20
  .intro r;rw[Mc C.all (by rw[C.len];exact hn),Mc hv.all (by rw[hv.len];exact hn),Bool.or_eq_true,Bool.or_eq_true];exact Or.imp (h r) id
  .unfold ym;rw[List.set_eq_of_length_le (by rw[C.len];omega),List.set_eq_of_length_le (by rw[hv.len];omega)];exact h
 .exact h
theorem hP.fR{w v:List Int}(h:hP w)(hv:hP v):∀ k,hP (fR w v k)
 |0=>h
 |k+1=>(hP.fR h hv k).set (SL ((hP.fR h hv k).get _)).1
theorem S7{w v:List Int}(h:hP w)(hv:hP v):∀ k,k<=w.length->∀ r,eM (fR w v k) r=(eM w r&&(eM v r|| !decide (r / 64<k)))
 |0,_,r=>by simp[Argus.fR]
 |k+1,hk,r=>by
  have ih:=S7 h hv k oG;rw[Argus.fR,U' oP];split
  .rename_i e;have h1:=ih r;have h2:¬ r / 64<k:=by omega
   simp only[h2,decide_false,Bool.not_false,Bool.or_true,Bool.and_true] at h1;unfold eM at h1;rw[e] at h1;rw[We ((hP.fR h hv k).get _) (hv.get _),h1];unfold eM;rw[e];simp
  .rename_i e;rw[ih r];have:decide (r / 64<k)=decide (r / 64<k+1):=decide_eq_decide.2 oG;rw[this]
theorem Md{w v:List Int}(C:ff w)(hv:ff v)(r:Nat):eM (jf w v) r=(eM w r&&eM v r):=by
 unfold jf;rw[S7 C.all hv.all 20 (by rw[C.len];exact bM _)];by_cases hr:r / 64<20
 .simp[hr]
 .have:eM w r=false:=by
   unfold eM;rw[eh,List.getElem?_eq_none (by rw[C.len];omega)];simp
  simp[this]
theorem ff.PA{w v:List Int}(C:ff w)(hv:ff v):ff (jf w v):=⟨by simp[C.len],C.all.fR hv.all 20⟩
structure YB(s t:List Int×Bool):Prop where
 l:ff s.1
 r:ff t.1
 sub:vo s.1 t.1
 ok:s.2=true->t.2=true
theorem S8{w v:List Int}(C:ff w)(hv:ff v)(h:vo w v):∀ (rs:List Int) {a b:Bool},(a=true->b=true)->jq w a rs=true->jq v b rs=true
 |[],_,_,rz,hx=>rz hx
 |r::rs,a,b,rz,hx=>by
  have hx:jq w (a&&lF w r.toNat) rs=true:=hx;refine S8 C hv h rs (a:=a&&lF w r.toNat) (b:=b&&lF v r.toNat) ?_ hx;rw[aB,aB,zx C.all,zx hv.all];exact fun hh=>⟨rz hh.1,h _ hh.2⟩
theorem DW{s t:List Int×Bool}(h:YB s t)(x:bK):YB (mI s x) (mI t x):=by
 refine⟨h.l.gD _,h.r.gD _,adI h.l h.r h.sub _,?_⟩;unfold mI;simp only[aB,Bool.or_eq_true];rintro⟨a,b⟩;refine⟨S8 h.l h.r h.sub _ h.ok a,b.imp id ?_⟩;rw[zx h.l.all,zx h.r.all];exact h.sub _
theorem Hb{α:Type}{f:CS->α->CS}(hk:∀ s a,s.ch=true->(f s a).ch=true)(hn:∀ s a,(f s a).ch=false->f s a=s):∀ (l:List α) (s:CS),(l.foldl f s).ch=false->l.foldl f s=s/\∀ a∈l,f s a=s
 |[],s,_=>⟨rfl,fun a ha=>by simp at ha⟩
 |a::l,s,h=>by
  obtain⟨h1,h2⟩:=Hb hk hn l (f s a) h;have C:f s a=s:=hn s a (by rw[<- h1];exact h);rw[C] at h1 h2;refine⟨by rw[List.foldl_cons,C];exact h1,fun b hb=>?_⟩;rcases List.mem_cons.1 hb with rfl|hb
  .exact C
  .exact h2 b hb
theorem TW{α:Type}{f:CS->α->CS}(hk:∀ s a,s.ch=true->(f s a).ch=true):∀ (l:List α) (s:CS),s.ch=true->(l.foldl f s).ch=true
 |[],_,h=>h
 |a::l,s,h=>TW hk l (f s a) (hk s a h)
theorem No{x:End}{w:List Int}(s:CS)(t:Int)(h:s.ch=true):(cY x w s t).ch=true:=by
 unfold cY;split
 .rfl
 .exact h
theorem Wf{x:End}{w:List Int}(s:CS)(t:Int)(h:(cY x w s t).ch=false):cY x w s t=s:=by
 unfold cY at h ⊢;split
 .rename_i hc;rw[if_pos hc] at h;cases h
 .rfl
theorem afp{bs:List bB}(s:CS)(k:Nat)(h:s.ch=true):(dP bs s k).ch=true:=by
 unfold dP;split
 .exact h
 .split
  .exact TW No _ s h
  .exact h
theorem afq{bs:List bB}(s:CS)(k:Nat)(h:(dP bs s k).ch=false):dP bs s k=s:=by
 unfold dP at h ⊢;split
 .rfl
 .rename_i x hx;rw[hx] at h;simp only at h;split
  .rename_i hr;rw[if_pos hr] at h;exact(Hb No Wf _ s h).1
  .rfl
structure YC(bs:List bB)(s:CS):Prop where
 fix:∀ b x,bs[b]? =some x->s.re.getD b false=true->∀ t∈nextR x.fin,s.re.getD t.toNat false=true/\jf (s.wsq.getD t.toNat []) (gO x.fin t (jE x (s.wsq.getD b [])).1)=s.wsq.getD t.toNat []
theorem afr{bs:List bB}{s:CS}(h:(jS bs s).ch=false):jS bs s=⟨s.wsq,s.re,false⟩/\YC bs (jS bs s):=by
 obtain⟨h1,h2⟩:=Hb (afp (bs:=bs)) (afq (bs:=bs)) (range bs.length) ⟨s.wsq,s.re,false⟩ h;have e:jS bs s=⟨s.wsq,s.re,false⟩:=h1;refine⟨e,⟨fun b x hx hr t ht=>?_⟩⟩;rw[e] at hr ⊢;have C:=h2 b (List.mem_range.2 (bX.1 hx).1);have J:(dP bs ⟨s.wsq,s.re,false⟩ b).ch=false:=by rw[C]
 unfold dP at C J;rw[hx] at C J;simp only at C J hr;rw[if_pos hr] at C J;have O:=(Hb No Wf _ _ J).2 t ht;have M:(cY x.fin (jE x (s.wsq.getD b [])).1 ⟨s.wsq,s.re,false⟩ t).ch=false:=by rw[O]
 unfold cY at M;split at M
 .cases M
 .rename_i hc;have hc:=not_or.1 hc;refine⟨by simpa using hc.1,Classical.byContradiction fun hh=>hc.2 hh⟩
theorem TX{bs:List bB}{n:Nat}{J:CS->Prop}(hb:∀ b∈bs,uL n b)(C:∀ s,gF n s->J s->J (jS bs s)):∀ (k:Nat) (s:CS),gF n s->J s->rA s<k->gF n (lM bs k s)/\YC bs (lM bs k s)/\J (lM bs k s)
 |0,s,_,_,h=>absurd h (Nat.not_lt_zero _)
 |k+1,s,hs,hj,h=>by
  obtain⟨M,O⟩:=DG hb hs;unfold lM;split
  .rename_i hc;refine TX hb C k _ M (C s hs hj) ?_;unfold pj at O;rw[if_pos hc] at O;omega
  .rename_i hc;exact⟨M,(afr (by simpa using hc)).2,C s hs hj⟩
theorem afs{bs:List bB}{n:Nat}{J:CS->Prop}(hb:∀ b∈bs,uL n b)(h0:∀ s,J s->J ⟨s.wsq,s.re,false⟩)(C:∀ s k,gF n s->J s->J (dP bs s k)){s:CS}(hs:gF n s)(h:J s):J (jS bs s):=by
 unfold jS
 have:∀ (l:List Nat) (s:CS),gF n s->J s->J (l.foldl (dP bs) s):=fun l=>by
  induction l with
  |nil=>exact fun s _ h=>h
  |cons a l ih=>exact fun s hs h=>ih _ (L8 hb hs).1 (C s a hs h)
 exact this _ _ ⟨hs.lw,hs.lr,hs.lx,hs.rg⟩ (h0 s h)
theorem agP{bs:List bB}{n:Nat}{J:CS->Prop}(hb:∀ b∈bs,uL n b){s:CS}{k:Nat}(hs:gF n s)(h:J s)
 (C:∀ x,bs[k]? =some x->s.re.getD k false=true->∀ u,gF n u->J u->∀ t∈nextR x.fin,J (cY x.fin (jE x (s.wsq.getD k [])).1 u t)):J (dP bs s k):=by
 unfold dP;split
 .exact h
 .rename_i x hx;split
  .rename_i hr;have C:=C x hx hr;have M:=(hb x (cx hx)).to;generalize (jE x (s.wsq.getD k [])).1=w at C
   have:∀ (l:List Int),(∀ t∈l,t∈nextR x.fin)->∀ u,gF n u->J u->J (l.foldl (cY x.fin w) u):=fun l=>by
    induction l with
    |nil=>exact fun _ u _ h=>h
    |cons a l ih=>exact fun hl u hu h=>ih (fun t ht=>hl t (by simp[ht])) _ (GQ hu (M a (hl a oS))).1 (C u hu h a (hl a oS))
   exact this _ (fun _ h=>h) s hs h
  .exact h
theorem Hc{α:Type}{l:List α}{k i:Nat}{x d:α}(hk:k<l.length):(l.set k x).getD i d=if i=k then x else l.getD i d:=by
 rw[eh,List.getElem?_set,eh];by_cases h:k=i
 .subst h;rw[if_pos rfl,if_pos rfl,if_pos hk];rfl
 .rw[if_neg h,if_neg fun e=>h e.symm]
theorem gF.Yx{n:Nat}{s:CS}(h:gF n s){b:Nat}(hb:b<n):ff (s.wsq.getD b []):=by
 have hl:b<s.wsq.length:=by rw[h.lw];exact hb
 have hx:s.wsq[b]? =some s.wsq[b]:=bc hl;rw[getD_some hx];have hm:s.wsq[b]∈s.wsq:=di _;exact⟨h.lx _ hm,h.rg _ hm⟩
structure Cert where
 any:Bool
 is:List Bool
def gU(R i:Nat):Nat:=if i<R then i else 1200+(i - R)
def cF(R n:Nat)(w:List Int):List Bool:=(range n).map fun i=>eM w (gU R i)
def nv(R n:Nat)(w:List Int):Prop:=∀ r,eM w r=true->∃ i,i<n/\r=gU R i
def kK(c:Cert)(r:Int):Cert:=if r= -1 then c else⟨c.any,c.is.set r.toNat true⟩
def wD(R:Nat)(c:Cert)(x:bK):Cert:=if x.op=18 then kK (kK c (dV x)) ((R:Int)+x.n) else kK c (dV x)
def fG(R:Nat)(l:List bK)(c:Cert):Cert:=l.foldl (wD R) c
def nY(x:End)(to:Int)(c:Cert):Cert:=if x.to≠to\/(fv x).tail.any (·==to)=true\/x.kind=3\/x.kind=4 then c else kK c (fc x)
def qH(a b:Cert):Cert:=if a.any=true then b else if b.any=true then a else⟨false,List.zipWith (fun x y=>x&&y) a.is b.is⟩
def sC(c:Cert)(rs:List Int):Bool:=rs.all fun r=>c.is.getD r.toNat false
theorem D7(R n:Nat)(w:List Int):(cF R n w).length=n:=by simp[cF]
theorem ux{R n i:Nat}{w:List Int}(h:i<n):(cF R n w)[i]? =some (eM w (gU R i)):=by simp[cF,h]
theorem BI{R n i:Nat}{w:List Int}(h:¬ i<n):(cF R n w)[i]? =none:=by simp[cF];omega
theorem agS{R i j:Nat}(hR:R<=1200)(h:gU R i=gU R j):i=j:=by
 unfold gU at h;split at h<;>split at h<;>omega
theorem agT{w:List Int}(h:w.length=20){r:Nat}(hr:¬ r<1280):eM w r=false:=by
 unfold eM;rw[eh,List.getElem?_eq_none (by rw[h];omega)];simp
section
variable{R n:Nat}(hR:R<=1200)(hn:n<=R+60)
include hR hn
theorem ahV{i:Nat}(h:i<n):gU R i<1280:=by unfold gU;split<;>omega
theorem S9{w:List Int}(C:ff w){i:Nat}(h:i<n)(r:Nat):eM (gD w (gU R i:Nat)) r=(eM w r||decide (r=gU R i)):=by
 have:=ahV hR hn h;unfold gD;rw[if_pos oG,eI,Mc C.all (by rw[C.len];omega)]
theorem Hr{w:List Int}(C:ff w){i:Nat}(h:i<n):(cF R n w).set i true=cF R n (gD w (gU R i:Nat)):=by
 apply List.ext_getElem?;intro j;rw[List.getElem?_set];by_cases hj:j<n
 .rw[ux hj,ux hj,S9 hR hn C h];by_cases e:i=j
  .subst e;simp[D7,h]
  .rw[if_neg e];have:¬ gU R j=gU R i:=fun h=>e (agS hR h).symm;simp[this]
 .rw[BI hj,BI hj];split
  .rw[D7,if_neg oG]
  .rfl
theorem He{w:List Int}(C:ff w)(ho:nv R n w){i:Nat}(h:i<n):nv R n (gD w (gU R i:Nat)):=fun r hr=>by
 rw[S9 hR hn C h,Bool.or_eq_true] at hr;rcases hr with hr|hr
 .exact ho r hr
 .exact⟨i,h,by simpa using hr⟩
omit hR hn in
theorem aft{w v:List Int}(C:ff w)(hv:ff v):List.zipWith (fun x y=>x&&y) (cF R n w) (cF R n v)=cF R n (jf w v):=by
 apply List.ext_getElem?;intro j;rw[List.getElem?_zipWith];by_cases hj:j<n
 .rw[ux hj,ux hj,ux hj,Md C hv]
 .rw[BI hj,BI hj,BI hj]
omit hR hn in
theorem S'{w v:List Int}(C:ff w)(hv:ff v)(ho:nv R n v):nv R n (jf w v):=fun r hr=>by
 rw[Md C hv,aB] at hr;exact ho r hr.2
omit hR hn in
theorem agU{w v:List Int}(M:ff w)(hv:ff v)(J:nv R n w)(O:nv R n v)(h:cF R n w=cF R n v):w=v:=by
 refine Ta M.all hv.all (by rw[M.len,hv.len]) fun r=>?_
 have hb:∀ i,i<n->eM w (gU R i)=eM v (gU R i):=fun i hi=>by
  have:=congrArg (fun l:List Bool=>l[i]?) h;simpa only[ux hi,aV] using this
 cases C:eM w r with
 |true=>
  obtain⟨i,hi,rfl⟩:=J r C;rw[<- hb i hi,C]
 |false=>
  cases e2:eM v r with
  |false=>rfl
  |true=>
   obtain⟨i,hi,rfl⟩:=O r e2;rw[hb i hi,e2] at C;cases C
end
def uO:List Int:=replicate 20 l7
theorem Mf:ff uO:=⟨by simp[uO],fun u hu=>by rw[List.eq_of_mem_replicate hu];simp[eF,l7]⟩
theorem afu{r:Nat}(h:r<1280):eM uO r=true:=by
 have h1:uO.getD (r / 64) 0=l7:=by
  unfold uO;rw[eh,List.getElem?_replicate,if_pos oG];rfl
 unfold eM;rw[h1];have h2:r % 64<64:=Nat.mod_lt _ oC;have C:l7.toNat=2 ^ 64 - 1:=rfl;rw[C,Nat.testBit_two_pow_sub_one];simpa using h2
theorem adJ{w:List Int}(C:ff w):jf uO w=w:=by
 refine Ta (Mf.PA C).all C.all (by rw[(Mf.PA C).len,C.len]) fun r=>?_;rw[Md Mf C];by_cases h:r<1280
 .rw[afu h,Bool.true_and]
 .rw[agT C.len h,Bool.and_false]
structure Av(R n:Nat)(x:bK):Prop where
 w:dV x= -1\/∃ i:Nat,i<R/\dV x=i
 s:x.op=18->∃ i:Nat,R+i<n/\x.n=i
theorem T0{R n:Nat}(hR:R<=1200)(hn:n<=R+60)(X:R<=n){w:List Int}{x:bK}(h:Av R n x)(C:ff w)(ho:nv R n w):
 wD R ⟨false,cF R n w⟩ x=⟨false,cF R n (xX w x)⟩/\ff (xX w x)/\nv R n (xX w x):=by
 have O:∀ {v:List Int},gD v (-1)=v:=fun {v}=>by unfold gD;rw[if_neg oG]
 have M:∀ {i:Nat},i<R->((i:Nat):Int)=(gU R i:Nat):=fun {i} hi=>by unfold gU;rw[if_pos hi]
 unfold wD xX;by_cases J:x.op=18
 .obtain⟨i,hi,e⟩:=h.s J;have U:dV x= -1:=by simp[dV,aP,nN,pw,J]
  have hp:lL x.n=(gU R (R+i):Nat):=by rw[e];unfold lL gU;rw[if_neg oG];omega
  rw[if_pos J,if_pos J,U,hp];refine⟨?_,C.gD _,He hR hn C ho hi⟩;unfold kK;rw[if_pos rfl,if_neg oG,e, <- Hr hR hn C hi];congr 2
 .rw[if_neg J,if_neg J];rcases h.w with e|⟨i,hi,e⟩
  .rw[e,O];exact⟨if_pos rfl,C,ho⟩
  .rw[e,M hi];refine⟨?_,C.gD _,He hR hn C ho oG⟩;unfold kK;rw[if_neg oG, <- Hr hR hn C oG, <- M hi,eI]
theorem D8{R n:Nat}(hR:R<=1200)(hn:n<=R+60)(C:R<=n):∀ {l:List bK} (_:∀ x∈l,Av R n x) {w:List Int} {ok:Bool} (_:ff w) (_:nv R n w),
 fG R l ⟨false,cF R n w⟩=⟨false,cF R n (l.foldl mI (w,ok)).1⟩/\ff (l.foldl mI (w,ok)).1/\nv R n (l.foldl mI (w,ok)).1
 |[],_,w,ok,hw,ho=>⟨rfl,hw,ho⟩
 |x::l,h,w,ok,hw,ho=>by
  obtain⟨h1,h2,J⟩:=T0 hR hn C (h x oS) hw ho;unfold fG;rw[List.foldl_cons,List.foldl_cons,h1];exact D8 hR hn C (fun y hy=>h y (by simp[hy])) h2 J
theorem count_tail{l:List Int}{a b:Int}(h:a=b):((a::l).count b=1)↔l.any (·==b)=false:=by
 subst h;rw[List.count_cons_self,List.any_eq_false];constructor
 .intro h x hx;have h0:l.count a=0:=by omega
  rw[List.count_eq_zero] at h0;intro e;have:x=a:=by simpa using e
  subst this;exact h0 hx
 .intro h;have:l.count a=0:=List.count_eq_zero.2 fun hm=>h a hm oS;omega
theorem T2{R n:Nat}(hR:R<=1200)(hn:n<=R+60)(rH:R<=n){x:End}(he:fv x=dB x)(X:fc x= -1\/∃ i:Nat,i<R/\fc x=i){to:Int}{w:List Int}(C:ff w)(ho:nv R n w):
 nY x to ⟨false,cF R n w⟩=⟨false,cF R n (gO x to w)⟩/\ff (gO x to w)/\nv R n (gO x to w):=by
 have U:∀ {v:List Int},gD v (-1)=v:=fun {v}=>by unfold gD;rw[if_neg oG]
 have O:BV x to=true↔¬ (x.to≠to\/(fv x).tail.any (·==to)=true\/x.kind=3\/x.kind=4):=by
  unfold BV;rw[aB,iK,iK,he];unfold dB;by_cases J:x.kind=3\/x.kind=4
  .rw[if_pos (by simpa[aP] using J)];simp[J]
  .rw[if_neg (by simpa[aP] using J),List.tail_cons];generalize ((if aP [2,8] x.kind=true then [x.fL] else [])++(x.aC.map (·.to)++if jk x=true then [x.others] else []))=l;constructor
   .rintro⟨h1,h2⟩ h;rcases h with h|h|h|h
    .exact h h1
    .have:=(count_tail (l:=l) h1).1 oG;rw[this] at h;cases h
    .exact J (.inl h)
    .exact J (.inr h)
   .intro h;have h1:x.to=to:=Classical.byContradiction fun e=>h (.inl e);refine⟨h1,?_⟩;have:=(count_tail (l:=l) h1).2 (Bool.eq_false_iff.2 fun e=>h (.inr (.inl e)));omega
 unfold nY gO;by_cases ha:BV x to=true
 .rw[if_pos ha,if_neg (O.1 ha)];rcases X with e|⟨i,hi,e⟩
  .rw[e,U];exact⟨if_pos rfl,C,ho⟩
  .have M:((i:Nat):Int)=(gU R i:Nat):=by unfold gU;rw[if_pos hi]
   rw[e,M];refine⟨?_,C.gD _,He hR hn C ho oG⟩;unfold kK;rw[if_neg oG, <- Hr hR hn C oG, <- M,eI]
 .rw[if_neg ha,if_pos (Classical.byContradiction fun h=>ha (O.2 h))];exact⟨rfl,C,ho⟩
structure qJ(R n N:Nat)(s:CS):Prop where
 ok:gF N s
 yes:∀ k,k<N->s.re.getD k false=true->nv R n (s.wsq.getD k [])
 no:∀ k,k<N->s.re.getD k false=false->s.wsq.getD k []=uO
def cH(R n:Nat)(s:CS)(k:Nat):Cert:=if s.re.getD k false=true then⟨false,cF R n (s.wsq.getD k [])⟩ else⟨true,replicate n false⟩
def CL(x:End)(R n:Nat)(w:List Int)(s:CS)(t:Nat):Cert:=qH (cH R n s t) (nY x t ⟨false,cF R n w⟩)
theorem U5{R n N:Nat}(hR:R<=1200)(hn:n<=R+60)(rH:R<=n){s:CS}(hs:qJ R n N s){x:End}(he:fv x=dB x)(rF:fc x= -1\/∃ i:Nat,i<R/\fc x=i){t:Nat}(ht:t<N)
 {w:List Int} (hw:ff w) (ho:nv R n w):
 qJ R n N (cY x w s t)/\((CL x R n w s t=cH R n s t/\cY x w s t=s)\/((CL x R n w s t).any≠(cH R n s t).any\/(CL x R n w s t).is≠(cH R n s t).is)/\(cY x w s t).ch=true/\
  ∀ k,cH R n (cY x w s t) k=if k=t then CL x R n w s t else cH R n s k):=by
 obtain⟨o1,C,M⟩:=T2 hR hn rH he rF (to:=(t:Int)) hw ho;have hlw:s.wsq.length=N:=hs.ok.lw;have hlr:s.re.length=N:=hs.ok.lr;have nH:=hs.ok.Yx ht;have ZS:=(GQ (x:=x) (w:=w) (t:=(t:Int)) hs.ok ⟨oG,oG⟩).1;unfold CL;rw[o1];generalize hv:gO x t w=v at C M
 have key:∀ u:List Int,(s.re.getD t false=true->u≠s.wsq.getD t [])->jf (s.wsq.getD t []) v=u->nv R n u->qH (cH R n s t) ⟨false,cF R n v⟩=⟨false,cF R n u⟩->(⟨false,cF R n u⟩:Cert).any≠(cH R n s t).any\/cF R n u≠(cH R n s t).is->
  qJ R n N (cY x w s t)/\((qH (cH R n s t) ⟨false,cF R n v⟩=cH R n s t/\cY x w s t=s)\/((qH (cH R n s t) ⟨false,cF R n v⟩).any≠(cH R n s t).any\/(qH (cH R n s t) ⟨false,cF R n v⟩).is≠(cH R n s t).is)/\(cY x w s t).ch=true/\
  ∀ k,cH R n (cY x w s t) k=if k=t then qH (cH R n s t) ⟨false,cF R n v⟩ else cH R n s k):=fun u hu hm U hb bf=>by
  have X:cY x w s t=⟨s.wsq.set t u,s.re.set t true,true⟩:=by
   unfold cY;rw[eI,hv,hm,if_pos];cases e:s.re.getD t false with
   |false=>exact .inl rfl
   |true=>exact .inr (hu e)
  rw[X] at ZS ⊢;have O:∀ k,(s.wsq.set t u).getD k []=if k=t then u else s.wsq.getD k []:=fun k=>Hc oG
  have y4:∀ k,(s.re.set t true).getD k false=if k=t then true else s.re.getD k false:=fun k=>Hc oG
  refine⟨⟨ZS,fun k hk h=>?_,fun k hk h=>?_⟩,.inr ⟨?_,rfl,fun k=>?_⟩⟩
  .rw[O];rw[y4] at h;by_cases e:k=t
   .rw[if_pos e];exact U
   .rw[if_neg e] at h ⊢;exact hs.yes k hk h
  .rw[O];rw[y4] at h;by_cases e:k=t
   .rw[if_pos e] at h;cases h
   .rw[if_neg e] at h ⊢;exact hs.no k hk h
  .rw[hb];exact bf
  .rw[hb];unfold cH;rw[O,y4];by_cases e:k=t
   .rw[if_pos e,if_pos e,if_pos e,if_pos rfl]
   .rw[if_neg e,if_neg e,if_neg e]
 cases J:s.re.getD t false with
 |false=>
  have hc:cH R n s t=⟨true,replicate n false⟩:=by unfold cH;rw[J];rfl
  refine key v (fun h=>by rw[J] at h;cases h) (by rw[hs.no t ht J,adJ C]) M ?_ (.inl ?_)
  .rw[hc];rfl
  .rw[hc];simp
 |true=>
  have hc:cH R n s t=⟨false,cF R n (s.wsq.getD t [])⟩:=by unfold cH;rw[J];rfl
  have hb:qH (cH R n s t) ⟨false,cF R n v⟩=⟨false,cF R n (jf (s.wsq.getD t []) v)⟩:=by
   rw[hc];unfold qH;rw[if_neg oS,if_neg oS,aft nH C]
  by_cases hm:jf (s.wsq.getD t []) v=s.wsq.getD t []
  .have X:cY x w s t=s:=by
    unfold cY;rw[eI,hv,hm,J,if_neg oS]
   rw[X,hb,hm,hc];exact⟨hs,.inl ⟨rfl,rfl⟩⟩
  .refine key _ (fun _=>hm) rfl (S' nH C M) hb (.inr fun e=>hm ?_);rw[hc] at e;exact agU (nH.PA C) nH (S' nH C M) (hs.yes t ht J) e
theorem U4{R n N:Nat}{s:CS}(h:qJ R n N s)(c:Bool):qJ R n N ⟨s.wsq,s.re,c⟩:=⟨⟨h.ok.lw,h.ok.lr,h.ok.lx,h.ok.rg⟩,h.yes,h.no⟩
theorem SX{R n N args:Nat}(hR:R<=1200)(hn:n<=R+60)(rH:R<=n)(O:0<N)(ha:args<=R):qJ R n N (lz N args)/\cH R n (lz N args) 0=⟨false,replicate args true++replicate (n - args) false⟩/\
 ∀ k,0<k->k<N->cH R n (lz N args) k=⟨true,replicate n false⟩:=by
 have X:∀ k,k<=R->ff (jJ k)/\nv R n (jJ k)/\cF R n (jJ k)=replicate k true++replicate (n - k) false:=fun k=>by
  induction k with
  |zero=>
   intro _;have hz:∀ r,eM (jJ 0) r=false:=afv 20;refine⟨⟨oS,GU 0⟩,(fun r hr=>by rw[hz r] at hr;cases hr),?_⟩;apply List.ext_getElem?;intro j;by_cases hj:j<n
   .rw[ux hj,hz];simp[hj]
   .rw[BI hj];simp;omega
  |succ k ih=>
   intro hk;obtain⟨h1,h2,J⟩:=ih oG;have hO:((k:Nat):Int)=(gU R k:Nat):=by unfold gU;rw[if_pos oG]
   have he:jJ (k+1)=gD (jJ k) (gU R k:Nat):=by rw[<- hO];rfl
   rw[he];refine⟨h1.gD _,He hR hn h1 h2 oG,?_⟩;rw[<- Hr hR hn h1 oG,J,ME oG]
 obtain⟨h1,h2,J⟩:=X args ha;have C:∀ k,(lz N args).wsq.getD k []=if k=0 then jJ args else(replicate N uO).getD k []:=fun k=>Hc (by simpa using O)
 have gr:∀ k,(lz N args).re.getD k false=if k=0 then true else(replicate N false).getD k false:=fun k=>Hc (by simpa using O)
 have M:∀ k,k<N->(replicate N uO).getD k []=uO:=fun k hk=>by rw[eh,List.getElem?_replicate,if_pos hk];rfl
 have U:∀ k,(replicate N false).getD k false=false:=fun k=>by
  rw[eh,List.getElem?_replicate];split<;>rfl
 refine⟨⟨K0 (GU args),fun k hk h=>?_,fun k hk h=>?_⟩,?_,fun k h0 hk=>?_⟩
 .rw[gr] at h;rw[C];by_cases e:k=0
  .rw[if_pos e];exact h2
  .rw[if_neg e,U] at h;cases h
 .rw[gr] at h;rw[C];by_cases e:k=0
  .rw[if_pos e] at h;cases h
  .rw[if_neg e];exact M k hk
 .unfold cH;rw[gr,C,if_pos rfl,if_pos rfl,if_pos rfl,J]
 .unfold cH;rw[gr,if_neg (show ¬ k=0 by omega),U];rfl
end Go.Argus
section
open Go Go.Abs Go.Proofs Go.Argus
namespace Go.Abs
theorem U0{P:Program}{st:St}{a n:Nat}{ty:TypeId}{cs vs:List D}(ha:st.env a=.pt cs)(hg:bI P ty=true)(hc:P.cellsOf ty=n)(hv:cs.take n=vs)(ht:aO P ty=true)(hl:n<=cs.length):
 ∃ p,r8 P st (.cell a ty)=some (p,.agg vs)/\p:=⟨aO P ty=true/\n<=cs.length,by simp only[r8,ha,kH,hg,if_true,hc,hv],ht,hl⟩
end Go.Abs
namespace Go.Argus
def cJ(c:Cert):List D:=[B c.any,mq c.is]
@[simp] theorem aqH (c : Cert) : (cJ c).length = 2 := rfl
theorem uA(c:Cert):∀ a∈cJ c,Tr a:=.cons (.s _) (.cons (.sl (.map fun _=>.s _)) .nil)
theorem G'(c:Cert)(r:Int):(kK c r).is.length=c.is.length:=by unfold kK;split<;>simp
theorem afa(R:Nat)(c:Cert)(x:bK):(wD R c x).is.length=c.is.length:=by unfold wD;split<;>simp[G']
theorem DT(R:Nat):∀ (l:List bK) (c:Cert),(fG R l c).is.length=c.is.length
 |[],_=>rfl
 |x::l,c=>by
  unfold fG;rw[List.foldl_cons];exact(DT R l _).trans (afa R c x)
theorem SU(x:End)(to:Int)(c:Cert):(nY x to c).is.length=c.is.length:=by unfold nY;split<;>simp[G']
def Fu(n:Nat)(r:Int):Prop:=r= -1\/∃ i:Nat,i<n/\r=i
theorem dq{l:List Int}{n c:Int}(h:(n==c)=true)(hm:c∈l):B (n==c)=B (aP l n):=by
 have:aP l n=true:=List.any_eq_true.2 ⟨c,hm,h⟩;rw[h,this]
end Go.Argus
namespace Go.Proofs.Tryz.K
theorem tq{c:Cert}{rs:List Int}(M:∀ r∈rs,∃ i:Nat,i<c.is.length/\r=i):az prog 104 [.agg (cJ c),aT rs] (B (sC c rs)):=by
 have C:∀ a∈[D.agg (cJ c),aT rs],Tr a:=.cons (.agg (uA c)) (.cons (dU _) .nil);refine pr Xl.he C fun O=>?_;have hlen:=(O (aT rs) oS).sl.1;unfold maxLen at hlen;refine bu Xl C (Tr.s _) ?_;rw[ak4];refine ay ?_;refine af ?_;refine ab (aX (bZ [(0,cJ c,163)] eH (l:=[(1,aT rs),(2,.pt (cJ c))]) eH) (aI (ay ?_)));refine SS ?_
 refine ab (cD (fun s=>aM prog s ⟨aF [],fun _=>none,1⟩/\∀ (j:Nat) y,rs[j]? =some y->c.is.getD y.toNat false=true) (dD (α:=Nat) (fun k=>⟨aF [(1,aT rs),(2,.pt (cJ c)),(5,I k)],fun _=>none,1⟩)
  (fun k=>k<=rs.length/\∀ j y,j<k->rs[j]? =some y->c.is.getD y.toNat false=true) (fun k=>rs.length - k) 0 (ao eH) ⟨oG,fun j y hj=>by omega⟩ ?_) ?_)
 .rintro k ⟨hk,hinv⟩;refine aR ?_;refine ab ⟨_,rfl,fun h=>?_,fun h=>?_⟩
  .have al:k<rs.length:=by simpa using h
   have hx:rs[k]? =some rs[k]:=bc al;obtain⟨i,hi,e⟩:=M _ (di al);have hy:c.is[i]? =some c.is[i]:=bc hi;rw[e] at hx;clear e
   have hg:∀ y,rs[k]? =some y->c.is.getD y.toNat false=c.is[i]:=fun y h=>by
    rw[hx] at h;cases h;rw[eI,getD_some hy]
   generalize c.is[i]=b at hy hg;refine ej adl ?_;refine bj ?_;refine bN bO (ap rfl (fun hp=>?_) fun hp=>?_)
   .refine ws ?_;refine SS ?_;refine ab (bp (cZ (a6 (aw (d:=B false) rfl ?_))));have:sC c rs=false:=List.all_eq_false.2 ⟨_,cx hx,by rw[hg _ hx];simpa using hp⟩;rw[this]
   .refine dE ?_;refine av ?_;refine ab (bg (k+1) (ao eH) ⟨oG,fun j y hj hy=>?_⟩ oG);by_cases e:j=k
    .subst e;rw[hg y hy];simpa using hp
    .exact hinv j y oG hy
  .have U:¬ k<rs.length:=by simpa using h
   exact⟨.forget _ _ _ _ fun _=>.inr rfl,fun j y hy=>hinv j y (by have:=(bX.1 hy).1;omega) hy⟩
 .rintro s ⟨hg,J⟩;refine⟨_,hg,aj ?_⟩;refine SS ?_;refine ab (aw (d:=B true) rfl ?_)
  have:sC c rs=true:=bT.2 fun x hx=>by
   obtain⟨j,hj⟩:=dR hx;exact J j x hj
  rw[this]
theorem lm{c:Cert}{r:Int}(hl:c.is.length<=100000)(hr:Fu c.is.length r):az prog 106 [.agg (cJ c),I r] (.agg (cJ (kK c r))):=by
 refine bu ak5 (.cons (.agg (uA c)) (.cons (.s _) .nil)) (.agg (uA _)) ?_;rw[ak6];refine ws ?_;refine af ?_;refine ab (aI (aj ?_));rcases hr with rfl|⟨i,hi,rfl⟩
 .refine af ?_;refine ab (pP ?_);refine aI (aj ?_);refine af ?_;refine ab (eb (lO (mi rfl rfl tu mO rfl t163 (bt rfl)) ?_));rfl
 .have ki:((i:Int)== -1)=false:=by simp
  refine af ?_;refine ab (mE (cX (ej adm ?_)));have J:(c.is.map B).length=c.is.length:=by simp
  have C:(c.is.map B).take (c.is.length*1)=c.is.map B:=cO oS
  (first|refine aq (vM rfl Nk) aG (je c4) ?_|refine aq (mX rfl rfl Nk) aG (je c4) ?_)
  (first|refine aq (vY rfl a4) aG (wa t4 c4) ?_|refine aq (eR rfl rfl kd a4) aG (eS t4 c4 kd) ?_|refine aq (eR rfl rfl gT a4) aG (eS t4 c4 gT) ?_|refine aq (eR rfl rfl rfl a4) aG (eS t4 c4 rfl) ?_)
  (first|refine cR (mV (cs:=[]) A0 c4 z4 rfl rfl) aG ⟨rfl,oC,At,oC⟩ ?_|refine cR (mV A0 c4 z4 rfl rfl) aG ⟨rfl,oC,At,oC⟩ ?_)
  (first|refine aq (vM rfl Nl) aG (je A1) ?_|refine aq (mX rfl rfl Nl) aG (je A1) ?_)
  (first|refine aq (vY rfl Gu) aG (wa t92 A1) ?_|refine aq (eR rfl rfl kd Gu) aG (eS t92 A1 kd) ?_|refine aq (eR rfl rfl gT Gu) aG (eS t92 A1 gT) ?_|refine aq (eR rfl rfl rfl Gu) aG (eS t92 A1 rfl) ?_)
  (first|refine eE (eC rfl rfl rfl A0 c4 (fN C) rfl) aG ⟨At,rfl,(by first|omega|exact bt rfl|(simp;done)|(simp;omega)),oC,(by first|rfl|(simp;done)|(simp;omega)),(by unfold maxLen;first|omega|(simp;omega)),(by rw[b4];first|omega|(simp;omega)),(by first|(simp;done)|(simp;omega))⟩ ?_|refine eE (eC rfl rfl rfl A0 c4 (gL rfl rfl) rfl) aG ⟨At,rfl,(by first|omega|exact bt rfl|(simp;done)|(simp;omega)),oC,(by first|rfl|(simp;done)|(simp;omega)),(by unfold maxLen;first|omega|(simp;omega)),(by rw[b4];first|omega|(simp;omega)),(by first|(simp;done)|(simp;omega))⟩ ?_|refine cR (jV rfl rfl A0 c4 (fN C)) aG ⟨At,(by first|omega|exact bt rfl|(simp;done)|(simp;omega)),oC,(by unfold maxLen;first|omega|(simp;omega)),(by rw[b4];first|omega|(simp;omega))⟩ ?_|refine cR (jV rfl rfl A0 c4 (gL rfl rfl)) aG ⟨At,(by first|omega|exact bt rfl|(simp;done)|(simp;omega)),oC,(by unfold maxLen;first|omega|(simp;omega)),(by rw[b4];first|omega|(simp;omega))⟩ ?_)
  refine aq (DZ Yt Xm Pu rfl rfl) aG ⟨t163,Xn⟩ ?_;refine cR (Uc Pu) aG t163 ?_;refine dA (jm rfl rfl rfl rfl) aG (ef t163 mO (by first|(simp;done)|exact⟨rfl,bt rfl⟩|(simp;omega)) (by rfl)) ?_;refine bN bO (aj ?_);refine bm ?_;refine ab (ay ?_);refine af ?_
  have e:sub (dh 3 ((c.is.set i true).map B) (prog.cellsOf 4)) (.rs 3 0 (0+c.is.length))=.sl ((c.is.set i true).map B) c.is.length:=by
   rw[c4,Nat.zero_add,yq,List.drop_zero,cO oS]
  refine ab (aX (bZ [(3,(c.is.set i true).map B,4),(1,[B c.any,.sl ((c.is.set i true).map B) c.is.length],163)] ⟨?_,?_,trivial⟩ (l:=[(4,.pt [B c.any,.sl ((c.is.set i true).map B) c.is.length])]) eH) (bp (lO (U0 rfl tu mO rfl t163 (bM _)) ?_)))
  .rw[List.map_set];rfl
  .exact congrArg (fun d=>some (Row.cells [B c.any,d] 163)) e
  unfold kK;rw[if_neg oG,eI];show _=D.agg [B c.any,.sl _ (c.is.set i true).length];rw[List.length_set];rfl
theorem sf{x:bK}:az prog 107 [.agg (bA x)] (I (dV x)):=by
 refine bu ak7 (.cons (.agg (rQ x)) .nil) (Tr.s _) ?_;rw[ak8];refine ay ?_;refine af ?_;refine ab (aX (bZ [(0,bA x,54)] eH (l:=[(1,.pt (bA x))]) eH) (aI (aj ?_)));refine af ?_;refine ab (ou ?_)
 have J:dV x=if aP (nN++pw) x.op=true then x.to else -1:=by
  unfold dV;have:aP (nN++pw) x.op=(aP nN x.op||aP pw x.op):=List.any_append;rw[this];cases aP nN x.op<;>cases aP pw x.op<;>rfl
 refine eT (fun s=>aM prog s ⟨aF [(1,.pt (bA x)),(4,U8 x.op),(5,B (aP (nN++pw) x.op))],fun _=>none,1⟩) (aj ?_) fun s hg=>⟨_,hg,?_⟩
 .refine af ?_;refine ab (ap rfl (fun h=>bw (ao ⟨rfl,rfl,dq h oC,trivial⟩)) fun e1=>aj ?_);refine af ?_;refine ab (ap rfl (fun h=>bw (ao ⟨rfl,rfl,dq h oC,trivial⟩)) fun e2=>aj ?_);refine af ?_;refine ab (ap rfl (fun h=>bw (ao ⟨rfl,rfl,dq h oC,trivial⟩)) fun e3=>aj ?_);refine af ?_;refine ab (ap rfl (fun h=>bw (ao ⟨rfl,rfl,dq h oC,trivial⟩)) fun e4=>aj ?_);refine af ?_;refine ab (ap rfl (fun h=>bw (ao ⟨rfl,rfl,dq h oC,trivial⟩)) fun e5=>aj ?_);refine af ?_;refine ab (ap rfl (fun h=>bw (ao ⟨rfl,rfl,dq h oC,trivial⟩)) fun e6=>aj ?_);refine af ?_;refine ab (ap rfl (fun h=>bw (ao ⟨rfl,rfl,dq h oC,trivial⟩)) fun e7=>aj ?_);refine af ?_;refine ab (ap rfl (fun h=>bw (ao ⟨rfl,rfl,dq h oC,trivial⟩)) fun e8=>aj ?_);refine af ?_;refine ab (ap rfl (fun h=>bw (ao ⟨rfl,rfl,dq h oC,trivial⟩)) fun e9=>aj ?_);refine af ?_;refine ab (ap rfl (fun h=>bw (ao ⟨rfl,rfl,dq h oC,trivial⟩)) fun U=>aj ?_);refine af ?_;refine ab (ap rfl (fun h=>bw (ao ⟨rfl,rfl,dq h oC,trivial⟩)) fun M=>aj ?_);refine af ?_;refine ab (ap rfl (fun h=>bw (ao ⟨rfl,rfl,dq h oC,trivial⟩)) fun xv=>aj ?_);refine af ?_;refine ab (ap rfl (fun h=>bw (ao ⟨rfl,rfl,dq h oC,trivial⟩)) fun O=>aj ?_);refine af ?_;refine ab (ap rfl (fun h=>bw (ao ⟨rfl,rfl,dq h oC,trivial⟩)) fun Gv=>aj ?_);refine af ?_;refine ab (ap rfl (fun h=>bw (ao ⟨rfl,rfl,dq h oC,trivial⟩)) fun C=>aj ?_);refine af ?_;refine ab (ap rfl (fun h=>bw (ao ⟨rfl,rfl,dq h oC,trivial⟩)) fun xx=>aj ?_);refine af ?_;refine ab (ap rfl (fun h=>bw (ao ⟨rfl,rfl,dq h oC,trivial⟩)) fun xy=>aj ?_);refine af ?_;refine ab (ap rfl (fun h=>bw (ao ⟨rfl,rfl,dq h oC,trivial⟩)) fun xz=>aj ?_);refine af ?_;refine ab (ap rfl (fun h=>bw (ao ⟨rfl,rfl,dq h oC,trivial⟩)) fun xA=>aj ?_);refine af ?_;refine ab (ap rfl (fun h=>bw (ao ⟨rfl,rfl,dq h oC,trivial⟩)) fun sy=>aj ?_);refine af ?_;refine ab (ap rfl (fun h=>bw (ao ⟨rfl,rfl,dq h oC,trivial⟩)) fun X=>lP ?_);refine af ?_;refine ab (ao ⟨rfl,rfl,?_,trivial⟩);show D.s (.bool (x.op==37))=_;simp only[aP,nN,pw,List.cons_append,List.nil_append,List.any_cons,List.any_nil,e1,e2,e3,e4,e5,e6,e7,e8,e9,U,M,xv,O,Gv,C,xx,xy,xz,xA,sy,X,Bool.false_or,Bool.or_false]
 refine ap rfl (fun h1=>aj ?_) fun h1=>nS (aj ?_)
 .refine av ?_;refine ab (bp (bU (a6 (aw rfl ?_))));rw[J,if_pos h1];rfl
 .refine SS ?_;refine ab (aw rfl ?_);rw[J,if_neg (by simp[h1])];rfl
theorem JF{x:Argus.End}:az prog 143 [.agg (a8 x)] (I (fc x)):=by
 have J:∀ a∈[D.agg (a8 x)],Tr a:=.cons (.agg (mr x)) .nil;have sf:=sf (x:=x.ins);refine bu ak9 J (Tr.s _) ?_;rw[ak'];refine ay ?_;refine af ?_;refine ab (aX (bZ [(0,a8 x,57)] eH (l:=[(1,.pt (a8 x))]) eH) (aI (aj ?_)));refine af ?_;refine ab (ou (aj ?_));refine af ?_;refine ab (ap rfl (fun h1=>?_) fun h1=>?_)
 .have h1:x.kind=5:=by simpa using h1
  refine ws ?_;refine af ?_;refine cl sf ?_;refine SS ?_;refine ab (bp (bU (a6 (aw (d:=I (dV x.ins)) rfl ?_))));simp[fc,h1]
 have h1:¬ x.kind=5:=by simpa using h1
 refine eT (fun s=>aM prog s ⟨aF [(1,.pt (a8 x)),(4,U8 x.kind),(10,B (aP [6,7] x.kind))],fun _=>none,1⟩) (aj ?_) fun s hg=>⟨_,hg,?_⟩
 .refine af ?_;refine ab (ap rfl (fun h=>bw (ao ⟨rfl,rfl,dq h oC,trivial⟩)) fun e6=>lP ?_);refine af ?_;refine ab ?_;refine ao ⟨rfl,rfl,?_,trivial⟩;show D.s (.bool (x.kind==7))=_;simp[aP,e6]
 refine ap rfl (fun h2=>?_) fun h2=>?_
 .refine ws ?_;refine av ?_;refine ab (bp (bU (a6 (aw (d:=I x.a) rfl ?_))));simp[fc,h1,h2]
 refine ws ?_;refine af ?_;refine ab (ap rfl (fun C=>?_) fun C=>?_)
 .have C:x.kind=8:=by simpa using C
  refine ws ?_;refine av ?_;refine ab (bp (bU (a6 (aw (d:=I x.b) rfl ?_))));simp[fc,h2,C];simp[aP]
 have C:¬ x.kind=8:=by simpa using C
 refine nS (aj ?_);refine SS ?_;refine ab (aw (d:=I (-1)) rfl ?_);simp[fc,h1,h2,C]
theorem yO{x:bK}(hx:x.op=10\/x.op=38->x.args.length<=1000):az prog 105 [.agg (bA x)] (aT (c6 x)):=by
 have bx:∀ a∈[D.agg (bA x)],Tr a:=.cons (.agg (rQ x)) .nil;refine bu ala bx (dU _) ?_;rw[alb];refine ay ?_;refine af ?_;refine ab (aX (bZ [(0,bA x,54)] eH (l:=[(1,.pt (bA x))]) eH) (aI (aj ?_)));refine af ?_;refine ab (ou ?_);refine eT (fun s=>aM prog s ⟨aF [(1,.pt (bA x)),(4,U8 x.op),(5,B (aP pA x.op))],fun _=>none,1⟩) (aj ?_) fun s hg=>⟨_,hg,?_⟩
 .refine af ?_;refine ab (ap rfl (fun h=>bw (ao ⟨rfl,rfl,dq h oC,trivial⟩)) fun e2=>aj ?_);refine af ?_;refine ab (ap rfl (fun h=>bw (ao ⟨rfl,rfl,dq h oC,trivial⟩)) fun e8=>aj ?_);refine af ?_;refine ab (ap rfl (fun h=>bw (ao ⟨rfl,rfl,dq h oC,trivial⟩)) fun O=>aj ?_);refine af ?_;refine ab (ap rfl (fun h=>bw (ao ⟨rfl,rfl,dq h oC,trivial⟩)) fun xv=>aj ?_);refine af ?_;refine ab (ap rfl (fun h=>bw (ao ⟨rfl,rfl,dq h oC,trivial⟩)) fun U=>aj ?_);refine af ?_;refine ab (ap rfl (fun h=>bw (ao ⟨rfl,rfl,dq h oC,trivial⟩)) fun Gw=>aj ?_);refine af ?_;refine ab (ap rfl (fun h=>bw (ao ⟨rfl,rfl,dq h oC,trivial⟩)) fun Gx=>aj ?_);refine af ?_;refine ab (ap rfl (fun h=>bw (ao ⟨rfl,rfl,dq h oC,trivial⟩)) fun X=>lP ?_);refine af ?_;refine ab ?_;refine ao ⟨rfl,rfl,?_,trivial⟩;show D.s (.bool (x.op==36))=_;simp[aP,pA,e2,e8,O,xv,U,Gw,Gx,X]
 refine ap rfl (fun h1=>?_) fun h1=>?_
 .refine ay ?_;refine aR ?_;refine ab (aX (bZ [(1,([x.a]).map I,3)] eH (l:=[(2,aT ([x.a]))]) ⟨lT c3 rfl,trivial⟩) (bp (bU (a6 (aw (d:=aT ([x.a])) rfl ?_)))));exact congrArg aT (by unfold c6;rw[if_pos h1])
 refine eT (fun s=>aM prog s ⟨aF [(1,.pt (bA x)),(4,U8 x.op),(18,B (aP sP x.op))],fun _=>none,1⟩) (aj ?_) fun s hg=>⟨_,hg,?_⟩
 .refine af ?_;refine ab (ap rfl (fun h=>bw (ao ⟨rfl,rfl,dq h oC,trivial⟩)) fun e3=>aj ?_);refine af ?_;refine ab (ap rfl (fun h=>bw (ao ⟨rfl,rfl,dq h oC,trivial⟩)) fun e4=>aj ?_);refine af ?_;refine ab (ap rfl (fun h=>bw (ao ⟨rfl,rfl,dq h oC,trivial⟩)) fun e5=>aj ?_);refine af ?_;refine ab (ap rfl (fun h=>bw (ao ⟨rfl,rfl,dq h oC,trivial⟩)) fun e6=>aj ?_);refine af ?_;refine ab (ap rfl (fun h=>bw (ao ⟨rfl,rfl,dq h oC,trivial⟩)) fun e7=>aj ?_);refine af ?_;refine ab (ap rfl (fun h=>bw (ao ⟨rfl,rfl,dq h oC,trivial⟩)) fun QS=>aj ?_);refine af ?_;refine ab (ap rfl (fun h=>bw (ao ⟨rfl,rfl,dq h oC,trivial⟩)) fun xx=>aj ?_);refine af ?_;refine ab (ap rfl (fun h=>bw (ao ⟨rfl,rfl,dq h oC,trivial⟩)) fun xy=>aj ?_);refine af ?_;refine ab (ap rfl (fun h=>bw (ao ⟨rfl,rfl,dq h oC,trivial⟩)) fun xz=>aj ?_);refine af ?_;refine ab (ap rfl (fun h=>bw (ao ⟨rfl,rfl,dq h oC,trivial⟩)) fun xA=>aj ?_);refine af ?_;refine ab (ap rfl (fun h=>bw (ao ⟨rfl,rfl,dq h oC,trivial⟩)) fun sy=>aj ?_);refine af ?_;refine ab (ap rfl (fun h=>bw (ao ⟨rfl,rfl,dq h oC,trivial⟩)) fun QT=>lP ?_);refine af ?_;refine ab ?_;refine ao ⟨rfl,rfl,?_,trivial⟩;show D.s (.bool (x.op==37))=_;simp[aP,sP,e3,e4,e5,e6,e7,QS,xx,xy,xz,xA,sy,QT]
 refine ap rfl (fun h2=>?_) fun h2=>?_
 .refine ay ?_;refine cG ?_;refine ab (aX (bZ [(1,([x.a,x.b]).map I,3)] eH (l:=[(2,aT ([x.a,x.b]))]) ⟨lT c3 rfl,trivial⟩) (bp (bU (a6 (aw (d:=aT ([x.a,x.b])) rfl ?_)))));exact congrArg aT (by unfold c6;rw[if_neg (by simp[h1]),if_pos h2])
 refine ws ?_;refine af ?_;refine ab (ap rfl (fun C=>?_) fun C=>?_)
 .have C:x.op=10:=by simpa using C
  have hl:=hx (.inl C);have M:(x.args.map I).take (x.args.length*1)=x.args.map I:=cO oS;refine ay ?_
  (first|refine cR (mV (cs:=[]) dm c3 z3 rfl rfl) aG ⟨rfl,oC,df,oC⟩ ?_|refine cR (mV dm c3 z3 rfl rfl) aG ⟨rfl,oC,df,oC⟩ ?_)
  (first|refine aq (vM rfl EP) aG (je ly) ?_|refine aq (mX rfl rfl EP) aG (je ly) ?_)
  (first|refine aq (vY rfl rC) aG (wa t43 ly) ?_|refine aq (eR rfl rfl kd rC) aG (eS t43 ly kd) ?_|refine aq (eR rfl rfl gT rC) aG (eS t43 ly gT) ?_|refine aq (eR rfl rfl rfl rC) aG (eS t43 ly rfl) ?_)
  (first|refine eE (eC rfl rfl rfl dm c3 (fN M) rfl) aG ⟨df,rfl,(by first|omega|exact bt rfl|(simp;done)|(simp;omega)),oC,(by first|rfl|(simp;done)|(simp;omega)),(by unfold maxLen;first|omega|(simp;omega)),(by rw[b3];first|omega|(simp;omega)),(by first|(simp;done)|(simp;omega))⟩ ?_|refine eE (eC rfl rfl rfl dm c3 (gL rfl rfl) rfl) aG ⟨df,rfl,(by first|omega|exact bt rfl|(simp;done)|(simp;omega)),oC,(by first|rfl|(simp;done)|(simp;omega)),(by unfold maxLen;first|omega|(simp;omega)),(by rw[b3];first|omega|(simp;omega)),(by first|(simp;done)|(simp;omega))⟩ ?_|refine cR (jV rfl rfl dm c3 (fN M)) aG ⟨df,(by first|omega|exact bt rfl|(simp;done)|(simp;omega)),oC,(by unfold maxLen;first|omega|(simp;omega)),(by rw[b3];first|omega|(simp;omega))⟩ ?_|refine cR (jV rfl rfl dm c3 (gL rfl rfl)) aG ⟨df,(by first|omega|exact bt rfl|(simp;done)|(simp;omega)),oC,(by unfold maxLen;first|omega|(simp;omega)),(by rw[b3];first|omega|(simp;omega))⟩ ?_)
  (first|refine aq (eQ (v:=.sl _ _) rfl) aG trivial ?_|refine aq (eQ (v:=.rs _ _ _) rfl) aG trivial ?_|refine aq (eQ (v:=.z) rfl) aG trivial ?_)
  refine ab (aX (bZ [(2,x.args.map I,3)] eH (l:=[(2,aT x.args)]) ⟨?_,trivial⟩) (bp (bU (a6 (aw (d:=aT x.args) rfl ?_)))))
  .show tE _ [(2,_,3)] (.rs 2 0 (0+x.args.length))=_;refine(lT c3 (es:=x.args.map I) (cO oS)).trans ?_;rw[Nat.zero_add]
  exact congrArg aT (by unfold c6;rw[if_neg (by simp[h1]),if_neg (by simp[h2]),if_pos C])
 have C:¬ x.op=10:=by simpa using C
 refine ws ?_;refine af ?_;refine ab (ap rfl (fun J=>?_) fun J=>?_)
 .have J:x.op=38:=by simpa using J
  have hl:=hx (.inr J);have M:(x.args.map I).take (x.args.length*1)=x.args.map I:=cO oS;refine ay ?_
  (first|refine aq (vM rfl Oe) aG (je c3) ?_|refine aq (mX rfl rfl Oe) aG (je c3) ?_)
  (first|refine aq (vY rfl a3) aG (wa t3 c3) ?_|refine aq (eR rfl rfl kd a3) aG (eS t3 c3 kd) ?_|refine aq (eR rfl rfl gT a3) aG (eS t3 c3 gT) ?_|refine aq (eR rfl rfl rfl a3) aG (eS t3 c3 rfl) ?_)
  (first|refine aq (vM rfl Of) aG (je c3) ?_|refine aq (mX rfl rfl Of) aG (je c3) ?_)
  (first|refine aq (vY rfl a3) aG (wa t3 c3) ?_|refine aq (eR rfl rfl kd a3) aG (eS t3 c3 kd) ?_|refine aq (eR rfl rfl gT a3) aG (eS t3 c3 gT) ?_|refine aq (eR rfl rfl rfl a3) aG (eS t3 c3 rfl) ?_)
  (first|refine cR (mV (cs:=[_,_]) dm c3 z3 rfl rfl) aG ⟨rfl,oC,df,oC⟩ ?_|refine cR (mV dm c3 z3 rfl rfl) aG ⟨rfl,oC,df,oC⟩ ?_)
  (first|refine aq (vM rfl EP) aG (je ly) ?_|refine aq (mX rfl rfl EP) aG (je ly) ?_)
  (first|refine aq (vY rfl rC) aG (wa t43 ly) ?_|refine aq (eR rfl rfl kd rC) aG (eS t43 ly kd) ?_|refine aq (eR rfl rfl gT rC) aG (eS t43 ly gT) ?_|refine aq (eR rfl rfl rfl rC) aG (eS t43 ly rfl) ?_)
  (first|refine eE (eC rfl rfl rfl dm c3 (fN M) rfl) aG ⟨df,rfl,(by first|omega|exact bt rfl|(simp;done)|(simp;omega)),oC,(by first|rfl|(simp;done)|(simp;omega)),(by unfold maxLen;first|omega|(simp;omega)),(by rw[b3];first|omega|(simp;omega)),(by first|(simp;done)|(simp;omega))⟩ ?_|refine eE (eC rfl rfl rfl dm c3 (gL rfl rfl) rfl) aG ⟨df,rfl,(by first|omega|exact bt rfl|(simp;done)|(simp;omega)),oC,(by first|rfl|(simp;done)|(simp;omega)),(by unfold maxLen;first|omega|(simp;omega)),(by rw[b3];first|omega|(simp;omega)),(by first|(simp;done)|(simp;omega))⟩ ?_|refine cR (jV rfl rfl dm c3 (fN M)) aG ⟨df,(by first|omega|exact bt rfl|(simp;done)|(simp;omega)),oC,(by unfold maxLen;first|omega|(simp;omega)),(by rw[b3];first|omega|(simp;omega))⟩ ?_|refine cR (jV rfl rfl dm c3 (gL rfl rfl)) aG ⟨df,(by first|omega|exact bt rfl|(simp;done)|(simp;omega)),oC,(by unfold maxLen;first|omega|(simp;omega)),(by rw[b3];first|omega|(simp;omega))⟩ ?_)
  (first|refine aq (eQ (v:=.sl _ _) rfl) aG trivial ?_|refine aq (eQ (v:=.rs _ _ _) rfl) aG trivial ?_|refine aq (eQ (v:=.z) rfl) aG trivial ?_)
  refine ab (aX (bZ [(2,(x.a::x.b::x.args).map I,3)] eH (l:=[(2,aT (x.a::x.b::x.args))]) ⟨?_,trivial⟩) (bp (bU (a6 (aw (d:=aT (x.a::x.b::x.args)) rfl ?_)))))
  .show tE _ [(2,_,3)] (.rs 2 0 (2+x.args.length))=_;refine(lT c3 (es:=(x.a::x.b::x.args).map I) (cO oP)).trans ?_;rw[Nat.add_comm];rfl
  .exact congrArg aT (by unfold c6;rw[if_neg (by simp[h1]),if_neg (by simp[h2]),if_neg C,if_pos J])
 have J:¬ x.op=38:=by simpa using J
 refine nS (ay ?_);refine SS ?_;refine ab (aX (ud (n0:=2) rfl) (aw (d:=aT []) rfl ?_));exact congrArg aT (by unfold c6;rw[if_neg (by simp[h1]),if_neg (by simp[h2]),if_neg C,if_neg J])
theorem JG{x:Argus.End}(hx:x.kind=5->x.ins.op=10\/x.ins.op=38->x.ins.args.length<=1000)(hy:x.kind=6\/x.kind=7->x.args.length<=1000):az prog 110 [.agg (a8 x)] (aT (c8 x)):=by
 have O:∀ a∈[D.agg (a8 x)],Tr a:=.cons (.agg (mr x)) .nil;refine bu alc O (dU _) ?_;rw[ald];refine ay ?_;refine af ?_;refine ab (aX (bZ [(0,a8 x,57)] eH (l:=[(1,.pt (a8 x))]) eH) (aI (aj ?_)));refine af ?_;refine ab (ou ?_);refine eT (fun s=>aM prog s ⟨aF [(1,.pt (a8 x)),(4,U8 x.kind),(5,B (aP [2,8,9] x.kind))],fun _=>none,1⟩) (aj ?_) fun s hg=>⟨_,hg,?_⟩
 .refine af ?_;refine ab (ap rfl (fun h=>bw (ao ⟨rfl,rfl,dq h oC,trivial⟩)) fun e2=>aj ?_);refine af ?_;refine ab (ap rfl (fun h=>bw (ao ⟨rfl,rfl,dq h oC,trivial⟩)) fun e8=>lP ?_);refine af ?_;refine ab ?_;refine ao ⟨rfl,rfl,?_,trivial⟩;show D.s (.bool (x.kind==9))=_;simp[aP,e2,e8]
 refine ap rfl (fun h1=>?_) fun h1=>?_
 .refine ay ?_;refine aR ?_;refine ab (aX (bZ [(1,([x.a]).map I,3)] eH (l:=[(2,aT ([x.a]))]) ⟨lT c3 rfl,trivial⟩) (bp (bU (a6 (aw (d:=aT ([x.a])) rfl ?_)))));exact congrArg aT (by unfold c8;rw[if_pos h1])
 refine ws ?_;refine af ?_;refine ab (ap rfl (fun h2=>?_) fun h2=>?_)
 .have h2:x.kind=3:=by simpa using h2
  refine aI (aj ?_);refine av ?_;refine ab (dZ rfl (fun C=>?_) fun C=>cX (ay ?_))
  .have C:x.a= -1:=by simpa using C
   refine aI (ay ?_);refine SS ?_;refine ab (aX (ud (n0:=2) rfl) (eb (bU (a6 (aw (d:=aT []) rfl ?_)))));exact congrArg aT (by unfold c8;rw[if_neg (by simp[h1]),if_pos h2,if_neg (by simp[C])])
  .have C:¬ x.a= -1:=by simpa using C
   refine aR ?_;refine ab (aX (bZ [(1,([x.a]).map I,3)] eH (l:=[(2,aT ([x.a]))]) ⟨lT c3 rfl,trivial⟩) (bp (bU (a6 (aw (d:=aT ([x.a])) rfl ?_)))));exact congrArg aT (by unfold c8;rw[if_neg (by simp[h1]),if_pos h2,if_pos C])
 have h2:¬ x.kind=3:=by simpa using h2
 refine ws ?_;refine af ?_;refine ab (ap rfl (fun C=>?_) fun C=>?_)
 .have C:x.kind=5:=by simpa using C
  have yO:=yO (x:=x.ins) (hx C);refine ws ?_;refine af ?_;refine cl yO ?_;refine SS ?_;refine ab (bp (bU (a6 (aw (d:=aT (c6 x.ins)) rfl ?_))));exact congrArg aT (by unfold c8;rw[if_neg (by simp[h1]),if_neg h2,if_pos C])
 have C:¬ x.kind=5:=by simpa using C
 refine eT (fun s=>aM prog s ⟨aF [(1,.pt (a8 x)),(4,U8 x.kind),(25,B (aP [6,7] x.kind))],fun _=>none,1⟩) (aj ?_) fun s hg=>⟨_,hg,?_⟩
 .refine af ?_;refine ab (ap rfl (fun h=>bw (ao ⟨rfl,rfl,dq h oC,trivial⟩)) fun e6=>lP ?_);refine af ?_;refine ab ?_;refine ao ⟨rfl,rfl,?_,trivial⟩;show D.s (.bool (x.kind==7))=_;simp[aP,e6]
 refine ap rfl (fun J=>?_) fun J=>?_
 .have U:x.kind=6\/x.kind=7:=by simpa[aP] using J
  have hl:=hy U;have M:(x.args.map I).take (x.args.length*1)=x.args.map I:=cO oS;refine ay ?_
  (first|refine cR (mV (cs:=[]) dm c3 z3 rfl rfl) aG ⟨rfl,oC,df,oC⟩ ?_|refine cR (mV dm c3 z3 rfl rfl) aG ⟨rfl,oC,df,oC⟩ ?_)
  (first|refine aq (vM rfl Og) aG (je ly) ?_|refine aq (mX rfl rfl Og) aG (je ly) ?_)
  (first|refine aq (vY rfl rC) aG (wa t43 ly) ?_|refine aq (eR rfl rfl kd rC) aG (eS t43 ly kd) ?_|refine aq (eR rfl rfl gT rC) aG (eS t43 ly gT) ?_|refine aq (eR rfl rfl rfl rC) aG (eS t43 ly rfl) ?_)
  (first|refine eE (eC rfl rfl rfl dm c3 (fN M) rfl) aG ⟨df,rfl,(by first|omega|exact bt rfl|(simp;done)|(simp;omega)),oC,(by first|rfl|(simp;done)|(simp;omega)),(by unfold maxLen;first|omega|(simp;omega)),(by rw[b3];first|omega|(simp;omega)),(by first|(simp;done)|(simp;omega))⟩ ?_|refine eE (eC rfl rfl rfl dm c3 (gL rfl rfl) rfl) aG ⟨df,rfl,(by first|omega|exact bt rfl|(simp;done)|(simp;omega)),oC,(by first|rfl|(simp;done)|(simp;omega)),(by unfold maxLen;first|omega|(simp;omega)),(by rw[b3];first|omega|(simp;omega)),(by first|(simp;done)|(simp;omega))⟩ ?_|refine cR (jV rfl rfl dm c3 (fN M)) aG ⟨df,(by first|omega|exact bt rfl|(simp;done)|(simp;omega)),oC,(by unfold maxLen;first|omega|(simp;omega)),(by rw[b3];first|omega|(simp;omega))⟩ ?_|refine cR (jV rfl rfl dm c3 (gL rfl rfl)) aG ⟨df,(by first|omega|exact bt rfl|(simp;done)|(simp;omega)),oC,(by unfold maxLen;first|omega|(simp;omega)),(by rw[b3];first|omega|(simp;omega))⟩ ?_)
  (first|refine aq (eQ (v:=.sl _ _) rfl) aG trivial ?_|refine aq (eQ (v:=.rs _ _ _) rfl) aG trivial ?_|refine aq (eQ (v:=.z) rfl) aG trivial ?_)
  refine ab (aX (bZ [(2,x.args.map I,3)] eH (l:=[(2,aT x.args)]) ⟨?_,trivial⟩) (bp (bU (a6 (aw (d:=aT x.args) rfl ?_)))))
  .show tE _ [(2,_,3)] (.rs 2 0 (0+x.args.length))=_;refine(lT c3 (es:=x.args.map I) (cO oS)).trans ?_;rw[Nat.zero_add]
  exact congrArg aT (by unfold c8;rw[if_neg (by simp[h1]),if_neg h2,if_neg C,if_pos J])
 refine nS (ay ?_)
 (first|refine aq (eQ (v:=.sl _ _) rfl) aG trivial ?_|refine aq (eQ (v:=.rs _ _ _) rfl) aG trivial ?_|refine aq (eQ (v:=.z) rfl) aG trivial ?_)
 refine ab (aX (ud (n0:=2) rfl) (aw (d:=aT []) rfl ?_));exact congrArg aT (by unfold c8;rw[if_neg (by simp[h1]),if_neg h2,if_neg C,if_neg (by simp[J])])
end Go.Proofs.Tryz.K
end
namespace Go.Argus
open Go Go.Abs
open Go.Proofs.Tryz.K (nextR)
structure JJ(R n:Nat)(x:bK):Prop where
 r:∀ r∈c6 x,∃ i:Nat,i<R/\r=i
 s:x.op=17->∃ i:Nat,R+i<n/\x.n=i
 p:x.op=19->∀ r∈x.args,∃ i:Nat,i<R/\r=i
theorem mj{l:List Int}{r:Int}(h:js l r):∃ i:Nat,i<l.length/\r=i:=⟨r.toNat,by unfold js at h;omega,by unfold js at h;omega⟩
theorem Vc{f:aK}{b ah:Int}{x:bK}(hs:∀ k∈f.aN,k≠0)(h:eu f b ah x=true):Av f.ag.length (f.ag.length+f.aN.length) x/\JJ f.ag.length (f.ag.length+f.aN.length) x/\(x.op=19->(x.args.length:Int)=ah):=by
 have k1:∀ {r:Int},bD f r 119=true->∃ i:Nat,i<f.ag.length/\r=i:=fun {r} h=>mj (iY fun e=>by rw[uN,e] at h;simp[aQ] at h);have O:∀ {r:Int},bD f r 114=true->∃ i:Nat,i<f.ag.length/\r=i:=fun {r} h=>mj (iY fun e=>by rw[Ac,e] at h;simp[aQ] at h);have k3:∀ {r:Int},bD f r 105=true->∃ i:Nat,i<f.ag.length/\r=i:=fun {r} h=>mj (iY fun e=>by rw[ES,e] at h;simp[aQ] at h);have k4:∀ {r:Int},bD f r 118=true->∃ i:Nat,i<f.ag.length/\r=i:=fun {r} h=>mj (mZ h)
 have U:∀ {a b:Int},lC f a b=true->(∃ i:Nat,i<f.ag.length/\a=i)/\∃ i:Nat,i<f.ag.length/\b=i:=fun {a b} h=>by
  simp only[lC,aB] at h;exact⟨mj (mZ h.1),mj (mZ h.2.1)⟩
 have k6:∀ {l:List Int},ie f.ag l=true->∀ r∈l,∃ i:Nat,i<f.ag.length/\r=i:=fun {l} h r hr=>mj (sH h r hr)
 have X:∀ {r n:Int},nr f.ag f.aN r n=true->(∃ i:Nat,i<f.ag.length/\r=i)/\∃ i:Nat,f.ag.length+i<f.ag.length+f.aN.length/\n=i:=fun {r n} h=>by
  obtain⟨h1,h2,M⟩:=Eh hs h;exact⟨mj h1,n.toNat,oG,oG⟩
 obtain⟨op,to,a,C,n,args⟩:=x;unfold eu at h;dsimp only at h
 have fin:∀ {W:Prop} {Rs:List Int},(dV ⟨op,to,a,C,n,args⟩= -1\/∃ i:Nat,i<f.ag.length/\dV ⟨op,to,a,C,n,args⟩=i)->c6 ⟨op,to,a,C,n,args⟩=Rs->(∀ r∈Rs,∃ i:Nat,i<f.ag.length/\r=i)->
  op≠17->op≠18->op≠19->Av f.ag.length (f.ag.length+f.aN.length) ⟨op,to,a,C,n,args⟩/\JJ f.ag.length (f.ag.length+f.aN.length) ⟨op,to,a,C,n,args⟩/\(op=19->(args.length:Int)=ah):=fun {W Rs} h1 h2 M e1 e2 e3=>
  ⟨⟨h1,fun e=>absurd e e2⟩,⟨by rw[h2];exact M,fun e=>absurd e e1,fun e=>absurd e e3⟩,fun e=>absurd e e3⟩
 by_cases h1:op=1
 .subst h1;simp[aB] at h;exact fin (W:=True) (Rs:=[]) (.inr (k1 h.2.1)) rfl oS oC oC oC
 by_cases h2:op=2
 .subst h2;simp[aB] at h;exact fin (W:=True) (Rs:=[a]) (.inr (U h.2).1) rfl (by simpa using(U h.2).2) oC oC oC
 by_cases M:op=3\/op=4\/op=6\/op=7
 .have J:bD f to 119=true/\bD f a 119=true/\bD f C 119=true:=by
   rcases M with rfl|rfl|rfl|rfl<;>(simp[aP,aB] at h;exact h.2)
  have hr:∀ r∈[a,C],∃ i:Nat,i<f.ag.length/\r=i:=by
   intro r hr;simp at hr;rcases hr with rfl|rfl
   .exact k1 J.2.1
   .exact k1 J.2.2
  rcases M with rfl|rfl|rfl|rfl<;>exact fin (W:=True) (Rs:=[a,C]) (.inr (k1 J.1)) rfl hr oC oC oC
 by_cases h5:op=5
 .subst h5;simp[aP,aB] at h;refine fin (W:=True) (Rs:=[a,C]) (.inr (k1 h.2.1)) rfl ?_ oC oC oC;intro r hr;simp at hr;rcases hr with rfl|rfl
  .exact(U h.2.2).1
  .exact(U h.2.2).2
 by_cases h8:op=8
 .subst h8;simp[aP,aB] at h;exact fin (W:=True) (Rs:=[a]) (.inr (k1 h.2.1)) rfl (by simpa using k1 h.2.2) oC oC oC
 by_cases h9:op=9
 .subst h9;simp[aP,aB] at h;exact fin (W:=True) (Rs:=[]) (.inr (O h.2.1)) rfl oS oC oC oC
 by_cases nJ:op=10
 .subst nJ;simp[aP,aB] at h;exact fin (W:=True) (Rs:=args) (.inr (O h.2.1)) rfl (k6 h.2.2.2.2) oC oC oC
 by_cases rD:op=11
 .subst rD;simp[aP,aB] at h;exact fin (W:=True) (Rs:=[a]) (.inr (k4 h.2.1)) rfl (by simpa using O h.2.2.1) oC oC oC
 by_cases sD:op=12
 .subst sD;simp[aP,aB] at h;refine fin (W:=True) (Rs:=[a,C]) (.inl rfl) rfl ?_ oC oC oC;intro r hr;simp at hr;rcases hr with rfl|rfl
  .exact O h.2.1
  .exact k4 h.2.2.1
 by_cases tW:op=13\/op=14
 .have J:bD f to 119=true/\bD f a 114=true:=by
   rcases tW with rfl|rfl<;>(simp[aP,aB] at h;exact h.2)
  rcases tW with rfl|rfl<;>exact fin (W:=True) (Rs:=[a]) (.inr (k1 J.1)) rfl (by simpa using O J.2) oC oC oC
 by_cases Q8:op=15
 .subst Q8;simp[aP,aB] at h;exact fin (W:=True) (Rs:=[a]) (.inl rfl) rfl (by simpa using k1 h.2) oC oC oC
 by_cases rB:op=16
 .subst rB;simp[aP,aB] at h;exact fin (W:=True) (Rs:=[a]) (.inl rfl) rfl (by simpa using k3 h.2) oC oC oC
 by_cases jl:op=17
 .subst jl;simp[aP,aB] at h;exact⟨⟨.inr (X h.2).1,fun e=>by simp at e⟩,⟨by simp[c6,aP,pA,sP],fun _=>(X h.2).2,fun e=>by simp at e⟩,fun e=>by simp at e⟩
 by_cases eP:op=18
 .subst eP;simp[aP,aB] at h;exact⟨⟨.inl rfl,fun _=>(X h.2).2⟩,⟨by simpa[c6,aP,pA] using(X h.2).1,fun e=>by simp at e,fun e=>by simp at e⟩,fun e=>by simp at e⟩
 by_cases fM:op=19
 .subst fM;simp[aP,aB] at h;refine⟨⟨.inr (k4 h.2.2.1),fun e=>by simp at e⟩,⟨by simp[c6,aP,pA,sP],fun e=>by simp at e,fun _ r hr=>(U (h.2.2.2.2 r hr)).2⟩,fun _=>?_⟩;simpa[aQ] using h.2.2.2.1
 .rw[if_neg h1,if_neg h2,if_neg (by simp[aP];omega),if_neg h5,if_neg h8,if_neg h9,if_neg nJ,if_neg rD,if_neg sD,if_neg (by simp[aP];omega),if_neg Q8,if_neg rB,if_neg jl,if_neg eP,if_neg fM] at h;cases h
theorem Vd{f:aK}{x:bK}(h:l8 f x=true):(dV x= -1\/∃ i:Nat,i<f.ag.length/\dV x=i)/\∀ r∈c6 x,∃ i:Nat,i<f.ag.length/\r=i:=by
 have k1:∀ {r:Int},bD f r 119=true->∃ i:Nat,i<f.ag.length/\r=i:=fun {r} h=>mj (iY fun e=>by rw[uN,e] at h;simp[aQ] at h);have J:∀ {r:Int},bD f r 114=true->∃ i:Nat,i<f.ag.length/\r=i:=fun {r} h=>mj (iY fun e=>by rw[Ac,e] at h;simp[aQ] at h);have O:∀ {r:Int},bD f r 118=true->∃ i:Nat,i<f.ag.length/\r=i:=fun {r} h=>mj (mZ h);have k6:∀ {l:List Int},ie f.ag l=true->∀ r∈l,∃ i:Nat,i<f.ag.length/\r=i:=fun {l} h r hr=>mj (sH h r hr);obtain⟨op,to,a,C,n,args⟩:=x;unfold l8 at h;dsimp only at h;by_cases h0:op=30\/op=31\/op=32\/op=33\/op=34
 .have M:bD f to 119=true/\bD f a 119=true/\bD f C 119=true:=by
   rcases h0 with rfl|rfl|rfl|rfl|rfl<;>(simp[aP,aB] at h;exact h.2)
  have hr:∀ r∈[a,C],∃ i:Nat,i<f.ag.length/\r=i:=by
   intro r hr;simp at hr;rcases hr with rfl|rfl
   .exact k1 M.2.1
   .exact k1 M.2.2
  rcases h0 with rfl|rfl|rfl|rfl|rfl<;>exact⟨.inr (k1 M.1),hr⟩
 by_cases U:op=35
 .subst U;simp[aP,aB] at h;refine⟨.inl rfl,?_⟩;show ∀ r∈[a,C],_;intro r hr;simp at hr;rcases hr with rfl|rfl
  .exact J h.2.1
  .exact O h.2.2
 by_cases X:op=36
 .subst X;simp[aP,aB] at h;refine⟨.inr (O h.2.1),?_⟩;show ∀ r∈[a],_;simpa using J h.2.2
 by_cases h7:op=37
 .subst h7;simp[aP,aB] at h;refine⟨.inr (O h.2.1),?_⟩;show ∀ r∈[a,C],_;intro r hr;simp at hr;rcases hr with rfl|rfl
  .exact J h.2.2.1
  .exact k1 h.2.2.2
 by_cases h8:op=38
 .subst h8;simp[aP,aB] at h;refine⟨.inl rfl,?_⟩;show ∀ r∈a::C::args,_;intro r hr;rcases List.mem_cons.1 hr with rfl|hr
  .exact J h.2.1
  .rcases List.mem_cons.1 hr with rfl|hr
   .exact k1 h.2.2.1
   .exact k6 h.2.2.2.2 r hr
 .exfalso;simp[aP,U,X,h7,h8] at h;omega
theorem MH{f:aK}{x:End}(h:iz f x=true):(fc x= -1\/∃ i:Nat,i<f.ag.length/\fc x=i)/\(∀ r∈c8 x,∃ i:Nat,i<f.ag.length/\r=i)/\(x.kind=7->∃ i:Nat,i<f.ag.length/\x.a=i):=by
 have k1:∀ {r:Int},bD f r 119=true->∃ i:Nat,i<f.ag.length/\r=i:=fun {r} h=>mj (iY fun e=>by rw[uN,e] at h;simp[aQ] at h);have k3:∀ {r:Int},bD f r 105=true->∃ i:Nat,i<f.ag.length/\r=i:=fun {r} h=>mj (iY fun e=>by rw[ES,e] at h;simp[aQ] at h);have C:∀ {r:Int},bD f r 118=true->∃ i:Nat,i<f.ag.length/\r=i:=fun {r} h=>mj (mZ h);have k6:∀ {l:List Int},ie f.ag l=true->∀ r∈l,∃ i:Nat,i<f.ag.length/\r=i:=fun {l} h r hr=>mj (sH h r hr);obtain⟨kind,a,b,to,fL,name,ins,args,aC,others⟩:=x;unfold iz at h;dsimp only at h;by_cases h1:kind=1
 .subst h1;exact⟨.inl rfl,by simp[c8,aP],fun e=>by simp at e⟩
 by_cases h2:kind=2
 .subst h2;simp[aB] at h;refine⟨.inl rfl,?_,fun e=>by simp at e⟩;show ∀ r∈[a],_;simpa using k1 h.2.1
 by_cases J:kind=3
 .subst J;rw[if_neg oC,if_neg oC,if_pos rfl] at h;refine⟨.inl rfl,?_,fun e=>by simp at e⟩;intro r hr;simp[c8,aP] at hr;obtain⟨e,rfl⟩:=hr;by_cases hc:f.iter=true\/f.result=0
  .rw[if_pos hc,aB,iK] at h;exact absurd h.2 e
  .rw[if_neg hc,aB,aB] at h;exact C h.2.1
 by_cases M:kind=4
 .subst M;exact⟨.inl rfl,by simp[c8,aP],fun e=>by simp at e⟩
 by_cases O:kind=5
 .subst O;simp[aB] at h;exact⟨(Vd h.2.1).1,(Vd h.2.1).2,fun e=>by simp at e⟩
 by_cases U:kind=6
 .subst U;simp[aB] at h;refine⟨?_,k6 h.2.2.2.1,fun e=>by simp at e⟩;show a= -1\/∃ i:Nat,_/\a=_;rcases h.2.2.2.2.1 with e|e
  .exact .inl (by simpa[aQ] using e)
  .exact .inr (C e)
 by_cases X:kind=7
 .subst X;simp[aB] at h;exact⟨.inr (k3 h.2.2.2.2.1),k6 h.2.2.2.1,fun _=>k3 h.2.2.2.2.1⟩
 by_cases h8:kind=8
 .subst h8;simp[aB] at h;refine⟨.inr (C h.2.2.1),?_,fun e=>by simp at e⟩;show ∀ r∈[a],_;simpa using k3 h.2.1
 by_cases h9:kind=9
 .subst h9;simp[aB] at h;refine⟨.inl rfl,?_,fun e=>by simp at e⟩;show ∀ r∈[a],_;simpa using C h.2.2.1
 .simp[h1,h2,J,M,O,U,X,h8,h9] at h
end Go.Argus
namespace Go.Argus
open Go Go.Abs
theorem gF.nH{n:Nat}{s:CS}(h:gF n s){b:Nat}(hb:b<n):ff (s.wsq.getD b []):=by
 have hl:b<s.wsq.length:=by rw[h.lw];exact hb
 have hx:s.wsq[b]? =some s.wsq[b]:=bc hl;rw[getD_some hx];have hm:s.wsq[b]∈s.wsq:=di _;exact⟨h.lx _ hm,h.rg _ hm⟩
end Go.Argus
section
open Go Go.Abs Go.Proofs Go.Argus
namespace Go.Abs
section
variable{P:Program}{m:Mem}{nx:Nat}
end
end Go.Abs
namespace Go.Argus
open Go.Proofs.Tryz.K (nextR)
theorem LK{f:aK}{x:End}(h:gB f x=true):fv x=dB x:=by
 unfold gB at h;rw[aB] at h;obtain⟨h,hb⟩:=h;have hb:=UX hb;obtain⟨kind,a,b,to,fL,name,ins,args,aC,others⟩:=x;simp only[fw] at h hb;by_cases h1:kind=1
 .subst h1;simp only[Int.reduceEq,if_false,if_true] at hb;have C:aC=[]:=List.length_eq_zero_iff.1 hb.2.2.2.2.2.2.2;have ho:others= -1:=hb.2.2.2.2.2.1;subst C ho;simp[fv,kX,qg,gz,dB,jk,aP]
 by_cases h2:kind=2
 .subst h2;simp only[Int.reduceEq,if_false,if_true] at hb;have C:aC=[]:=List.length_eq_zero_iff.1 hb.2.2.2.2.2.2.2;have ho:others= -1:=hb.2.2.2.2.2.1;subst C ho;simp[fv,kX,qg,gz,dB,jk,aP]
 by_cases J:kind=3
 .subst J;simp only[Int.reduceEq,if_false,if_true] at hb;have C:aC=[]:=List.length_eq_zero_iff.1 hb.2.2.2.2.2.2.2;have ho:others= -1:=hb.2.2.2.2.2.1;subst C ho;simp[fv,kX,qg,gz,dB,jk,aP]
 by_cases M:kind=4
 .subst M;simp only[Int.reduceEq,if_false,if_true] at hb;have C:aC=[]:=List.length_eq_zero_iff.1 hb.2.2.2.2.2.2.2;have ho:others= -1:=hb.2.2.2.2.2.1;subst C ho;simp[fv,kX,qg,gz,dB,jk,aP]
 by_cases O:kind=5
 .subst O;by_cases ho:0<=others<;>simp[fv,kX,qg,gz,dB,jk,aP,ho]
 by_cases U:kind=6
 .subst U;by_cases ho:0<=others<;>simp[fv,kX,qg,gz,dB,jk,aP,ho]
 by_cases X:kind=7
 .subst X;simp only[Int.reduceEq,if_false,if_true] at hb;have C:aC=[]:=List.length_eq_zero_iff.1 hb.2.2.2.2.2.2.2;have ho:others= -1:=hb.2.2.2.2.2.1;subst C ho;simp[fv,kX,qg,gz,dB,jk,aP]
 by_cases h8:kind=8
 .subst h8;by_cases ho:0<=others<;>simp[fv,kX,qg,gz,dB,jk,aP,ho]
 by_cases h9:kind=9
 .subst h9;simp only[Int.reduceEq,if_false,if_true] at hb;have C:aC=[]:=List.length_eq_zero_iff.1 hb.2.2.2.2.2.2.2;have ho:others= -1:=hb.2.2.2.2.2.1;subst C ho;simp[fv,kX,qg,gz,dB,jk,aP]
 .simp only[h1,h2,J,M,O,U,X,h8,h9,if_false] at h;cases h
theorem T3{f:aK}{x:End}(h:gB f x=true):qG x=nextR x:=by
 refine Va (DU .nil).1 (S6 x) fun t=>?_;rw[SV,LK h,nextR,K3]
theorem SY{f:aK}{bs:List bB}(h:∀ b∈bs,gB f b.fin=true)(k:Nat):mB bs k=cw bs k:=by
 induction k with
 |zero=>rfl
 |succ k ih=>
  unfold mB cw at ih ⊢;rw[List.range_succ,List.foldl_append,List.foldl_append,ih];show Ei bs _ k=pK bs _ k;unfold Ei pK;cases hx:bs[k]? with
  |none=>rfl
  |some x=>dsimp only;rw[T3 (h x (cx hx))]
end Go.Argus
end
namespace Go.Argus
open Go Go.Abs
open Go.Proofs.Tryz.K (nextR)
def rZ(f:aK):Bool:=mu f&&(pz f&&oJ f)
def HL(f:aK):Bool:=f.blocks.all fun x=>(fv x.fin).all (cv f)
def wE(f:aK)(b:Nat)(l:List bK)(j:Nat):Bool:=eu f b (mB f.blocks f.blocks.length b).length (l.getD j dW)&& !(cA (l.getD j dW)&&(decide (0<j)&& !cA (l.getD (j - 1) dW)))
def si(f:aK)(b:Nat):Bool:=
 let x:=f.blocks.getD b jg
 !decide ((200:Int)<x.ins.length)&&((range x.ins.length).all (wE f b x.ins)&&(iz f x.fin&& !(x.fin.kind==7&&(jT f.blocks b).any (·==x.fin.a))))
def vO(f:aK):Bool:=rZ f&&(HL f&&(range f.blocks.length).all (si f))
theorem GW(f:aK)(b:Int)(x:bK)(p:Bool)(C:Int):jb f b x p C=(jb f b x true C&&(!cA x||p)):=by
 unfold jb cA;by_cases U:x.op=16
 .simp[U]
 .by_cases O:x.op=17
  .simp[O]
  .by_cases J:x.op=18
   .simp[J]
   .by_cases M:x.op=19
    .simp[M,Bool.and_comm]
    .simp[U,O,J,M]
theorem afw(l:List bK):(∀ j,j<l.length->cA (l.getD j dW)=true->0<j->cA (l.getD (j - 1) dW)=true)↔∀ j,j<l.length->cA (l.getD j dW)=true->(l.take (j+1)).all cA=true:=by
 have hg:∀ {j},j<l.length->∀ y,l[j]? =some y->l.getD j dW=y:=fun _ y hy=>getD_some hy;constructor
 .intro h j
  induction j with
  |zero=>
   intro hj hp;have hx:l[0]? =some l[0]:=bc hj;rw[getD_some hx] at hp;rw[List.take_add_one,hx];simpa using hp
  |succ j ih=>
   intro hj hp;have hx:l[j+1]? =some l[j+1]:=bc hj;have h1:=h (j+1) hj hp oG;have h2:=ih oG (by simpa using h1);rw[List.take_add_one,List.all_append,h2,hx];rw[getD_some hx] at hp;simpa using hp
 .intro h j hj hp h0;have h1:=h j hj hp;have hx:l[j - 1]? =some l[j - 1]:=bc oG;rw[getD_some hx];refine bT.1 h1 _ ?_;refine cx (i:=j - 1) ?_;rw[List.getElem?_take,if_pos oG,hx]
theorem agV{n:Nat}{p q:Nat->Bool}:(range n).all (fun j=>p j&&q j)=((range n).all p&&(range n).all q):=by
 rw[Bool.eq_iff_iff];simp only[bT,aB,List.mem_range];exact⟨fun h=>⟨fun j hj=>(h j hj).1,fun j hj=>(h j hj).2⟩,fun h j hj=>⟨h.1 j hj,h.2 j hj⟩⟩
theorem R8{f:aK}:vO f=kB f:=by
 have hH:kB f=(rZ f&&((range f.blocks.length).all (jU f)&&(range f.blocks.length).all (rL f))):=by
  unfold kB rZ;simp only[Bool.and_assoc]
 rw[hH];unfold vO;cases hh:rZ f with
 |false=>rfl
 |true=>
  rw[Bool.true_and,Bool.true_and,Bool.eq_iff_iff,aB,aB,bT,bT,bT];unfold rZ at hh;simp only[aB] at hh;obtain⟨h1,h2,_⟩:=hh
  have n1:oB f=true:=by
   unfold mu at h1;simp only[aB] at h1;exact h1.2.2.1
  have hO:f.ag.length<=1200:=by
   unfold mu at h1;simp only[aB,Bool.not_eq_true',decide_eq_false_iff_not] at h1;omega
  have jj:∀ k∈f.aN,k=1\/k=2:=fun k hk=>by
   unfold pz at h2;simp only[aB] at h2;have C:=h2.2.2.1;simp only[fj,Bool.not_eq_true',List.any_eq_false] at C;have:=C k hk;simp[mY] at this;omega
  have n4:∀ {k:Nat},k<f.blocks.length->∃ x,f.blocks[k]? =some x/\f.blocks.getD k jg=x/\x∈f.blocks:=fun {k} hk=>by
   have hx:f.blocks[k]? =some f.blocks[k]:=bc hk;exact⟨_,hx,getD_some hx,di _⟩
  have pV:(∀ b∈f.blocks,gB f b.fin=true)->∀ k,k<f.blocks.length->(si f k=true↔jU f k=true/\rL f k=true):=fun he k hk=>by
   obtain⟨x,hx,hg,hm⟩:=n4 hk;have X:=SY he f.blocks.length;unfold si jU rL wE rK;simp only[hg,ML n1,he x hm,X,Bool.true_and,aB,bT,List.mem_range];have C:∀ j,eu f k (cw f.blocks f.blocks.length k).length (x.ins.getD j dW)=jb f k (x.ins.getD j dW) true (cw f.blocks f.blocks.length k).length:=fun j=>Vb jj;have YD:=afw x.ins;simp only[C];constructor
   .rintro⟨O,M,U⟩;refine⟨⟨O,U⟩,fun j hj=>?_⟩;rw[GW,aB];refine⟨(M j hj).1,?_⟩;have:=YD.1 (fun j hj hp h0=>by have:=(M j hj).2;rw[hp] at this;simpa[h0] using this) j hj;cases hp:cA (x.ins.getD j dW) with
    |false=>rfl
    |true=>rw[this hp];rfl
   .rintro⟨⟨O,U⟩,M⟩;refine⟨O,fun j hj=>?_,U⟩
    have J:∀ j,j<x.ins.length->cA (x.ins.getD j dW)=true->(x.ins.take (j+1)).all cA=true:=fun j hj hp=>by
     have:=M j hj;rw[GW,aB,hp] at this;simpa using this.2
    have h5:=M j hj;rw[GW,aB] at h5;refine⟨h5.1,?_⟩;have h6:=YD.2 J j hj;cases hp:cA (x.ins.getD j dW) with
    |false=>rfl
    |true=>
     by_cases h0:0<j
     .rw[h6 hp h0];simp
     .simp[h0]
  constructor
  .rintro⟨C,J⟩
   have he:∀ b∈f.blocks,gB f b.fin=true:=fun b hb=>by
    obtain⟨k,hk⟩:=dR hb;have:=J k (by simpa using(bX.1 hk).1);unfold si at this;simp only[getD_some hk,aB,ML n1] at this;exact this.2.2.1
   exact⟨fun k hk=>((pV he k (by simpa using hk)).1 (J k hk)).1,fun k hk=>((pV he k (by simpa using hk)).1 (J k hk)).2⟩
  .rintro⟨C,J⟩
   have he:∀ b∈f.blocks,gB f b.fin=true:=fun b hb=>by
    obtain⟨k,hk⟩:=dR hb;have:=C k (by simpa using(bX.1 hk).1);unfold jU at this;simp only[getD_some hk,aB] at this;exact this.1
   refine⟨bT.2 fun x hx=>bT.2 fun t ht=>?_,fun k hk=>(pV he k (by simpa using hk)).2 ⟨C k hk,J k hk⟩⟩;rw[LK (he x hx)] at ht;have:=(L9 hO n1 (he x hx)).to t ht;rw[cv,iW];omega
def opsV(R:Nat)(c:Cert)(x:bK):Bool:=(x.op !=17||c.is.getD ((R:Int)+x.n).toNat false)&&sC c (c6 x)
def qL(f:aK)(s:CS)(b:Nat)(x:bK)(k:Nat):Bool:=
 let p:=((cw f.blocks f.blocks.length b).getD k 0).toNat
 let c:=cH f.ag.length (f.ag.length+f.aN.length) s p
 c.any||(nY (f.blocks.getD p jg).fin b (fG f.ag.length (f.blocks.getD p jg).ins c)).is.getD (x.args.getD k 0).toNat false
def CM(f:aK)(s:CS)(b:Nat)(x:bK):Bool:= !cA x||(range x.args.length).all (qL f s b x)
def Aw(f:aK)(s:CS)(b:Nat)(l:List bK)(c:Cert)(j:Nat):Bool:=opsV f.ag.length (fG f.ag.length (l.take j) c) (l.getD j dW)&&CM f s b (l.getD j dW)
def qK(f:aK)(s:CS)(b:Nat):Bool:=
 let c:=cH f.ag.length (f.ag.length+f.aN.length) s b
 let l:=(f.blocks.getD b jg).ins
 c.any||((range l.length).all (Aw f s b l c)&&sC (fG f.ag.length l c) (c8 (f.blocks.getD b jg).fin))
def Nn(f:aK):Int:=if vO f=true then(if(range f.blocks.length).all (qK f (iq f.blocks f.args.toNat))=true then 0 else 81) else 80
theorem Np{R n:Nat}(J:R<=n){w:List Int}(C:ff w):∀ {rs:List Int} {ok:Bool},(∀ r∈rs,∃ i:Nat,i<R/\r=i)->jq w ok rs=(ok&&sC ⟨false,cF R n w⟩ rs)
 |[],ok,_=>by simp[jq,sC]
 |r::rs,ok,h=>by
  obtain⟨i,hi,e⟩:=h r oS;have ih:=Np J C (rs:=rs) (ok:=ok&&lF w r.toNat) fun r hr=>h r (by simp[hr])
  have h1:(cF R n w).getD r.toNat false=lF w r.toNat:=by
   rw[e,eI,getD_some (ux oG),zx C.all];unfold gU;rw[if_pos hi]
  unfold jq sC at ih ⊢;rw[List.foldl_cons,ih,List.all_cons,h1,Bool.and_assoc]
theorem Ve{R n:Nat}(hR:R<=1200)(hn:n<=R+60)(C:R<=n):∀ {l:List bK} (_:∀ x∈l,Av R n x/\JJ R n x) {w:List Int} {ok:Bool} (_:ff w) (_:nv R n w),
 (l.foldl mI (w,ok)).2=(ok&&(range l.length).all fun j=>opsV R (fG R (l.take j) ⟨false,cF R n w⟩) (l.getD j dW))
 |[],_,w,ok,_,_=>by simp
 |x::l,h,w,ok,hw,ho=>by
  obtain⟨O,J⟩:=h x oS;obtain⟨h1,h2,X⟩:=T0 hR hn C O hw ho;have ih:=Ve hR hn C (l:=l) (ok:=(mI (w,ok) x).2) (fun y hy=>h y (by simp[hy])) h2 X;rw[List.foldl_cons];show(l.foldl mI (xX w x,(mI (w,ok) x).2)).2=_;rw[ih,List.length_cons,List.range_succ_eq_map,List.all_cons,List.all_map]
  have h0:(mI (w,ok) x).2=(ok&&opsV R ⟨false,cF R n w⟩ x):=by
   show(jq w ok (c6 x)&&_)=_;rw[Np C hw J.r,Bool.and_assoc];congr 1;unfold opsV;rw[Bool.and_comm];congr 1;by_cases M:x.op=17
   .obtain⟨i,hi,e⟩:=J.s M;have U:((R:Int)+x.n).toNat=R+i:=by omega
    have e2:(lL x.n).toNat=gU R (R+i):=by unfold lL gU;rw[if_neg oG];omega
    rw[U,e2,getD_some (ux oG),zx hw.all]
   .have:(x.op !=17)=true:=by simpa using M
    rw[this];rfl
  rw[h0,Bool.and_assoc];congr 2;refine List.all_congr rfl fun j=>?_;show _=opsV R (fG R ((x::l).take (j+1)) _) ((x::l).getD (j+1) dW);unfold fG;rw[List.take_succ_cons,List.foldl_cons,h1];rfl
theorem afx{l:List bK}{P:bK->Bool}(h:∀ j,j<l.length->cA (l.getD j dW)=true->(l.take (j+1)).all cA=true):(range l.length).all (fun j=> !cA (l.getD j dW)||P (l.getD j dW))=(l.takeWhile cA).all P:=by
 rw[Bool.eq_iff_iff,bT,bT];constructor
 .intro ha y hy;have C:y∈l:=List.takeWhile_sublist _ |>.subset hy;have hp:cA y=true:=bT.1 List.all_takeWhile y hy;obtain⟨j,hj⟩:=dR C;have:=ha j (by simpa using(bX.1 hj).1);rw[getD_some hj,hp] at this;simpa using this
 .intro ha j hj;have al:j<l.length:=by simpa using hj
  have hx:l[j]? =some l[j]:=bc al;have h1:=h j al;rw[getD_some hx] at h1 ⊢;cases hp:cA l[j] with
  |false=>rfl
  |true=>
   have h2:=bT.1 (h1 hp)
   have J:l.takeWhile cA=l.take (j+1)++(l.drop (j+1)).takeWhile cA:=by
    conv=>lhs;rw[<- List.take_append_drop (j+1) l]
    exact List.takeWhile_append_of_pos h2
   have:P l[j]=true:=ha _ (by
    rw[J,List.mem_append];left
    exact cx (i:=j) (by rw[List.getElem?_take,if_pos oG,hx]))
   rw[this];rfl
structure Je(f:aK):Prop where
 ok:IK f
 sl:f.aN.length<=60
 ins:∀ b∈f.blocks,∀ x∈b.ins,Av f.ag.length (f.ag.length+f.aN.length) x/\JJ f.ag.length (f.ag.length+f.aN.length) x
 Kz:∀ (k:Nat) b,f.blocks[k]? =some b->∀ (j:Nat) x,b.ins[j]? =some x->cA x=true->x.args.length=(cw f.blocks f.blocks.length k).length/\(b.ins.take (j+1)).all cA=true
 wr:∀ b∈f.blocks,fc b.fin= -1\/∃ i:Nat,i<f.ag.length/\fc b.fin=i
 rd:∀ b∈f.blocks,∀ r∈c8 b.fin,∃ i:Nat,i<f.ag.length/\r=i
 ed:∀ b∈f.blocks,fv b.fin=dB b.fin/\qG b.fin=nextR b.fin
 ar:∃ a:Nat,f.args=a/\a<=f.ag.length
theorem Xu{f:aK}(h:kB f=true):Je f:=by
 have J:=xW h;have hd:=h;unfold kB at hd;simp only[aB] at hd;obtain⟨h1,h2,_,X,_⟩:=hd
 have n1:oB f=true:=by
  unfold mu at h1;simp only[aB] at h1;exact h1.2.2.1
 have U:∃ a:Nat,f.args=a/\a<=f.ag.length:=by
  unfold mu at h1;simp only[aB,iW] at h1;have:=h1.2.1;refine⟨f.args.toNat,oG,?_⟩;have:=this.2;split at this<;>omega
 have jj:∀ k∈f.aN,k=1\/k=2:=fun k hk=>by
  unfold pz at h2;simp only[aB] at h2;have C:=h2.2.2.1;simp only[fj,Bool.not_eq_true',List.any_eq_false] at C;have:=C k hk;simp[mY] at this;omega
 have he:∀ b∈f.blocks,gB f b.fin=true:=fun b hb=>by
  obtain⟨k,hk⟩:=dR hb;have:=bT.1 X k (by simpa using(bX.1 hk).1);unfold jU at this;simp only[getD_some hk,aB] at this;exact this.1
 have M:∀ (k:Nat) b,f.blocks[k]? =some b->∀ (j:Nat) x,b.ins[j]? =some x->eu f k (cw f.blocks f.blocks.length k).length x=true/\(cA x=true->(b.ins.take (j+1)).all cA=true):=fun k b hb j x hx=>by
  have:=J.right k b hb j x hx;rw[GW,aB] at this;refine⟨by rw[Vb jj];exact this.1,fun hp=>?_⟩;have C:=this.2;rw[hp] at C;simpa using C
 have O:∀ b∈f.blocks,iz f b.fin=true:=fun b hb=>by rw[ML n1];exact he b hb
 refine⟨J,J.aN.2,fun b hb x hx=>?_,fun k b hb j x hx hp=>?_,fun b hb=>(MH (O b hb)).1,fun b hb=>(MH (O b hb)).2.1,fun b hb=>⟨LK (he b hb),T3 (he b hb)⟩,U⟩
 .obtain⟨k,hk⟩:=dR hb;obtain⟨j,hj⟩:=dR hx;have:=Vc J.aN.1 (M k b hk j x hj).1;exact⟨this.1,this.2.1⟩
 .have:=Vc J.aN.1 (M k b hb j x hx).1;have C:=this.2.2 (by simpa[cA] using hp);exact⟨oG,(M k b hb j x hx).2 hp⟩
theorem adK{f:aK}(h:Je f):qJ f.ag.length (f.ag.length+f.aN.length) f.blocks.length (iq f.blocks f.args.toNat):=by
 obtain⟨a,ha,tF⟩:=h.ar;have hR:=h.ok.ag;have hS:=h.sl;have hi:=SX (R:=f.ag.length) (n:=f.ag.length+f.aN.length) (args:=a) hR oG oG h.ok.pos tF;rw[ha,eI];unfold iq;refine(TX (J:=qJ f.ag.length (f.ag.length+f.aN.length) f.blocks.length) h.ok.bF (fun s hs hj=>afs (J:=qJ f.ag.length (f.ag.length+f.aN.length) f.blocks.length) h.ok.bF (fun s h=>U4 h false) (fun s k hs hj=>?_) hs hj) _ _ hi.1.ok hi.1 (Nat.lt_succ_self _)).2.2;refine agP (J:=qJ f.ag.length (f.ag.length+f.aN.length) f.blocks.length) h.ok.bF hs hj fun x hx hr u hu O t ht=>?_;have hk:k<f.blocks.length:=(bX.1 hx).1;have C:=cx hx;have M:=(h.ok.bF x C).to t ht;obtain⟨t,rfl⟩:=iG M.1;obtain⟨_,U,X⟩:=D8 hR oG oG (ok:=true) (fun y hy=>(h.ins x C y hy).1) (hs.nH hk) (hj.yes k hk hr);exact(U5 hR oG oG O (h.ed x C).1 (h.wr x C) oG U X).1
theorem T4{f:aK}(h:Je f){b:Nat}(hb:b<f.blocks.length):qK f (iq f.blocks f.args.toNat) b=rJ f.blocks (iq f.blocks f.args.toNat) b:=by
 have M:=adK h;have hR:=h.ok.ag;have hS:=h.sl;generalize iq f.blocks f.args.toNat=s at M ⊢;have hx:f.blocks[b]? =some f.blocks[b]:=bc hb;have J:f.blocks[b]∈f.blocks:=di _;unfold qK rJ;simp only[getD_some hx];have Ap:=h.Kz b _ hx;generalize f.blocks[b]=x at hx J Ap;cases qj:s.re.getD b false with
 |false=>
  have:cH f.ag.length (f.ag.length+f.aN.length) s b=⟨true,replicate (f.ag.length+f.aN.length) false⟩:=by unfold cH;rw[qj];rfl
  rw[this];rfl
 |true=>
  have hc:cH f.ag.length (f.ag.length+f.aN.length) s b=⟨false,cF f.ag.length (f.ag.length+f.aN.length) (s.wsq.getD b [])⟩:=by unfold cH;rw[qj];rfl
  have hw:=M.ok.nH hb;have ho:=M.yes b hb qj;rw[hc];generalize s.wsq.getD b []=w at hw ho;have h1:=Ve hR oG oG (h.ins x J) (ok:=true) hw ho;obtain⟨h2,h3,h4⟩:=D8 hR oG oG (ok:=true) (fun y hy=>(h.ins x J y hy).1) hw ho;have h5:=Np (R:=f.ag.length) (n:=f.ag.length+f.aN.length) oG h3 (ok:=(x.ins.foldl mI (w,true)).2) (h.rd x J)
  have h6:∀ j,j<x.ins.length->cA (x.ins.getD j dW)=true->(x.ins.take (j+1)).all cA=true:=fun j hj hp=>by
   have hy:x.ins[j]? =some x.ins[j]:=bc hj;rw[getD_some hy] at hp;exact(Ap j _ hy hp).2
  have h7:=afx (l:=x.ins) (P:=fun y=>(range y.args.length).all (qL f s b y)) h6
  have h8:(x.ins.takeWhile cA).all (fun y=>(range y.args.length).all (qL f s b y))=(x.ins.takeWhile cA).all (rY f.blocks s b):=by
   rw[Bool.eq_iff_iff,bT,bT]
   have C':∀ y∈x.ins.takeWhile cA,(range y.args.length).all (qL f s b y)=rY f.blocks s b y:=fun y hy=>by
    have KJ:y∈x.ins:=List.takeWhile_sublist _ |>.subset hy;have hp:cA y=true:=bT.1 List.all_takeWhile y hy;obtain⟨j,hj⟩:=dR KJ;have hlen:=(Ap j y hj hp).1;unfold rY;rw[hlen,Bool.eq_iff_iff,bT,bT]
    have:∀ k∈range (cw f.blocks f.blocks.length b).length,qL f s b y k=sO f.blocks s b y k:=fun k hk=>by
     have hk:k<(cw f.blocks f.blocks.length b).length:=by simpa using hk
     have hpk:(cw f.blocks f.blocks.length b)[k]? =some (cw f.blocks f.blocks.length b)[k]:=bc hk;unfold qL sO;simp only[getD_some hpk]
     have O:(cw f.blocks f.blocks.length b)[k].toNat<f.blocks.length:=by
      have aoi:=(GV (fun b hb t ht=>((h.ok.bF b hb).to t ht).1) f.blocks.length b).2 _ (di hk);have:=h.ok.pos;omega
     generalize (cw f.blocks f.blocks.length b)[k].toNat=p at O;have vA:f.blocks[p]? =some f.blocks[p]:=bc O;have U:f.blocks[p]∈f.blocks:=di _;rw[getD_some vA];generalize f.blocks[p]=z at vA U;have hak:y.args[k]? =some y.args[k]:=bc oG;have Dx:=(h.ins x J y KJ).2.p (by simpa[cA] using hp) _ (di (h:=by omega):y.args[k]∈y.args);rw[getD_some hak];obtain⟨i,hi,e⟩:=Dx;rw[e,eI];cases X:s.re.getD p false with
     |false=>
      have:cH f.ag.length (f.ag.length+f.aN.length) s p=⟨true,replicate (f.ag.length+f.aN.length) false⟩:=by unfold cH;rw[X];rfl
      rw[this];rfl
     |true=>
      have A5:cH f.ag.length (f.ag.length+f.aN.length) s p=⟨false,cF f.ag.length (f.ag.length+f.aN.length) (s.wsq.getD p [])⟩:=by unfold cH;rw[X];rfl
      obtain⟨q2,q3,q4⟩:=D8 hR oG oG (ok:=true) (fun y hy=>(h.ins z U y hy).1) (M.ok.nH O) (M.yes p O X);obtain⟨r2,r3,r4⟩:=T2 hR oG oG (h.ed z U).1 (h.wr z U) (to:=(b:Int)) q3 q4;rw[A5,q2,r2,getD_some (ux (show i<f.ag.length+f.aN.length by omega))];have xd:gU f.ag.length i=i:=by unfold gU;rw[if_pos hi]
      rw[xd];show(false||eM _ i)=(!true||lF _ i)
      rw[<- zx r3.all];rfl
    exact⟨fun h k hk=>by rw[<- this k hk];exact h k hk,fun h k hk=>by rw[this k hk];exact h k hk⟩
   exact⟨fun h y hy=>by rw[<- C' y hy];exact h y hy,fun h y hy=>by rw[C' y hy];exact h y hy⟩
  have h9:(range x.ins.length).all (Aw f s b x.ins ⟨false,cF f.ag.length (f.ag.length+f.aN.length) w⟩)=((range x.ins.length).all (fun j=>opsV f.ag.length (fG f.ag.length (x.ins.take j) ⟨false,cF f.ag.length (f.ag.length+f.aN.length) w⟩) (x.ins.getD j dW))&&(range x.ins.length).all fun j=> !cA (x.ins.getD j dW)||(range (x.ins.getD j dW).args.length).all (qL f s b (x.ins.getD j dW))):=by
   rw[<- agV];rfl
  have nJ:(jE x w).2=jq (x.ins.foldl mI (w,true)).1 (x.ins.foldl mI (w,true)).2 (c8 x.fin):=rfl;rw[h9,h7,h8,h2,nJ,h5,h1];simp only[Bool.true_and,Bool.false_or,Bool.not_true];generalize (range x.ins.length).all _=A;generalize (x.ins.takeWhile cA).all _=B;generalize sC _ _=C;cases A<;>cases B<;>cases C<;>rfl
theorem adv(f:aK):Nn f=fe f:=by
 unfold Nn fe;rw[R8];split
 .rename_i h;have hf:=Xu h
  have:(range f.blocks.length).all (qK f (iq f.blocks f.args.toNat))=sL f.blocks f.args.toNat:=by
   unfold sL;rw[Bool.eq_iff_iff,bT,bT];exact⟨fun h k hk=>by rw[<- T4 hf (by simpa using hk)];exact h k hk,fun h k hk=>by rw[T4 hf (by simpa using hk)];exact h k hk⟩
  rw[this]
 .rfl
end Go.Argus
section
open Go Go.Abs Go.Proofs Go.Argus
namespace Go.Argus
def yr(f:aK):Bool:=jr f.name&&(!decide ((1200:Int)<f.ag.length)&&(!decide ((60:Int)<f.aN.length)&&(dx f.args 0 (if(f.ag.length:Int)<6 then(f.ag.length:Int) else 6)&&(!decide (2<f.result)&&(!(f.iter&&decide (f.result=0))&&(!decide ((6:Int)<f.signals.length)&&dx f.blocks.length 1 1200))))))
def uB(a:Int)(j:Nat)(x:Int):Bool:=mY 3 x||(decide ((j:Int)<a)&&decide (x=3))
theorem aaU{f:aK}(h:yr f=false):rZ f=false:=by
 unfold yr at h;unfold rZ mu pz oB;revert h;generalize jr f.name=a;generalize dx f.args 0 _=b;generalize dx f.blocks.length 1 1200=c;generalize oJ f=d;generalize fj f.ag 3=e;generalize fj (f.ag.take f.args.toNat) 2=g;generalize fj f.aN 2=i;generalize f.signals.any _=j;grind
theorem abB{f:aK}(h:yr f=true)(hr:0<=f.result):mu f=true/\f.signals.length<=6/\f.ag.length<=1200/\f.aN.length<=60/\0<=f.args/\f.args<=f.ag.length:=by
 unfold yr at h;simp only[aB,Bool.not_eq_true',decide_eq_false_iff_not,iW] at h;obtain⟨h1,h2,M,C,U,J,X,O⟩:=h;have ha:f.args<=f.ag.length:=by have:=C.2;split at this<;>omega
 refine⟨?_,oG,oG,oG,C.1,ha⟩;unfold mu oB;simp only[aB,Bool.not_eq_true',decide_eq_false_iff_not,iW];refine⟨h1,C,?_,h2,M,O⟩;have:f.result=0\/f.result=1\/f.result=2:=by omega
 rcases this with e|e|e
 .simp[e] at J ⊢;exact J
 .simp[e]
 .simp[e]
theorem iL(a b:Bool):(if a=true then b else false)=(a&&b):=by cases a<;>rfl
end Go.Argus
namespace Go.Proofs.Tryz.K
theorem CH{f:aK}(hs:s4 f):az prog 136 [.agg (aH f)] (B (rZ f)):=by
 have Ar:=Ar hs.nm;have ix:∀ {n a b:Int},az prog 188 [I n,I a,I b] (B (dx n a b)):=fun {n a b}=>ix;refine bu ale (.cons (.agg (gA f)) .nil) (Tr.s _) ?_;rw[alf];refine ay ?_;refine af ?_;refine ab (aX (bZ [(0,aH f,48)] eH (l:=[(1,.pt (aH f))]) eH) (aI (aj ?_)));refine af ?_;refine cl Ar ?_;refine bj ?_;refine cP ?_;refine af ?_;refine cq rfl rfl (Wt rfl rfl) (fun hc=>⟨ak,rfl⟩) ?_;refine gc ix ?_;refine bj ?_;refine bj ?_;refine cP ?_;refine gc ix ?_;refine af ?_;refine ab (dZ rfl (fun h=>?_) fun h=>cX (aI (ay ?_)))
 .refine aI (aj ?_);refine SS ?_;refine ab (eb (aw (d:=B false) rfl ?_))
  have:yr f=false:=by
   revert h;unfold yr;generalize jr f.name=a;generalize dx f.args 0 _=b;generalize dx f.blocks.length 1 1200=c;generalize f.iter=d;grind
  rw[aaU this]
 have hA:yr f=true:=by
  revert h;unfold yr;generalize jr f.name=a;generalize dx f.args 0 _=b;generalize dx f.blocks.length 1 1200=c;generalize f.iter=d;grind
 obtain⟨h1,h6,hR,hS,M,haR⟩:=abB hA hs.Gd;clear h hA;obtain⟨a,ha⟩:=iG M
 have hV:rZ f=(fj f.ag 3&&(fj (f.ag.take a) 2&&(fj f.aN 2&&((!f.signals.any fun s=> !isName s)&&oJ f)))):=by
  rw[rZ,h1,pz,ha,eI,show decide ((6:Int)<f.signals.length)=false from decide_eq_false oG];simp only[Bool.true_and,Bool.not_false,Bool.and_assoc]
 rw[hV];clear hV h1
 have X:∀ (j:Nat) x,f.ag[j]? =some x->uB a j x=true->(fj f.ag 3&&(fj (f.ag.take a) 2&&(fj f.aN 2&&((!f.signals.any fun s=> !isName s)&&oJ f))))=false:=fun j x hx hb=>by
  unfold uB at hb;rw[Bool.or_eq_true] at hb;rcases hb with hb|hb
  .have:fj f.ag 3=false:=by
    unfold fj;rw[List.any_eq_true.2 ⟨x,cx hx,hb⟩];rfl
   rw[this];rfl
  .have hb:j<a/\x=3:=by simpa using hb
   have:fj (f.ag.take a) 2=false:=by
    unfold fj;rw[List.any_eq_true.2 ⟨x,cx (i:=j) (by rw[List.getElem?_take,if_pos hb.1,hx]),by rw[hb.2];rfl⟩];rfl
   rw[this,Bool.false_and,Bool.and_false]
 have U:(∀ (j:Nat) x,f.ag[j]? =some x->uB a j x=false)->fj f.ag 3=true/\fj (f.ag.take a) 2=true:=fun h=>by
  constructor
  .unfold fj;rw[Bool.not_eq_true',List.any_eq_false];intro x hx;obtain⟨j,hj⟩:=dR hx;have:=h j x hj;unfold uB at this;rw[Bool.or_eq_false_iff] at this;rw[this.1];simp
  .unfold fj;rw[Bool.not_eq_true',List.any_eq_false];intro x hx;obtain⟨j,hj⟩:=dR hx;have vC:j<a:=by have:=(bX.1 hj).1;simp at this;omega
   rw[List.getElem?_take,if_pos vC] at hj;have:=h j x hj;unfold uB mY at this;simp[vC] at this;simp[mY];omega
 refine SS ?_
 refine ab (cD (fun s=>aM prog s ⟨aF [(1,.pt (aH f))],fun _=>none,1⟩/\fj f.ag 3=true/\fj (f.ag.take a) 2=true) (dD (α:=Nat) (fun k=>⟨aF [(1,.pt (aH f)),(3,I k)],fun _=>none,1⟩)
  (fun k=>k<=f.ag.length/\∀ j x,j<k->f.ag[j]? =some x->uB a j x=false) (fun k=>f.ag.length - k) 0 (ao eH) ⟨oG,fun j y hj=>by omega⟩ ?_) ?_)
 .rintro k ⟨hk,hinv⟩;refine bm ?_;refine ab ⟨_,rfl,fun h=>?_,fun h=>?_⟩
  .have al:k<f.ag.length:=by simpa using h
   have hx:f.ag[k]? =some f.ag[k]:=bc al;have qX:=X k _ hx
   have ZA:uB a k f.ag[k]=false->∀ j y,j<k+1->f.ag[j]? =some y->uB a j y=false:=fun h j y hj hy=>by
    by_cases e:j=k
    .subst e;rw[hx] at hy;cases hy;exact h
    .exact hinv j y oG hy
   generalize f.ag[k]=x at hx qX ZA;refine ws ?_;refine bj ?_;refine bj ?_;refine cP ?_;refine af ?_;refine ab (ap rfl (fun hp=>?_) fun hp=>?_)
   .refine ws ?_;refine SS ?_;refine ab (bp (cZ (a6 (aw (d:=B false) rfl ?_))));rw[qX (by revert hp;unfold uB mY;rw[ha];grind)]
   .refine dE ?_;refine av ?_;refine ab (bg (k+1) (ao eH) ⟨oG,ZA (by revert hp;unfold uB mY;rw[ha];grind)⟩ oG)
  .have bG:¬ k<f.ag.length:=by simpa using h
   exact⟨ao eH,U fun j x hx=>hinv j x (by have:=(bX.1 hx).1;omega) hx⟩
 rintro s ⟨hg,e1,e2⟩;clear X U;rw[e1,e2,Bool.true_and,Bool.true_and];refine⟨_,hg,aI (ay ?_)⟩;refine SS ?_
 refine ab (cD (fun s=>aM prog s ⟨aF [(1,.pt (aH f))],fun _=>none,1⟩/\fj f.aN 2=true) (dD (α:=Nat) (fun k=>⟨aF [(1,.pt (aH f)),(4,I k)],fun _=>none,1⟩)
  (fun k=>k<=f.aN.length/\∀ (j:Nat) x,j<k->f.aN[j]? =some x->mY 2 x=false) (fun k=>f.aN.length - k) 0 (ao eH) ⟨oG,fun j y hj=>by omega⟩ ?_) ?_)
 .rintro k ⟨hk,hinv⟩;refine bm ?_;refine ab ⟨_,rfl,fun h=>?_,fun h=>?_⟩
  .have al:k<f.aN.length:=by simpa using h
   have hx:f.aN[k]? =some f.aN[k]:=bc al;generalize f.aN[k]=x at hx;refine ws ?_;refine bj ?_;refine bm ?_;refine ab (ap rfl (fun hp=>?_) fun hp=>?_)
   .refine ws ?_;refine SS ?_;refine ab (bp (cZ (a6 (aw (d:=B false) rfl ?_))))
    have:fj f.aN 2=false:=by
     unfold fj;rw[List.any_eq_true.2 ⟨x,cx hx,by revert hp;unfold mY;grind⟩];rfl
    rw[this];rfl
   .refine dE ?_;refine av ?_;refine ab (bg (k+1) (ao eH) ⟨oG,fun j y hj hy=>?_⟩ oG);by_cases e:j=k
    .subst e;rw[hx] at hy;cases hy;revert hp;unfold mY;grind
    .exact hinv j y oG hy
  .have bG:¬ k<f.aN.length:=by simpa using h
   refine⟨ao eH,?_⟩;unfold fj;rw[Bool.not_eq_true',List.any_eq_false];intro x hx;obtain⟨j,hj⟩:=dR hx;rw[hinv j x (by have:=(bX.1 hj).1;omega) hj];simp
 rintro s ⟨hg,e3⟩;rw[e3,Bool.true_and];clear e1 e2 e3;have Yl:∀ b:Bool,b=(!(f.signals.any fun s=> !isName s)&&oJ f)->b=((!f.signals.any fun s=> !isName s)&&oJ f):=fun b h=>h
 have C:∀ (j:Nat) x,f.signals[j]? =some x->isName x=false->((!f.signals.any fun s=> !isName s)&&oJ f)=false:=fun j x hx hb=>by
  rw[List.any_eq_true.2 ⟨x,cx hx,by rw[hb];rfl⟩];rfl
 have J:∀ (j:Nat) x y,f.signals[j]? =some x->f.signals[j+1]? =some y->Op.bytesLess x.toList y.toList=false->((!f.signals.any fun s=> !isName s)&&oJ f)=false:=fun j x y hx hy hb=>by
  have:oJ f=false:=by
   unfold oJ;refine po (k:=j) (by have:=(bX.1 hy).1;omega) ?_;unfold uh;rw[getD_some hx,getD_some hy,hb]
  rw[this,Bool.and_false]
 refine⟨_,hg,aI (ay ?_)⟩;refine SS ?_
 refine ab (cD (fun s=>aM prog s ⟨aF [],fun _=>none,1⟩/\((!f.signals.any fun s=> !isName s)&&oJ f)=true) (dD (α:=Nat) (fun k=>⟨aF [(1,.pt (aH f)),(5,I k)],fun _=>none,1⟩)
  (fun k=>k<=f.signals.length/\(∀ (j:Nat) x,j<k->f.signals[j]? =some x->isName x=true)/\∀ (j:Nat) x y,j+1<k->f.signals[j]? =some x->f.signals[j+1]? =some y->Op.bytesLess x.toList y.toList=true) (fun k=>f.signals.length - k) 0 (ao eH) ⟨oG,fun j y hj=>by omega,fun j x y hj=>by omega⟩ ?_) ?_)
 .rintro k ⟨hk,hinv,Xp⟩;refine bm ?_;refine ab ⟨_,rfl,fun h=>?_,fun h=>?_⟩
  .have al:k<f.signals.length:=by simpa using h
   have hx:f.signals[k]? =some f.signals[k]:=bc al;have o5:=o5 (hs.sg _ (di al));generalize f.signals[k]=x at hx o5
   have O:isName x=true->∀ (j:Nat) y,j<k+1->f.signals[j]? =some y->isName y=true:=fun hq j y hj hy=>by
    by_cases e:j=k
    .subst e;rw[hx] at hy;cases hy;exact hq
    .exact hinv j y oG hy
   have ZB:=C k x hx;generalize isName x=nb at o5 O ZB;refine ej abC ?_;cases nb with
   |false=>
    refine bm ?_;refine cl o5 ?_;refine bj ?_;(iterate 2 refine z fun _ _=>?_);refine bm ?_;(iterate 2 refine z fun _ _=>?_);refine SS ?_;refine bN bO (ap rfl (fun hp=>?_) fun hp=>(by cases hp));refine ws ?_;refine SS ?_;refine ab (bp (cZ (a6 (aw (d:=B false) rfl ?_))));rw[ZB rfl]
   |true=>
    cases k with
    |zero=>
     have u6:decide ((0:Int)<((0:Nat):Int))=false:=rfl;refine bm ?_;refine cl o5 ?_;refine bj ?_;(iterate 2 refine z fun _ _=>?_);refine bm ?_;refine z fun _ _=>?_;refine af ?_;refine bN bO (ap rfl (fun hp=>(by cases hp)) fun hp=>dE ?_);refine av ?_;refine ab (bg 1 (ao eH) ⟨oG,O rfl,fun j x y hj=>by omega⟩ oG)
    |succ i=>
     have u6:decide ((0:Int)<((i+1:Nat):Int))=true:=decide_eq_true oG;have yI:((i+1:Nat):Int) - 1=(i:Int)/\ -9223372036854775808<=(i:Int)/\(i:Int)<=9223372036854775807:=by omega
     have hy:f.signals[i]? =some f.signals[i]:=bc oG;generalize f.signals[i]=y at hy;have dz:=J i y x hy hx
     have yY:Op.bytesLess y.toList x.toList=true->∀ (j:Nat) x y,j+1<i+1+1->f.signals[j]? =some x->f.signals[j+1]? =some y->Op.bytesLess x.toList y.toList=true:=fun hq j u v hj hu hv=>by
      by_cases e:j=i
      .subst e;rw[hy] at hu;cases hu;rw[hx] at hv;cases hv;exact hq
      .exact Xp j u v oG hu hv
     refine bm ?_;refine cl o5 ?_;refine bj ?_;refine fB ?_;refine cq rfl rfl (Vo rfl rfl) (fun hc=>⟨ak,trivial⟩) ?_;refine af ?_;refine bN bO (ap rfl (fun hp=>?_) fun hp=>?_)
     .refine ws ?_;refine SS ?_;refine ab (bp (cZ (a6 (aw (d:=B false) rfl ?_))));rw[dz (by revert hp;generalize Op.bytesLess y.toList x.toList=q;cases q<;>simp)]
     .refine dE ?_;refine av ?_;refine ab (bg (i+1+1) (ao eH) ⟨oG,O rfl,yY (by revert hp;generalize Op.bytesLess y.toList x.toList=q;cases q<;>simp)⟩ oG)
  .have bG:¬ k<f.signals.length:=by simpa using h
   refine⟨.forget _ _ _ _ fun _=>.inr rfl,?_⟩;rw[aB];constructor
   .rw[Bool.not_eq_true',List.any_eq_false];intro x hx;obtain⟨j,hj⟩:=dR hx;rw[hinv j x (by have:=(bX.1 hj).1;omega) hj];simp
   .unfold oJ;refine bT.2 fun j hj=>?_;have hj:j<f.signals.length - 1:=by simpa using hj
    have h1:f.signals[j]? =some f.signals[j]:=bc oG;have h2:f.signals[j+1]? =some f.signals[j+1]:=bc oG;unfold uh;rw[getD_some h1,getD_some h2];exact Xp j _ _ oG h1 h2
 rintro s ⟨hg,e4⟩;rw[e4];refine⟨_,hg,aj ?_⟩;refine SS ?_;exact ab (aw rfl rfl)
section
variable{f:aK}{hd:D}(ht:Tr hd)(dc:hd.one=true)
include ht dc
theorem Pv{x:bK}:az prog 196 [.agg (cu f hd),.agg (bA x)] (B (l8 f x)):=by
 have cm:∀ {r k:Int},az prog 191 [.agg (cu f hd),I r,U8 k] (B (bD f r k)):=fun {r k}=>cm ht dc;have vf:∀ {l:List Int},az prog 193 [.agg (cu f hd),aT l] (B (ie f.ag l)):=fun {l}=>vf ht dc;refine bu ali (.cons (.agg (wC ht f)) (.cons (.agg (rQ x)) .nil)) (Tr.s _) ?_;rw[alj];refine ay ?_;refine av ?_;refine ab (aX (bZ [(0,cu f hd,206),(1,bA x,54)] eH (l:=[(2,.pt (cu f hd)),(3,.pt (bA x))]) eH) (aI (aj ?_)));refine af ?_;refine ab (ou ?_);refine eT (fun s=>aM prog s ⟨aF [(2,.pt (cu f hd)),(3,.pt (bA x)),(6,U8 x.op),(7,B (aP [30,31,32,33,34] x.op))],fun _=>none,2⟩) (aj ?_) fun s hg=>⟨_,hg,?_⟩
 .refine af ?_;refine ab (ap rfl (fun h=>bw (ao ⟨rfl,rfl,rfl,dq h oC,trivial⟩)) fun O=>aj ?_);refine af ?_;refine ab (ap rfl (fun h=>bw (ao ⟨rfl,rfl,rfl,dq h oC,trivial⟩)) fun U=>aj ?_);refine af ?_;refine ab (ap rfl (fun h=>bw (ao ⟨rfl,rfl,rfl,dq h oC,trivial⟩)) fun X=>aj ?_);refine af ?_;refine ab (ap rfl (fun h=>bw (ao ⟨rfl,rfl,rfl,dq h oC,trivial⟩)) fun M=>lP ?_);refine af ?_;refine ab (ao ⟨rfl,rfl,rfl,?_,trivial⟩);show D.s (.bool (x.op==34))=_;simp only[aP,List.any_cons,List.any_nil,O,U,X,M,Bool.false_or,Bool.or_false]
 refine ap rfl (fun h0=>aj ?_) fun h0=>aj ?_
 .have cy:az prog 190 [.agg (bA x),S ⟨#[116,97,98]⟩] (B (ct x [116,97,98])):=cy oC;refine SS ?_;refine cl cy ?_;refine aR ?_;refine gc cm ?_;refine bm ?_;refine gc cm ?_;refine bm ?_;refine gc cm ?_;refine af ?_;refine ab (bp (bU (a6 (aw (d:=.s (.bool _)) rfl ?_))));have e:l8 f x=(ct x [116,97,98]&&(bD f x.to 119&&(bD f x.a 119&&bD f x.b 119))):=by rw[l8,if_pos h0]
  rw[e];simp only[iL,Bool.and_assoc,aQ]
 refine af ?_;refine ab (ap rfl (fun h1=>aj ?_) fun h1=>aj ?_)
 .have cy:az prog 190 [.agg (bA x),S ⟨#[97,98]⟩] (B (ct x [97,98])):=cy oC;refine SS ?_;refine cl cy ?_;refine aR ?_;refine gc cm ?_;refine bm ?_;refine gc cm ?_;refine af ?_;refine ab (bp (bU (a6 (aw (d:=.s (.bool _)) rfl ?_))));have e:l8 f x=(ct x [97,98]&&(bD f x.a 114&&bD f x.b 118)):=by rw[l8,if_neg (by rw[h0];decide),if_pos (by simpa using h1)]
  rw[e];simp only[iL,Bool.and_assoc,aQ]
 have h1:¬ x.op=35:=by simpa using h1
 refine af ?_;refine ab (ap rfl (fun h2=>aj ?_) fun h2=>aj ?_)
 .have cy:az prog 190 [.agg (bA x),S ⟨#[116,97]⟩] (B (ct x [116,97])):=cy oC;refine SS ?_;refine cl cy ?_;refine aR ?_;refine gc cm ?_;refine bm ?_;refine gc cm ?_;refine af ?_;refine ab (bp (bU (a6 (aw (d:=.s (.bool _)) rfl ?_))));have e:l8 f x=(ct x [116,97]&&(bD f x.to 118&&bD f x.a 114)):=by rw[l8,if_neg (by rw[h0];decide),if_neg h1,if_pos (by simpa using h2)]
  rw[e];simp only[iL,Bool.and_assoc,aQ]
 have h2:¬ x.op=36:=by simpa using h2
 refine af ?_;refine ab (ap rfl (fun C=>aj ?_) fun C=>aj ?_)
 .have cy:az prog 190 [.agg (bA x),S ⟨#[116,97,98]⟩] (B (ct x [116,97,98])):=cy oC;refine SS ?_;refine cl cy ?_;refine aR ?_;refine gc cm ?_;refine bm ?_;refine gc cm ?_;refine bm ?_;refine gc cm ?_;refine af ?_;refine ab (bp (bU (a6 (aw (d:=.s (.bool _)) rfl ?_))));have e:l8 f x=(ct x [116,97,98]&&(bD f x.to 118&&(bD f x.a 114&&bD f x.b 119))):=by rw[l8,if_neg (by rw[h0];decide),if_neg h1,if_neg h2,if_pos (by simpa using C)]
  rw[e];simp only[iL,Bool.and_assoc,aQ]
 have C:¬ x.op=37:=by simpa using C
 refine af ?_;refine ab (ap rfl (fun J=>aj ?_) fun J=>nS (aj ?_))
 .have cy:az prog 190 [.agg (bA x),S ⟨#[97,98,108]⟩] (B (ct x [97,98,108])):=cy oC;refine SS ?_;refine cl cy ?_;refine aR ?_;refine gc cm ?_;refine bm ?_;refine gc cm ?_;refine bj ?_;refine af ?_;refine gc vf ?_;refine af ?_;refine ab (bp (bU (a6 (aw (d:=.s (.bool _)) rfl ?_))));have e:l8 f x=(ct x [97,98,108]&&(bD f x.a 114&&(bD f x.b 119&&(aQ x.args.length 1&&ie f.ag x.args)))):=by rw[l8,if_neg (by rw[h0];decide),if_neg h1,if_neg h2,if_neg C,if_pos (by simpa using J)]
  rw[e];simp only[iL,Bool.and_assoc,aQ];rfl
 have J:¬ x.op=38:=by simpa using J
 refine SS ?_;refine ab (aw (d:=.s (.bool _)) rfl ?_);rw[l8,if_neg (by rw[h0];decide),if_neg h1,if_neg h2,if_neg C,if_neg J]
end
theorem tv{f:aK}{L:List (List Int)}{b:Nat}{A:List Int}{x:bK}(hb:L[b]? =some A)(hl:f.aN.length<=60)(hs:∀ k∈f.aN,k=1\/k=2)(hL:L.length<=100000):
 az prog 139 [.agg (cu f (dC L)),.agg (bA x),I b] (B (eu f b A.length x)):=by
 have ht:=Hn L;have dc:(dC L).one=true:=rfl;have cm:∀ {r k:Int},az prog 191 [.agg (cu f (dC L)),I r,U8 k] (B (bD f r k)):=fun {r k}=>cm ht dc;have As:∀ {a b:Int},az prog 192 [.agg (cu f (dC L)),I a,I b] (B (lC f a b)):=fun {a b}=>As ht dc;have vf:∀ {l:List Int},az prog 193 [.agg (cu f (dC L)),aT l] (B (ie f.ag l)):=fun {l}=>vf ht dc;have JD:∀ {n r:Int},az prog 194 [.agg (cu f (dC L)),I n,I r] (B (nr f.ag f.aN r n)):=fun {n r}=>JD ht dc hl hs;have ix:∀ {n a b:Int},az prog 188 [I n,I a,I b] (B (dx n a b)):=fun {n a b}=>ix;have bx:∀ a∈[D.agg (cu f (dC L)),.agg (bA x),I b],Tr a:=.cons (.agg (wC ht f)) (.cons (.agg (rQ x)) (.cons (.s _) .nil));refine pr Xq.he bx fun gN=>?_;have hlen:x.args.length<=maxLen:=((gN _ (List.mem_cons_of_mem _ (List.mem_cons_self ..))).agg (aT x.args) (by simp[bA])).sl.1;unfold maxLen at hlen;refine bu Xq bx (Tr.s _) ?_;rw[alk];refine ay ?_;refine av ?_;refine ab (aX (bZ [(0,cu f (dC L),206),(1,bA x,54)] eH (l:=[(2,I b),(3,.pt (cu f (dC L))),(4,.pt (bA x))]) eH) (aI (aj ?_)));refine af ?_;refine ab (ou ?_);refine ws ?_;refine af ?_;refine ab (ap rfl (fun h0=>?_) fun h0=>?_)
 .refine ws ?_;have cy:az prog 190 [.agg (bA x),S ⟨#[116,110]⟩] (B (ct x [116,110])):=cy oC;refine SS ?_;refine cl cy ?_;refine aR ?_;refine gc cm ?_;refine aR ?_;refine gc ix ?_;refine af ?_;refine ab (bp (bU (a6 (aw (d:=.s (.bool _)) rfl ?_))));have e:eu f b A.length x=(ct x [116,110]&&(bD f x.to 119&&dx x.n (-1000000000) 1000000000)):=by rw[eu,if_pos (by simpa using h0)]
  rw[e];simp only[iL,Bool.and_assoc,aQ]
 have h0:¬ x.op=1:=by simpa using h0
 refine ws ?_;refine af ?_;refine ab (ap rfl (fun h1=>?_) fun h1=>?_)
 .refine ws ?_;have cy:az prog 190 [.agg (bA x),S ⟨#[116,97]⟩] (B (ct x [116,97])):=cy oC;refine SS ?_;refine cl cy ?_;refine cG ?_;refine gc As ?_;refine af ?_;refine ab (bp (bU (a6 (aw (d:=.s (.bool _)) rfl ?_))));have e:eu f b A.length x=(ct x [116,97]&&lC f x.to x.a):=by rw[eu,if_neg h0,if_pos (by simpa using h1)]
  rw[e];simp only[iL,Bool.and_assoc,aQ]
 have h1:¬ x.op=2:=by simpa using h1
 refine eT (fun s=>aM prog s ⟨aF [(2,I b),(3,.pt (cu f (dC L))),(4,.pt (bA x)),(9,U8 x.op),(37,B (aP [3,4,6,7] x.op))],fun _=>none,2⟩) (aj ?_) fun s hg=>⟨_,hg,?_⟩
 .refine af ?_;refine ab (ap rfl (fun h=>bw (ao ⟨rfl,rfl,rfl,rfl,dq h oC,trivial⟩)) fun e3=>aj ?_);refine af ?_;refine ab (ap rfl (fun h=>bw (ao ⟨rfl,rfl,rfl,rfl,dq h oC,trivial⟩)) fun e4=>aj ?_);refine af ?_;refine ab (ap rfl (fun h=>bw (ao ⟨rfl,rfl,rfl,rfl,dq h oC,trivial⟩)) fun e6=>lP ?_);refine af ?_;refine ab (ao ⟨rfl,rfl,rfl,rfl,?_,trivial⟩);show D.s (.bool (x.op==7))=_;simp only[aP,List.any_cons,List.any_nil,e3,e4,e6,Bool.false_or,Bool.or_false]
 refine ap rfl (fun h2=>aj ?_) fun h2=>?_
 .have cy:az prog 190 [.agg (bA x),S ⟨#[116,97,98]⟩] (B (ct x [116,97,98])):=cy oC;refine SS ?_;refine cl cy ?_;refine aR ?_;refine gc cm ?_;refine bm ?_;refine gc cm ?_;refine bm ?_;refine gc cm ?_;refine af ?_;refine ab (bp (bU (a6 (aw (d:=.s (.bool _)) rfl ?_))));have e:eu f b A.length x=(ct x [116,97,98]&&(bD f x.to 119&&(bD f x.a 119&&bD f x.b 119))):=by rw[eu,if_neg h0,if_neg h1,if_pos h2]
  rw[e];simp only[iL,Bool.and_assoc,aQ]
 refine ws ?_;refine af ?_;refine ab (ap rfl (fun C=>?_) fun C=>?_)
 .refine ws ?_;have cy:az prog 190 [.agg (bA x),S ⟨#[116,97,98]⟩] (B (ct x [116,97,98])):=cy oC;refine SS ?_;refine cl cy ?_;refine aR ?_;refine gc cm ?_;refine fB ?_;refine gc As ?_;refine af ?_;refine ab (bp (bU (a6 (aw (d:=.s (.bool _)) rfl ?_))));have e:eu f b A.length x=(ct x [116,97,98]&&(bD f x.to 119&&lC f x.a x.b)):=by rw[eu,if_neg h0,if_neg h1,if_neg (by rw[h2];decide),if_pos (by simpa using C)]
  rw[e];simp only[iL,Bool.and_assoc,aQ]
 have C:¬ x.op=5:=by simpa using C
 refine ws ?_;refine af ?_;refine ab (ap rfl (fun J=>?_) fun J=>?_)
 .refine ws ?_;have cy:az prog 190 [.agg (bA x),S ⟨#[116,97]⟩] (B (ct x [116,97])):=cy oC;refine SS ?_;refine cl cy ?_;refine aR ?_;refine gc cm ?_;refine bm ?_;refine gc cm ?_;refine af ?_;refine ab (bp (bU (a6 (aw (d:=.s (.bool _)) rfl ?_))));have e:eu f b A.length x=(ct x [116,97]&&(bD f x.to 119&&bD f x.a 119)):=by rw[eu,if_neg h0,if_neg h1,if_neg (by rw[h2];decide),if_neg C,if_pos (by simpa using J)]
  rw[e];simp only[iL,Bool.and_assoc,aQ]
 have J:¬ x.op=8:=by simpa using J
 refine ws ?_;refine af ?_;refine ab (ap rfl (fun M=>?_) fun M=>?_)
 .refine ws ?_;have cy:az prog 190 [.agg (bA x),S ⟨#[116,110]⟩] (B (ct x [116,110])):=cy oC;refine SS ?_;refine cl cy ?_;refine aR ?_;refine gc cm ?_;refine aR ?_;refine gc ix ?_;refine af ?_;refine ab (bp (bU (a6 (aw (d:=.s (.bool _)) rfl ?_))));have e:eu f b A.length x=(ct x [116,110]&&(bD f x.to 114&&dx x.n 0 1)):=by rw[eu,if_neg h0,if_neg h1,if_neg (by rw[h2];decide),if_neg C,if_neg J,if_pos (by simpa using M)]
  rw[e];simp only[iL,Bool.and_assoc,aQ]
 have M:¬ x.op=9:=by simpa using M
 refine ws ?_;refine af ?_;refine ab (ap rfl (fun O=>?_) fun O=>?_)
 .refine ws ?_;have cy:az prog 190 [.agg (bA x),S ⟨#[116,110,108]⟩] (B (ct x [116,110,108])):=cy oC;refine SS ?_;refine cl cy ?_;refine aR ?_;refine gc cm ?_;refine aR ?_;refine gc ix ?_;refine bm ?_;refine gc ix ?_;refine bm ?_;refine gc vf ?_;refine af ?_;refine ab (bp (bU (a6 (aw (d:=.s (.bool _)) rfl ?_))));have e:eu f b A.length x=(ct x [116,110,108]&&(bD f x.to 114&&(dx x.n 0 5&&(dx x.args.length 1 6&&ie f.ag x.args)))):=by rw[eu,if_neg h0,if_neg h1,if_neg (by rw[h2];decide),if_neg C,if_neg J,if_neg M,if_pos (by simpa using O)]
  rw[e];simp only[iL,Bool.and_assoc,aQ]
 have O:¬ x.op=10:=by simpa using O
 refine ws ?_;refine af ?_;refine ab (ap rfl (fun U=>?_) fun U=>?_)
 .refine ws ?_;have cy:az prog 190 [.agg (bA x),S ⟨#[116,97,110]⟩] (B (ct x [116,97,110])):=cy oC;refine SS ?_;refine cl cy ?_;refine aR ?_;refine gc cm ?_;refine bm ?_;refine gc cm ?_;refine aR ?_;refine gc ix ?_;refine af ?_;refine ab (bp (bU (a6 (aw (d:=.s (.bool _)) rfl ?_))));have e:eu f b A.length x=(ct x [116,97,110]&&(bD f x.to 118&&(bD f x.a 114&&dx x.n 0 5))):=by rw[eu,if_neg h0,if_neg h1,if_neg (by rw[h2];decide),if_neg C,if_neg J,if_neg M,if_neg O,if_pos (by simpa using U)]
  rw[e];simp only[iL,Bool.and_assoc,aQ]
 have U:¬ x.op=11:=by simpa using U
 refine ws ?_;refine af ?_;refine ab (ap rfl (fun X=>?_) fun X=>?_)
 .refine ws ?_;have cy:az prog 190 [.agg (bA x),S ⟨#[97,98,110]⟩] (B (ct x [97,98,110])):=cy oC;refine SS ?_;refine cl cy ?_;refine aR ?_;refine gc cm ?_;refine bm ?_;refine gc cm ?_;refine aR ?_;refine gc ix ?_;refine af ?_;refine ab (bp (bU (a6 (aw (d:=.s (.bool _)) rfl ?_))));have e:eu f b A.length x=(ct x [97,98,110]&&(bD f x.a 114&&(bD f x.b 118&&dx x.n 0 5))):=by rw[eu,if_neg h0,if_neg h1,if_neg (by rw[h2];decide),if_neg C,if_neg J,if_neg M,if_neg O,if_neg U,if_pos (by simpa using X)]
  rw[e];simp only[iL,Bool.and_assoc,aQ]
 have X:¬ x.op=12:=by simpa using X
 refine eT (fun s=>aM prog s ⟨aF [(2,I b),(3,.pt (cu f (dC L))),(4,.pt (bA x)),(9,U8 x.op),(180,B (aP [13,14] x.op))],fun _=>none,2⟩) (aj ?_) fun s hg=>⟨_,hg,?_⟩
 .refine af ?_;refine ab (ap rfl (fun h=>bw (ao ⟨rfl,rfl,rfl,rfl,dq h oC,trivial⟩)) fun xv=>lP ?_);refine af ?_;refine ab (ao ⟨rfl,rfl,rfl,rfl,?_,trivial⟩);show D.s (.bool (x.op==14))=_;simp only[aP,List.any_cons,List.any_nil,xv,Bool.false_or,Bool.or_false]
 refine ap rfl (fun h9=>aj ?_) fun h9=>?_
 .have cy:az prog 190 [.agg (bA x),S ⟨#[116,97]⟩] (B (ct x [116,97])):=cy oC;refine SS ?_;refine cl cy ?_;refine aR ?_;refine gc cm ?_;refine bm ?_;refine gc cm ?_;refine af ?_;refine ab (bp (bU (a6 (aw (d:=.s (.bool _)) rfl ?_))));have e:eu f b A.length x=(ct x [116,97]&&(bD f x.to 119&&bD f x.a 114)):=by rw[eu,if_neg h0,if_neg h1,if_neg (by rw[h2];decide),if_neg C,if_neg J,if_neg M,if_neg O,if_neg U,if_neg X,if_pos h9]
  rw[e];simp only[iL,Bool.and_assoc,aQ]
 refine ws ?_;refine af ?_;refine ab (ap rfl (fun nJ=>?_) fun nJ=>?_)
 .refine ws ?_;have cy:az prog 190 [.agg (bA x),S ⟨#[97]⟩] (B (ct x [97])):=cy oC;refine SS ?_;refine cl cy ?_;refine aR ?_;refine gc cm ?_;refine af ?_;refine ab (bp (bU (a6 (aw (d:=.s (.bool _)) rfl ?_))));have e:eu f b A.length x=(ct x [97]&&bD f x.a 119):=by rw[eu,if_neg h0,if_neg h1,if_neg (by rw[h2];decide),if_neg C,if_neg J,if_neg M,if_neg O,if_neg U,if_neg X,if_neg (by rw[h9];decide),if_pos (by simpa using nJ)]
  rw[e];simp only[iL,Bool.and_assoc,aQ]
 have nJ:¬ x.op=15:=by simpa using nJ
 refine ws ?_;refine af ?_;refine ab (ap rfl (fun rD=>?_) fun rD=>?_)
 .refine ws ?_;have cy:az prog 190 [.agg (bA x),S ⟨#[97]⟩] (B (ct x [97])):=cy oC;refine SS ?_;refine cl cy ?_;refine aR ?_;refine gc cm ?_;refine af ?_;refine ab (bp (bU (a6 (aw (d:=.s (.bool _)) rfl ?_))));have e:eu f b A.length x=(ct x [97]&&bD f x.a 105):=by rw[eu,if_neg h0,if_neg h1,if_neg (by rw[h2];decide),if_neg C,if_neg J,if_neg M,if_neg O,if_neg U,if_neg X,if_neg (by rw[h9];decide),if_neg nJ,if_pos (by simpa using rD)]
  rw[e];simp only[iL,Bool.and_assoc,aQ]
 have rD:¬ x.op=16:=by simpa using rD
 refine ws ?_;refine af ?_;refine ab (ap rfl (fun sD=>?_) fun sD=>?_)
 .refine ws ?_;have cy:az prog 190 [.agg (bA x),S ⟨#[116,110]⟩] (B (ct x [116,110])):=cy oC;refine SS ?_;refine cl cy ?_;refine cG ?_;refine gc JD ?_;refine af ?_;refine ab (bp (bU (a6 (aw (d:=.s (.bool _)) rfl ?_))));have e:eu f b A.length x=(ct x [116,110]&&nr f.ag f.aN x.to x.n):=by rw[eu,if_neg h0,if_neg h1,if_neg (by rw[h2];decide),if_neg C,if_neg J,if_neg M,if_neg O,if_neg U,if_neg X,if_neg (by rw[h9];decide),if_neg nJ,if_neg rD,if_pos (by simpa using sD)]
  rw[e];simp only[iL,Bool.and_assoc,aQ]
 have sD:¬ x.op=17:=by simpa using sD
 refine ws ?_;refine af ?_;refine ab (ap rfl (fun tW=>?_) fun tW=>?_)
 .refine ws ?_;have cy:az prog 190 [.agg (bA x),S ⟨#[97,110]⟩] (B (ct x [97,110])):=cy oC;refine SS ?_;refine cl cy ?_;refine cG ?_;refine gc JD ?_;refine af ?_;refine ab (bp (bU (a6 (aw (d:=.s (.bool _)) rfl ?_))));have e:eu f b A.length x=(ct x [97,110]&&nr f.ag f.aN x.a x.n):=by rw[eu,if_neg h0,if_neg h1,if_neg (by rw[h2];decide),if_neg C,if_neg J,if_neg M,if_neg O,if_neg U,if_neg X,if_neg (by rw[h9];decide),if_neg nJ,if_neg rD,if_neg sD,if_pos (by simpa using tW)]
  rw[e];simp only[iL,Bool.and_assoc,aQ]
 have tW:¬ x.op=18:=by simpa using tW
 refine ws ?_;refine af ?_;refine ab (ap rfl (fun A4=>?_) fun A4=>?_)
 .have cy:az prog 190 [.agg (bA x),S ⟨#[116,108]⟩] (B (ct x [116,108])):=cy oC;have hv:eu f b A.length x=(!aQ b 0&&(ct x [116,108]&&(bD f x.to 118&&(aQ x.args.length A.length&&x.args.all (lC f x.to))))):=by rw[eu,if_neg h0,if_neg h1,if_neg (by rw[h2];decide),if_neg C,if_neg J,if_neg M,if_neg O,if_neg U,if_neg X,if_neg (by rw[h9];decide),if_neg nJ,if_neg rD,if_neg sD,if_neg tW,if_pos (by simpa using A4)]
  rw[hv];clear hv;have Oh:=cy;have Oi:= @cm x.to 118;have alm:= @As x.to;generalize ct x [116,108]=lv at Oh ⊢;generalize bD f x.to 118=iv at Oi ⊢;refine aI (ej abD ?_);have cy:=Oh;have cm:=Oi;by_cases CZ:b=0
  .have ki:((b:Int)==0)=true:=by simp[CZ]
   have e0:aQ b 0=true:=by simp[aQ,CZ]
   rw[e0];refine aR ?_;refine gc cy ?_;refine cG ?_;refine gc cm ?_;refine bj ?_;refine bm ?_;refine bN bO (dZ rfl (fun hp=>?_) fun hp=>(by cases hp));refine aI (aj ?_);refine SS ?_;refine ab (eb (bU (a6 (aw (d:=B false) rfl ?_))));rfl
  have ki:((b:Int)==0)=false:=by simp[CZ]
  have e0:aQ b 0=false:=by simp[aQ,CZ]
  rw[e0];refine aR ?_;refine gc cy ?_;refine cG ?_;refine gc cm ?_;refine bj ?_;refine bm ?_;refine bN bO (dZ rfl (fun hp=>?_) fun hp=>cX ?_)
  .refine aI (aj ?_);refine SS ?_;refine ab (eb (bU (a6 (aw (d:=B false) rfl ?_))))
   have:(lv&&(iv&&aQ x.args.length A.length))=false:=by
    revert hp;cases lv<;>cases iv<;>simp[aQ]
   revert this;generalize x.args.all (lC f x.to)=q;generalize aQ x.args.length A.length=r;cases lv<;>cases iv<;>cases r<;>simp
  have Au:lv=true/\iv=true/\aQ x.args.length A.length=true:=by
   revert hp;cases lv<;>cases iv<;>simp[aQ]
  obtain⟨rfl,rfl,e1⟩:=Au;rw[e1];show AW _ _ _ _ (iZ _ (ir _ (mK _ _ (fun d _=>d=B (x.args.all (lC f x.to)))))) _;clear Oh Oi cy cm hp e1 e0 ki;refine aI (ay ?_);refine SS ?_
  refine ab (cD (fun s=>aM prog s ⟨aF [],fun _=>none,2⟩/\∀ (j:Nat) y,x.args[j]? =some y->lC f x.to y=true) (dD (α:=Nat) (fun k=>⟨aF [(3,.pt (cu f (dC L))),(4,.pt (bA x)),(7,I k)],fun _=>none,2⟩)
   (fun k=>k<=x.args.length/\∀ j y,j<k->x.args[j]? =some y->lC f x.to y=true) (fun k=>x.args.length - k) 0 (ao eH) ⟨oG,fun j y hj=>by omega⟩ ?_) ?_)
  .rintro k ⟨hk,hinv⟩;refine bm ?_;refine ab ⟨_,rfl,fun h=>?_,fun h=>?_⟩
   .have al:k<x.args.length:=by simpa using h
    have hx:x.args[k]? =some x.args[k]:=bc al;generalize x.args[k]=y at hx;have As:= @alm y;refine ej abE ?_;refine cP ?_;refine cl As ?_;refine SS ?_;refine bN bO (ap rfl (fun hp=>?_) fun hp=>?_)
    .refine ws ?_;refine SS ?_;refine ab (bp (cZ (a6 (bU (a6 (aw (d:=B false) rfl ?_))))));have:x.args.all (lC f x.to)=false:=List.all_eq_false.2 ⟨y,cx hx,by simpa using hp⟩;rw[this]
    .refine dE ?_;refine av ?_;refine ab (bg (k+1) (ao eH) ⟨oG,fun j z hj hz=>?_⟩ oG);by_cases e:j=k
     .subst e;rw[hx] at hz;cases hz;simpa using hp
     .exact hinv j z oG hz
   .have bG:¬ k<x.args.length:=by simpa using h
    exact⟨.forget _ _ _ _ fun _=>.inr rfl,fun j y hy=>hinv j y (by have:=(bX.1 hy).1;omega) hy⟩
  .rintro s ⟨hg,bQ⟩;refine⟨_,hg,aj ?_⟩;refine SS ?_;refine ab (bp (bU (a6 (aw (d:=B true) rfl ?_))))
   have:x.args.all (lC f x.to)=true:=bT.2 fun y hy=>by
    obtain⟨j,hj⟩:=dR hy;exact bQ j y hj
   rw[this]
 have A4:¬ x.op=19:=by simpa using A4
 refine nS (aj ?_);refine SS ?_;refine ab (aw (d:=.s (.bool _)) rfl ?_);rw[eu,if_neg h0,if_neg h1,if_neg (by rw[h2];decide),if_neg C,if_neg J,if_neg M,if_neg O,if_neg U,if_neg X,if_neg (by rw[h9];decide),if_neg nJ,if_neg rD,if_neg sD,if_neg tW,if_neg A4]
end Go.Proofs.Tryz.K
end
