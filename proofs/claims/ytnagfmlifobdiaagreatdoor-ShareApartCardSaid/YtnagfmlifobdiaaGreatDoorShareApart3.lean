/- Part 3. -/
import Derived.Test.YtnagfmlifobdiaaGreatDoorShareApart2
import Derived.Laws.BytesArg
import Derived.Laws.Concat
import Derived.Lib.UnsafeStr
import Derived.RangeFuncRecord
import Derived.Scope
set_option linter.all false
set_option maxHeartbeats 0
set_option maxRecDepth 10000
namespace Go.Abs
open List
section
variable{k:IntKind}{v:Value}{t:TypeId}{n i off:Nat}{cs:List D}{rd:List Nat}{ty:TypeId}{x:D}{u:Bool}{a:Value}{ρ:Operand->D}{o:Op}{e:eC}
section
variable{P:Program}{F:Nat->Prop}{m:Mem}{nx:Nat}{β:aZ}{w w':World}
def Y7:∀ {l:List Int} {c:List Value},Rl F β w (tT l) c->c=l.map (Value.int .u8)
 |[],[],_=>rfl
 |[],_::_,h=>by have:=h.1;simp[tT] at this
 |_::_,[],h=>by have:=h.1;simp[tT] at this
 |n::l,v::c,h=>by
  have h0:=(h.2 0 _ v rfl rfl).1.du.1;have ih:=Y7 (l:=l) (c:=c) ⟨by have:=h.1;simp[tT] at this ⊢;omega,λk d u hk hu=>h.2 (k+1) d u (by simpa[tT] using hk) (s0 hu)⟩;rw[h0,ih];rfl
def aiN(hm:bc P F m β w){src dst:TypeId}{k':IntKind}{n:Int}(hx:R F β w (.s (.int k n)) v)(hs:P.underlying src=some (.int k'))(hd:ji P dst=true)(h0:0<=n)(h1:n<128):
 bB P F m nx β w { pre:=True,val:=.s (.string (mkStr [n])) } (do Pure.pure (Next.value (<- convert src dst v))):=by
 obtain⟨rfl,_⟩:=hx.du;refine bB.pure hm (v:=.string (mkStr [n])) ?_ (.s _ rfl)
 have hv:Utf8.encode n=mkStr [n]:=by
  have h2:n.toNat<128:=by omega
  have C:Utf8.valid n=true:=by
   unfold Utf8.valid;simp;omega
  unfold Utf8.encode;simp only[C,if_true,bi h2];simp[mkStr]
 simp[convert,run_underlying hs,run_underlying (Fi hd),Conv.intToString,hv]
def akZ(hm:bc P F m β w){es:List D}{k':IntKind}{J C:Value}(hx:R F β w (.sl es n) v)(hh:R F β w (.s (.int k n)) J)(hc:R F β w (.s (.int k' n)) C)(ht:bH P t=true)(hn:n*P.cellsOf (aT P t)=es.length):
 bB P F m nx β w { pre:=True,val:=.sc es n } (do Pure.pure (Next.value (<- Instr.sliceAt t v none (some J) (some C)))):=by
 obtain⟨rfl,_⟩:=hh.du;obtain⟨rfl,_⟩:=hc.du;let⟨hu,he⟩:=mT ht;rcases hx.Bx with⟨rfl,rfl,a,cap,rfl⟩|⟨b,o,cap,rfl,U,X,g3,g4,g5,M⟩
 .have hb:=Bc (P:=P) (w:=w) 0 cap (kh:=k) (km:=k') (lo:=none) (l:=0) (h:=0) (k:=0) (.inl ⟨rfl,rfl⟩) oG oG oG oG;refine bB.val hm (v:=.slice a 0 0) ?_ (.sc [] 0 a (.ln a 0));simp[sv hu,Instr.slice,run_underlying hu,hb,jA w (kB he)]
 .have hb:=Bc (P:=P) (w:=w) n cap (kh:=k) (km:=k') (lo:=none) (l:=0) (h:=n) (k:=n) (.inl ⟨rfl,rfl⟩) oG oG oG oG;refine bB.val hm (v:=.slice (if n=0 then some ⟨b,o,none⟩ else some ⟨b,o,none⟩) n n) ?_ ?_
  .simp[sv hu,Instr.slice,run_underlying hu,hb,jA w (kB he),Addr.add_lit]
  .let⟨us,r1,r2⟩:=M;simp[ite_self];exact .sc es n _ (.sl es n b o n us g3 g4 g5 (bY _) (Nat.le_trans U X) r1 r2)
def aiO(hm:bc P F m β w){k':IntKind}{J C:Value}(hx:R F β w .z v)(hh:R F β w (.s (.int k 0)) J)(hc:R F β w (.s (.int k' 0)) C)(ht:bH P t=true):
 bB P F m nx β w { pre:=True,val:=.z } (do Pure.pure (Next.value (<- Instr.sliceAt t v none (some J) (some C)))):=by
 obtain⟨rfl,_⟩:=hh.du;obtain⟨rfl,_⟩:=hc.du;rw[hx.BX];let⟨hu,he⟩:=mT ht;have hb:=Bc (P:=P) (w:=w) 0 0 (kh:=k) (km:=k') (lo:=none) (l:=0) (h:=0) (k:=0) (.inl ⟨rfl,rfl⟩) oG oG oG oG;refine bB.val hm (v:=.slice none 0 0) ?_ .z;simp[sv hu,Instr.slice,run_underlying hu,hb,jA w (kB he)]
def aiP(hm:bc P F m β w){e:TypeId}{k':IntKind}{U M:Value}(hx:R F β w (.rs i off n) v)(hi:m i=some (.cells cs e))(hh:R F β w (.s (.int k n)) U)(hc:R F β w (.s (.int k' n)) M)(ht:bH P t=true)(hl:off+n*P.cellsOf e=cs.length):
 bB P F m nx β w { pre:=True,val:=.rs i off n,rd:=rd } (do Pure.pure (Next.value (<- Instr.sliceAt t v none (some U) (some M)))):=by
 obtain⟨rfl,_⟩:=hh.du;obtain⟨rfl,_⟩:=hc.du;let⟨hu,he⟩:=mT ht;rcases hx.FK hm hi with⟨h1,h2,C,h4,a,rfl⟩|⟨b,o,room,J,aF,⟨C,a,rfl⟩|⟨cap,rfl,X,g2,g3,g4⟩⟩
 .subst h2 C;have hb:=Bc (P:=P) (w:=w) 0 0 (kh:=k) (km:=k') (lo:=none) (l:=0) (h:=0) (k:=0) (.inl ⟨rfl,rfl⟩) oG oG oG oG;refine bB.val hm (v:=.slice a 0 0) ?_ (.lN i a h4);simp[sv hu,Instr.slice,run_underlying hu,hb,jA w (kB he)]
 .subst C;have hb:=Bc (P:=P) (w:=w) 0 0 (kh:=k) (km:=k') (lo:=none) (l:=0) (h:=0) (k:=0) (.inl ⟨rfl,rfl⟩) oG oG oG oG;refine bB.val hm (v:=.slice a 0 0) ?_ (.mJ i off a b o cs.length room (P.cellsOf e) J);simp[sv hu,Instr.slice,run_underlying hu,hb,jA w (kB he)]
 .have hb:=Bc (P:=P) (w:=w) n cap (kh:=k) (km:=k') (lo:=none) (l:=0) (h:=n) (k:=n) (.inl ⟨rfl,rfl⟩) oG oG oG oG;refine bB.val hm (v:=.slice (if n=0 then some ⟨b,o+off,none⟩ else some ⟨b,o+off,none⟩) n n) ?_ ?_
  .simp[sv hu,Instr.slice,run_underlying hu,hb,jA w (kB he),Addr.add_lit]
  .simp[ite_self];cases aF with
   |cells _ _ _ _ _ _ c Ha y3 hlen cC hh=>exact .rs i off n n b o cs.length room (P.cellsOf e) J (bY _) (Nat.le_trans X g2) oG oG
def abq(b:ByteArray):Rl F β w (gY b) (Lib.strCells b):=by
 refine⟨by simp[gY,Lib.strCells],λk d u hk hu=>?_⟩;simp[gY,Lib.strCells,getElem?_map,ej] at hk hu;obtain⟨x,h1,rfl⟩:=hk;obtain⟨y,h2,rfl⟩:=hu;rw[h1] at h2;cases h2;exact⟨.s _ rfl,rfl⟩
def aah{u ty:TypeId}(ht:Ee P t)(hu:ji P u=true)(b:ByteArray):Src P w t u ty (aT P t) (.string b) b.size (Lib.strCells b):=by
 let⟨J,cu⟩:=mT ht.1;let⟨i,d,z,hi,hd,hz,_,mP,_,cC,hb,_⟩:=wF cu;have jR:i.size=1:=cC.trans ht.2.2;have hlen:=Lib.strCells_length b;have C:=Fi hu;refine⟨by rw[hlen,ht.2.2,Nat.mul_one],λhk a0 n cap M=>?_,λhk a0 n cap jJ z' U qT Aa h0 lO hg eJ nT=>?_,λhk g o n cap cur T0 y3 X p7=>?_⟩
 .have hf:=Lib.run_firstCells_string (P:=P) w 1 b;have Co:b=.empty:=by rw[ByteArray.size_eq_zero_iff] at hk;exact hk
  subst Co;cases a0<;>simp[Builtin.append_,run_underlying J,run_underlying C,sizeOf,typeInfo,hi,Builtin.lenOf,M,Builtin.firstCells,storeCells]
 .simp[hi,Option.bind_some] at U;rw[hz] at U;cases U;simp[maxLen] at eJ;cases a0 with
  |some ad=>exact Lib.run_append_grow_string (P:=P) w t u ty _ i z J C hi hz ad n cap jJ (by rw[jR,qT,ht.2.2]) (Aa ad rfl) b hg oG (growslice_fits oG (by rw[hb];exact nT))
  |none=>
   obtain⟨rfl,rfl⟩:=h0 rfl;have:jJ=[]:=eq_nil_of_length_eq_zero (s0 qT);subst this;have:=run_append_nil_string (P:=P) (w:=w) t u ty _ i z J C hi hz b hk oG (by rw[hb];simp at nT;omega);simp[Nat.zero_add];rw[this];simp[Lib.strCells];congr 3;apply Array.ext';simp
 .have hf:=Lib.run_firstCells_string (P:=P) w 1 b;rw[ht.2.2,Nat.mul_one] at X ⊢;have cx:=run_storeCells_at P g (o+n) (aT P t) (Lib.strCells b) 0 cur w T0 (by simpa[hlen] using X) (Lib.strCells_oneCell b);simp[Nat.add_zero] at cx;simp[Builtin.append_,run_underlying J,run_underlying C,sizeOf,typeInfo,hi,jR,Builtin.lenOf,y3,hf,Addr.add_lit,cx]
def ahz(hm:bc P F m β w){ts:Array TypeId}{r:Row}(hx:R F β w (.rs i off n) v)(hi:m i=some r)(hn:0<n):
 bB P F m nx β w { pre:=True,val:=.rp i off,rd:=rd } (do Pure.pure (Next.value (<- Builtin.unsafeSliceData_ ts ty #[v]))):=by
 let⟨p,hp,aF⟩:=hm.row i _ hi;cases hx with
 |oE _ _ _ _ h _=>rw[h] at hp;cases hp;exact absurd rfl aF.live
 |lN _ a h=>omega
 |mJ _ _ a b o len room sz h=>omega
 |rs _ _ _ cap b o len room sz h h1 h2 C J=>
  exact bB.pure hm (Lib.run_unsafeSliceData_row w ts ty _ n cap oG) (.rp i off b o len room sz h)
def aiQ(hm:bc P F m β w){es:List (Value×D)}(hx:R F β w (.mp i) v)(hi:m i=some (.map es))(ht:kN P t=true):
 bB P F m nx β w { pre:=True,val:=.s (.int .i64 es.length),rd:=rd } (do Pure.pure (Next.value (<- Builtin.len_ #[t] ty #[v]))):=by
 obtain⟨r,ms,clock,_,rfl,hb,hl,_⟩:=hx.IC hm hi;have L:=E2 ht;refine bB.pure hm (v:=.int .i64 ms.size) ?_ (by rw[hl];exact .s _ rfl);simp[Builtin.len_,run_underlying L.1,run_getObj_map w r ms clock hb,goInt]
def agl{e:TypeId}(hc:P.cellsOf e=1)(count off n:Nat)(hn:off+n<=count):liesAt P P.depth e count off e n=true:=by
 have hd:P.depth=(2*(P.types.size+Made.depth)+1)+1:=rfl;rw[hd];simp[liesAt,Bool.or_eq_true];left;rw[hd];simp[rowAt,hc,hn,sameLayout,Nat.mod_one]
def ak0(pt M ty e:TypeId)(hp:P.underlying pt=some (.pointer e))(hc:P.cellsOf e=1)(g o cells:Nat)(tu:w.shape? g=some (e,cells))(l:List UInt8)(h0:l≠[])(hn:o+l.length<=cells)(h63:l.length<=9223372036854775807)
 (U:∀ j x,l[j]? =some x->w.cell? ((⟨g,o,none⟩:Addr).add j)=some (.int .u8 x.toNat)) (k:IntKind):
 (Builtin.unsafeString_ #[pt,M] ty #[.pointer (some ⟨g,o,none⟩),.int k l.length]).run P w=.ok (.string ⟨l.toArray⟩) (w.freeze ⟨g,o,none⟩ l.length):=by
 have hl:l.length≠0:=s0 h0
 have X:=Lib.run_loadBytes (P:=P) w l ⟨g,o,none⟩ .empty U;have C:=agl (P:=P) hc (cells / P.cellsOf e) o l.length (by rw[hc];simpa using hn);have J:¬ (9223372036854775807:Int)<(l.length:Int):=by omega
 have T2:Builtin.unsafeString_ #[pt,M] ty #[.pointer (some ⟨g,o,none⟩),.int k l.length]=
  (do
   let n<- asInt (.int k l.length)
   if n<0 then runtimePanic (.error "unsafe.String: len out of range")
   if n>IntKind.i64.max then unsupported (.unsafePointer "String: a length above the largest int")
   if n=0 then pure (.string .empty)
   else if<- variablesAt ⟨g,o,none⟩ (<- elemOf pt) n.toNat then do
    let s<- loadBytes ⟨g,o,none⟩ .empty n.toNat
    freeze ⟨g,o,none⟩ n.toNat
    pure (.string s)
   else unsupported (.unsafePointer "String: not so many bytes at ptr")):=rfl
 rw[T2];have eJ:IntKind.i64.max=9223372036854775807:=rfl;have T3:¬ (l.length:Int)<0:=by omega
 simp[asInt,asIntOf,eJ,J,T3,hl,variablesAt,tu,elemOf,run_underlying hp,C,X]
def Zr(w:World)(a:Addr)(n k:Nat)(h:k≠a.block):(w.freeze a n).heap[k]? =w.heap[k]? :=by
 unfold World.freeze;split
 .rfl
 .simp only[Array.getElem?_modify];rw[ai (λe=>h e.symm)]
def ag2(w:World)(a:Addr)(n:Nat):(w.freeze a n).heap.size=w.heap.size:=by
 unfold World.freeze;split
 .rfl
 .simp
def ahA(w:World)(a:Addr)(n:Nat):Out w (w.freeze a n):=by
 unfold World.freeze;split<;>exact⟨rfl,rfl⟩
def ag3(w:World)(a:Addr)(n b:Nat):sS w (w.freeze a n) b:=by
 by_cases hb:b=a.block
 .subst hb;unfold World.freeze;split
  .exact sS.refl w _
  .refine⟨λo u hu=>?_,λms c hm=>?_⟩
   .simp[World.cell?,Array.getElem?_modify,if_true] at hu ⊢;cases hh:w.heap[a.block]? with
    |none=>rw[hh] at hu;simp at hu
    |some C=>
     rw[hh] at hu;cases C<;>simp_all
   .simp[Array.getElem?_modify,if_true,hm,Option.map_some]
 .exact CT (Zr w a n b hb)
def ag4(hm:bc P F m β w){p:Pl}{a:Addr}(hp:β i=some p)(hb:p.cn=some a.block)(n:Nat):
 bc P F (up m i none) (up β i (some .dead)) (w.freeze a n)/\Step β w (up β i (some .dead)) (w.freeze a n):=by
 have zu:=EZ β w i;have C:=hm.dead i;have U:=ag2 w a n;have J:=Zr w a n
 have hs:Step β w (up β i (some .dead)) (w.freeze a n):=⟨oG,λk hk hf=>⟨J k λe=>hf i p hp (e▸hb),(zu.gp k hk hf).2⟩,zu.kp,ahA w a n,λj r hj X=>sx (J r λe=>by
  have:=hm.inj j i _ p a.block hj hp (by simp[Pl.cn,e]) hb;subst this;rw[aw] at X
  cases X)⟩
 have aR:∀ j q,up β i (some .dead) j=some q->∀ c,q.cn=some c->c≠a.block:=λj q hq c hc e=>by
  by_cases hj:j=i
  .subst hj;rw[aw] at hq;cases hq;simp[Pl.cn] at hc
  .rw[aV _ _ hj] at hq;exact hm.wD hp hb hq hj (e▸hc)
 refine⟨⟨λj r hj=>?_,C.inj,λj q c hq hc=>by rw[U];exact C.lt j q c hq hc,C.nf,C.fb.next (λc hc=>by rw[U];exact C.fb.lt c hc) (λ_ h=>h) λt _ M=>J _ λe=>hm.nf i p _ hp hb (e▸M)⟩,hs⟩;let⟨q,hq,aF⟩:=C.row j r hj;exact⟨q,hq,aF.gen oG (λc _ M hf=>⟨ag3 w a n c,hf,M⟩) (λ_ _ _ h=>.inl h) λc hc=>J c (aR j q hq c hc)⟩
def aiR(hm:bc P F m β w){u e:TypeId}{l:List Int}{U M:Value}(hp:R F β w (.rp i off) U)(hn:R F β w (.s (.int k l.length)) M)(hi:m i=some (.cells cs e))(hl:(cs.drop off).take l.length=tT l)(h0:l≠[])
 (ht:P.underlying t=some (.pointer e)) (he:P.cellsOf e=1) (eJ:l.length<=maxLen) (hr:∀ x∈l,0<=x/\x<256) {rd:List Nat}:
 bB P F m nx β w { pre:=True,val:=.s (.string (mkStr l)),bF:=[(i,none)],rd:=rd } (do Pure.pure (Next.value (<- Builtin.unsafeString_ #[t,u] ty #[U,M]))):=by
 obtain⟨rfl,_⟩:=hn.du;obtain⟨b,o,room,sz,J,rfl,aF⟩:=hp.MO hm hi;let⟨c,h1,h2⟩:=((aF.rd.1.drop off).take l.length).Jr;rw[hl] at h1;have hc:=Y7 h1;subst hc;cases aF with
 |cells _ _ _ _ _ _ cc X y3 hlen cC hh=>
 have gu:l.length<=cs.length - off:=by
  have:=congrArg length hl;simp[tT] at this;omega
 have tv:0<l.length:=length_pos_iff.2 h0
 have C:=ak0 (P:=P) (w:=w) t u ty e ht he b (o+off) cc.size (by simp[World.shape?,X]) (l.map λn=>UInt8.ofNat n.toNat) (s0 h0) oP (by simp[maxLen] at eJ ⊢;omega) (λj x hx=>by
  simp[getElem?_map,ej] at hx;obtain⟨n,hn,rfl⟩:=hx;have hb:=hr n (bD hn);rw[h2 j (.int .u8 n) (by simp[hn])];have:(UInt8.ofNat n.toNat).toNat=n.toNat:=by simp;omega
  rw[this,Int.toNat_of_nonneg hb.1]) k
 simp[length_map] at C;let⟨q1,q2⟩:=ag4 hm (a:=⟨b,o+off,none⟩) J rfl l.length;refine⟨_,.string (mkStr l),_,_,by simp[Sem.run_bind,C,Result.andThen_ok,Sem.run_pure];rfl,.inl rfl,.s _ rfl,q1,q2,λj hj _=>?_⟩;rw[aV _ _ λe=>by rw[e,J] at hj;cases hj];exact hj
def abr(hm:bc P F m β w)(hn:β nx=none)(hs:P.cellsOf t=2)(hx:R F β w x v)(h1:v.oneCell'=true):
 bc P F (up m nx (some (.bs false x t))) (up β nx (some (.cells w.heap.size 0 2 2 2))) (w.alloc (.cells #[.pointer none,v] t))/\Step β w (up β nx (some (.cells w.heap.size 0 2 2 2))) (w.alloc (.cells #[.pointer none,v] t)):=by
 have C:=EW hm (.cells #[.pointer none,v] t) hn (.cells w.heap.size 0 2 2 2) (λb hb=>by simp[Pl.cn] at hb;exact hb.symm);exact⟨hm.alloc hn _ _ _ (λb hb=>by simp[Pl.cn] at hb;exact hb.symm) (.bs false x t _ v (heap_alloc_new w _) hs (hx.step C) h1),C⟩
def aiS(hm:bc P F m β w)(hn:β nx=none){c d:D}(hc:c.cells=[.s (.pointer none),d])(hd:d.one=true)(hs:P.cellsOf t=2)(hx:R F β w c v):
 bB P F m nx β w { pre:=True,val:=.rp nx 0,bF:=[(nx,some (.bs false d t))],new:=1 } (do Pure.pure (Next.value (<- Instr.box t v))):=by
 have X:c.cells.all D.one=true:=by rw[hc];simp[all_cons,all_nil,hd];rfl
 let⟨C,J,c3⟩:=hx.cells X;rw[hc] at C J
 have h0:∃ M U,v.cells= #[M,U]:=by
  obtain⟨l,hl⟩:∃ l,v.cells=⟨l⟩:=⟨v.cells.toList,rfl⟩
  rw[hl] at C ⊢
  match l,C with
  |[a,b],_=>exact⟨a,b,rfl⟩
 let⟨M,U,hv⟩:=h0;let⟨q0,_⟩:=J 0 (.s (.pointer none)) M rfl (by simp[hv]);let⟨q1,q2⟩:=J 1 d U rfl (by simp[hv]);obtain⟨rfl,_⟩:=q0.du;let⟨h2,h3⟩:=abr hm hn hs q1 q2;refine⟨_,_,_,_,by simp[Instr.box,KT,hv];rfl,.inl rfl,?_,h2,h3,Bh⟩;exact .rp nx 0 w.heap.size 0 _ _ _ r9
def ag5(hm:bc P F m β w)(hn:β nx=none)(ht:a8 P t=true)(hz:bN P t=[.s (.pointer none),.z]):
 bB P F m nx β w { pre:=True,val:=.rp nx 0,bF:=[(nx,some (.bs false .z t))],new:=1 } (do Pure.pure (Next.value (<- Instr.alloc t true (.tuple #[])))):=by
 let⟨z,wm,mP,X,h4⟩:=ES (P:=P) w ht;let⟨C,J⟩:=FJ (F:=F) (β:=β) (w:=w) X h4;rw[hz] at C J
 have h0:∃ M U,z.cells= #[M,U]:=by
  obtain⟨l,hl⟩:∃ l,z.cells=⟨l⟩:=⟨z.cells.toList,rfl⟩
  rw[hl] at C ⊢
  match l,C with
  |[a,b],_=>exact⟨a,b,rfl⟩
 let⟨M,U,hv⟩:=h0;let⟨q0,_⟩:=J 0 (.s (.pointer none)) M rfl (by simp[hv]);let⟨q1,q2⟩:=J 1 .z U rfl (by simp[hv]);obtain⟨rfl,_⟩:=q0.du;have hs:P.cellsOf t=2:=by rw[<- mP,hv];rfl
 let⟨h5,h6⟩:=abr hm hn hs q1 q2;refine⟨_,_,_,_,by simp[Instr.alloc,wm,KT,hv];rfl,.inl rfl,?_,h5,h6,Bh⟩;exact .rp nx 0 w.heap.size 0 _ _ _ r9
def Sa(hm:bc P F m β w){T:TypeId}(ha:R F β w (.rp i off) a)(hi:m i=some (.bs u x T)):
 ∃ b v,β i=some (.cells b 0 2 2 2)/\a=.pointer (some ⟨b,0+off,none⟩)/\w.heap[b]? =some (.cells #[.pointer (if u then some ⟨b,0,none⟩ else none),v] T (0,0))/\P.cellsOf T=2/\R F β w x v/\v.oneCell'=true:=by
 let⟨p,hp,aF⟩:=hm.row i _ hi;cases aF with
 |bs _ _ _ b v hb hs hx h1=>
 cases ha with
 |xH _ _ _ h _=>rw[h] at hp;cases hp
 |rp _ _ C o len room sz h=>
  rw[h] at hp;cases hp;exact⟨b,v,h,rfl,hb,hs,hx,h1⟩
def ahB(hm:bc P F m β w){T:TypeId}(ha:R F β w (.rp i 1) a)(hi:m i=some (.bs u x T))(ht:a8 P t=true)(hg:bX P t=false):
 bB P F m nx β w { pre:=True,val:=x,rd:=rd } (do Pure.pure (Next.value (<- Instr.loadAt t a))):=by
 obtain⟨b,v,_,rfl,hb,_,hx,h1⟩:=Sa hm ha hi;refine bB.pure hm (v:=v) ?_ hx;have hc:w.cell? ⟨b,0+1,none⟩=some v:=by simp[World.cell?,hb]
 simp[Instr.loadAt,Instr.sureAddr,loadVar,HN w (Fh ht),hg,hc]
def ag6(hm:bc P F m β w){d:D}{T:TypeId}{y:Value}(ha:R F β w (.rp i 1) a)(hy:R F β w d y)(hi:m i=some (.bs u x T))(ht:a8 P t=true)(hg:bX P t=false)(hd:d.one=true):
 bB P F m nx β w { pre:=True,val:=.bu [],bF:=[(i,some (.bs u d T))],rd:=rd } (do Instr.storeAt t a y;Pure.pure Next.skip):=by
 obtain⟨b,v,X,rfl,hb,hs,hx,h1⟩:=Sa hm ha hi;have C:y.oneCell'=true:=hy.one hd;let⟨_,_,_,_,_,_,wo,_⟩:=wF ht;have Aa:y.cells= #[y]:=by cases y<;>first|rfl|simp[Value.oneCell'] at C
 have J:=run_storeCells_at P b 1 T [y] 0 #[.pointer (if u then some ⟨b,0,none⟩ else none),v] w hb oS (s0 C)
 have fm:(storeVar t ⟨b,0+1,none⟩ y).run P w=.ok () (w.setRow b #[.pointer (if u then some ⟨b,0,none⟩ else none),y]):=by
  simp[storeVar];simp[Nat.add_zero] at J;simp[jA w (kB ht),wo hg,Aa,J]
 have BD:=setRow_heap w b #[.pointer (if u then some ⟨b,0,none⟩ else none),v] #[.pointer (if u then some ⟨b,0,none⟩ else none),y] T (0,0) hb;have U:∀ k,k≠b->(w.setRow b #[.pointer (if u then some ⟨b,0,none⟩ else none),y]).heap[k]? =w.heap[k]? :=λk hk=>setRow_other w b k _ hk;have cC:(w.setRow b #[.pointer (if u then some ⟨b,0,none⟩ else none),y]).heap.size=w.heap.size:=by simp
 have M:=HK hm X rfl oG U;have kO:=hm.write X rfl cC U (.bs u d T) (.bs u d T b y BD hs (hy.step M) C);exact⟨.skip,undef,_,β,by simp[Instr.storeAt,Instr.sureAddr,fm],.inr ⟨rfl,rfl⟩,.bu [] [] rfl oS,kO,M,λ_ h _=>h⟩
def ak1(hm:bc P F m β w){x:Value}{lo hi:Option Value}{l h:Option D}(hx:R F β w .z x)(jj:gg l 0=some 0)(p9:gg h 0=some 0)(hl:∀ d,l=some d->∃ v,lo=some v/\R F β w d v)(M:l=none->lo=none)(hh:∀ d,h=some d->∃ v,hi=some v/\R F β w d v)(U:h=none->hi=none)(ht:bH P t=true):
 bB P F m nx β w { pre:=True,val:=.z } (do Pure.pure (Next.value (<- Instr.sliceAt t x lo hi none))):=by
 rw[hx.BX];let⟨hu,he⟩:=mT ht
 have r5:∀ {o:Option D} {y:Option Value},gg o 0=some 0->(∀ d,o=some d->∃ v,y=some v/\R F β w d v)->(o=none->y=none)->(y=none/\(0:Int)=0)\/∃ J,y=some (.int J 0):=λ{o y} h1 h2 C=>by
  cases o with
  |none=>exact .inl ⟨C rfl,rfl⟩
  |some d=>
   obtain⟨v,rfl,hv⟩:=h2 d rfl;right;unfold gg at h1;simp[D.int?] at h1;split at h1
   .rename_i k n;simp[bg] at h1;subst h1;exact⟨k,by rw[hv.du.1]⟩
   .cases h1
 have hb:=CI (P:=P) (w:=w) true 0 0 (l:=0) (h:=0) (r5 jj hl M) (s0 (r5 p9 hh U)) oG oG oG;refine bB.val hm (v:=.slice none 0 0) ?_ .z;simp[sv hu,Instr.slice,run_underlying hu,hb,jA w (kB he)]
def ez.env{J:Operand->D}{nx:Nat}(hr:∀ x∈o.operands,J x=ρ x)(h:ez P ρ m nx o e):ez P J m nx o e:=by
 cases h with
 |add t p x y a b hx hy h=>exact .add t p x y a b ((hr x cN).trans hx) ((hr y cN).trans hy) h
 |rune src dst x k k' n hx hs hd h0 h1=>exact .rune src dst x k k' n ((hr x cN).trans hx) hs hd h0 h1
 |cut t x h c es n k k' hx hh hc ht hn=>exact .cut t x h c es n k k' ((hr x cN).trans hx) ((hr h cN).trans hh) ((hr c cN).trans hc) ht hn
 |Du c s x t es news n k p rd hc hs hx hp ht hn hk hz C hb=>
  refine .Du c s x t es news n k p rd hc ((hr s (by rw[hc];simp[Op.operands,Call.operands])).trans hs) ?_ hp ht hn hk hz C hb;rw[hr x (by rw[hc];simp[Op.operands,Call.operands])];exact hx
 |Bn c s x t u b hc hs hx ht hu C hb=>exact .Bn c s x t u b hc ((hr s (by rw[hc];simp[Op.operands,Call.operands])).trans hs) ((hr x (by rw[hc];simp[Op.operands,Call.operands])).trans hx) ht hu C hb
 |Bt c s x t u b i off n cs hc hs hx hi ht hu hf C hb=>exact .Bt c s x t u b i off n cs hc ((hr s (by rw[hc];simp[Op.operands,Call.operands])).trans hs) ((hr x (by rw[hc];simp[Op.operands,Call.operands])).trans hx) hi ht hu hf C hb
 |BV c x t i es hc hx hi ht=>exact .BV c x t i es hc ((hr x (by rw[hc];simp[Op.operands,Call.operands])).trans hx) hi ht
 |BF c s t i off n r hc hs hi hn=>exact .BF c s t i off n r hc ((hr s (by rw[hc];simp[Op.operands,Call.operands])).trans hs) hi hn
 |BW c p n t u e l i off cs k hc hp hn hi hl h0 ht he C M=>exact .BW c p n t u e l i off cs k hc ((hr p (by rw[hc];simp[Op.operands,Call.operands])).trans hp) ((hr n (by rw[hc];simp[Op.operands,Call.operands])).trans hn) hi hl h0 ht he C M
 |Dd t hb ht hz=>exact .Dd t hb ht hz
 |DN t x d hb hx hd hs=>exact .DN t x d hb (by rw[hr x cN];exact hx) hd hs
 |G9 t x lo hi hx jj p9 ht=>
  refine .G9 t x lo hi ((hr x cN).trans hx) ?_ ?_ ht
  .cases lo with
   |none=>exact jj
   |some y=>simp[Option.map_some] at jj ⊢;rw[hr y cN];exact jj
  .cases hi with
   |none=>exact p9
   |some y=>simp[Option.map_some] at p9 ⊢;rw[hr y cN];exact p9
 |Gu t x h c k k' hx hh hc ht=>exact .Gu t x h c k k' ((hr x cN).trans hx) ((hr h cN).trans hh) ((hr c cN).trans hc) ht
 |Gv t x h c i off n cs e k k' hx hi hh hc ht hl=>exact .Gv t x h c i off n cs e k k' ((hr x cN).trans hx) hi ((hr h cN).trans hh) ((hr c cN).trans hc) ht hl
 |DO b op t p x fv hx ht=>exact .DO b op t p x fv ((hr x cN).trans hx) ht
 |DP b op t p x i off n cs e fv hx hi hn ht=>exact .DP b op t p x i off n cs e fv ((hr x cN).trans hx) hi hn ht
 |Dv t a i u x T ha hi ht hg=>exact .Dv t a i u x T ((hr a cN).trans ha) hi ht hg
 |Bu t a y i u x T ha hi ht hg hy=>
  rw[<- hr y cN];exact .Bu t a y i u x T ((hr a cN).trans ha) hi ht hg (by rw[hr y cN];exact hy)
def ez.mem{m':Mem}(h:ez P ρ m nx o e)(hr:∀ i∈e.rd,m i≠none->m' i=m i):ez P ρ m' nx o e:=by
 cases h with
 |add t p x y a b hx hy h=>exact .add t p x y a b hx hy h
 |rune src dst x k k' n hx hs hd h0 h1=>exact .rune src dst x k k' n hx hs hd h0 h1
 |cut t x h c es n k k' hx hh hc ht hn=>exact .cut t x h c es n k k' hx hh hc ht hn
 |Du c s x t es news n k p rd hc hs hx hp ht hn hk hz C hb=>
  refine .Du c s x t es news n k p rd hc hs ?_ hp ht hn hk hz C hb;revert hx;unfold mS;split
  .exact id
  .exact id
  .intro hx;split at hx
   .rename_i J;cases hx;rw[hr _ oS (by simp[J]),J]
   .cases hx
  .exact id
 |Bn c s x t u b hc hs hx ht hu C hb=>exact .Bn c s x t u b hc hs hx ht hu C hb
 |Bt c s x t u b i off n cs hc hs hx hi ht hu hf C hb=>exact .Bt c s x t u b i off n cs hc hs hx ((hr i oS (by simp[hi])).trans hi) ht hu hf C hb
 |BV c x t i es hc hx hi ht=>exact .BV c x t i es hc hx ((hr i oS (by simp[hi])).trans hi) ht
 |BF c s t i off n r hc hs hi hn=>exact .BF c s t i off n r hc hs ((hr i oS (by simp[hi])).trans hi) hn
 |BW c p n t u e l i off cs k hc hp hn hi hl h0 ht he C M=>exact .BW c p n t u e l i off cs k hc hp hn ((hr i oS (by simp[hi])).trans hi) hl h0 ht he C M
 |Dd t hb ht hz=>exact .Dd t hb ht hz
 |DN t x d hb hx hd hs=>exact .DN t x d hb hx hd hs
 |G9 t x lo hi hx jj p9 ht=>exact .G9 t x lo hi hx jj p9 ht
 |Gu t x h c k k' hx hh hc ht=>exact .Gu t x h c k k' hx hh hc ht
 |Gv t x h c i off n cs e k k' hx hi hh hc ht hl=>exact .Gv t x h c i off n cs e k k' hx ((hr i oS (by simp[hi])).trans hi) hh hc ht hl
 |DO b op t p x fv hx ht=>exact .DO b op t p x fv hx ht
 |DP b op t p x i off n cs e fv hx hi hn ht=>exact .DP b op t p x i off n cs e fv hx ((hr i oS (by simp[hi])).trans hi) hn ht
 |Dv t a i u x T ha hi ht hg=>exact .Dv t a i u x T ha ((hr i oS (by simp[hi])).trans hi) ht hg
 |Bu t a y i u x T ha hi ht hg hy=>exact .Bu t a y i u x T ha ((hr i oS (by simp[hi])).trans hi) ht hg hy
def ez.pre{nx:Nat}(h:ez P ρ m nx o e):e.pre:=by cases h<;>trivial
def ez.defer(h:ez P ρ m nx o e):∀ c,o≠ .defer c:=by cases h<;>simp
def ez.tidy(h:ez P ρ m nx o e):
 (∀ i∈e.bF.map (·.1),m i≠none\/(nx<=i/\i<nx+e.new))/\(dv o=0->e.rd=[]/\e.bF=[])/\(dv o=1->e.bF=[])/\(dv o=3->e.rd=[]/\∀ i∈e.bF.map (·.1),nx<=i):=by
 cases h with
 |Du c s x t es news n k p rd hc hs hx hp ht hn hk hz C hb=>rw[hc];simp[dv]
 |Bn c s x t u b hc hs hx ht hu C hb=>rw[hc];simp[dv]
 |Bt c s x t u b i off n cs hc hs hx hi ht hu hf C hb=>rw[hc];simp[dv,hi]
 |BV c x t i es hc hx hi ht=>rw[hc];simp[dv]
 |BF c s t i off n r hc hs hi hn=>rw[hc];simp[dv]
 |BW c p n t u e l i off cs k hc hp hn hi hl h0 ht he C J=>rw[hc];simp[dv,hi]
 |Bu t a y i u x T ha hi ht hg hy=>simp[dv,hi]
 |DO b op t p x fv hx ht=>subst fv;cases b<;>simp[dv]
 |DP b op t p x i off n cs e fv hx hi hn ht=>subst fv;cases b<;>simp[dv]
 |_=>simp[dv]
def ahC(hm:bc P F m β w){o:Oper}{env:Env}{a:Act}(hn:e.new=1->β nx=none)(hE:jd F β w env a)(ha:asks env o.op)(h:ez P (bO env o.op) m nx o.op e):bB P F m nx β w e (execOp a.eval o):=by
 let⟨dst,op,type,pos,after,guard⟩:=o;simp only at ha h
 have hR:(∀ c x y,op≠ .pick c x y)->∀ x∈op.operands.toList,R F β w (bO env op x) (a.eval x):=λJ5 x hx=>by
  have h1:bO env op x=(opd env x).core:=by cases op<;>first|rfl|exact absurd rfl (J5 _ _ _)
  have h2:(opd env x).ask:=by cases op<;>first|exact ha x hx|exact absurd rfl (J5 _ _ _)
  rw[h1];exact(hE.opd x).Bk _ h2
 have call:∀ (b:Builtin) (s x:Operand) (ts:Array TypeId) (q:Sem Next),op=.call { callee:=.builtin b,args:= #[s,x],argTypes:=ts }->(∀ cs,builtin b ts type cs #[a.eval s,a.eval x]=q)->bB P F m nx β w e q->bB P F m nx β w e (execOp a.eval ⟨dst,op,type,pos,after,guard⟩):=by
  intro b s x ts q ho hb hq;subst ho;let⟨n,v,w',β',h1,h2⟩:=hq;refine⟨n,v,w',β',?_,h2⟩;unfold execOp;simp only[resolve,Sem.run_bind,Sem.run_pure,Result.andThen_ok,invoke];have M:(#[s,x]:Array Operand).map a.eval= #[a.eval s,a.eval x]:=by simp
  rw[M,hb];exact h1
 have acs:∀ (b:Builtin) (s:Operand) (ts:Array TypeId) (q:Sem Next),op=.call { callee:=.builtin b,args:= #[s],argTypes:=ts }->(∀ cs,builtin b ts type cs #[a.eval s]=q)->bB P F m nx β w e q->bB P F m nx β w e (execOp a.eval ⟨dst,op,type,pos,after,guard⟩):=by
  intro b s ts q ho hb hq;subst ho;let⟨n,v,w',β',h1,h2⟩:=hq;refine⟨n,v,w',β',?_,h2⟩;unfold execOp;simp only[resolve,Sem.run_bind,Sem.run_pure,Result.andThen_ok,invoke];have M:(#[s]:Array Operand).map a.eval= #[a.eval s]:=by simp
  rw[M,hb];exact h1
 cases h with
 |add t p x y b c hx hy h=>
  have C:=hR oS x cN;have qy:=hR oS y cN;rw[hx] at C;rw[hy] at qy;let⟨M,_⟩:=C.du;let⟨e2,_⟩:=qy.du;unfold execOp;refine bB.val hm (v:=.string (b++c)) ?_ (.s _ rfl);simp only[M,e2,Sem.run_bind,zJ .add t x y (.string b) (.string c) oS oS,Result.andThen_ok,binOp_string_add,run_string_add_sum w b c (by simp[maxLen] at h;omega),Sem.run_pure]
 |rune src dst x k k' n hx hs hd h0 h1=>
  have C:=hR oS x cN;rw[hx] at C;exact aiN hm C hs hd h0 h1
 |cut t x h c es n k k' hx hh hc ht U=>
  have C:=hR oS x cN;have qh:=hR oS h cN;have qc:=hR oS c cN;rw[hx] at C;rw[hh] at qh;rw[hc] at qc;exact akZ hm C qh qc ht U
 |Du c s x t es news n k p rd hc hs hx hp ht U hk hz iM hb=>
  have J:=hR oS s (by rw[hc];simp[Op.operands,Call.operands]);have C:=hR oS x (by rw[hc];simp[Op.operands,Call.operands]);rw[hs] at J;let⟨cc,dB,X⟩:=Ql (ty:=type) hm C hx hp ht hz;exact call .append s x _ _ (by rw[hc]) (λ_=>rfl) ((HG hm (hn rfl) dB X (mT ht).2 hz).2.1 es n J hk U iM hb)
 |Bn c s x t u b hc hs hx ht hu iM hb=>
  have J:=hR oS s (by rw[hc];simp[Op.operands,Call.operands]);have C:=hR oS x (by rw[hc];simp[Op.operands,Call.operands]);rw[hs] at J;rw[hx] at C;let⟨M,_⟩:=C.du;apply call .append s x _ _ (by rw[hc]) (λ_=>rfl);rw[M];exact(HG hm (hn rfl) (abq b) (aah (ty:=type) ht hu b) (mT ht.1).2 (by rw[ht.2.2];omega)).1 J iM hb
 |Bt c s x t u b i off n cs hc hs hx hi ht hu hf iM hb=>
  have J:=hR oS s (by rw[hc];simp[Op.operands,Call.operands]);have C:=hR oS x (by rw[hc];simp[Op.operands,Call.operands]);rw[hs] at J;rw[hx] at C;let⟨M,_⟩:=C.du;apply call .append s x _ _ (by rw[hc]) (λ_=>rfl);rw[M];exact(HG hm (hn rfl) (abq b) (aah (ty:=type) ht hu b) (mT ht.1).2 (by rw[ht.2.2];omega)).2.2 i off n cs J hi (by rw[ht.2.2];omega) iM hb
 |BV c x t i es hc hx hi ht=>
  have C:=hR oS x (by rw[hc];simp[Op.operands,Call.operands]);rw[hx] at C;exact acs .len x _ _ (by rw[hc]) (λ_=>rfl) (aiQ hm C hi ht)
 |BF c s t i off n r hc hs hi U=>
  have J:=hR oS s (by rw[hc];simp[Op.operands,Call.operands]);rw[hs] at J;exact acs .unsafeSliceData s _ _ (by rw[hc]) (λ_=>rfl) (ahz hm J hi U)
 |BW c p n t u e l i off cs k hc hp U hi hl h0 ht he iM rY=>
  have qp:=hR oS p (by rw[hc];simp[Op.operands,Call.operands]);have qn:=hR oS n (by rw[hc];simp[Op.operands,Call.operands]);rw[hp] at qp;rw[U] at qn;exact call .unsafeString p n _ _ (by rw[hc]) (λ_=>rfl) (aiR hm qp qn hi hl h0 ht he iM rY)
 |Dd t hb ht hz=>exact ag5 hm (hn rfl) ht hz
 |DN t x d hb hx hd hs=>exact aiS hm (hn rfl) hx hd hs (hR oS x cN)
 |G9 t x lo hi hx jj p9 ht=>
  have C:=hR oS x cN;rw[hx] at C;refine ak1 (lo:=lo.map a.eval) (hi:=hi.map a.eval) hm C jj p9 ?_ ?_ ?_ ?_ ht
  .intro d hd;obtain⟨y,rfl,rfl⟩:=ej.1 hd;exact⟨_,rfl,hR oS y cN⟩
  .intro h;cases lo<;>first|rfl|cases h
  .intro d hd;obtain⟨y,rfl,rfl⟩:=ej.1 hd;exact⟨_,rfl,hR oS y cN⟩
  .intro h;cases hi<;>first|rfl|cases h
 |Gu t x h c k k' hx hh hc ht=>
  have C:=hR oS x cN;have qh:=hR oS h cN;have qc:=hR oS c cN;rw[hx] at C;rw[hh] at qh;rw[hc] at qc;exact aiO hm C qh qc ht
 |Gv t x h c i off n cs e k k' hx hi hh hc ht hl=>
  have C:=hR oS x cN;have qh:=hR oS h cN;have qc:=hR oS c cN;rw[hx] at C;rw[hh] at qh;rw[hc] at qc;exact aiP hm C hi qh qc ht hl
 |DO b op t p x fv hx ht=>
  have C:=hR oS x cN;rw[hx] at C;have:=X5 (nx:=nx) (pre:=True) (rd:=[]) (ox:=x) (oy:=.const (.slice none 0 0)) (a:=none) (l:=0) (c:=0) hm ht fv;show bB P F m nx β w _ ((do eqGuard op t x (.const (.slice none 0 0)) (a.eval x) (.slice none 0 0);binOp op t (a.eval x) (.slice none 0 0))>>=λr=>Pure.pure (Next.value r));rw[C.BX];exact this
 |DP b op t p x i off n cs e fv hx hi U ht=>
  have C:=hR oS x cN;rw[hx] at C;show bB P F m nx β w _ ((do eqGuard op t x (.const (.slice none 0 0)) (a.eval x) (.slice none 0 0);binOp op t (a.eval x) (.slice none 0 0))>>=λr=>Pure.pure (Next.value r));rcases C.FK hm hi with⟨_,_,h3,_⟩|⟨b',o,room,_,aF,⟨h3,_⟩|⟨cap,hv,_⟩⟩
  .omega
  .omega
  .have:=X5 (nx:=nx) (pre:=True) (rd:=[i]) (ox:=x) (oy:=.const (.slice none 0 0)) (a:=some ⟨b',o+off,none⟩) (l:=n) (c:=cap) hm ht fv;rw[hv];exact this
 |Dv t b i u x T hb hi ht hg=>
  have qa:=hR oS b cN;rw[hb] at qa;exact ahB hm qa hi ht hg
 |Bu t b y i u x T hb hi ht hg hy=>
  have qa:=hR oS b cN;have qy:=hR oS y cN;rw[hb] at qa;exact ag6 hm qa qy hi ht hg hy
end
def aai{P:Program}{ops:Array Oper}{o:Oper}{st:St}(U:iI ops o st true)(ha:asks st.env o.op)(h:ez P (bO st.env o.op) st.mem st.nx o.op e):cy.Ok P ops o st ⟨e.val,e.bF,e.rd,e.new⟩:=by
 intro F β w a m env N he C hm hr hn X r n QX K M;have J:=CK he;refine aaj (m:=m) (nx:=st.nx) (β:=β) (F:=F) h.defer (U F β w a env he C) (ahC hm (λh1=>hn st.nx (bY _) (by simp[h1])) C (by rw[CN J];exact ha) ?_) M;exact(h.env (CV J)).mem hr
end
section
structure dt(P:Program)(F:Nat->Prop)(st:St)(β:aZ)(w:World)(a:Act):Prop where
 e:jd F β w st.env a
 m:bc P F st.mem β w
 n:∀ i,st.nx<=i->β i=none
structure fW(N:Nat)(β:aZ)(w:World)(a:Act)(st':St)(β':aZ)(w':World)(a':Act):Prop where
 step:Step β w β' w'
 le:N<=st'.nx
 grow:∀ i,i<N->β i=none->β' i=none
 size:a'.tmps.size=a.tmps.size
 defers:a'.defers=a.defers
variable{N:Nat}
def fW.trans{β β₁ β₂:aZ}{w X w₂:World}{a M U:Act}{C J:St}(h:fW N β w a C β₁ X M)(k:fW C.nx β₁ X M J β₂ w₂ U):fW N β w a J β₂ w₂ U:=
 ⟨h.step.trans k.step,Nat.le_trans h.le k.le,λi hi hn=>k.grow i (Nat.lt_of_lt_of_le hi h.le) (h.grow i hi hn),k.size.trans h.size,k.defers.trans h.defers⟩
def fW.refl(st:St)(β:aZ)(w:World)(a:Act):fW st.nx β w a st β w a:=⟨Step.refl β w,bY _,λ_ _ h=>h,rfl,rfl⟩
def fq(P:Program)(F:Nat->Prop)(N:Nat)(β:aZ)(w:World)(a:Act)(Q:Exit->St->Prop)(e:Exit)(a':Act)(w':World):Prop:=
 ∃ st' β',Q e st'/\dt P F st' β' w' a'/\fW N β w a st' β' w' a'
variable{Y:iu}{dr:Bool}{args:List D}{l:Nat}{cf:List (Nat×Nat)}{Q:Exit->St->Prop}
section
variable{P:Program}{F:Nat->Prop}{ops:Array Oper}{o:Oper}{st:St}{β:aZ}{w:World}{a:Act}
def H4(a:Act)(d:Option Nat)(v:Value):(a.put d v).tmps.size=a.tmps.size:=by
 cases d<;>simp[Act.put]
def put_defers(a:Act)(d:Option Nat)(v:Value):(a.put d v).defers=a.defers:=by
 cases d<;>rfl
def ahs(st:St)(d:Option Nat)(x:D):(st.put d x).env=(match d with|some t=>up st.env t x|none=>st.env):=by
 cases d<;>rfl
def Xo(st:St)(d:Option Nat)(x:D):(st.put d x).mem=st.mem:=by cases d<;>rfl
def E0(st:St)(d:Option Nat)(x:D):(st.put d x).nx=st.nx:=by cases d<;>rfl
def dt.put{st':St}{β':aZ}{w':World}{d:Option Nat}{x:D}{v:Value}(he:jd F β' w' st'.env a)(hd:∀ t,d=some t->t<a.tmps.size)(hv:R F β' w' x v)(hm:bc P F st'.mem β' w')(hn:∀ i,st'.nx<=i->β' i=none):
 dt P F (st'.put d x) β' w' (a.put d v):=by
 refine⟨?_,by rw[Xo];exact hm,by rw[E0];exact hn⟩;cases d with
 |none=>exact he
 |some t=>exact he.put (some t) x v hv hd
def K5{p:cy}(hp:p.Ok P ops o st)(hs:dt P F st β w a)(hd:∀ t,o.dst=some t->t<a.tmps.size)(r:Option Nat)(n:Nat)(QX:Exit->Act->World->Prop){K:Act->World->Prop}
 (M:∀ β' a' w',dt P F (St.put ⟨st.env,dx st.mem p.bF,st.nx+p.new⟩ o.dst p.val) β' w' a'->fW st.nx β w a (St.put ⟨st.env,dx st.mem p.bF,st.nx+p.new⟩ o.dst p.val) β' w' a'->K a' w'):
 o5 r n P ops QX o K a w:=by
 refine hp F β w a st.mem st.env st.nx (λ_ _=>rfl) hs.e hs.m (λ_ _ _=>rfl) (λi h _=>hs.n i h) hs.n r n QX K λv w' β' h1 h2 C J=>?_;refine M β' _ w' (dt.put (st':=⟨st.env,dx st.mem p.bF,st.nx+p.new⟩) (hs.e.step C) hd h1 h2 λi hi=>J i (hs.n i (by simp only at hi;omega)) (.inr hi)) ⟨C,by rw[E0];simp,λi hi hb=>J i hb (.inl hi),H4 _ _ _,put_defers _ _ _⟩
def aly{K:St->List Nat->List Nat->Prop}(h:nt P Y ops dr o st K):
 (∃ p:cy,p.Ok P ops o st/\p.qM (dv o.op) st/\K (St.put ⟨st.env,dx st.mem p.bF,st.nx+p.new⟩ o.dst p.val) p.rd p.wr)\/
 (dr=false/\∃ f args,iI ops o st true/\asks st.env o.op/\eX (bO st.env o.op) o.op=some (f,args)/\js P f args st.mem st.nx λr m nx=>K (St.put ⟨st.env,m,nx⟩ o.dst r) [] [])\/
 (dr=false/\∃ l args,iI ops o st true/\asks st.env o.op/\sN (bO st.env o.op) o.op=some (l,args)/\Y l args st.mem st.nx λr m nx=>K (St.put ⟨st.env,m,nx⟩ o.dst r) [] []):=by
 have ap0:∀ {x},eX (bO st.env o.op) o.op=some x->dv o.op=2:=λ{x} hx=>by
  cases ho:o.op with
  |call c=>
   rw[ho] at hx;simp only[eX] at hx;split at hx
   .rename_i f hf;unfold dv;split<;>first|rfl|(rename_i h1;cases h1;cases hf)|skip
    all_goals simp_all
   .cases hx
  |_=>rw[ho] at hx;simp[eX] at hx
 have J:∀ {x} (p:cy),eX (bO st.env o.op) o.op=some x->(∀ i∈p.wr,st.mem i≠none\/(st.nx<=i/\i<st.nx+p.new))->p.qM (dv o.op) st:=λ{x} p hx C=>by
  have:=ap0 hx;exact⟨C,oG,oG,oG⟩
 have call:∀ {f args},iI ops o st true->asks st.env o.op->eX (bO st.env o.op) o.op=some (f,args)->Bv P dr st f args (λr m nx rd wr=>K (St.put ⟨st.env,m,nx⟩ o.dst r) rd wr)->
  (∃ p:cy,p.Ok P ops o st/\p.qM (dv o.op) st/\K (St.put ⟨st.env,dx st.mem p.bF,st.nx+p.new⟩ o.dst p.val) p.rd p.wr)\/
  (dr=false/\∃ f args,iI ops o st true/\asks st.env o.op/\eX (bO st.env o.op) o.op=some (f,args)/\js P f args st.mem st.nx λr m nx=>K (St.put ⟨st.env,m,nx⟩ o.dst r) [] [])\/
  (dr=false/\∃ l args,iI ops o st true/\asks st.env o.op/\sN (bO st.env o.op) o.op=some (l,args)/\Y l args st.mem st.nx λr m nx=>K (St.put ⟨st.env,m,nx⟩ o.dst r) [] []):=λ{f args} C ha hc hk=>by
  rcases hk with⟨r,h1,h2⟩|⟨gf,bR,r,h1,h2,M,h4⟩|⟨es,n,t,h1,h2⟩|⟨h1,h2⟩|⟨r,bF,bR,h1,h2,M⟩|⟨es,n,t,bF,bR,h1,h2,M,h4⟩
  .exact .inl ⟨⟨r,[],[],0⟩,Ry C ha hc h1,J _ hc (by simp[cy.wr]),h2⟩
  .exact .inl ⟨⟨r,[],bR,0⟩,aap C ha hc h1 h2 M,J _ hc (by simp[cy.wr]),h4⟩
  .exact .inl ⟨⟨.rs st.nx 0 n,[(st.nx,some (.cells es t))],[],1⟩,abu C ha hc h1,J _ hc (by simp[cy.wr]),h2⟩
  .exact .inr (.inl ⟨h1,f,args,C,ha,hc,h2⟩)
  .exact .inl ⟨⟨r,bF,bR,0⟩,aoO C ha hc h1,J _ hc λi hi=>.inl (h2 i hi).2,M⟩
  .refine .inl ⟨⟨.rs st.nx 0 n,bF++[(st.nx,some (.cells es t))],bR,1⟩,ak9 C ha hc h1 h2 M,J _ hc λi hi=>?_,?_⟩
   .simp only[cy.wr,map_append,mem_append,map_cons,map_nil,mem_singleton] at hi;rcases hi with hi|rfl
    .obtain⟨x,hx,rfl⟩:=mem_map.1 hi;let⟨r,hr,_⟩:=h1.1 _ (h1.2.1 x hx).1;exact .inl (by simp[hr])
    .exact .inr ⟨bY _,Nat.lt_succ_self _⟩
   .show K _ _ (cy.wr _);rw[QT,cy.wr,map_append];exact h4
 have op:∀ {e:eC},iI ops o st true->asks st.env o.op->bw P o.op (bO st.env o.op) st.mem st.nx=some e->e.pre->K (St.put ⟨st.env,dx st.mem e.bF,st.nx+e.new⟩ o.dst e.val) e.rd (e.bF.map (·.1))->
  (∃ p:cy,p.Ok P ops o st/\p.qM (dv o.op) st/\K (St.put ⟨st.env,dx st.mem p.bF,st.nx+p.new⟩ o.dst p.val) p.rd p.wr):=λ{e} C ha h hp hk=>by
  let⟨t1,t2,t3,t4⟩:=RK h;exact⟨⟨e.val,e.bF,e.rd,e.new⟩,Sd C ha h hp,⟨t1,t2,t3,t4⟩,hk⟩
 have skip:∀ {d:D},iI ops o st false->(∀ F β w,R F β w d undef)->K (st.put o.dst d) [] []->
  (∃ p:cy,p.Ok P ops o st/\p.qM (dv o.op) st/\K (St.put ⟨st.env,dx st.mem p.bF,st.nx+p.new⟩ o.dst p.val) p.rd p.wr):=λ{d} C hd hk=>
  ⟨⟨d,[],[],0⟩,LS C d hd,⟨by simp[cy.wr],λ_=>⟨rfl,rfl⟩,λ_=>rfl,λ_=>⟨rfl,by simp[cy.wr]⟩⟩,hk⟩
 have U:∀ (F:Nat->Prop) β w,R F β w Ai undef:=λF β w=>.dw false .u undef oS λ_=>rfl;unfold nt at h;split at h
 .rename_i hg;have C:=CJ (ops:=ops) (st:=st) hg;let⟨ha,h⟩:=h;split at h
  .rename_i f args hc;exact call C ha hc h
  .split at h
   .rename_i l args hy;exact .inr (.inr ⟨h.1,l,args,C,ha,hy,h.2⟩)
   .split at h
    .rename_i e he;exact .inl (op C ha he h.1 h.2)
    .exact h.elim
 .rename_i j b hg;split at h
  .exact h.elim
  .rename_i c hc;simp only[Option.bind_eq_some_iff] at hc;let⟨t,⟨oj,AN,Vk⟩,hc⟩:=hc;have C:iI ops o st c:=PZ hg (t:=t) (by simp[AN,Vk]) hc;split at h
   .rename_i f args lX;rcases h with⟨r,h1,h2⟩|⟨h1,h2⟩
    .refine .inl ⟨⟨.dw c r,[],[],0⟩,abt C λeM=>?_,J _ lX (by simp[cy.wr]),h2⟩;subst eM;exact Ry C (h1 rfl).1 lX (h1 rfl).2
    .cases c with
     |true=>exact call C (h1 rfl).1 lX (h1 rfl).2
     |false=>exact .inl (skip C U (h2 rfl))
   .split at h
    .rename_i l args hy;cases c with
     |true=>exact .inr (.inr ⟨(h.1 rfl).2.1,l,args,C,(h.1 rfl).1,hy,(h.1 rfl).2.2⟩)
     |false=>exact .inl (skip C U (h.2 rfl))
    .split at h
     .rename_i e he;split at h
      .rename_i X;simp[aJ,isEmpty_iff,beq_iff_eq] at X;let⟨h1,h2⟩:=h;let⟨t1,t2,t3,t4⟩:=RK he;refine .inl ⟨⟨.dw c e.val,[],e.rd,0⟩,abt C λeM=>?_,⟨by simp[cy.wr],λhk=>⟨(t2 hk).1,rfl⟩,λ_=>rfl,λhk=>⟨(t4 hk).1,by simp[cy.wr]⟩⟩,h2⟩;subst eM;have:=Sd C (h1 rfl).1 he (h1 rfl).2;rw[X.1,X.2] at this;exact this
      .let⟨h1,h2⟩:=h;cases c with
       |true=>exact .inl (op C (h1 rfl).1 he (h1 rfl).2.1 (h1 rfl).2.2)
       |false=>exact .inl (skip C U (h2 rfl))
     .obtain⟨rfl,h⟩:=h;exact .inl (skip C U h)
def ahI(h:goes ops o st):iI ops o st true:=by
 rcases h with hg|⟨j,b,hg,hc⟩
 .exact CJ hg
 .simp[Option.bind_eq_some_iff] at hc;let⟨t,⟨M,C,J⟩,hc⟩:=hc;exact PZ hg (t:=t) (by simp[C,J]) hc
def Qg{K:St->List Nat->List Nat->Prop}(h:nt P Y ops dr o st K\/adB P ops o st K):
 (∃ p:cy,p.Ok P ops o st/\p.qM (dv o.op) st/\K (St.put ⟨st.env,dx st.mem p.bF,st.nx+p.new⟩ o.dst p.val) p.rd p.wr)\/
 (dr=false/\∃ f args,iI ops o st true/\asks st.env o.op/\eX (bO st.env o.op) o.op=some (f,args)/\js P f args st.mem st.nx λr m nx=>K (St.put ⟨st.env,m,nx⟩ o.dst r) [] [])\/
 (dr=false/\∃ l args,iI ops o st true/\asks st.env o.op/\sN (bO st.env o.op) o.op=some (l,args)/\Y l args st.mem st.nx λr m nx=>K (St.put ⟨st.env,m,nx⟩ o.dst r) [] []):=by
 rcases h with h|⟨h1,h2,e,C,J⟩
 .exact aly h
 .let⟨t1,t2,t3,t4⟩:=C.tidy;exact .inl ⟨⟨e.val,e.bF,e.rd,e.new⟩,aai (ahI h1) h2 C,⟨t1,t2,t3,t4⟩,J⟩
def Xp{f:FuncId}{fq:D->Mem->Nat->Prop}(hw:iI ops o st true)(ha:asks st.env o.op)(hc:eX (bO st.env o.op) o.op=some (f,args))(h:js P f args st.mem st.nx fq)
 (hs:dt P F st β w a) (hd:∀ t,o.dst=some t->t<a.tmps.size) (r:Option Nat) (n:Nat) (QX:Exit->Act->World->Prop) {K:Act->World->Prop}
 (hK:∀ d m' nx' β' a' w',fq d m' nx'->dt P F (St.put ⟨st.env,m',nx'⟩ o.dst d) β' w' a'->fW st.nx β w a (St.put ⟨st.env,m',nx'⟩ o.dst d) β' w' a'->K a' w'):
 o5 r n P ops QX o K a w:=by
 refine Fj (hw F β w a st.env (λ_ _=>rfl) hs.e) hs.e ha hc h.1 λvs hR=>?_;refine(h.2 F β w vs hs.m hs.n hR).mono λe w' hp=>?_;let⟨v,d,m',nx',β',h1,h2,J,M,U,C,X,h8⟩:=hp;refine⟨v,h1,hK d m' nx' β' _ w' h2 (dt.put (st':=⟨st.env,m',nx'⟩) (hs.e.step C) hd U J M) ⟨C,by rw[E0];exact X,h8,H4 _ _ _,put_defers _ _ _⟩⟩
def ahd{env:Env}(J:jd F β w env a)(ha:asks env o.op)(h:sN (bO env o.op) o.op=some (l,args)):
 ∃ vs,(execOp a.eval o).run P w=(Instr.yield l vs).run P w/\Rs F β w args vs:=by
 let⟨dst,op,type,pos,after,guard⟩:=o;simp only at ha h;cases op with
 |call c=>
  simp[sN] at h;have hR:∀ x∈(Op.call c).operands.toList,R F β w (bO env (.call c) x) (a.eval x):=λx hx=>(J.opd x).Bk _ (ha x hx);split at h
  .rename_i g hg;split at h
   .rename_i X hk;simp[bg,dp] at h;obtain⟨rfl,rfl⟩:=h;have h1:=hR g (by simp[Op.operands,Call.operands,hg]);rw[hk] at h1;let⟨q1,M⟩:=FG (F:=F) (β:=β) (w:=w) (xs:=c.args) (ρ:=bO env (.call c)) (a:=a) (λx hx=>hR x (by simp[Op.operands,Call.operands];exact .inr hx));generalize hv:a.eval g=v at h1;cases h1 with
    |fn _ _ _ us vs hl mK hh U=>
    have C:us=[]:=eq_nil_of_length_eq_zero (s0 hl);have e2:vs=[]:=eq_nil_of_length_eq_zero (s0 mK);subst C e2;refine⟨c.args.map a.eval,?_,oS,λj d u hd hu=>M j d u hd (s0 hu)⟩;unfold execOp;simp only[resolve,hg,Sem.run_bind,hv,Deferred.ofValue,Sem.run_pure,Result.andThen_ok,invoke];simp
   .cases h
  .cases h
 |_=>simp[sN] at h
def agO{op:Op}{ρ:Operand->D}{x:Nat×List D}(h:sN ρ op=some x):∀ c,op≠ .defer c:=λc hc=>by
 subst hc;simp[sN] at h
def ahJ{fq:D->Mem->Nat->Prop}(hw:iI ops o st true)(ha:asks st.env o.op)(hc:sN (bO st.env o.op) o.op=some (l,args)){M:aZ}{J:World}(h:ua P F M J l args st.mem st.nx fq)(hb:Step M J β w)
 (hs:dt P F st β w a) (hd:∀ t,o.dst=some t->t<a.tmps.size) (r:Option Nat) (n:Nat) (QX:Exit->Act->World->Prop) {K:Act->World->Prop}
 (hK:∀ d m' nx' β' a' w',fq d m' nx'->dt P F (St.put ⟨st.env,m',nx'⟩ o.dst d) β' w' a'->fW st.nx β w a (St.put ⟨st.env,m',nx'⟩ o.dst d) β' w' a'->K a' w'):
 o5 r n P ops QX o K a w:=by
 let⟨vs,h1,h2⟩:=ahd (P:=P) hs.e ha hc;let⟨f,tmps,assign,body,h3,h4⟩:=h β w vs hb hs.m hs.n h2;rw[o5,hw F β w a st.env (λ_ _=>rfl) hs.e,bi rfl];refine⟨λ_ _=>trivial,?_⟩;rw[FL (agO hc),h1,h3];refine⟨oS,?_⟩;have h5:=h4 (n - 1);refine RoundIn.mono (F:=Fe r) (show RoundIn (Fe r) (n - 1) P l f tmps assign body w _ from h5) λe w' hp=>?_;obtain⟨v,d,m',nx',β',rfl,U,X,g4,g5,C,g7,g8⟩:=hp;exact hK d m' nx' β' _ w' U (dt.put (st':=⟨st.env,m',nx'⟩) (hs.e.step C) hd g5 X g4) ⟨C,by rw[E0];exact g7,g8,H4 _ _ _,put_defers _ _ _⟩
def tZ(N:Nat)(ops:Array Oper):Bool:=ops.toList.all λo=>match o.dst with
 |some t=>Nat.blt t N
 |none=>true
def HM(h:tZ N ops=true){i:Nat}{o:Oper}(hi:ops[i]? =some o):∀ t,o.dst=some t->t<N:=λt ht=>by
 have h1:=bK.1 h o (by simpa using Array.mem_of_getElem? hi);rw[ht] at h1;simpa using h1
def alz{r:Option Nat}{n:Nat}{β₀:aZ}{w₀:World}{a₀:Act}(hY:∀ l args m nx fq,Y l args m nx fq->ua P F β₀ w₀ l args m nx fq)(ao:tZ a₀.tmps.size ops=true):
 ∀ (rest:List Oper) (k:Nat) (st:St) (tr:pk) (β:aZ) (w:World) (a:Act),ops.toList.drop k=rest->aE P Y ops false cf Q rest st tr->dt P F st β w a->fW N β₀ w₀ a₀ st β w a->
  wpOpsIn (Fe r) n P ops (fq P F N β₀ w₀ a₀ Q) (range' k rest.length) a w:=by
 intro rest
 induction rest with
 |nil=>
  intro k st tr β w a hk h hs C;simp[length_nil,range'_zero,wpOpsIn];exact⟨st,β,h.2,hs,C⟩
 |cons o rest ih=>
  intro k st tr β w a hk h hs C
  have ho:ops[k]? =some o:=by
   have:(ops.toList.drop k)[0]? =some o:=by rw[hk];rfl
   simpa using this
  have mO:ops.toList.drop (k+1)=rest:=by
   have:(ops.toList.drop k).drop 1=rest:=by rw[hk];rfl
   simpa[drop_drop,Nat.add_comm] using this
  simp[length_cons,range'_succ,wpOpsIn_cons];apply KN ho;have hd:∀ t,o.dst=some t->t<a.tmps.size:=λt ht=>by rw[C.size];exact HM ao ho t ht
  simp[aE] at h;rcases Qg h with⟨p,h1,_,M⟩|⟨_,f,args,h1,h2,M,X⟩|⟨_,l,args,h1,h2,M,X⟩
  .exact K5 h1 hs hd r n _ λβ' a' w' J U=>ih (k+1) _ _ β' w' a' mO M J (C.trans U)
  .exact Xp h1 h2 M X hs hd r n _ λd m' nx' β' a' w' hp J U=>ih (k+1) _ _ β' w' a' mO hp J (C.trans U)
  .exact ahJ h1 h2 M (hY _ _ _ _ _ X) C.step hs hd r n _ λd m' nx' β' a' w' hp J U=>ih (k+1) _ _ β' w' a' mO hp J (C.trans U)
def agX{r:Option Nat}{n id:Nat}{N:Nat}{β₀:aZ}{w₀:World}{a₀:Act}(J:∀ l args m nx fq,Y l args m nx fq->ua P F β₀ w₀ l args m nx fq)(ao:tZ a₀.tmps.size ops=true)
 (h:aE P Y ops false cf Q ops.toList st []) (hs:dt P F st β w a) (C:fW N β₀ w₀ a₀ st β w a):(Code.region id ops false).wpIn (Fe r) n P (fq P F N β₀ w₀ a₀ Q) a w:=by
 apply wpIn_region;have:=alz J (r:=r) (n:=n) ao ops.toList 0 st [] β w a oS h hs C;rw[range_eq_range'];simpa using this
end
end
section
def K4(acc:List Nat)(i:Nat):∀ (l:List Edge) (s:Nat),(l.foldl (λs e=>if Region.binds .any e then s||| 2 ^ e.on||| acc.getD e.on 0 else s) s).testBit i=true->
 s.testBit i=true\/∃ e∈l,Region.binds .any e=true/\(i=e.on\/(acc.getD e.on 0).testBit i=true)
 |[],s,h=>.inl h
 |e::l,s,h=>by
  rw[foldl_cons] at h;rcases K4 acc i l _ h with h1|⟨C,J,hb⟩
  .by_cases hb:Region.binds .any e=true
   .rw[bi hb] at h1;simp[Nat.testBit_or,Bool.or_eq_true,Nat.testBit_two_pow,decide_eq_true_eq] at h1;rcases h1 with(h1|h1)|h1
    .exact .inl h1
    .exact .inr ⟨e,oS,hb,.inl h1.symm⟩
    .exact .inr ⟨e,oS,hb,.inr h1⟩
   .rw[ai hb] at h1;exact .inl h1
  .exact .inr ⟨C,by simp[J],hb⟩
def PJ:∀ (os:List Oper) (acc:List Nat),∃ l,lh os acc=acc++l/\l.length=os.length
 |[],acc=>⟨[],by simp[lh],rfl⟩
 |o::os,acc=>by
  let⟨l,h1,h2⟩:=PJ os (acc++[F6 acc o]);exact⟨F6 acc o::l,by simp[lh,h1],by simp[h2]⟩
def Lm:∀ (os:List Oper) (acc:List Nat) (k:Nat) (o:Oper),os[k]? =some o->(lh os acc).getD (acc.length+k) 0=F6 ((lh os acc).take (acc.length+k)) o
 |[],acc,k,o,h=>by simp at h
 |x::os,acc,0,o,h=>by
  simp[getElem?_cons_zero,bg] at h;subst h;let⟨l,h1,h2⟩:=PJ os (acc++[F6 acc x]);simp[lh,h1]
 |x::os,acc,k+1,o,h=>by
  have:=Lm os (acc++[F6 acc x]) k o (s0 h);simp[length_append,length_cons,length_nil] at this;have e:acc.length+(k+1)=acc.length+(0+1)+k:=by omega
  rw[e];exact this
def PU{ops:Array Oper}{S:Nat->Bool}(U:∀ j,S j=true->∀ o,ops[j]? =some o->∀ e∈o.after,Region.binds .any e=true->S e.on=true)(i:Nat):
 ∀ j,S j=true->((lh ops.toList []).getD j 0).testBit i=true->S i=true:=by
 intro j
 induction j using Nat.strongRecOn with
 |_ j ih=>
  intro hj hb;cases C:ops[j]? with
  |none=>
   let⟨l,h1,h2⟩:=PJ ops.toList []
   have:(lh ops.toList []).getD j 0=0:=by
    rw[h1];simp[nil_append];have:ops.size<=j:=s0 C
    simp[getElem?_eq_none (show l.length<=j by simpa[h2] using this)]
   rw[this] at hb;simp at hb
  |some o=>
   have h1:=Lm ops.toList [] j o (s0 C);simp only[length_nil,Nat.zero_add] at h1;rw[h1] at hb;rcases K4 _ i _ 0 hb with h2|⟨e,he,X,h2⟩
   .simp at h2
   .have J:=U j hj o C e (s0 he) X;rcases h2 with rfl|h2
    .exact J
    .rcases Nat.lt_or_ge e.on j with ao|M
     .apply ih e.on ao J;simpa[getElem?_take,ao] using h2
     .simp[getElem?_take,Nat.not_lt.2 M] at h2
def WL{bs:List Nat}{n i j:Nat}(C:i<j)(hj:j<n)(h:(bs.getD j 0).testBit i=false):(i,j)∈unordered bs n:=by
 rw[unordered,mem_flatMap];exact⟨j,by simp[hj],by rw[mem_map];exact⟨i,by simp only[mem_filter,mem_range];exact⟨C,by rw[h];rfl⟩,rfl⟩⟩
variable{us:List (Nat×Option Row)}
def Fg:∀ {m:Mem} {i:Nat},i∉us.map (·.1)->dx m us i=m i:=by
 induction us with
 |nil=>intro m i _;rfl
 |cons u us ih=>
  intro m i h;let⟨j,r⟩:=u;simp only[map_cons,mem_cons,not_or] at h;simp only[dx];rw[ih h.2,aV _ _ h.1]
def PV:∀ {m m':Mem} {i:Nat},(i∈us.map (·.1)\/m i=m' i)->dx m us i=dx m' us i:=by
 induction us with
 |nil=>intro m m' i h;simpa[dx] using h
 |cons u us ih=>
  intro m m' i h;let⟨j,r⟩:=u;simp[dx];apply ih;by_cases hj:i=j
  .right;subst hj;rw[aw,aw]
  .rcases h with h|h
   .left;simp only[map_cons,mem_cons] at h;exact h.resolve_left hj
   .right;rw[aV _ _ hj,aV _ _ hj,h]
def aiH{a b:List (Nat×Option Row)}(m:Mem)(h:∀ i∈a.map (·.1),i∉b.map (·.1)):dx (dx m a) b=dx (dx m b) a:=by
 funext i;by_cases ha:i∈a.map (·.1)
 .rw[Fg (h i ha)];exact PV (.inl ha)
 .rw[Fg (m:=dx m b) ha];exact PV (.inr (Fg ha))
def uq(env:Env)(d:Option Nat)(v:D):Env:=match d with
 |some t=>up env t v
 |none=>env
variable{d:Option Nat}{v:D}{t:Nat}
def H3{env:Env}(h:d≠some t):uq env d v t=env t:=by
 cases d with
 |none=>rfl
 |some u=>exact aV _ _ λe=>h (by rw[e])
def Qw{env env':Env}(h:d=some t\/env t=env' t):uq env d v t=uq env' d v t:=by
 cases d with
 |none=>simpa[uq] using h
 |some u=>
  by_cases hu:t=u
  .subst hu;simp[uq,aw]
  .simp[uq,aV _ _ hu];rcases h with h|h
   .simp[bg] at h;exact absurd h.symm hu
   .exact h
def aiI(env:Env){d':Option Nat}(v C:D)(h:∀ t,d=some t->d'≠some t):uq (uq env d v) d' C=uq (uq env d' C) d v:=by
 funext t;by_cases hd:d=some t
 .rw[H3 (h t hd)];exact Qw (.inl hd)
 .rw[H3 (env:=uq env d' C) hd];exact Qw (.inr (H3 hd))
def AM(st:St)(o:Oper)(p:cy):St:=St.put ⟨st.env,dx st.mem p.bF,st.nx+p.new⟩ o.dst p.val
def Rt(st:St)(o:Oper)(p:cy):(AM st o p).env=uq st.env o.dst p.val:=by rw[AM,ahs];rfl
def LN(st:St)(o:Oper)(p:cy):(AM st o p).mem=dx st.mem p.bF:=Xo _ _ _
def Bw(st:St)(o:Oper)(p:cy):(AM st o p).nx=st.nx+p.new:=E0 _ _ _
section
variable(oo:Nat->Oper)(pp:Nat->cy)(st₀:St)
def iC(S:Nat->Bool):Nat->St
 |0=>st₀
 |k+1=>if S k then AM (iC S k) (oo k) (pp k) else iC S k
def gO:Nat->St:=iC oo pp st₀ λ_=>true
def wG(k:Nat):gO oo pp st₀ (k+1)=AM (gO oo pp st₀ k) (oo k) (pp k):=rfl
def abg(k:Nat):∀ n,k<=n->iC oo pp st₀ (λj=>decide (j<k)) n=gO oo pp st₀ k:=by
 have below:∀ n,n<=k->iC oo pp st₀ (λj=>decide (j<k)) n=gO oo pp st₀ n:=by
  intro n
  induction n with
  |zero=>intro _;rfl
  |succ n ih=>
   intro h;have hd:decide (n<k)=true:=by simp;omega
   rw[wG, <- ih oG];simp[iC,hd,if_true]
 intro n h
 induction n with
 |zero=>
  have:k=0:=by omega
  subst this;rfl
 |succ n ih=>
  rcases Nat.lt_or_ge n k with ao|C
  .have:k=n+1:=by omega
   subst this;exact below (n+1) (bY _)
  .have hd:decide (n<k)=false:=s0 C
   simp[iC,hd,Bool.false_eq_true,if_false];exact ih C
def am7{S T:Nat->Bool}:∀ n,(∀ j,j<n->S j≠T j->(oo j).dst≠some t)->(iC oo pp st₀ S n).env t=(iC oo pp st₀ T n).env t:=by
 intro n
 induction n with
 |zero=>intro _;rfl
 |succ n ih=>
  intro h;have h1:=ih λj hj=>h j oG;have h2:=h n oG;simp[iC];cases C:S n<;>cases J:T n<;>simp[Bool.false_eq_true,if_false,if_true,Rt]
  .exact h1
  .rw[H3 (h2 (by simp[C,J]))];exact h1
  .rw[H3 (h2 (by simp[C,J]))];exact h1
  .exact Qw (.inr h1)
def am8{S T:Nat->Bool}{i:Nat}:∀ n,(∀ j,j<n->S j≠T j->i∉(pp j).wr)->(iC oo pp st₀ S n).mem i=(iC oo pp st₀ T n).mem i:=by
 intro n
 induction n with
 |zero=>intro _;rfl
 |succ n ih=>
  intro h;have h1:=ih λj hj=>h j oG;have h2:=h n oG;simp[iC];cases C:S n<;>cases J:T n<;>simp[Bool.false_eq_true,if_false,if_true,LN]
  .exact h1
  .rw[Fg (h2 (by simp[C,J]))];exact h1
  .rw[Fg (h2 (by simp[C,J]))];exact h1
  .exact PV (.inr h1)
def QN{S T:Nat->Bool}:∀ n,(∀ j,j<n->S j=T j)->iC oo pp st₀ S n=iC oo pp st₀ T n:=by
 intro n
 induction n with
 |zero=>intro _;rfl
 |succ n ih=>
  intro h;simp[iC,ih λj hj=>h j oG,h n oG]
def am9{S:Nat->Bool}{k:Nat}(hk:S k=false):∀ n,k<n->(∀ j,k<j->j<n->S j=true->(∀ t,(oo k).dst=some t->(oo j).dst≠some t)/\∀ i∈(pp k).wr,i∉(pp j).wr)->
 (iC oo pp st₀ (λj=>if j=k then true else S j) n).env=uq (iC oo pp st₀ S n).env (oo k).dst (pp k).val/\
 (iC oo pp st₀ (λj=>if j=k then true else S j) n).mem=dx (iC oo pp st₀ S n).mem (pp k).bF:=by
 intro n
 induction n with
 |zero=>intro h;omega
 |succ n ih=>
  intro lQ h;rcases Nat.lt_or_ge k n with ao|X
  .let⟨h1,h2⟩:=ih ao λj hj l9=>h j hj oG;have C:n≠k:=by omega
   simp only[iC,ai C];cases U:S n with
   |false=>simp only[Bool.false_eq_true,if_false];exact⟨h1,h2⟩
   |true=>
    let⟨J,M⟩:=h n ao oG U;simp only[if_true,Rt,LN,h1,h2];exact⟨aiI _ _ _ J,aiH _ M⟩
  .have:n=k:=by omega
   subst this;have e:iC oo pp st₀ (λj=>if j=n then true else S j) n=iC oo pp st₀ S n:=QN oo pp st₀ n λj hj=>by simp only[ai (show j≠n by omega)]
   simp only[iC,if_true,hk,Bool.false_eq_true,if_false,Rt,LN,e];exact⟨aa,aa⟩
def tL{j k:Nat}(h:j<=k):(gO oo pp st₀ j).nx<=(gO oo pp st₀ k).nx:=by
 induction k with
 |zero=>have:j=0:=by omega
        subst this;exact bY _
 |succ k ih=>
  rcases Nat.lt_or_ge j (k+1) with ao|C
  .rw[wG,Bw];have:=ih oG;omega
  .have:j=k+1:=by omega
   subst this;exact bY _
end
end
section
variable{Y:iu}{st:St}{r:Option Nat}{n:Nat}{β:aZ}{w:World}{a:Act}
section
variable{P:Program}{ops:Array Oper}{cf:List (Nat×Nat)}{Q:Exit->St->Prop}
def Ii(P:Program)(ops:Array Oper)(cf:List (Nat×Nat))(Q:Exit->St->Prop):List Oper->List cy->St->pk->Prop
 |[],[],st,tr=>(∀ q∈cf,sM tr q.1 q.2)/\Q .normal st
 |o::os,p::ps,st,tr=>p.Ok P ops o st/\p.qM (dv o.op) st/\Ii P ops cf Q os ps (AM st o p) (tr++[(p.rd,p.wr)])
 |_,_,_,_=>False
def PX:∀ (os:List Oper) (st:St) (tr:pk),aE P Y ops true cf Q os st tr->∃ ps,Ii P ops cf Q os ps st tr
 |[],st,tr,h=>⟨[],h⟩
 |o::os,st,tr,h=>by
  simp[aE] at h;rcases Qg h with⟨p,h1,h2,C⟩|⟨h1,_⟩|⟨h1,_⟩
  .let⟨ps,J⟩:=PX os _ _ C;exact⟨p::ps,h1,h2,J⟩
  .cases h1
  .cases h1
instance:Inhabited cy:=⟨⟨.u,[],[],0⟩⟩
def HL(oo:Nat->Oper)(pp:Nat->cy)(st₀:St):∀ (os:List Oper) (ps:List cy) (k:Nat) (tr:pk),(∀ j o,os[j]? =some o->oo (k+j)=o)->(∀ j p,ps[j]? =some p->pp (k+j)=p)->tr.length=k->
 (∀ j,j<k->tr.getD j ([],[])=((pp j).rd,(pp j).wr))->Ii P ops cf Q os ps (gO oo pp st₀ k) tr->
 (∀ j,k<=j->j<k+os.length->(pp j).Ok P ops (oo j) (gO oo pp st₀ j)/\(pp j).qM (dv (oo j).op) (gO oo pp st₀ j))/\Q .normal (gO oo pp st₀ (k+os.length))/\
 ∃ C:pk,(∀ j,j<k+os.length->C.getD j ([],[])=((pp j).rd,(pp j).wr))/\∀ q∈cf,sM C q.1 q.2
 |[],[],k,tr,ho,hp,hl,ht,h=>⟨λj h1 h2=>absurd h2 oP,h.2,tr,ht,h.1⟩
 |[],_::_,_,_,_,_,_,_,h=>h.elim
 |_::_,[],_,_,_,_,_,_,h=>h.elim
 |o::os,p::ps,k,tr,ho,hp,hl,ht,h=>by
  have M:oo k=o:=ho 0 o rfl;have e2:pp k=p:=hp 0 p rfl;let⟨h1,h2,h3⟩:=h;have J:Ii P ops cf Q os ps (gO oo pp st₀ (k+1)) (tr++[(p.rd,p.wr)]):=by rw[wG,M,e2];exact h3
  let⟨a1,a2,C,a3,a4⟩:=HL oo pp st₀ os ps (k+1) _ (λj x hj=>by have:=ho (j+1) x (s0 hj);rw[<- this];congr 1;omega)
   (λj x hj=>by have:=hp (j+1) x (s0 hj);rw[<- this];congr 1;omega) (by simp[hl])
   (λj hj=>by
    rcases Nat.lt_or_ge j k with ao|X
    .rw[<- ht j ao];simp[getElem?_append_left (show j<tr.length by omega)]
    .have:j=k:=by omega
     subst this;simp[<- hl,getElem?_append_right,e2]
     rw[hl,e2];exact⟨rfl,rfl⟩) J
  have e3:k+(o::os).length=k+1+os.length:=by simp;omega
  rw[e3];refine⟨λj hj U=>?_,a2,C,a3,a4⟩;rcases Nat.lt_or_ge k j with ao|X
  .exact a1 j ao U
  .have:j=k:=by omega
   subst this;rw[M,e2];exact⟨h1,h2⟩
def MJ(P:Program)(F:Nat->Prop)(ops:Array Oper)(Q:Exit->St->Prop)(N₀:Nat)(β₀:aZ)(w₀:World)(a₀:Act)(r:Option Nat)(n:Nat)(o:Oper)(st:St):Prop:=
 ∀ (β:aZ) (w:World) (a:Act),dt P F st β w a->fW N₀ β₀ w₀ a₀ st β w a->∀ K:Act->World->Prop,(∀ a' w',fq P F N₀ β₀ w₀ a₀ Q .normal a' w'->K a' w')->o5 r n P ops (fq P F N₀ β₀ w₀ a₀ Q) o K a w
def agx(h:ct ops=some cf):(∀ (i:Nat) (o:Oper),ops[i]? =some o->∀ e∈o.after,Region.binds .any e=true->e.on<i)/\
 (∀ q∈unordered (lh ops.toList []) ops.size,Qf ops q.1 q.2=true)/\(∀ q∈unordered (lh ops.toList []) ops.size,LM ops q.1 q.2=true->q∈cf):=by
 unfold ct at h;simp only at h;split at h
 .rename_i hc;simp only[aJ] at hc;cases h;refine⟨λi o hi e he hb=>?_,λq hq=>bK.1 hc.2 q hq,λq hq hm=>by rw[mem_filter];exact⟨hq,hm⟩⟩
  have h1:=bK.1 hc.1 (o,i) (by
   rw[mem_zipIdx_iff_getElem?]
   simpa using hi)
  have h2:=bK.1 h1 e (s0 he);simpa[hb] using h2
 .cases h
variable{F:Nat->Prop}{N₀:Nat}{β₀:aZ}{w₀:World}{a₀:Act}
structure DS(P:Program)(F:Nat->Prop)(oo:Nat->Oper)(pp:Nat->cy)(st₀:St)(n:Nat)(N₀:Nat)(β₀:aZ)(w₀:World)(a₀:Act)(S:Nat->Bool)(β:aZ)(w:World)(a:Act):Prop where
 e:jd F β w (iC oo pp st₀ S n).env a
 m:bc P F (iC oo pp st₀ S n).mem β w
 free:∀ i,st₀.nx<=i->(∀ k,k<n->S k=true->¬ ((gO oo pp st₀ k).nx<=i/\i<(gO oo pp st₀ k).nx+(pp k).new))->β i=none
 step:Step β₀ w₀ β w
 grow:∀ i,i<N₀->β₀ i=none->β i=none
 size:a.tmps.size=a₀.tmps.size
 defers:a.defers=a₀.defers
def akR{oo:Nat->Oper}{pp:Nat->cy}{st₀:St}(hi:ct ops=some cf)(JY:∀ j o,ops[j]? =some o->oo j=o)(ao:tZ a₀.tmps.size ops=true)
 (nl:Nat) (iL:nl<=ops.size) (cu:∀ j,j<nl->(pp j).Ok P ops (oo j) (gO oo pp st₀ j)/\(pp j).qM (dv (oo j).op) (gO oo pp st₀ j)) (hQ:nl=ops.size->Q .normal (gO oo pp st₀ ops.size))
 (hL:nl<ops.size->nl+1=ops.size/\(∀ i,i<nl->((lh ops.toList []).getD nl 0).testBit i=true)/\∀ r n,MJ P F ops Q N₀ β₀ w₀ a₀ r n (oo nl) (gO oo pp st₀ nl))
 (bE:∃ tm:pk,(∀ j,j<nl->tm.getD j ([],[])=((pp j).rd,(pp j).wr))/\∀ q∈cf,sM tm q.1 q.2)
 (mN:∀ i,st₀.nx<=i->st₀.mem i=none) (hN:N₀<=st₀.nx) (r:Option Nat) (n:Nat):
 ∀ (eY:Nat) (listed:Array Bool) (β:aZ) (w:World) (a:Act),listed.size=ops.size->listed.toList.countP (λb=> !b)<=eY->(nl<ops.size->listed.getD nl false=false)->
  (∀ j,listed.getD j false=true->∀ o,ops[j]? =some o->∀ e∈o.after,Region.binds .any e=true->listed.getD e.on false=true)->
  DS P F oo pp st₀ ops.size N₀ β₀ w₀ a₀ (λj=>listed.getD j false) β w a->
  wpAnyIn (Fe r) n P .any ops (fq P F N₀ β₀ w₀ a₀ Q) eY listed a w:=by
 let⟨JZ,hta,ns⟩:=agx hi;let⟨tm,adC,atP⟩:=bE
 have hmT:∀ k,k<=nl->∀ i,(gO oo pp st₀ k).nx<=i->(gO oo pp st₀ k).mem i=none:=by
  intro k
  induction k with
  |zero=>intro _ i hi;exact mN i hi
  |succ k ih=>
   intro hk i hi;rw[wG,Bw] at hi;rw[wG,LN];have h1:=(cu k oG).2.wr;rw[Fg,ih oG i oG];intro lJ;rcases h1 i lJ with h2|h2
   .exact h2 (ih oG i oG)
   .omega
 have nS:∀ i j,i<j->j<ops.size->((lh ops.toList []).getD j 0).testBit i=false->
  (∀ x∈(pp i).wr,x∉(pp j).wr)/\(∀ x∈(pp i).wr,x∈(pp j).rd->(gO oo pp st₀ j).mem x=none)/\(∀ x∈(pp j).wr,x∈(pp i).rd->(gO oo pp st₀ i).mem x=none):=by
  intro i j ma hj hb;have hu:=WL ma hj hb
  have l9:j<nl:=by
   rcases Nat.lt_or_ge j nl with h|h
   .exact h
   .let⟨q1,q2,_⟩:=hL oG;have:j=nl:=by omega
    subst this;rw[q2 i ma] at hb;cases hb
  have Eg:ops[i]? =some (oo i):=by
   have:i<ops.size:=by omega
   rw[JY i ops[i] (by simp[this])];simp[this]
  have AN:ops[j]? =some (oo j):=by
   rw[JY j ops[j] (by simp[hj])];simp[hj]
  let⟨ti,t0i,t1i,t3i⟩:=(cu i oG).2;let⟨tj,t0j,t1j,t3j⟩:=(cu j l9).2;by_cases iB:LM ops i j=true
  .have h1:=atP _ (ns _ hu iB);unfold sM at h1;simp only[adC i oG,adC j l9] at h1;exact⟨λx hx=>(h1.1 x hx).2,λx hx hr=>absurd hr (h1.1 x hx).1,λx hx hr=>absurd hr (h1.2 x hx)⟩
  .simp only[LM,Eg,AN,aJ,Bool.or_eq_true,beq_iff_eq,bne_iff_ne,Bool.not_eq_true',ne_eq] at iB
   have hk:∀ o:Oper,dv o.op=0\/dv o.op=1\/dv o.op=2\/dv o.op=3:=λo=>by
    unfold dv;split<;>simp
   have nil:∀ p:cy,p.bF=[]->∀ x,x∉p.wr:=λp hp x hx=>by simp[cy.wr,hp] at hx
   rcases hk (oo j) with X|X|X|X
   .have:=t0j X;exact⟨λx _=>nil _ this.2 x,λx _ hr=>(by rw[this.1] at hr;cases hr),λx hx=>absurd hx (nil _ this.2 x)⟩
   .by_cases k0:dv (oo i).op=0
    .have:=t0i k0;exact⟨λx hx=>absurd hx (nil _ this.2 x),λx hx=>absurd hx (nil _ this.2 x),λx _ hr=>by rw[this.1] at hr;cases hr⟩
    .have k1:dv (oo i).op=1:=by
      rcases hk (oo i) with h|h|h|h
      .exact absurd h k0
      .exact h
      .exact absurd ⟨⟨.inl X,oG⟩,by simp[h]⟩ iB
      .exact absurd ⟨⟨.inl X,oG⟩,by simp[h]⟩ iB
     exact⟨λx hx=>absurd hx (nil _ (t1i k1) x),λx hx=>absurd hx (nil _ (t1i k1) x),λx hx=>absurd hx (nil _ (t1j X) x)⟩
   .by_cases k0:dv (oo i).op=0
    .have:=t0i k0;exact⟨λx hx=>absurd hx (nil _ this.2 x),λx hx=>absurd hx (nil _ this.2 x),λx _ hr=>by rw[this.1] at hr;cases hr⟩
    .exact absurd ⟨⟨.inr X,oG⟩,by simp[X]⟩ iB
   .have dA:=tL oo pp st₀ (show i+1<=j by omega);rw[wG,Bw] at dA;let⟨h1,h2⟩:=t3j X
    have U3:∀ x∈(pp i).wr,x<(gO oo pp st₀ j).nx:=λx hx=>by
     rcases ti x hx with h|h
     .rcases Nat.lt_or_ge x (gO oo pp st₀ i).nx with h'|h'
      .omega
      .exact absurd (hmT i oG x h') h
     .omega
    refine⟨λx hx hxj=>?_,λx _ hr=>(by rw[h1] at hr;cases hr),λx hx _=>hmT i oG x ?_⟩
    .have:=U3 x hx;have:=h2 x hxj;omega
    .have:=h2 x hx;omega
 have TW:∀ i j,i<j->j<ops.size->((lh ops.toList []).getD j 0).testBit i=false->(oo i).apart ops (oo j)=true:=by
  intro i j ma hj hb;have h1:=hta _ (WL ma hj hb)
  have Eg:ops[i]? =some (oo i):=by
   have:i<ops.size:=by omega
   rw[JY i ops[i] (by simp[this])];simp[this]
  have AN:ops[j]? =some (oo j):=by
   rw[JY j ops[j] (by simp[hj])];simp[hj]
  simpa[Qf,Eg,AN] using h1
 have pd:∀ listed:Array Bool,listed.size=ops.size->Region.ready .any ops listed=[]->∀ k,k<ops.size->listed.getD k false=true:=by
  intro listed cC hr k
  induction k using Nat.strongRecOn with
  |_ k ih=>
   intro hk;cases hl:listed.getD k false with
   |true=>rfl
   |false=>
    exfalso
    have:k∈Region.ready .any ops listed:=by
     rw[mem_ready];refine⟨?_,ops[k],by simp[hk],λe he hb=>?_⟩
     .have mO:k<listed.size:=by omega
      simpa[mO] using hl
     .have h1:=JZ k ops[k] (by simp[hk]) e he hb;exact ih e.on h1 oG
    rw[hr] at this;cases this
 have done:∀ (listed:Array Bool) (β:aZ) (w:World) (a:Act),listed.size=ops.size->(nl<ops.size->listed.getD nl false=false)->DS P F oo pp st₀ ops.size N₀ β₀ w₀ a₀ (λj=>listed.getD j false) β w a->Region.ready .any ops listed=[]->
  fq P F N₀ β₀ w₀ a₀ Q .normal a w:=by
  intro listed β w a cC gu C hr
  have Cl:nl=ops.size:=by
   rcases Nat.lt_or_ge nl ops.size with h|h
   .have h1:=gu h;rw[pd listed cC hr nl h] at h1;cases h1
   .omega
  have hQ:=hQ Cl;have e:iC oo pp st₀ (λj=>listed.getD j false) ops.size=gO oo pp st₀ ops.size:=QN oo pp st₀ _ λj hj=>pd listed cC hr j hj;have h1:=C.e;have h2:=C.m;rw[e] at h1 h2;refine⟨gO oo pp st₀ ops.size,β,hQ,⟨h1,h2,λi hi=>C.free i ?_ λk hk _ h=>?_⟩,⟨C.step,?_,C.grow,C.size,C.defers⟩⟩
  .exact Nat.le_trans (tL oo pp st₀ (Nat.zero_le _)) hi
  .have:=tL oo pp st₀ (show k+1<=ops.size by omega);rw[wG,Bw] at this;omega
  .exact Nat.le_trans hN (tL oo pp st₀ (Nat.zero_le _))
 intro eY
 induction eY with
 |zero=>
  intro listed β w a cC hc gu dB C
  have hr:Region.ready .any ops listed=[]:=by
   cases rY:Region.ready .any ops listed with
   |nil=>rfl
   |cons x xs=>
    exfalso;have hx:x∈Region.ready .any ops listed:=by rw[rY];simp
    rw[mem_ready] at hx;let⟨h1,o,J,_⟩:=hx;have xK:x<ops.size:=(Array.getElem?_eq_some_iff.1 J).1;have AH:x<listed.size:=by omega
    have:listed[x]=false:=by simpa[AH] using h1
    have h2:0<listed.toList.countP (λb=> !b):=countP_pos_iff.2 ⟨listed[x],oS,by simp[this]⟩;omega
  exact⟨hr,done listed β w a cC gu C hr⟩
 |succ eY ih=>
  intro listed β w a cC hc gu dB C;refine⟨done listed β w a cC gu C,λk hk=>?_⟩;rw[mem_ready] at hk;let⟨Eh,o,J,Jp⟩:=hk;have lQ:k<ops.size:=(Array.getElem?_eq_some_iff.1 J).1;have iD:k<listed.size:=by omega
  have U4:listed[k]=false:=by simpa[iD] using Eh
  have G':listed.getD k false=false:=by simp[iD,U4]
  have eo:oo k=o:=JY k o J;by_cases NI:k=nl
  ·
    subst NI;let⟨q1,q2,q3⟩:=hL lQ
    have bd:∀ j,j<k->listed.getD j false=true:=by
     intro j hj;have hb:=q2 j hj;have h1:=Lm ops.toList [] k o (s0 J);simp only[length_nil,Nat.zero_add] at h1;rw[h1] at hb;rcases K4 _ j _ 0 hb with h2|⟨e,he,po,h2⟩
     .simp at h2
     .have AL:=Jp e (s0 he) po;rcases h2 with rfl|h2
      .exact AL
      .have ao:=JZ k o J e (s0 he) po;have M:((lh ops.toList []).getD e.on 0).testBit j=true:=by simpa[getElem?_take,ao] using h2
       exact PU (S:=λj=>listed.getD j false) dB j e.on AL M
    have J0:iC oo pp st₀ (λj=>listed.getD j false) ops.size=gO oo pp st₀ k:=by
     rw[<- abg oo pp st₀ k ops.size oG];refine QN oo pp st₀ _ λj hj=>?_;rcases Nat.lt_or_ge j k with h|h
     .simp[bd j h,h]
     .have:j=k:=by omega
      subst this;simp[G']
    apply KN J;rw[<- eo];have h1:=C.e;have h2:=C.m;rw[J0] at h1 h2;refine q3 r n β w a ⟨h1,h2,λi hi=>C.free i ?_ λj hj hS h=>?_⟩ ⟨C.step,?_,C.grow,C.size,C.defers⟩ _ λa' w' hp=>?_
    .exact Nat.le_trans (tL oo pp st₀ (Nat.zero_le _)) hi
    .rcases Nat.lt_or_ge j k with ao|bt
     .have:=tL oo pp st₀ (show j+1<=k by omega);rw[wG,Bw] at this;omega
     .have:j=k:=by omega
      subst this;simp only[G'] at hS;cases hS
    .exact Nat.le_trans hN (tL oo pp st₀ (Nat.zero_le _))
    .have hr:Region.ready .any ops (listed.setIfInBounds k true)=[]:=by
      cases rY:Region.ready .any ops (listed.setIfInBounds k true) with
      |nil=>rfl
      |cons x xs=>
       exfalso;have hx:x∈Region.ready .any ops (listed.setIfInBounds k true):=by rw[rY];simp
       rw[mem_ready] at hx;let⟨g1,o',J1,_⟩:=hx;have xK:x<ops.size:=(Array.getElem?_eq_some_iff.1 J1).1;by_cases hxk:x=k
       .subst hxk;simp[iD] at g1
       .have M:=bd x oG;rw[getD_set_ne true (Ne.symm hxk)] at g1;have xL:x<listed.size:=by omega
        simp[xL] at g1 M;rw[g1] at M;cases M
     cases eY with
     |zero=>exact⟨hr,hp⟩
     |succ eY=>exact⟨λ_=>hp,λi hi=>by rw[hr] at hi;cases hi⟩
  have hkm:k<nl:=by
   rcases Nat.lt_or_ge k nl with h|h
   .exact h
   .have:=(hL oG).1;omega
  let⟨On,azv⟩:=cu k hkm
  have adD:∀ j,j<k->listed.getD j false=false->((lh ops.toList []).getD k 0).testBit j=false:=by
   intro j J2 hj;cases hb:((lh ops.toList []).getD k 0).testBit j with
   |false=>rfl
   |true=>
    exfalso;have h1:=Lm ops.toList [] k o (s0 J);simp only[length_nil,Nat.zero_add] at h1;rw[h1] at hb;rcases K4 _ j _ 0 hb with h2|⟨e,he,po,h2⟩
    .simp at h2
    .have AL:=Jp e (s0 he) po;rcases h2 with rfl|h2
     .rw[hj] at AL;cases AL
     .have ao:=JZ k o J e (s0 he) po;have M:((lh ops.toList []).getD e.on 0).testBit j=true:=by simpa[getElem?_take,ao] using h2
      have:=PU (S:=λj=>listed.getD j false) dB j e.on AL M;rw[hj] at this;cases this
  have NJ:∀ j,k<j->listed.getD j false=true->((lh ops.toList []).getD j 0).testBit k=false:=by
   intro j jQ hj;cases hb:((lh ops.toList []).getD j 0).testBit k with
   |false=>rfl
   |true=>
    exfalso;have:=PU (S:=λj=>listed.getD j false) dB k j hj hb;rw[G'] at this;cases this
  have acg:∀ j,j<ops.size->listed.getD j false≠decide (j<k)->(j<k/\listed.getD j false=false)\/(k<j/\listed.getD j false=true):=by
   intro j hj U;rcases Nat.lt_trichotomy j k with h|h|h
   .left;refine⟨h,?_⟩;simpa[h] using U
   .subst h;simp[G'] at U
   .right;refine⟨h,?_⟩;have:¬ j<k:=by omega
    simpa[this] using U
  have J0:=abg oo pp st₀ k ops.size oG;apply KN J;rw[<- eo];refine On F β w a (iC oo pp st₀ (λj=>listed.getD j false) ops.size).mem (iC oo pp st₀ (λj=>listed.getD j false) ops.size).env (gO oo pp st₀ ops.size).nx ?_ C.e C.m ?_ ?_ ?_ r n _ _ ?_
  .intro t ht;rw[<- J0];refine am7 oo pp st₀ _ λj hj U=>?_;rcases acg j hj U with⟨h1,h2⟩|⟨h1,h2⟩
   .have:=(Oper.apart_spec (TW j k h1 lQ (adD j h1 h2))).1;exact λhd=>this t hd ht
   .have:=(Oper.apart_spec (TW k j h1 hj (NJ j h1 h2))).2.2;exact λhd=>this t hd ht
  .intro i hi U;rw[<- J0] at U ⊢;refine am8 oo pp st₀ _ λj hj TX hw=>?_;rw[J0] at U;rcases acg j hj TX with⟨h1,h2⟩|⟨h1,h2⟩
   .exact U ((nS j k h1 lQ (adD j h1 h2)).2.1 i hw hi)
   .exact U ((nS k j h1 hj (NJ j h1 h2)).2.2 i hw hi)
  .intro i h1 h2;refine C.free i (Nat.le_trans (tL oo pp st₀ (Nat.zero_le _)) h1) λj hj hS M=>?_;rcases Nat.lt_trichotomy j k with h|h|h
   .have:=tL oo pp st₀ (show j+1<=k by omega);rw[wG,Bw] at this;omega
   .subst h;simp only[G'] at hS;cases hS
   .have:=tL oo pp st₀ (show k+1<=j by omega);rw[wG,Bw] at this;omega
  .intro i hi;refine C.free i (Nat.le_trans (tL oo pp st₀ (Nat.zero_le _)) hi) λj hj _ M=>?_;have:=tL oo pp st₀ (show j+1<=ops.size by omega);rw[wG,Bw] at this;omega
  .intro v w' β' g1 g2 g3 g4
   have hS':(λj=>(listed.setIfInBounds k true).getD j false)=(λj=>if j=k then true else listed.getD j false):=by
    funext j;by_cases hj:j=k
    .subst hj;simp[iD]
    .rw[ai hj,getD_set_ne false (Ne.symm hj)]
   let⟨ae,am⟩:=am9 oo pp st₀ (S:=λj=>listed.getD j false) (k:=k) G' ops.size lQ λj jQ hj Oo=>
    ⟨(Oper.apart_spec (TW k j jQ hj (NJ j jQ Oo))).2.1,(nS k j jQ hj (NJ j jQ Oo)).1⟩
   refine ih _ β' w' _ (s0 cC) ?_ (λh=>by rw[getD_set_ne false (λe=>NI e)];exact gu h) ?_ ?_
   .have:(listed.setIfInBounds k true).toList=listed.toList.set k true:=by simp
    rw[this,countP_set (s0 iD)];have h2:0<listed.toList.countP (λb=> !b):=countP_pos_iff.2 ⟨listed[k],oS,by simp[U4]⟩;have M:listed.toList[k]'(s0 iD)=false:=s0 U4
    rw[M];simp only[Bool.not_false,if_true,Bool.not_true,Bool.false_eq_true,if_false];omega
   .intro j hj o' J1 e he hb;by_cases J2:j=k
    .subst J2;rw[J] at J1;cases J1;exact getD_set_true (Jp e he hb)
    .rw[getD_set_ne false (Ne.symm J2)] at hj;exact getD_set_true (dB j hj o' J1 e he hb)
   .rw[hS'];refine⟨?_,by rw[am];exact g2,λi hi hn=>?_,C.step.trans g3,λi hi hn=>?_,by rw[H4];exact C.size,by rw[put_defers];exact C.defers⟩
    .rw[ae];have hd:∀ t,(oo k).dst=some t->t<a.tmps.size:=λt ht=>by rw[C.size];rw[eo] at ht;exact HM ao J t ht
     have he:=C.e.step g3;cases ou:(oo k).dst with
     |none=>exact he
     |some t=>exact he.put (some t) _ _ g1 (λu hu=>hd u (by rw[ou];exact hu))
    .have h1:=hn k lQ oS;have h2:=C.free i hi λj hj Oo=>hn j hj (by by_cases J2:j=k<;>simp[J2,Oo]);exact g4 i h2 oG
    .exact g4 i (C.grow i hi hn) (.inl (Nat.lt_of_lt_of_le (Nat.lt_of_lt_of_le hi hN) (tL oo pp st₀ (Nat.zero_le _))))
def am'{o:Oper}{i:Nat}(ho:ops[i]? =some o)(ao:tZ a₀.tmps.size ops=true)(h:aE P iV ops false [] Q [o] st []):MJ P F ops Q N₀ β₀ w₀ a₀ r n o st:=by
 intro β w a hs J K hK;have hd:∀ t,o.dst=some t->t<a.tmps.size:=λt ht=>by rw[J.size];exact HM ao ho t ht
 simp only[aE] at h;rcases Qg h with⟨p,h1,_,C⟩|⟨_,f,args,h1,h2,C,U⟩|⟨_,l,args,h1,h2,C,U⟩
 .exact K5 h1 hs hd r n _ λβ' a' w' M X=>hK _ _ ⟨_,β',C.2,M,J.trans X⟩
 .exact Xp h1 h2 C U hs hd r n _ λd m' nx' β' a' w' hp M X=>hK _ _ ⟨_,β',hp.2,M,J.trans X⟩
 .exact U.elim
def Xq(h:Dw ops=true):0<ops.size/\∀ i,i<ops.size - 1->((lh ops.toList []).getD (ops.size - 1) 0).testBit i=true:=by
 unfold Dw at h;simp[aJ,bK,mem_range] at h;exact⟨s0 h.1,h.2⟩
def Qh{id nl:Nat}{ps:List cy}(oq:P.follows .mixedOrders=true)(hi:ct ops=some cf)(ao:tZ a₀.tmps.size ops=true)(iL:nl<=ops.size)
 (cu:∀ j,j<nl->(ps.getD j default).Ok P ops (ops.toList.getD j default) (gO (λj=>ops.toList.getD j default) (λj=>ps.getD j default) st j)/\(ps.getD j default).qM (dv (ops.toList.getD j default).op) (gO (λj=>ops.toList.getD j default) (λj=>ps.getD j default) st j))
 (hQ:nl=ops.size->Q .normal (gO (λj=>ops.toList.getD j default) (λj=>ps.getD j default) st ops.size))
 (hL:nl<ops.size->nl+1=ops.size/\(∀ i,i<nl->((lh ops.toList []).getD nl 0).testBit i=true)/\∀ r n,MJ P F ops Q N₀ β₀ w₀ a₀ r n (ops.toList.getD nl default) (gO (λj=>ops.toList.getD j default) (λj=>ps.getD j default) st nl))
 (X:∃ U:pk,(∀ j,j<nl->U.getD j ([],[])=((ps.getD j default).rd,(ps.getD j default).wr))/\∀ q∈cf,sM U q.1 q.2)
 (hs:dt P F st β w a) (C:fW N₀ β₀ w₀ a₀ st β w a):(Code.region id ops true).wpIn (Fe r) n P (fq P F N₀ β₀ w₀ a₀ Q) a w:=by
 apply wpIn_region_any oq
 have J:iC (λj=>ops.toList.getD j default) (λj=>ps.getD j default) st (λj=>(Array.replicate ops.size false).getD j false) ops.size=st:=by
  have:∀ n,iC (λj=>ops.toList.getD j default) (λj=>ps.getD j default) st (λj=>(Array.replicate ops.size false).getD j false) n=st:=by
   intro n
   induction n with
   |zero=>rfl
   |succ n ih=>
    have:(Array.replicate ops.size false).getD n false=false:=by simp[Array.getD_eq_getD_getElem?,Array.getElem?_replicate];split<;>rfl
    simp only[iC,this,Bool.false_eq_true,if_false];exact ih
  exact this _
 have M:Step β w β { w with drawn:=w.drawn+1 }:=⟨bY _,λ_ _ h=>⟨rfl,h⟩,λ_ _ h=>.inl h,⟨rfl,rfl⟩,λ_ _ _ _=>sx rfl⟩
 refine akR (st₀:=st) (oo:=λj=>ops.toList.getD j default) (pp:=λj=>ps.getD j default) hi (λj o hj=>by simp[hj]) ao nl iL cu hQ hL X (λi hi=>?_) C.le r n ops.size _ β _ a oS ?_ (λh=>?_) ?_ ?_
 .cases hm:st.mem i with
  |none=>rfl
  |some row=>
   let⟨p,hp,_⟩:=hs.m.row i row hm;rw[hs.n i hi] at hp;cases hp
 .simpa using countP_le_length (p:=λb=> !b) (l:=(Array.replicate ops.size false).toList)
 .simp[Array.getD_eq_getD_getElem?,Array.getElem?_replicate];split<;>rfl
 .intro j hj;exfalso;have:(Array.replicate ops.size false).getD j false=false:=by simp[Array.getD_eq_getD_getElem?,Array.getElem?_replicate];split<;>rfl
  rw[this] at hj;cases hj
 .refine⟨?_,?_,λi hi _=>hs.n i hi,C.step.trans M,C.grow,C.size,C.defers⟩
  .rw[J];exact hs.e.step M
  .rw[J];exact hs.m.ext (bY _) λ_ _=>rfl
def agY{id:Nat}(oq:P.follows .mixedOrders=true)(hi:ct ops=some cf)(ao:tZ a₀.tmps.size ops=true)
 (h:MI P Y ops cf Q st) (hs:dt P F st β w a) (cZ:fW N₀ β₀ w₀ a₀ st β w a):(Code.region id ops true).wpIn (Fe r) n P (fq P F N₀ β₀ w₀ a₀ Q) a w:=by
 obtain⟨ps,nl,iL,cu,hQ,hL,bE⟩:∃ (ps:List cy) (nl:Nat),nl<=ops.size/\
  (∀ j,j<nl->(ps.getD j default).Ok P ops (ops.toList.getD j default) (gO (λj=>ops.toList.getD j default) (λj=>ps.getD j default) st j)/\(ps.getD j default).qM (dv (ops.toList.getD j default).op) (gO (λj=>ops.toList.getD j default) (λj=>ps.getD j default) st j))/\
  (nl=ops.size->Q .normal (gO (λj=>ops.toList.getD j default) (λj=>ps.getD j default) st ops.size))/\
  (nl<ops.size->nl+1=ops.size/\(∀ i,i<nl->((lh ops.toList []).getD nl 0).testBit i=true)/\∀ r n,MJ P F ops Q N₀ β₀ w₀ a₀ r n (ops.toList.getD nl default) (gO (λj=>ops.toList.getD j default) (λj=>ps.getD j default) st nl))/\
  ∃ X:pk,(∀ j,j<nl->X.getD j ([],[])=((ps.getD j default).rd,(ps.getD j default).wr))/\∀ q∈cf,sM X q.1 q.2:=by
  rcases h with h|⟨hl,h⟩
  .let⟨ps,M⟩:=PX _ _ _ h;have C:=HL (λj=>ops.toList.getD j default) (λj=>ps.getD j default) st ops.toList ps 0 [] (λj o hj=>by simp at hj;simp[hj]) (λj p hj=>by simp[hj]) rfl oS M;simp only[Nat.zero_add,Array.length_toList] at C;let⟨h1,h2,J⟩:=C;exact⟨ps,ops.size,bY _,λj hj=>h1 j (Nat.zero_le _) hj,λ_=>h2,λh=>absurd h (Nat.lt_irrefl _),J⟩
  .let⟨hp,hb⟩:=Xq hl;let⟨ps,M⟩:=PX _ _ _ h;have hlen:(ops.toList.take (ops.size - 1)).length=ops.size - 1:=by simp
   have C:=HL (λj=>ops.toList.getD j default) (λj=>ps.getD j default) st (ops.toList.take (ops.size - 1)) ps 0 [] (λj o hj=>by
    have kx:j<ops.size - 1:=by rw[<- hlen];exact(bQ.1 hj).1
    rw[getElem?_take,bi kx] at hj
    simp at hj;simp[hj]) (λj p hj=>by simp[hj]) rfl oS M
   rw[hlen] at C;simp only[Nat.zero_add] at C;let⟨h1,h2,J⟩:=C;refine⟨ps,ops.size - 1,oG,λj hj=>h1 j (Nat.zero_le _) hj,λh=>by omega,λ_=>⟨oG,hb,λr n=>?_⟩,J⟩
   have hx:ops[ops.size - 1]? =some (ops.toList.getD (ops.size - 1) default):=by
    have ao:ops.size - 1<ops.size:=by omega
    simp[ao]
   apply am' hx ao;have U:=h2.2
   have hd:ops.toList.drop (ops.size - 1)=[ops.toList.getD (ops.size - 1) default]:=by
    have ao:ops.size - 1<ops.toList.length:=by simp;omega
    rw[drop_eq_getElem_cons ao,drop_eq_nil_of_le oP];have pZ:ops.size - 1<ops.size:=by omega
    simp[List.getD,pZ]
   rw[hd] at U;exact U
 exact Qh oq hi ao iL cu hQ hL bE hs cZ
end
end
section
variable{m:Mem}{i:Nat}{e:TypeId}{d:D}{v:Value}{r:Row}{p:Pl}{nx:Nat}{a:Act}{st st':St}{n:Nat}{Q:Exit->Act->World->Prop}{c:Code}{lo N:Nat}{β₁ β₂:aZ}{l b:Nat}{F':Nat->Prop}{il n₀:Nat}{f:Nat->Option Nat}{mc:Mem}{nc j:Nat}{o:Obj}{k:List Item}{cs:List Frame}
section
variable{P:Program}{F:Nat->Prop}
def akN{β β':aZ}{w:World}(hm:bc P F m β w){cs:List D}(aF:m i=some (.cells cs e))(hβ:β'=up β i (some .dead))(h:R F β w d v):
 R F β' w (dq i cs (P.cellsOf e) d) v:=by
 have hs:Step β w β' w:=by rw[hβ];exact EZ β w i
 have X:=h.step hs;let⟨p,hp,hr⟩:=hm.row i _ aF;unfold dq;split
 .rename_i j off n;split
  .rename_i dh;subst dh;cases h with
   |oE _ _ _ _ h1 _=>
    rw[h1] at hp;cases hp;cases hr
   |lN _ a h1=>
    rw[h1] at hp;cases hp;cases hr;simp[drop_nil,take_nil];exact .ln a 0
   |mJ _ _ a b o len room sz h1=>
    simp[Nat.zero_mul,take_zero];exact .ln a 0
   |rs _ _ _ cap b o len room sz h1 hn eJ h2 h3=>
    rw[h1] at hp;cases hp;have J:β j=some (.cells b o len room sz):=h1;let⟨U,hl,cC,_⟩:=hr.rd;have M:=(U.drop off).take (n*P.cellsOf e);let⟨us,u1,u2⟩:=M;refine .sl _ n b (o+off) cap us (hm.nf j _ b J rfl) ?_ (hm.lt j _ b J rfl) hn eJ u1 λk d hk=>(u2 k d hk).step hs;rw[hβ];intro k q hq;by_cases C:k=j
    .subst C;rw[aw] at hq;cases hq;simp[Pl.cn]
    .rw[aV _ _ C] at hq;exact hm.wD J rfl hq C
  .exact X
 .rename_i j off;split
  .rename_i dh;subst dh;cases h with
   |xH _ _ _ h1 _=>
    rw[h1] at hp;cases hp;cases hr
   |rp _ _ b o len room sz h1=>
    rw[h1] at hp;cases hp;let⟨U,hl,cC,_⟩:=hr.rd;let⟨us,u1,u2⟩:=U.drop off;refine .pt _ b (o+off) us (hm.nf j _ b h1 rfl) ?_ (hm.lt j _ b h1 rfl) u1 λk d hk=>(u2 k d hk).step hs;rw[hβ];intro k q hq;by_cases C:k=j
    .subst C;rw[aw] at hq;cases hq;simp[Pl.cn]
    .rw[aV _ _ C] at hq;exact hm.wD h1 rfl hq C
  .exact X
 .exact X
def akO{β β':aZ}{w:World}(hm:bc P F m β w){es:List (Value×D)}(aF:m i=some (.map es))(M:β'=up β i (some .dead))(h:R F β w d v):R F β' w (Ea i es d) v:=by
 have hs:Step β w β' w:=by rw[M];exact EZ β w i
 unfold Ea;split
 .rename_i j;split
  .rename_i U;subst U;obtain⟨r,ms,clock,h1,rfl,X,h4,h5,J⟩:=h.IC hm aF;refine .im es r ms clock (hm.nf j _ r h1 rfl) ?_ X h4 h5 (λk x m hx hm=>(J k x m hx hm).1) λk x m hx hm=>(J k x m hx hm).2.step hs;rw[M];intro k q hq;by_cases C:k=j
   .subst C;rw[aw] at hq;cases hq;simp[Pl.cn]
   .rw[aV _ _ C] at hq;exact hm.wD h1 rfl hq C
  .exact h.step hs
 .exact h.step hs
section subst
variable{σ:D->D}{β β':aZ}{w:World}
def XZ(C:∀ {d v},R F β w d v->R F β' w (σ d) v)(h:R F β w d v):R F β' w (xm σ d) v:=by
 unfold xm;split
 .rename_i ds;obtain⟨vs,rfl,hl,hh⟩:=h.wK;refine .agg _ vs (s0 hl) λk d v hd hv=>?_;simp[getElem?_map,ej] at hd;obtain⟨d',J,rfl⟩:=hd;exact C (hh k d' v J hv)
 .cases h with
  |dw c d _ h1 h2=>exact .dw _ _ v (λhc=>C (h1 hc)) h2
 .exact C h
def H2(C:∀ {d v},R F β w d v->R F β' w (σ d) v)(h:R F β w d v):R F β' w (sub σ d) v:=by
 have map:∀ (ds:List D) (vs:List Value),(∀ (k:Nat) (d:D) (v:Value),ds[k]? =some d->vs[k]? =some v->R F β w d v)->
  ∀ (k:Nat) (d:D) (v:Value),(ds.map (xm σ))[k]? =some d->vs[k]? =some v->R F β' w d v:=λds vs hh k d v hd hv=>by
  simp[getElem?_map,ej] at hd;obtain⟨d',J,rfl⟩:=hd;exact XZ C (hh k d' v J hv)
 unfold sub;split
 .rename_i ds;obtain⟨vs,rfl,hl,hh⟩:=h.Fq;exact .bu _ vs (s0 hl) (map ds vs hh)
 .rename_i f fs ds;cases h with
  |fn _ _ _ us vs hl mK h1 h2=>exact .fn f _ _ us vs (s0 hl) (s0 mK) (map fs us h1) (map ds vs h2)
 .exact XZ C h
def am3(J:∀ {d v},R F β w d v->R F β' w (σ d) v)(hs:Step β w β' w)(h:dG P F β w r p):dG P F β' w (r.sub σ) p:=by
 cases h with
 |nil C=>exact .nil C
 |cells ds C b o room sz c hc hr hlen cC hh=>
  have:=dG.cells (P:=P) (F:=F) (β:=β') (w:=w) (ds.map (Abs.sub σ)) C b o room sz c hc hr (s0 hlen) cC λk d hk=>by
   simp[getElem?_map,ej] at hk;obtain⟨d',X,rfl⟩:=hk;let⟨v,h1,h2,U⟩:=hh k d' X;exact⟨v,h1,H2 J h2,U⟩
  simpa[Row.sub] using this
 |map es r ms clock hc hl fN hh=>
  refine .map _ r ms clock hc (s0 hl) (by simpa[map_map,Function.comp_def] using fN) λk x mm hk uB=>?_;simp only[getElem?_map,ej] at hk;obtain⟨x',M,rfl⟩:=hk;let⟨h1,h2⟩:=hh k x' mm M uB;exact⟨h1,H2 J h2⟩
 |raw r o hc=>exact .raw r o hc
 |bs u x T b v hc cC hx h1=>exact .bs u _ T b v hc cC (H2 J hx) h1
 |lp k r L hc hk=>exact .lp k r L hc hk
 |lq f r _ F₂ h1 h2 h=>exact(dG.lq f r p F₂ h1 h2 h).step hs λ_ _=>rfl
end subst
def WW{σ:D->D}{env:Env}{row:Row}(h:m i=some row){w:World}{β:aZ}(hs:dt P F ⟨env,m,nx⟩ β w a)(X:∀ {d v},R F β w d v->R F (up β i (some .dead)) w (σ d) v):
 ∃ β',dt P F ⟨λt=>sub σ (env t),λj=>if j=i then none else(m j).map (Row.sub σ),nx⟩ β' w a/\fW nx β w a ⟨λt=>sub σ (env t),λj=>if j=i then none else(m j).map (Row.sub σ),nx⟩ β' w a:=by
 have U:=EZ β w i;have hm:=hs.m;simp only at hm
 have M:∀ j q b,up β i (some .dead) j=some q->q.cn=some b->j≠i/\β j=some q:=λj q b hq e=>by
  by_cases hj:j=i
  .subst hj;rw[aw] at hq;cases hq;simp[Pl.cn] at e
  .rw[aV _ _ hj] at hq;exact⟨hj,hq⟩
 have hi:∃ p,β i=some p:=by
  let⟨p,hp,_⟩:=hm.row i _ h;exact⟨p,hp⟩
 refine⟨up β i (some .dead),⟨λt=>H2 X (hs.e t),⟨λj r hj=>?_,λj k q q' b hq lM C e2=>hm.inj j k q q' b (M j q b hq C).2 (M k q' b lM e2).2 C e2,
  λj q b hq C=>hm.lt j q b (M j q b hq C).2 C,λj q b hq C=>hm.nf j q b (M j q b hq C).2 C,hm.fb⟩,λj hj=>?_⟩,⟨U,bY _,λj hj hn=>?_,rfl,rfl⟩⟩
 .simp only at hj;by_cases J:j=i
  .rw[bi J] at hj;cases hj
  .rw[ai J] at hj;simp[ej] at hj;obtain⟨r',jh,rfl⟩:=hj;let⟨q,hq,aF⟩:=hm.row j r' jh;exact⟨q,by rw[aV _ _ J];exact hq,am3 X U aF⟩
 .have J:j≠i:=λC=>by
   subst C;let⟨p,hp⟩:=hi;rw[hs.n j hj] at hp;cases hp
  rw[aV _ _ J];exact hs.n j hj
 .have J:j≠i:=λC=>by
   subst C;let⟨p,hp⟩:=hi;rw[hn] at hp;cases hp
  rw[aV _ _ J];exact hn
def akP{β:aZ}{w:World}{cs cs':List D}(hl:cs'.length=cs.length)(M:∀ (k:Nat) (d d':D),cs[k]? =some d->cs'[k]? =some d'->Wk d d')(h:dG P F β w (.cells cs e) p):dG P F β w (.cells cs' e) p:=by
 cases h with
 |nil _=>
  have:cs'=[]:=length_eq_zero_iff.1 (s0 hl);subst this;exact .nil e
 |cells _ _ b o room sz c hc hr hlen cC hh=>
  rw[<- hl];refine .cells cs' e b o room sz c hc hr oG cC λk d' C=>?_;have hk:k<cs.length:=by rw[<- hl];exact(bQ.1 C).1
  let⟨v,h1,h2,J⟩:=hh k cs[k] (by simp[hk]);exact⟨v,h1,M k cs[k] d' (by simp[hk]) C _ _ _ _ h2,J⟩
def WX(h:aP P st st'){w:World}:∀ {β:aZ},dt P F st β w a->∃ β',dt P F st' β' w a/\fW st.nx β w a st' β' w a:=by
 induction h with
 |refl st=>exact λ{β} hs=>⟨β,hs,fW.refl st β w a⟩
 |trans _ _ ih₁ ih₂=>
  intro β hs;let⟨β₁,h1,h2⟩:=ih₁ hs;let⟨β₂,X,h4⟩:=ih₂ h1;exact⟨β₂,X,h2.trans h4⟩
 |forget env env' m nx h=>
  intro β hs;refine⟨β,⟨λt=>?_,hs.m,hs.n⟩,⟨Step.refl β w,bY _,λ_ _ h=>h,rfl,rfl⟩⟩;rcases h t with h1|h1
  .simp only[h1];exact hs.e t
  .simp[h1];exact .u _
 |drop env m m' nx h=>
  intro β hs;refine⟨β,⟨hs.e,⟨λi r hi=>?_,hs.m.inj,hs.m.lt,hs.m.nf,hs.m.fb⟩,hs.n⟩,⟨Step.refl β w,bY _,λ_ _ h=>h,rfl,rfl⟩⟩;rcases h i with h1|h1
  .exact hs.m.row i r (h1.symm.trans hi)
  .simp only at hi;rw[h1] at hi;cases hi
 |xq env env' m m' nx h iB=>
  intro β hs;refine⟨β,⟨λt=>h t _ _ _ _ (hs.e t),⟨λi r hi=>?_,hs.m.inj,hs.m.lt,hs.m.nf,hs.m.fb⟩,hs.n⟩,⟨Step.refl β w,bY _,λ_ _ h=>h,rfl,rfl⟩⟩;rcases iB i with h1|⟨cs,cs',e,h1,h2,X,h4⟩
  .exact hs.m.row i r (h1.symm.trans hi)
  .simp only at hi;rw[h2] at hi;cases hi;let⟨p,hp,hr⟩:=hs.m.row i _ h1;exact⟨p,hp,akP X h4 hr⟩
 |freeze env m nx i cs e h=>
  intro β hs;exact WW h hs λhr=>akN hs.m h rfl hr
 |LJ env m nx i es h=>
  intro β hs;exact WW h hs λhr=>akO hs.m h rfl hr
 |oY env m nx t e h=>
  intro β hs;have hm:=hs.m;have hn:β nx=none:=hs.n nx (bY _);simp only at hm
  have J:∀ j q b,up β nx (some .nil) j=some q->q.cn=some b->j≠nx/\β j=some q:=λj q b hq e=>by
   by_cases hj:j=nx
   .subst hj;rw[aw] at hq;cases hq;simp[Pl.cn] at e
   .rw[aV _ _ hj] at hq;exact⟨hj,hq⟩
  have M:Step β w (up β nx (some .nil)) w:=by
   refine⟨bY _,λb _ hf=>⟨rfl,λj q hq C=>?_⟩,λj q hq=>.inl ?_,⟨rfl,rfl⟩,λ_ _ _ _=>sx rfl⟩
   .exact hf j q (J j q b hq C).2 C
   .rw[aV _ _ (λC=>by rw[C,hn] at hq;cases hq)];exact hq
  refine⟨up β nx (some .nil),⟨λu=>?_,⟨λj r hj=>?_,λj k q q' b hq lM C e2=>hm.inj j k q q' b (J j q b hq C).2 (J k q' b lM e2).2 C e2,
   λj q b hq C=>hm.lt j q b (J j q b hq C).2 C,λj q b hq C=>hm.nf j q b (J j q b hq C).2 C,hm.fb⟩,λj hj=>?_⟩,⟨M,Nat.le_succ _,λj hj hb=>?_,rfl,rfl⟩⟩
  .by_cases hu:u=t
   .subst hu;have h1:=hs.e u;simp only at h1;rw[h] at h1;let⟨x,hx⟩:=h1.F1;simp[aw,hx];exact .lN nx x r9
   .simp only[aV _ _ hu];exact(hs.e u).step M
  .simp only at hj;by_cases U:j=nx
   .subst U;rw[aw] at hj;cases hj;exact⟨.nil,aw _ _ _,.nil e⟩
   .rw[aV _ _ U] at hj;let⟨q,hq,aF⟩:=hm.row j r hj;exact⟨q,by rw[aV _ _ U];exact hq,aF.step M λ_ _=>rfl⟩
  .simp only at hj;rw[aV _ _ (show j≠nx by omega)];exact hs.n j (by simp only;omega)
  .simp only at hj;rw[aV _ _ (show j≠nx by omega)];exact hb
def ke(N:Nat):Code->Bool
 | .region _ ops _=>tZ N ops
 | .seq a b=>ke N a&&ke N b
 | .cond _ a b=>ke N a&&ke N b
 | .block _ b=>ke N b
 | .loop b=>ke N b
 | .scope b=>ke N b
 | .rangeFunc _ ps a b=>(ps.toList.all λt=>Nat.blt t N)&&(ke N a&&ke N b)
 |_=>true
def WJ{Fc:Fence}(J:Nat->Act->World->Prop){j₀:Nat}{w:World}(h₀:J j₀ a w)
 (round:∀ j a w,J j a w->c.wpIn Fc n P (Exit.then (λa' w'=>∃ X,X<j/\J X a' w') Q) a w):(Code.loop c).wpIn Fc n P Q a w:=by
 intro b k cs G0 hb hr
 have key:∀ j a w,J j a w->
  ∃ e a' w',Q e a' w'/\ArrivesIn (Machine.fenced P Fc) P (lone (b.atR a (.code c::.inLoop c::k)) cs w) b k cs e a' w':=by
  intro j
  induction j using Nat.strongRecOn with
  |_ j ih=>
   intro a w hI;let⟨e,M,U,hq,C⟩:=round j a w hI b (.inLoop c::k) cs G0 hb hr;cases e with
   |normal=>
    let⟨X,ao,hI₁⟩:=hq;let⟨e₂,a₂,w₂,hq₂,apu⟩:=ih X ao M U hI₁;exact⟨e₂,a₂,w₂,hq₂,.of_steps (StepsIn.trans C (.one (fenced_calm hb hr rfl) stepR_inLoop)) apu⟩
   |exit id=>exact⟨_,M,U,hq,.pass (x:=.inLoop c) rfl (λ_ _=>.inl oS) C⟩
   |goto l=>exact⟨_,M,U,hq,.pass (x:=.inLoop c) rfl (λ_ _=>.inl oS) C⟩
   |ret=>exact⟨_,M,U,hq,.pass (x:=.inLoop c) rfl (λ_ _=>.inl oS) C⟩
   |panic ch=>exact⟨_,M,U,hq,.pass (x:=.inLoop c) rfl (λ_ _=>.inl oS) C⟩
   |outgrown=>exact⟨_,M,U,hq,.pass (x:=.inLoop c) rfl (λ_ _=>.inl oS) C⟩
 let⟨e,a',w',hq,C⟩:=key _ a w h₀;exact⟨e,a',w',hq,.of_steps (.one (fenced_calm hb hr rfl) stepR_loop) C⟩
def mark(b:Nat):Deferred:={ target:=.collected b,args:= #[] }
def Marks(β:aZ)(w:World)(lo:Nat):List Deferred->Nat->Prop
 |[],_=>True
 |d::ds,hi=>∃ b,d=mark b/\lo<=b/\b<hi/\w.heap[b]? =some (.deferred (some []))/\β.free b/\Marks β w lo ds b
def Marks.step{β β':aZ}{w w':World}(hs:Step β w β' w'):∀ {ds:List Deferred} {hi:Nat},hi<=w.heap.size->Marks β w lo ds hi->Marks β' w' lo ds hi
 |[],_,_,_=>trivial
 |d::ds,hi,hle,⟨b,h1,h2,h3,h4,h5,h6⟩=>by
  let⟨C,J⟩:=hs.gp b oG h5;exact⟨b,h1,h2,h3,C.trans h4,J,Marks.step hs oG h6⟩
def Marks.mono{β:aZ}{w:World}{hi C:Nat}(h:hi<=C):∀ {ds:List Deferred},Marks β w lo ds hi->Marks β w lo ds C
 |[],_=>trivial
 |_::_,⟨b,h1,h2,h3,h4⟩=>⟨b,h1,h2,oG,h4⟩
def Marks.append{β:aZ}{w:World}{mid:Nat}(J:lo<=mid){C:List Deferred}:∀ {ds:List Deferred} {hi:Nat},mid<=hi->Marks β w mid ds hi->Marks β w lo C mid->Marks β w lo (ds++C) hi
 |[],_,hle,_,h'=>Marks.mono hle h'
 |_::_,_,_,⟨b,h1,h2,h3,h4,h5,h6⟩,h'=>⟨b,h1,oG,h3,h4,h5,Marks.append J h2 h6 h'⟩
structure rU(N:Nat)(β:aZ)(w:World)(a:Act)(st':St)(β':aZ)(w':World)(a':Act):Prop where
 step:Step β w β' w'
 le:N<=st'.nx
 grow:∀ i,i<N->β i=none->β' i=none
 size:a'.tmps.size=a.tmps.size
 defers:∃ ds,a'.defers=ds++a.defers/\Marks β' w' w.heap.size ds w'.heap.size
def fW.Eb{β β':aZ}{w w':World}{a':Act}(h:fW N β w a st' β' w' a'):rU N β w a st' β' w' a':=
 ⟨h.step,h.le,h.grow,h.size,[],h.defers,aa⟩
def rU.trans{β:aZ}{w X w₂:World}{a M U:Act}{C J:St}(h:rU N β w a C β₁ X M)(k:rU C.nx β₁ X M J β₂ w₂ U):rU N β w a J β₂ w₂ U:=by
 let⟨ds,e1,h1⟩:=h.defers;let⟨Cf,e2,h2⟩:=k.defers
 exact⟨h.step.trans k.step,Nat.le_trans h.le k.le,λi hi hn=>k.grow i (Nat.lt_of_lt_of_le hi h.le) (h.grow i hi hn),k.size.trans h.size,Cf++ds,by rw[e2,e1,append_assoc],
  Marks.append h.step.size k.step.size h2 (h1.step k.step (bY _))⟩
def rU.since{β:aZ}{w X w₂:World}{M U:Act}{C J:St}(h:rU N β w a C β₁ X M)(k:fW C.nx β₁ X M J β₂ w₂ U):rU N β w a J β₂ w₂ U:=h.trans k.Eb
def IZ(P:Program)(F:Nat->Prop)(N:Nat)(β:aZ)(w:World)(a:Act)(Q:Exit->St->Prop)(e:Exit)(a':Act)(w':World):Prop:=
 ∃ st' β',Q e st'/\dt P F st' β' w' a'/\rU N β w a st' β' w' a'
def ua.base{J:aZ}{C:World}{β:aZ}{w:World}(hs:Step J C β w){args:List D}{m:Mem}{K:D->Mem->Nat->Prop}(h:ua P F J C l args m nx K):ua P F β w l args m nx K:=
 λβ' w' us M=>h β' w' us (hs.trans M)
def wD{β:aZ}{p:Option Pl}(h:β.free b)(hp:∀ q,p=some q->q.cn≠some b):aZ.free (up β i p) b:=λj q hq=>by
 by_cases hj:j=i
 .subst hj;rw[aw] at hq;exact hp q hq
 .rw[aV _ _ hj] at hq;exact h j q hq
def R.zd{β:aZ}{w:World}{l:Nat}(C:F l)(o:Obj)(h:R F β w d v):R F β (w.putObj l o) d v:=
 h.gen oS (λb _ hb hf=>⟨CT (World.putObj_heap_other λe=>hb (e▸C)),hf,hb⟩) λ_ _ _ h=>.inl h
def dG.zd{β:aZ}{w:World}{l:Nat}(C:F l)(o:Obj)(hp:∀ b,p.cn=some b->b≠l)(h:dG P F β w r p):dG P F β (w.putObj l o) r p:=
 h.gen oS (λb _ hb hf=>⟨CT (World.putObj_heap_other λe=>hb (e▸C)),hf,hb⟩) (λ_ _ _ h=>.inl h) λb hb=>World.putObj_heap_other (hp b hb)
def bc.zd{β:aZ}{w:World}{l:Nat}(C:F l)(J:∀ t∈BQ,t.1≠l)(o:Obj)(h:bc P F m β w):bc P F m β (w.putObj l o):=
 ⟨λi r hi=>by
  let⟨p,hp,hr⟩:=h.row i r hi
  exact⟨p,hp,hr.zd C o λb hb e=>h.nf i p b hp hb (e▸C)⟩,h.inj,λi p b hp hb=>s0 (h.lt i p b hp hb),h.nf,h.fb.next (λb hb=>s0 (h.fb.lt b hb)) (λ_ h=>h) λt ht _=>World.putObj_heap_other λe=>J t ht e⟩
def dt.zd{β:aZ}{w:World}{l:Nat}(C:F l)(J:∀ t∈BQ,t.1≠l)(o:Obj)(h:dt P F st β w a):dt P F st β (w.putObj l o) a:=
 ⟨λt=>(h.e t).zd C o,h.m.zd C J o,h.n⟩
def R.xq(C:∀ b,F' b->F b){β:aZ}{w:World}(h:R F β w d v):R F' β w d v:=
 h.gen (bY _) (λb _ hb hf=>⟨sS.refl w b,hf,λe=>hb (C b e)⟩) λ_ _ _ h=>.inl h
def bc.xq(C:∀ b,F' b->F b)(J:∀ t∈BQ,F' t.1){β:aZ}{w:World}(h:bc P F m β w):bc P F' m β w:=
 ⟨λi r hi=>by
  let⟨p,hp,hr⟩:=h.row i r hi
  exact⟨p,hp,hr.gen (bY _) (λb _ hb hf=>⟨sS.refl w b,hf,λe=>hb (C b e)⟩) (λ_ _ _ h=>.inl h) λ_ _=>rfl⟩,h.inj,h.lt,λi p b hp hb e=>h.nf i p b hp hb (C b e),⟨λb hb=>h.fb.lt b (C b hb),λt ht=>⟨J t ht,(h.fb.nR t ht).2⟩⟩⟩
def YY{β:aZ}(h:¬ β.free b):∃ i p,β i=some p/\p.cn=some b:=by
 unfold aZ.free at h;simp only[Classical.not_forall] at h;let⟨i,p,hp,hb⟩:=h;exact⟨i,p,hp,Decidable.not_not.1 hb⟩
structure View(il n₀:Nat)(f:Nat->Option Nat)(mc:Mem)(nc:Nat)(m:Mem)(nx:Nat):Prop where
 low:n₀<=nc
 lt:il<nx
 id:∀ i,i<n₀->f i=some i
 Of:∀ i,i<nc->∃ j,f i=some j/\j<nx/\j≠il
 out:∀ i,nc<=i->f i=none
 inj:∀ i i' j,f i=some j->f i'=some j->i=i'
 rows:∀ i r,mc i=some r->∃ j,f i=some j/\m j=some (r.ze f)
def View.BR(h:View il n₀ f mc nc m nx)(hf:f i=some j):i<nc/\j<nx/\j≠il:=by
 rcases Nat.lt_or_ge i nc with ao|C
 .let⟨M,h1,h2,J⟩:=h.Of i ao;rw[hf] at h1;cases h1;exact⟨ao,h2,J⟩
 .rw[h.out i C] at hf;cases hf
def View.ext{m':Mem}{nx':Nat}(h:View il n₀ f mc nc m nx)(C:nx<=nx')(he:∀ i,i<nx->m' i=m i):View il n₀ f mc nc m' nx':=
 ⟨h.low,Nat.lt_of_lt_of_le h.lt C,h.id,λi hi=>by
  let⟨j,h1,h2,J⟩:=h.Of i hi;exact⟨j,h1,oG,J⟩,h.out,h.inj,λi r hi=>by
  let⟨j,h1,h2⟩:=h.rows i r hi
  exact⟨j,h1,(he j (h.BR h1).2.1).trans h2⟩⟩
def aiG{β:aZ}{w:World}(hm:bc P F m β w)(h:hidden F β f b):b<w.heap.size:=by
 rcases h with h|⟨h,_⟩
 .exact hm.fb.lt b h
 .let⟨i,p,hp,hb⟩:=YY h;exact hm.lt i p b hp hb
def View.enter(h:View il n₀ f mc nc m nx){β:aZ}{w:World}(hm:bc P F m β w):
 bc P (hidden F β f) mc (β.via f) w/\∀ i,nc<=i->(β.via f) i=none:=by
 have look:∀ i p,(β.via f) i=some p->∃ j,f i=some j/\β j=some p:=λi p hp=>Option.bind_eq_some_iff.1 hp;refine⟨⟨λi r hi=>?_,λi i' p q b hp hq e J=>?_,λi p b hp e=>?_,λi p b hp e C=>?_,hm.fb.next (λb hb=>aiG hm hb) (λ_ h=>.inl h) λ_ _ _=>rfl⟩,λi hi=>?_⟩
 .let⟨j,h1,h2⟩:=h.rows i r hi;let⟨p,hp,hr⟩:=hm.row j _ h2;exact⟨p,by simp[aZ.via,h1,hp],hr.seen⟩
 .let⟨j,h1,h2⟩:=look i p hp;let⟨X,M,U⟩:=look i' q hq;have:=hm.inj j X p q b h2 U e J;subst this;exact h.inj i i' j h1 M
 .let⟨j,h1,h2⟩:=look i p hp;exact hm.lt j p b h2 e
 .let⟨j,h1,h2⟩:=look i p hp;rcases C with C|⟨_,C⟩
  .exact hm.nf j p b h2 e C
  .exact C i p hp e
 .simp[aZ.via,h.out i hi]
def bc.F3{β:aZ}{w:World}(h:bc P F m β w)(hm:m i=some (.raw l o)):β i=some (.raw l)/\w.heap[l]? =some o/\¬ F l/\l<w.heap.size:=by
 let⟨p,hp,hr⟩:=h.row i _ hm;cases hr with
 |raw _ _ hc=>exact⟨hp,hc,h.nf i _ l hp rfl,h.lt i _ l hp rfl⟩
def View.LK(h:View il n₀ f mc nc m nx){β:aZ}{w:World}(hm:bc P F m β w)(hj:∀ i,f i≠some j)(hp:β j=some p)(hb:p.cn=some b):
 (β.via f).free b/\hidden F β f b:=by
 have C:(β.via f).free b:=λi q hq e=>by
  let⟨J,h1,h2⟩:=Option.bind_eq_some_iff.1 hq;exact hj i (hm.inj J j q p b h2 hp e hb▸h1)
 exact⟨C,.inr ⟨λe=>e j p hp hb,C⟩⟩
structure yY(l:Nat)(β:aZ)(w:World)(β':aZ)(w':World):Prop where
 size:w.heap.size<=w'.heap.size
 gp:∀ b,b<w.heap.size->b≠l->β.free b->w'.heap[b]? =w.heap[b]? /\β'.free b
 kp:∀ i p,β i=some p->β' i=some p\/β' i=some .dead
 out:Out w w'
 lp:∀ i r,r≠l->β i=some (.lp r)->β' i=some (.lp r)->Skel w w' r
def Step.x{β β':aZ}{w w':World}(h:Step β w β' w')(l:Nat):yY l β w β' w':=⟨h.size,λb hb _=>h.gp b hb,h.kp,h.out,λi r _=>h.lp i r⟩
def yY.trans{l:Nat}{β₃:aZ}{M U X:World}(h:yY l β₁ M β₂ U)(k:yY l β₂ U β₃ X):yY l β₁ M β₃ X:=by
 refine⟨Nat.le_trans h.size k.size,λb hb J hf=>?_,λi p hp=>?_,h.out.trans k.out,λi r hr hp C=>?_⟩
 rotate_left 2
 .rcases h.kp i _ hp with h1|h1
  .exact(h.lp i r hr hp h1).trans (k.lp i r hr h1 C)
  .rcases k.kp i _ h1 with h2|h2<;>(rw[h2] at C;cases C)
 .let⟨h1,h2⟩:=h.gp b hb J hf;let⟨k1,k2⟩:=k.gp b (Nat.lt_of_lt_of_le hb h.size) J h2;exact⟨k1.trans h1,k2⟩
 .rcases h.kp i p hp with h1|h1
  .exact k.kp i p h1
  .right;rcases k.kp i _ h1 with h2|h2<;>exact h2
def yY.put(l:Nat)(β:aZ)(w:World)(o:Obj):yY l β w β (w.putObj l o):=⟨oS,λb _ C hf=>⟨World.putObj_heap_other C,hf⟩,λ_ _ h=>.inl h,⟨rfl,rfl⟩,λ_ _ hr _ _=>sx (World.putObj_heap_other hr)⟩
def X0(C:∀ i i' j,f i=some j->f i'=some j->i=i'):
 (∀ i,(range n).find? (λi=>f i==some j)=some i->f i=some j/\i<n)/\(∀ i,i<n->f i=some j->(range n).find? (λi=>f i==some j)=some i):=by
 refine⟨λi hi=>⟨by simpa using find?_some hi,by simpa using mem_of_find?_eq_some hi⟩,λi hi hf=>?_⟩;cases h:(range n).find? (λi=>f i==some j) with
 |none=>
  have:=find?_eq_none.1 h i (s0 hi);simp[hf] at this
 |some k=>rw[C i k j hf (by simpa using find?_some h)]
def View.apv(h:View il n₀ f mc nc m nx){β:aZ}{w:World}(hm:bc P F m β w)(hn:∀ i,nx<=i->β i=none){o':Obj}(hl:m il=some (.raw l o))
 {m':Mem} {U:Nat} {β':aZ} {w':World} (kO:bc P (hidden F β f) m' β' w') (hs:yY l (β.via f) w β' w') (fO:∀ i,U<=i->β' i=none) (hle:nc<=U) (hg:∀ i,i<nc->(β.via f) i=none->β' i=none) (ho:w'.heap[l]? =some o'):
 ∃ C oF vN J,View il n₀ C m' U oF vN/\oF il=some (.raw l o')/\bc P F oF J w'/\(∀ i,vN<=i->J i=none)/\Step β w J w'/\nx<=vN/\∀ i,i<nx->β i=none->J i=none:=by
 let⟨JV,qT,UX,ao⟩:=hm.F3 hl
 let C:Nat->Option Nat:=λi=>if i<nc then f i else if i<U then some (nx+(i - nc)) else none
 have I0:∀ i,i<nc->C i=f i:=λi hi=>by simp[C,hi]
 have SQ:∀ i,nc<=i->i<U->C i=some (nx+(i - nc)):=λi h1 h2=>by simp[C,h2,Nat.not_lt.2 h1]
 have acf:∀ i,U<=i->C i=none:=λi h1=>by simp[C,Nat.not_lt.2 h1,Nat.not_lt.2 (Nat.le_trans hle h1)]
 have Bl:∀ i j,C i=some j->(f i=some j/\i<nc/\j<nx)\/(nc<=i/\i<U/\j=nx+(i - nc)):=λi j hf=>by
  rcases Nat.lt_or_ge i nc with h1|h1
  .rw[I0 i h1] at hf;exact .inl ⟨hf,h.BR hf |>.1,(h.BR hf).2.1⟩
  .rcases Nat.lt_or_ge i U with h2|h2
   .rw[SQ i h1 h2] at hf;cases hf;exact .inr ⟨h1,h2,rfl⟩
   .rw[acf i h2] at hf;cases hf
 have SR:∀ i i' j,C i=some j->C i'=some j->i=i':=λi i' j h1 h2=>by
  rcases Bl i j h1 with⟨a1,a2,a3⟩|⟨a1,a2,a3⟩<;>rcases Bl i' j h2 with⟨b1,b2,b3⟩|⟨b1,b2,b3⟩
  .exact h.inj i i' j a1 b1
  .omega
  .omega
  .omega
 let inv:Nat->Option Nat:=λj=>(range U).find? λi=>C i==some j
 have BS:∀ i j,inv j=some i->C i=some j:=λi j hi=>((X0 SR).1 i hi).1;have TN:∀ i j,C i=some j->inv j=some i:=λi j hf=>(X0 SR).2 i (by rcases Bl i j hf with h1|h1<;>omega) hf
 have atJ:∀ j,inv j=none->∀ i,f i≠some j:=λj hj i hf=>by
  have:=TN i j (by rw[I0 i (h.BR hf).1];exact hf);rw[hj] at this;cases this
 let J:aZ:=λj=>match inv j with|some i=>β' i|none=>β j
 let oF:Mem:=λj=>match inv j with|some i=>(m' i).map (Row.ze C)|none=>if j=il then some (.raw l o') else m j
 have βs:∀ i j,C i=some j->J j=β' i:=λi j hf=>by simp[J,TN i j hf]
 have βn:∀ j,inv j=none->J j=β j:=λj hj=>by simp[J,hj]
 have aoz:inv il=none:=by
  cases hi:inv il with
  |none=>rfl
  |some i=>
   rcases Bl i il (BS i il hi) with⟨a1,a2,a3⟩|⟨a1,a2,a3⟩
   .exact absurd rfl (h.BR a1).2.2
   .have:=h.lt;omega
 have via:J.via C=β':=by
  funext i;simp[aZ.via];cases hf:C i with
  |some j=>exact βs i j hf
  |none=>
   rcases Nat.lt_or_ge i U with h1|h1
   .rcases Nat.lt_or_ge i nc with h2|h2
    .let⟨j,h3,_⟩:=h.Of i h2;rw[I0 i h2,h3] at hf;cases hf
    .rw[SQ i h2 h1] at hf;cases hf
   .exact(fO i h1).symm
 have look:∀ j p,J j=some p->(∃ i,inv j=some i/\C i=some j/\β' i=some p)\/(inv j=none/\β j=some p):=λj p hp=>by
  cases hi:inv j with
  |some i=>exact .inl ⟨i,rfl,BS i j hi,by rw[<- βs i j (BS i j hi)];exact hp⟩
  |none=>exact .inr ⟨rfl,by rw[<- βn j hi];exact hp⟩
 have atL:∀ b,β.free b->b≠l:=λb hb e=>hb il _ JV (e▸rfl)
 have gp:∀ b,b<w.heap.size->β.free b->w'.heap[b]? =w.heap[b]? /\J.free b:=λb hb hf=>by
  let⟨h1,h2⟩:=hs.gp b hb (atL b hf) (aZ.Bg hf f);refine⟨h1,λj p hp=>?_⟩;rcases look j p hp with⟨i,_,_,X⟩|⟨_,X⟩
  .exact h2 i p X
  .exact hf j p X
 have kp:∀ j p,β j=some p->J j=some p\/J j=some .dead:=λj p hp=>by
  cases hi:inv j with
  |none=>exact .inl ((βn j hi).trans hp)
  |some i=>
   have hf:=BS i j hi;rw[βs i j hf];rcases Bl i j hf with⟨a1,a2,a3⟩|⟨a1,a2,a3⟩
   .exact hs.kp i p (by simp[aZ.via,a1,hp])
   .rw[hn j oG] at hp;cases hp
 have M:∀ j p b,inv j=none->β j=some p->p.cn=some b->hidden F β f b/\(b≠l->b<w.heap.size/\w'.heap[b]? =w.heap[b]?):=λj p b hj hp hb=>by
  let⟨h1,h2⟩:=h.LK hm (atJ j hj) hp hb;exact⟨h2,λaR=>⟨hm.lt j p b hp hb,(hs.gp b (hm.lt j p b hp hb) aR h1).1⟩⟩
 have XE:∀ j r,β j=some (.lp r)->J j=some (.lp r)->Skel w w' r:=λj r hp lu=>by
  have aR:r≠l:=λe=>by
   have:=hm.inj j il _ _ l hp JV (by simp[Pl.cn,e]) rfl;subst this;rw[JV] at hp;cases hp
  cases hi:inv j with
  |none=>exact sx ((M j _ r hi hp rfl).2 aR).2
  |some i=>
   have hf:=BS i j hi;rcases Bl i j hf with⟨a1,a2,a3⟩|⟨a1,a2,a3⟩
   .exact hs.lp i r aR (by simp[aZ.via,a1,hp]) (by rw[<- βs i j hf];exact lu)
   .rw[hn j oG] at hp;cases hp
 refine⟨C,oF,nx+(U - nc),J,⟨Nat.le_trans h.low hle,by have:=h.lt;omega,λi hi=>?_,λi hi=>?_,acf,SR,λi r hi=>?_⟩,?_,⟨λj r hj=>?_,λi j p q b hp hq e e'=>?_,λj p b hp e=>?_,λj p b hp e hF=>?_,?_⟩,λi hi=>?_,⟨hs.size,gp,kp,hs.out,XE⟩,oG,λi hi hb=>?_⟩
 .rw[I0 i (Nat.lt_of_lt_of_le hi h.low)];exact h.id i hi
 .rcases Nat.lt_or_ge i nc with h1|h1
  .let⟨j,h2,h3,X⟩:=h.Of i h1;exact⟨j,by rw[I0 i h1];exact h2,oG,X⟩
  .exact⟨_,SQ i h1 hi,oG,by have:=h.lt;omega⟩
 .let⟨p,hp,_⟩:=kO.row i r hi
  have:∃ j,C i=some j:=by
   rw[<- via] at hp;let⟨j,h1,_⟩:=Option.bind_eq_some_iff.1 hp;exact⟨j,h1⟩
  let⟨j,hj⟩:=this;exact⟨j,hj,by simp[oF,TN i j hj,hi]⟩
 .simp[oF,aoz]
 .cases hi:inv j with
  |some i=>
   simp[oF,hi,ej] at hj;obtain⟨r0,tg,rfl⟩:=hj;let⟨p,hp,hr⟩:=kO.row i r0 tg;refine⟨p,(βs i j (BS i j hi)).trans hp,dG.adx (F':=hidden F β f) (by rw[via];exact hr) (λb hb=>.inl hb) λb g1 g2=>?_⟩;let⟨k,q,hq,Hy⟩:=YY g1;rcases look k q hq with⟨i',_,_,X⟩|⟨h3,X⟩
   .exact absurd Hy (g2 i' q (by rw[via];exact X))
   .exact(M k q b h3 X Hy).1
  |none=>
   simp[oF,hi] at hj;split at hj
   .rename_i e;subst e;cases hj;exact⟨.raw l,(βn j hi).trans JV,.raw l o' ho⟩
   .rename_i aR;let⟨p,hp,hr⟩:=hm.row j r hj;refine⟨p,(βn j hi).trans hp,hr.gen hs.size (λb hb g1 g2=>⟨CT (gp b hb g2).1,(gp b hb g2).2,g1⟩) (λi p _=>kp i p) λb hb=>?_⟩;exact((M j p b hi hp hb).2 λe=>aR (hm.inj j il p _ b hp JV hb (e▸rfl))).2
 .rcases look i p hp with⟨i',a1,a2,a3⟩|⟨a1,a2⟩<;>rcases look j q hq with⟨j',b1,b2,b3⟩|⟨b1,b2⟩
  .have:=kO.inj i' j' p q b a3 b3 e e';subst this;rw[a2] at b2;cases b2;rfl
  .exact absurd (M j q b b1 b2 e').1 (kO.nf i' p b a3 e)
  .exact absurd (M i p b a1 a2 e).1 (kO.nf j' q b b3 e')
  .exact hm.inj i j p q b a2 b2 e e'
 .rcases look j p hp with⟨i',a1,a2,a3⟩|⟨a1,a2⟩
  .exact kO.lt i' p b a3 e
  .exact Nat.lt_of_lt_of_le (hm.lt j p b a2 e) hs.size
 .rcases look j p hp with⟨i',a1,a2,a3⟩|⟨a1,a2⟩
  .exact kO.nf i' p b a3 e (.inl hF)
  .exact hm.nf j p b a2 e hF
 .exact hm.fb.next (λb hb=>Nat.lt_of_lt_of_le (hm.fb.lt b hb) hs.size) (λ_ h=>h) λt _ hF=>(gp _ (hm.fb.lt _ hF) λi p hp e=>hm.nf i p _ hp e hF).1
 .cases dT:inv i with
  |none=>exact(βn i dT).trans (hn i oG)
  |some i0=>
   rcases Bl i0 i (BS i0 i dT) with⟨a1,a2,a3⟩|⟨a1,a2,a3⟩<;>omega
 .cases dT:inv i with
  |none=>exact(βn i dT).trans hb
  |some i0=>
   have hf:=BS i0 i dT;rw[βs i0 i hf];rcases Bl i0 i hf with⟨a1,a2,a3⟩|⟨a1,a2,a3⟩
   .exact hg i0 a2 (by simp[aZ.via,a1,hb])
   .omega
def PT{β:aZ}{w:World}:∀ (ts:List Tmp) (ds:List D) (vs:List Value) (env:Env) (tmps:Array Value),vs.length=ds.length->(∀ (k:Nat) (d:D) (v:Value),ds[k]? =some d->vs[k]? =some v->R F β w d v)->
 (∀ t,t∈ts->t<tmps.size)->jd F β w env { tmps:=tmps,defers:=[] }->
 jd F β w (z6 env ts ds) { tmps:=(ts.zip vs).foldl (λtmps (t,a)=>tmps.setIfInBounds t a) tmps,defers:=[] }/\((ts.zip vs).foldl (λtmps (t,a)=>tmps.setIfInBounds t a) tmps).size=tmps.size
 |[],_,_,env,tmps,_,_,_,h=>by simpa[z6] using h
 |_::_,[],[],env,tmps,_,_,_,h=>by simpa[z6] using h
 |_::_,[],_::_,_,_,hl,_,_,_=>by simp at hl
 |_::_,_::_,[],_,_,hl,_,_,_=>by simp at hl
 |t::ts,d::ds,v::vs,env,tmps,hl,hR,ao,h=>by
  have h1:jd F β w (up env t d) { tmps:=tmps.setIfInBounds t v,defers:=[] }:=by
   have:=h.put (some t) d v (hR 0 d v rfl rfl) (λu hu=>by cases hu;exact ao t oS);simpa[Act.put,up] using this
  have:=PT ts ds vs (up env t d) (tmps.setIfInBounds t v) (s0 hl) (λk d v hd hv=>hR (k+1) d v (s0 hd) (s0 hv)) (λu hu=>s0 (ao u (by simp[hu]))) h1;simp[z6,zip_cons_cons,foldl_cons];exact⟨this.1,by rw[this.2];simp⟩
def HF{c:Code}{b:Frame}{w:World}:step P (lone (b.atR a (.code (.scope c)::k)) cs w)=.next (lone (b.atR a (.code c::.inScope c::k)) cs w):=
 step_lone_go (by simp[stepG,stepG.exec,Frame.atR])
def agw{b:Frame}{w:World}:step P (lone (b.atR a (.inScope c::k)) cs w)=.next (lone (b.atR a k) cs w):=
 step_lone_go (by simp[stepG,stepG.exec,Frame.atR])
def KM{I:Machine->Prop}{m:Machine}{b:Frame}{c:Code}{e:Exit}{w:World}
 (hn:e≠ .normal) (hg:∀ l,e≠ .goto l) (h:ArrivesIn I P m b (.inScope c::k) cs e a w):ArrivesIn I P m b k cs e a w:=by
 cases e with
 |normal=>exact absurd rfl hn
 |exit id=>exact⟨λk' hk=>h.1 k' (by simp[exitTo,hk]),λhr hk=>h.2 hr (by simp[exitTo,hk])⟩
 |goto l=>exact absurd rfl (hg l)
 |ret=>exact h
 |panic chain=>exact h
 |outgrown=>exact h
def Xn{U:Fence}{w:World}(h:c.wpIn U n P (Exit.noGoto Q) a w):(Code.scope c).wpIn U n P Q a w:=by
 intro b k cs X hb hr;have h0:(lone (b.atR a (.code (.scope c)::k)) cs w).fenced P U:=fenced_calm hb hr rfl;let⟨e,C,M,hq,J⟩:=h b (.inScope c::k) cs X hb hr;cases e with
 |normal=>exact⟨.normal,C,M,hq,.head h0 HF (StepsIn.trans J (.one (fenced_calm hb hr rfl) agw))⟩
 |goto l=>exact hq.elim
 |exit id=>exact⟨.exit id,C,M,hq,.of_steps (.one h0 HF) (KM (c:=c) oS oS J)⟩
 |ret=>exact⟨.ret,C,M,hq,.of_steps (.one h0 HF) (KM (c:=c) oS oS J)⟩
 |panic ch=>exact⟨.panic ch,C,M,hq,.of_steps (.one h0 HF) (KM (c:=c) oS oS J)⟩
 |outgrown=>exact⟨.outgrown,C,M,hq,.of_steps (.one h0 HF) (KM (c:=c) oS oS J)⟩
def Jump(env:Env)(Q:Exit->St->Prop):Code->Mem->Nat->Prop
 | .ret,m,nx=>Q .ret ⟨env,m,nx⟩
 | .exit id,m,nx=>Q (.exit id) ⟨env,m,nx⟩
 |_,_,_=>False
def FH(il l:Nat)(n₀:Nat)(o:Obj)(I:Mem->Nat->Prop)(m:Mem)(nx:Nat):Prop:=∃ f mc nc,View il n₀ f mc nc m nx/\m il=some (.raw l o)/\I mc nc
def FH.closed{I:Mem->Nat->Prop}:Bs (FH il l n₀ o I):=by
 rintro m nx m' nx' ⟨f,mc,nc,h1,h2,J⟩ C he;exact⟨f,mc,nc,h1.ext C he,(he il h1.lt).trans h2,J⟩
def X2(ps:Array Tmp)(us:Array Value)(tmps:Array Value):
 (ps.zip us).foldl (λtmps (t,a)=>tmps.setIfInBounds t a) tmps=(ps.toList.zip us.toList).foldl (λtmps (t,a)=>tmps.setIfInBounds t a) tmps:=by
 rw[<- Array.foldl_toList];simp
def WK{β:aZ}{w:World}{g:Operand}{f:FuncId}{fs cs:List D}(hR:R F β w (.fn (.func f) fs cs) (a.eval g))(he:pD P f=true)(l:Nat)(w':World):
 ∃ (us vs:List Value) (d:Deferred),us.length=fs.length/\vs.length=cs.length/\(∀ (k:Nat) (d:D) (v:Value),fs[k]? =some d->us[k]? =some v->R F β w d v)/\(∀ (k:Nat) (d:D) (v:Value),cs[k]? =some d->vs[k]? =some v->R F β w d v)/\
  (resolve a.eval (rangeCall g l) 0).run P w'=.ok d w'/\(invoke d.target d.args).run P w'=.ok (.enter f (us.toArray++ #[.func (.yield l) #[] #[]]++vs.toArray)) w':=by
 generalize hv:a.eval g=v at hR;cases hR with
 |fn _ _ _ us vs hl mK hh C=>
 refine⟨us,vs,{ target:=.fn (.func f) vs.toArray,args:=us.toArray++ #[.func (.yield l) #[] #[]] },hl,mK,hh,C,?_,?_⟩
 .simp only[resolve,hv,Sem.run_bind,Deferred.ofValue];simp[go_sem]
 .simp only[invoke];unfold callFunc;unfold pD at he;simp only[Sem.run_bind,run_program,Result.andThen_ok];split at he
  .rename_i fn J;simp only[aJ,Bool.not_eq_true'] at he
   have hb:fn.body.isNone=false:=by
    cases M:fn.body<;>simp_all
   rw[J];simp only[he.1,hb,Bool.false_eq_true,if_false,Sem.run_pure]
  .cases he
def Rs.append{β:aZ}{w:World}{aS bs:List D}{xs ys:Array Value}(h:Rs F β w aS xs)(k:Rs F β w bs ys):Rs F β w (aS++bs) (xs++ys):=by
 refine⟨by simp[h.1,k.1],λj d v hd hv=>?_⟩;rcases Nat.lt_or_ge j aS.length with hj|hj
 .rw[getElem?_append_left hj] at hd;rw[Array.getElem?_append_left (by rw[h.1];exact hj)] at hv;exact h.2 j d v hd hv
 .rw[getElem?_append_right hj] at hd;rw[Array.getElem?_append_right (by rw[h.1];exact hj),h.1] at hv;exact k.2 _ d v hd hv
def akQ(oq:P.follows .mixedOrders=true):∀ (c:Code) (F:Nat->Prop) (r:Option Nat) (n:Nat) (Y:iu) (rf:Bool) (N₀:Nat) (β₀:aZ) (w₀:World) (a₀:Act),(rf=true->r=none)->
 (∀ l args m nx K,Y l args m nx K->ua P F β₀ w₀ l args m nx K)->ke a₀.tmps.size c=true->∀ (Q:Exit->St->Prop) (st:St) (β:aZ) (w:World) (a:Act),
 AW P Y rf c Q st->dt P F st β w a->rU N₀ β₀ w₀ a₀ st β w a->c.wpIn (Fe r) n P (IZ P F N₀ β₀ w₀ a₀ Q) a w:=by
 intro c
 induction c with
 |skip=>exact λF r n Y rf N₀ β₀ w₀ a₀ U X _ Q st β w a h hs J=>wpIn_skip ⟨st,β,h,hs,J⟩
 |ret=>exact λF r n Y rf N₀ β₀ w₀ a₀ U X _ Q st β w a h hs J=>wpIn_ret ⟨st,β,h,hs,J⟩
 |exit id=>exact λF r n Y rf N₀ β₀ w₀ a₀ U X _ Q st β w a h hs J=>wpIn_exit ⟨st,β,h,hs,J⟩
 |label l=>exact λF r n Y rf N₀ β₀ w₀ a₀ U X _ Q st β w a h hs J=>wpIn_label ⟨st,β,h,hs,J⟩
 |region id ops draw=>
  intro F r n Y rf N₀ β₀ w₀ a₀ U X ao Q st β w a h hs J;have pZ:tZ a.tmps.size ops=true:=by rw[J.size];exact ao
  cases draw with
  |false=>
   refine wpIn_mono (agX (N:=st.nx) (β₀:=β) (w₀:=w) (a₀:=a) (λl args m nx K hy=>(X l args m nx K hy).base J.step) pZ h hs (fW.refl st β w a)) λe a' w' hp=>?_;let⟨st',β',hq,fe,ix⟩:=hp;exact⟨st',β',hq,fe,J.since ix⟩
  |true=>
   simp only[AW] at h;split at h
   .rename_i cf ns;refine wpIn_mono (agY (N₀:=st.nx) (β₀:=β) (w₀:=w) (a₀:=a) oq ns pZ h hs (fW.refl st β w a)) λe a' w' hp=>?_;let⟨st',β',hq,fe,ix⟩:=hp;exact⟨st',β',hq,fe,J.since ix⟩
   .exact h.elim
 |seq x y Og Oh=>
  intro F r n Y rf N₀ β₀ w₀ a₀ U X ao Q st β w a h hs J;simp only[ke,aJ] at ao;refine wpIn_seq (wpIn_mono (Og F r n Y rf N₀ β₀ w₀ a₀ U X ao.1 _ st β w a h hs J) λe a' w' hp=>?_);let⟨st',β',hq,fe,ix⟩:=hp;cases e with
  |normal=>
   let⟨mF,hg,hy⟩:=hq;let⟨mL,Jn,SU⟩:=WX hg fe;exact Oh F r n Y rf N₀ β₀ w₀ a₀ U X ao.2 Q mF mL w' a' hy Jn (ix.since SU)
  |_=>exact⟨st',β',hq,fe,ix⟩
 |cond c x y Og Oh=>
  intro F r n Y rf N₀ β₀ w₀ a₀ U X ao Q st β w a h hs J;simp only[ke,aJ] at ao;let⟨ha,h⟩:=h;have hR:=(hs.e.opd c).Bk _ ha;split at h
  .rename_i t ht;rw[ht] at hR;exact wpIn_cond_split hR.du.1 (λe=>Og F r n Y rf N₀ β₀ w₀ a₀ U X ao.1 Q st β w a (h.1 e) hs J) λe=>Oh F r n Y rf N₀ β₀ w₀ a₀ U X ao.2 Q st β w a (h.2 e) hs J
  .rename_i ht;rw[ht] at hR;let⟨b,hb⟩:=hR.IB;exact wpIn_cond_split hb (λ_=>Og F r n Y rf N₀ β₀ w₀ a₀ U X ao.1 Q st β w a h.1 hs J) λ_=>Oh F r n Y rf N₀ β₀ w₀ a₀ U X ao.2 Q st β w a h.2 hs J
  .exact h.elim
 |scope b ih=>
  intro F r n Y rf N₀ β₀ w₀ a₀ U X ao Q st β w a h hs J;refine Xn (wpIn_mono (ih F r n Y rf N₀ β₀ w₀ a₀ U X ao _ st β w a h hs J) λe a' w' hp=>?_);let⟨st',β',hq,fe,ix⟩:=hp;cases e with
  |goto l=>exact hq.elim
  |_=>exact⟨st',β',hq,fe,ix⟩
 |block id b ih=>
  intro F r n Y rf N₀ β₀ w₀ a₀ U X ao Q st β w a h hs J;refine wpIn_block (wpIn_mono (ih F r n Y rf N₀ β₀ w₀ a₀ U X ao _ st β w a h hs J) λe a' w' hp=>?_);let⟨st',β',hq,fe,ix⟩:=hp;cases e with
  |exit i=>
   simp only[kf] at hq;simp only[Exit.inBlock];split at hq
   .rename_i hi;rw[bi hi];exact⟨st',β',hq,fe,ix⟩
   .rename_i hi;rw[ai hi];exact⟨st',β',hq,fe,ix⟩
  |_=>exact⟨st',β',hq,fe,ix⟩
 |loop b ih=>
  intro F r n Y rf N₀ β₀ w₀ a₀ U X ao Q st β w a h hs J;let⟨I,μ,hI,FI⟩:=h;apply WJ (λj a w=>∃ st β,I st/\μ st=j/\dt P F st β w a/\rU N₀ β₀ w₀ a₀ st β w a) ⟨st,β,hI,rfl,hs,J⟩;rintro j a w ⟨st,β,hI,hμ,hs,J⟩;refine wpIn_mono (ih F r n Y rf N₀ β₀ w₀ a₀ U X ao _ st β w a (FI st hI) hs J) λe a' w' hp=>?_;let⟨st',β',hq,fe,ix⟩:=hp;cases e with
  |normal=>
   let⟨mM,hg,Oi,atM⟩:=hq;let⟨mL,Jn,SU⟩:=WX hg fe;exact⟨μ mM,oG,mM,mL,Oi,rfl,Jn,ix.since SU⟩
  |_=>exact⟨st',β',hq,fe,ix⟩
 |rangeFunc g ps assign body Ci Cj=>
  intro F r n Y rf N₀ β₀ w₀ a₀ U X ao Q st β w a h hs J;let⟨env,mem,nx⟩:=st;let⟨TO,NG,f,fs,cs,xs,I,Nd,NH,Nf,Oj,FI,yZ⟩:=h;simp only at NG Nd Oj FI yZ;have hr:=U TO;subst hr;simp only[ke,aJ,bK,Nat.blt_eq] at ao;let⟨rV,TP,TQ⟩:=ao;have cC:a.tmps.size=a₀.tmps.size:=J.size;have hR:=(hs.e.opd g).Bk _ NG;simp only[Nd] at hR;refine wpIn_rangeFunc λfn uA=>?_;obtain⟨C,At⟩:∃ C:LoopState->Option Code->Loop,C=λst pe=>{ state:=st,pending:=pe,fn,tmps:=a.tmps,params:=ps,assign,body,defers:=w.heap.size }:=⟨_,rfl⟩
  obtain⟨W1,uD⟩:∃ W1,(w.alloc (.deferred (some []))).alloc (.loop (C .ready none))=W1:=⟨_,rfl⟩
  let⟨us,vs,d,JW,wj,hu,hv,qJ,hinv⟩:=WK (P:=P) hR NH.1 (w.heap.size+1) W1;have hn:∀ i,nx<=i->β i=none:=hs.n;have UY:∀ t∈BQ,t.1≠w.heap.size+1:=λt ht e=>by have:=hs.m.fb.lt _ (hs.m.fb.nR t ht).1;omega
  have UX:¬ F (w.heap.size+1):=λe=>by have:=hs.m.fb.lt _ e;omega
  let f₀:Nat->Option Nat:=λi=>if i<nx then some i else none
  have ady:β.via f₀=β:=by
   funext i;simp only[aZ.via,f₀];split
   .rfl
   .exact(hn i oG).symm
  have p8:bc P F (λi=>(mem i).map (Row.ze f₀)) β w:=⟨λi r hi=>by
   simp only[ej] at hi;obtain⟨r0,h1,rfl⟩:=hi;let⟨p,hp,hr⟩:=hs.m.row i r0 h1
   exact⟨p,hp,dG.adx (F':=F) (by rw[ady];exact hr) (λ_ h=>h) λb g1 g2=>absurd (ady▸g2) g1⟩,hs.m.inj,hs.m.lt,hs.m.nf,hs.m.fb⟩
  have zu:Step β w β (w.alloc (.deferred (some []))):=Ff oS λb hb=>heap_alloc_old w _ hb;have mN:bc P F (λi=>(mem i).map (Row.ze f₀)) β (w.alloc (.deferred (some []))):=p8.ext oS λb hb=>heap_alloc_old w _ hb
  have uE:bc P F (up (λi=>(mem i).map (Row.ze f₀)) nx (some (.raw (w.heap.size+1) (.loop (C .ready none))))) (up β nx (some (.raw (w.heap.size+1)))) W1:=by
   rw[<- uD];refine mN.alloc (hn nx (bY _)) _ _ _ (λb hb=>by simp only[Pl.cn,bg] at hb;simp;omega) (.raw _ _ ?_);have:=World.alloc_heap_new (w.alloc (.deferred (some []))) (.loop (C .ready none))
   rwa[World.size_alloc] at this
  have jR:Step β w (up β nx (some (.raw (w.heap.size+1)))) W1:=by
   rw[<- uD];exact zu.trans (EW mN _ (hn nx (bY _)) _ (λb hb=>by simp only[Pl.cn,bg] at hb;simp;omega))
  have UZ:W1.heap[w.heap.size]? =some (.deferred (some [])):=by
   rw[<- uD];rw[heap_alloc_old _ _ oS];exact World.alloc_heap_new w _
  have ID:aZ.free (up β nx (some (.raw (w.heap.size+1)))) w.heap.size:=
   wD (λi p hp e=>by have:=hs.m.lt i p _ hp e;omega) (by rintro q hq;cases hq;simp[Pl.cn])
  have atN:W1.heap.size=w.heap.size+2:=by rw[<- uD];simp
  have am4:∀ i,nx<=i->mem i=none:=λi hi=>by
   cases hm:mem i with
   |none=>rfl
   |some row=>
    let⟨p,hp,_⟩:=hs.m.row i row hm;rw[hn i hi] at hp;cases hp
  have own:∀ {f:Nat->Option Nat} {mc:Mem} {nc:Nat} {m:Mem} {iK:Nat} {β2:aZ} {w2:World},View nx nx f mc nc m iK->Step (up β nx (some (.raw (w.heap.size+1)))) W1 β2 w2->
   ∀ {d:D} {v:Value},R F β w d v->R (hidden F β2 f) (β2.via f) w2 d v:=λ{_ _ _ _ _ _ _} M cx {d v} h=>by
   have xr:=jR.trans cx;refine h.gen xr.size (λb hb hf qB=>?_) λi p _ hp=>?_
   .let⟨g1,g2⟩:=xr.gp b hb qB;exact⟨CT g1,aZ.Bg g2 _,λe=>e.elim hf λe=>e.1 g2⟩
   .have hi:i<nx:=by
     rcases Nat.lt_or_ge i nx with h1|h1
     .exact h1
     .rw[hn i h1] at hp;cases hp
    simp only[aZ.via,M.id i hi,Option.bind_some];exact xr.kp i p hp
  refine⟨w.heap.size+1,[mark w.heap.size],W1,d,W1,f,_,W1,?_,qJ,λf' _=>trivial,hinv,λhd=>by simp at hd,Ll ?_⟩
  .rw[<- uD,At];exact run_enterLoop_outer _ _ _ _ _
  refine(NH.2 F (w.heap.size+1) (λk=>FH nx (w.heap.size+1) nx (.loop (C .ready none)) (I k)) (λm k=>∃ c,FH nx (w.heap.size+1) nx (.loop (C .done (some c))) (Jump env Q c) m k)
   (up (λi=>(mem i).map (Row.ze f₀)) nx (some (.raw (w.heap.size+1) (.loop (C .ready none))))) (nx+1) (up β nx (some (.raw (w.heap.size+1)))) W1 _ (λk=>FH.closed) ?_ uE ?_ ?_ ?_ ?_).mono ?_
  .rintro m k m' k' ⟨c,hc⟩ hle he;exact⟨c,FH.closed m k m' k' hc hle he⟩
  .intro i hi;rw[aV _ _ (show i≠nx by omega)];exact hn i oG
  .refine Rs.append (Rs.append ?_ ?_) ?_
   .exact⟨by simp[JW],λk d v hd hv=>(hu k d v hd (s0 hv)).step jR⟩
   .refine⟨rfl,λk d v hd hv=>?_⟩;cases k with
    |zero=>
     simp only[getElem?_cons_zero,bg] at hd;simp only[getElem?_toArray,getElem?_cons_zero,bg] at hv;subst hd;subst hv;exact .fn _ [] [] [] [] rfl rfl oS oS
    |succ k=>simp at hd
   .exact⟨by simp[wj],λk d v hd Ec=>(hv k d v hd (s0 Ec)).step jR⟩
  .rintro k x m k' hx ⟨g,mc,nc,M,gh,XH⟩ β2 w2 AI Gs oI AJ AK;let⟨HP,BD,_,TR⟩:=oI.F3 gh;have TS:AI.size=ps.size:=by rw[AK.1];exact(Nf x (bD hx)).1
   have hy:=run_yield (P:=P) (args:=AI) BD (by rw[At];exact TS);simp only[At,X2] at hy;refine⟨fn,_,assign,body,hy,λn'=>?_⟩;let⟨U0,lO⟩:=M.enter oI;have JX:hidden F β2 g (w.heap.size+1):=(M.LK oI (λi e=>(M.BR e).2.2 rfl) HP rfl).2;have abf:(β2.via g).free (w.heap.size+1):=(M.LK oI (λi e=>(M.BR e).2.2 rfl) HP rfl).1;have U1:jd (hidden F β2 g) (β2.via g) w2 env { tmps:=a.tmps,defers:=[] }:=λt=>own M Gs (hs.e t)
   let⟨U2,Jo⟩:=PT ps.toList x AI.toList env a.tmps (by simp[AK.1]) (λj d v hd hv=>
    ((Nf x (bD hx)).2 d (bD hd) F β2 w2 v (AK.2 j d v hd (s0 hv))).gen (bY _)
     (λb _ hb _=>⟨sS.refl _ b,aZ.Bg (HJ hb).2 _,λe=>e.elim (HJ hb).1 λe=>e.1 (HJ hb).2⟩) (λi p _ hp=>by cases hp)) (λt ht=>by rw[cC];exact rV t ht) U1
   have TT:=Ci (hidden F β2 g) (some (w.heap.size+1)) n' iV false nc (β2.via g) w2
    { tmps:=(ps.toList.zip AI.toList).foldl (λtmps (t,a)=>tmps.setIfInBounds t a) a.tmps,defers:=[] } oS (λ_ _ _ _ _ h=>h.elim) (by show ke (Array.size _) assign=true;rw[Jo,cC];exact TP) _ ⟨z6 env ps.toList x,mc,nc⟩ (β2.via g) w2 _
    (FI k mc nc x hx XH) ⟨U2,U0,lO⟩ (fW.refl ⟨z6 env ps.toList x,mc,nc⟩ _ _ _).Eb
   refine roundIn_of_wpIn aa (wpIn_mono TT λe a3 w3 hp=>?_);let⟨mM,β3,Ol,wk,jS⟩:=hp;cases e with
   |normal=>
    have SV:w.heap.size+1<w3.heap.size:=Nat.lt_of_lt_of_le TR jS.step.size;have apw:w3.heap[w.heap.size+1]? =some (.loop (C .ready none)):=(jS.step.gp _ TR abf).1.trans BD;refine⟨_,run_beginRound apw (by rw[At]),?_⟩;have atO:=wk.zd (l:=w.heap.size+1) JX UY (.loop { C .ready none with state:=.busy });have SW:=Cj (hidden F β2 g) (some (w.heap.size+1)) n' iV false mM.nx β3 _ a3 oS (λ_ _ _ _ _ h=>h.elim) (by rw[jS.size];show ke (Array.size _) body=true;rw[Jo,cC];exact TQ) _ mM β3 _ a3 Ol atO (fW.refl mM _ _ _).Eb;refine wpIn_mono SW λe a4 w4 Ye=>?_;let⟨Ia,β4,Om,Ig,G3⟩:=Ye;have apx:w.heap.size+1<w4.heap.size:=Nat.lt_of_lt_of_le (s0 SV) G3.step.size
    have apy:w4.heap[w.heap.size+1]? =some (.loop { C .ready none with state:=.busy }):=
     (G3.step.gp _ (s0 SV) (jS.step.gp _ TR abf).2).1.trans (World.putObj_heap_same SV)
    have fin:∀ (jump:Option Code) (K:D->Mem->Nat->Prop),(∀ f' oF vN,View nx nx f' Ia.mem Ia.nx oF vN->oF nx=some (.raw (w.heap.size+1) (.loop (C (if jump.isNone then .ready else .done) jump)))->K (.s (.bool jump.isNone)) oF vN)->
     ∃ v w',(Instr.endRound (w.heap.size+1) jump).run P w4=.ok v w'/\∃ v' d m' nx' β',Ending.returned v=.returned v'/\K d m' nx'/\bc P F m' β' w'/\(∀ i,nx'<=i->β' i=none)/\R F β' w' d v'/\Step β2 w2 β' w'/\k'<=nx'/\∀ i,i<k'->β2 i=none->β' i=none:=λjump K hK=>by
     have fm:=run_endRound (P:=P) jump apy;have e1:∀ s p,({ ({ C .ready none with state:=.busy }:Loop) with state:=s,pending:=p }:Loop)=C s p:=λs p=>by rw[At]
     rw[e1] at fm
     let⟨f',oF,vN,mL,v1,v2,v3,v4,v5,v6,v7⟩:=M.apv oI AJ gh (o':=.loop (C (if jump.isNone then .ready else .done) jump)) (Ig.m.zd JX UY _)
      (((jS.step.x _).trans (yY.put _ β3 w3 _)).trans ((G3.step.x _).trans (yY.put _ β4 w4 _))) Ig.n (Nat.le_trans jS.le G3.le) (λi hi hb=>G3.grow i (Nat.lt_of_lt_of_le hi jS.le) (jS.grow i hi hb)) (World.putObj_heap_same apx)
     exact⟨_,_,fm,.bool jump.isNone,_,oF,vN,mL,rfl,hK f' oF vN v1 v2,v3,v4,.s _ rfl,v5,v6,v7⟩
    cases e with
    |normal=>exact fin none _ λf' oF vN v1 v2=>.inl ⟨rfl,f',_,_,v1,v2,Om⟩
    |ret=>exact fin (some .ret) _ λf' oF vN v1 v2=>.inr ⟨rfl,.ret,f',_,_,v1,v2,Om⟩
    |exit id=>exact fin (some (.exit id)) _ λf' oF vN v1 v2=>.inr ⟨rfl,.exit id,f',_,_,v1,v2,Om⟩
    |_=>exact Om.elim
   |_=>exact Ol.elim
  .refine⟨f₀,mem,nx,⟨bY _,oG,λi hi=>by simp[f₀,hi],λi hi=>⟨i,by simp[f₀,hi],oG,oG⟩,λi hi=>by simp[f₀,Nat.not_lt.2 hi],λi i' j h1 h2=>?_,λi r hi=>?_⟩,aw _ _ _,Oj⟩
   .simp only[f₀,Option.ite_none_right_eq_some,bg] at h1 h2;omega
   .have ao:i<nx:=by
     rcases Nat.lt_or_ge i nx with h1|h1
     .exact h1
     .rw[am4 i h1] at hi;cases hi
    exact⟨i,by simp[f₀,ao],by rw[aV _ _ (show i≠nx by omega),hi];rfl⟩
  .rintro e w6 ⟨v,d6,m6,G4,β6,rfl,adz,xI,Yf,_,qK,adA,TU⟩
   have fin:∀ {g:Nat->Option Nat} {mc:Mem} {nc:Nat} (o':Obj),View nx nx g mc nc m6 G4->
    dt P F ⟨env,mc,nc⟩ (β6.via g) (w6.putObj (w.heap.size+1) o') { a with defers:=[mark w.heap.size]++a.defers }/\
    rU N₀ β₀ w₀ a₀ ⟨env,mc,nc⟩ (β6.via g) (w6.putObj (w.heap.size+1) o') { a with defers:=[mark w.heap.size]++a.defers }:=λ{g mc nc} o' M=>by
    let⟨U0,lO⟩:=M.enter xI
    have JX:hidden F β6 g (w.heap.size+1):=by
     have hβ:β6 nx=some (.raw (w.heap.size+1))\/β6 nx=some .dead:=qK.kp nx _ r9;rcases hβ with hβ|hβ
     .exact(M.LK xI (λi e=>(M.BR e).2.2 rfl) hβ rfl).2
     .exfalso;rcases adz with⟨f',Yg,uC,_,TV,_⟩|⟨c,f',Yg,uC,_,TV,_⟩
      .rw[(xI.F3 TV).1] at hβ;cases hβ
      .rw[(xI.F3 TV).1] at hβ;cases hβ
    refine⟨⟨λt=>((own M qK (hs.e t)).zd JX o').xq λb hb=>.inl hb,(U0.zd JX UY o').xq (λb hb=>.inl hb) λt ht=>(hs.m.fb.nR t ht).1,lO⟩,J.trans ⟨⟨?_,λb hb hf=>?_,λi p hp=>?_,(jR.out.trans qK.out).trans ⟨rfl,rfl⟩,λi r hp lu=>?_⟩,M.low,λi hi hb=>?_,rfl,[mark w.heap.size],rfl,?_⟩⟩
    .have:=qK.size;simp;omega
    .let⟨g1,g2⟩:=jR.gp b hb hf;let⟨g3,g4⟩:=qK.gp b oG g2;exact⟨(World.putObj_heap_other oG).trans (g3.trans g1),aZ.Bg g4 _⟩
    .have hi:i<nx:=by
      rcases Nat.lt_or_ge i nx with h1|h1
      .exact h1
      .rw[hn i h1] at hp;cases hp
     simp only[aZ.via,M.id i hi,Option.bind_some];exact(jR.trans qK).kp i p hp
    .have hi:i<nx:=by
      rcases Nat.lt_or_ge i nx with h1|h1
      .exact h1
      .rw[hn i h1] at hp;cases hp
     simp only[aZ.via,M.id i hi,Option.bind_some] at lu;have:=hs.m.lt i _ r hp rfl;exact((jR.trans qK).lp i r hp lu).trans (sx (World.putObj_heap_other oG))
    .have hi:i<nx:=hi;simp only[aZ.via,M.id i hi,Option.bind_some];exact TU i oG (by rw[aV _ _ oG];exact hb)
    .refine⟨w.heap.size,rfl,bY _,?_,?_,?_,aa⟩
     .have:=qK.size;simp;omega
     .exact(World.putObj_heap_other oG).trans ((qK.gp _ oG ID).1.trans UZ)
     .exact aZ.Bg (qK.gp _ oG ID).2 _
   rcases adz with⟨g,mc,nc,M,gh,hI⟩|⟨c,g,mc,nc,M,gh,hj⟩
   .have fm:(Instr.endLoop (w.heap.size+1)).run P w6=.ok none (w6.putObj (w.heap.size+1) (.loop (C .exhausted none))):=by
     have:=run_endLoop (P:=P) (xI.F3 gh).2.1 (by rw[At];simp);rw[At] at this ⊢;exact this
    let⟨g1,g2⟩:=fin (.loop (C .exhausted none)) M;exact⟨none,_,fm,⟨env,mc,nc⟩,_,yZ mc nc hI,g1,g2⟩
   .have fm:(Instr.endLoop (w.heap.size+1)).run P w6=.ok (some c) (w6.putObj (w.heap.size+1) (.loop (C .exhausted (some c)))):=by
     have:=run_endLoop (P:=P) (xI.F3 gh).2.1 (by rw[At];simp);rw[At] at this ⊢;exact this
    let⟨g1,g2⟩:=fin (.loop (C .exhausted (some c))) M;refine⟨some c,_,fm,?_⟩;cases c with
    |ret=>exact wpIn_ret ⟨⟨env,mc,nc⟩,_,hj,g1,g2⟩
    |exit id=>exact wpIn_exit ⟨⟨env,mc,nc⟩,_,hj,g1,g2⟩
    |_=>exact hj.elim
 |_=>intro F r n Y rf N₀ β₀ w₀ a₀ U X ao Q st β w a h;exact h.elim
end
end
section
variable{st:St}{β:aZ}{w:World}{a:Act}{d:D}{b:Nat}{x:Option (List Deferred)}{args:List D}{m:Mem}{nx:Nat}{f:FuncId}{c:Code}{es:List D}{k:Nat}{t:TypeId}
section
variable{P:Program}{F:Nat->Prop}{fn:Func}
def Gw(tmps:Array Value):ResultVar->Sem Value
 | .tmp t=>pure (tmps.getD t undef)
 | .cell x t=>do loadVar t (<- asAddr (tmps.getD x undef))
def aht(fn:Func)(tmps:Array Value):results fn tmps=(do
 let vs<- fn.results.mapM (Gw tmps)
 pure (if h:vs.size=1 then vs[0] else .tuple vs)):=by
 unfold results;congr 1
def ane(hs:dt P F st β w a){r:ResultVar}{p:Prop}(h:vP P st r=some (p,d))(hp:p):
 ∃ v,(Gw a.tmps r).run P w=.ok v w/\R F β w d v:=by
 unfold vP at h;split at h
 .cases h;exact⟨_,by simp[Gw],hs.e _⟩
 .rename_i x t;have hx:=hs.e x;split at h
  .rename_i i off C;rw[C] at hx;split at h
   .rename_i cs e hm;cases h;let⟨b,o,room,sz,M,hv,aF⟩:=hx.MO hs.m hm;let⟨u,hu,hr⟩:=KR (P:=P) hp.1 (aF.rd.1.drop off) oP;refine⟨u,?_,hr⟩;simp[Gw,hv,Sem.run_bind];simp[asAddr,hu]
   .cases h
  .rename_i cs C;rw[C] at hx;cases h;let⟨b,o,hv,_,_,_,J⟩:=hx.MP;let⟨u,hu,hr⟩:=KR (P:=P) hp.1 J hp.2;refine⟨u,?_,hr⟩;simp[Gw,hv,Sem.run_bind];simp[asAddr,hu]
  .cases h
def Y2(hs:dt P F st β w a){K:List D->Prop}:∀ (rs:List ResultVar) (acc:List D),uo P st rs acc K->
 ∃ vs ds,(rs.mapM (Gw a.tmps)).run P w=.ok vs w/\vs.length=ds.length/\K (acc++ds)/\
  ∀ (k:Nat) (d:D) (v:Value),ds[k]? =some d->vs[k]? =some v->R F β w d v
 |[],acc,h=>⟨[],[],oS,rfl,by simpa[uo] using h,oS⟩
 |r::rs,acc,h=>by
  simp[uo] at h;split at h
  .rename_i p d hr;let⟨v,h1,h2⟩:=ane hs hr h.1;let⟨vs,ds,C,J,M,U⟩:=Y2 hs rs _ h.2;refine⟨v::vs,d::ds,?_,by simp[J],s0 M,λk d' X hd hv=>?_⟩
   .rw[mapM_cons];simp[Sem.run_bind];rw[h1];simp[Result.andThen_ok,Sem.run_bind];rw[C];simp
   .cases k with
    |zero=>simp at hd hv;subst hd;subst hv;exact h2
    |succ k=>exact U k d' X (s0 hd) (s0 hv)
  .exact h.elim
def WY(hs:dt P F st β w a){K:D->Prop}(h:uo P st fn.results.toList [] λds=>K (Av ds)):
 ∃ v d,(results fn a.tmps).run P w=.ok v w/\K d/\R F β w d v:=by
 let⟨vs,ds,h1,h2,C,J⟩:=Y2 hs _ _ h;simp only[nil_append] at C;refine⟨if h:vs.toArray.size=1 then vs.toArray[0] else .tuple vs.toArray,Av ds,?_,C,?_⟩
 .rw[aht,Array.mapM_eq_mapM_toList];simp only[Sem.run_bind,map_eq_pure_bind,bind_assoc];rw[h1];simp
 .split
  .rename_i cC;simp only[size_toArray] at cC;obtain⟨v,rfl⟩:=length_eq_one_iff.1 cC;obtain⟨d,rfl⟩:=length_eq_one_iff.1 (show ds.length=1 by simpa using h2.symm);exact J 0 d v rfl rfl
  .rename_i cC;simp only[size_toArray] at cC
   have:Av ds=.bu ds:=by
    unfold Av;split
    .rename_i d;simp at h2;exact absurd h2 cC
    .rfl
   rw[this];exact .bu ds vs h2 J
def agy(h:w.heap[b]? =some (.deferred x))(o:Nat):w.cell? ⟨b,o,none⟩=none:=by
 simp[World.cell?,h]
def R.Y3(hb:w.heap[b]? =some (.deferred x))(o:Obj)(J:Nat):sS w (w.putObj b o) J:=by
 refine⟨λk u hu=>?_,λms c hm=>?_⟩
 .have C:J≠b:=λe=>by rw[e,agy hb] at hu;cases hu
  exact(cell_of_heap (World.putObj_heap_other C)).trans hu
 .have C:J≠b:=λe=>by rw[e,hb] at hm;cases hm
  exact(World.putObj_heap_other C).trans hm
def dt.mG(hb:w.heap[b]? =some (.deferred x))(hf:β.free b)(o:Obj)(h:dt P F st β w a):dt P F st β (w.putObj b o) a:=
 ⟨λt=>(h.e t).gen oS (λC _ h1 h2=>⟨R.Y3 hb o C,h2,h1⟩) λ_ _ _ h=>.inl h,⟨λi r hi=>by
  let⟨p,hp,hr⟩:=h.m.row i r hi;exact⟨p,hp,hr.gen oS (λC _ h1 h2=>⟨R.Y3 hb o C,h2,h1⟩) (λ_ _ _ h=>.inl h) λc hc=>World.putObj_heap_other λe=>hf i p hp (e▸hc)⟩,
  h.m.inj,λi p c hp hc=>s0 (h.m.lt i p c hp hc),h.m.nf,h.m.fb.next (λc hc=>s0 (h.m.fb.lt c hc)) (λ_ h=>h) λt ht _=>World.putObj_heap_other λe=>am5 (h.m.fb.nR t ht).2 x (by rw[e];exact hb)⟩,h.n⟩
def Marks.put{w:World}{lo:Nat}(o:Obj):∀ {ds:List Deferred} {hi:Nat},hi<=b->Marks β w lo ds hi->Marks β (w.putObj b o) lo ds hi
 |[],_,_,_=>trivial
 |_::_,_,hle,⟨c,h1,h2,h3,h4,h5,h6⟩=>⟨c,h1,h2,h3,(World.putObj_heap_other oG).trans h4,h5,Marks.put o oG h6⟩
def WQ{n:Nat}{tmps:Array Value}{R:Ending->World->Prop}{β₀:aZ}{w₀:World}{u:FrameMode}(hu:u≠ .run):∀ (ds:List Deferred) (hi:Nat) (w:World),Marks β w w₀.heap.size ds hi->dt P F st β w a->Step β₀ w₀ β w->
 (∀ w',dt P F st β w' a->Step β₀ w₀ β w'->LeavesIn (Fe none) n P fn tmps R [] u w')->LeavesInM (Fe none) n P fn tmps R ds u w
 |[],_,w,_,hs,cx,K=>K w hs cx
 |d::ds,hi,w,⟨b,h1,h2,h3,h4,h5,h6⟩,hs,cx,K=>by
  subst h1;refine⟨hu,.inl ⟨b,_,rfl,run_takeDeferred h4,WQ hu ds b _ (h6.put _ (bY _)) (hs.mG h4 h5 _) ?_ K⟩⟩;refine⟨s0 cx.size,λc hc hf=>?_,cx.kp,cx.out.trans ⟨rfl,rfl⟩,λi r hp C=>(cx.lp i r hp C).trans (sx (World.putObj_heap_other λe=>h5 i _ C (by simp[Pl.cn,e])))⟩;let⟨J,M⟩:=cx.gp c hc hf;exact⟨(World.putObj_heap_other oG).trans J,M⟩
def apG(P:Program)(fn:Func)(R:Ending->World->Prop)(a:Act)(w:World):Exit->Prop
 | .normal | .ret=>∃ v,(results fn a.tmps).run P w=.ok v w/\R (.returned v) w
 | .panic ch=>R (.panicked ch) w
 |_=>False
def X3(hn:args.length<=fn.ntmps){vs:Array Value}(hm:bc P F m β w)(M:∀ i,nx<=i->β i=none)(hR:Rs F β w args vs):
 (vs++Array.replicate (fn.ntmps - vs.size) undef).size=fn.ntmps/\dt P F ⟨pN args,m,nx⟩ β w { tmps:=vs++Array.replicate (fn.ntmps - vs.size) undef,defers:=[] }:=by
 have cC:(vs++Array.replicate (fn.ntmps - vs.size) undef).size=fn.ntmps:=by
  simp[Array.size_append,Array.size_replicate,hR.1];omega
 let a₀:Act:={ tmps:=vs++Array.replicate (fn.ntmps - vs.size) undef,defers:=[] }
 have U:jd F β w (pN args) a₀:=λt=>by
  unfold pN;rcases Nat.lt_or_ge t args.length with ao|J
  .have h1:args.getD t .u=args[t]:=by simp[ao]
   have h2:a₀.tmps.getD t undef=vs[t]'(by rw[hR.1];exact ao):=by
    show(vs++Array.replicate (fn.ntmps - vs.size) undef).getD t undef=_;have C:t<vs.size:=by rw[hR.1];exact ao
    simp[Array.getD_eq_getD_getElem?,Array.getElem?_append_left C,C]
   rw[h1,h2];exact hR.2 t _ _ (by simp[ao]) (by simp[hR.1,ao])
  .have h1:args.getD t .u=.u:=by simp[J]
   rw[h1];exact .u _
 exact⟨cC,U,hm,M⟩
def agZ(hf:P.funcs[f]? =some fn)(hb:fn.body=some c)(hn:args.length<=fn.ntmps){R:Ending->World->Prop}
 {β:aZ} {w:World} {vs:Array Value} (hm:bc P F m β w) (C:∀ i,nx<=i->β i=none) (hR:Rs F β w args vs)
 (h:∀ a:Act,a.tmps=vs++Array.replicate (fn.ntmps - vs.size) undef->a.tmps.size=fn.ntmps->a.defers=[]->dt P F ⟨pN args,m,nx⟩ β w a->c.wpIn (Fe none) 0 P (bodyPostM (Fe none) 0 P fn R) a w):Calls P f vs w R:=by
 refine(callsIn_wide (n:=0)).1 (callsIn_of_wp_marks hf hb aa ?_);exact h _ rfl (X3 hn hm C hR).1 rfl (X3 hn hm C hR).2
def Y4(hf:P.funcs[f]? =some fn)(hb:fn.body=some c)(hn:args.length<=fn.ntmps){Q:Exit->St->Prop}{R:Ending->World->Prop}
 {β:aZ} {w:World} {vs:Array Value} (hm:bc P F m β w) (dA:∀ i,nx<=i->β i=none) (hR:Rs F β w args vs)
 (h:∀ a:Act,a.tmps.size=fn.ntmps->dt P F ⟨pN args,m,nx⟩ β w a->c.wpIn (Fe none) 0 P (IZ P F nx β w a Q) a w)
 (pd:∀ e st' β' w' a',Q e st'->dt P F st' β' w' a'->Step β w β' w'->nx<=st'.nx->(∀ i,i<nx->β i=none->β' i=none)->apG P fn R a' w' e):Calls P f vs w R:=by
 refine agZ hf hb hn hm dA hR λa _ ha hd hs=>wpIn_mono (h a ha hs) λe a' w' hp=>?_;let⟨st',β',hq,M,J⟩:=hp;let⟨ds,h1,h2⟩:=J.defers;rw[hd,append_nil] at h1;have hl:=λC (Jn:dt P F st' β' C a') (X:Step β w β' C)=>pd e st' β' C a' hq Jn X J.le J.grow
 have U:∀ {u:FrameMode},u≠ .run->(∀ C,dt P F st' β' C a'->Step β w β' C->LeavesIn (Fe none) 0 P fn a'.tmps R [] u C)->LeavesInM (Fe none) 0 P fn a'.tmps R a'.defers u w':=λhu hk=>by
  rw[h1];exact WQ hu ds _ w' h2 M J.step hk
 cases e with
 |normal=>exact U oS hl
 |ret=>exact U oS hl
 |panic ch=>exact U oS hl
 |exit=>exact hl w' M J.step
 |goto=>exact hl w' M J.step
 |outgrown=>exact(hl w' M J.step).elim
def Lo(oq:P.follows .mixedOrders=true){Y:iu}(hf:P.funcs[f]? =some fn)(hb:fn.body=some c)(ao:ke fn.ntmps c=true)(hn:Nat.ble args.length fn.ntmps=true){K:D->St->Prop}
 (h:AW P Y true c (pb P fn.results.toList K) ⟨pN args,m,nx⟩) {β:aZ} {w:World} {vs:Array Value} (hY:∀ l args m nx K,Y l args m nx K->ua P F β w l args m nx K) (hm:bc P F m β w) (dA:∀ i,nx<=i->β i=none) (hR:Rs F β w args vs):
 Calls P f vs w λe w'=>∃ v d st' β',e=.returned v/\K d st'/\R F β' w' d v/\bc P F st'.mem β' w'/\(∀ i,st'.nx<=i->β' i=none)/\Step β w β' w'/\nx<=st'.nx/\∀ i,i<nx->β i=none->β' i=none:=by
 refine Y4 hf hb (s0 hn) hm dA hR (λa ha hs=>akQ oq c F none 0 Y true nx β w a (λ_=>rfl) hY (by rw[ha];exact ao) _ _ β w a h hs (fW.refl ⟨pN args,m,nx⟩ β w a).Eb) λe st' β' w' a' hq hs X C U=>?_
 have J:(uo P st' fn.results.toList [] λds=>K (Av ds) st')->∃ v,(results fn a'.tmps).run P w'=.ok v w'/\∃ M d st' β',Ending.returned v=.returned M/\K d st'/\R F β' w' d M/\bc P F st'.mem β' w'/\(∀ i,st'.nx<=i->β' i=none)/\Step β w β' w'/\nx<=st'.nx/\∀ i,i<nx->β i=none->β' i=none:=λhq=>by
  let⟨v,d,g1,g2,g3⟩:=WY (K:=λd=>K d st') hs hq;exact⟨v,g1,v,d,st',β',rfl,g2,g3,hs.m,hs.n,X,C,U⟩
 cases e with
 |normal=>exact J hq
 |ret=>exact J hq
 |_=>exact hq.elim
def K6(C:FB F w):bc P F (λ_=>none) j9 w:=
 ⟨λi r h=>oH,λi j p q b h=>oH,λi p b h=>oH,λi p b h=>oH,C⟩
def PE{β':aZ}{w':World}(h:Step j9 w β' w'):Kept w w':=
 ⟨h.size,λb hb=>(h.gp b hb λi p hp=>by cases hp).1,h.out⟩
def Tr.S7(h:Tr d){v:Value}(hv:R F β w d v):R F j9 w d v:=
 (h F β w v hv).lift λb hb=>⟨λe=>hb (.inl e),λi p hp=>by cases hp⟩
structure Aw(P:Program)(f:FuncId)(fn:Func)(c:Code):Prop where
 hf:P.funcs[f]? =some fn
 hb:fn.body=some c
 ao:ke fn.ntmps c=true
 he:pD P f=true
def akU(oq:P.follows .mixedOrders=true)(hf:Aw P f fn c)(hn:Nat.ble args.length fn.ntmps=true){fq:D->Mem->Nat->Prop}
 (h:AW P iV true c (pb P fn.results.toList λd st=>fq d st.mem st.nx) ⟨pN args,m,nx⟩):js P f args m nx fq:=
 ⟨hf.he,λF β w vs hm C hR=>(Lo oq hf.hf hf.hb hf.ao hn h (λ_ _ _ _ _ h=>h.elim) hm C hR).mono λe w' ⟨v,d,st',β',h1,h2,J,M,U,X,h7,h8⟩=>⟨v,d,st'.mem,st'.nx,β',h1,h2,M,U,J,X,h7,h8⟩⟩
def akV(U:P.follows .mixedOrders=true)(hf:Aw P f fn c)(hn:Nat.ble args.length fn.ntmps=true)(ht:∀ a∈args,Tr a){r:D}(hr:Tr r)
 (h:AW P iV true c (pb P fn.results.toList λd _=>d=r) ⟨pN args,λ_=>none,0⟩):aH P f args r:=
 ⟨hf.he,ht,λF w vs M hR=>(Lo U hf.hf hf.hb hf.ao hn h (λ_ _ _ _ _ h=>h.elim) (K6 M) (λ_ _=>rfl) hR).mono λe w' hp=>by
  obtain⟨v,d,st',β',h1,rfl,C,X,h5,J,h7,h8⟩:=hp
  exact⟨v,h1,hr.S7 C,PE J⟩⟩
def Y5{f:FuncId}{args:List D}(he:pD P f=true)(ht:∀ a∈args,Tr a){es:List D}(oJ:∀ a∈es,Tr a){k:Nat}{t:TypeId}
 (h:∀ F w vs,FB F w->Rs F j9 w args vs->Calls P f vs w λe w'=>∃ v i m β',e=.returned v/\m i=some (.cells es t)/\R F β' w' (.rs i 0 k) v/\bc P F m β' w'/\Step j9 w β' w'):pL P f args es k t:=
 ⟨he,ht,λF w vs hF hR=>(h F w vs hF hR).mono λe w' hp=>by
  obtain⟨v,i,m',β',h1,hi,h3,J,M⟩:=hp;obtain⟨p,hp,aF⟩:=J.row i _ hi;refine⟨v,p,h1,?_,λb hb=>⟨?_,J.lt i p b hp hb⟩,?_,?_,PE M⟩
  .rintro rfl;cases aF
  .rcases Nat.lt_or_ge b w.heap.size with ao|U
   .exact absurd hb ((M.gp b ao λi p hp=>by cases hp).2 i p hp)
   .exact U
  .have lift:∀ d∈es,∀ u,R F β' w' d u->R (λx=>F x\/p.cn=some x) j9 w' d u:=λd hd u hu=>
    (oJ d hd F β' w' u hu).lift λb hb=>⟨λe=>hb (by
     rcases e with e|e
     .exact .inl e
     .exact .inr λqB=>qB i p hp e),λi p hp=>by cases hp⟩
   cases aF with
   |nil _=>exact .nil _
   |cells _ _ b o room sz c q1 q2 q3 q4 q5=>
    refine .cells es t b o room sz c q1 q2 q3 q4 λj d hd=>?_;obtain⟨u,u1,u2,u3⟩:=q5 j d hd;exact⟨u,u1,lift d (bD hd) u u2,u3⟩
  .cases h3 with
   |oE _ _ _ _ C _=>rw[C] at hp;cases hp;cases aF
   |lN _ a C=>rw[C] at hp;cases hp;exact .lN 0 a (aw _ _ _)
   |mJ _ _ a b o len room sz C=>rw[C] at hp;cases hp;exact .mJ 0 0 a b o len room sz (aw _ _ _)
   |rs _ _ _ cap b o len room sz C X g2 g3 g4=>rw[C] at hp;cases hp;exact .rs 0 0 k cap b o len room sz r9 X g2 g3 g4⟩
def akW (M:P.follows .mixedOrders=true)(hf:Aw P f fn c)(hn:Nat.ble args.length fn.ntmps=true)(ht:∀ a∈args,Tr a)(J:∀ a∈es,Tr a)
 (h:AW P iV true c (pb P fn.results.toList λd st=>∃ i,d=.rs i 0 k/\st.mem i=some (.cells es t)) ⟨pN args,λ_=>none,0⟩):pL P f args es k t:=
 Y5 hf.he ht J λF w vs C hR=>(Lo M hf.hf hf.hb hf.ao hn h (λ_ _ _ _ _ h=>h.elim) (K6 C) (λ_ _=>rfl) hR).mono λe w' ⟨v,d,st',β',h1,⟨i,hd,hi⟩,h3,h4,_,h6,_⟩=>⟨v,i,st'.mem,β',h1,hi,hd▸h3,h4,h6⟩
def adF(C:Nat)(xs:List (List D))(I:Nat->Mem->Nat->Prop)(Stop:Mem->Nat->Prop):iu:=λl args m nx fq=>
 l=C/\∃ k,xs[k]? =some args/\I k m nx/\∀ d m' nx',Z8 I Stop k d m' nx'->fq d m' nx'
def ua.mono{l:Nat}{K K':D->Mem->Nat->Prop}(hk:∀ d m nx,K d m nx->K' d m nx)(h:ua P F β w l args m nx K):ua P F β w l args m nx K':=
 λβ' w' us h1 h2 M U=>by
  let⟨f,tmps,assign,body,C,J⟩:=h β' w' us h1 h2 M U;exact⟨f,tmps,assign,body,C,λn=>RoundIn.mono (F:=Fence.wide) (J n) λe w' ⟨v,d,m',nx',β',X,q2,q3⟩=>⟨v,d,m',nx',β',X,hk _ _ _ q2,q3⟩⟩
def aoK(oq:P.follows .mixedOrders=true)(hf:Aw P f fn c){fs cs:List D}(hn:Nat.ble (fs.length+1+cs.length) fn.ntmps=true){xs:List (List D)}
 (h:∀ (l:Nat) (I:Nat->Mem->Nat->Prop) (Stop:Mem->Nat->Prop) (m:Mem) (nx:Nat),(∀ k,Bs (I k))->Bs Stop->I 0 m nx->
  AW P (adF l xs I Stop) true c (pb P fn.results.toList λ_ st=>I xs.length st.mem st.nx\/Stop st.mem st.nx) ⟨pN (fs++[.fn (.yield l) [] []]++cs),m,nx⟩):DQ P f fs cs xs:=
 ⟨hf.he,λF l I Stop m nx β w vs hI C hm M hR hy h0=>
  (Lo oq hf.hf hf.hb hf.ao (by simpa[Nat.add_assoc,Nat.add_comm,Nat.add_left_comm] using hn) (h l I Stop m nx hI C h0) (λl' args m' nx' K hK=>by
   obtain⟨rfl,k,h1,h2,J⟩:=hK
   exact(hy k args m' nx' h1 h2).mono J) hm M hR).mono λe w' ⟨v,d,st',β',h1,h2,J,U,X,h6,h7,h8⟩=>⟨v,d,st'.mem,st'.nx,β',h1,h2,U,X,J,h6,h7,h8⟩⟩
end
end
end Go.Abs
