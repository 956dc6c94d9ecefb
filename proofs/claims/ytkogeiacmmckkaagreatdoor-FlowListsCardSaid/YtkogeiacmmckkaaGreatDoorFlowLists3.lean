/- Part 3. -/
import Derived.Test.YtkogeiacmmckkaaGreatDoorFlowLists2
import Derived.Laws.BytesArg
import Derived.Laws.Concat
import Derived.Lib.UnsafeStr
import Derived.RangeFuncRecord
import Derived.Scope
set_option linter.all false
namespace Go.Abs
section
variable{P:Program}{F:Nat->Prop}{m:Mem}{nx:Nat}{β:az}{w w':World}
theorem Jq:∀ {l:List Int} {c:List Value},Rl F β w (n5 l) c->c=l.map (Value.int .u8)
 |[],[],_=>rfl
 |[],_::_,h=>by have:=h.1;simp[n5] at this
 |_::_,[],h=>by have:=h.1;simp[n5] at this
 |n::l,v::c,h=>by
  have h0:=(h.2 0 _ v rfl rfl).1.cJ.1;have ih:=Jq (l:=l) (c:=c) ⟨by have:=h.1;simp[n5] at this ⊢;omega,fun k d u hk hu=>h.2 (k+1) d u (by simpa[n5] using hk) (by simpa using hu)⟩;rw[h0,ih];rfl
theorem OP(l:List Int):l.foldl (fun r n=>r.push (UInt8.ofNat n.toNat)) ByteArray.empty=mkStr l:=by
 rw[foldl_push_bytes];simp[mkStr,ByteArray.empty,ByteArray.emptyWithCapacity];rfl
theorem Q7{src dst:TypeId}(hs:tu P src)(hd:fG P dst=true){b o cap:Nat}{l:List Int}(h:Rd F β w b o (n5 l)):(convert src dst (.slice (some ⟨b,o,none⟩) l.length cap)).run P w=.ok (.string (mkStr l)) w:=by
 obtain⟨c,h1,h2⟩:=h.A6;have hc:=Jq h1;subst hc
 have hl:(loadCells ⟨b,o,none⟩ l.length).run P w=.ok (l.map (Value.int .u8)).toArray w:=by
  have:=run_loadCells_list (P:=P) w ⟨b,o,none⟩ (l.map (Value.int .u8)) h2;simpa using this
 rw[run_convert_bytes_string w src dst _ _ _ _ (je hs.1).1 hs.2.1 (vE hd),run_bytesToString w _ l.length cap l hl,OP]
theorem Jr{src dst:TypeId}(hs:tu P src)(hd:fG P dst=true)(a:Option Addr)(cap:Nat):(convert src dst (.slice a 0 cap)).run P w=.ok (.string (mkStr [])) w:=by
 rw[run_convert_bytes_string w src dst _ _ _ _ (je hs.1).1 hs.2.1 (vE hd)];cases a with
 |none=>rfl
 |some a=>
  have hl:(loadCells a 0).run P w=.ok (([]:List Int).map (Value.int .u8)).toArray w:=by simp[loadCells,loadCellsFrom]
  rw[run_bytesToString w a 0 cap [] hl,OP]
theorem Xk(hm:aC P F m β w){src dst:TypeId}{l:List Int}{v:Value}(hx:R F β w (.sl (n5 l) l.length) v)(hs:tu P src)(hd:fG P dst=true):
 aN P F m nx β w { pre:=True,val:=.s (.string (mkStr l)) } (do Pure.pure (Next.value (<- convert src dst v))):=by
 rcases hx.ud with⟨h1,h2,a,cap,rfl⟩|⟨b,o,cap,rfl,_,_,_,_,_,C⟩
 .have hl:l=[]:=List.eq_nil_of_length_eq_zero h2;subst hl;exact aN.pure hm (Jr hs hd a cap) (.s _ rfl)
 .exact aN.pure hm (Q7 hs hd C) (.s _ rfl)
theorem Xl(hm:aC P F m β w){src dst:TypeId}{l:List Int}{i off:Nat}{cs:List D}{e:TypeId}{v:Value}(hx:R F β w (.rs i off l.length) v)(hi:m i=some (.cells cs e))(hl:(cs.drop off).take l.length=n5 l)(hs:tu P src)(hd:fG P dst=true){rd:List Nat}:
 aN P F m nx β w { pre:=True,val:=.s (.string (mkStr l)),rd:=rd } (do Pure.pure (Next.value (<- convert src dst v))):=by
 rcases hx.xZ hm hi with⟨h1,h2,C,_,a,rfl⟩|⟨b,o,room,_,aD,O⟩
 .have J:l=[]:=List.eq_nil_of_length_eq_zero C;subst J;exact aN.pure hm (Jr hs hd a 0) (.s _ rfl)
 .rcases O with⟨C,a,rfl⟩|⟨cap,rfl,_⟩
  .have J:l=[]:=List.eq_nil_of_length_eq_zero C;subst J;exact aN.pure hm (Jr hs hd a 0) (.s _ rfl)
  .have M:=(aD.rd.1.drop off).take l.length;rw[hl] at M;exact aN.pure hm (Q7 hs hd M) (.s _ rfl)
theorem X5(hm:aC P F m β w){src dst:TypeId}{k k':IntKind}{n:Int}{v:Value}(hx:R F β w (.s (.int k n)) v)(hs:P.underlying src=some (.int k'))(hd:fG P dst=true)(h0:0<=n)(h1:n<128):
 aN P F m nx β w { pre:=True,val:=.s (.string (mkStr [n])) } (do Pure.pure (Next.value (<- convert src dst v))):=by
 obtain⟨rfl,_⟩:=hx.cJ;refine aN.pure hm (v:=.string (mkStr [n])) ?_ (.s _ rfl)
 have hv:Utf8.encode n=mkStr [n]:=by
  have h2:n.toNat<128:=by omega
  have C:Utf8.valid n=true:=by
   unfold Utf8.valid;simp;omega
  unfold Utf8.encode;simp only[C,if_true,if_pos h2];simp[mkStr]
 simp[convert,run_underlying hs,run_underlying (vE hd),Conv.intToString,hv]
theorem Zy(hm:aC P F m β w){t:TypeId}{es:List D}{n:Nat}{k k':IntKind}{v J C:Value}(hx:R F β w (.sl es n) v)(hh:R F β w (.s (.int k n)) J)(hc:R F β w (.s (.int k' n)) C)(ht:bm P t=true)(hn:n*P.cellsOf (av P t)=es.length):
 aN P F m nx β w { pre:=True,val:=.sc es n } (do Pure.pure (Next.value (<- Instr.sliceAt t v none (some J) (some C)))):=by
 obtain⟨rfl,_⟩:=hh.cJ;obtain⟨rfl,_⟩:=hc.cJ;obtain⟨hu,he⟩:=je ht;rcases hx.ud with⟨rfl,rfl,a,cap,rfl⟩|⟨b,o,cap,rfl,O,U,X,g4,g5,M⟩
 .have hb:=ER (P:=P) (w:=w) 0 cap (kh:=k) (km:=k') (lo:=none) (l:=0) (h:=0) (k:=0) (.inl ⟨rfl,rfl⟩) oG oG oG oG;refine aN.val hm (v:=.slice a 0 0) ?_ (.sc [] 0 a (.iz a 0));simp[sa hu,Instr.slice,run_underlying hu,hb,ais w (iH he)]
 .have hb:=ER (P:=P) (w:=w) n cap (kh:=k) (km:=k') (lo:=none) (l:=0) (h:=n) (k:=n) (.inl ⟨rfl,rfl⟩) oG oG oG oG;refine aN.val hm (v:=.slice (if n=0 then some ⟨b,o,none⟩ else some ⟨b,o,none⟩) n n) ?_ ?_
  .simp[sa hu,Instr.slice,run_underlying hu,hb,ais w (iH he),Addr.add_lit]
  .obtain⟨us,r1,r2⟩:=M;simp only[ite_self];exact .sc es n _ (.sl es n b o n us X g4 g5 (bO _) (Nat.le_trans O U) r1 r2)
theorem Sb(b:ByteArray):Rl F β w (yE b) (Lib.strCells b):=by
 refine⟨by simp[yE,Lib.strCells],fun k d u hk hu=>?_⟩;simp only[yE,Lib.strCells,List.getElem?_map,dm] at hk hu;obtain⟨x,h1,rfl⟩:=hk;obtain⟨y,h2,rfl⟩:=hu;rw[h1] at h2;cases h2;exact⟨.s _ rfl,rfl⟩
theorem Q8{t u ty:TypeId}(ht:tu P t)(hu:fG P u=true)(b:ByteArray):Src P w t u ty (av P t) (.string b) b.size (Lib.strCells b):=by
 obtain⟨J,c7⟩:=je ht.1;obtain⟨i,d,z,hi,hd,hz,_,jA,_,bK,hb,_⟩:=qI c7;have dH:i.size=1:=bK.trans ht.2.2;have hlen:=Lib.strCells_length b;have C:=vE hu;refine⟨by rw[hlen,ht.2.2,Nat.mul_one],fun hk a0 n cap M=>?_,fun hk a0 n cap gG z' O lH ue h0 uO hg dt kF=>?_,fun hk g o n cap cur L8 um U lZ=>?_⟩
 .have hf:=Lib.run_firstCells_string (P:=P) w 1 b;have Bq:b=.empty:=by rw[ByteArray.size_eq_zero_iff] at hk;exact hk
  subst Bq;cases a0<;>simp[Builtin.append_,run_underlying J,run_underlying C,sizeOf,typeInfo,hi,Builtin.lenOf,M,Builtin.firstCells,storeCells]
 .simp only[hi,Option.bind_some] at O;rw[hz] at O;cases O;simp only[maxLen] at dt;cases a0 with
  |some ad=>exact Lib.run_append_grow_string (P:=P) w t u ty _ i z J C hi hz ad n cap gG (by rw[dH,lH,ht.2.2]) (ue ad rfl) b hg oG (growslice_fits oG (by rw[hb];exact kF))
  |none=>
   obtain⟨rfl,rfl⟩:=h0 rfl;have:gG=[]:=List.eq_nil_of_length_eq_zero (by simpa using lH);subst this;have:=run_append_nil_string (P:=P) (w:=w) t u ty _ i z J C hi hz b hk oG (by rw[hb];simp at kF;omega);simp only[Nat.zero_add];rw[this];simp only[Lib.strCells];congr 3;apply Array.ext';simp
 .have hf:=Lib.run_firstCells_string (P:=P) w 1 b;rw[ht.2.2,Nat.mul_one] at U ⊢;have X:=run_storeCells_at P g (o+n) (av P t) (Lib.strCells b) 0 cur w L8 (by simpa[hlen] using U) (Lib.strCells_oneCell b);simp only[Nat.add_zero] at X;simp[Builtin.append_,run_underlying J,run_underlying C,sizeOf,typeInfo,hi,dH,Builtin.lenOf,um,hf,Addr.add_lit,X]
theorem Xm(hm:aC P F m β w){ts:Array TypeId}{ty:TypeId}{i off n:Nat}{r:Row}{v:Value}(hx:R F β w (.rs i off n) v)(hi:m i=some r)(hn:0<n){rd:List Nat}:
 aN P F m nx β w { pre:=True,val:=.rp i off,rd:=rd } (do Pure.pure (Next.value (<- Builtin.unsafeSliceData_ ts ty #[v]))):=by
 obtain⟨p,hp,aD⟩:=hm.row i _ hi;cases hx with
 |lG _ _ _ _ h _=>rw[h] at hp;cases hp;exact absurd rfl aD.live
 |jR _ a h=>omega
 |kX _ _ a b o len room sz h=>omega
 |rs _ _ _ cap b o len room sz h h1 h2 C J=>
  exact aN.pure hm (Lib.run_unsafeSliceData_row w ts ty _ n cap oG) (.rp i off b o len room sz h)
theorem X6(hm:aC P F m β w){t ty:TypeId}{i:Nat}{es:List (Value×D)}{v:Value}(hx:R F β w (.mp i) v)(hi:m i=some (.map es))(ht:jv P t=true){rd:List Nat}:
 aN P F m nx β w { pre:=True,val:=.s (.int .i64 es.length),rd:=rd } (do Pure.pure (Next.value (<- Builtin.len_ #[t] ty #[v]))):=by
 obtain⟨r,ms,clock,_,rfl,hb,hl,_⟩:=hx.CA hm hi;have L:=zU ht;refine aN.pure hm (v:=.int .i64 ms.size) ?_ (by rw[hl];exact .s _ rfl);simp[Builtin.len_,run_underlying L.1,run_getObj_map w r ms clock hb,goInt]
theorem Wj{e:TypeId}(hc:P.cellsOf e=1)(count off n:Nat)(hn:off+n<=count):liesAt P P.depth e count off e n=true:=by
 have hd:P.depth=(2*(P.types.size+Made.depth)+1)+1:=rfl;rw[hd];simp only[liesAt,Bool.or_eq_true];left;rw[hd];simp[rowAt,hc,hn,sameLayout,Nat.mod_one]
theorem Zz(pt U ty e:TypeId)(hp:P.underlying pt=some (.pointer e))(hc:P.cellsOf e=1)(g o cells:Nat)(X:w.shape? g=some (e,cells))(l:List UInt8)(h0:l≠[])(hn:o+l.length<=cells)(Vi:l.length<=9223372036854775807)
 (C:∀ j x,l[j]? =some x->w.cell? ((⟨g,o,none⟩:Addr).add j)=some (.int .u8 x.toNat)) (k:IntKind):
 (Builtin.unsafeString_ #[pt,U] ty #[.pointer (some ⟨g,o,none⟩),.int k l.length]).run P w=.ok (.string ⟨l.toArray⟩) (w.freeze ⟨g,o,none⟩ l.length):=by
 have hl:l.length≠0:=by simpa using h0
 have O:=Lib.run_loadBytes (P:=P) w l ⟨g,o,none⟩ .empty C;have J:=Wj (P:=P) hc (cells / P.cellsOf e) o l.length (by rw[hc];simpa using hn);have M:¬ (9223372036854775807:Int)<(l.length:Int):=by omega
 have L9:Builtin.unsafeString_ #[pt,U] ty #[.pointer (some ⟨g,o,none⟩),.int k l.length]=
  (do
   let n<- asInt (.int k l.length)
   if n<0 then runtimePanic (.error "unsafe.String: len out of range")
   if n>IntKind.i64.max then unsupported (.unsafePointer "String: a length above the largest int")
   if n=0 then pure (.string .empty)
   else if<- variablesAt ⟨g,o,none⟩ (<- elemOf pt) n.toNat then do
    let s<- loadBytes ⟨g,o,none⟩ .empty n.toNat
    freeze ⟨g,o,none⟩ n.toNat
    pure (.string s)
   else unsupported (.unsafePointer "String: not so many bytes at ptr")):=rfl
 rw[L9];have dt:IntKind.i64.max=9223372036854775807:=rfl;have Ma:¬ (l.length:Int)<0:=by omega
 simp[asInt,asIntOf,dt,M,Ma,hl,variablesAt,X,elemOf,run_underlying hp,J,O]
theorem Oi(w:World)(a:Addr)(n k:Nat)(h:k≠a.block):(w.freeze a n).heap[k]? =w.heap[k]? :=by
 unfold World.freeze;split
 .rfl
 .simp only[Array.getElem?_modify];rw[if_neg (fun e=>h e.symm)]
theorem WS(w:World)(a:Addr)(n:Nat):(w.freeze a n).heap.size=w.heap.size:=by
 unfold World.freeze;split
 .rfl
 .simp
theorem Xn(w:World)(a:Addr)(n:Nat):Out w (w.freeze a n):=by
 unfold World.freeze;split<;>exact⟨rfl,rfl⟩
theorem WT(w:World)(a:Addr)(n b:Nat):mC w (w.freeze a n) b:=by
 by_cases hb:b=a.block
 .subst hb;unfold World.freeze;split
  .exact mC.refl w _
  .refine⟨fun o u hu=>?_,fun ms c hm=>?_⟩
   .simp only[World.cell?,Array.getElem?_modify,if_true] at hu ⊢;cases hh:w.heap[a.block]? with
    |none=>rw[hh] at hu;simp at hu
    |some C=>
     rw[hh] at hu;cases C<;>simp_all
   .simp only[Array.getElem?_modify,if_true,hm,Option.map_some]
 .exact tQ (Oi w a n b hb)
theorem WU(hm:aC P F m β w){i:Nat}{p:Pl}{a:Addr}(hp:β i=some p)(hb:p.bJ=some a.block)(n:Nat):
 aC P F (up m i none) (up β i (some .dead)) (w.freeze a n)/\Step β w (up β i (some .dead)) (w.freeze a n):=by
 have U:=zP β w i;have C:=hm.dead i;have O:=WS w a n;have ho:=Oi w a n
 have hs:Step β w (up β i (some .dead)) (w.freeze a n):=⟨oG,fun k hk hf=>⟨ho k fun e=>hf i p hp (e▸hb),(U.ej k hk hf).2⟩,U.gq,Xn w a n,fun j r hj M=>nd (ho r fun e=>by
  have:=hm.inj j i _ p a.block hj hp (by simp[Pl.bJ,e]) hb;subst this;rw[au] at M
  cases M)⟩
 have X:∀ j q,up β i (some .dead) j=some q->∀ c,q.bJ=some c->c≠a.block:=fun j q hq c hc e=>by
  by_cases hj:j=i
  .subst hj;rw[au] at hq;cases hq;simp[Pl.bJ] at hc
  .rw[bE _ _ hj] at hq;exact hm.oW hp hb hq hj (e▸hc)
 refine⟨⟨fun j r hj=>?_,C.inj,fun j q c hq hc=>by rw[O];exact C.lt j q c hq hc,C.nf,C.fb.next (fun c hc=>by rw[O];exact C.fb.lt c hc) (fun _ h=>h) fun t _ J=>ho _ fun e=>hm.nf i p _ hp hb (e▸J)⟩,hs⟩;obtain⟨q,hq,aD⟩:=C.row j r hj;exact⟨q,hq,aD.gen oG (fun c _ J hf=>⟨WT w a n c,hf,J⟩) (fun _ _ _ h=>.inl h) fun c hc=>ho c (X j q hq c hc)⟩
theorem X7(hm:aC P F m β w){t u ty e:TypeId}{l:List Int}{i off:Nat}{cs:List D}{k:IntKind}{O M:Value}(hp:R F β w (.rp i off) O)(hn:R F β w (.s (.int k l.length)) M)(hi:m i=some (.cells cs e))(hl:(cs.drop off).take l.length=n5 l)(h0:l≠[])
 (ht:P.underlying t=some (.pointer e)) (he:P.cellsOf e=1) (dt:l.length<=maxLen) (hr:∀ x∈l,0<=x/\x<256) {rd:List Nat}:
 aN P F m nx β w { pre:=True,val:=.s (.string (mkStr l)),aT:=[(i,none)],rd:=rd } (do Pure.pure (Next.value (<- Builtin.unsafeString_ #[t,u] ty #[O,M]))):=by
 obtain⟨rfl,_⟩:=hn.cJ;obtain⟨b,o,room,sz,J,rfl,aD⟩:=hp.Gi hm hi;obtain⟨c,h1,h2⟩:=((aD.rd.1.drop off).take l.length).A6;rw[hl] at h1;have hc:=Jq h1;subst hc;cases aD with
 |cells _ _ _ _ _ _ X U um hlen bK hh=>
 have jz:l.length<=cs.length - off:=by
  have:=congrArg List.length hl;simp[n5] at this;omega
 have mS:0<l.length:=List.length_pos_iff.2 h0
 have C:=Zz (P:=P) (w:=w) t u ty e ht he b (o+off) X.size (by simp[World.shape?,U]) (l.map fun n=>UInt8.ofNat n.toNat) (by simpa using h0) oP (by simp[maxLen] at dt ⊢;omega) (fun j x hx=>by
  simp only[List.getElem?_map,dm] at hx;obtain⟨n,hn,rfl⟩:=hx;have hb:=hr n (cX hn);rw[h2 j (.int .u8 n) (by simp[hn])];have:(UInt8.ofNat n.toNat).toNat=n.toNat:=by simp;omega
  rw[this,Int.toNat_of_nonneg hb.1]) k
 simp only[List.length_map] at C;obtain⟨q1,q2⟩:=WU hm (a:=⟨b,o+off,none⟩) J rfl l.length;refine⟨_,.string (mkStr l),_,_,by simp only[Sem.run_bind,C,Result.andThen_ok,Sem.run_pure];rfl,.inl rfl,.s _ rfl,q1,q2,fun j hj _=>?_⟩;rw[bE _ _ fun e=>by rw[e,J] at hj;cases hj];exact hj
theorem Sc(hm:aC P F m β w)(hn:β nx=none){t:TypeId}{x:D}{v:Value}(hs:P.cellsOf t=2)(hx:R F β w x v)(h1:v.oneCell'=true):
 aC P F (up m nx (some (.bs false x t))) (up β nx (some (.cells w.heap.size 0 2 2 2))) (w.alloc (.cells #[.pointer none,v] t))/\Step β w (up β nx (some (.cells w.heap.size 0 2 2 2))) (w.alloc (.cells #[.pointer none,v] t)):=by
 have C:=zM hm (.cells #[.pointer none,v] t) hn (.cells w.heap.size 0 2 2 2) (fun b hb=>by simp[Pl.bJ] at hb;exact hb.symm);exact⟨hm.alloc hn _ _ _ (fun b hb=>by simp[Pl.bJ] at hb;exact hb.symm) (.bs false x t _ v (heap_alloc_new w _) hs (hx.step C) h1),C⟩
theorem X8(hm:aC P F m β w)(hn:β nx=none){t:TypeId}{c d:D}{v:Value}(hc:c.cells=[.s (.pointer none),d])(hd:d.one=true)(hs:P.cellsOf t=2)(hx:R F β w c v):
 aN P F m nx β w { pre:=True,val:=.rp nx 0,aT:=[(nx,some (.bs false d t))],new:=1 } (do Pure.pure (Next.value (<- Instr.box t v))):=by
 have U:c.cells.all D.one=true:=by rw[hc];simp only[List.all_cons,List.all_nil,hd];rfl
 obtain⟨C,J,c3⟩:=hx.cells U;rw[hc] at C J
 have h0:∃ M O,v.cells= #[M,O]:=by
  obtain⟨l,hl⟩:∃ l,v.cells=⟨l⟩:=⟨v.cells.toList,rfl⟩
  rw[hl] at C ⊢
  match l,C with
  |[a,b],_=>exact⟨a,b,rfl⟩
 obtain⟨M,O,hv⟩:=h0;obtain⟨q0,_⟩:=J 0 (.s (.pointer none)) M rfl (by simp[hv]);obtain⟨q1,q2⟩:=J 1 d O rfl (by simp[hv]);obtain⟨rfl,_⟩:=q0.cJ;obtain⟨h2,X⟩:=Sc hm hn hs q1 q2;refine⟨_,_,_,_,by simp[Instr.box,B5,hv];rfl,.inl rfl,?_,h2,X,vF⟩;exact .rp nx 0 w.heap.size 0 _ _ _ (au _ _ _)
theorem WV(hm:aC P F m β w)(hn:β nx=none){t:TypeId}(ht:aG P t=true)(hz:aZ P t=[.s (.pointer none),.z]):
 aN P F m nx β w { pre:=True,val:=.rp nx 0,aT:=[(nx,some (.bs false .z t))],new:=1 } (do Pure.pure (Next.value (<- Instr.alloc t true (.tuple #[])))):=by
 obtain⟨z,qC,jA,U,X⟩:=xy (P:=P) w ht;obtain⟨C,J⟩:=xY (F:=F) (β:=β) (w:=w) U X;rw[hz] at C J
 have h0:∃ M O,z.cells= #[M,O]:=by
  obtain⟨l,hl⟩:∃ l,z.cells=⟨l⟩:=⟨z.cells.toList,rfl⟩
  rw[hl] at C ⊢
  match l,C with
  |[a,b],_=>exact⟨a,b,rfl⟩
 obtain⟨M,O,hv⟩:=h0;obtain⟨q0,_⟩:=J 0 (.s (.pointer none)) M rfl (by simp[hv]);obtain⟨q1,q2⟩:=J 1 .z O rfl (by simp[hv]);obtain⟨rfl,_⟩:=q0.cJ;have hs:P.cellsOf t=2:=by rw[<- jA,hv];rfl
 obtain⟨h5,h6⟩:=Sc hm hn hs q1 q2;refine⟨_,_,_,_,by simp[Instr.alloc,qC,B5,hv];rfl,.inl rfl,?_,h5,h6,vF⟩;exact .rp nx 0 w.heap.size 0 _ _ _ (au _ _ _)
theorem Kx(hm:aC P F m β w){i off:Nat}{u:Bool}{x:D}{T:TypeId}{a:Value}(ha:R F β w (.rp i off) a)(hi:m i=some (.bs u x T)):
 ∃ b v,β i=some (.cells b 0 2 2 2)/\a=.pointer (some ⟨b,0+off,none⟩)/\w.heap[b]? =some (.cells #[.pointer (if u then some ⟨b,0,none⟩ else none),v] T (0,0))/\P.cellsOf T=2/\R F β w x v/\v.oneCell'=true:=by
 obtain⟨p,hp,aD⟩:=hm.row i _ hi;cases aD with
 |bs _ _ _ b v hb hs hx h1=>
 cases ha with
 |rH _ _ _ h _=>rw[h] at hp;cases hp
 |rp _ _ C o len room sz h=>
  rw[h] at hp;cases hp;exact⟨b,v,h,rfl,hb,hs,hx,h1⟩
theorem Xo(hm:aC P F m β w){t:TypeId}{i:Nat}{u:Bool}{x:D}{T:TypeId}{a:Value}(ha:R F β w (.rp i 1) a)(hi:m i=some (.bs u x T))(ht:aG P t=true)(hg:bG P t=false){rd:List Nat}:
 aN P F m nx β w { pre:=True,val:=x,rd:=rd } (do Pure.pure (Next.value (<- Instr.loadAt t a))):=by
 obtain⟨b,v,_,rfl,hb,_,hx,h1⟩:=Kx hm ha hi;refine aN.pure hm (v:=v) ?_ hx;have hc:w.cell? ⟨b,0+1,none⟩=some v:=by simp[World.cell?,hb]
 simp[Instr.loadAt,Instr.sureAddr,loadVar,B4 w (z7 ht),hg,hc]
theorem WW(hm:aC P F m β w){t:TypeId}{i:Nat}{u:Bool}{x d:D}{T:TypeId}{a y:Value}(ha:R F β w (.rp i 1) a)(hy:R F β w d y)(hi:m i=some (.bs u x T))(ht:aG P t=true)(hg:bG P t=false)(hd:d.one=true){rd:List Nat}:
 aN P F m nx β w { pre:=True,val:=.bp [],aT:=[(i,some (.bs u d T))],rd:=rd } (do Instr.storeAt t a y;Pure.pure Next.skip):=by
 obtain⟨b,v,O,rfl,hb,hs,hx,h1⟩:=Kx hm ha hi;have C:y.oneCell'=true:=hy.one hd;obtain⟨_,_,_,_,_,_,uW,_⟩:=qI ht;have ue:y.cells= #[y]:=by cases y<;>first|rfl|simp[Value.oneCell'] at C
 have J:=run_storeCells_at P b 1 T [y] 0 #[.pointer (if u then some ⟨b,0,none⟩ else none),v] w hb oS (by simpa using C)
 have U:(storeVar t ⟨b,0+1,none⟩ y).run P w=.ok () (w.setRow b #[.pointer (if u then some ⟨b,0,none⟩ else none),y]):=by
  simp only[storeVar];simp only[Nat.add_zero] at J;simp[ais w (iH ht),uW hg,ue,J]
 have vY:=setRow_heap w b #[.pointer (if u then some ⟨b,0,none⟩ else none),v] #[.pointer (if u then some ⟨b,0,none⟩ else none),y] T (0,0) hb;have ho:∀ k,k≠b->(w.setRow b #[.pointer (if u then some ⟨b,0,none⟩ else none),y]).heap[k]? =w.heap[k]? :=fun k hk=>setRow_other w b k _ hk;have bK:(w.setRow b #[.pointer (if u then some ⟨b,0,none⟩ else none),y]).heap.size=w.heap.size:=by simp
 have M:=B2 hm O rfl oG ho;have X:=hm.write O rfl bK ho (.bs u d T) (.bs u d T b y vY hs (hy.step M) C);exact⟨.skip,undef,_,β,by simp[Instr.storeAt,Instr.sureAddr,U],.inr ⟨rfl,rfl⟩,.bp [] [] rfl oS,X,M,fun _ h _=>h⟩
theorem ZA(hm:aC P F m β w){t:TypeId}{x:Value}{lo hi:Option Value}{l h:Option D}(hx:R F β w .z x)(iD:eP l 0=some 0)(l9:eP h 0=some 0)(hl:∀ d,l=some d->∃ v,lo=some v/\R F β w d v)(M:l=none->lo=none)(hh:∀ d,h=some d->∃ v,hi=some v/\R F β w d v)(O:h=none->hi=none)(ht:bm P t=true):
 aN P F m nx β w { pre:=True,val:=.z } (do Pure.pure (Next.value (<- Instr.sliceAt t x lo hi none))):=by
 rw[hx.yM];obtain⟨hu,he⟩:=je ht
 have tw:∀ {o:Option D} {y:Option Value},eP o 0=some 0->(∀ d,o=some d->∃ v,y=some v/\R F β w d v)->(o=none->y=none)->(y=none/\(0:Int)=0)\/∃ J,y=some (.int J 0):=fun {o y} h1 h2 C=>by
  cases o with
  |none=>exact .inl ⟨C rfl,rfl⟩
  |some d=>
   obtain⟨v,rfl,hv⟩:=h2 d rfl;right;unfold eP at h1;simp only[D.int?] at h1;split at h1
   .rename_i k n;simp only[aK] at h1;subst h1;exact⟨k,by rw[hv.cJ.1]⟩
   .cases h1
 have hb:=xA (P:=P) (w:=w) true 0 0 (l:=0) (h:=0) (tw iD hl M) (by simpa using tw l9 hh O) oG oG oG;refine aN.val hm (v:=.slice none 0 0) ?_ .z;simp[sa hu,Instr.slice,run_underlying hu,hb,ais w (iH he)]
theorem X9(hm:aC P F m β w){t:TypeId}{d:D}{v u:Value}(hd:nD d=some v)(hv:plain (.iface t v)=true)(ht:wO P t=true)(hu:R F β w d u):
 aN P F m nx β w { pre:=True,val:=.s (.iface t v) } (do Pure.pure (Next.value (<- Instr.makeInterface t u))):=by
 rw[Az hd hu];refine aN.pure hm (v:=.iface t v) ?_ (.s _ hv);unfold wO at ht;cases hh:P.underlying t with
 |none=>rw[hh] at ht;cases ht
 |some x=>
  rw[hh] at ht;cases x<;>first|(cases ht;done)|simp[Instr.makeInterface,run_underlying hh]
theorem ac7{v:Value}{t:TypeId}(h:plain (.iface t v)=true):R F β w (Vc v) v:=by
 cases v with
 |agg cs=>
  refine .agg (cs.toList.map .s) cs.toList oS fun k d u hd hu=>?_;simp only[List.getElem?_map,hu,Option.map_some,aK] at hd;subst hd;have h1:=b7.1 h u (cX hu);exact .s u (by cases u<;>first|exact h1|(simp[Gf] at h1;done))
 |iface=>simp[plain] at h
 |_=>exact .s _ h
theorem X'(hm:aC P F m β w){u t:TypeId}{v x:Value}(hx:R F β w (.s v) x)(hv:M5 v=true)(ht:wO P t=true)(ho:aG P t=true)(hz:uP P t=true):
 aN P F m nx β w { pre:=True,val:=AJ P t v } (do Pure.pure (Next.value (<- Instr.typeAssert x u t true))):=by
 obtain⟨rfl,hp⟩:=hx.cJ;obtain⟨z,C,J⟩:=FE (F:=F) (β:=β) (w:=w) ho hz
 have bp:∀ {a b:D} {y:Value} {g:Bool},R F β w a y->R F β w (.bp [a,.s (.bool g)]) (.tuple #[y,.bool g]):=fun {a b y g} h=>
  .bp [a,.s (.bool g)] [y,.bool g] rfl fun k d u hd hu=>by
   match k with
   |0=>simp at hd hu;subst hd;subst hu;exact h
   |1=>simp at hd hu;subst hd;subst hu;exact .s _ rfl
   |k+2=>simp at hd
 unfold wO at ht;cases hh:P.underlying t with
 |none=>rw[hh] at ht;cases ht
 |some q=>
  rw[hh] at ht;have hq:∀ want,q≠ .interface want:=fun want e=>by rw[e] at ht;cases ht
  cases x with
  |iface k y=>
   by_cases hk:k=t
   .subst hk;refine aN.pure hm (v:=.tuple #[y,.bool true]) ?_ (by simp only[AJ,if_true];exact bp (b:=.u) (ac7 hp));simp only[Instr.typeAssert,Sem.run_bind,run_underlying hh,Result.andThen_ok];cases q<;>first|exact absurd rfl (hq _)|simp
   .refine aN.pure hm (v:=.tuple #[z,.bool false]) ?_ (by simp only[AJ,if_neg hk];exact bp (b:=.u) J);simp only[Instr.typeAssert,Sem.run_bind,run_underlying hh,Result.andThen_ok];cases q<;>first|exact absurd rfl (hq _)|simp[hk,C]
  |nilIface=>
   refine aN.pure hm (v:=.tuple #[z,.bool false]) ?_ (by simp only[AJ];exact bp (b:=.u) J);simp only[Instr.typeAssert,Sem.run_bind,run_underlying hh,Result.andThen_ok];cases q<;>first|exact absurd rfl (hq _)|simp[C]
  |_=>cases hv
theorem Ya(hm:aC P F m β w){t ty:TypeId}{i off n k:Nat}{cs news:List D}{y:D}{p:Prop}{rd Vk:List Nat}{a b:Value}(ha:R F β w (.rs i off n) a)(hi:m i=some (.cells cs (av P t)))(hb:R F β w y b)(hy:iG m (P.cellsOf (av P t)) y=some (p,rd,k,news))(hp:p)
 (ht:bm P t=true) (hk:k<=n) (hl:off+n*P.cellsOf (av P t)<=cs.length):
 aN P F m nx β w { pre:=True,val:=.s (.int .i64 k),aT:=[(i,some (.cells (fj cs off news) (av P t)))],rd:=Vk } (do Pure.pure (Next.value (<- Builtin.copy_ #[t,t] ty #[a,b]))):=by
 obtain⟨hu,c7⟩:=je ht;obtain⟨a',M,c,rfl,C,O,HJ,M8⟩:=OQ hm hb hy hp (fun _ _ _ _ _ _ _=>.inr trivial);have jT:news.length=k*P.cellsOf (av P t):=by rw[<- C.1,O]
 have X:Nat.min k n=k:=Nat.min_eq_left hk
 have Vl:(Builtin.firstCells (P.cellsOf (av P t)) k (.slice a' k M)).run P w=.ok c.toArray w:=by
  cases a' with
  |none=>rw[run_firstCells_none,(M8 rfl).1]
  |some ad=>exact run_firstCells_some (cs:=c) (hl:=O) (h:=HJ ad rfl) ..
 have dc:∀ (a0:Option Addr) (cap:Nat) (w':World),(∀ ad,a0=some ad->(storeCells ad c).run P w=.ok () w')->(a0=none->w'=w)->(Builtin.copy_ #[t,t] ty #[.slice a0 n cap,.slice a' k M]).run P w=.ok (.int .i64 k) w':=fun a0 cap w' h1 h2=>by
  cases a0 with
  |none=>rw[h2 rfl];simp[Builtin.copy_,Builtin.lenOf,run_underlying hu,ais w (iH c7),X,Vl,goInt]
  |some ad=>simp[Builtin.copy_,Builtin.lenOf,run_underlying hu,ais w (iH c7),X,Vl,goInt,h1 ad rfl]
 have oA:up m i (some (.cells cs (av P t)))=m:=by
  funext j;by_cases hj:j=i
  .subst hj;rw[au,hi]
  .rw[bE _ _ hj]
 have U:k=0->(∀ (a0:Option Addr) (cap:Nat),a=.slice a0 n cap->aN P F m nx β w { pre:=True,val:=.s (.int .i64 k),aT:=[(i,some (.cells (fj cs off news) (av P t)))],rd:=Vk } (do Pure.pure (Next.value (<- Builtin.copy_ #[t,t] ty #[a,.slice a' k M])))):=by
  rintro rfl a0 cap rfl;have zj:c=[]:=List.eq_nil_of_length_eq_zero (by rw[O];simp);have J:news=[]:=List.eq_nil_of_length_eq_zero (by rw[jT];simp);subst zj J;refine⟨.value (.int .i64 0),_,w,β,?_,.inl rfl,.s _ rfl,?_,Step.refl β w,fun _ h _=>h⟩
  .rw[Sem.run_bind,dc a0 cap w (fun ad _=>by simp[storeCells]) (fun _=>rfl)];rfl
  .have e:fj cs off []=cs:=by simp[fj]
   simp only[cu,e,oA];exact hm
 rcases ha.xZ hm hi with⟨_,_,J,_,a0,rfl⟩|⟨b',o,room,hβ,aD,oi⟩
 .subst J;exact U oG a0 0 rfl
 .rcases oi with⟨J,a0,rfl⟩|⟨cap,rfl,_⟩
  .subst J;exact U oG a0 0 rfl
  .have hle:news.length<=n*P.cellsOf (av P t):=by rw[jT];exact Nat.mul_le_mul_right _ hk
   obtain⟨w',bt,iy,hs⟩:=Iy (P:=P) hm hβ aD (off:=off) (ds:=news) (vs:=c) C.1 oG (fun u hu=>by
    obtain⟨j,hj⟩:=dY hu;have dZ:j<news.length:=by rw[<- C.1];exact(bZ.1 hj).1
    exact(C.2 j news[j] u (by simp[dZ]) hj).2) fun j d u hd hu=>(C.2 j d u hd hu).1
   refine⟨.value (.int .i64 k),_,w',β,?_,.inl rfl,.s _ rfl,iy,hs,fun _ h _=>h⟩;rw[Sem.run_bind,dc _ cap w' (fun ad rS=>by cases rS;exact bt) (fun h=>by cases h)];rfl
theorem eQ.env{ρ J:Operand->D}{nx:Nat}{o:Op}{e:du}(hr:∀ x∈o.operands,J x=ρ x)(h:eQ P ρ m nx o e):eQ P J m nx o e:=by
 cases h with
 |add t p x y a b hx hy h=>exact .add t p x y a b ((hr x cm).trans hx) ((hr y cm).trans hy) h
 |AK src dst x l hx hs hd=>exact .AK src dst x l ((hr x cm).trans hx) hs hd
 |AL src dst x l i off cs e hx hi hl hs hd=>exact .AL src dst x l i off cs e ((hr x cm).trans hx) hi hl hs hd
 |rune src dst x k k' n hx hs hd h0 h1=>exact .rune src dst x k k' n ((hr x cm).trans hx) hs hd h0 h1
 |cut t x h c es n k k' hx hh hc ht hn=>exact .cut t x h c es n k k' ((hr x cm).trans hx) ((hr h cm).trans hh) ((hr c cm).trans hc) ht hn
 |yj c s x t es news n k p rd hc hs hx hp ht hn hk hz C hb=>
  refine .yj c s x t es news n k p rd hc ((hr s (by rw[hc];simp[Op.operands,Call.operands])).trans hs) ?_ hp ht hn hk hz C hb;rw[hr x (by rw[hc];simp[Op.operands,Call.operands])];exact hx
 |xL c s x t u b hc hs hx ht hu C hb=>exact .xL c s x t u b hc ((hr s (by rw[hc];simp[Op.operands,Call.operands])).trans hs) ((hr x (by rw[hc];simp[Op.operands,Call.operands])).trans hx) ht hu C hb
 |xV c s x t u b i off n cs hc hs hx hi ht hu hf C hb=>exact .xV c s x t u b i off n cs hc ((hr s (by rw[hc];simp[Op.operands,Call.operands])).trans hs) ((hr x (by rw[hc];simp[Op.operands,Call.operands])).trans hx) hi ht hu hf C hb
 |yF c x t i es hc hx hi ht=>exact .yF c x t i es hc ((hr x (by rw[hc];simp[Op.operands,Call.operands])).trans hx) hi ht
 |yk c s t i off n r hc hs hi hn=>exact .yk c s t i off n r hc ((hr s (by rw[hc];simp[Op.operands,Call.operands])).trans hs) hi hn
 |yG c p n t u e l i off cs k hc hp hn hi hl h0 ht he C M=>exact .yG c p n t u e l i off cs k hc ((hr p (by rw[hc];simp[Op.operands,Call.operands])).trans hp) ((hr n (by rw[hc];simp[Op.operands,Call.operands])).trans hn) hi hl h0 ht he C M
 |Ax t hb ht hz=>exact .Ax t hb ht hz
 |A2 t x d hb hx hd hs=>exact .A2 t x d hb (by rw[hr x cm];exact hx) hd hs
 |Bm t x lo hi hx iD l9 ht=>
  refine .Bm t x lo hi ((hr x cm).trans hx) ?_ ?_ ht
  .cases lo with
   |none=>exact iD
   |some y=>simp only[Option.map_some] at iD ⊢;rw[hr y cm];exact iD
  .cases hi with
   |none=>exact l9
   |some y=>simp only[Option.map_some] at l9 ⊢;rw[hr y cm];exact l9
 |yH b op t p x eD hx ht=>exact .yH b op t p x eD ((hr x cm).trans hx) ht
 |yI b op t p x i off n cs e eD hx hi hn ht=>exact .yI b op t p x i off n cs e eD ((hr x cm).trans hx) hi hn ht
 |mkIf t x v hx hv ht=>exact .mkIf t x v (by rw[hr x cm];exact hx) hv ht
 |A3 x u t v hx hv ht ho hz=>exact .A3 x u t v ((hr x cm).trans hx) hv ht ho hz
 |copy c x y t i off n k cs news p rd hc hx hi hy hp ht hk hl=>
  refine .copy c x y t i off n k cs news p rd hc ((hr x (by rw[hc];simp[Op.operands,Call.operands])).trans hx) hi ?_ hp ht hk hl;rw[hr y (by rw[hc];simp[Op.operands,Call.operands])];exact hy
 |AM t a i u x T ha hi ht hg=>exact .AM t a i u x T ((hr a cm).trans ha) hi ht hg
 |xW t a y i u x T ha hi ht hg hy=>
  rw[<- hr y cm];exact .xW t a y i u x T ((hr a cm).trans ha) hi ht hg (by rw[hr y cm];exact hy)
theorem eQ.mem{ρ:Operand->D}{m':Mem}{nx:Nat}{o:Op}{e:du}(h:eQ P ρ m nx o e)(hr:∀ i∈e.rd,m i≠none->m' i=m i):eQ P ρ m' nx o e:=by
 cases h with
 |add t p x y a b hx hy h=>exact .add t p x y a b hx hy h
 |AK src dst x l hx hs hd=>exact .AK src dst x l hx hs hd
 |AL src dst x l i off cs e hx hi hl hs hd=>exact .AL src dst x l i off cs e hx ((hr i oS (by simp[hi])).trans hi) hl hs hd
 |rune src dst x k k' n hx hs hd h0 h1=>exact .rune src dst x k k' n hx hs hd h0 h1
 |cut t x h c es n k k' hx hh hc ht hn=>exact .cut t x h c es n k k' hx hh hc ht hn
 |yj c s x t es news n k p rd hc hs hx hp ht hn hk hz C hb=>
  refine .yj c s x t es news n k p rd hc hs ?_ hp ht hn hk hz C hb;revert hx;unfold iG;split
  .exact id
  .exact id
  .intro hx;split at hx
   .rename_i J;cases hx;rw[hr _ oS (by simp[J]),J]
   .cases hx
  .exact id
 |xL c s x t u b hc hs hx ht hu C hb=>exact .xL c s x t u b hc hs hx ht hu C hb
 |xV c s x t u b i off n cs hc hs hx hi ht hu hf C hb=>exact .xV c s x t u b i off n cs hc hs hx ((hr i oS (by simp[hi])).trans hi) ht hu hf C hb
 |yF c x t i es hc hx hi ht=>exact .yF c x t i es hc hx ((hr i oS (by simp[hi])).trans hi) ht
 |yk c s t i off n r hc hs hi hn=>exact .yk c s t i off n r hc hs ((hr i oS (by simp[hi])).trans hi) hn
 |yG c p n t u e l i off cs k hc hp hn hi hl h0 ht he C M=>exact .yG c p n t u e l i off cs k hc hp hn ((hr i oS (by simp[hi])).trans hi) hl h0 ht he C M
 |Ax t hb ht hz=>exact .Ax t hb ht hz
 |A2 t x d hb hx hd hs=>exact .A2 t x d hb hx hd hs
 |Bm t x lo hi hx iD l9 ht=>exact .Bm t x lo hi hx iD l9 ht
 |yH b op t p x eD hx ht=>exact .yH b op t p x eD hx ht
 |yI b op t p x i off n cs e eD hx hi hn ht=>exact .yI b op t p x i off n cs e eD hx ((hr i oS (by simp[hi])).trans hi) hn ht
 |mkIf t x v hx hv ht=>exact .mkIf t x v hx hv ht
 |A3 x u t v hx hv ht ho hz=>exact .A3 x u t v hx hv ht ho hz
 |copy c x y t i off n k cs news p rd hc hx hi hy hp ht hk hl=>
  refine .copy c x y t i off n k cs news p rd hc hx ((hr i oS (by simp[hi])).trans hi) ?_ hp ht hk hl;revert hy;unfold iG;split
  .exact id
  .exact id
  .intro hx;split at hx
   .rename_i J;cases hx;rw[hr _ oS (by simp[J]),J]
   .cases hx
  .exact id
 |AM t a i u x T ha hi ht hg=>exact .AM t a i u x T ha ((hr i oS (by simp[hi])).trans hi) ht hg
 |xW t a y i u x T ha hi ht hg hy=>exact .xW t a y i u x T ha ((hr i oS (by simp[hi])).trans hi) ht hg hy
theorem eQ.defer{ρ:Operand->D}{nx:Nat}{o:Op}{e:du}(h:eQ P ρ m nx o e):∀ c,o≠ .defer c:=by cases h<;>simp
theorem eQ.tidy{ρ:Operand->D}{nx:Nat}{o:Op}{e:du}(h:eQ P ρ m nx o e):
 (∀ i∈e.aT.map (·.1),m i≠none\/(nx<=i/\i<nx+e.new))/\(cD o=0->e.rd=[]/\e.aT=[])/\(cD o=1->e.aT=[])/\(cD o=3->e.rd=[]/\∀ i∈e.aT.map (·.1),nx<=i):=by
 cases h with
 |yj c s x t es news n k p rd hc hs hx hp ht hn hk hz C hb=>rw[hc];simp[cD]
 |xL c s x t u b hc hs hx ht hu C hb=>rw[hc];simp[cD]
 |xV c s x t u b i off n cs hc hs hx hi ht hu hf C hb=>rw[hc];simp[cD,hi]
 |yF c x t i es hc hx hi ht=>rw[hc];simp[cD]
 |yk c s t i off n r hc hs hi hn=>rw[hc];simp[cD]
 |yG c p n t u e l i off cs k hc hp hn hi hl h0 ht he C J=>rw[hc];simp[cD,hi]
 |xW t a y i u x T ha hi ht hg hy=>simp[cD,hi]
 |yH b op t p x eD hx ht=>subst eD;cases b<;>simp[cD]
 |yI b op t p x i off n cs e eD hx hi hn ht=>subst eD;cases b<;>simp[cD]
 |copy c x y t i off n k cs news p rd hc hx hi hy hp ht hk hl=>rw[hc];simp[cD,hi]
 |_=>simp[cD]
theorem OR(hm:aC P F m β w){o:Oper}{env:Env}{a:Act}{e:du}(hn:e.new=1->β nx=none)(hE:eZ F β w env a)(ha:asks env o.op)(h:eQ P (bC env o.op) m nx o.op e):aN P F m nx β w e (execOp a.eval o):=by
 obtain⟨dst,op,type,pos,after,guard⟩:=o;simp only at ha h
 have hR:(∀ c x y,op≠ .pick c x y)->∀ x∈op.operands.toList,R F β w (bC env op x) (a.eval x):=fun wT x hx=>by
  have h1:bC env op x=(opd env x).core:=by cases op<;>first|rfl|exact absurd rfl (wT _ _ _)
  have h2:(opd env x).ask:=by cases op<;>first|exact ha x hx|exact absurd rfl (wT _ _ _)
  rw[h1];exact(hE.opd x).vI _ h2
 have call:∀ (b:Builtin) (s x:Operand) (ts:Array TypeId) (q:Sem Next),op=.call { callee:=.builtin b,args:= #[s,x],argTypes:=ts }->(∀ cs,builtin b ts type cs #[a.eval s,a.eval x]=q)->aN P F m nx β w e q->aN P F m nx β w e (execOp a.eval ⟨dst,op,type,pos,after,guard⟩):=by
  intro b s x ts q ho hb hq;subst ho;obtain⟨n,v,w',β',h1,h2⟩:=hq;refine⟨n,v,w',β',?_,h2⟩;unfold execOp;simp only[resolve,Sem.run_bind,Sem.run_pure,Result.andThen_ok,invoke];have M:(#[s,x]:Array Operand).map a.eval= #[a.eval s,a.eval x]:=by simp
  rw[M,hb];exact h1
 have Th:∀ (b:Builtin) (s:Operand) (ts:Array TypeId) (q:Sem Next),op=.call { callee:=.builtin b,args:= #[s],argTypes:=ts }->(∀ cs,builtin b ts type cs #[a.eval s]=q)->aN P F m nx β w e q->aN P F m nx β w e (execOp a.eval ⟨dst,op,type,pos,after,guard⟩):=by
  intro b s ts q ho hb hq;subst ho;obtain⟨n,v,w',β',h1,h2⟩:=hq;refine⟨n,v,w',β',?_,h2⟩;unfold execOp;simp only[resolve,Sem.run_bind,Sem.run_pure,Result.andThen_ok,invoke];have M:(#[s]:Array Operand).map a.eval= #[a.eval s]:=by simp
  rw[M,hb];exact h1
 cases h with
 |add t p x y b c hx hy h=>
  have C:=hR oS x cm;have qy:=hR oS y cm;rw[hx] at C;rw[hy] at qy;obtain⟨M,_⟩:=C.cJ;obtain⟨e2,_⟩:=qy.cJ;unfold execOp;refine aN.val hm (v:=.string (b++c)) ?_ (.s _ rfl);simp only[M,e2,Sem.run_bind,tH .add t x y (.string b) (.string c) oS oS,Result.andThen_ok,binOp_string_add,run_string_add_sum w b c (by simp[maxLen] at h;omega),Sem.run_pure]
 |AK src dst x l hx hs hd=>
  have C:=hR oS x cm;rw[hx] at C;exact Xk hm C hs hd
 |AL src dst x l i off cs e hx hi hl hs hd=>
  have C:=hR oS x cm;rw[hx] at C;exact Xl hm C hi hl hs hd
 |rune src dst x k k' n hx hs hd h0 h1=>
  have C:=hR oS x cm;rw[hx] at C;exact X5 hm C hs hd h0 h1
 |cut t x h c es n k k' hx hh hc ht O=>
  have C:=hR oS x cm;have qh:=hR oS h cm;have qc:=hR oS c cm;rw[hx] at C;rw[hh] at qh;rw[hc] at qc;exact Zy hm C qh qc ht O
 |yj c s x t es news n k p rd hc hs hx hp ht O hk hz U hb=>
  have J:=hR oS s (by rw[hc];simp[Op.operands,Call.operands]);have C:=hR oS x (by rw[hc];simp[Op.operands,Call.operands]);rw[hs] at J;obtain⟨cc,cF,X⟩:=I5 (ty:=type) hm C hx hp ht hz;exact call .append s x _ _ (by rw[hc]) (fun _=>rfl) ((BX hm (hn rfl) cF X (je ht).2 hz).2.1 es n J hk O U hb)
 |xL c s x t u b hc hs hx ht hu U hb=>
  have J:=hR oS s (by rw[hc];simp[Op.operands,Call.operands]);have C:=hR oS x (by rw[hc];simp[Op.operands,Call.operands]);rw[hs] at J;rw[hx] at C;obtain⟨M,_⟩:=C.cJ;refine call .append s x _ _ (by rw[hc]) (fun _=>rfl) ?_;rw[M];exact(BX hm (hn rfl) (Sb b) (Q8 (ty:=type) ht hu b) (je ht.1).2 (by rw[ht.2.2];omega)).1 J U hb
 |xV c s x t u b i off n cs hc hs hx hi ht hu hf U hb=>
  have J:=hR oS s (by rw[hc];simp[Op.operands,Call.operands]);have C:=hR oS x (by rw[hc];simp[Op.operands,Call.operands]);rw[hs] at J;rw[hx] at C;obtain⟨M,_⟩:=C.cJ;refine call .append s x _ _ (by rw[hc]) (fun _=>rfl) ?_;rw[M];exact(BX hm (hn rfl) (Sb b) (Q8 (ty:=type) ht hu b) (je ht.1).2 (by rw[ht.2.2];omega)).2.2 i off n cs J hi (by rw[ht.2.2];omega) U hb
 |yF c x t i es hc hx hi ht=>
  have C:=hR oS x (by rw[hc];simp[Op.operands,Call.operands]);rw[hx] at C;exact Th .len x _ _ (by rw[hc]) (fun _=>rfl) (X6 hm C hi ht)
 |yk c s t i off n r hc hs hi O=>
  have J:=hR oS s (by rw[hc];simp[Op.operands,Call.operands]);rw[hs] at J;exact Th .unsafeSliceData s _ _ (by rw[hc]) (fun _=>rfl) (Xm hm J hi O)
 |yG c p n t u e l i off cs k hc hp O hi hl h0 ht he U me=>
  have qp:=hR oS p (by rw[hc];simp[Op.operands,Call.operands]);have qn:=hR oS n (by rw[hc];simp[Op.operands,Call.operands]);rw[hp] at qp;rw[O] at qn;exact call .unsafeString p n _ _ (by rw[hc]) (fun _=>rfl) (X7 hm qp qn hi hl h0 ht he U me)
 |Ax t hb ht hz=>exact WV hm (hn rfl) ht hz
 |A2 t x d hb hx hd hs=>exact X8 hm (hn rfl) hx hd hs (hR oS x cm)
 |Bm t x lo hi hx iD l9 ht=>
  have C:=hR oS x cm;rw[hx] at C;refine ZA (lo:=lo.map a.eval) (hi:=hi.map a.eval) hm C iD l9 ?_ ?_ ?_ ?_ ht
  .intro d hd;obtain⟨y,rfl,rfl⟩:=dm.1 hd;exact⟨_,rfl,hR oS y cm⟩
  .intro h;cases lo<;>first|rfl|cases h
  .intro d hd;obtain⟨y,rfl,rfl⟩:=dm.1 hd;exact⟨_,rfl,hR oS y cm⟩
  .intro h;cases hi<;>first|rfl|cases h
 |yH b op t p x eD hx ht=>
  have C:=hR oS x cm;rw[hx] at C;have:=Pe (nx:=nx) (pre:=True) (rd:=[]) (ox:=x) (oy:=.const (.slice none 0 0)) (a:=none) (l:=0) (c:=0) hm ht eD;show aN P F m nx β w _ ((do eqGuard op t x (.const (.slice none 0 0)) (a.eval x) (.slice none 0 0);binOp op t (a.eval x) (.slice none 0 0))>>=fun r=>Pure.pure (Next.value r));rw[C.yM];exact this
 |yI b op t p x i off n cs e eD hx hi O ht=>
  have C:=hR oS x cm;rw[hx] at C;show aN P F m nx β w _ ((do eqGuard op t x (.const (.slice none 0 0)) (a.eval x) (.slice none 0 0);binOp op t (a.eval x) (.slice none 0 0))>>=fun r=>Pure.pure (Next.value r));rcases C.xZ hm hi with⟨_,_,h3,_⟩|⟨b',o,room,_,aD,⟨h3,_⟩|⟨cap,hv,_⟩⟩
  .omega
  .omega
  .have:=Pe (nx:=nx) (pre:=True) (rd:=[i]) (ox:=x) (oy:=.const (.slice none 0 0)) (a:=some ⟨b',o+off,none⟩) (l:=n) (c:=cap) hm ht eD;rw[hv];exact this
 |mkIf t x v hx hv ht=>exact X9 hm hx hv ht (hR oS x cm)
 |A3 x u t v hx hv ht ho hz=>
  have C:=hR oS x cm;rw[hx] at C;exact X' hm C hv ht ho hz
 |copy c x y t i off n k cs news p rd hc hx hi hy hp ht hk hl=>
  have C:=hR oS x (by rw[hc];simp[Op.operands,Call.operands]);have qy:=hR oS y (by rw[hc];simp[Op.operands,Call.operands]);rw[hx] at C;exact call .copy x y _ _ (by rw[hc]) (fun _=>rfl) (Ya hm C hi qy hy hp ht hk hl)
 |AM t b i u x T hb hi ht hg=>
  have qa:=hR oS b cm;rw[hb] at qa;exact Xo hm qa hi ht hg
 |xW t b y i u x T hb hi ht hg hy=>
  have qa:=hR oS b cm;have qy:=hR oS y cm;rw[hb] at qa;exact WW hm qa qy hi ht hg hy
end
theorem Q9{P:Program}{ops:Array Oper}{o:Oper}{st:St}{e:du}(O:fP ops o st true)(ha:asks st.env o.op)(h:eQ P (bC st.env o.op) st.mem st.nx o.op e):bf.Ok P ops o st ⟨e.val,e.aT,e.rd,e.new⟩:=by
 intro F β w a m env N he C hm hr hn U r n QX K M;have J:=vC he;refine Ra (m:=m) (nx:=st.nx) (β:=β) (F:=F) h.defer (O F β w a env he C) (OR hm (fun h1=>hn st.nx (bO _) (by simp[h1])) C (by rw[xH J];exact ha) ?_) M;exact(h.env (vK J)).mem hr
structure bW(P:Program)(F:Nat->Prop)(st:St)(β:az)(w:World)(a:Act):Prop where
 e:eZ F β w st.env a
 m:aC P F st.mem β w
 n:∀ i,st.nx<=i->β i=none
structure dC(N:Nat)(β:az)(w:World)(a:Act)(st':St)(β':az)(w':World)(a':Act):Prop where
 step:Step β w β' w'
 le:N<=st'.nx
 grow:∀ i,i<N->β i=none->β' i=none
 size:a'.tmps.size=a.tmps.size
 defers:a'.defers=a.defers
theorem dC.trans{N:Nat}{β β₁ β₂:az}{w U X:World}{a C J:Act}{M O:St}(h:dC N β w a M β₁ U C)(k:dC M.nx β₁ U C O β₂ X J):dC N β w a O β₂ X J:=
 ⟨h.step.trans k.step,Nat.le_trans h.le k.le,fun i hi hn=>k.grow i (Nat.lt_of_lt_of_le hi h.le) (h.grow i hi hn),k.size.trans h.size,k.defers.trans h.defers⟩
theorem dC.refl(st:St)(β:az)(w:World)(a:Act):dC st.nx β w a st β w a:=⟨Step.refl β w,bO _,fun _ _ h=>h,rfl,rfl⟩
def dd(P:Program)(F:Nat->Prop)(N:Nat)(β:az)(w:World)(a:Act)(Q:Exit->St->Prop)(e:Exit)(a':Act)(w':World):Prop:=
 ∃ st' β',Q e st'/\bW P F st' β' w' a'/\dC N β w a st' β' w' a'
section
variable{P:Program}{F:Nat->Prop}{ops:Array Oper}{o:Oper}{st:St}{β:az}{w:World}{a:Act}
theorem tN(a:Act)(d:Option Nat)(v:Value):(a.put d v).tmps.size=a.tmps.size:=by
 cases d<;>simp[Act.put]
theorem put_defers(a:Act)(d:Option Nat)(v:Value):(a.put d v).defers=a.defers:=by
 cases d<;>rfl
theorem Xd(st:St)(d:Option Nat)(x:D):(st.put d x).env=(match d with|some t=>up st.env t x|none=>st.env):=by
 cases d<;>rfl
theorem OK(st:St)(d:Option Nat)(x:D):(st.put d x).mem=st.mem:=by cases d<;>rfl
theorem zS(st:St)(d:Option Nat)(x:D):(st.put d x).nx=st.nx:=by cases d<;>rfl
theorem bW.put{st':St}{β':az}{w':World}{d:Option Nat}{x:D}{v:Value}(he:eZ F β' w' st'.env a)(hd:∀ t,d=some t->t<a.tmps.size)(hv:R F β' w' x v)(hm:aC P F st'.mem β' w')(hn:∀ i,st'.nx<=i->β' i=none):
 bW P F (st'.put d x) β' w' (a.put d v):=by
 refine⟨?_,by rw[OK];exact hm,by rw[zS];exact hn⟩;cases d with
 |none=>exact he
 |some t=>exact he.put (some t) x v hv hd
theorem EX{p:bf}(hp:p.Ok P ops o st)(hs:bW P F st β w a)(hd:∀ t,o.dst=some t->t<a.tmps.size)(r:Option Nat)(n:Nat)(QX:Exit->Act->World->Prop){K:Act->World->Prop}
 (M:∀ β' a' w',bW P F (St.put ⟨st.env,cu st.mem p.aT,st.nx+p.new⟩ o.dst p.val) β' w' a'->dC st.nx β w a (St.put ⟨st.env,cu st.mem p.aT,st.nx+p.new⟩ o.dst p.val) β' w' a'->K a' w'):
 gV r n P ops QX o K a w:=by
 refine hp F β w a st.mem st.env st.nx (fun _ _=>rfl) hs.e hs.m (fun _ _ _=>rfl) (fun i h _=>hs.n i h) hs.n r n QX K fun v w' β' h1 h2 C J=>?_;refine M β' _ w' (bW.put (st':=⟨st.env,cu st.mem p.aT,st.nx+p.new⟩) (hs.e.step C) hd h1 h2 fun i hi=>J i (hs.n i (by simp only at hi;omega)) (.inr hi)) ⟨C,by rw[zS];simp,fun i hi hb=>J i hb (.inl hi),tN _ _ _,put_defers _ _ _⟩
theorem Z4{Y:gd}{dr:Bool}{K:St->List Nat->List Nat->Prop}(h:jU P Y ops dr o st K):
 (∃ p:bf,p.Ok P ops o st/\p.mK (cD o.op) st/\K (St.put ⟨st.env,cu st.mem p.aT,st.nx+p.new⟩ o.dst p.val) p.rd p.wr)\/
 (dr=false/\∃ f args,fP ops o st true/\asks st.env o.op/\dx (bC st.env o.op) o.op=some (f,args)/\ji P f args st.mem st.nx fun r m nx=>K (St.put ⟨st.env,m,nx⟩ o.dst r) [] [])\/
 (dr=false/\∃ l args,fP ops o st true/\asks st.env o.op/\n6 (bC st.env o.op) o.op=some (l,args)/\Y l args st.mem st.nx fun r m nx=>K (St.put ⟨st.env,m,nx⟩ o.dst r) [] []):=by
 have X:∀ {x},dx (bC st.env o.op) o.op=some x->cD o.op=2:=fun {x} hx=>by
  cases ho:o.op with
  |call c=>
   rw[ho] at hx;simp only[dx] at hx;split at hx
   .rename_i f hf;unfold cD;split<;>first|rfl|(rename_i h1;cases h1;cases hf)|skip
    all_goals simp_all
   .cases hx
  |_=>rw[ho] at hx;simp[dx] at hx
 have J:∀ {x} (p:bf),dx (bC st.env o.op) o.op=some x->(∀ i∈p.wr,st.mem i≠none\/(st.nx<=i/\i<st.nx+p.new))->p.mK (cD o.op) st:=fun {x} p hx C=>by
  have:=X hx;exact⟨C,oG,oG,oG⟩
 have call:∀ {f args},fP ops o st true->asks st.env o.op->dx (bC st.env o.op) o.op=some (f,args)->vN P dr st f args (fun r m nx rd wr=>K (St.put ⟨st.env,m,nx⟩ o.dst r) rd wr)->
  (∃ p:bf,p.Ok P ops o st/\p.mK (cD o.op) st/\K (St.put ⟨st.env,cu st.mem p.aT,st.nx+p.new⟩ o.dst p.val) p.rd p.wr)\/
  (dr=false/\∃ f args,fP ops o st true/\asks st.env o.op/\dx (bC st.env o.op) o.op=some (f,args)/\ji P f args st.mem st.nx fun r m nx=>K (St.put ⟨st.env,m,nx⟩ o.dst r) [] [])\/
  (dr=false/\∃ l args,fP ops o st true/\asks st.env o.op/\n6 (bC st.env o.op) o.op=some (l,args)/\Y l args st.mem st.nx fun r m nx=>K (St.put ⟨st.env,m,nx⟩ o.dst r) [] []):=fun {f args} C ha hc hk=>by
  rcases hk with⟨r,h1,h2⟩|⟨iS,bx,r,h1,h2,M,h4⟩|⟨es,n,t,h1,h2⟩|⟨h1,h2⟩|⟨r,aT,bx,h1,h2,M⟩|⟨es,n,t,aT,bx,h1,h2,M,h4⟩
  .exact .inl ⟨⟨r,[],[],0⟩,J1 C ha hc h1,J _ hc (by simp[bf.wr]),h2⟩
  .exact .inl ⟨⟨r,[],bx,0⟩,Rh C ha hc h1 h2 M,J _ hc (by simp[bf.wr]),h4⟩
  .exact .inl ⟨⟨.rs st.nx 0 n,[(st.nx,some (.cells es t))],[],1⟩,Se C ha hc h1,J _ hc (by simp[bf.wr]),h2⟩
  .exact .inr (.inl ⟨h1,f,args,C,ha,hc,h2⟩)
  .exact .inl ⟨⟨r,aT,bx,0⟩,ace C ha hc h1,J _ hc fun i hi=>.inl (h2 i hi).2,M⟩
  .refine .inl ⟨⟨.rs st.nx 0 n,aT++[(st.nx,some (.cells es t))],bx,1⟩,ZJ C ha hc h1 h2 M,J _ hc fun i hi=>?_,?_⟩
   .simp only[bf.wr,List.map_append,List.mem_append,List.map_cons,List.map_nil,List.mem_singleton] at hi;rcases hi with hi|rfl
    .obtain⟨x,hx,rfl⟩:=List.mem_map.1 hi;obtain⟨r,hr,_⟩:=h1.1 _ (h1.2.1 x hx).1;exact .inl (by simp[hr])
    .exact .inr ⟨bO _,Nat.lt_succ_self _⟩
   .show K _ _ (bf.wr _);rw[Jv,bf.wr,List.map_append];exact h4
 have op:∀ {e:du},fP ops o st true->asks st.env o.op->aQ P o.op (bC st.env o.op) st.mem st.nx=some e->e.pre->K (St.put ⟨st.env,cu st.mem e.aT,st.nx+e.new⟩ o.dst e.val) e.rd (e.aT.map (·.1))->
  (∃ p:bf,p.Ok P ops o st/\p.mK (cD o.op) st/\K (St.put ⟨st.env,cu st.mem p.aT,st.nx+p.new⟩ o.dst p.val) p.rd p.wr):=fun {e} C ha h hp hk=>by
  obtain⟨t1,t2,t3,t4⟩:=Ju h;exact⟨⟨e.val,e.aT,e.rd,e.new⟩,KA C ha h hp,⟨t1,t2,t3,t4⟩,hk⟩
 have skip:∀ {d:D},fP ops o st false->(∀ F β w,R F β w d undef)->K (st.put o.dst d) [] []->
  (∃ p:bf,p.Ok P ops o st/\p.mK (cD o.op) st/\K (St.put ⟨st.env,cu st.mem p.aT,st.nx+p.new⟩ o.dst p.val) p.rd p.wr):=fun {d} C hd hk=>
  ⟨⟨d,[],[],0⟩,FF C d hd,⟨by simp[bf.wr],fun _=>⟨rfl,rfl⟩,fun _=>rfl,fun _=>⟨rfl,by simp[bf.wr]⟩⟩,hk⟩
 have O:∀ (F:Nat->Prop) β w,R F β w uk undef:=fun F β w=>.cG false .u undef oS fun _=>rfl;unfold jU at h;split at h
 .rename_i hg;have C:=xB (ops:=ops) (st:=st) hg;obtain⟨ha,h⟩:=h;split at h
  .rename_i f args hc;exact call C ha hc h
  .split at h
   .rename_i l args hy;exact .inr (.inr ⟨h.1,l,args,C,ha,hy,h.2⟩)
   .split at h
    .rename_i e he;exact .inl (op C ha he h.1 h.2)
    .exact h.elim
 .rename_i j b hg;split at h
  .exact h.elim
  .rename_i c hc;simp only[Option.bind_eq_some_iff] at hc;obtain⟨t,⟨oj,uR,Nu⟩,hc⟩:=hc;have C:fP ops o st c:=IN hg (t:=t) (by simp[uR,Nu]) hc;split at h
   .rename_i f args iV;rcases h with⟨r,h1,h2⟩|⟨h1,h2⟩
    .refine .inl ⟨⟨.cG c r,[],[],0⟩,Sd C fun rV=>?_,J _ iV (by simp[bf.wr]),h2⟩;subst rV;exact J1 C (h1 rfl).1 iV (h1 rfl).2
    .cases c with
     |true=>exact call C (h1 rfl).1 iV (h1 rfl).2
     |false=>exact .inl (skip C O (h2 rfl))
   .split at h
    .rename_i l args hy;cases c with
     |true=>exact .inr (.inr ⟨(h.1 rfl).2.1,l,args,C,(h.1 rfl).1,hy,(h.1 rfl).2.2⟩)
     |false=>exact .inl (skip C O (h.2 rfl))
    .split at h
     .rename_i e he;split at h
      .rename_i U;simp only[ay,List.isEmpty_iff,beq_iff_eq] at U;obtain⟨h1,h2⟩:=h;obtain⟨t1,t2,t3,t4⟩:=Ju he;refine .inl ⟨⟨.cG c e.val,[],e.rd,0⟩,Sd C fun rV=>?_,⟨by simp[bf.wr],fun hk=>⟨(t2 hk).1,rfl⟩,fun _=>rfl,fun hk=>⟨(t4 hk).1,by simp[bf.wr]⟩⟩,h2⟩;subst rV;have:=KA C (h1 rfl).1 he (h1 rfl).2;rw[U.1,U.2] at this;exact this
      .obtain⟨h1,h2⟩:=h;cases c with
       |true=>exact .inl (op C (h1 rfl).1 he (h1 rfl).2.1 (h1 rfl).2.2)
       |false=>exact .inl (skip C O (h2 rfl))
     .obtain⟨rfl,h⟩:=h;exact .inl (skip C O h)
theorem Xv(h:goes ops o st):fP ops o st true:=by
 rcases h with hg|⟨j,b,hg,hc⟩
 .exact xB hg
 .simp only[Option.bind_eq_some_iff] at hc;obtain⟨t,⟨M,J,C⟩,hc⟩:=hc;exact IN hg (t:=t) (by simp[J,C]) hc
theorem I0{Y:gd}{dr:Bool}{K:St->List Nat->List Nat->Prop}(h:jU P Y ops dr o st K\/Uh P ops o st K):
 (∃ p:bf,p.Ok P ops o st/\p.mK (cD o.op) st/\K (St.put ⟨st.env,cu st.mem p.aT,st.nx+p.new⟩ o.dst p.val) p.rd p.wr)\/
 (dr=false/\∃ f args,fP ops o st true/\asks st.env o.op/\dx (bC st.env o.op) o.op=some (f,args)/\ji P f args st.mem st.nx fun r m nx=>K (St.put ⟨st.env,m,nx⟩ o.dst r) [] [])\/
 (dr=false/\∃ l args,fP ops o st true/\asks st.env o.op/\n6 (bC st.env o.op) o.op=some (l,args)/\Y l args st.mem st.nx fun r m nx=>K (St.put ⟨st.env,m,nx⟩ o.dst r) [] []):=by
 rcases h with h|⟨h1,h2,e,C,J⟩
 .exact Z4 h
 .obtain⟨M,t2,t3,t4⟩:=C.tidy;exact .inl ⟨⟨e.val,e.aT,e.rd,e.new⟩,Q9 (Xv h1) h2 C,⟨M,t2,t3,t4⟩,J⟩
theorem OL{f:FuncId}{args:List D}{dd:D->Mem->Nat->Prop}(hw:fP ops o st true)(ha:asks st.env o.op)(hc:dx (bC st.env o.op) o.op=some (f,args))(h:ji P f args st.mem st.nx dd)
 (hs:bW P F st β w a) (hd:∀ t,o.dst=some t->t<a.tmps.size) (r:Option Nat) (n:Nat) (QX:Exit->Act->World->Prop) {K:Act->World->Prop}
 (hK:∀ d m' aA β' a' w',dd d m' aA->bW P F (St.put ⟨st.env,m',aA⟩ o.dst d) β' w' a'->dC st.nx β w a (St.put ⟨st.env,m',aA⟩ o.dst d) β' w' a'->K a' w'):
 gV r n P ops QX o K a w:=by
 refine z8 (hw F β w a st.env (fun _ _=>rfl) hs.e) hs.e ha hc h.1 fun vs hR=>?_;refine(h.2 F β w vs hs.m hs.n hR).mono fun e w' hp=>?_;obtain⟨v,d,m',aA,β',h1,h2,J,M,O,C,U,X⟩:=hp;refine⟨v,h1,hK d m' aA β' _ w' h2 (bW.put (st':=⟨st.env,m',aA⟩) (hs.e.step C) hd O J M) ⟨C,by rw[zS];exact U,X,tN _ _ _,put_defers _ _ _⟩⟩
theorem W6{env:Env}{l:Nat}{args:List D}(J:eZ F β w env a)(ha:asks env o.op)(h:n6 (bC env o.op) o.op=some (l,args)):
 ∃ vs,(execOp a.eval o).run P w=(Instr.yield l vs).run P w/\Rs F β w args vs:=by
 obtain⟨dst,op,type,pos,after,guard⟩:=o;simp only at ha h;cases op with
 |call c=>
  simp only[n6] at h;have hR:∀ x∈(Op.call c).operands.toList,R F β w (bC env (.call c) x) (a.eval x):=fun x hx=>(J.opd x).vI _ (ha x hx);split at h
  .rename_i g hg;split at h
   .rename_i U hk;simp only[aK,cq] at h;obtain⟨rfl,rfl⟩:=h;have h1:=hR g (by simp[Op.operands,Call.operands,hg]);rw[hk] at h1;obtain⟨X,M⟩:=Au (F:=F) (β:=β) (w:=w) (xs:=c.args) (ρ:=bC env (.call c)) (a:=a) (fun x hx=>hR x (by simp[Op.operands,Call.operands];exact .inr hx));generalize hv:a.eval g=v at h1;cases h1 with
    |fn _ _ _ us vs hl kY hh O=>
    have C:us=[]:=List.eq_nil_of_length_eq_zero (by simpa using hl);have e2:vs=[]:=List.eq_nil_of_length_eq_zero (by simpa using kY);subst C e2;refine⟨c.args.map a.eval,?_,oS,fun j d u hd hu=>M j d u hd (by simpa using hu)⟩;unfold execOp;simp only[resolve,hg,Sem.run_bind,hv,Deferred.ofValue,Sem.run_pure,Result.andThen_ok,invoke];simp
   .cases h
  .cases h
 |_=>simp[n6] at h
theorem WI{op:Op}{ρ:Operand->D}{x:Nat×List D}(h:n6 ρ op=some x):∀ c,op≠ .defer c:=fun c hc=>by
 subst hc;simp[n6] at h
theorem Xw{l:Nat}{args:List D}{dd:D->Mem->Nat->Prop}(hw:fP ops o st true)(ha:asks st.env o.op)(hc:n6 (bC st.env o.op) o.op=some (l,args)){M:az}{J:World}(h:o6 P F M J l args st.mem st.nx dd)(hb:Step M J β w)
 (hs:bW P F st β w a) (hd:∀ t,o.dst=some t->t<a.tmps.size) (r:Option Nat) (n:Nat) (QX:Exit->Act->World->Prop) {K:Act->World->Prop}
 (hK:∀ d m' aA β' a' w',dd d m' aA->bW P F (St.put ⟨st.env,m',aA⟩ o.dst d) β' w' a'->dC st.nx β w a (St.put ⟨st.env,m',aA⟩ o.dst d) β' w' a'->K a' w'):
 gV r n P ops QX o K a w:=by
 obtain⟨vs,h1,h2⟩:=W6 (P:=P) hs.e ha hc;obtain⟨f,tmps,assign,body,h3,h4⟩:=h β w vs hb hs.m hs.n h2;unfold gV;rw[hw F β w a st.env (fun _ _=>rfl) hs.e,if_pos rfl];refine⟨fun _ _=>trivial,?_⟩;rw[yc (WI hc),h1,h3];refine⟨oS,?_⟩;have h5:=h4 (n - 1);refine RoundIn.mono (F:=Fe r) (show RoundIn (Fe r) (n - 1) P l f tmps assign body w _ from h5) fun e w' hp=>?_;obtain⟨v,d,m',aA,β',rfl,O,U,X,g5,C,g7,g8⟩:=hp;exact hK d m' aA β' _ w' O (bW.put (st':=⟨st.env,m',aA⟩) (hs.e.step C) hd g5 U X) ⟨C,by rw[zS];exact g7,g8,tN _ _ _,put_defers _ _ _⟩
def lA(N:Nat)(ops:Array Oper):Bool:=ops.toList.all fun o=>match o.dst with
 |some t=>Nat.blt t N
 |none=>true
theorem sb{N:Nat}(h:lA N ops=true){i:Nat}{o:Oper}(hi:ops[i]? =some o):∀ t,o.dst=some t->t<N:=fun t ht=>by
 have h1:=b7.1 h o (by simpa using Array.mem_of_getElem? hi);rw[ht] at h1;simpa using h1
theorem Z5{Y:gd}{r:Option Nat}{n:Nat}{cf:List (Nat×Nat)}{Q:Exit->St->Prop}{N:Nat}{β₀:az}{w₀:World}{a₀:Act}(hY:∀ l args m nx dd,Y l args m nx dd->o6 P F β₀ w₀ l args m nx dd)(aj:lA a₀.tmps.size ops=true):
 ∀ (rest:List Oper) (k:Nat) (st:St) (tr:ma) (β:az) (w:World) (a:Act),ops.toList.drop k=rest->aw P Y ops false cf Q rest st tr->bW P F st β w a->dC N β₀ w₀ a₀ st β w a->
  wpOpsIn (Fe r) n P ops (dd P F N β₀ w₀ a₀ Q) (List.range' k rest.length) a w:=by
 intro rest
 induction rest with
 |nil=>
  intro k st tr β w a hk h hs C;simp only[List.length_nil,List.range'_zero,wpOpsIn];exact⟨st,β,h.2,hs,C⟩
 |cons o rest ih=>
  intro k st tr β w a hk h hs C
  have ho:ops[k]? =some o:=by
   have:(ops.toList.drop k)[0]? =some o:=by rw[hk];rfl
   simpa using this
  have X:ops.toList.drop (k+1)=rest:=by
   have:(ops.toList.drop k).drop 1=rest:=by rw[hk];rfl
   simpa[List.drop_drop,Nat.add_comm] using this
  simp only[List.length_cons,List.range'_succ,wpOpsIn_cons];refine zJ ho ?_;have hd:∀ t,o.dst=some t->t<a.tmps.size:=fun t ht=>by rw[C.size];exact sb aj ho t ht
  simp only[aw] at h;rcases I0 h with⟨p,h1,_,O⟩|⟨_,f,args,h1,h2,O,U⟩|⟨_,l,args,h1,h2,O,U⟩
  .exact EX h1 hs hd r n _ fun β' a' w' J M=>ih (k+1) _ _ β' w' a' X O J (C.trans M)
  .exact OL h1 h2 O U hs hd r n _ fun d m' aA β' a' w' hp J M=>ih (k+1) _ _ β' w' a' X hp J (C.trans M)
  .exact Xw h1 h2 O (hY _ _ _ _ _ U) C.step hs hd r n _ fun d m' aA β' a' w' hp J M=>ih (k+1) _ _ β' w' a' X hp J (C.trans M)
theorem WN{Y:gd}{r:Option Nat}{n id:Nat}{cf:List (Nat×Nat)}{Q:Exit->St->Prop}{N:Nat}{β₀:az}{w₀:World}{a₀:Act}(J:∀ l args m nx dd,Y l args m nx dd->o6 P F β₀ w₀ l args m nx dd)(aj:lA a₀.tmps.size ops=true)
 (h:aw P Y ops false cf Q ops.toList st []) (hs:bW P F st β w a) (C:dC N β₀ w₀ a₀ st β w a):(Code.region id ops false).wpIn (Fe r) n P (dd P F N β₀ w₀ a₀ Q) a w:=by
 refine wpIn_region ?_;have:=Z5 J (r:=r) (n:=n) aj ops.toList 0 st [] β w a oS h hs C;rw[List.range_eq_range'];simpa using this
end
theorem zR(C:List Nat)(i:Nat):∀ (l:List Edge) (s:Nat),(l.foldl (fun s e=>if Region.binds .any e then s||| 2 ^ e.on||| C.getD e.on 0 else s) s).testBit i=true->
 s.testBit i=true\/∃ e∈l,Region.binds .any e=true/\(i=e.on\/(C.getD e.on 0).testBit i=true)
 |[],s,h=>.inl h
 |e::l,s,h=>by
  rw[List.foldl_cons] at h;rcases zR C i l _ h with h1|⟨J,M,hb⟩
  .by_cases hb:Region.binds .any e=true
   .rw[if_pos hb] at h1;simp only[Nat.testBit_or,Bool.or_eq_true,Nat.testBit_two_pow,decide_eq_true_eq] at h1;rcases h1 with(h1|h1)|h1
    .exact .inl h1
    .exact .inr ⟨e,oS,hb,.inl h1.symm⟩
    .exact .inr ⟨e,oS,hb,.inr h1⟩
   .rw[if_neg hb] at h1;exact .inl h1
  .exact .inr ⟨J,by simp[M],hb⟩
theorem Ix:∀ (os:List Oper) (C:List Nat),∃ l,dE os C=C++l/\l.length=os.length
 |[],C=>⟨[],by simp[dE],rfl⟩
 |o::os,C=>by
  obtain⟨l,h1,h2⟩:=Ix os (C++[AN C o]);exact⟨AN C o::l,by simp[dE,h1],by simp[h2]⟩
theorem zZ:∀ (os:List Oper) (C:List Nat) (k:Nat) (o:Oper),os[k]? =some o->(dE os C).getD (C.length+k) 0=AN ((dE os C).take (C.length+k)) o
 |[],C,k,o,h=>by simp at h
 |x::os,C,0,o,h=>by
  simp only[List.getElem?_cons_zero,aK] at h;subst h;obtain⟨l,h1,h2⟩:=Ix os (C++[AN C x]);simp[dE,h1]
 |x::os,C,k+1,o,h=>by
  have:=zZ os (C++[AN C x]) k o (by simpa using h);simp only[List.length_append,List.length_cons,List.length_nil] at this;have e:C.length+(k+1)=C.length+(0+1)+k:=by omega
  rw[e];exact this
theorem zN{ops:Array Oper}{S:Nat->Bool}(M:∀ j,S j=true->∀ o,ops[j]? =some o->∀ e∈o.after,Region.binds .any e=true->S e.on=true)(i:Nat):
 ∀ j,S j=true->((dE ops.toList []).getD j 0).testBit i=true->S i=true:=by
 intro j
 induction j using Nat.strongRecOn with
 |_ j ih=>
  intro hj hb;cases ho:ops[j]? with
  |none=>
   obtain⟨l,h1,h2⟩:=Ix ops.toList []
   have:(dE ops.toList []).getD j 0=0:=by
    rw[h1];simp only[List.nil_append];have:ops.size<=j:=by simpa using ho
    simp[List.getElem?_eq_none (show l.length<=j by simpa[h2] using this)]
   rw[this] at hb;simp at hb
  |some o=>
   have h1:=zZ ops.toList [] j o (by simpa using ho);simp only[List.length_nil,Nat.zero_add] at h1;rw[h1] at hb;rcases zR _ i _ 0 hb with h2|⟨e,he,O,h2⟩
   .simp at h2
   .have C:=M j hj o ho e (by simpa using he) O;rcases h2 with rfl|h2
    .exact C
    .rcases Nat.lt_or_ge e.on j with aj|J
     .refine ih e.on aj C ?_;simpa[List.getElem?_take,aj] using h2
     .simp[List.getElem?_take,Nat.not_lt.2 J] at h2
theorem EL{bs:List Nat}{n i j:Nat}(C:i<j)(hj:j<n)(h:(bs.getD j 0).testBit i=false):(i,j)∈unordered bs n:=by
 unfold unordered;rw[List.mem_flatMap];exact⟨j,by simp[hj],by rw[List.mem_map];exact⟨i,by simp only[List.mem_filter,List.mem_range];exact⟨C,by rw[h];rfl⟩,rfl⟩⟩
theorem z1{us:List (Nat×Option Row)}:∀ {m:Mem} {i:Nat},i∉us.map (·.1)->cu m us i=m i:=by
 induction us with
 |nil=>intro m i _;rfl
 |cons u us ih=>
  intro m i h;obtain⟨j,r⟩:=u;simp only[List.map_cons,List.mem_cons,not_or] at h;simp only[cu];rw[ih h.2,bE _ _ h.1]
theorem II{us:List (Nat×Option Row)}:∀ {m m':Mem} {i:Nat},(i∈us.map (·.1)\/m i=m' i)->cu m us i=cu m' us i:=by
 induction us with
 |nil=>intro m m' i h;simpa[cu] using h
 |cons u us ih=>
  intro m m' i h;obtain⟨j,r⟩:=u;simp only[cu];refine ih ?_;by_cases hj:i=j
  .right;subst hj;rw[au,au]
  .rcases h with h|h
   .left;simp only[List.map_cons,List.mem_cons] at h;exact h.resolve_left hj
   .right;rw[bE _ _ hj,bE _ _ hj,h]
theorem XZ{a b:List (Nat×Option Row)}(m:Mem)(h:∀ i∈a.map (·.1),i∉b.map (·.1)):cu (cu m a) b=cu (cu m b) a:=by
 funext i;by_cases ha:i∈a.map (·.1)
 .rw[z1 (h i ha)];exact II (.inl ha)
 .rw[z1 (m:=cu m b) ha];exact II (.inr (z1 ha))
def pu(env:Env)(d:Option Nat)(v:D):Env:=match d with
 |some t=>up env t v
 |none=>env
theorem Cd{env:Env}{d:Option Nat}{v:D}{t:Nat}(h:d≠some t):pu env d v t=env t:=by
 cases d with
 |none=>rfl
 |some u=>exact bE _ _ fun e=>h (by rw[e])
theorem IJ{env env':Env}{d:Option Nat}{v:D}{t:Nat}(h:d=some t\/env t=env' t):pu env d v t=pu env' d v t:=by
 cases d with
 |none=>simpa[pu] using h
 |some u=>
  by_cases hu:t=u
  .subst hu;simp[pu,au]
  .simp only[pu,bE _ _ hu];rcases h with h|h
   .simp only[aK] at h;exact absurd h.symm hu
   .exact h
theorem X0(env:Env){d d':Option Nat}(v C:D)(h:∀ t,d=some t->d'≠some t):pu (pu env d v) d' C=pu (pu env d' C) d v:=by
 funext t;by_cases hd:d=some t
 .rw[Cd (h t hd)];exact IJ (.inl hd)
 .rw[Cd (env:=pu env d' C) hd];exact IJ (.inr (Cd hd))
def uQ(st:St)(o:Oper)(p:bf):St:=St.put ⟨st.env,cu st.mem p.aT,st.nx+p.new⟩ o.dst p.val
theorem JS(st:St)(o:Oper)(p:bf):(uQ st o p).env=pu st.env o.dst p.val:=by unfold uQ;rw[Xd];rfl
theorem FA(st:St)(o:Oper)(p:bf):(uQ st o p).mem=cu st.mem p.aT:=OK _ _ _
theorem n7(st:St)(o:Oper)(p:bf):(uQ st o p).nx=st.nx+p.new:=zS _ _ _
section
variable(oo:Nat->Oper)(pp:Nat->bf)(st₀:St)
def dw(S:Nat->Bool):Nat->St
 |0=>st₀
 |k+1=>if S k then uQ (dw S k) (oo k) (pp k) else dw S k
def bI:Nat->St:=dw oo pp st₀ fun _=>true
theorem lc(k:Nat):bI oo pp st₀ (k+1)=uQ (bI oo pp st₀ k) (oo k) (pp k):=rfl
theorem Kq(k:Nat):∀ n,k<=n->dw oo pp st₀ (fun j=>decide (j<k)) n=bI oo pp st₀ k:=by
 have below:∀ n,n<=k->dw oo pp st₀ (fun j=>decide (j<k)) n=bI oo pp st₀ n:=by
  intro n
  induction n with
  |zero=>intro _;rfl
  |succ n ih=>
   intro h;have hd:decide (n<k)=true:=by simp;omega
   rw[lc, <- ih oG];simp only[dw,hd,if_true]
 intro n h
 induction n with
 |zero=>
  have:k=0:=by omega
  subst this;rfl
 |succ n ih=>
  rcases Nat.lt_or_ge n k with aj|C
  .have:k=n+1:=by omega
   subst this;exact below (n+1) (bO _)
  .have hd:decide (n<k)=false:=by simpa using C
   simp only[dw,hd,Bool.false_eq_true,if_false];exact ih C
theorem JT{S T:Nat->Bool}{t:Nat}:∀ n,(∀ j,j<n->S j≠T j->(oo j).dst≠some t)->(dw oo pp st₀ S n).env t=(dw oo pp st₀ T n).env t:=by
 intro n
 induction n with
 |zero=>intro _;rfl
 |succ n ih=>
  intro h;have h1:=ih fun j hj=>h j oG;have h2:=h n oG;simp only[dw];cases C:S n<;>cases J:T n<;>simp only[Bool.false_eq_true,if_false,if_true,JS]
  .exact h1
  .rw[Cd (h2 (by simp[C,J]))];exact h1
  .rw[Cd (h2 (by simp[C,J]))];exact h1
  .exact IJ (.inr h1)
theorem JU{S T:Nat->Bool}{i:Nat}:∀ n,(∀ j,j<n->S j≠T j->i∉(pp j).wr)->(dw oo pp st₀ S n).mem i=(dw oo pp st₀ T n).mem i:=by
 intro n
 induction n with
 |zero=>intro _;rfl
 |succ n ih=>
  intro h;have h1:=ih fun j hj=>h j oG;have h2:=h n oG;simp only[dw];cases C:S n<;>cases J:T n<;>simp only[Bool.false_eq_true,if_false,if_true,FA]
  .exact h1
  .rw[z1 (h2 (by simp[C,J]))];exact h1
  .rw[z1 (h2 (by simp[C,J]))];exact h1
  .exact II (.inr h1)
theorem z6{S T:Nat->Bool}:∀ n,(∀ j,j<n->S j=T j)->dw oo pp st₀ S n=dw oo pp st₀ T n:=by
 intro n
 induction n with
 |zero=>intro _;rfl
 |succ n ih=>
  intro h;simp only[dw,ih fun j hj=>h j oG,h n oG]
theorem QZ{S:Nat->Bool}{k:Nat}(hk:S k=false):∀ n,k<n->(∀ j,k<j->j<n->S j=true->(∀ t,(oo k).dst=some t->(oo j).dst≠some t)/\∀ i∈(pp k).wr,i∉(pp j).wr)->
 (dw oo pp st₀ (fun j=>if j=k then true else S j) n).env=pu (dw oo pp st₀ S n).env (oo k).dst (pp k).val/\
 (dw oo pp st₀ (fun j=>if j=k then true else S j) n).mem=cu (dw oo pp st₀ S n).mem (pp k).aT:=by
 intro n
 induction n with
 |zero=>intro h;omega
 |succ n ih=>
  intro X h;rcases Nat.lt_or_ge k n with aj|U
  .obtain⟨h1,h2⟩:=ih aj fun j hj oE=>h j hj oG;have C:n≠k:=by omega
   simp only[dw,if_neg C];cases O:S n with
   |false=>simp only[Bool.false_eq_true,if_false];exact⟨h1,h2⟩
   |true=>
    obtain⟨J,M⟩:=h n aj oG O;simp only[if_true,JS,FA,h1,h2];exact⟨X0 _ _ _ J,XZ _ M⟩
  .have:n=k:=by omega
   subst this;have e:dw oo pp st₀ (fun j=>if j=n then true else S j) n=dw oo pp st₀ S n:=z6 oo pp st₀ n fun j hj=>by simp only[if_neg (show j≠n by omega)]
   simp only[dw,if_true,hk,Bool.false_eq_true,if_false,JS,FA,e];exact⟨trivial,trivial⟩
theorem gy{j k:Nat}(h:j<=k):(bI oo pp st₀ j).nx<=(bI oo pp st₀ k).nx:=by
 induction k with
 |zero=>have:j=0:=by omega
        subst this;exact bO _
 |succ k ih=>
  rcases Nat.lt_or_ge j (k+1) with aj|C
  .rw[lc,n7];have:=ih oG;omega
  .have:j=k+1:=by omega
   subst this;exact bO _
end
section
variable{P:Program}{ops:Array Oper}{cf:List (Nat×Nat)}{Q:Exit->St->Prop}
def Co(P:Program)(ops:Array Oper)(cf:List (Nat×Nat))(Q:Exit->St->Prop):List Oper->List bf->St->ma->Prop
 |[],[],st,tr=>(∀ q∈cf,p9 tr q.1 q.2)/\Q .normal st
 |o::os,p::ps,st,tr=>p.Ok P ops o st/\p.mK (cD o.op) st/\Co P ops cf Q os ps (uQ st o p) (tr++[(p.rd,p.wr)])
 |_,_,_,_=>False
theorem IK{Y:gd}:∀ (os:List Oper) (st:St) (tr:ma),aw P Y ops true cf Q os st tr->∃ ps,Co P ops cf Q os ps st tr
 |[],st,tr,h=>⟨[],h⟩
 |o::os,st,tr,h=>by
  simp only[aw] at h;rcases I0 h with⟨p,h1,h2,C⟩|⟨h1,_⟩|⟨h1,_⟩
  .obtain⟨ps,J⟩:=IK os _ _ C;exact⟨p::ps,h1,h2,J⟩
  .cases h1
  .cases h1
instance:Inhabited bf:=⟨⟨.u,[],[],0⟩⟩
theorem B3(oo:Nat->Oper)(pp:Nat->bf)(st₀:St):∀ (os:List Oper) (ps:List bf) (k:Nat) (tr:ma),(∀ j o,os[j]? =some o->oo (k+j)=o)->(∀ j p,ps[j]? =some p->pp (k+j)=p)->tr.length=k->
 (∀ j,j<k->tr.getD j ([],[])=((pp j).rd,(pp j).wr))->Co P ops cf Q os ps (bI oo pp st₀ k) tr->
 (∀ j,k<=j->j<k+os.length->(pp j).Ok P ops (oo j) (bI oo pp st₀ j)/\(pp j).mK (cD (oo j).op) (bI oo pp st₀ j))/\Q .normal (bI oo pp st₀ (k+os.length))/\
 ∃ C:ma,(∀ j,j<k+os.length->C.getD j ([],[])=((pp j).rd,(pp j).wr))/\∀ q∈cf,p9 C q.1 q.2
 |[],[],k,tr,ho,hp,hl,ht,h=>⟨fun j h1 h2=>absurd h2 oP,h.2,tr,ht,h.1⟩
 |[],_::_,_,_,_,_,_,_,h=>h.elim
 |_::_,[],_,_,_,_,_,_,h=>h.elim
 |o::os,p::ps,k,tr,ho,hp,hl,ht,h=>by
  have M:oo k=o:=ho 0 o rfl;have e2:pp k=p:=hp 0 p rfl;obtain⟨h1,h2,U⟩:=h;have J:Co P ops cf Q os ps (bI oo pp st₀ (k+1)) (tr++[(p.rd,p.wr)]):=by rw[lc,M,e2];exact U
  obtain⟨a1,a2,C,a3,a4⟩:=B3 oo pp st₀ os ps (k+1) _ (fun j x hj=>by have:=ho (j+1) x (by simpa using hj);rw[<- this];congr 1;omega)
   (fun j x hj=>by have:=hp (j+1) x (by simpa using hj);rw[<- this];congr 1;omega) (by simp[hl])
   (fun j hj=>by
    rcases Nat.lt_or_ge j k with aj|O
    .rw[<- ht j aj];simp[List.getElem?_append_left (show j<tr.length by omega)]
    .have:j=k:=by omega
     subst this;simp[<- hl,List.getElem?_append_right,e2]
     rw[hl,e2];exact⟨rfl,rfl⟩) J
  have e3:k+(o::os).length=k+1+os.length:=by simp;omega
  rw[e3];refine⟨fun j hj X=>?_,a2,C,a3,a4⟩;rcases Nat.lt_or_ge k j with aj|O
  .exact a1 j aj X
  .have:j=k:=by omega
   subst this;rw[M,e2];exact⟨h1,h2⟩
def Gg(P:Program)(F:Nat->Prop)(ops:Array Oper)(Q:Exit->St->Prop)(N₀:Nat)(β₀:az)(w₀:World)(a₀:Act)(r:Option Nat)(n:Nat)(o:Oper)(st:St):Prop:=
 ∀ (β:az) (w:World) (a:Act),bW P F st β w a->dC N₀ β₀ w₀ a₀ st β w a->∀ K:Act->World->Prop,(∀ a' w',dd P F N₀ β₀ w₀ a₀ Q .normal a' w'->K a' w')->gV r n P ops (dd P F N₀ β₀ w₀ a₀ Q) o K a w
theorem Oe(h:cg ops=some cf):(∀ (i:Nat) (o:Oper),ops[i]? =some o->∀ e∈o.after,Region.binds .any e=true->e.on<i)/\
 (∀ q∈unordered (dE ops.toList []) ops.size,EW ops q.1 q.2=true)/\(∀ q∈unordered (dE ops.toList []) ops.size,Fz ops q.1 q.2=true->q∈cf):=by
 unfold cg at h;simp only at h;split at h
 .rename_i hc;simp only[ay] at hc;cases h;refine⟨fun i o hi e he hb=>?_,fun q hq=>b7.1 hc.2 q hq,fun q hq hm=>by rw[List.mem_filter];exact⟨hq,hm⟩⟩
  have h1:=b7.1 hc.1 (o,i) (by
   rw[List.mem_zipIdx_iff_getElem?]
   simpa using hi)
  have h2:=b7.1 h1 e (by simpa using he);simpa[hb] using h2
 .cases h
variable{F:Nat->Prop}{N₀:Nat}{β₀:az}{w₀:World}{a₀:Act}
structure DS(P:Program)(F:Nat->Prop)(oo:Nat->Oper)(pp:Nat->bf)(st₀:St)(n:Nat)(N₀:Nat)(β₀:az)(w₀:World)(a₀:Act)(S:Nat->Bool)(β:az)(w:World)(a:Act):Prop where
 e:eZ F β w (dw oo pp st₀ S n).env a
 m:aC P F (dw oo pp st₀ S n).mem β w
 free:∀ i,st₀.nx<=i->(∀ k,k<n->S k=true->¬ ((bI oo pp st₀ k).nx<=i/\i<(bI oo pp st₀ k).nx+(pp k).new))->β i=none
 step:Step β₀ w₀ β w
 grow:∀ i,i<N₀->β₀ i=none->β i=none
 size:a.tmps.size=a₀.tmps.size
 defers:a.defers=a₀.defers
theorem Zq{oo:Nat->Oper}{pp:Nat->bf}{st₀:St}(hi:cg ops=some cf)(y8:∀ j o,ops[j]? =some o->oo j=o)(aj:lA a₀.tmps.size ops=true)
 (nl:Nat) (jT:nl<=ops.size) (c7:∀ j,j<nl->(pp j).Ok P ops (oo j) (bI oo pp st₀ j)/\(pp j).mK (cD (oo j).op) (bI oo pp st₀ j)) (hQ:nl=ops.size->Q .normal (bI oo pp st₀ ops.size))
 (hL:nl<ops.size->nl+1=ops.size/\(∀ i,i<nl->((dE ops.toList []).getD nl 0).testBit i=true)/\∀ r n,Gg P F ops Q N₀ β₀ w₀ a₀ r n (oo nl) (bI oo pp st₀ nl))
 (br:∃ oF:ma,(∀ j,j<nl->oF.getD j ([],[])=((pp j).rd,(pp j).wr))/\∀ q∈cf,p9 oF q.1 q.2)
 (jS:∀ i,st₀.nx<=i->st₀.mem i=none) (hN:N₀<=st₀.nx) (r:Option Nat) (n:Nat):
 ∀ (dV:Nat) (listed:Array Bool) (β:az) (w:World) (a:Act),listed.size=ops.size->listed.toList.countP (fun b=> !b)<=dV->(nl<ops.size->listed.getD nl false=false)->
  (∀ j,listed.getD j false=true->∀ o,ops[j]? =some o->∀ e∈o.after,Region.binds .any e=true->listed.getD e.on false=true)->
  DS P F oo pp st₀ ops.size N₀ β₀ w₀ a₀ (fun j=>listed.getD j false) β w a->
  wpAnyIn (Fe r) n P .any ops (dd P F N₀ β₀ w₀ a₀ Q) dV listed a w:=by
 obtain⟨rJ,M6,y3⟩:=Oe hi;obtain⟨oF,Ui,afW⟩:=br
 have Vd:∀ k,k<=nl->∀ i,(bI oo pp st₀ k).nx<=i->(bI oo pp st₀ k).mem i=none:=by
  intro k
  induction k with
  |zero=>intro _ i hi;exact jS i hi
  |succ k ih=>
   intro hk i hi;rw[lc,n7] at hi;rw[lc,FA];have h1:=(c7 k oG).2.wr;rw[z1,ih oG i oG];intro oA;rcases h1 i oA with h2|h2
   .exact h2 (ih oG i oG)
   .omega
 have rK:∀ i j,i<j->j<ops.size->((dE ops.toList []).getD j 0).testBit i=false->
  (∀ x∈(pp i).wr,x∉(pp j).wr)/\(∀ x∈(pp i).wr,x∈(pp j).rd->(bI oo pp st₀ j).mem x=none)/\(∀ x∈(pp j).wr,x∈(pp i).rd->(bI oo pp st₀ i).mem x=none):=by
  intro i j mb hj hb;have hu:=EL mb hj hb
  have oE:j<nl:=by
   rcases Nat.lt_or_ge j nl with h|h
   .exact h
   .obtain⟨q1,q2,_⟩:=hL oG;have:j=nl:=by omega
    subst this;rw[q2 i mb] at hb;cases hb
  have y9:ops[i]? =some (oo i):=by
   have:i<ops.size:=by omega
   rw[y8 i ops[i] (by simp[this])];simp[this]
  have uR:ops[j]? =some (oo j):=by
   rw[y8 j ops[j] (by simp[hj])];simp[hj]
  obtain⟨ti,Ve,Vf,t3i⟩:=(c7 i oG).2;obtain⟨tj,t0j,t1j,t3j⟩:=(c7 j oE).2;by_cases fE:Fz ops i j=true
  .have h1:=afW _ (y3 _ hu fE);unfold p9 at h1;simp only[Ui i oG,Ui j oE] at h1;exact⟨fun x hx=>(h1.1 x hx).2,fun x hx hr=>absurd hr (h1.1 x hx).1,fun x hx hr=>absurd hr (h1.2 x hx)⟩
  .simp only[Fz,y9,uR,ay,Bool.or_eq_true,beq_iff_eq,bne_iff_ne,Bool.not_eq_true',ne_eq] at fE
   have hk:∀ o:Oper,cD o.op=0\/cD o.op=1\/cD o.op=2\/cD o.op=3:=fun o=>by
    unfold cD;split<;>simp
   have nil:∀ p:bf,p.aT=[]->∀ x,x∉p.wr:=fun p hp x hx=>by simp[bf.wr,hp] at hx
   rcases hk (oo j) with U|U|U|U
   .have:=t0j U;exact⟨fun x _=>nil _ this.2 x,fun x _ hr=>(by rw[this.1] at hr;cases hr),fun x hx=>absurd hx (nil _ this.2 x)⟩
   .by_cases k0:cD (oo i).op=0
    .have:=Ve k0;exact⟨fun x hx=>absurd hx (nil _ this.2 x),fun x hx=>absurd hx (nil _ this.2 x),fun x _ hr=>by rw[this.1] at hr;cases hr⟩
    .have k1:cD (oo i).op=1:=by
      rcases hk (oo i) with h|h|h|h
      .exact absurd h k0
      .exact h
      .exact absurd ⟨⟨.inl U,oG⟩,by simp[h]⟩ fE
      .exact absurd ⟨⟨.inl U,oG⟩,by simp[h]⟩ fE
     exact⟨fun x hx=>absurd hx (nil _ (Vf k1) x),fun x hx=>absurd hx (nil _ (Vf k1) x),fun x hx=>absurd hx (nil _ (t1j U) x)⟩
   .by_cases k0:cD (oo i).op=0
    .have:=Ve k0;exact⟨fun x hx=>absurd hx (nil _ this.2 x),fun x hx=>absurd hx (nil _ this.2 x),fun x _ hr=>by rw[this.1] at hr;cases hr⟩
    .exact absurd ⟨⟨.inr U,oG⟩,by simp[U]⟩ fE
   .have fH:=gy oo pp st₀ (show i+1<=j by omega);rw[lc,n7] at fH;obtain⟨h1,h2⟩:=t3j U
    have hwi:∀ x∈(pp i).wr,x<(bI oo pp st₀ j).nx:=fun x hx=>by
     rcases ti x hx with h|h
     .rcases Nat.lt_or_ge x (bI oo pp st₀ i).nx with h'|h'
      .omega
      .exact absurd (Vd i oG x h') h
     .omega
    refine⟨fun x hx hxj=>?_,fun x _ hr=>(by rw[h1] at hr;cases hr),fun x hx _=>Vd i oG x ?_⟩
    .have:=hwi x hx;have:=h2 x hxj;omega
    .have:=h2 x hx;omega
 have L6:∀ i j,i<j->j<ops.size->((dE ops.toList []).getD j 0).testBit i=false->(oo i).apart ops (oo j)=true:=by
  intro i j mb hj hb;have h1:=M6 _ (EL mb hj hb)
  have y9:ops[i]? =some (oo i):=by
   have:i<ops.size:=by omega
   rw[y8 i ops[i] (by simp[this])];simp[this]
  have uR:ops[j]? =some (oo j):=by
   rw[y8 j ops[j] (by simp[hj])];simp[hj]
  simpa[EW,y9,uR] using h1
 have kS:∀ listed:Array Bool,listed.size=ops.size->Region.ready .any ops listed=[]->∀ k,k<ops.size->listed.getD k false=true:=by
  intro listed bK hr k
  induction k using Nat.strongRecOn with
  |_ k ih=>
   intro hk;cases hl:listed.getD k false with
   |true=>rfl
   |false=>
    exfalso
    have:k∈Region.ready .any ops listed:=by
     rw[mem_ready];refine⟨?_,ops[k],by simp[hk],fun e he hb=>?_⟩
     .have iZ:k<listed.size:=by omega
      simpa[iZ] using hl
     .have h1:=rJ k ops[k] (by simp[hk]) e he hb;exact ih e.on h1 oG
    rw[hr] at this;cases this
 have done:∀ (listed:Array Bool) (β:az) (w:World) (a:Act),listed.size=ops.size->(nl<ops.size->listed.getD nl false=false)->DS P F oo pp st₀ ops.size N₀ β₀ w₀ a₀ (fun j=>listed.getD j false) β w a->Region.ready .any ops listed=[]->
  dd P F N₀ β₀ w₀ a₀ Q .normal a w:=by
  intro listed β w a bK jz C hr
  have uS:nl=ops.size:=by
   rcases Nat.lt_or_ge nl ops.size with h|h
   .have h1:=jz h;rw[kS listed bK hr nl h] at h1;cases h1
   .omega
  have hQ:=hQ uS;have e:dw oo pp st₀ (fun j=>listed.getD j false) ops.size=bI oo pp st₀ ops.size:=z6 oo pp st₀ _ fun j hj=>kS listed bK hr j hj;have h1:=C.e;have h2:=C.m;rw[e] at h1 h2;refine⟨bI oo pp st₀ ops.size,β,hQ,⟨h1,h2,fun i hi=>C.free i ?_ fun k hk _ h=>?_⟩,⟨C.step,?_,C.grow,C.size,C.defers⟩⟩
  .exact Nat.le_trans (gy oo pp st₀ (Nat.zero_le _)) hi
  .have:=gy oo pp st₀ (show k+1<=ops.size by omega);rw[lc,n7] at this;omega
  .exact Nat.le_trans hN (gy oo pp st₀ (Nat.zero_le _))
 intro dV
 induction dV with
 |zero=>
  intro listed β w a bK hc jz cF C
  have hr:Region.ready .any ops listed=[]:=by
   cases me:Region.ready .any ops listed with
   |nil=>rfl
   |cons x xs=>
    exfalso;have hx:x∈Region.ready .any ops listed:=by rw[me];simp
    rw[mem_ready] at hx;obtain⟨h1,o,ho,_⟩:=hx;have qB:x<ops.size:=(Array.getElem?_eq_some_iff.1 ho).1;have pA:x<listed.size:=by omega
    have:listed[x]=false:=by simpa[pA] using h1
    have h2:0<listed.toList.countP (fun b=> !b):=List.countP_pos_iff.2 ⟨listed[x],oS,by simp[this]⟩;omega
  exact⟨hr,done listed β w a bK jz C hr⟩
 |succ dV ih=>
  intro listed β w a bK hc jz cF C;refine⟨done listed β w a bK jz C,fun k hk=>?_⟩;rw[mem_ready] at hk;obtain⟨uT,o,ho,yK⟩:=hk;have lI:k<ops.size:=(Array.getElem?_eq_some_iff.1 ho).1;have mR:k<listed.size:=by omega
  have za:listed[k]=false:=by simpa[mR] using uT
  have pD:listed.getD k false=false:=by simp[mR,za]
  have eo:oo k=o:=y8 k o ho;by_cases Uj:k=nl
  ·
    subst Uj;obtain⟨q1,q2,q3⟩:=hL lI
    have bT:∀ j,j<k->listed.getD j false=true:=by
     intro j hj;have hb:=q2 j hj;have h1:=zZ ops.toList [] k o (by simpa using ho);simp only[List.length_nil,Nat.zero_add] at h1;rw[h1] at hb;rcases zR _ j _ 0 hb with h2|⟨e,he,iP,h2⟩
     .simp at h2
     .have mQ:=yK e (by simpa using he) iP;rcases h2 with rfl|h2
      .exact mQ
      .have aj:=rJ k o ho e (by simpa using he) iP;have J:((dE ops.toList []).getD e.on 0).testBit j=true:=by simpa[List.getElem?_take,aj] using h2
       exact zN (S:=fun j=>listed.getD j false) cF j e.on mQ J
    have uU:dw oo pp st₀ (fun j=>listed.getD j false) ops.size=bI oo pp st₀ k:=by
     rw[<- Kq oo pp st₀ k ops.size oG];refine z6 oo pp st₀ _ fun j hj=>?_;rcases Nat.lt_or_ge j k with h|h
     .simp[bT j h,h]
     .have:j=k:=by omega
      subst this;simp[pD]
    refine zJ ho ?_;rw[<- eo];have h1:=C.e;have h2:=C.m;rw[uU] at h1 h2;refine q3 r n β w a ⟨h1,h2,fun i hi=>C.free i ?_ fun j hj hS h=>?_⟩ ⟨C.step,?_,C.grow,C.size,C.defers⟩ _ fun a' w' hp=>?_
    .exact Nat.le_trans (gy oo pp st₀ (Nat.zero_le _)) hi
    .rcases Nat.lt_or_ge j k with aj|bL
     .have:=gy oo pp st₀ (show j+1<=k by omega);rw[lc,n7] at this;omega
     .have:j=k:=by omega
      subst this;simp only[pD] at hS;cases hS
    .exact Nat.le_trans hN (gy oo pp st₀ (Nat.zero_le _))
    .have hr:Region.ready .any ops (listed.setIfInBounds k true)=[]:=by
      cases me:Region.ready .any ops (listed.setIfInBounds k true) with
      |nil=>rfl
      |cons x xs=>
       exfalso;have hx:x∈Region.ready .any ops (listed.setIfInBounds k true):=by rw[me];simp
       rw[mem_ready] at hx;obtain⟨X,o',rL,_⟩:=hx;have qB:x<ops.size:=(Array.getElem?_eq_some_iff.1 rL).1;by_cases DU:x=k
       .subst DU;simp[mR] at X
       .have J:=bT x oG;rw[getD_set_ne true (Ne.symm DU)] at X;have Bn:x<listed.size:=by omega
        simp[Bn] at X J;rw[X] at J;cases J
     cases dV with
     |zero=>exact⟨hr,hp⟩
     |succ dV=>exact⟨fun _=>hp,fun i hi=>by rw[hr] at hi;cases hi⟩
  have wP:k<nl:=by
   rcases Nat.lt_or_ge k nl with h|h
   .exact h
   .have:=(hL oG).1;omega
  obtain⟨DV,akF⟩:=c7 k wP
  have A4:∀ j,j<k->listed.getD j false=false->((dE ops.toList []).getD k 0).testBit j=false:=by
   intro j uV hj;cases hb:((dE ops.toList []).getD k 0).testBit j with
   |false=>rfl
   |true=>
    exfalso;have h1:=zZ ops.toList [] k o (by simpa using ho);simp only[List.length_nil,Nat.zero_add] at h1;rw[h1] at hb;rcases zR _ j _ 0 hb with h2|⟨e,he,iP,h2⟩
    .simp at h2
    .have mQ:=yK e (by simpa using he) iP;rcases h2 with rfl|h2
     .rw[hj] at mQ;cases mQ
     .have aj:=rJ k o ho e (by simpa using he) iP;have J:((dE ops.toList []).getD e.on 0).testBit j=true:=by simpa[List.getElem?_take,aj] using h2
      have:=zN (S:=fun j=>listed.getD j false) cF j e.on mQ J;rw[hj] at this;cases this
  have ry:∀ j,k<j->listed.getD j false=true->((dE ops.toList []).getD j 0).testBit k=false:=by
   intro j M hj;cases hb:((dE ops.toList []).getD j 0).testBit k with
   |false=>rfl
   |true=>
    exfalso;have:=zN (S:=fun j=>listed.getD j false) cF k j hj hb;rw[pD] at this;cases this
  have AO:∀ j,j<ops.size->listed.getD j false≠decide (j<k)->(j<k/\listed.getD j false=false)\/(k<j/\listed.getD j false=true):=by
   intro j hj O;rcases Nat.lt_trichotomy j k with h|h|h
   .left;refine⟨h,?_⟩;simpa[h] using O
   .subst h;simp[pD] at O
   .right;refine⟨h,?_⟩;have:¬ j<k:=by omega
    simpa[this] using O
  have uU:=Kq oo pp st₀ k ops.size oG;refine zJ ho ?_;rw[<- eo];refine DV F β w a (dw oo pp st₀ (fun j=>listed.getD j false) ops.size).mem (dw oo pp st₀ (fun j=>listed.getD j false) ops.size).env (bI oo pp st₀ ops.size).nx ?_ C.e C.m ?_ ?_ ?_ r n _ _ ?_
  .intro t ht;rw[<- uU];refine JT oo pp st₀ _ fun j hj O=>?_;rcases AO j hj O with⟨h1,h2⟩|⟨h1,h2⟩
   .have:=(Oper.apart_spec (L6 j k h1 lI (A4 j h1 h2))).1;exact fun hd=>this t hd ht
   .have:=(Oper.apart_spec (L6 k j h1 hj (ry j h1 h2))).2.2;exact fun hd=>this t hd ht
  .intro i hi O;rw[<- uU] at O ⊢;refine JU oo pp st₀ _ fun j hj yL hw=>?_;rw[uU] at O;rcases AO j hj yL with⟨h1,h2⟩|⟨h1,h2⟩
   .exact O ((rK j k h1 lI (A4 j h1 h2)).2.1 i hw hi)
   .exact O ((rK k j h1 hj (ry j h1 h2)).2.2 i hw hi)
  .intro i h1 h2;refine C.free i (Nat.le_trans (gy oo pp st₀ (Nat.zero_le _)) h1) fun j hj hS J=>?_;rcases Nat.lt_trichotomy j k with h|h|h
   .have:=gy oo pp st₀ (show j+1<=k by omega);rw[lc,n7] at this;omega
   .subst h;simp only[pD] at hS;cases hS
   .have:=gy oo pp st₀ (show k+1<=j by omega);rw[lc,n7] at this;omega
  .intro i hi;refine C.free i (Nat.le_trans (gy oo pp st₀ (Nat.zero_le _)) hi) fun j hj _ J=>?_;have:=gy oo pp st₀ (show j+1<=ops.size by omega);rw[lc,n7] at this;omega
  .intro v w' β' X g2 g3 g4
   have Bo:(fun j=>(listed.setIfInBounds k true).getD j false)=(fun j=>if j=k then true else listed.getD j false):=by
    funext j;by_cases hj:j=k
    .subst hj;simp[mR]
    .rw[if_neg hj,getD_set_ne false (Ne.symm hj)]
   obtain⟨ae,am⟩:=QZ oo pp st₀ (S:=fun j=>listed.getD j false) (k:=k) pD ops.size lI fun j M hj zb=>
    ⟨(Oper.apart_spec (L6 k j M hj (ry j M zb))).2.1,(rK k j M hj (ry j M zb)).1⟩
   refine ih _ β' w' _ (by simpa using bK) ?_ (fun h=>by rw[getD_set_ne false (fun e=>Uj e)];exact jz h) ?_ ?_
   .have:(listed.setIfInBounds k true).toList=listed.toList.set k true:=by simp
    rw[this,List.countP_set (by simpa using mR)];have h2:0<listed.toList.countP (fun b=> !b):=List.countP_pos_iff.2 ⟨listed[k],oS,by simp[za]⟩;have J:listed.toList[k]'(by simpa using mR)=false:=by simpa using za
    rw[J];simp only[Bool.not_false,if_true,Bool.not_true,Bool.false_eq_true,if_false];omega
   .intro j hj o' rL e he hb;by_cases uV:j=k
    .subst uV;rw[ho] at rL;cases rL;exact getD_set_true (yK e he hb)
    .rw[getD_set_ne false (Ne.symm uV)] at hj;exact getD_set_true (cF j hj o' rL e he hb)
   .rw[Bo];refine⟨?_,by rw[am];exact g2,fun i hi hn=>?_,C.step.trans g3,fun i hi hn=>?_,by rw[tN];exact C.size,by rw[put_defers];exact C.defers⟩
    .rw[ae];have hd:∀ t,(oo k).dst=some t->t<a.tmps.size:=fun t ht=>by rw[C.size];rw[eo] at ht;exact sb aj ho t ht
     have he:=C.e.step g3;cases fC:(oo k).dst with
     |none=>exact he
     |some t=>exact he.put (some t) _ _ X (fun u hu=>hd u (by rw[fC];exact hu))
    .have h1:=hn k lI oS;have h2:=C.free i hi fun j hj zb=>hn j hj (by by_cases uV:j=k<;>simp[uV,zb]);exact g4 i h2 oG
    .exact g4 i (C.grow i hi hn) (.inl (Nat.lt_of_lt_of_le (Nat.lt_of_lt_of_le hi hN) (gy oo pp st₀ (Nat.zero_le _))))
theorem aa0{o:Oper}{st:St}{r:Option Nat}{n:Nat}{i:Nat}(ho:ops[i]? =some o)(aj:lA a₀.tmps.size ops=true)(h:aw P nL ops false [] Q [o] st []):Gg P F ops Q N₀ β₀ w₀ a₀ r n o st:=by
 intro β w a hs J K X;have hd:∀ t,o.dst=some t->t<a.tmps.size:=fun t ht=>by rw[J.size];exact sb aj ho t ht
 simp only[aw] at h;rcases I0 h with⟨p,h1,_,C⟩|⟨_,f,args,h1,h2,C,U⟩|⟨_,l,args,h1,h2,C,U⟩
 .exact EX h1 hs hd r n _ fun β' a' w' M O=>X _ _ ⟨_,β',C.2,M,J.trans O⟩
 .exact OL h1 h2 C U hs hd r n _ fun d m' aA β' a' w' hp M O=>X _ _ ⟨_,β',hp.2,M,J.trans O⟩
 .exact U.elim
theorem IL(h:ym ops=true):0<ops.size/\∀ i,i<ops.size - 1->((dE ops.toList []).getD (ops.size - 1) 0).testBit i=true:=by
 unfold ym at h;simp only[ay,b7,List.mem_range] at h;exact⟨by simpa using h.1,h.2⟩
theorem I1{st:St}{β:az}{w:World}{a:Act}{r:Option Nat}{n id nl:Nat}{ps:List bf}(jL:P.follows .mixedOrders=true)(hi:cg ops=some cf)(aj:lA a₀.tmps.size ops=true)(jT:nl<=ops.size)
 (X:∀ j,j<nl->(ps.getD j default).Ok P ops (ops.toList.getD j default) (bI (fun j=>ops.toList.getD j default) (fun j=>ps.getD j default) st j)/\(ps.getD j default).mK (cD (ops.toList.getD j default).op) (bI (fun j=>ops.toList.getD j default) (fun j=>ps.getD j default) st j))
 (hQ:nl=ops.size->Q .normal (bI (fun j=>ops.toList.getD j default) (fun j=>ps.getD j default) st ops.size))
 (hL:nl<ops.size->nl+1=ops.size/\(∀ i,i<nl->((dE ops.toList []).getD nl 0).testBit i=true)/\∀ r n,Gg P F ops Q N₀ β₀ w₀ a₀ r n (ops.toList.getD nl default) (bI (fun j=>ops.toList.getD j default) (fun j=>ps.getD j default) st nl))
 (U:∃ M:ma,(∀ j,j<nl->M.getD j ([],[])=((ps.getD j default).rd,(ps.getD j default).wr))/\∀ q∈cf,p9 M q.1 q.2)
 (hs:bW P F st β w a) (C:dC N₀ β₀ w₀ a₀ st β w a):(Code.region id ops true).wpIn (Fe r) n P (dd P F N₀ β₀ w₀ a₀ Q) a w:=by
 refine wpIn_region_any jL ?_
 have J:dw (fun j=>ops.toList.getD j default) (fun j=>ps.getD j default) st (fun j=>(Array.replicate ops.size false).getD j false) ops.size=st:=by
  have:∀ n,dw (fun j=>ops.toList.getD j default) (fun j=>ps.getD j default) st (fun j=>(Array.replicate ops.size false).getD j false) n=st:=by
   intro n
   induction n with
   |zero=>rfl
   |succ n ih=>
    have:(Array.replicate ops.size false).getD n false=false:=by simp[Array.getD_eq_getD_getElem?,Array.getElem?_replicate];split<;>rfl
    simp only[dw,this,Bool.false_eq_true,if_false];exact ih
  exact this _
 have O:Step β w β { w with drawn:=w.drawn+1 }:=⟨bO _,fun _ _ h=>⟨rfl,h⟩,fun _ _ h=>.inl h,⟨rfl,rfl⟩,fun _ _ _ _=>nd rfl⟩
 refine Zq (st₀:=st) (oo:=fun j=>ops.toList.getD j default) (pp:=fun j=>ps.getD j default) hi (fun j o hj=>by simp[hj]) aj nl jT X hQ hL U (fun i hi=>?_) C.le r n ops.size _ β _ a oS ?_ (fun h=>?_) ?_ ?_
 .cases hm:st.mem i with
  |none=>rfl
  |some row=>
   obtain⟨p,hp,_⟩:=hs.m.row i row hm;rw[hs.n i hi] at hp;cases hp
 .simpa using List.countP_le_length (p:=fun b=> !b) (l:=(Array.replicate ops.size false).toList)
 .simp[Array.getD_eq_getD_getElem?,Array.getElem?_replicate];split<;>rfl
 .intro j hj;exfalso;have:(Array.replicate ops.size false).getD j false=false:=by simp[Array.getD_eq_getD_getElem?,Array.getElem?_replicate];split<;>rfl
  rw[this] at hj;cases hj
 .refine⟨?_,?_,fun i hi _=>hs.n i hi,C.step.trans O,C.grow,C.size,C.defers⟩
  .rw[J];exact hs.e.step O
  .rw[J];exact hs.m.ext (bO _) fun _ _=>rfl
theorem WO{Y:gd}{st:St}{β:az}{w:World}{a:Act}{r:Option Nat}{n id:Nat}(jL:P.follows .mixedOrders=true)(hi:cg ops=some cf)(aj:lA a₀.tmps.size ops=true)
 (h:Kp P Y ops cf Q st) (hs:bW P F st β w a) (cn:dC N₀ β₀ w₀ a₀ st β w a):(Code.region id ops true).wpIn (Fe r) n P (dd P F N₀ β₀ w₀ a₀ Q) a w:=by
 obtain⟨ps,nl,jT,c7,hQ,hL,X⟩:∃ (ps:List bf) (nl:Nat),nl<=ops.size/\
  (∀ j,j<nl->(ps.getD j default).Ok P ops (ops.toList.getD j default) (bI (fun j=>ops.toList.getD j default) (fun j=>ps.getD j default) st j)/\(ps.getD j default).mK (cD (ops.toList.getD j default).op) (bI (fun j=>ops.toList.getD j default) (fun j=>ps.getD j default) st j))/\
  (nl=ops.size->Q .normal (bI (fun j=>ops.toList.getD j default) (fun j=>ps.getD j default) st ops.size))/\
  (nl<ops.size->nl+1=ops.size/\(∀ i,i<nl->((dE ops.toList []).getD nl 0).testBit i=true)/\∀ r n,Gg P F ops Q N₀ β₀ w₀ a₀ r n (ops.toList.getD nl default) (bI (fun j=>ops.toList.getD j default) (fun j=>ps.getD j default) st nl))/\
  ∃ U:ma,(∀ j,j<nl->U.getD j ([],[])=((ps.getD j default).rd,(ps.getD j default).wr))/\∀ q∈cf,p9 U q.1 q.2:=by
  rcases h with h|⟨hl,h⟩
  .obtain⟨ps,M⟩:=IK _ _ _ h;have C:=B3 (fun j=>ops.toList.getD j default) (fun j=>ps.getD j default) st ops.toList ps 0 [] (fun j o hj=>by simp at hj;simp[hj]) (fun j p hj=>by simp[hj]) rfl oS M;simp only[Nat.zero_add,Array.length_toList] at C;obtain⟨h1,h2,J⟩:=C;exact⟨ps,ops.size,bO _,fun j hj=>h1 j (Nat.zero_le _) hj,fun _=>h2,fun h=>absurd h (Nat.lt_irrefl _),J⟩
  .obtain⟨hp,hb⟩:=IL hl;obtain⟨ps,M⟩:=IK _ _ _ h;have hlen:(ops.toList.take (ops.size - 1)).length=ops.size - 1:=by simp
   have C:=B3 (fun j=>ops.toList.getD j default) (fun j=>ps.getD j default) st (ops.toList.take (ops.size - 1)) ps 0 [] (fun j o hj=>by
    have gN:j<ops.size - 1:=by rw[<- hlen];exact(bZ.1 hj).1
    rw[List.getElem?_take,if_pos gN] at hj
    simp at hj;simp[hj]) (fun j p hj=>by simp[hj]) rfl oS M
   rw[hlen] at C;simp only[Nat.zero_add] at C;obtain⟨h1,h2,J⟩:=C;refine⟨ps,ops.size - 1,oG,fun j hj=>h1 j (Nat.zero_le _) hj,fun h=>by omega,fun _=>⟨oG,hb,fun r n=>?_⟩,J⟩
   have hx:ops[ops.size - 1]? =some (ops.toList.getD (ops.size - 1) default):=by
    have aj:ops.size - 1<ops.size:=by omega
    simp[aj]
   refine aa0 hx aj ?_;have O:=h2.2
   have hd:ops.toList.drop (ops.size - 1)=[ops.toList.getD (ops.size - 1) default]:=by
    have aj:ops.size - 1<ops.toList.length:=by simp;omega
    rw[List.drop_eq_getElem_cons aj,List.drop_eq_nil_of_le oP];have kz:ops.size - 1<ops.size:=by omega
    simp[List.getD,kz]
   rw[hd] at O;exact O
 exact I1 jL hi aj jT c7 hQ hL X hs cn
end
section
variable{P:Program}{F:Nat->Prop}
theorem Zm{β β':az}{w:World}{m:Mem}(hm:aC P F m β w){i:Nat}{cs:List D}{e:TypeId}(aD:m i=some (.cells cs e))(hβ:β'=up β i (some .dead)){d:D}{v:Value}(h:R F β w d v):
 R F β' w (dG i cs (P.cellsOf e) d) v:=by
 have hs:Step β w β' w:=by rw[hβ];exact zP β w i
 have U:=h.step hs;obtain⟨p,hp,hr⟩:=hm.row i _ aD;unfold dG;split
 .rename_i j off n;split
  .rename_i X;subst X;cases h with
   |lG _ _ _ _ h1 _=>
    rw[h1] at hp;cases hp;cases hr
   |jR _ a h1=>
    rw[h1] at hp;cases hp;cases hr;simp only[List.drop_nil,List.take_nil];exact .iz a 0
   |kX _ _ a b o len room sz h1=>
    simp only[Nat.zero_mul,List.take_zero];exact .iz a 0
   |rs _ _ _ cap b o len room sz h1 hn dt h2 h3=>
    rw[h1] at hp;cases hp;have J:β j=some (.cells b o len room sz):=h1;obtain⟨O,hl,bK,_⟩:=hr.rd;have M:=(O.drop off).take (n*P.cellsOf e);obtain⟨us,u1,u2⟩:=M;refine .sl _ n b (o+off) cap us (hm.nf j _ b J rfl) ?_ (hm.lt j _ b J rfl) hn dt u1 fun k d hk=>(u2 k d hk).step hs;rw[hβ];intro k q hq;by_cases C:k=j
    .subst C;rw[au] at hq;cases hq;simp[Pl.bJ]
    .rw[bE _ _ C] at hq;exact hm.oW J rfl hq C
  .exact U
 .rename_i j off;split
  .rename_i X;subst X;cases h with
   |rH _ _ _ h1 _=>
    rw[h1] at hp;cases hp;cases hr
   |rp _ _ b o len room sz h1=>
    rw[h1] at hp;cases hp;obtain⟨O,hl,bK,_⟩:=hr.rd;obtain⟨us,u1,u2⟩:=O.drop off;refine .pt _ b (o+off) us (hm.nf j _ b h1 rfl) ?_ (hm.lt j _ b h1 rfl) u1 fun k d hk=>(u2 k d hk).step hs;rw[hβ];intro k q hq;by_cases C:k=j
    .subst C;rw[au] at hq;cases hq;simp[Pl.bJ]
    .rw[bE _ _ C] at hq;exact hm.oW h1 rfl hq C
  .exact U
 .exact U
theorem Zn{β β':az}{w:World}{m:Mem}(hm:aC P F m β w){i:Nat}{es:List (Value×D)}(aD:m i=some (.map es))(M:β'=up β i (some .dead)){d:D}{v:Value}(h:R F β w d v):R F β' w (yZ i es d) v:=by
 have hs:Step β w β' w:=by rw[M];exact zP β w i
 unfold yZ;split
 .rename_i j;split
  .rename_i O;subst O;obtain⟨r,ms,clock,h1,rfl,U,X,h5,J⟩:=h.CA hm aD;refine .im es r ms clock (hm.nf j _ r h1 rfl) ?_ U X h5 (fun k x m hx hm=>(J k x m hx hm).1) fun k x m hx hm=>(J k x m hx hm).2.step hs;rw[M];intro k q hq;by_cases C:k=j
   .subst C;rw[au] at hq;cases hq;simp[Pl.bJ]
   .rw[bE _ _ C] at hq;exact hm.oW h1 rfl hq C
  .exact h.step hs
 .exact h.step hs
section subst
variable{σ:D->D}{β β':az}{w:World}
theorem O8(C:∀ {d v},R F β w d v->R F β' w (σ d) v){d:D}{v:Value}(h:R F β w d v):R F β' w (rk σ d) v:=by
 unfold rk;split
 .rename_i ds;obtain⟨vs,rfl,hl,hh⟩:=h.qM;refine .agg _ vs (by simpa using hl) fun k d v hd hv=>?_;simp only[List.getElem?_map,dm] at hd;obtain⟨d',J,rfl⟩:=hd;exact C (hh k d' v J hv)
 .cases h with
  |cG c d _ h1 h2=>exact .cG _ _ v (fun hc=>C (h1 hc)) h2
 .exact C h
theorem Cc(C:∀ {d v},R F β w d v->R F β' w (σ d) v){d:D}{v:Value}(h:R F β w d v):R F β' w (sub σ d) v:=by
 have map:∀ (ds:List D) (vs:List Value),(∀ (k:Nat) (d:D) (v:Value),ds[k]? =some d->vs[k]? =some v->R F β w d v)->
  ∀ (k:Nat) (d:D) (v:Value),(ds.map (rk σ))[k]? =some d->vs[k]? =some v->R F β' w d v:=fun ds vs hh k d v hd hv=>by
  simp only[List.getElem?_map,dm] at hd;obtain⟨d',J,rfl⟩:=hd;exact O8 C (hh k d' v J hv)
 unfold sub;split
 .rename_i ds;obtain⟨vs,rfl,hl,hh⟩:=h.Ag;exact .bp _ vs (by simpa using hl) (map ds vs hh)
 .rename_i f fs ds;cases h with
  |fn _ _ _ us vs hl kY h1 h2=>exact .fn f _ _ us vs (by simpa using hl) (by simpa using kY) (map fs us h1) (map ds vs h2)
 .exact O8 C h
theorem aaW(J:∀ {d v},R F β w d v->R F β' w (σ d) v)(hs:Step β w β' w){r:Row}{p:Pl}(h:cO P F β w r p):cO P F β' w (r.sub σ) p:=by
 cases h with
 |nil C=>exact .nil C
 |cells ds C b o room sz c hc hr hlen bK hh=>
  have:=cO.cells (P:=P) (F:=F) (β:=β') (w:=w) (ds.map (Abs.sub σ)) C b o room sz c hc hr (by simpa using hlen) bK fun k d hk=>by
   simp only[List.getElem?_map,dm] at hk;obtain⟨d',U,rfl⟩:=hk;obtain⟨v,h1,h2,M⟩:=hh k d' U;exact⟨v,h1,Cc J h2,M⟩
  simpa[Row.sub] using this
 |map es r ms clock hc hl ef hh=>
  refine .map _ r ms clock hc (by simpa using hl) (by simpa[List.map_map,Function.comp_def] using ef) fun k x O hk uL=>?_;simp only[List.getElem?_map,dm] at hk;obtain⟨x',X,rfl⟩:=hk;obtain⟨h1,h2⟩:=hh k x' O X uL;exact⟨h1,Cc J h2⟩
 |raw r o hc=>exact .raw r o hc
 |bs u x T b v hc bK hx h1=>exact .bs u _ T b v hc bK (Cc J hx) h1
 |lp k r L hc hk=>exact .lp k r L hc hk
 |iA f r _ F₂ h1 h2 h=>exact(cO.iA f r p F₂ h1 h2 h).step hs fun _ _=>rfl
end subst
theorem Om{σ:D->D}{env:Env}{m:Mem}{nx i:Nat}{row:Row}(h:m i=some row){w:World}{a:Act}{β:az}(hs:bW P F ⟨env,m,nx⟩ β w a)(U:∀ {d v},R F β w d v->R F (up β i (some .dead)) w (σ d) v):
 ∃ β',bW P F ⟨fun t=>sub σ (env t),fun j=>if j=i then none else(m j).map (Row.sub σ),nx⟩ β' w a/\dC nx β w a ⟨fun t=>sub σ (env t),fun j=>if j=i then none else(m j).map (Row.sub σ),nx⟩ β' w a:=by
 have O:=zP β w i;have hm:=hs.m;simp only at hm
 have M:∀ j q b,up β i (some .dead) j=some q->q.bJ=some b->j≠i/\β j=some q:=fun j q b hq e=>by
  by_cases hj:j=i
  .subst hj;rw[au] at hq;cases hq;simp[Pl.bJ] at e
  .rw[bE _ _ hj] at hq;exact⟨hj,hq⟩
 have hi:∃ p,β i=some p:=by
  obtain⟨p,hp,_⟩:=hm.row i _ h;exact⟨p,hp⟩
 refine⟨up β i (some .dead),⟨fun t=>Cc U (hs.e t),⟨fun j r hj=>?_,fun j k q X b hq gZ C e2=>hm.inj j k q X b (M j q b hq C).2 (M k X b gZ e2).2 C e2,
  fun j q b hq C=>hm.lt j q b (M j q b hq C).2 C,fun j q b hq C=>hm.nf j q b (M j q b hq C).2 C,hm.fb⟩,fun j hj=>?_⟩,⟨O,bO _,fun j hj hn=>?_,rfl,rfl⟩⟩
 .simp only at hj;by_cases J:j=i
  .rw[if_pos J] at hj;cases hj
  .rw[if_neg J] at hj;simp only[dm] at hj;obtain⟨r',gL,rfl⟩:=hj;obtain⟨q,hq,aD⟩:=hm.row j r' gL;exact⟨q,by rw[bE _ _ J];exact hq,aaW U O aD⟩
 .have J:j≠i:=fun C=>by
   subst C;obtain⟨p,hp⟩:=hi;rw[hs.n j hj] at hp;cases hp
  rw[bE _ _ J];exact hs.n j hj
 .have J:j≠i:=fun C=>by
   subst C;obtain⟨p,hp⟩:=hi;rw[hn] at hp;cases hp
  rw[bE _ _ J];exact hn
theorem Zo{β:az}{w:World}{cs cs':List D}{e:TypeId}{p:Pl}(hl:cs'.length=cs.length)(M:∀ (k:Nat) (d d':D),cs[k]? =some d->cs'[k]? =some d'->Wk d d')(h:cO P F β w (.cells cs e) p):cO P F β w (.cells cs' e) p:=by
 cases h with
 |nil _=>
  have:cs'=[]:=List.length_eq_zero_iff.1 (by simpa using hl);subst this;exact .nil e
 |cells _ _ b o room sz c hc hr hlen bK hh=>
  rw[<- hl];refine .cells cs' e b o room sz c hc hr oG bK fun k d' C=>?_;have hk:k<cs.length:=by rw[<- hl];exact(bZ.1 C).1
  obtain⟨v,h1,h2,J⟩:=hh k cs[k] (by simp[hk]);exact⟨v,h1,M k cs[k] d' (by simp[hk]) C _ _ _ _ h2,J⟩
theorem On{st st':St}(h:aR P st st'){w:World}{a:Act}:∀ {β:az},bW P F st β w a->∃ β',bW P F st' β' w a/\dC st.nx β w a st' β' w a:=by
 induction h with
 |refl st=>exact fun {β} hs=>⟨β,hs,dC.refl st β w a⟩
 |trans _ _ pK LA=>
  intro β hs;obtain⟨β₁,h1,h2⟩:=pK hs;obtain⟨β₂,U,X⟩:=LA h1;exact⟨β₂,U,h2.trans X⟩
 |forget env env' m nx h=>
  intro β hs;refine⟨β,⟨fun t=>?_,hs.m,hs.n⟩,⟨Step.refl β w,bO _,fun _ _ h=>h,rfl,rfl⟩⟩;rcases h t with h1|h1
  .simp only[h1];exact hs.e t
  .simp only[h1];exact .u _
 |drop env m m' nx h=>
  intro β hs;refine⟨β,⟨hs.e,⟨fun i r hi=>?_,hs.m.inj,hs.m.lt,hs.m.nf,hs.m.fb⟩,hs.n⟩,⟨Step.refl β w,bO _,fun _ _ h=>h,rfl,rfl⟩⟩;rcases h i with h1|h1
  .exact hs.m.row i r (h1.symm.trans hi)
  .simp only at hi;rw[h1] at hi;cases hi
 |qi env env' m m' nx h fE=>
  intro β hs;refine⟨β,⟨fun t=>h t _ _ _ _ (hs.e t),⟨fun i r hi=>?_,hs.m.inj,hs.m.lt,hs.m.nf,hs.m.fb⟩,hs.n⟩,⟨Step.refl β w,bO _,fun _ _ h=>h,rfl,rfl⟩⟩;rcases fE i with h1|⟨cs,cs',e,h1,h2,U,X⟩
  .exact hs.m.row i r (h1.symm.trans hi)
  .simp only at hi;rw[h2] at hi;cases hi;obtain⟨p,hp,hr⟩:=hs.m.row i _ h1;exact⟨p,hp,Zo U X hr⟩
 |freeze env m nx i cs e h=>
  intro β hs;exact Om h hs fun hr=>Zm hs.m h rfl hr
 |QV env m nx i es h=>
  intro β hs;exact Om h hs fun hr=>Zn hs.m h rfl hr
 |CB env m nx t e h=>
  intro β hs;have hm:=hs.m;have hn:β nx=none:=hs.n nx (bO _);simp only at hm
  have J:∀ j q b,up β nx (some .nil) j=some q->q.bJ=some b->j≠nx/\β j=some q:=fun j q b hq e=>by
   by_cases hj:j=nx
   .subst hj;rw[au] at hq;cases hq;simp[Pl.bJ] at e
   .rw[bE _ _ hj] at hq;exact⟨hj,hq⟩
  have M:Step β w (up β nx (some .nil)) w:=by
   refine⟨bO _,fun b _ hf=>⟨rfl,fun j q hq C=>?_⟩,fun j q hq=>.inl ?_,⟨rfl,rfl⟩,fun _ _ _ _=>nd rfl⟩
   .exact hf j q (J j q b hq C).2 C
   .rw[bE _ _ (fun C=>by rw[C,hn] at hq;cases hq)];exact hq
  refine⟨up β nx (some .nil),⟨fun u=>?_,⟨fun j r hj=>?_,fun j k q q' b hq gZ C e2=>hm.inj j k q q' b (J j q b hq C).2 (J k q' b gZ e2).2 C e2,
   fun j q b hq C=>hm.lt j q b (J j q b hq C).2 C,fun j q b hq C=>hm.nf j q b (J j q b hq C).2 C,hm.fb⟩,fun j hj=>?_⟩,⟨M,Nat.le_succ _,fun j hj hb=>?_,rfl,rfl⟩⟩
  .by_cases hu:u=t
   .subst hu;have h1:=hs.e u;simp only at h1;rw[h] at h1;obtain⟨x,hx⟩:=h1.AE;simp only[au,hx];exact .jR nx x (au _ _ _)
   .simp only[bE _ _ hu];exact(hs.e u).step M
  .simp only at hj;by_cases O:j=nx
   .subst O;rw[au] at hj;cases hj;exact⟨.nil,au _ _ _,.nil e⟩
   .rw[bE _ _ O] at hj;obtain⟨q,hq,aD⟩:=hm.row j r hj;exact⟨q,by rw[bE _ _ O];exact hq,aD.step M fun _ _=>rfl⟩
  .simp only at hj;rw[bE _ _ (show j≠nx by omega)];exact hs.n j (by simp only;omega)
  .simp only at hj;rw[bE _ _ (show j≠nx by omega)];exact hb
def fv(N:Nat):Code->Bool
 | .region _ ops _=>lA N ops
 | .seq a b=>fv N a&&fv N b
 | .cond _ a b=>fv N a&&fv N b
 | .block _ b=>fv N b
 | .loop b=>fv N b
 | .scope b=>fv N b
 | .rangeFunc _ ps a b=>(ps.toList.all fun t=>Nat.blt t N)&&(fv N a&&fv N b)
 |_=>true
theorem Oc{X:Fence}{n:Nat}{Q:Exit->Act->World->Prop}{c:Code}(J:Nat->Act->World->Prop){j₀:Nat}{a:Act}{w:World}(h₀:J j₀ a w)
 (round:∀ j a w,J j a w->c.wpIn X n P (Exit.then (fun a' w'=>∃ U,U<j/\J U a' w') Q) a w):(Code.loop c).wpIn X n P Q a w:=by
 intro b k cs MZ hb hr
 have key:∀ j a w,J j a w->
  ∃ e a' w',Q e a' w'/\ArrivesIn (Machine.fenced P X) P (lone (b.atR a (.code c::.inLoop c::k)) cs w) b k cs e a' w':=by
  intro j
  induction j using Nat.strongRecOn with
  |_ j ih=>
   intro a w hI;obtain⟨e,M,O,hq,C⟩:=round j a w hI b (.inLoop c::k) cs MZ hb hr;cases e with
   |normal=>
    obtain⟨U,aj,hI₁⟩:=hq;obtain⟨e₂,a₂,w₂,hq₂,acP⟩:=ih U aj M O hI₁;exact⟨e₂,a₂,w₂,hq₂,.of_steps (StepsIn.trans C (.one (fenced_calm hb hr rfl) stepR_inLoop)) acP⟩
   |exit id=>exact⟨_,M,O,hq,.pass (x:=.inLoop c) rfl (fun _ _=>.inl oS) C⟩
   |goto l=>exact⟨_,M,O,hq,.pass (x:=.inLoop c) rfl (fun _ _=>.inl oS) C⟩
   |ret=>exact⟨_,M,O,hq,.pass (x:=.inLoop c) rfl (fun _ _=>.inl oS) C⟩
   |panic ch=>exact⟨_,M,O,hq,.pass (x:=.inLoop c) rfl (fun _ _=>.inl oS) C⟩
   |outgrown=>exact⟨_,M,O,hq,.pass (x:=.inLoop c) rfl (fun _ _=>.inl oS) C⟩
 obtain⟨e,a',w',hq,C⟩:=key _ a w h₀;exact⟨e,a',w',hq,.of_steps (.one (fenced_calm hb hr rfl) stepR_loop) C⟩
def mark(b:Nat):Deferred:={ target:=.collected b,args:= #[] }
def Marks(β:az)(w:World)(lo:Nat):List Deferred->Nat->Prop
 |[],_=>True
 |d::ds,hi=>∃ b,d=mark b/\lo<=b/\b<hi/\w.heap[b]? =some (.deferred (some []))/\β.free b/\Marks β w lo ds b
theorem Marks.step{β β':az}{w w':World}(hs:Step β w β' w'){lo:Nat}:∀ {ds:List Deferred} {hi:Nat},hi<=w.heap.size->Marks β w lo ds hi->Marks β' w' lo ds hi
 |[],_,_,_=>trivial
 |d::ds,hi,hle,⟨b,h1,h2,h3,h4,h5,h6⟩=>by
  obtain⟨C,J⟩:=hs.ej b oG h5;exact⟨b,h1,h2,h3,C.trans h4,J,Marks.step hs oG h6⟩
theorem Marks.mono{β:az}{w:World}{lo hi C:Nat}(h:hi<=C):∀ {ds:List Deferred},Marks β w lo ds hi->Marks β w lo ds C
 |[],_=>trivial
 |_::_,⟨b,h1,h2,h3,h4⟩=>⟨b,h1,h2,oG,h4⟩
theorem Marks.append{β:az}{w:World}{lo mid:Nat}(J:lo<=mid){C:List Deferred}:∀ {ds:List Deferred} {hi:Nat},mid<=hi->Marks β w mid ds hi->Marks β w lo C mid->Marks β w lo (ds++C) hi
 |[],_,hle,_,h'=>Marks.mono hle h'
 |_::_,_,_,⟨b,h1,h2,h3,h4,h5,h6⟩,h'=>⟨b,h1,oG,h3,h4,h5,Marks.append J h2 h6 h'⟩
structure nJ(N:Nat)(β:az)(w:World)(a:Act)(st':St)(β':az)(w':World)(a':Act):Prop where
 step:Step β w β' w'
 le:N<=st'.nx
 grow:∀ i,i<N->β i=none->β' i=none
 size:a'.tmps.size=a.tmps.size
 defers:∃ ds,a'.defers=ds++a.defers/\Marks β' w' w.heap.size ds w'.heap.size
theorem dC.wH{N:Nat}{β β':az}{w w':World}{a a':Act}{st':St}(h:dC N β w a st' β' w' a'):nJ N β w a st' β' w' a':=
 ⟨h.step,h.le,h.grow,h.size,[],h.defers,trivial⟩
theorem nJ.trans{N:Nat}{β β₁ β₂:az}{w U X:World}{a C J:Act}{M O:St}(h:nJ N β w a M β₁ U C)(k:nJ M.nx β₁ U C O β₂ X J):nJ N β w a O β₂ X J:=by
 obtain⟨ds,e1,h1⟩:=h.defers;obtain⟨wG,e2,h2⟩:=k.defers
 exact⟨h.step.trans k.step,Nat.le_trans h.le k.le,fun i hi hn=>k.grow i (Nat.lt_of_lt_of_le hi h.le) (h.grow i hi hn),k.size.trans h.size,wG++ds,by rw[e2,e1,List.append_assoc],
  Marks.append h.step.size k.step.size h2 (h1.step k.step (bO _))⟩
theorem nJ.since{N:Nat}{β β₁ β₂:az}{w U X:World}{a C J:Act}{M O:St}(h:nJ N β w a M β₁ U C)(k:dC M.nx β₁ U C O β₂ X J):nJ N β w a O β₂ X J:=h.trans k.wH
def CN(P:Program)(F:Nat->Prop)(N:Nat)(β:az)(w:World)(a:Act)(Q:Exit->St->Prop)(e:Exit)(a':Act)(w':World):Prop:=
 ∃ st' β',Q e st'/\bW P F st' β' w' a'/\nJ N β w a st' β' w' a'
theorem o6.base{J:az}{C:World}{β:az}{w:World}(hs:Step J C β w){l:Nat}{args:List D}{m:Mem}{nx:Nat}{K:D->Mem->Nat->Prop}(h:o6 P F J C l args m nx K):o6 P F β w l args m nx K:=
 fun β' w' us M=>h β' w' us (hs.trans M)
theorem oW{β:az}{i:Nat}{p:Option Pl}{b:Nat}(h:β.free b)(hp:∀ q,p=some q->q.bJ≠some b):az.free (up β i p) b:=fun j q hq=>by
 by_cases hj:j=i
 .subst hj;rw[au] at hq;exact hp q hq
 .rw[bE _ _ hj] at hq;exact h j q hq
theorem R.sS{β:az}{w:World}{l:Nat}(C:F l)(o:Obj){d:D}{v:Value}(h:R F β w d v):R F β (w.putObj l o) d v:=
 h.gen oS (fun b _ hb hf=>⟨tQ (World.putObj_heap_other fun e=>hb (e▸C)),hf,hb⟩) fun _ _ _ h=>.inl h
theorem cO.sS{β:az}{w:World}{l:Nat}(C:F l)(o:Obj){r:Row}{p:Pl}(hp:∀ b,p.bJ=some b->b≠l)(h:cO P F β w r p):cO P F β (w.putObj l o) r p:=
 h.gen oS (fun b _ hb hf=>⟨tQ (World.putObj_heap_other fun e=>hb (e▸C)),hf,hb⟩) (fun _ _ _ h=>.inl h) fun b hb=>World.putObj_heap_other (hp b hb)
theorem aC.sS{m:Mem}{β:az}{w:World}{l:Nat}(C:F l)(J:∀ t∈wl,t.1≠l)(o:Obj)(h:aC P F m β w):aC P F m β (w.putObj l o):=
 ⟨fun i r hi=>by
  obtain⟨p,hp,hr⟩:=h.row i r hi
  exact⟨p,hp,hr.sS C o fun b hb e=>h.nf i p b hp hb (e▸C)⟩,h.inj,fun i p b hp hb=>by simpa using h.lt i p b hp hb,h.nf,h.fb.next (fun b hb=>by simpa using h.fb.lt b hb) (fun _ h=>h) fun t ht _=>World.putObj_heap_other fun e=>J t ht e⟩
theorem bW.sS{st:St}{β:az}{w:World}{a:Act}{l:Nat}(C:F l)(J:∀ t∈wl,t.1≠l)(o:Obj)(h:bW P F st β w a):bW P F st β (w.putObj l o) a:=
 ⟨fun t=>(h.e t).sS C o,h.m.sS C J o,h.n⟩
theorem R.qi{F':Nat->Prop}(C:∀ b,F' b->F b){β:az}{w:World}{d:D}{v:Value}(h:R F β w d v):R F' β w d v:=
 h.gen (bO _) (fun b _ hb hf=>⟨mC.refl w b,hf,fun e=>hb (C b e)⟩) fun _ _ _ h=>.inl h
theorem aC.qi{F':Nat->Prop}(C:∀ b,F' b->F b)(J:∀ t∈wl,F' t.1){m:Mem}{β:az}{w:World}(h:aC P F m β w):aC P F' m β w:=
 ⟨fun i r hi=>by
  obtain⟨p,hp,hr⟩:=h.row i r hi
  exact⟨p,hp,hr.gen (bO _) (fun b _ hb hf=>⟨mC.refl w b,hf,fun e=>hb (C b e)⟩) (fun _ _ _ h=>.inl h) fun _ _=>rfl⟩,h.inj,h.lt,fun i p b hp hb e=>h.nf i p b hp hb (C b e),⟨fun b hb=>h.fb.lt b (C b hb),fun t ht=>⟨J t ht,(h.fb.gM t ht).2⟩⟩⟩
theorem P7{β:az}{b:Nat}(h:¬ β.free b):∃ i p,β i=some p/\p.bJ=some b:=by
 unfold az.free at h;simp only[Classical.not_forall] at h;obtain⟨i,p,hp,hb⟩:=h;exact⟨i,p,hp,Decidable.not_not.1 hb⟩
structure View(il n₀:Nat)(f:Nat->Option Nat)(mc:Mem)(nc:Nat)(m:Mem)(nx:Nat):Prop where
 low:n₀<=nc
 lt:il<nx
 id:∀ i,i<n₀->f i=some i
 HA:∀ i,i<nc->∃ j,f i=some j/\j<nx/\j≠il
 out:∀ i,nc<=i->f i=none
 inj:∀ i i' j,f i=some j->f i'=some j->i=i'
 rows:∀ i r,mc i=some r->∃ j,f i=some j/\m j=some (r.sT f)
theorem View.wm{il n₀:Nat}{f:Nat->Option Nat}{mc:Mem}{nc:Nat}{m:Mem}{nx:Nat}(h:View il n₀ f mc nc m nx){i j:Nat}(hf:f i=some j):i<nc/\j<nx/\j≠il:=by
 rcases Nat.lt_or_ge i nc with aj|C
 .obtain⟨M,h1,h2,J⟩:=h.HA i aj;rw[hf] at h1;cases h1;exact⟨aj,h2,J⟩
 .rw[h.out i C] at hf;cases hf
theorem View.ext{il n₀:Nat}{f:Nat->Option Nat}{mc:Mem}{nc:Nat}{m m':Mem}{nx aA:Nat}(h:View il n₀ f mc nc m nx)(C:nx<=aA)(he:∀ i,i<nx->m' i=m i):View il n₀ f mc nc m' aA:=
 ⟨h.low,Nat.lt_of_lt_of_le h.lt C,h.id,fun i hi=>by
  obtain⟨j,h1,h2,J⟩:=h.HA i hi;exact⟨j,h1,oG,J⟩,h.out,h.inj,fun i r hi=>by
  obtain⟨j,h1,h2⟩:=h.rows i r hi
  exact⟨j,h1,(he j (h.wm h1).2.1).trans h2⟩⟩
theorem XY{f:Nat->Option Nat}{m:Mem}{β:az}{w:World}(hm:aC P F m β w){b:Nat}(h:hidden F β f b):b<w.heap.size:=by
 rcases h with h|⟨h,_⟩
 .exact hm.fb.lt b h
 .obtain⟨i,p,hp,hb⟩:=P7 h;exact hm.lt i p b hp hb
theorem View.enter{il n₀:Nat}{f:Nat->Option Nat}{mc:Mem}{nc:Nat}{m:Mem}{nx:Nat}(h:View il n₀ f mc nc m nx){β:az}{w:World}(hm:aC P F m β w):
 aC P (hidden F β f) mc (β.via f) w/\∀ i,nc<=i->(β.via f) i=none:=by
 have look:∀ i p,(β.via f) i=some p->∃ j,f i=some j/\β j=some p:=fun i p hp=>Option.bind_eq_some_iff.1 hp;refine⟨⟨fun i r hi=>?_,fun i i' p q b hp hq e J=>?_,fun i p b hp e=>?_,fun i p b hp e C=>?_,hm.fb.next (fun b hb=>XY hm hb) (fun _ h=>.inl h) fun _ _ _=>rfl⟩,fun i hi=>?_⟩
 .obtain⟨j,h1,h2⟩:=h.rows i r hi;obtain⟨p,hp,hr⟩:=hm.row j _ h2;exact⟨p,by simp[az.via,h1,hp],hr.seen⟩
 .obtain⟨j,h1,h2⟩:=look i p hp;obtain⟨U,M,O⟩:=look i' q hq;have:=hm.inj j U p q b h2 O e J;subst this;exact h.inj i i' j h1 M
 .obtain⟨j,h1,h2⟩:=look i p hp;exact hm.lt j p b h2 e
 .obtain⟨j,h1,h2⟩:=look i p hp;rcases C with C|⟨_,C⟩
  .exact hm.nf j p b h2 e C
  .exact C i p hp e
 .simp[az.via,h.out i hi]
theorem aC.AF{m:Mem}{β:az}{w:World}{i l:Nat}{o:Obj}(h:aC P F m β w)(hm:m i=some (.raw l o)):β i=some (.raw l)/\w.heap[l]? =some o/\¬ F l/\l<w.heap.size:=by
 obtain⟨p,hp,hr⟩:=h.row i _ hm;cases hr with
 |raw _ _ hc=>exact⟨hp,hc,h.nf i _ l hp rfl,h.lt i _ l hp rfl⟩
theorem View.Fx{il n₀:Nat}{f:Nat->Option Nat}{mc:Mem}{nc:Nat}{m:Mem}{nx:Nat}(h:View il n₀ f mc nc m nx){β:az}{w:World}(hm:aC P F m β w){j:Nat}{p:Pl}{b:Nat}(hj:∀ i,f i≠some j)(hp:β j=some p)(hb:p.bJ=some b):
 (β.via f).free b/\hidden F β f b:=by
 have C:(β.via f).free b:=fun i q hq e=>by
  obtain⟨J,h1,h2⟩:=Option.bind_eq_some_iff.1 hq;exact hj i (hm.inj J j q p b h2 hp e hb▸h1)
 exact⟨C,.inr ⟨fun e=>e j p hp hb,C⟩⟩
structure sN(l:Nat)(β:az)(w:World)(β':az)(w':World):Prop where
 size:w.heap.size<=w'.heap.size
 ej:∀ b,b<w.heap.size->b≠l->β.free b->w'.heap[b]? =w.heap[b]? /\β'.free b
 gq:∀ i p,β i=some p->β' i=some p\/β' i=some .dead
 out:Out w w'
 lp:∀ i r,r≠l->β i=some (.lp r)->β' i=some (.lp r)->Skel w w' r
theorem Step.x{β β':az}{w w':World}(h:Step β w β' w')(l:Nat):sN l β w β' w':=⟨h.size,fun b hb _=>h.ej b hb,h.gq,h.out,fun i r _=>h.lp i r⟩
theorem sN.trans{l:Nat}{X β₂ β₃:az}{M O U:World}(h:sN l X M β₂ O)(k:sN l β₂ O β₃ U):sN l X M β₃ U:=by
 refine⟨Nat.le_trans h.size k.size,fun b hb J hf=>?_,fun i p hp=>?_,h.out.trans k.out,fun i r hr hp C=>?_⟩
 rotate_left 2
 .rcases h.gq i _ hp with h1|h1
  .exact(h.lp i r hr hp h1).trans (k.lp i r hr h1 C)
  .rcases k.gq i _ h1 with h2|h2<;>(rw[h2] at C;cases C)
 .obtain⟨h1,h2⟩:=h.ej b hb J hf;obtain⟨k1,k2⟩:=k.ej b (Nat.lt_of_lt_of_le hb h.size) J h2;exact⟨k1.trans h1,k2⟩
 .rcases h.gq i p hp with h1|h1
  .exact k.gq i p h1
  .right;rcases k.gq i _ h1 with h2|h2<;>exact h2
theorem sN.put(l:Nat)(β:az)(w:World)(o:Obj):sN l β w β (w.putObj l o):=⟨oS,fun b _ C hf=>⟨World.putObj_heap_other C,hf⟩,fun _ _ h=>.inl h,⟨rfl,rfl⟩,fun _ _ hr _ _=>nd (World.putObj_heap_other hr)⟩
theorem O9{n j:Nat}{f:Nat->Option Nat}(C:∀ i i' j,f i=some j->f i'=some j->i=i'):
 (∀ i,(List.range n).find? (fun i=>f i==some j)=some i->f i=some j/\i<n)/\(∀ i,i<n->f i=some j->(List.range n).find? (fun i=>f i==some j)=some i):=by
 refine⟨fun i hi=>⟨by simpa using List.find?_some hi,by simpa using List.mem_of_find?_eq_some hi⟩,fun i hi hf=>?_⟩;cases h:(List.range n).find? (fun i=>f i==some j) with
 |none=>
  have:=List.find?_eq_none.1 h i (by simpa using hi);simp[hf] at this
 |some k=>rw[C i k j hf (by simpa using List.find?_some h)]
theorem View.acQ{il n₀:Nat}{f:Nat->Option Nat}{mc:Mem}{nc:Nat}{m:Mem}{nx:Nat}(h:View il n₀ f mc nc m nx){β:az}{w:World}(hm:aC P F m β w)(hn:∀ i,nx<=i->β i=none){l:Nat}{o o':Obj}(hl:m il=some (.raw l o))
 {m':Mem} {O:Nat} {β':az} {w':World} (iy:aC P (hidden F β f) m' β' w') (hs:sN l (β.via f) w β' w') (dN:∀ i,O<=i->β' i=none) (hle:nc<=O) (hg:∀ i,i<nc->(β.via f) i=none->β' i=none) (ho:w'.heap[l]? =some o'):
 ∃ C X qj J,View il n₀ C m' O X qj/\X il=some (.raw l o')/\aC P F X J w'/\(∀ i,qj<=i->J i=none)/\Step β w J w'/\nx<=qj/\∀ i,i<nx->β i=none->J i=none:=by
 obtain⟨DO,lH,hFl,aj⟩:=hm.AF hl
 let C:Nat->Option Nat:=fun i=>if i<nc then f i else if i<O then some (nx+(i - nc)) else none
 have CO:∀ i,i<nc->C i=f i:=fun i hi=>by simp[C,hi]
 have K4:∀ i,nc<=i->i<O->C i=some (nx+(i - nc)):=fun i h1 h2=>by simp[C,h2,Nat.not_lt.2 h1]
 have S7:∀ i,O<=i->C i=none:=fun i h1=>by simp[C,Nat.not_lt.2 h1,Nat.not_lt.2 (Nat.le_trans hle h1)]
 have vJ:∀ i j,C i=some j->(f i=some j/\i<nc/\j<nx)\/(nc<=i/\i<O/\j=nx+(i - nc)):=fun i j hf=>by
  rcases Nat.lt_or_ge i nc with h1|h1
  .rw[CO i h1] at hf;exact .inl ⟨hf,h.wm hf |>.1,(h.wm hf).2.1⟩
  .rcases Nat.lt_or_ge i O with h2|h2
   .rw[K4 i h1 h2] at hf;cases hf;exact .inr ⟨h1,h2,rfl⟩
   .rw[S7 i h2] at hf;cases hf
 have K5:∀ i i' j,C i=some j->C i'=some j->i=i':=fun i i' j h1 h2=>by
  rcases vJ i j h1 with⟨a1,a2,a3⟩|⟨a1,a2,a3⟩<;>rcases vJ i' j h2 with⟨b1,b2,b3⟩|⟨b1,b2,b3⟩
  .exact h.inj i i' j a1 b1
  .omega
  .omega
  .omega
 let inv:Nat->Option Nat:=fun j=>(List.range O).find? fun i=>C i==some j
 have wo:∀ i j,inv j=some i->C i=some j:=fun i j hi=>((O9 K5).1 i hi).1;have LV:∀ i j,C i=some j->inv j=some i:=fun i j hf=>(O9 K5).2 i (by rcases vJ i j hf with h1|h1<;>omega) hf
 have afT:∀ j,inv j=none->∀ i,f i≠some j:=fun j hj i hf=>by
  have:=LV i j (by rw[CO i (h.wm hf).1];exact hf);rw[hj] at this;cases this
 let J:az:=fun j=>match inv j with|some i=>β' i|none=>β j
 let X:Mem:=fun j=>match inv j with|some i=>(m' i).map (Row.sT C)|none=>if j=il then some (.raw l o') else m j
 have βs:∀ i j,C i=some j->J j=β' i:=fun i j hf=>by simp[J,LV i j hf]
 have βn:∀ j,inv j=none->J j=β j:=fun j hj=>by simp[J,hj]
 have ab1:inv il=none:=by
  cases hi:inv il with
  |none=>rfl
  |some i=>
   rcases vJ i il (wo i il hi) with⟨a1,a2,a3⟩|⟨a1,a2,a3⟩
   .exact absurd rfl (h.wm a1).2.2
   .have:=h.lt;omega
 have via:J.via C=β':=by
  funext i;simp only[az.via];cases hf:C i with
  |some j=>exact βs i j hf
  |none=>
   rcases Nat.lt_or_ge i O with h1|h1
   .rcases Nat.lt_or_ge i nc with h2|h2
    .obtain⟨j,h3,_⟩:=h.HA i h2;rw[CO i h2,h3] at hf;cases hf
    .rw[K4 i h2 h1] at hf;cases hf
   .exact(dN i h1).symm
 have look:∀ j p,J j=some p->(∃ i,inv j=some i/\C i=some j/\β' i=some p)\/(inv j=none/\β j=some p):=fun j p hp=>by
  cases hi:inv j with
  |some i=>exact .inl ⟨i,rfl,wo i j hi,by rw[<- βs i j (wo i j hi)];exact hp⟩
  |none=>exact .inr ⟨rfl,by rw[<- βn j hi];exact hp⟩
 have afU:∀ b,β.free b->b≠l:=fun b hb e=>hb il _ DO (e▸rfl)
 have ej:∀ b,b<w.heap.size->β.free b->w'.heap[b]? =w.heap[b]? /\J.free b:=fun b hb hf=>by
  obtain⟨h1,h2⟩:=hs.ej b hb (afU b hf) (az.vD hf f);refine⟨h1,fun j p hp=>?_⟩;rcases look j p hp with⟨i,_,_,U⟩|⟨_,U⟩
  .exact h2 i p U
  .exact hf j p U
 have gq:∀ j p,β j=some p->J j=some p\/J j=some .dead:=fun j p hp=>by
  cases hi:inv j with
  |none=>exact .inl ((βn j hi).trans hp)
  |some i=>
   have hf:=wo i j hi;rw[βs i j hf];rcases vJ i j hf with⟨a1,a2,a3⟩|⟨a1,a2,a3⟩
   .exact hs.gq i p (by simp[az.via,a1,hp])
   .rw[hn j oG] at hp;cases hp
 have M:∀ j p b,inv j=none->β j=some p->p.bJ=some b->hidden F β f b/\(b≠l->b<w.heap.size/\w'.heap[b]? =w.heap[b]?):=fun j p b hj hp hb=>by
  obtain⟨h1,h2⟩:=h.Fx hm (afT j hj) hp hb;exact⟨h2,fun a8=>⟨hm.lt j p b hp hb,(hs.ej b (hm.lt j p b hp hb) a8 h1).1⟩⟩
 have lps:∀ j r,β j=some (.lp r)->J j=some (.lp r)->Skel w w' r:=fun j r hp iB=>by
  have a8:r≠l:=fun e=>by
   have:=hm.inj j il _ _ l hp DO (by simp[Pl.bJ,e]) rfl;subst this;rw[DO] at hp;cases hp
  cases hi:inv j with
  |none=>exact nd ((M j _ r hi hp rfl).2 a8).2
  |some i=>
   have hf:=wo i j hi;rcases vJ i j hf with⟨a1,a2,a3⟩|⟨a1,a2,a3⟩
   .exact hs.lp i r a8 (by simp[az.via,a1,hp]) (by rw[<- βs i j hf];exact iB)
   .rw[hn j oG] at hp;cases hp
 refine⟨C,X,nx+(O - nc),J,⟨Nat.le_trans h.low hle,by have:=h.lt;omega,fun i hi=>?_,fun i hi=>?_,S7,K5,fun i r hi=>?_⟩,?_,⟨fun j r hj=>?_,fun i j p q b hp hq e e'=>?_,fun j p b hp e=>?_,fun j p b hp e hF=>?_,?_⟩,fun i hi=>?_,⟨hs.size,ej,gq,hs.out,lps⟩,oG,fun i hi hb=>?_⟩
 .rw[CO i (Nat.lt_of_lt_of_le hi h.low)];exact h.id i hi
 .rcases Nat.lt_or_ge i nc with h1|h1
  .obtain⟨j,h2,h3,U⟩:=h.HA i h1;exact⟨j,by rw[CO i h1];exact h2,oG,U⟩
  .exact⟨_,K4 i h1 hi,oG,by have:=h.lt;omega⟩
 .obtain⟨p,hp,_⟩:=iy.row i r hi
  have:∃ j,C i=some j:=by
   rw[<- via] at hp;obtain⟨j,h1,_⟩:=Option.bind_eq_some_iff.1 hp;exact⟨j,h1⟩
  obtain⟨j,hj⟩:=this;exact⟨j,hj,by simp[X,LV i j hj,hi]⟩
 .simp[X,ab1]
 .cases hi:inv j with
  |some i=>
   simp only[X,hi,dm] at hj;obtain⟨r0,HB,rfl⟩:=hj;obtain⟨p,hp,hr⟩:=iy.row i r0 HB;refine⟨p,(βs i j (wo i j hi)).trans hp,cO.Ud (F':=hidden F β f) (by rw[via];exact hr) (fun b hb=>.inl hb) fun b g1 g2=>?_⟩;obtain⟨k,q,hq,U6⟩:=P7 g1;rcases look k q hq with⟨i',_,_,U⟩|⟨h3,U⟩
   .exact absurd U6 (g2 i' q (by rw[via];exact U))
   .exact(M k q b h3 U U6).1
  |none=>
   simp only[X,hi] at hj;split at hj
   .rename_i e;subst e;cases hj;exact⟨.raw l,(βn j hi).trans DO,.raw l o' ho⟩
   .rename_i a8;obtain⟨p,hp,hr⟩:=hm.row j r hj;refine⟨p,(βn j hi).trans hp,hr.gen hs.size (fun b hb g1 g2=>⟨tQ (ej b hb g2).1,(ej b hb g2).2,g1⟩) (fun i p _=>gq i p) fun b hb=>?_⟩;exact((M j p b hi hp hb).2 fun e=>a8 (hm.inj j il p _ b hp DO hb (e▸rfl))).2
 .rcases look i p hp with⟨i',a1,a2,a3⟩|⟨a1,a2⟩<;>rcases look j q hq with⟨j',b1,b2,b3⟩|⟨b1,b2⟩
  .have:=iy.inj i' j' p q b a3 b3 e e';subst this;rw[a2] at b2;cases b2;rfl
  .exact absurd (M j q b b1 b2 e').1 (iy.nf i' p b a3 e)
  .exact absurd (M i p b a1 a2 e).1 (iy.nf j' q b b3 e')
  .exact hm.inj i j p q b a2 b2 e e'
 .rcases look j p hp with⟨i',a1,a2,a3⟩|⟨a1,a2⟩
  .exact iy.lt i' p b a3 e
  .exact Nat.lt_of_lt_of_le (hm.lt j p b a2 e) hs.size
 .rcases look j p hp with⟨i',a1,a2,a3⟩|⟨a1,a2⟩
  .exact iy.nf i' p b a3 e (.inl hF)
  .exact hm.nf j p b a2 e hF
 .exact hm.fb.next (fun b hb=>Nat.lt_of_lt_of_le (hm.fb.lt b hb) hs.size) (fun _ h=>h) fun t _ hF=>(ej _ (hm.fb.lt _ hF) fun i p hp e=>hm.nf i p _ hp e hF).1
 .cases cP:inv i with
  |none=>exact(βn i cP).trans (hn i oG)
  |some i0=>
   rcases vJ i0 i (wo i0 i cP) with⟨a1,a2,a3⟩|⟨a1,a2,a3⟩<;>omega
 .cases cP:inv i with
  |none=>exact(βn i cP).trans hb
  |some i0=>
   have hf:=wo i0 i cP;rw[βs i0 i hf];rcases vJ i0 i hf with⟨a1,a2,a3⟩|⟨a1,a2,a3⟩
   .exact hg i0 a2 (by simp[az.via,a1,hb])
   .omega
theorem IH{β:az}{w:World}:∀ (ts:List Tmp) (ds:List D) (vs:List Value) (env:Env) (tmps:Array Value),vs.length=ds.length->(∀ (k:Nat) (d:D) (v:Value),ds[k]? =some d->vs[k]? =some v->R F β w d v)->
 (∀ t,t∈ts->t<tmps.size)->eZ F β w env { tmps:=tmps,defers:=[] }->
 eZ F β w (tZ env ts ds) { tmps:=(ts.zip vs).foldl (fun tmps (t,a)=>tmps.setIfInBounds t a) tmps,defers:=[] }/\((ts.zip vs).foldl (fun tmps (t,a)=>tmps.setIfInBounds t a) tmps).size=tmps.size
 |[],_,_,env,tmps,_,_,_,h=>by simpa[tZ] using h
 |_::_,[],[],env,tmps,_,_,_,h=>by simpa[tZ] using h
 |_::_,[],_::_,_,_,hl,_,_,_=>by simp at hl
 |_::_,_::_,[],_,_,hl,_,_,_=>by simp at hl
 |t::ts,d::ds,v::vs,env,tmps,hl,hR,aj,h=>by
  have h1:eZ F β w (up env t d) { tmps:=tmps.setIfInBounds t v,defers:=[] }:=by
   have:=h.put (some t) d v (hR 0 d v rfl rfl) (fun u hu=>by cases hu;exact aj t oS);simpa[Act.put,up] using this
  have:=IH ts ds vs (up env t d) (tmps.setIfInBounds t v) (by simpa using hl) (fun k d v hd hv=>hR (k+1) d v (by simpa using hd) (by simpa using hv)) (fun u hu=>by simpa using aj u (by simp[hu])) h1;simp only[tZ,List.zip_cons_cons,List.foldl_cons];exact⟨this.1,by rw[this.2];simp⟩
theorem BW{c:Code}{b:Frame}{a:Act}{k:List Item}{cs:List Frame}{w:World}:step P (lone (b.atR a (.code (.scope c)::k)) cs w)=.next (lone (b.atR a (.code c::.inScope c::k)) cs w):=
 step_lone_go (by simp[stepG,stepG.exec,Frame.atR])
theorem Wt{c:Code}{b:Frame}{a:Act}{k:List Item}{cs:List Frame}{w:World}:step P (lone (b.atR a (.inScope c::k)) cs w)=.next (lone (b.atR a k) cs w):=
 step_lone_go (by simp[stepG,stepG.exec,Frame.atR])
theorem EK{I:Machine->Prop}{m:Machine}{b:Frame}{c:Code}{k:List Item}{cs:List Frame}{e:Exit}{a:Act}{w:World}
 (hn:e≠ .normal) (hg:∀ l,e≠ .goto l) (h:ArrivesIn I P m b (.inScope c::k) cs e a w):ArrivesIn I P m b k cs e a w:=by
 cases e with
 |normal=>exact absurd rfl hn
 |exit id=>exact⟨fun k' hk=>h.1 k' (by simp[exitTo,hk]),fun hr hk=>h.2 hr (by simp[exitTo,hk])⟩
 |goto l=>exact absurd rfl (hg l)
 |ret=>exact h
 |panic chain=>exact h
 |outgrown=>exact h
theorem OJ{O:Fence}{n:Nat}{Q:Exit->Act->World->Prop}{a:Act}{w:World}{c:Code}(h:c.wpIn O n P (Exit.noGoto Q) a w):(Code.scope c).wpIn O n P Q a w:=by
 intro b k cs U hb hr;have h0:(lone (b.atR a (.code (.scope c)::k)) cs w).fenced P O:=fenced_calm hb hr rfl;obtain⟨e,C,M,hq,J⟩:=h b (.inScope c::k) cs U hb hr;cases e with
 |normal=>exact⟨.normal,C,M,hq,.head h0 BW (StepsIn.trans J (.one (fenced_calm hb hr rfl) Wt))⟩
 |goto l=>exact hq.elim
 |exit id=>exact⟨.exit id,C,M,hq,.of_steps (.one h0 BW) (EK (c:=c) oS oS J)⟩
 |ret=>exact⟨.ret,C,M,hq,.of_steps (.one h0 BW) (EK (c:=c) oS oS J)⟩
 |panic ch=>exact⟨.panic ch,C,M,hq,.of_steps (.one h0 BW) (EK (c:=c) oS oS J)⟩
 |outgrown=>exact⟨.outgrown,C,M,hq,.of_steps (.one h0 BW) (EK (c:=c) oS oS J)⟩
def Jump(env:Env)(Q:Exit->St->Prop):Code->Mem->Nat->Prop
 | .ret,m,nx=>Q .ret ⟨env,m,nx⟩
 | .exit id,m,nx=>Q (.exit id) ⟨env,m,nx⟩
 |_,_,_=>False
def Av(il l:Nat)(n₀:Nat)(o:Obj)(I:Mem->Nat->Prop)(m:Mem)(nx:Nat):Prop:=∃ f mc nc,View il n₀ f mc nc m nx/\m il=some (.raw l o)/\I mc nc
theorem Av.closed{il l n₀:Nat}{o:Obj}{I:Mem->Nat->Prop}:CC (Av il l n₀ o I):=by
 rintro m nx m' aA ⟨f,mc,nc,h1,h2,J⟩ C he;exact⟨f,mc,nc,h1.ext C he,(he il h1.lt).trans h2,J⟩
theorem O'(ps:Array Tmp)(us:Array Value)(tmps:Array Value):
 (ps.zip us).foldl (fun tmps (t,a)=>tmps.setIfInBounds t a) tmps=(ps.toList.zip us.toList).foldl (fun tmps (t,a)=>tmps.setIfInBounds t a) tmps:=by
 rw[<- Array.foldl_toList];simp
theorem Od{β:az}{w:World}{a:Act}{g:Operand}{f:FuncId}{fs cs:List D}(hR:R F β w (.fn (.func f) fs cs) (a.eval g))(he:lf P f=true)(l:Nat)(w':World):
 ∃ (us vs:List Value) (d:Deferred),us.length=fs.length/\vs.length=cs.length/\(∀ (k:Nat) (d:D) (v:Value),fs[k]? =some d->us[k]? =some v->R F β w d v)/\(∀ (k:Nat) (d:D) (v:Value),cs[k]? =some d->vs[k]? =some v->R F β w d v)/\
  (resolve a.eval (rangeCall g l) 0).run P w'=.ok d w'/\(invoke d.target d.args).run P w'=.ok (.enter f (us.toArray++ #[.func (.yield l) #[] #[]]++vs.toArray)) w':=by
 generalize hv:a.eval g=v at hR;cases hR with
 |fn _ _ _ us vs hl kY hh C=>
 refine⟨us,vs,{ target:=.fn (.func f) vs.toArray,args:=us.toArray++ #[.func (.yield l) #[] #[]] },hl,kY,hh,C,?_,?_⟩
 .simp only[resolve,hv,Sem.run_bind,Deferred.ofValue];simp[go_sem]
 .simp only[invoke];unfold callFunc;unfold lf at he;simp only[Sem.run_bind,run_program,Result.andThen_ok];split at he
  .rename_i fn J;simp only[ay,Bool.not_eq_true'] at he
   have hb:fn.body.isNone=false:=by
    cases M:fn.body<;>simp_all
   rw[J];simp only[he.1,hb,Bool.false_eq_true,if_false,Sem.run_pure]
  .cases he
theorem Rs.append{β:az}{w:World}{aS bs:List D}{xs ys:Array Value}(h:Rs F β w aS xs)(k:Rs F β w bs ys):Rs F β w (aS++bs) (xs++ys):=by
 refine⟨by simp[h.1,k.1],fun j d v hd hv=>?_⟩;rcases Nat.lt_or_ge j aS.length with hj|hj
 .rw[List.getElem?_append_left hj] at hd;rw[Array.getElem?_append_left (by rw[h.1];exact hj)] at hv;exact h.2 j d v hd hv
 .rw[List.getElem?_append_right hj] at hd;rw[Array.getElem?_append_right (by rw[h.1];exact hj),h.1] at hv;exact k.2 _ d v hd hv
theorem Zp(jL:P.follows .mixedOrders=true):∀ (c:Code) (F:Nat->Prop) (r:Option Nat) (n:Nat) (Y:gd) (rf:Bool) (N₀:Nat) (β₀:az) (w₀:World) (a₀:Act),(rf=true->r=none)->
 (∀ l args m nx K,Y l args m nx K->o6 P F β₀ w₀ l args m nx K)->fv a₀.tmps.size c=true->∀ (Q:Exit->St->Prop) (st:St) (β:az) (w:World) (a:Act),
 AW P Y rf c Q st->bW P F st β w a->nJ N₀ β₀ w₀ a₀ st β w a->c.wpIn (Fe r) n P (CN P F N₀ β₀ w₀ a₀ Q) a w:=by
 intro c
 induction c with
 |skip=>exact fun F r n Y rf N₀ β₀ w₀ a₀ O U _ Q st β w a h hs J=>wpIn_skip ⟨st,β,h,hs,J⟩
 |ret=>exact fun F r n Y rf N₀ β₀ w₀ a₀ O U _ Q st β w a h hs J=>wpIn_ret ⟨st,β,h,hs,J⟩
 |exit id=>exact fun F r n Y rf N₀ β₀ w₀ a₀ O U _ Q st β w a h hs J=>wpIn_exit ⟨st,β,h,hs,J⟩
 |label l=>exact fun F r n Y rf N₀ β₀ w₀ a₀ O U _ Q st β w a h hs J=>wpIn_label ⟨st,β,h,hs,J⟩
 |region id ops draw=>
  intro F r n Y rf N₀ β₀ w₀ a₀ O U aj Q st β w a h hs J;have kz:lA a.tmps.size ops=true:=by rw[J.size];exact aj
  cases draw with
  |false=>
   refine wpIn_mono (WN (N:=st.nx) (β₀:=β) (w₀:=w) (a₀:=a) (fun l args m nx K hy=>(U l args m nx K hy).base J.step) kz h hs (dC.refl st β w a)) fun e a' w' hp=>?_;obtain⟨st',β',hq,X,fB⟩:=hp;exact⟨st',β',hq,X,J.since fB⟩
  |true=>
   simp only[AW] at h;split at h
   .rename_i cf y3;refine wpIn_mono (WO (N₀:=st.nx) (β₀:=β) (w₀:=w) (a₀:=a) jL y3 kz h hs (dC.refl st β w a)) fun e a' w' hp=>?_;obtain⟨st',β',hq,X,fB⟩:=hp;exact⟨st',β',hq,X,J.since fB⟩
   .exact h.elim
 |seq x y HC HD=>
  intro F r n Y rf N₀ β₀ w₀ a₀ O U aj Q st β w a h hs J;simp only[fv,ay] at aj;refine wpIn_seq (wpIn_mono (HC F r n Y rf N₀ β₀ w₀ a₀ O U aj.1 _ st β w a h hs J) fun e a' w' hp=>?_);obtain⟨st',β',hq,X,fB⟩:=hp;cases e with
  |normal=>
   obtain⟨ju,hg,hy⟩:=hq;obtain⟨jw,Dk,K6⟩:=On hg X;exact HD F r n Y rf N₀ β₀ w₀ a₀ O U aj.2 Q ju jw w' a' hy Dk (fB.since K6)
  |_=>exact⟨st',β',hq,X,fB⟩
 |cond c x y HC HD=>
  intro F r n Y rf N₀ β₀ w₀ a₀ O U aj Q st β w a h hs J;simp only[fv,ay] at aj;obtain⟨ha,h⟩:=h;have hR:=(hs.e.opd c).vI _ ha;split at h
  .rename_i t ht;rw[ht] at hR;exact wpIn_cond_split hR.cJ.1 (fun e=>HC F r n Y rf N₀ β₀ w₀ a₀ O U aj.1 Q st β w a (h.1 e) hs J) fun e=>HD F r n Y rf N₀ β₀ w₀ a₀ O U aj.2 Q st β w a (h.2 e) hs J
  .rename_i ht;rw[ht] at hR;obtain⟨b,hb⟩:=hR.Cy;exact wpIn_cond_split hb (fun _=>HC F r n Y rf N₀ β₀ w₀ a₀ O U aj.1 Q st β w a h.1 hs J) fun _=>HD F r n Y rf N₀ β₀ w₀ a₀ O U aj.2 Q st β w a h.2 hs J
  .exact h.elim
 |scope b ih=>
  intro F r n Y rf N₀ β₀ w₀ a₀ O U aj Q st β w a h hs J;refine OJ (wpIn_mono (ih F r n Y rf N₀ β₀ w₀ a₀ O U aj _ st β w a h hs J) fun e a' w' hp=>?_);obtain⟨st',β',hq,X,fB⟩:=hp;cases e with
  |goto l=>exact hq.elim
  |_=>exact⟨st',β',hq,X,fB⟩
 |block id b ih=>
  intro F r n Y rf N₀ β₀ w₀ a₀ O U aj Q st β w a h hs J;refine wpIn_block (wpIn_mono (ih F r n Y rf N₀ β₀ w₀ a₀ O U aj _ st β w a h hs J) fun e a' w' hp=>?_);obtain⟨st',β',hq,X,fB⟩:=hp;cases e with
  |exit i=>
   simp only[hZ] at hq;simp only[Exit.inBlock];split at hq
   .rename_i hi;rw[if_pos hi];exact⟨st',β',hq,X,fB⟩
   .rename_i hi;rw[if_neg hi];exact⟨st',β',hq,X,fB⟩
  |_=>exact⟨st',β',hq,X,fB⟩
 |loop b ih=>
  intro F r n Y rf N₀ β₀ w₀ a₀ O U aj Q st β w a h hs J;obtain⟨I,μ,hI,Aw⟩:=h;refine Oc (fun j a w=>∃ st β,I st/\μ st=j/\bW P F st β w a/\nJ N₀ β₀ w₀ a₀ st β w a) ⟨st,β,hI,rfl,hs,J⟩ ?_;rintro j a w ⟨st,β,hI,hμ,hs,J⟩;refine wpIn_mono (ih F r n Y rf N₀ β₀ w₀ a₀ O U aj _ st β w a (Aw st hI) hs J) fun e a' w' hp=>?_;obtain⟨st',β',hq,X,fB⟩:=hp;cases e with
  |normal=>
   obtain⟨jx,hg,HE,akM⟩:=hq;obtain⟨jw,Dk,K6⟩:=On hg X;exact⟨μ jx,oG,jx,jw,HE,rfl,Dk,fB.since K6⟩
  |_=>exact⟨st',β',hq,X,fB⟩
 |rangeFunc g ps assign body wK wL=>
  intro F r n Y rf N₀ β₀ w₀ a₀ O U aj Q st β w a h hs J;obtain⟨env,mem,nx⟩:=st;obtain⟨LW,G',f,fs,cs,xs,I,GF,Ha,GG,HF,Aw,GH⟩:=h;simp only at G' GF HF Aw GH;have hr:=O LW;subst hr;simp only[fv,ay,b7,Nat.blt_eq] at aj;obtain⟨nK,LX,LY⟩:=aj;have bK:a.tmps.size=a₀.tmps.size:=J.size;have hR:=(hs.e.opd g).vI _ G';simp only[GF] at hR;refine wpIn_rangeFunc fun fn tg=>?_;obtain⟨C,mH⟩:∃ C:LoopState->Option Code->Loop,C=fun st pe=>{ state:=st,pending:=pe,fn,tmps:=a.tmps,params:=ps,assign,body,defers:=w.heap.size }:=⟨_,rfl⟩
  obtain⟨W1,pC⟩:∃ W1,(w.alloc (.deferred (some []))).alloc (.loop (C .ready none))=W1:=⟨_,rfl⟩
  obtain⟨us,vs,d,DP,qv,hu,hv,mI,hinv⟩:=Od (P:=P) hR Ha.1 (w.heap.size+1) W1;have hn:∀ i,nx<=i->β i=none:=hs.n;have M0:∀ t∈wl,t.1≠w.heap.size+1:=fun t ht e=>by have:=hs.m.fb.lt _ (hs.m.fb.gM t ht).1;omega
  have hFl:¬ F (w.heap.size+1):=fun e=>by have:=hs.m.fb.lt _ e;omega
  let f₀:Nat->Option Nat:=fun i=>if i<nx then some i else none
  have Ue:β.via f₀=β:=by
   funext i;simp only[az.via,f₀];split
   .rfl
   .exact(hn i oG).symm
  have HG:aC P F (fun i=>(mem i).map (Row.sT f₀)) β w:=⟨fun i r hi=>by
   simp only[dm] at hi;obtain⟨r0,h1,rfl⟩:=hi;obtain⟨p,hp,hr⟩:=hs.m.row i r0 h1
   exact⟨p,hp,cO.Ud (F':=F) (by rw[Ue];exact hr) (fun _ h=>h) fun b g1 g2=>absurd (Ue▸g2) g1⟩,hs.m.inj,hs.m.lt,hs.m.nf,hs.m.fb⟩
  have qw:Step β w β (w.alloc (.deferred (some []))):=xG oS fun b hb=>heap_alloc_old w _ hb;have jS:aC P F (fun i=>(mem i).map (Row.sT f₀)) β (w.alloc (.deferred (some []))):=HG.ext oS fun b hb=>heap_alloc_old w _ hb
  have y4:aC P F (up (fun i=>(mem i).map (Row.sT f₀)) nx (some (.raw (w.heap.size+1) (.loop (C .ready none))))) (up β nx (some (.raw (w.heap.size+1)))) W1:=by
   rw[<- pC];refine jS.alloc (hn nx (bO _)) _ _ _ (fun b hb=>by simp only[Pl.bJ,aK] at hb;simp;omega) (.raw _ _ ?_);have:=World.alloc_heap_new (w.alloc (.deferred (some []))) (.loop (C .ready none))
   rwa[World.size_alloc] at this
  have dH:Step β w (up β nx (some (.raw (w.heap.size+1)))) W1:=by
   rw[<- pC];exact qw.trans (zM jS _ (hn nx (bO _)) _ (fun b hb=>by simp only[Pl.bJ,aK] at hb;simp;omega))
  have M1:W1.heap[w.heap.size]? =some (.deferred (some [])):=by
   rw[<- pC];rw[heap_alloc_old _ _ oS];exact World.alloc_heap_new w _
  have CD:az.free (up β nx (some (.raw (w.heap.size+1)))) w.heap.size:=
   oW (fun i p hp e=>by have:=hs.m.lt i p _ hp e;omega) (by rintro q hq;cases hq;simp[Pl.bJ])
  have LZ:W1.heap.size=w.heap.size+2:=by rw[<- pC];simp
  have aaX:∀ i,nx<=i->mem i=none:=fun i hi=>by
   cases hm:mem i with
   |none=>rfl
   |some row=>
    obtain⟨p,hp,_⟩:=hs.m.row i row hm;rw[hn i hi] at hp;cases hp
  have own:∀ {f:Nat->Option Nat} {mc:Mem} {nc:Nat} {m:Mem} {iC:Nat} {β2:az} {w2:World},View nx nx f mc nc m iC->Step (up β nx (some (.raw (w.heap.size+1)))) W1 β2 w2->
   ∀ {d:D} {v:Value},R F β w d v->R (hidden F β2 f) (β2.via f) w2 d v:=fun {_ _ _ _ _ _ _} M bt {d v} h=>by
   have rm:=dH.trans bt;refine h.gen rm.size (fun b hb hf jl=>?_) fun i p _ hp=>?_
   .obtain⟨g1,g2⟩:=rm.ej b hb jl;exact⟨tQ g1,az.vD g2 _,fun e=>e.elim hf fun e=>e.1 g2⟩
   .have hi:i<nx:=by
     rcases Nat.lt_or_ge i nx with h1|h1
     .exact h1
     .rw[hn i h1] at hp;cases hp
    simp only[az.via,M.id i hi,Option.bind_some];exact rm.gq i p hp
  refine⟨w.heap.size+1,[mark w.heap.size],W1,d,W1,f,_,W1,?_,mI,fun f' _=>trivial,hinv,fun hd=>by simp at hd,Fk ?_⟩
  .rw[<- pC,mH];exact run_enterLoop_outer _ _ _ _ _
  refine(Ha.2 F (w.heap.size+1) (fun k=>Av nx (w.heap.size+1) nx (.loop (C .ready none)) (I k)) (fun m k=>∃ c,Av nx (w.heap.size+1) nx (.loop (C .done (some c))) (Jump env Q c) m k)
   (up (fun i=>(mem i).map (Row.sT f₀)) nx (some (.raw (w.heap.size+1) (.loop (C .ready none))))) (nx+1) (up β nx (some (.raw (w.heap.size+1)))) W1 _ (fun k=>Av.closed) ?_ y4 ?_ ?_ ?_ ?_).mono ?_
  .rintro m k m' k' ⟨c,hc⟩ hle he;exact⟨c,Av.closed m k m' k' hc hle he⟩
  .intro i hi;rw[bE _ _ (show i≠nx by omega)];exact hn i oG
  .refine Rs.append (Rs.append ?_ ?_) ?_
   .exact⟨by simp[DP],fun k d v hd hv=>(hu k d v hd (by simpa using hv)).step dH⟩
   .refine⟨rfl,fun k d v hd hv=>?_⟩;cases k with
    |zero=>
     simp only[List.getElem?_cons_zero,aK] at hd;simp only[List.getElem?_toArray,List.getElem?_cons_zero,aK] at hv;subst hd;subst hv;exact .fn _ [] [] [] [] rfl rfl oS oS
    |succ k=>simp at hd
   .exact⟨by simp[qv],fun k d v hd y5=>(hv k d v hd (by simpa using y5)).step dH⟩
  .rintro k x m k' hx ⟨g,mc,nc,M,qz,hIk⟩ β2 w2 uM rq qA wM uN;obtain⟨U7,vY,_,L1⟩:=qA.AF qz;have L2:uM.size=ps.size:=by rw[uN.1];exact(GG x (cX hx)).1
   have hy:=run_yield (P:=P) (args:=uM) vY (by rw[mH];exact L2);simp only[mH,O'] at hy;refine⟨fn,_,assign,body,hy,fun n'=>?_⟩;obtain⟨M3,uO⟩:=M.enter qA;have DQ:hidden F β2 g (w.heap.size+1):=(M.Fx qA (fun i e=>(M.wm e).2.2 rfl) U7 rfl).2;have R0:(β2.via g).free (w.heap.size+1):=(M.Fx qA (fun i e=>(M.wm e).2.2 rfl) U7 rfl).1;have DR:eZ (hidden F β2 g) (β2.via g) w2 env { tmps:=a.tmps,defers:=[] }:=fun t=>own M rq (hs.e t)
   obtain⟨M4,Dl⟩:=IH ps.toList x uM.toList env a.tmps (by simp[uN.1]) (fun j d v hd hv=>
    ((GG x (cX hx)).2 d (cX hd) F β2 w2 v (uN.2 j d v hd (by simpa using hv))).gen (bO _)
     (fun b _ hb _=>⟨mC.refl _ b,az.vD (B0 hb).2 _,fun e=>e.elim (B0 hb).1 fun e=>e.1 (B0 hb).2⟩) (fun i p _ hp=>by cases hp)) (fun t ht=>by rw[bK];exact nK t ht) DR
   have L3:=wK (hidden F β2 g) (some (w.heap.size+1)) n' nL false nc (β2.via g) w2
    { tmps:=(ps.toList.zip uM.toList).foldl (fun tmps (t,a)=>tmps.setIfInBounds t a) a.tmps,defers:=[] } oS (fun _ _ _ _ _ h=>h.elim) (by show fv (Array.size _) assign=true;rw[Dl,bK];exact LX) _ ⟨tZ env ps.toList x,mc,nc⟩ (β2.via g) w2 _
    (Aw k mc nc x hx hIk) ⟨M4,M3,uO⟩ (dC.refl ⟨tZ env ps.toList x,mc,nc⟩ _ _ _).wH
   refine roundIn_of_wpIn trivial (wpIn_mono L3 fun e a3 w3 hp=>?_);obtain⟨jx,β3,U9,jy,gg⟩:=hp;cases e with
   |normal=>
    have K7:w.heap.size+1<w3.heap.size:=Nat.lt_of_lt_of_le L1 gg.step.size;have acR:w3.heap[w.heap.size+1]? =some (.loop (C .ready none)):=(gg.step.ej _ L1 R0).1.trans vY;refine⟨_,run_beginRound acR (by rw[mH]),?_⟩;have afV:=jy.sS (l:=w.heap.size+1) DQ M0 (.loop { C .ready none with state:=.busy });have K8:=wL (hidden F β2 g) (some (w.heap.size+1)) n' nL false jx.nx β3 _ a3 oS (fun _ _ _ _ _ h=>h.elim) (by rw[gg.size];show fv (Array.size _) body=true;rw[Dl,bK];exact LY) _ jx β3 _ a3 U9 afV (dC.refl jx _ _ _).wH;refine wpIn_mono K8 fun e a4 w4 hp4=>?_;obtain⟨U',β4,HH,Va,DT⟩:=hp4;have acS:w.heap.size+1<w4.heap.size:=Nat.lt_of_lt_of_le (by simpa using K7) DT.step.size
    have acT:w4.heap[w.heap.size+1]? =some (.loop { C .ready none with state:=.busy }):=
     (DT.step.ej _ (by simpa using K7) (gg.step.ej _ L1 R0).2).1.trans (World.putObj_heap_same K7)
    have fin:∀ (jump:Option Code) (K:D->Mem->Nat->Prop),(∀ f' kZ qj,View nx nx f' U'.mem U'.nx kZ qj->kZ nx=some (.raw (w.heap.size+1) (.loop (C (if jump.isNone then .ready else .done) jump)))->K (.s (.bool jump.isNone)) kZ qj)->
     ∃ v w',(Instr.endRound (w.heap.size+1) jump).run P w4=.ok v w'/\∃ v' d m' aA β',Ending.returned v=.returned v'/\K d m' aA/\aC P F m' β' w'/\(∀ i,aA<=i->β' i=none)/\R F β' w' d v'/\Step β2 w2 β' w'/\k'<=aA/\∀ i,i<k'->β2 i=none->β' i=none:=fun jump K hK=>by
     have dc:=run_endRound (P:=P) jump acT;have e1:∀ s p,({ ({ C .ready none with state:=.busy }:Loop) with state:=s,pending:=p }:Loop)=C s p:=fun s p=>by rw[mH]
     rw[e1] at dc
     obtain⟨f',kZ,qj,jw,v1,v2,v3,v4,v5,v6,v7⟩:=M.acQ qA wM qz (o':=.loop (C (if jump.isNone then .ready else .done) jump)) (Va.m.sS DQ M0 _)
      (((gg.step.x _).trans (sN.put _ β3 w3 _)).trans ((DT.step.x _).trans (sN.put _ β4 w4 _))) Va.n (Nat.le_trans gg.le DT.le) (fun i hi hb=>DT.grow i (Nat.lt_of_lt_of_le hi gg.le) (gg.grow i hi hb)) (World.putObj_heap_same acS)
     exact⟨_,_,dc,.bool jump.isNone,_,kZ,qj,jw,rfl,hK f' kZ qj v1 v2,v3,v4,.s _ rfl,v5,v6,v7⟩
    cases e with
    |normal=>exact fin none _ fun f' kZ qj v1 v2=>.inl ⟨rfl,f',_,_,v1,v2,HH⟩
    |ret=>exact fin (some .ret) _ fun f' kZ qj v1 v2=>.inr ⟨rfl,.ret,f',_,_,v1,v2,HH⟩
    |exit id=>exact fin (some (.exit id)) _ fun f' kZ qj v1 v2=>.inr ⟨rfl,.exit id,f',_,_,v1,v2,HH⟩
    |_=>exact HH.elim
   |_=>exact U9.elim
  .refine⟨f₀,mem,nx,⟨bO _,oG,fun i hi=>by simp[f₀,hi],fun i hi=>⟨i,by simp[f₀,hi],oG,oG⟩,fun i hi=>by simp[f₀,Nat.not_lt.2 hi],fun i i' j h1 h2=>?_,fun i r hi=>?_⟩,au _ _ _,HF⟩
   .simp only[f₀,Option.ite_none_right_eq_some,aK] at h1 h2;omega
   .have aj:i<nx:=by
     rcases Nat.lt_or_ge i nx with h1|h1
     .exact h1
     .rw[aaX i h1] at hi;cases hi
    exact⟨i,by simp[f₀,aj],by rw[bE _ _ (show i≠nx by omega),hi];rfl⟩
  .rintro e w6 ⟨v,d6,m6,Bj,β6,rfl,Uf,rI,Vb,_,mJ,Ug,L4⟩
   have fin:∀ {g:Nat->Option Nat} {mc:Mem} {nc:Nat} (o':Obj),View nx nx g mc nc m6 Bj->
    bW P F ⟨env,mc,nc⟩ (β6.via g) (w6.putObj (w.heap.size+1) o') { a with defers:=[mark w.heap.size]++a.defers }/\
    nJ N₀ β₀ w₀ a₀ ⟨env,mc,nc⟩ (β6.via g) (w6.putObj (w.heap.size+1) o') { a with defers:=[mark w.heap.size]++a.defers }:=fun {g mc nc} o' M=>by
    obtain⟨M3,uO⟩:=M.enter rI
    have DQ:hidden F β6 g (w.heap.size+1):=by
     have hβ:β6 nx=some (.raw (w.heap.size+1))\/β6 nx=some .dead:=mJ.gq nx _ (au _ _ _);rcases hβ with hβ|hβ
     .exact(M.Fx rI (fun i e=>(M.wm e).2.2 rfl) hβ rfl).2
     .exfalso;rcases Uf with⟨f',mc',pB,_,L5,_⟩|⟨c,f',mc',pB,_,L5,_⟩
      .rw[(rI.AF L5).1] at hβ;cases hβ
      .rw[(rI.AF L5).1] at hβ;cases hβ
    refine⟨⟨fun t=>((own M mJ (hs.e t)).sS DQ o').qi fun b hb=>.inl hb,(M3.sS DQ M0 o').qi (fun b hb=>.inl hb) fun t ht=>(hs.m.fb.gM t ht).1,uO⟩,J.trans ⟨⟨?_,fun b hb hf=>?_,fun i p hp=>?_,(dH.out.trans mJ.out).trans ⟨rfl,rfl⟩,fun i r hp iB=>?_⟩,M.low,fun i hi hb=>?_,rfl,[mark w.heap.size],rfl,?_⟩⟩
    .have:=mJ.size;simp;omega
    .obtain⟨g1,g2⟩:=dH.ej b hb hf;obtain⟨g3,g4⟩:=mJ.ej b oG g2;exact⟨(World.putObj_heap_other oG).trans (g3.trans g1),az.vD g4 _⟩
    .have hi:i<nx:=by
      rcases Nat.lt_or_ge i nx with h1|h1
      .exact h1
      .rw[hn i h1] at hp;cases hp
     simp only[az.via,M.id i hi,Option.bind_some];exact(dH.trans mJ).gq i p hp
    .have hi:i<nx:=by
      rcases Nat.lt_or_ge i nx with h1|h1
      .exact h1
      .rw[hn i h1] at hp;cases hp
     simp only[az.via,M.id i hi,Option.bind_some] at iB;have:=hs.m.lt i _ r hp rfl;exact((dH.trans mJ).lp i r hp iB).trans (nd (World.putObj_heap_other oG))
    .have hi:i<nx:=hi;simp only[az.via,M.id i hi,Option.bind_some];exact L4 i oG (by rw[bE _ _ oG];exact hb)
    .refine⟨w.heap.size,rfl,bO _,?_,?_,?_,trivial⟩
     .have:=mJ.size;simp;omega
     .exact(World.putObj_heap_other oG).trans ((mJ.ej _ oG CD).1.trans M1)
     .exact az.vD (mJ.ej _ oG CD).2 _
   rcases Uf with⟨g,mc,nc,M,qz,hI⟩|⟨c,g,mc,nc,M,qz,hj⟩
   .have dc:(Instr.endLoop (w.heap.size+1)).run P w6=.ok none (w6.putObj (w.heap.size+1) (.loop (C .exhausted none))):=by
     have:=run_endLoop (P:=P) (rI.AF qz).2.1 (by rw[mH];simp);rw[mH] at this ⊢;exact this
    obtain⟨g1,g2⟩:=fin (.loop (C .exhausted none)) M;exact⟨none,_,dc,⟨env,mc,nc⟩,_,GH mc nc hI,g1,g2⟩
   .have dc:(Instr.endLoop (w.heap.size+1)).run P w6=.ok (some c) (w6.putObj (w.heap.size+1) (.loop (C .exhausted (some c)))):=by
     have:=run_endLoop (P:=P) (rI.AF qz).2.1 (by rw[mH];simp);rw[mH] at this ⊢;exact this
    obtain⟨g1,g2⟩:=fin (.loop (C .exhausted (some c))) M;refine⟨some c,_,dc,?_⟩;cases c with
    |ret=>exact wpIn_ret ⟨⟨env,mc,nc⟩,_,hj,g1,g2⟩
    |exit id=>exact wpIn_exit ⟨⟨env,mc,nc⟩,_,hj,g1,g2⟩
    |_=>exact hj.elim
 |_=>intro F r n Y rf N₀ β₀ w₀ a₀ O U aj Q st β w a h;exact h.elim
end
end Go.Abs
