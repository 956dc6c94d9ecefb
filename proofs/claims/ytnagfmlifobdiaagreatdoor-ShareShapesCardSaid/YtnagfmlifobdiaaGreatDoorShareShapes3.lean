/- Part 3. -/
import Derived.Test.YtnagfmlifobdiaaGreatDoorShareShapes2
import Derived.Laws.BytesArg
import Derived.Laws.Concat
import Derived.Lib.UnsafeStr
import Derived.RangeFuncRecord
import Derived.Scope
set_option linter.all false
namespace Go.Abs
section
variable{P:Program}{F:Nat->Prop}{m:Mem}{nx:Nat}{β:aJ}{w w':World}
theorem LQ:∀ {l:List Int} {c:List Value},Rl F β w (la l) c->c=l.map (Value.int .u8)
 |[],[],_=>rfl
 |[],_::_,h=>by have:=h.1;simp[la] at this
 |_::_,[],h=>by have:=h.1;simp[la] at this
 |n::l,v::c,h=>by
  have h0:=(h.2 0 _ v rfl rfl).1.cI.1;have ih:=LQ (l:=l) (c:=c) ⟨by have:=h.1;simp[la] at this ⊢;omega,fun k d u hk hu=>h.2 (k+1) d u (by simpa[la] using hk) (by simpa using hu)⟩;rw[h0,ih];rfl
theorem RO(l:List Int):l.foldl (fun r n=>r.push (UInt8.ofNat n.toNat)) ByteArray.empty=mkStr l:=by
 rw[foldl_push_bytes];simp[mkStr,ByteArray.empty,ByteArray.emptyWithCapacity];rfl
theorem Ul{src dst:TypeId}(hs:p0 P src)(hd:fA P dst=true){b o cap:Nat}{l:List Int}(h:Rd F β w b o (la l)):(convert src dst (.slice (some ⟨b,o,none⟩) l.length cap)).run P w=.ok (.string (mkStr l)) w:=by
 obtain⟨c,h1,h2⟩:=h.Cq;have hc:=LQ h1;subst hc
 have hl:(loadCells ⟨b,o,none⟩ l.length).run P w=.ok (l.map (Value.int .u8)).toArray w:=by
  have:=run_loadCells_list (P:=P) w ⟨b,o,none⟩ (l.map (Value.int .u8)) h2;simpa using this
 rw[run_convert_bytes_string w src dst _ _ _ _ (jD hs.1).1 hs.2.1 (xH hd),run_bytesToString w _ l.length cap l hl,RO]
theorem LR{src dst:TypeId}(hs:p0 P src)(hd:fA P dst=true)(a:Option Addr)(cap:Nat):(convert src dst (.slice a 0 cap)).run P w=.ok (.string (mkStr [])) w:=by
 rw[run_convert_bytes_string w src dst _ _ _ _ (jD hs.1).1 hs.2.1 (xH hd)];cases a with
 |none=>rfl
 |some a=>
  have hl:(loadCells a 0).run P w=.ok (([]:List Int).map (Value.int .u8)).toArray w:=by simp[loadCells,loadCellsFrom]
  rw[run_bytesToString w a 0 cap [] hl,RO]
theorem aa9(hm:aL P F m β w){src dst:TypeId}{l:List Int}{v:Value}(hx:R F β w (.sl (la l) l.length) v)(hs:p0 P src)(hd:fA P dst=true):
 aU P F m nx β w { pre:=True,val:=.s (.string (mkStr l)) } (do Pure.pure (Next.value (<- convert src dst v))):=by
 rcases hx.wc with⟨h1,h2,a,cap,rfl⟩|⟨b,o,cap,rfl,_,_,_,_,_,C⟩
 .have hl:l=[]:=List.eq_nil_of_length_eq_zero h2;subst hl;exact aU.pure hm (LR hs hd a cap) (.s _ rfl)
 .exact aU.pure hm (Ul hs hd C) (.s _ rfl)
theorem aa'(hm:aL P F m β w){src dst:TypeId}{l:List Int}{i off:Nat}{cs:List D}{e:TypeId}{v:Value}(hx:R F β w (.rs i off l.length) v)(hi:m i=some (.cells cs e))(hl:(cs.drop off).take l.length=la l)(hs:p0 P src)(hd:fA P dst=true){rd:List Nat}:
 aU P F m nx β w { pre:=True,val:=.s (.string (mkStr l)),rd:=rd } (do Pure.pure (Next.value (<- convert src dst v))):=by
 rcases hx.xU hm hi with⟨h1,h2,C,_,a,rfl⟩|⟨b,o,room,_,aA,O⟩
 .have J:l=[]:=List.eq_nil_of_length_eq_zero C;subst J;exact aU.pure hm (LR hs hd a 0) (.s _ rfl)
 .rcases O with⟨C,a,rfl⟩|⟨cap,rfl,_⟩
  .have J:l=[]:=List.eq_nil_of_length_eq_zero C;subst J;exact aU.pure hm (LR hs hd a 0) (.s _ rfl)
  .have M:=(aA.rd.1.drop off).take l.length;rw[hl] at M;exact aU.pure hm (Ul hs hd M) (.s _ rfl)
theorem acd(hm:aL P F m β w){src dst:TypeId}{k k':IntKind}{n:Int}{v:Value}(hx:R F β w (.s (.int k n)) v)(hs:P.underlying src=some (.int k'))(hd:fA P dst=true)(h0:0<=n)(h1:n<128):
 aU P F m nx β w { pre:=True,val:=.s (.string (mkStr [n])) } (do Pure.pure (Next.value (<- convert src dst v))):=by
 obtain⟨rfl,_⟩:=hx.cI;refine aU.pure hm (v:=.string (mkStr [n])) ?_ (.s _ rfl)
 have hv:Utf8.encode n=mkStr [n]:=by
  have h2:n.toNat<128:=by omega
  have C:Utf8.valid n=true:=by
   unfold Utf8.valid;simp;omega
  unfold Utf8.encode;simp only[C,if_true,if_pos h2];simp[mkStr]
 simp[convert,run_underlying hs,run_underlying (xH hd),Conv.intToString,hv]
theorem ad8(hm:aL P F m β w){t:TypeId}{es:List D}{n:Nat}{k k':IntKind}{v J C:Value}(hx:R F β w (.sl es n) v)(hh:R F β w (.s (.int k n)) J)(hc:R F β w (.s (.int k' n)) C)(ht:bh P t=true)(hn:n*P.cellsOf (aE P t)=es.length):
 aU P F m nx β w { pre:=True,val:=.sc es n } (do Pure.pure (Next.value (<- Instr.sliceAt t v none (some J) (some C)))):=by
 obtain⟨rfl,_⟩:=hh.cI;obtain⟨rfl,_⟩:=hc.cI;obtain⟨hu,he⟩:=jD ht;rcases hx.wc with⟨rfl,rfl,a,cap,rfl⟩|⟨b,o,cap,rfl,O,U,X,g4,g5,M⟩
 .have hb:=xE (P:=P) (w:=w) 0 cap (kh:=k) (km:=k') (lo:=none) (l:=0) (h:=0) (k:=0) (.inl ⟨rfl,rfl⟩) oG oG oG oG;refine aU.val hm (v:=.slice a 0 0) ?_ (.sc [] 0 a (.jy a 0));simp[pq hu,Instr.slice,run_underlying hu,hb,gJ w (ia he)]
 .have hb:=xE (P:=P) (w:=w) n cap (kh:=k) (km:=k') (lo:=none) (l:=0) (h:=n) (k:=n) (.inl ⟨rfl,rfl⟩) oG oG oG oG;refine aU.val hm (v:=.slice (if n=0 then some ⟨b,o,none⟩ else some ⟨b,o,none⟩) n n) ?_ ?_
  .simp[pq hu,Instr.slice,run_underlying hu,hb,gJ w (ia he),Addr.add_lit]
  .obtain⟨us,r1,r2⟩:=M;simp only[ite_self];exact .sc es n _ (.sl es n b o n us X g4 g5 (bM _) (Nat.le_trans O U) r1 r2)
theorem ace(hm:aL P F m β w){t:TypeId}{k k':IntKind}{v J C:Value}(hx:R F β w .z v)(hh:R F β w (.s (.int k 0)) J)(hc:R F β w (.s (.int k' 0)) C)(ht:bh P t=true):
 aU P F m nx β w { pre:=True,val:=.z } (do Pure.pure (Next.value (<- Instr.sliceAt t v none (some J) (some C)))):=by
 obtain⟨rfl,_⟩:=hh.cI;obtain⟨rfl,_⟩:=hc.cI;rw[hx.yD];obtain⟨hu,he⟩:=jD ht;have hb:=xE (P:=P) (w:=w) 0 0 (kh:=k) (km:=k') (lo:=none) (l:=0) (h:=0) (k:=0) (.inl ⟨rfl,rfl⟩) oG oG oG oG;refine aU.val hm (v:=.slice none 0 0) ?_ .z;simp[pq hu,Instr.slice,run_underlying hu,hb,gJ w (ia he)]
theorem acf(hm:aL P F m β w){t:TypeId}{i off n:Nat}{cs:List D}{e:TypeId}{k k':IntKind}{v O M:Value}(hx:R F β w (.rs i off n) v)(hi:m i=some (.cells cs e))(hh:R F β w (.s (.int k n)) O)(hc:R F β w (.s (.int k' n)) M)(ht:bh P t=true)(hl:off+n*P.cellsOf e=cs.length){rd:List Nat}:
 aU P F m nx β w { pre:=True,val:=.rs i off n,rd:=rd } (do Pure.pure (Next.value (<- Instr.sliceAt t v none (some O) (some M)))):=by
 obtain⟨rfl,_⟩:=hh.cI;obtain⟨rfl,_⟩:=hc.cI;obtain⟨hu,he⟩:=jD ht;rcases hx.xU hm hi with⟨h1,h2,C,h4,a,rfl⟩|⟨b,o,room,J,aA,⟨C,a,rfl⟩|⟨cap,rfl,U,X,g3,g4⟩⟩
 .subst h2 C;have hb:=xE (P:=P) (w:=w) 0 0 (kh:=k) (km:=k') (lo:=none) (l:=0) (h:=0) (k:=0) (.inl ⟨rfl,rfl⟩) oG oG oG oG;refine aU.val hm (v:=.slice a 0 0) ?_ (.jO i a h4);simp[pq hu,Instr.slice,run_underlying hu,hb,gJ w (ia he)]
 .subst C;have hb:=xE (P:=P) (w:=w) 0 0 (kh:=k) (km:=k') (lo:=none) (l:=0) (h:=0) (k:=0) (.inl ⟨rfl,rfl⟩) oG oG oG oG;refine aU.val hm (v:=.slice a 0 0) ?_ (.kO i off a b o cs.length room (P.cellsOf e) J);simp[pq hu,Instr.slice,run_underlying hu,hb,gJ w (ia he)]
 .have hb:=xE (P:=P) (w:=w) n cap (kh:=k) (km:=k') (lo:=none) (l:=0) (h:=n) (k:=n) (.inl ⟨rfl,rfl⟩) oG oG oG oG;refine aU.val hm (v:=.slice (if n=0 then some ⟨b,o+off,none⟩ else some ⟨b,o+off,none⟩) n n) ?_ ?_
  .simp[pq hu,Instr.slice,run_underlying hu,hb,gJ w (ia he),Addr.add_lit]
  .simp only[ite_self];cases aA with
   |cells _ _ _ _ _ _ c tH uF hlen bS hh=>exact .rs i off n n b o cs.length room (P.cellsOf e) J (bM _) (Nat.le_trans U X) oG oG
theorem Vx(b:ByteArray):Rl F β w (gf b) (Lib.strCells b):=by
 refine⟨by simp[gf,Lib.strCells],fun k d u hk hu=>?_⟩;simp only[gf,Lib.strCells,List.getElem?_map,dI] at hk hu;obtain⟨x,h1,rfl⟩:=hk;obtain⟨y,h2,rfl⟩:=hu;rw[h1] at h2;cases h2;exact⟨.s _ rfl,rfl⟩
theorem Um{t u ty:TypeId}(ht:p0 P t)(hu:fA P u=true)(b:ByteArray):Src P w t u ty (aE P t) (.string b) b.size (Lib.strCells b):=by
 obtain⟨J,cE⟩:=jD ht.1;obtain⟨i,d,z,hi,hd,hz,_,kU,_,bS,hb,_⟩:=sG cE;have iE:i.size=1:=bS.trans ht.2.2;have hlen:=Lib.strCells_length b;have C:=xH hu;refine⟨by rw[hlen,ht.2.2,Nat.mul_one],fun hk a0 n cap M=>?_,fun hk a0 n cap iu z' O od wg h0 wV hg dO lK=>?_,fun hk g o n cap cur OG uF U nA=>?_⟩
 .have hf:=Lib.run_firstCells_string (P:=P) w 1 b;have CZ:b=.empty:=by rw[ByteArray.size_eq_zero_iff] at hk;exact hk
  subst CZ;cases a0<;>simp[Builtin.append_,run_underlying J,run_underlying C,sizeOf,typeInfo,hi,Builtin.lenOf,M,Builtin.firstCells,storeCells]
 .simp only[hi,Option.bind_some] at O;rw[hz] at O;cases O;simp only[maxLen] at dO;cases a0 with
  |some ad=>exact Lib.run_append_grow_string (P:=P) w t u ty _ i z J C hi hz ad n cap iu (by rw[iE,od,ht.2.2]) (wg ad rfl) b hg oG (growslice_fits oG (by rw[hb];exact lK))
  |none=>
   obtain⟨rfl,rfl⟩:=h0 rfl;have:iu=[]:=List.eq_nil_of_length_eq_zero (by simpa using od);subst this;have:=run_append_nil_string (P:=P) (w:=w) t u ty _ i z J C hi hz b hk oG (by rw[hb];simp at lK;omega);simp only[Nat.zero_add];rw[this];simp only[Lib.strCells];congr 3;apply Array.ext';simp
 .have hf:=Lib.run_firstCells_string (P:=P) w 1 b;rw[ht.2.2,Nat.mul_one] at U ⊢;have X:=run_storeCells_at P g (o+n) (aE P t) (Lib.strCells b) 0 cur w OG (by simpa[hlen] using U) (Lib.strCells_oneCell b);simp only[Nat.add_zero] at X;simp[Builtin.append_,run_underlying J,run_underlying C,sizeOf,typeInfo,hi,iE,Builtin.lenOf,uF,hf,Addr.add_lit,X]
theorem aba(hm:aL P F m β w){ts:Array TypeId}{ty:TypeId}{i off n:Nat}{r:Row}{v:Value}(hx:R F β w (.rs i off n) v)(hi:m i=some r)(hn:0<n){rd:List Nat}:
 aU P F m nx β w { pre:=True,val:=.rp i off,rd:=rd } (do Pure.pure (Next.value (<- Builtin.unsafeSliceData_ ts ty #[v]))):=by
 obtain⟨p,hp,aA⟩:=hm.row i _ hi;cases hx with
 |l9 _ _ _ _ h _=>rw[h] at hp;cases hp;exact absurd rfl aA.live
 |jO _ a h=>omega
 |kO _ _ a b o len room sz h=>omega
 |rs _ _ _ cap b o len room sz h h1 h2 C J=>
  exact aU.pure hm (Lib.run_unsafeSliceData_row w ts ty _ n cap oG) (.rp i off b o len room sz h)
theorem acg(hm:aL P F m β w){t ty:TypeId}{i:Nat}{es:List (Value×D)}{v:Value}(hx:R F β w (.mp i) v)(hi:m i=some (.map es))(ht:kM P t=true){rd:List Nat}:
 aU P F m nx β w { pre:=True,val:=.s (.int .i64 es.length),rd:=rd } (do Pure.pure (Next.value (<- Builtin.len_ #[t] ty #[v]))):=by
 obtain⟨r,ms,clock,_,rfl,hb,hl,_⟩:=hx.Er hm hi;have L:=Bf ht;refine aU.pure hm (v:=.int .i64 ms.size) ?_ (by rw[hl];exact .s _ rfl);simp[Builtin.len_,run_underlying L.1,run_getObj_map w r ms clock hb,goInt]
theorem Z5{e:TypeId}(hc:P.cellsOf e=1)(count off n:Nat)(hn:off+n<=count):liesAt P P.depth e count off e n=true:=by
 have hd:P.depth=(2*(P.types.size+Made.depth)+1)+1:=rfl;rw[hd];simp only[liesAt,Bool.or_eq_true];left;rw[hd];simp[rowAt,hc,hn,sameLayout,Nat.mod_one]
theorem ad9(pt U ty e:TypeId)(hp:P.underlying pt=some (.pointer e))(hc:P.cellsOf e=1)(g o cells:Nat)(p8:w.shape? g=some (e,cells))(l:List UInt8)(h0:l≠[])(hn:o+l.length<=cells)(YT:l.length<=9223372036854775807)
 (C:∀ j x,l[j]? =some x->w.cell? ((⟨g,o,none⟩:Addr).add j)=some (.int .u8 x.toNat)) (k:IntKind):
 (Builtin.unsafeString_ #[pt,U] ty #[.pointer (some ⟨g,o,none⟩),.int k l.length]).run P w=.ok (.string ⟨l.toArray⟩) (w.freeze ⟨g,o,none⟩ l.length):=by
 have hl:l.length≠0:=by simpa using h0
 have O:=Lib.run_loadBytes (P:=P) w l ⟨g,o,none⟩ .empty C;have J:=Z5 (P:=P) hc (cells / P.cellsOf e) o l.length (by rw[hc];simpa using hn);have M:¬ (9223372036854775807:Int)<(l.length:Int):=by omega
 have X:Builtin.unsafeString_ #[pt,U] ty #[.pointer (some ⟨g,o,none⟩),.int k l.length]=
  (do
   let n<- asInt (.int k l.length)
   if n<0 then runtimePanic (.error "unsafe.String: len out of range")
   if n>IntKind.i64.max then unsupported (.unsafePointer "String: a length above the largest int")
   if n=0 then pure (.string .empty)
   else if<- variablesAt ⟨g,o,none⟩ (<- elemOf pt) n.toNat then do
    let s<- loadBytes ⟨g,o,none⟩ .empty n.toNat
    freeze ⟨g,o,none⟩ n.toNat
    pure (.string s)
   else unsupported (.unsafePointer "String: not so many bytes at ptr")):=rfl
 rw[X];have dO:IntKind.i64.max=9223372036854775807:=rfl;have OI:¬ (l.length:Int)<0:=by omega
 simp[asInt,asIntOf,dO,M,OI,hl,variablesAt,p8,elemOf,run_underlying hp,J,O]
theorem Ri(w:World)(a:Addr)(n k:Nat)(h:k≠a.block):(w.freeze a n).heap[k]? =w.heap[k]? :=by
 unfold World.freeze;split
 .rfl
 .simp only[Array.getElem?_modify];rw[if_neg (fun e=>h e.symm)]
theorem aaD(w:World)(a:Addr)(n:Nat):(w.freeze a n).heap.size=w.heap.size:=by
 unfold World.freeze;split
 .rfl
 .simp
theorem abb(w:World)(a:Addr)(n:Nat):Out w (w.freeze a n):=by
 unfold World.freeze;split<;>exact⟨rfl,rfl⟩
theorem aaE(w:World)(a:Addr)(n b:Nat):pM w (w.freeze a n) b:=by
 by_cases hb:b=a.block
 .subst hb;unfold World.freeze;split
  .exact pM.refl w _
  .refine⟨fun o u hu=>?_,fun ms c hm=>?_⟩
   .simp only[World.cell?,Array.getElem?_modify,if_true] at hu ⊢;cases hh:w.heap[a.block]? with
    |none=>rw[hh] at hu;simp at hu
    |some C=>
     rw[hh] at hu;cases C<;>simp_all
   .simp only[Array.getElem?_modify,if_true,hm,Option.map_some]
 .exact zy (Ri w a n b hb)
theorem aaF(hm:aL P F m β w){i:Nat}{p:Pl}{a:Addr}(hp:β i=some p)(hb:p.bF=some a.block)(n:Nat):
 aL P F (up m i none) (up β i (some .dead)) (w.freeze a n)/\Step β w (up β i (some .dead)) (w.freeze a n):=by
 have U:=Bd β w i;have C:=hm.dead i;have M:=aaD w a n;have ho:=Ri w a n
 have hs:Step β w (up β i (some .dead)) (w.freeze a n):=⟨oG,fun k hk hf=>⟨ho k fun e=>hf i p hp (e▸hb),(U.fp k hk hf).2⟩,U.iR,abb w a n,fun j r hj O=>px (ho r fun e=>by
  have:=hm.inj j i _ p a.block hj hp (by simp[Pl.bF,e]) hb;subst this;rw[an] at O
  cases O)⟩
 have X:∀ j q,up β i (some .dead) j=some q->∀ c,q.bF=some c->c≠a.block:=fun j q hq c hc e=>by
  by_cases hj:j=i
  .subst hj;rw[an] at hq;cases hq;simp[Pl.bF] at hc
  .rw[aZ _ _ hj] at hq;exact hm.sE hp hb hq hj (e▸hc)
 refine⟨⟨fun j r hj=>?_,C.inj,fun j q c hq hc=>by rw[M];exact C.lt j q c hq hc,C.nf,C.fb.next (fun c hc=>by rw[M];exact C.fb.lt c hc) (fun _ h=>h) fun t _ J=>ho _ fun e=>hm.nf i p _ hp hb (e▸J)⟩,hs⟩;obtain⟨q,hq,aA⟩:=C.row j r hj;exact⟨q,hq,aA.gen oG (fun c _ J hf=>⟨aaE w a n c,hf,J⟩) (fun _ _ _ h=>.inl h) fun c hc=>ho c (X j q hq c hc)⟩
theorem ach(hm:aL P F m β w){t u ty e:TypeId}{l:List Int}{i off:Nat}{cs:List D}{k:IntKind}{O M:Value}(hp:R F β w (.rp i off) O)(hn:R F β w (.s (.int k l.length)) M)(hi:m i=some (.cells cs e))(hl:(cs.drop off).take l.length=la l)(h0:l≠[])
 (ht:P.underlying t=some (.pointer e)) (he:P.cellsOf e=1) (dO:l.length<=maxLen) (hr:∀ x∈l,0<=x/\x<256) {rd:List Nat}:
 aU P F m nx β w { pre:=True,val:=.s (.string (mkStr l)),a7:=[(i,none)],rd:=rd } (do Pure.pure (Next.value (<- Builtin.unsafeString_ #[t,u] ty #[O,M]))):=by
 obtain⟨rfl,_⟩:=hn.cI;obtain⟨b,o,room,sz,J,rfl,aA⟩:=hp.Iv hm hi;obtain⟨c,h1,h2⟩:=((aA.rd.1.drop off).take l.length).Cq;rw[hl] at h1;have hc:=LQ h1;subst hc;cases aA with
 |cells _ _ _ _ _ _ U tH uF hlen bS hh=>
 have me:l.length<=cs.length - off:=by
  have:=congrArg List.length hl;simp[la] at this;omega
 have og:0<l.length:=List.length_pos_iff.2 h0
 have C:=ad9 (P:=P) (w:=w) t u ty e ht he b (o+off) U.size (by simp[World.shape?,tH]) (l.map fun n=>UInt8.ofNat n.toNat) (by simpa using h0) oP (by simp[maxLen] at dO ⊢;omega) (fun j x hx=>by
  simp only[List.getElem?_map,dI] at hx;obtain⟨n,hn,rfl⟩:=hx;have hb:=hr n (cx hn);rw[h2 j (.int .u8 n) (by simp[hn])];have:(UInt8.ofNat n.toNat).toNat=n.toNat:=by simp;omega
  rw[this,Int.toNat_of_nonneg hb.1]) k
 simp only[List.length_map] at C;obtain⟨X,q2⟩:=aaF hm (a:=⟨b,o+off,none⟩) J rfl l.length;refine⟨_,.string (mkStr l),_,_,by simp only[Sem.run_bind,C,Result.andThen_ok,Sem.run_pure];rfl,.inl rfl,.s _ rfl,X,q2,fun j hj _=>?_⟩;rw[aZ _ _ fun e=>by rw[e,J] at hj;cases hj];exact hj
theorem Vy(hm:aL P F m β w)(hn:β nx=none){t:TypeId}{x:D}{v:Value}(hs:P.cellsOf t=2)(hx:R F β w x v)(h1:v.oneCell'=true):
 aL P F (up m nx (some (.bs false x t))) (up β nx (some (.cells w.heap.size 0 2 2 2))) (w.alloc (.cells #[.pointer none,v] t))/\Step β w (up β nx (some (.cells w.heap.size 0 2 2 2))) (w.alloc (.cells #[.pointer none,v] t)):=by
 have C:=Bb hm (.cells #[.pointer none,v] t) hn (.cells w.heap.size 0 2 2 2) (fun b hb=>by simp[Pl.bF] at hb;exact hb.symm);exact⟨hm.alloc hn _ _ _ (fun b hb=>by simp[Pl.bF] at hb;exact hb.symm) (.bs false x t _ v (heap_alloc_new w _) hs (hx.step C) h1),C⟩
theorem aci(hm:aL P F m β w)(hn:β nx=none){t:TypeId}{c d:D}{v:Value}(hc:c.cells=[.s (.pointer none),d])(hd:d.one=true)(hs:P.cellsOf t=2)(hx:R F β w c v):
 aU P F m nx β w { pre:=True,val:=.rp nx 0,a7:=[(nx,some (.bs false d t))],new:=1 } (do Pure.pure (Next.value (<- Instr.box t v))):=by
 have U:c.cells.all D.one=true:=by rw[hc];simp only[List.all_cons,List.all_nil,hd];rfl
 obtain⟨C,J,c3⟩:=hx.cells U;rw[hc] at C J
 have h0:∃ M O,v.cells= #[M,O]:=by
  obtain⟨l,hl⟩:∃ l,v.cells=⟨l⟩:=⟨v.cells.toList,rfl⟩
  rw[hl] at C ⊢
  match l,C with
  |[a,b],_=>exact⟨a,b,rfl⟩
 obtain⟨M,O,hv⟩:=h0;obtain⟨q0,_⟩:=J 0 (.s (.pointer none)) M rfl (by simp[hv]);obtain⟨q1,q2⟩:=J 1 d O rfl (by simp[hv]);obtain⟨rfl,_⟩:=q0.cI;obtain⟨h2,X⟩:=Vy hm hn hs q1 q2;refine⟨_,_,_,_,by simp[Instr.box,GN,hv];rfl,.inl rfl,?_,h2,X,xI⟩;exact .rp nx 0 w.heap.size 0 _ _ _ (an _ _ _)
theorem aaG(hm:aL P F m β w)(hn:β nx=none){t:TypeId}(ht:aO P t=true)(hz:bq P t=[.s (.pointer none),.z]):
 aU P F m nx β w { pre:=True,val:=.rp nx 0,a7:=[(nx,some (.bs false .z t))],new:=1 } (do Pure.pure (Next.value (<- Instr.alloc t true (.tuple #[])))):=by
 obtain⟨z,ss,kU,U,X⟩:=A9 (P:=P) w ht;obtain⟨C,J⟩:=BQ (F:=F) (β:=β) (w:=w) U X;rw[hz] at C J
 have h0:∃ M O,z.cells= #[M,O]:=by
  obtain⟨l,hl⟩:∃ l,z.cells=⟨l⟩:=⟨z.cells.toList,rfl⟩
  rw[hl] at C ⊢
  match l,C with
  |[a,b],_=>exact⟨a,b,rfl⟩
 obtain⟨M,O,hv⟩:=h0;obtain⟨q0,_⟩:=J 0 (.s (.pointer none)) M rfl (by simp[hv]);obtain⟨q1,q2⟩:=J 1 .z O rfl (by simp[hv]);obtain⟨rfl,_⟩:=q0.cI;have hs:P.cellsOf t=2:=by rw[<- kU,hv];rfl
 obtain⟨h5,h6⟩:=Vy hm hn hs q1 q2;refine⟨_,_,_,_,by simp[Instr.alloc,ss,GN,hv];rfl,.inl rfl,?_,h5,h6,xI⟩;exact .rp nx 0 w.heap.size 0 _ _ _ (an _ _ _)
theorem MV(hm:aL P F m β w){i off:Nat}{u:Bool}{x:D}{T:TypeId}{a:Value}(ha:R F β w (.rp i off) a)(hi:m i=some (.bs u x T)):
 ∃ b v,β i=some (.cells b 0 2 2 2)/\a=.pointer (some ⟨b,0+off,none⟩)/\w.heap[b]? =some (.cells #[.pointer (if u then some ⟨b,0,none⟩ else none),v] T (0,0))/\P.cellsOf T=2/\R F β w x v/\v.oneCell'=true:=by
 obtain⟨p,hp,aA⟩:=hm.row i _ hi;cases aA with
 |bs _ _ _ b v hb hs hx h1=>
 cases ha with
 |tw _ _ _ h _=>rw[h] at hp;cases hp
 |rp _ _ C o len room sz h=>
  rw[h] at hp;cases hp;exact⟨b,v,h,rfl,hb,hs,hx,h1⟩
theorem abc(hm:aL P F m β w){t:TypeId}{i:Nat}{u:Bool}{x:D}{T:TypeId}{a:Value}(ha:R F β w (.rp i 1) a)(hi:m i=some (.bs u x T))(ht:aO P t=true)(hg:bI P t=false){rd:List Nat}:
 aU P F m nx β w { pre:=True,val:=x,rd:=rd } (do Pure.pure (Next.value (<- Instr.loadAt t a))):=by
 obtain⟨b,v,_,rfl,hb,_,hx,h1⟩:=MV hm ha hi;refine aU.pure hm (v:=v) ?_ hx;have hc:w.cell? ⟨b,0+1,none⟩=some v:=by simp[World.cell?,hb]
 simp[Instr.loadAt,Instr.sureAddr,loadVar,DL w (Bm ht),hg,hc]
theorem aaH(hm:aL P F m β w){t:TypeId}{i:Nat}{u:Bool}{x d:D}{T:TypeId}{a y:Value}(ha:R F β w (.rp i 1) a)(hy:R F β w d y)(hi:m i=some (.bs u x T))(ht:aO P t=true)(hg:bI P t=false)(hd:d.one=true){rd:List Nat}:
 aU P F m nx β w { pre:=True,val:=.bd [],a7:=[(i,some (.bs u d T))],rd:=rd } (do Instr.storeAt t a y;Pure.pure Next.skip):=by
 obtain⟨b,v,O,rfl,hb,hs,hx,h1⟩:=MV hm ha hi;have C:y.oneCell'=true:=hy.one hd;obtain⟨_,_,_,_,_,_,U,_⟩:=sG ht;have wg:y.cells= #[y]:=by cases y<;>first|rfl|simp[Value.oneCell'] at C
 have J:=run_storeCells_at P b 1 T [y] 0 #[.pointer (if u then some ⟨b,0,none⟩ else none),v] w hb oS (by simpa using C)
 have X:(storeVar t ⟨b,0+1,none⟩ y).run P w=.ok () (w.setRow b #[.pointer (if u then some ⟨b,0,none⟩ else none),y]):=by
  simp only[storeVar];simp only[Nat.add_zero] at J;simp[gJ w (ia ht),U hg,wg,J]
 have yd:=setRow_heap w b #[.pointer (if u then some ⟨b,0,none⟩ else none),v] #[.pointer (if u then some ⟨b,0,none⟩ else none),y] T (0,0) hb;have ho:∀ k,k≠b->(w.setRow b #[.pointer (if u then some ⟨b,0,none⟩ else none),y]).heap[k]? =w.heap[k]? :=fun k hk=>setRow_other w b k _ hk;have bS:(w.setRow b #[.pointer (if u then some ⟨b,0,none⟩ else none),y]).heap.size=w.heap.size:=by simp
 have M:=DI hm O rfl oG ho;have iB:=hm.write O rfl bS ho (.bs u d T) (.bs u d T b y yd hs (hy.step M) C);exact⟨.skip,undef,_,β,by simp[Instr.storeAt,Instr.sureAddr,X],.inr ⟨rfl,rfl⟩,.bd [] [] rfl oS,iB,M,fun _ h _=>h⟩
theorem ad'(hm:aL P F m β w){t:TypeId}{x:Value}{lo hi:Option Value}{l h:Option D}(hx:R F β w .z x)(jB:fx l 0=some 0)(nE:fx h 0=some 0)(hl:∀ d,l=some d->∃ v,lo=some v/\R F β w d v)(M:l=none->lo=none)(hh:∀ d,h=some d->∃ v,hi=some v/\R F β w d v)(O:h=none->hi=none)(ht:bh P t=true):
 aU P F m nx β w { pre:=True,val:=.z } (do Pure.pure (Next.value (<- Instr.sliceAt t x lo hi none))):=by
 rw[hx.yD];obtain⟨hu,he⟩:=jD ht
 have su:∀ {o:Option D} {y:Option Value},fx o 0=some 0->(∀ d,o=some d->∃ v,y=some v/\R F β w d v)->(o=none->y=none)->(y=none/\(0:Int)=0)\/∃ J,y=some (.int J 0):=fun {o y} h1 h2 C=>by
  cases o with
  |none=>exact .inl ⟨C rfl,rfl⟩
  |some d=>
   obtain⟨v,rfl,hv⟩:=h2 d rfl;right;unfold fx at h1;simp only[D.int?] at h1;split at h1
   .rename_i k n;simp only[aV] at h1;subst h1;exact⟨k,by rw[hv.cI.1]⟩
   .cases h1
 have hb:=zr (P:=P) (w:=w) true 0 0 (l:=0) (h:=0) (su jB hl M) (by simpa using su nE hh O) oG oG oG;refine aU.val hm (v:=.slice none 0 0) ?_ .z;simp[pq hu,Instr.slice,run_underlying hu,hb,gJ w (ia he)]
theorem acj(hm:aL P F m β w){t:TypeId}{d:D}{v u:Value}(hd:oZ d=some v)(hv:plain (.iface t v)=true)(ht:y3 P t=true)(hu:R F β w d u):
 aU P F m nx β w { pre:=True,val:=.s (.iface t v) } (do Pure.pure (Next.value (<- Instr.makeInterface t u))):=by
 rw[BP hd hu];refine aU.pure hm (v:=.iface t v) ?_ (.s _ hv);unfold y3 at ht;cases hh:P.underlying t with
 |none=>rw[hh] at ht;cases ht
 |some x=>
  rw[hh] at ht;cases x<;>first|(cases ht;done)|simp[Instr.makeInterface,run_underlying hh]
theorem aij{v:Value}{t:TypeId}(h:plain (.iface t v)=true):R F β w (YN v) v:=by
 cases v with
 |agg cs=>
  refine .agg (cs.toList.map .s) cs.toList oS fun k d u hd hu=>?_;simp only[List.getElem?_map,hu,Option.map_some,aV] at hd;subst hd;have h1:=bT.1 h u (cx hu);exact .s u (by cases u<;>first|exact h1|(simp[Ip] at h1;done))
 |iface=>simp[plain] at h
 |_=>exact .s _ h
theorem ack(hm:aL P F m β w){u t:TypeId}{v x:Value}(hx:R F β w (.s v) x)(hv:PJ v=true)(ht:y3 P t=true)(ho:aO P t=true)(hz:wW P t=true):
 aU P F m nx β w { pre:=True,val:=B7 P t v } (do Pure.pure (Next.value (<- Instr.typeAssert x u t true))):=by
 obtain⟨rfl,hp⟩:=hx.cI;obtain⟨z,C,J⟩:=HB (F:=F) (β:=β) (w:=w) ho hz
 have bd:∀ {a b:D} {y:Value} {g:Bool},R F β w a y->R F β w (.bd [a,.s (.bool g)]) (.tuple #[y,.bool g]):=fun {a b y g} h=>
  .bd [a,.s (.bool g)] [y,.bool g] rfl fun k d u hd hu=>by
   match k with
   |0=>simp at hd hu;subst hd;subst hu;exact h
   |1=>simp at hd hu;subst hd;subst hu;exact .s _ rfl
   |k+2=>simp at hd
 unfold y3 at ht;cases hh:P.underlying t with
 |none=>rw[hh] at ht;cases ht
 |some q=>
  rw[hh] at ht;have hq:∀ want,q≠ .interface want:=fun want e=>by rw[e] at ht;cases ht
  cases x with
  |iface k y=>
   by_cases hk:k=t
   .subst hk;refine aU.pure hm (v:=.tuple #[y,.bool true]) ?_ (by simp only[B7,if_true];exact bd (b:=.u) (aij hp));simp only[Instr.typeAssert,Sem.run_bind,run_underlying hh,Result.andThen_ok];cases q<;>first|exact absurd rfl (hq _)|simp
   .refine aU.pure hm (v:=.tuple #[z,.bool false]) ?_ (by simp only[B7,if_neg hk];exact bd (b:=.u) J);simp only[Instr.typeAssert,Sem.run_bind,run_underlying hh,Result.andThen_ok];cases q<;>first|exact absurd rfl (hq _)|simp[hk,C]
  |nilIface=>
   refine aU.pure hm (v:=.tuple #[z,.bool false]) ?_ (by simp only[B7];exact bd (b:=.u) J);simp only[Instr.typeAssert,Sem.run_bind,run_underlying hh,Result.andThen_ok];cases q<;>first|exact absurd rfl (hq _)|simp[C]
  |_=>cases hv
theorem acm(hm:aL P F m β w){t ty:TypeId}{i off n k:Nat}{cs news:List D}{y:D}{p:Prop}{rd YU:List Nat}{a b:Value}(ha:R F β w (.rs i off n) a)(hi:m i=some (.cells cs (aE P t)))(hb:R F β w y b)(hy:jC m (P.cellsOf (aE P t)) y=some (p,rd,k,news))(hp:p)
 (ht:bh P t=true) (hk:k<=n) (hl:off+n*P.cellsOf (aE P t)<=cs.length):
 aU P F m nx β w { pre:=True,val:=.s (.int .i64 k),a7:=[(i,some (.cells (fP cs off news) (aE P t)))],rd:=YU } (do Pure.pure (Next.value (<- Builtin.copy_ #[t,t] ty #[a,b]))):=by
 obtain⟨hu,cE⟩:=jD ht;obtain⟨a',M,c,rfl,C,O,JY,PN⟩:=RP hm hb hy hp (fun _ _ _ _ _ _ _=>.inr trivial);have fI:news.length=k*P.cellsOf (aE P t):=by rw[<- C.1,O]
 have X:Nat.min k n=k:=Nat.min_eq_left hk
 have YV:(Builtin.firstCells (P.cellsOf (aE P t)) k (.slice a' k M)).run P w=.ok c.toArray w:=by
  cases a' with
  |none=>rw[run_firstCells_none,(PN rfl).1]
  |some ad=>exact run_firstCells_some (cs:=c) (hl:=O) (h:=JY ad rfl) ..
 have dX:∀ (a0:Option Addr) (cap:Nat) (w':World),(∀ ad,a0=some ad->(storeCells ad c).run P w=.ok () w')->(a0=none->w'=w)->(Builtin.copy_ #[t,t] ty #[.slice a0 n cap,.slice a' k M]).run P w=.ok (.int .i64 k) w':=fun a0 cap w' h1 h2=>by
  cases a0 with
  |none=>rw[h2 rfl];simp[Builtin.copy_,Builtin.lenOf,run_underlying hu,gJ w (ia cE),X,YV,goInt]
  |some ad=>simp[Builtin.copy_,Builtin.lenOf,run_underlying hu,gJ w (ia cE),X,YV,goInt,h1 ad rfl]
 have n4:up m i (some (.cells cs (aE P t)))=m:=by
  funext j;by_cases hj:j=i
  .subst hj;rw[an,hi]
  .rw[aZ _ _ hj]
 have U:k=0->(∀ (a0:Option Addr) (cap:Nat),a=.slice a0 n cap->aU P F m nx β w { pre:=True,val:=.s (.int .i64 k),a7:=[(i,some (.cells (fP cs off news) (aE P t)))],rd:=YU } (do Pure.pure (Next.value (<- Builtin.copy_ #[t,t] ty #[a,.slice a' k M])))):=by
  rintro rfl a0 cap rfl;have FU:c=[]:=List.eq_nil_of_length_eq_zero (by rw[O];simp);have J:news=[]:=List.eq_nil_of_length_eq_zero (by rw[fI];simp);subst FU J;refine⟨.value (.int .i64 0),_,w,β,?_,.inl rfl,.s _ rfl,?_,Step.refl β w,fun _ h _=>h⟩
  .rw[Sem.run_bind,dX a0 cap w (fun ad _=>by simp[storeCells]) (fun _=>rfl)];rfl
  .have e:fP cs off []=cs:=by simp[fP]
   simp only[cQ,e,n4];exact hm
 rcases ha.xU hm hi with⟨_,_,J,_,a0,rfl⟩|⟨b',o,room,hβ,aA,pN⟩
 .subst J;exact U oG a0 0 rfl
 .rcases pN with⟨J,a0,rfl⟩|⟨cap,rfl,_⟩
  .subst J;exact U oG a0 0 rfl
  .have hle:news.length<=n*P.cellsOf (aE P t):=by rw[fI];exact Nat.mul_le_mul_right _ hk
   obtain⟨w',bH,iB,hs⟩:=KT (P:=P) hm hβ aA (off:=off) (ds:=news) (vs:=c) C.1 oG (fun u hu=>by
    obtain⟨j,hj⟩:=dR hu;have dK:j<news.length:=by rw[<- C.1];exact(bX.1 hj).1
    exact(C.2 j news[j] u (by simp[dK]) hj).2) fun j d u hd hu=>(C.2 j d u hd hu).1
   refine⟨.value (.int .i64 k),_,w',β,?_,.inl rfl,.s _ rfl,iB,hs,fun _ h _=>h⟩;rw[Sem.run_bind,dX _ cap w' (fun ad xc=>by cases xc;exact bH) (fun h=>by cases h)];rfl
theorem du.env{ρ J:Operand->D}{nx:Nat}{o:Op}{e:dJ}(hr:∀ x∈o.operands,J x=ρ x)(h:du P ρ m nx o e):du P J m nx o e:=by
 cases h with
 |add t p x y a b hx hy h=>exact .add t p x y a b ((hr x bR).trans hx) ((hr y bR).trans hy) h
 |B8 src dst x l hx hs hd=>exact .B8 src dst x l ((hr x bR).trans hx) hs hd
 |zU src dst x l i off cs e hx hi hl hs hd=>exact .zU src dst x l i off cs e ((hr x bR).trans hx) hi hl hs hd
 |rune src dst x k k' n hx hs hd h0 h1=>exact .rune src dst x k k' n ((hr x bR).trans hx) hs hd h0 h1
 |cut t x h c es n k k' hx hh hc ht hn=>exact .cut t x h c es n k k' ((hr x bR).trans hx) ((hr h bR).trans hh) ((hr c bR).trans hc) ht hn
 |zV c s x t es news n k p rd hc hs hx hp ht hn hk hz C hb=>
  refine .zV c s x t es news n k p rd hc ((hr s (by rw[hc];simp[Op.operands,Call.operands])).trans hs) ?_ hp ht hn hk hz C hb;rw[hr x (by rw[hc];simp[Op.operands,Call.operands])];exact hx
 |xN c s x t u b hc hs hx ht hu C hb=>exact .xN c s x t u b hc ((hr s (by rw[hc];simp[Op.operands,Call.operands])).trans hs) ((hr x (by rw[hc];simp[Op.operands,Call.operands])).trans hx) ht hu C hb
 |xQ c s x t u b i off n cs hc hs hx hi ht hu hf C hb=>exact .xQ c s x t u b i off n cs hc ((hr s (by rw[hc];simp[Op.operands,Call.operands])).trans hs) ((hr x (by rw[hc];simp[Op.operands,Call.operands])).trans hx) hi ht hu hf C hb
 |Ae c x t i es hc hx hi ht=>exact .Ae c x t i es hc ((hr x (by rw[hc];simp[Op.operands,Call.operands])).trans hx) hi ht
 |yf c s t i off n r hc hs hi hn=>exact .yf c s t i off n r hc ((hr s (by rw[hc];simp[Op.operands,Call.operands])).trans hs) hi hn
 |yC c p n t u e l i off cs k hc hp hn hi hl h0 ht he C M=>exact .yC c p n t u e l i off cs k hc ((hr p (by rw[hc];simp[Op.operands,Call.operands])).trans hp) ((hr n (by rw[hc];simp[Op.operands,Call.operands])).trans hn) hi hl h0 ht he C M
 |BN t hb ht hz=>exact .BN t hb ht hz
 |Af t x d hb hx hd hs=>exact .Af t x d hb (by rw[hr x bR];exact hx) hd hs
 |CV t x lo hi hx jB nE ht=>
  refine .CV t x lo hi ((hr x bR).trans hx) ?_ ?_ ht
  .cases lo with
   |none=>exact jB
   |some y=>simp only[Option.map_some] at jB ⊢;rw[hr y bR];exact jB
  .cases hi with
   |none=>exact nE
   |some y=>simp only[Option.map_some] at nE ⊢;rw[hr y bR];exact nE
 |Cm t x h c k k' hx hh hc ht=>exact .Cm t x h c k k' ((hr x bR).trans hx) ((hr h bR).trans hh) ((hr c bR).trans hc) ht
 |Cn t x h c i off n cs e k k' hx hi hh hc ht hl=>exact .Cn t x h c i off n cs e k k' ((hr x bR).trans hx) hi ((hr h bR).trans hh) ((hr c bR).trans hc) ht hl
 |Ag b op t p x gv hx ht=>exact .Ag b op t p x gv ((hr x bR).trans hx) ht
 |Ah b op t p x i off n cs e gv hx hi hn ht=>exact .Ah b op t p x i off n cs e gv ((hr x bR).trans hx) hi hn ht
 |mkIf t x v hx hv ht=>exact .mkIf t x v (by rw[hr x bR];exact hx) hv ht
 |Co x u t v hx hv ht ho hz=>exact .Co x u t v ((hr x bR).trans hx) hv ht ho hz
 |copy c x y t i off n k cs news p rd hc hx hi hy hp ht hk hl=>
  refine .copy c x y t i off n k cs news p rd hc ((hr x (by rw[hc];simp[Op.operands,Call.operands])).trans hx) hi ?_ hp ht hk hl;rw[hr y (by rw[hc];simp[Op.operands,Call.operands])];exact hy
 |zW t a i u x T ha hi ht hg=>exact .zW t a i u x T ((hr a bR).trans ha) hi ht hg
 |xR t a y i u x T ha hi ht hg hy=>
  rw[<- hr y bR];exact .xR t a y i u x T ((hr a bR).trans ha) hi ht hg (by rw[hr y bR];exact hy)
theorem du.mem{ρ:Operand->D}{m':Mem}{nx:Nat}{o:Op}{e:dJ}(h:du P ρ m nx o e)(hr:∀ i∈e.rd,m i≠none->m' i=m i):du P ρ m' nx o e:=by
 cases h with
 |add t p x y a b hx hy h=>exact .add t p x y a b hx hy h
 |B8 src dst x l hx hs hd=>exact .B8 src dst x l hx hs hd
 |zU src dst x l i off cs e hx hi hl hs hd=>exact .zU src dst x l i off cs e hx ((hr i oS (by simp[hi])).trans hi) hl hs hd
 |rune src dst x k k' n hx hs hd h0 h1=>exact .rune src dst x k k' n hx hs hd h0 h1
 |cut t x h c es n k k' hx hh hc ht hn=>exact .cut t x h c es n k k' hx hh hc ht hn
 |zV c s x t es news n k p rd hc hs hx hp ht hn hk hz C hb=>
  refine .zV c s x t es news n k p rd hc hs ?_ hp ht hn hk hz C hb;revert hx;unfold jC;split
  .exact id
  .exact id
  .intro hx;split at hx
   .rename_i J;cases hx;rw[hr _ oS (by simp[J]),J]
   .cases hx
  .exact id
 |xN c s x t u b hc hs hx ht hu C hb=>exact .xN c s x t u b hc hs hx ht hu C hb
 |xQ c s x t u b i off n cs hc hs hx hi ht hu hf C hb=>exact .xQ c s x t u b i off n cs hc hs hx ((hr i oS (by simp[hi])).trans hi) ht hu hf C hb
 |Ae c x t i es hc hx hi ht=>exact .Ae c x t i es hc hx ((hr i oS (by simp[hi])).trans hi) ht
 |yf c s t i off n r hc hs hi hn=>exact .yf c s t i off n r hc hs ((hr i oS (by simp[hi])).trans hi) hn
 |yC c p n t u e l i off cs k hc hp hn hi hl h0 ht he C M=>exact .yC c p n t u e l i off cs k hc hp hn ((hr i oS (by simp[hi])).trans hi) hl h0 ht he C M
 |BN t hb ht hz=>exact .BN t hb ht hz
 |Af t x d hb hx hd hs=>exact .Af t x d hb hx hd hs
 |CV t x lo hi hx jB nE ht=>exact .CV t x lo hi hx jB nE ht
 |Cm t x h c k k' hx hh hc ht=>exact .Cm t x h c k k' hx hh hc ht
 |Cn t x h c i off n cs e k k' hx hi hh hc ht hl=>exact .Cn t x h c i off n cs e k k' hx ((hr i oS (by simp[hi])).trans hi) hh hc ht hl
 |Ag b op t p x gv hx ht=>exact .Ag b op t p x gv hx ht
 |Ah b op t p x i off n cs e gv hx hi hn ht=>exact .Ah b op t p x i off n cs e gv hx ((hr i oS (by simp[hi])).trans hi) hn ht
 |mkIf t x v hx hv ht=>exact .mkIf t x v hx hv ht
 |Co x u t v hx hv ht ho hz=>exact .Co x u t v hx hv ht ho hz
 |copy c x y t i off n k cs news p rd hc hx hi hy hp ht hk hl=>
  refine .copy c x y t i off n k cs news p rd hc hx ((hr i oS (by simp[hi])).trans hi) ?_ hp ht hk hl;revert hy;unfold jC;split
  .exact id
  .exact id
  .intro hx;split at hx
   .rename_i J;cases hx;rw[hr _ oS (by simp[J]),J]
   .cases hx
  .exact id
 |zW t a i u x T ha hi ht hg=>exact .zW t a i u x T ha ((hr i oS (by simp[hi])).trans hi) ht hg
 |xR t a y i u x T ha hi ht hg hy=>exact .xR t a y i u x T ha ((hr i oS (by simp[hi])).trans hi) ht hg hy
theorem du.defer{ρ:Operand->D}{nx:Nat}{o:Op}{e:dJ}(h:du P ρ m nx o e):∀ c,o≠ .defer c:=by cases h<;>simp
theorem du.tidy{ρ:Operand->D}{nx:Nat}{o:Op}{e:dJ}(h:du P ρ m nx o e):
 (∀ i∈e.a7.map (·.1),m i≠none\/(nx<=i/\i<nx+e.new))/\(cM o=0->e.rd=[]/\e.a7=[])/\(cM o=1->e.a7=[])/\(cM o=3->e.rd=[]/\∀ i∈e.a7.map (·.1),nx<=i):=by
 cases h with
 |zV c s x t es news n k p rd hc hs hx hp ht hn hk hz C hb=>rw[hc];simp[cM]
 |xN c s x t u b hc hs hx ht hu C hb=>rw[hc];simp[cM]
 |xQ c s x t u b i off n cs hc hs hx hi ht hu hf C hb=>rw[hc];simp[cM,hi]
 |Ae c x t i es hc hx hi ht=>rw[hc];simp[cM]
 |yf c s t i off n r hc hs hi hn=>rw[hc];simp[cM]
 |yC c p n t u e l i off cs k hc hp hn hi hl h0 ht he C J=>rw[hc];simp[cM,hi]
 |xR t a y i u x T ha hi ht hg hy=>simp[cM,hi]
 |Ag b op t p x gv hx ht=>subst gv;cases b<;>simp[cM]
 |Ah b op t p x i off n cs e gv hx hi hn ht=>subst gv;cases b<;>simp[cM]
 |copy c x y t i off n k cs news p rd hc hx hi hy hp ht hk hl=>rw[hc];simp[cM,hi]
 |_=>simp[cM]
theorem abd(hm:aL P F m β w){o:Oper}{env:Env}{a:Act}{e:dJ}(hn:e.new=1->β nx=none)(hE:gP F β w env a)(ha:asks env o.op)(h:du P (bn env o.op) m nx o.op e):aU P F m nx β w e (execOp a.eval o):=by
 obtain⟨dst,op,type,pos,after,guard⟩:=o;simp only at ha h
 have hR:(∀ c x y,op≠ .pick c x y)->∀ x∈op.operands.toList,R F β w (bn env op x) (a.eval x):=fun FV x hx=>by
  have h1:bn env op x=(opd env x).core:=by cases op<;>first|rfl|exact absurd rfl (FV _ _ _)
  have h2:(opd env x).ask:=by cases op<;>first|exact ha x hx|exact absurd rfl (FV _ _ _)
  rw[h1];exact(hE.opd x).xL _ h2
 have call:∀ (b:Builtin) (s x:Operand) (ts:Array TypeId) (q:Sem Next),op=.call { callee:=.builtin b,args:= #[s,x],argTypes:=ts }->(∀ cs,builtin b ts type cs #[a.eval s,a.eval x]=q)->aU P F m nx β w e q->aU P F m nx β w e (execOp a.eval ⟨dst,op,type,pos,after,guard⟩):=by
  intro b s x ts q ho hb hq;subst ho;obtain⟨n,v,w',β',h1,h2⟩:=hq;refine⟨n,v,w',β',?_,h2⟩;unfold execOp;simp only[resolve,Sem.run_bind,Sem.run_pure,Result.andThen_ok,invoke];have M:(#[s,x]:Array Operand).map a.eval= #[a.eval s,a.eval x]:=by simp
  rw[M,hb];exact h1
 have Wy:∀ (b:Builtin) (s:Operand) (ts:Array TypeId) (q:Sem Next),op=.call { callee:=.builtin b,args:= #[s],argTypes:=ts }->(∀ cs,builtin b ts type cs #[a.eval s]=q)->aU P F m nx β w e q->aU P F m nx β w e (execOp a.eval ⟨dst,op,type,pos,after,guard⟩):=by
  intro b s ts q ho hb hq;subst ho;obtain⟨n,v,w',β',h1,h2⟩:=hq;refine⟨n,v,w',β',?_,h2⟩;unfold execOp;simp only[resolve,Sem.run_bind,Sem.run_pure,Result.andThen_ok,invoke];have M:(#[s]:Array Operand).map a.eval= #[a.eval s]:=by simp
  rw[M,hb];exact h1
 cases h with
 |add t p x y b c hx hy h=>
  have C:=hR oS x bR;have qy:=hR oS y bR;rw[hx] at C;rw[hy] at qy;obtain⟨M,_⟩:=C.cI;obtain⟨e2,_⟩:=qy.cI;unfold execOp;refine aU.val hm (v:=.string (b++c)) ?_ (.s _ rfl);simp only[M,e2,Sem.run_bind,vE .add t x y (.string b) (.string c) oS oS,Result.andThen_ok,binOp_string_add,run_string_add_sum w b c (by simp[maxLen] at h;omega),Sem.run_pure]
 |B8 src dst x l hx hs hd=>
  have C:=hR oS x bR;rw[hx] at C;exact aa9 hm C hs hd
 |zU src dst x l i off cs e hx hi hl hs hd=>
  have C:=hR oS x bR;rw[hx] at C;exact aa' hm C hi hl hs hd
 |rune src dst x k k' n hx hs hd h0 h1=>
  have C:=hR oS x bR;rw[hx] at C;exact acd hm C hs hd h0 h1
 |cut t x h c es n k k' hx hh hc ht O=>
  have C:=hR oS x bR;have qh:=hR oS h bR;have U:=hR oS c bR;rw[hx] at C;rw[hh] at qh;rw[hc] at U;exact ad8 hm C qh U ht O
 |zV c s x t es news n k p rd hc hs hx hp ht O hk hz gH hb=>
  have J:=hR oS s (by rw[hc];simp[Op.operands,Call.operands]);have C:=hR oS x (by rw[hc];simp[Op.operands,Call.operands]);rw[hs] at J;obtain⟨cc,dw,X⟩:=Lr (ty:=type) hm C hx hp ht hz;exact call .append s x _ _ (by rw[hc]) (fun _=>rfl) ((DE hm (hn rfl) dw X (jD ht).2 hz).2.1 es n J hk O gH hb)
 |xN c s x t u b hc hs hx ht hu gH hb=>
  have J:=hR oS s (by rw[hc];simp[Op.operands,Call.operands]);have C:=hR oS x (by rw[hc];simp[Op.operands,Call.operands]);rw[hs] at J;rw[hx] at C;obtain⟨M,_⟩:=C.cI;refine call .append s x _ _ (by rw[hc]) (fun _=>rfl) ?_;rw[M];exact(DE hm (hn rfl) (Vx b) (Um (ty:=type) ht hu b) (jD ht.1).2 (by rw[ht.2.2];omega)).1 J gH hb
 |xQ c s x t u b i off n cs hc hs hx hi ht hu hf gH hb=>
  have J:=hR oS s (by rw[hc];simp[Op.operands,Call.operands]);have C:=hR oS x (by rw[hc];simp[Op.operands,Call.operands]);rw[hs] at J;rw[hx] at C;obtain⟨M,_⟩:=C.cI;refine call .append s x _ _ (by rw[hc]) (fun _=>rfl) ?_;rw[M];exact(DE hm (hn rfl) (Vx b) (Um (ty:=type) ht hu b) (jD ht.1).2 (by rw[ht.2.2];omega)).2.2 i off n cs J hi (by rw[ht.2.2];omega) gH hb
 |Ae c x t i es hc hx hi ht=>
  have C:=hR oS x (by rw[hc];simp[Op.operands,Call.operands]);rw[hx] at C;exact Wy .len x _ _ (by rw[hc]) (fun _=>rfl) (acg hm C hi ht)
 |yf c s t i off n r hc hs hi O=>
  have J:=hR oS s (by rw[hc];simp[Op.operands,Call.operands]);rw[hs] at J;exact Wy .unsafeSliceData s _ _ (by rw[hc]) (fun _=>rfl) (aba hm J hi O)
 |yC c p n t u e l i off cs k hc hp O hi hl h0 ht he gH pb=>
  have qp:=hR oS p (by rw[hc];simp[Op.operands,Call.operands]);have qn:=hR oS n (by rw[hc];simp[Op.operands,Call.operands]);rw[hp] at qp;rw[O] at qn;exact call .unsafeString p n _ _ (by rw[hc]) (fun _=>rfl) (ach hm qp qn hi hl h0 ht he gH pb)
 |BN t hb ht hz=>exact aaG hm (hn rfl) ht hz
 |Af t x d hb hx hd hs=>exact aci hm (hn rfl) hx hd hs (hR oS x bR)
 |CV t x lo hi hx jB nE ht=>
  have C:=hR oS x bR;rw[hx] at C;refine ad' (lo:=lo.map a.eval) (hi:=hi.map a.eval) hm C jB nE ?_ ?_ ?_ ?_ ht
  .intro d hd;obtain⟨y,rfl,rfl⟩:=dI.1 hd;exact⟨_,rfl,hR oS y bR⟩
  .intro h;cases lo<;>first|rfl|cases h
  .intro d hd;obtain⟨y,rfl,rfl⟩:=dI.1 hd;exact⟨_,rfl,hR oS y bR⟩
  .intro h;cases hi<;>first|rfl|cases h
 |Cm t x h c k k' hx hh hc ht=>
  have C:=hR oS x bR;have qh:=hR oS h bR;have U:=hR oS c bR;rw[hx] at C;rw[hh] at qh;rw[hc] at U;exact ace hm C qh U ht
 |Cn t x h c i off n cs e k k' hx hi hh hc ht hl=>
  have C:=hR oS x bR;have qh:=hR oS h bR;have U:=hR oS c bR;rw[hx] at C;rw[hh] at qh;rw[hc] at U;exact acf hm C hi qh U ht hl
 |Ag b op t p x gv hx ht=>
  have C:=hR oS x bR;rw[hx] at C;have:=Sm (nx:=nx) (pre:=True) (rd:=[]) (ox:=x) (oy:=.const (.slice none 0 0)) (a:=none) (l:=0) (c:=0) hm ht gv;show aU P F m nx β w _ ((do eqGuard op t x (.const (.slice none 0 0)) (a.eval x) (.slice none 0 0);binOp op t (a.eval x) (.slice none 0 0))>>=fun r=>Pure.pure (Next.value r));rw[C.yD];exact this
 |Ah b op t p x i off n cs e gv hx hi O ht=>
  have C:=hR oS x bR;rw[hx] at C;show aU P F m nx β w _ ((do eqGuard op t x (.const (.slice none 0 0)) (a.eval x) (.slice none 0 0);binOp op t (a.eval x) (.slice none 0 0))>>=fun r=>Pure.pure (Next.value r));rcases C.xU hm hi with⟨_,_,h3,_⟩|⟨b',o,room,_,aA,⟨h3,_⟩|⟨cap,hv,_⟩⟩
  .omega
  .omega
  .have:=Sm (nx:=nx) (pre:=True) (rd:=[i]) (ox:=x) (oy:=.const (.slice none 0 0)) (a:=some ⟨b',o+off,none⟩) (l:=n) (c:=cap) hm ht gv;rw[hv];exact this
 |mkIf t x v hx hv ht=>exact acj hm hx hv ht (hR oS x bR)
 |Co x u t v hx hv ht ho hz=>
  have C:=hR oS x bR;rw[hx] at C;exact ack hm C hv ht ho hz
 |copy c x y t i off n k cs news p rd hc hx hi hy hp ht hk hl=>
  have C:=hR oS x (by rw[hc];simp[Op.operands,Call.operands]);have qy:=hR oS y (by rw[hc];simp[Op.operands,Call.operands]);rw[hx] at C;exact call .copy x y _ _ (by rw[hc]) (fun _=>rfl) (acm hm C hi qy hy hp ht hk hl)
 |zW t b i u x T hb hi ht hg=>
  have qa:=hR oS b bR;rw[hb] at qa;exact abc hm qa hi ht hg
 |xR t b y i u x T hb hi ht hg hy=>
  have qa:=hR oS b bR;have qy:=hR oS y bR;rw[hb] at qa;exact aaH hm qa qy hi ht hg hy
end
theorem Un{P:Program}{ops:Array Oper}{o:Oper}{st:St}{e:dJ}(O:gp ops o st true)(ha:asks st.env o.op)(h:du P (bn st.env o.op) st.mem st.nx o.op e):bL.Ok P ops o st ⟨e.val,e.a7,e.rd,e.new⟩:=by
 intro F β w a m env N he C hm hr hn U r n QX K M;have J:=zt he;refine Uo (m:=m) (nx:=st.nx) (β:=β) (F:=F) h.defer (O F β w a env he C) (abd hm (fun h1=>hn st.nx (bM _) (by simp[h1])) C (by rw[zv J];exact ha) ?_) M;exact(h.env (zz J)).mem hr
structure cK(P:Program)(F:Nat->Prop)(st:St)(β:aJ)(w:World)(a:Act):Prop where
 e:gP F β w st.env a
 m:aL P F st.mem β w
 n:∀ i,st.nx<=i->β i=none
structure eW(N:Nat)(β:aJ)(w:World)(a:Act)(st':St)(β':aJ)(w':World)(a':Act):Prop where
 step:Step β w β' w'
 le:N<=st'.nx
 grow:∀ i,i<N->β i=none->β' i=none
 size:a'.tmps.size=a.tmps.size
 defers:a'.defers=a.defers
theorem eW.trans{N:Nat}{β β₁ β₂:aJ}{w M O:World}{a C J:Act}{U X:St}(h:eW N β w a U β₁ M C)(k:eW U.nx β₁ M C X β₂ O J):eW N β w a X β₂ O J:=
 ⟨h.step.trans k.step,Nat.le_trans h.le k.le,fun i hi hn=>k.grow i (Nat.lt_of_lt_of_le hi h.le) (h.grow i hi hn),k.size.trans h.size,k.defers.trans h.defers⟩
theorem eW.refl(st:St)(β:aJ)(w:World)(a:Act):eW st.nx β w a st β w a:=⟨Step.refl β w,bM _,fun _ _ h=>h,rfl,rfl⟩
def ep(P:Program)(F:Nat->Prop)(N:Nat)(β:aJ)(w:World)(a:Act)(Q:Exit->St->Prop)(e:Exit)(a':Act)(w':World):Prop:=
 ∃ st' β',Q e st'/\cK P F st' β' w' a'/\eW N β w a st' β' w' a'
section
variable{P:Program}{F:Nat->Prop}{ops:Array Oper}{o:Oper}{st:St}{β:aJ}{w:World}{a:Act}
theorem DY(a:Act)(d:Option Nat)(v:Value):(a.put d v).tmps.size=a.tmps.size:=by
 cases d<;>simp[Act.put]
theorem put_defers(a:Act)(d:Option Nat)(v:Value):(a.put d v).defers=a.defers:=by
 cases d<;>rfl
theorem aa1(st:St)(d:Option Nat)(x:D):(st.put d x).env=(match d with|some t=>up st.env t x|none=>st.env):=by
 cases d<;>rfl
theorem RI(st:St)(d:Option Nat)(x:D):(st.put d x).mem=st.mem:=by cases d<;>rfl
theorem Be(st:St)(d:Option Nat)(x:D):(st.put d x).nx=st.nx:=by cases d<;>rfl
theorem cK.put{st':St}{β':aJ}{w':World}{d:Option Nat}{x:D}{v:Value}(he:gP F β' w' st'.env a)(hd:∀ t,d=some t->t<a.tmps.size)(hv:R F β' w' x v)(hm:aL P F st'.mem β' w')(hn:∀ i,st'.nx<=i->β' i=none):
 cK P F (st'.put d x) β' w' (a.put d v):=by
 refine⟨?_,by rw[RI];exact hm,by rw[Be];exact hn⟩;cases d with
 |none=>exact he
 |some t=>exact he.put (some t) x v hv hd
theorem GY{p:bL}(hp:p.Ok P ops o st)(hs:cK P F st β w a)(hd:∀ t,o.dst=some t->t<a.tmps.size)(r:Option Nat)(n:Nat)(QX:Exit->Act->World->Prop){K:Act->World->Prop}
 (M:∀ β' a' w',cK P F (St.put ⟨st.env,cQ st.mem p.a7,st.nx+p.new⟩ o.dst p.val) β' w' a'->eW st.nx β w a (St.put ⟨st.env,cQ st.mem p.a7,st.nx+p.new⟩ o.dst p.val) β' w' a'->K a' w'):
 mC r n P ops QX o K a w:=by
 refine hp F β w a st.mem st.env st.nx (fun _ _=>rfl) hs.e hs.m (fun _ _ _=>rfl) (fun i h _=>hs.n i h) hs.n r n QX K fun v w' β' h1 h2 C J=>?_;refine M β' _ w' (cK.put (st':=⟨st.env,cQ st.mem p.a7,st.nx+p.new⟩) (hs.e.step C) hd h1 h2 fun i hi=>J i (hs.n i (by simp only at hi;omega)) (.inr hi)) ⟨C,by rw[Be];simp,fun i hi hb=>J i hb (.inl hi),DY _ _ _,put_defers _ _ _⟩
theorem aeF{Y:gn}{dr:Bool}{K:St->List Nat->List Nat->Prop}(h:lq P Y ops dr o st K):
 (∃ p:bL,p.Ok P ops o st/\p.n3 (cM o.op) st/\K (St.put ⟨st.env,cQ st.mem p.a7,st.nx+p.new⟩ o.dst p.val) p.rd p.wr)\/
 (dr=false/\∃ f args,gp ops o st true/\asks st.env o.op/\ea (bn st.env o.op) o.op=some (f,args)/\gW P f args st.mem st.nx fun r m nx=>K (St.put ⟨st.env,m,nx⟩ o.dst r) [] [])\/
 (dr=false/\∃ l args,gp ops o st true/\asks st.env o.op/\pH (bn st.env o.op) o.op=some (l,args)/\Y l args st.mem st.nx fun r m nx=>K (St.put ⟨st.env,m,nx⟩ o.dst r) [] []):=by
 have X:∀ {x},ea (bn st.env o.op) o.op=some x->cM o.op=2:=fun {x} hx=>by
  cases ho:o.op with
  |call c=>
   rw[ho] at hx;simp only[ea] at hx;split at hx
   .rename_i f hf;unfold cM;split<;>first|rfl|(rename_i h1;cases h1;cases hf)|skip
    all_goals simp_all
   .cases hx
  |_=>rw[ho] at hx;simp[ea] at hx
 have J:∀ {x} (p:bL),ea (bn st.env o.op) o.op=some x->(∀ i∈p.wr,st.mem i≠none\/(st.nx<=i/\i<st.nx+p.new))->p.n3 (cM o.op) st:=fun {x} p hx C=>by
  have:=X hx;exact⟨C,oG,oG,oG⟩
 have call:∀ {f args},gp ops o st true->asks st.env o.op->ea (bn st.env o.op) o.op=some (f,args)->xS P dr st f args (fun r m nx rd wr=>K (St.put ⟨st.env,m,nx⟩ o.dst r) rd wr)->
  (∃ p:bL,p.Ok P ops o st/\p.n3 (cM o.op) st/\K (St.put ⟨st.env,cQ st.mem p.a7,st.nx+p.new⟩ o.dst p.val) p.rd p.wr)\/
  (dr=false/\∃ f args,gp ops o st true/\asks st.env o.op/\ea (bn st.env o.op) o.op=some (f,args)/\gW P f args st.mem st.nx fun r m nx=>K (St.put ⟨st.env,m,nx⟩ o.dst r) [] [])\/
  (dr=false/\∃ l args,gp ops o st true/\asks st.env o.op/\pH (bn st.env o.op) o.op=some (l,args)/\Y l args st.mem st.nx fun r m nx=>K (St.put ⟨st.env,m,nx⟩ o.dst r) [] []):=fun {f args} C ha hc hk=>by
  rcases hk with⟨r,h1,h2⟩|⟨fm,br,r,h1,h2,M,h4⟩|⟨es,n,t,h1,h2⟩|⟨h1,h2⟩|⟨r,a7,br,h1,h2,M⟩|⟨es,n,t,a7,br,h1,h2,M,h4⟩
  .exact .inl ⟨⟨r,[],[],0⟩,Mp C ha hc h1,J _ hc (by simp[bL.wr]),h2⟩
  .exact .inl ⟨⟨r,[],br,0⟩,Uu C ha hc h1 h2 M,J _ hc (by simp[bL.wr]),h4⟩
  .exact .inl ⟨⟨.rs st.nx 0 n,[(st.nx,some (.cells es t))],[],1⟩,VA C ha hc h1,J _ hc (by simp[bL.wr]),h2⟩
  .exact .inr (.inl ⟨h1,f,args,C,ha,hc,h2⟩)
  .exact .inl ⟨⟨r,a7,br,0⟩,ahn C ha hc h1,J _ hc fun i hi=>.inl (h2 i hi).2,M⟩
  .refine .inl ⟨⟨.rs st.nx 0 n,a7++[(st.nx,some (.cells es t))],br,1⟩,aeh C ha hc h1 h2 M,J _ hc fun i hi=>?_,?_⟩
   .simp only[bL.wr,List.map_append,List.mem_append,List.map_cons,List.map_nil,List.mem_singleton] at hi;rcases hi with hi|rfl
    .obtain⟨x,hx,rfl⟩:=List.mem_map.1 hi;obtain⟨r,hr,_⟩:=h1.1 _ (h1.2.1 x hx).1;exact .inl (by simp[hr])
    .exact .inr ⟨bM _,Nat.lt_succ_self _⟩
   .show K _ _ (bL.wr _);rw[LW,bL.wr,List.map_append];exact h4
 have op:∀ {e:dJ},gp ops o st true->asks st.env o.op->aW P o.op (bn st.env o.op) st.mem st.nx=some e->e.pre->K (St.put ⟨st.env,cQ st.mem e.a7,st.nx+e.new⟩ o.dst e.val) e.rd (e.a7.map (·.1))->
  (∃ p:bL,p.Ok P ops o st/\p.n3 (cM o.op) st/\K (St.put ⟨st.env,cQ st.mem p.a7,st.nx+p.new⟩ o.dst p.val) p.rd p.wr):=fun {e} C ha h hp hk=>by
  obtain⟨t1,t2,t3,t4⟩:=LV h;exact⟨⟨e.val,e.a7,e.rd,e.new⟩,MY C ha h hp,⟨t1,t2,t3,t4⟩,hk⟩
 have skip:∀ {d:D},gp ops o st false->(∀ F β w,R F β w d undef)->K (st.put o.dst d) [] []->
  (∃ p:bL,p.Ok P ops o st/\p.n3 (cM o.op) st/\K (St.put ⟨st.env,cQ st.mem p.a7,st.nx+p.new⟩ o.dst p.val) p.rd p.wr):=fun {d} C hd hk=>
  ⟨⟨d,[],[],0⟩,HC C d hd,⟨by simp[bL.wr],fun _=>⟨rfl,rfl⟩,fun _=>rfl,fun _=>⟨rfl,by simp[bL.wr]⟩⟩,hk⟩
 have O:∀ (F:Nat->Prop) β w,R F β w wq undef:=fun F β w=>.cS false .u undef oS fun _=>rfl;unfold lq at h;split at h
 .rename_i hg;have C:=zs (ops:=ops) (st:=st) hg;obtain⟨ha,h⟩:=h;split at h
  .rename_i f args hc;exact call C ha hc h
  .split at h
   .rename_i l args hy;exact .inr (.inr ⟨h.1,l,args,C,ha,hy,h.2⟩)
   .split at h
    .rename_i e he;exact .inl (op C ha he h.1 h.2)
    .exact h.elim
 .rename_i j b hg;split at h
  .exact h.elim
  .rename_i c hc;simp only[Option.bind_eq_some_iff] at hc;obtain⟨t,⟨oj,wZ,P9⟩,hc⟩:=hc;have C:gp ops o st c:=La hg (t:=t) (by simp[wZ,P9]) hc;split at h
   .rename_i f args jX;rcases h with⟨r,h1,h2⟩|⟨h1,h2⟩
    .refine .inl ⟨⟨.cS c r,[],[],0⟩,Vz C fun tP=>?_,J _ jX (by simp[bL.wr]),h2⟩;subst tP;exact Mp C (h1 rfl).1 jX (h1 rfl).2
    .cases c with
     |true=>exact call C (h1 rfl).1 jX (h1 rfl).2
     |false=>exact .inl (skip C O (h2 rfl))
   .split at h
    .rename_i l args hy;cases c with
     |true=>exact .inr (.inr ⟨(h.1 rfl).2.1,l,args,C,(h.1 rfl).1,hy,(h.1 rfl).2.2⟩)
     |false=>exact .inl (skip C O (h.2 rfl))
    .split at h
     .rename_i e he;split at h
      .rename_i U;simp only[aB,List.isEmpty_iff,beq_iff_eq] at U;obtain⟨h1,h2⟩:=h;obtain⟨t1,t2,t3,t4⟩:=LV he;refine .inl ⟨⟨.cS c e.val,[],e.rd,0⟩,Vz C fun tP=>?_,⟨by simp[bL.wr],fun hk=>⟨(t2 hk).1,rfl⟩,fun _=>rfl,fun hk=>⟨(t4 hk).1,by simp[bL.wr]⟩⟩,h2⟩;subst tP;have:=MY C (h1 rfl).1 he (h1 rfl).2;rw[U.1,U.2] at this;exact this
      .obtain⟨h1,h2⟩:=h;cases c with
       |true=>exact .inl (op C (h1 rfl).1 he (h1 rfl).2.1 (h1 rfl).2.2)
       |false=>exact .inl (skip C O (h2 rfl))
     .obtain⟨rfl,h⟩:=h;exact .inl (skip C O h)
theorem abj(h:goes ops o st):gp ops o st true:=by
 rcases h with hg|⟨j,b,hg,hc⟩
 .exact zs hg
 .simp only[Option.bind_eq_some_iff] at hc;obtain⟨t,⟨M,J,C⟩,hc⟩:=hc;exact La hg (t:=t) (by simp[J,C]) hc
theorem Lm{Y:gn}{dr:Bool}{K:St->List Nat->List Nat->Prop}(h:lq P Y ops dr o st K\/XH P ops o st K):
 (∃ p:bL,p.Ok P ops o st/\p.n3 (cM o.op) st/\K (St.put ⟨st.env,cQ st.mem p.a7,st.nx+p.new⟩ o.dst p.val) p.rd p.wr)\/
 (dr=false/\∃ f args,gp ops o st true/\asks st.env o.op/\ea (bn st.env o.op) o.op=some (f,args)/\gW P f args st.mem st.nx fun r m nx=>K (St.put ⟨st.env,m,nx⟩ o.dst r) [] [])\/
 (dr=false/\∃ l args,gp ops o st true/\asks st.env o.op/\pH (bn st.env o.op) o.op=some (l,args)/\Y l args st.mem st.nx fun r m nx=>K (St.put ⟨st.env,m,nx⟩ o.dst r) [] []):=by
 rcases h with h|⟨h1,h2,e,C,J⟩
 .exact aeF h
 .obtain⟨M,t2,t3,t4⟩:=C.tidy;exact .inl ⟨⟨e.val,e.a7,e.rd,e.new⟩,Un (abj h1) h2 C,⟨M,t2,t3,t4⟩,J⟩
theorem RJ{f:FuncId}{args:List D}{ep:D->Mem->Nat->Prop}(hw:gp ops o st true)(ha:asks st.env o.op)(hc:ea (bn st.env o.op) o.op=some (f,args))(h:gW P f args st.mem st.nx ep)
 (hs:cK P F st β w a) (hd:∀ t,o.dst=some t->t<a.tmps.size) (r:Option Nat) (n:Nat) (QX:Exit->Act->World->Prop) {K:Act->World->Prop}
 (hK:∀ d m' aD β' a' w',ep d m' aD->cK P F (St.put ⟨st.env,m',aD⟩ o.dst d) β' w' a'->eW st.nx β w a (St.put ⟨st.env,m',aD⟩ o.dst d) β' w' a'->K a' w'):
 mC r n P ops QX o K a w:=by
 refine Bn (hw F β w a st.env (fun _ _=>rfl) hs.e) hs.e ha hc h.1 fun vs hR=>?_;refine(h.2 F β w vs hs.m hs.n hR).mono fun e w' hp=>?_;obtain⟨v,d,m',aD,β',h1,h2,J,M,O,C,U,X⟩:=hp;refine⟨v,h1,hK d m' aD β' _ w' h2 (cK.put (st':=⟨st.env,m',aD⟩) (hs.e.step C) hd O J M) ⟨C,by rw[Be];exact U,X,DY _ _ _,put_defers _ _ _⟩⟩
theorem aaP{env:Env}{l:Nat}{args:List D}(J:gP F β w env a)(ha:asks env o.op)(h:pH (bn env o.op) o.op=some (l,args)):
 ∃ vs,(execOp a.eval o).run P w=(Instr.yield l vs).run P w/\Rs F β w args vs:=by
 obtain⟨dst,op,type,pos,after,guard⟩:=o;simp only at ha h;cases op with
 |call c=>
  simp only[pH] at h;have hR:∀ x∈(Op.call c).operands.toList,R F β w (bn env (.call c) x) (a.eval x):=fun x hx=>(J.opd x).xL _ (ha x hx);split at h
  .rename_i g hg;split at h
   .rename_i U hk;simp only[aV,cN] at h;obtain⟨rfl,rfl⟩:=h;have h1:=hR g (by simp[Op.operands,Call.operands,hg]);rw[hk] at h1;obtain⟨X,M⟩:=BK (F:=F) (β:=β) (w:=w) (xs:=c.args) (ρ:=bn env (.call c)) (a:=a) (fun x hx=>hR x (by simp[Op.operands,Call.operands];exact .inr hx));generalize hv:a.eval g=v at h1;cases h1 with
    |fn _ _ _ us vs hl nD hh O=>
    have C:us=[]:=List.eq_nil_of_length_eq_zero (by simpa using hl);have e2:vs=[]:=List.eq_nil_of_length_eq_zero (by simpa using nD);subst C e2;refine⟨c.args.map a.eval,?_,oS,fun j d u hd hu=>M j d u hd (by simpa using hu)⟩;unfold execOp;simp only[resolve,hg,Sem.run_bind,hv,Deferred.ofValue,Sem.run_pure,Result.andThen_ok,invoke];simp
   .cases h
  .cases h
 |_=>simp[pH] at h
theorem aat{op:Op}{ρ:Operand->D}{x:Nat×List D}(h:pH ρ op=some x):∀ c,op≠ .defer c:=fun c hc=>by
 subst hc;simp[pH] at h
theorem abk{l:Nat}{args:List D}{ep:D->Mem->Nat->Prop}(hw:gp ops o st true)(ha:asks st.env o.op)(hc:pH (bn st.env o.op) o.op=some (l,args)){M:aJ}{J:World}(h:qC P F M J l args st.mem st.nx ep)(hb:Step M J β w)
 (hs:cK P F st β w a) (hd:∀ t,o.dst=some t->t<a.tmps.size) (r:Option Nat) (n:Nat) (QX:Exit->Act->World->Prop) {K:Act->World->Prop}
 (hK:∀ d m' aD β' a' w',ep d m' aD->cK P F (St.put ⟨st.env,m',aD⟩ o.dst d) β' w' a'->eW st.nx β w a (St.put ⟨st.env,m',aD⟩ o.dst d) β' w' a'->K a' w'):
 mC r n P ops QX o K a w:=by
 obtain⟨vs,h1,h2⟩:=aaP (P:=P) hs.e ha hc;obtain⟨f,tmps,assign,body,h3,h4⟩:=h β w vs hb hs.m hs.n h2;unfold mC;rw[hw F β w a st.env (fun _ _=>rfl) hs.e,if_pos rfl];refine⟨fun _ _=>trivial,?_⟩;rw[BR (aat hc),h1,h3];refine⟨oS,?_⟩;have h5:=h4 (n - 1);refine RoundIn.mono (F:=Fe r) (show RoundIn (Fe r) (n - 1) P l f tmps assign body w _ from h5) fun e w' hp=>?_;obtain⟨v,d,m',aD,β',rfl,O,U,X,g5,C,g7,g8⟩:=hp;exact hK d m' aD β' _ w' O (cK.put (st':=⟨st.env,m',aD⟩) (hs.e.step C) hd g5 U X) ⟨C,by rw[Be];exact g7,g8,DY _ _ _,put_defers _ _ _⟩
def qB(N:Nat)(ops:Array Oper):Bool:=ops.toList.all fun o=>match o.dst with
 |some t=>Nat.blt t N
 |none=>true
theorem DK{N:Nat}(h:qB N ops=true){i:Nat}{o:Oper}(hi:ops[i]? =some o):∀ t,o.dst=some t->t<N:=fun t ht=>by
 have h1:=bT.1 h o (by simpa using Array.mem_of_getElem? hi);rw[ht] at h1;simpa using h1
theorem aeG{Y:gn}{r:Option Nat}{n:Nat}{cf:List (Nat×Nat)}{Q:Exit->St->Prop}{N:Nat}{β₀:aJ}{w₀:World}{a₀:Act}(hY:∀ l args m nx ep,Y l args m nx ep->qC P F β₀ w₀ l args m nx ep)(al:qB a₀.tmps.size ops=true):
 ∀ (rest:List Oper) (k:Nat) (st:St) (tr:mP) (β:aJ) (w:World) (a:Act),ops.toList.drop k=rest->ax P Y ops false cf Q rest st tr->cK P F st β w a->eW N β₀ w₀ a₀ st β w a->
  wpOpsIn (Fe r) n P ops (ep P F N β₀ w₀ a₀ Q) (List.range' k rest.length) a w:=by
 intro rest
 induction rest with
 |nil=>
  intro k st tr β w a hk h hs C;simp only[List.length_nil,List.range'_zero,wpOpsIn];exact⟨st,β,h.2,hs,C⟩
 |cons o rest ih=>
  intro k st tr β w a hk h hs C
  have ho:ops[k]? =some o:=by
   have:(ops.toList.drop k)[0]? =some o:=by rw[hk];rfl
   simpa using this
  have X:ops.toList.drop (k+1)=rest:=by
   have:(ops.toList.drop k).drop 1=rest:=by rw[hk];rfl
   simpa[List.drop_drop,Nat.add_comm] using this
  simp only[List.length_cons,List.range'_succ,wpOpsIn_cons];refine GG ho ?_;have hd:∀ t,o.dst=some t->t<a.tmps.size:=fun t ht=>by rw[C.size];exact DK al ho t ht
  simp only[ax] at h;rcases Lm h with⟨p,h1,_,O⟩|⟨_,f,args,h1,h2,O,U⟩|⟨_,l,args,h1,h2,O,U⟩
  .exact GY h1 hs hd r n _ fun β' a' w' J M=>ih (k+1) _ _ β' w' a' X O J (C.trans M)
  .exact RJ h1 h2 O U hs hd r n _ fun d m' aD β' a' w' hp J M=>ih (k+1) _ _ β' w' a' X hp J (C.trans M)
  .exact abk h1 h2 O (hY _ _ _ _ _ U) C.step hs hd r n _ fun d m' aD β' a' w' hp J M=>ih (k+1) _ _ β' w' a' X hp J (C.trans M)
theorem aay{Y:gn}{r:Option Nat}{n id:Nat}{cf:List (Nat×Nat)}{Q:Exit->St->Prop}{N:Nat}{β₀:aJ}{w₀:World}{a₀:Act}(J:∀ l args m nx ep,Y l args m nx ep->qC P F β₀ w₀ l args m nx ep)(al:qB a₀.tmps.size ops=true)
 (h:ax P Y ops false cf Q ops.toList st []) (hs:cK P F st β w a) (C:eW N β₀ w₀ a₀ st β w a):(Code.region id ops false).wpIn (Fe r) n P (ep P F N β₀ w₀ a₀ Q) a w:=by
 refine wpIn_region ?_;have:=aeG J (r:=r) (n:=n) al ops.toList 0 st [] β w a oS h hs C;rw[List.range_eq_range'];simpa using this
end
theorem GX(C:List Nat)(i:Nat):∀ (l:List Edge) (s:Nat),(l.foldl (fun s e=>if Region.binds .any e then s||| 2 ^ e.on||| C.getD e.on 0 else s) s).testBit i=true->
 s.testBit i=true\/∃ e∈l,Region.binds .any e=true/\(i=e.on\/(C.getD e.on 0).testBit i=true)
 |[],s,h=>.inl h
 |e::l,s,h=>by
  rw[List.foldl_cons] at h;rcases GX C i l _ h with h1|⟨J,M,hb⟩
  .by_cases hb:Region.binds .any e=true
   .rw[if_pos hb] at h1;simp only[Nat.testBit_or,Bool.or_eq_true,Nat.testBit_two_pow,decide_eq_true_eq] at h1;rcases h1 with(h1|h1)|h1
    .exact .inl h1
    .exact .inr ⟨e,oS,hb,.inl h1.symm⟩
    .exact .inr ⟨e,oS,hb,.inr h1⟩
   .rw[if_neg hb] at h1;exact .inl h1
  .exact .inr ⟨J,by simp[M],hb⟩
theorem KS:∀ (os:List Oper) (C:List Nat),∃ l,ju os C=C++l/\l.length=os.length
 |[],C=>⟨[],by simp[ju],rfl⟩
 |o::os,C=>by
  obtain⟨l,h1,h2⟩:=KS os (C++[B9 C o]);exact⟨B9 C o::l,by simp[ju,h1],by simp[h2]⟩
theorem Hh:∀ (os:List Oper) (C:List Nat) (k:Nat) (o:Oper),os[k]? =some o->(ju os C).getD (C.length+k) 0=B9 ((ju os C).take (C.length+k)) o
 |[],C,k,o,h=>by simp at h
 |x::os,C,0,o,h=>by
  simp only[List.getElem?_cons_zero,aV] at h;subst h;obtain⟨l,h1,h2⟩:=KS os (C++[B9 C x]);simp[ju,h1]
 |x::os,C,k+1,o,h=>by
  have:=Hh os (C++[B9 C x]) k o (by simpa using h);simp only[List.length_append,List.length_cons,List.length_nil] at this;have e:C.length+(k+1)=C.length+(0+1)+k:=by omega
  rw[e];exact this
theorem K5{ops:Array Oper}{S:Nat->Bool}(M:∀ j,S j=true->∀ o,ops[j]? =some o->∀ e∈o.after,Region.binds .any e=true->S e.on=true)(i:Nat):
 ∀ j,S j=true->((ju ops.toList []).getD j 0).testBit i=true->S i=true:=by
 intro j
 induction j using Nat.strongRecOn with
 |_ j ih=>
  intro hj hb;cases ho:ops[j]? with
  |none=>
   obtain⟨l,h1,h2⟩:=KS ops.toList []
   have:(ju ops.toList []).getD j 0=0:=by
    rw[h1];simp only[List.nil_append];have:ops.size<=j:=by simpa using ho
    simp[List.getElem?_eq_none (show l.length<=j by simpa[h2] using this)]
   rw[this] at hb;simp at hb
  |some o=>
   have h1:=Hh ops.toList [] j o (by simpa using ho);simp only[List.length_nil,Nat.zero_add] at h1;rw[h1] at hb;rcases GX _ i _ 0 hb with h2|⟨e,he,O,h2⟩
   .simp at h2
   .have C:=M j hj o ho e (by simpa using he) O;rcases h2 with rfl|h2
    .exact C
    .rcases Nat.lt_or_ge e.on j with al|J
     .refine ih e.on al C ?_;simpa[List.getElem?_take,al] using h2
     .simp[List.getElem?_take,Nat.not_lt.2 J] at h2
theorem Re{bs:List Nat}{n i j:Nat}(C:i<j)(hj:j<n)(h:(bs.getD j 0).testBit i=false):(i,j)∈unordered bs n:=by
 unfold unordered;rw[List.mem_flatMap];exact⟨j,by simp[hj],by rw[List.mem_map];exact⟨i,by simp only[List.mem_filter,List.mem_range];exact⟨C,by rw[h];rfl⟩,rfl⟩⟩
theorem Bl{us:List (Nat×Option Row)}:∀ {m:Mem} {i:Nat},i∉us.map (·.1)->cQ m us i=m i:=by
 induction us with
 |nil=>intro m i _;rfl
 |cons u us ih=>
  intro m i h;obtain⟨j,r⟩:=u;simp only[List.map_cons,List.mem_cons,not_or] at h;simp only[cQ];rw[ih h.2,aZ _ _ h.1]
theorem K6{us:List (Nat×Option Row)}:∀ {m m':Mem} {i:Nat},(i∈us.map (·.1)\/m i=m' i)->cQ m us i=cQ m' us i:=by
 induction us with
 |nil=>intro m m' i h;simpa[cQ] using h
 |cons u us ih=>
  intro m m' i h;obtain⟨j,r⟩:=u;simp only[cQ];refine ih ?_;by_cases hj:i=j
  .right;subst hj;rw[an,an]
  .rcases h with h|h
   .left;simp only[List.map_cons,List.mem_cons] at h;exact h.resolve_left hj
   .right;rw[aZ _ _ hj,aZ _ _ hj,h]
theorem ab7{a b:List (Nat×Option Row)}(m:Mem)(h:∀ i∈a.map (·.1),i∉b.map (·.1)):cQ (cQ m a) b=cQ (cQ m b) a:=by
 funext i;by_cases ha:i∈a.map (·.1)
 .rw[Bl (h i ha)];exact K6 (.inl ha)
 .rw[Bl (m:=cQ m b) ha];exact K6 (.inr (Bl ha))
def qQ(env:Env)(d:Option Nat)(v:D):Env:=match d with
 |some t=>up env t v
 |none=>env
theorem DX{env:Env}{d:Option Nat}{v:D}{t:Nat}(h:d≠some t):qQ env d v t=env t:=by
 cases d with
 |none=>rfl
 |some u=>exact aZ _ _ fun e=>h (by rw[e])
theorem K7{env env':Env}{d:Option Nat}{v:D}{t:Nat}(h:d=some t\/env t=env' t):qQ env d v t=qQ env' d v t:=by
 cases d with
 |none=>simpa[qQ] using h
 |some u=>
  by_cases hu:t=u
  .subst hu;simp[qQ,an]
  .simp only[qQ,aZ _ _ hu];rcases h with h|h
   .simp only[aV] at h;exact absurd h.symm hu
   .exact h
theorem ab8(env:Env){d d':Option Nat}(v C:D)(h:∀ t,d=some t->d'≠some t):qQ (qQ env d v) d' C=qQ (qQ env d' C) d v:=by
 funext t;by_cases hd:d=some t
 .rw[DX (h t hd)];exact K7 (.inl hd)
 .rw[DX (env:=qQ env d' C) hd];exact K7 (.inr (DX hd))
def wY(st:St)(o:Oper)(p:bL):St:=St.put ⟨st.env,cQ st.mem p.a7,st.nx+p.new⟩ o.dst p.val
theorem Mj(st:St)(o:Oper)(p:bL):(wY st o p).env=qQ st.env o.dst p.val:=by unfold wY;rw[aa1];rfl
theorem Hx(st:St)(o:Oper)(p:bL):(wY st o p).mem=cQ st.mem p.a7:=RI _ _ _
theorem xT(st:St)(o:Oper)(p:bL):(wY st o p).nx=st.nx+p.new:=Be _ _ _
section
variable(oo:Nat->Oper)(pp:Nat->bL)(st₀:St)
def gj(S:Nat->Bool):Nat->St
 |0=>st₀
 |k+1=>if S k then wY (gj S k) (oo k) (pp k) else gj S k
def fJ:Nat->St:=gj oo pp st₀ fun _=>true
theorem sJ(k:Nat):fJ oo pp st₀ (k+1)=wY (fJ oo pp st₀ k) (oo k) (pp k):=rfl
theorem Vl(k:Nat):∀ n,k<=n->gj oo pp st₀ (fun j=>decide (j<k)) n=fJ oo pp st₀ k:=by
 have below:∀ n,n<=k->gj oo pp st₀ (fun j=>decide (j<k)) n=fJ oo pp st₀ n:=by
  intro n
  induction n with
  |zero=>intro _;rfl
  |succ n ih=>
   intro h;have hd:decide (n<k)=true:=by simp;omega
   rw[sJ, <- ih oG];simp only[gj,hd,if_true]
 intro n h
 induction n with
 |zero=>
  have:k=0:=by omega
  subst this;rfl
 |succ n ih=>
  rcases Nat.lt_or_ge n k with al|C
  .have:k=n+1:=by omega
   subst this;exact below (n+1) (bM _)
  .have hd:decide (n<k)=false:=by simpa using C
   simp only[gj,hd,Bool.false_eq_true,if_false];exact ih C
theorem afP{S T:Nat->Bool}{t:Nat}:∀ n,(∀ j,j<n->S j≠T j->(oo j).dst≠some t)->(gj oo pp st₀ S n).env t=(gj oo pp st₀ T n).env t:=by
 intro n
 induction n with
 |zero=>intro _;rfl
 |succ n ih=>
  intro h;have h1:=ih fun j hj=>h j oG;have h2:=h n oG;simp only[gj];cases C:S n<;>cases J:T n<;>simp only[Bool.false_eq_true,if_false,if_true,Mj]
  .exact h1
  .rw[DX (h2 (by simp[C,J]))];exact h1
  .rw[DX (h2 (by simp[C,J]))];exact h1
  .exact K7 (.inr h1)
theorem afQ{S T:Nat->Bool}{i:Nat}:∀ n,(∀ j,j<n->S j≠T j->i∉(pp j).wr)->(gj oo pp st₀ S n).mem i=(gj oo pp st₀ T n).mem i:=by
 intro n
 induction n with
 |zero=>intro _;rfl
 |succ n ih=>
  intro h;have h1:=ih fun j hj=>h j oG;have h2:=h n oG;simp only[gj];cases C:S n<;>cases J:T n<;>simp only[Bool.false_eq_true,if_false,if_true,Hx]
  .exact h1
  .rw[Bl (h2 (by simp[C,J]))];exact h1
  .rw[Bl (h2 (by simp[C,J]))];exact h1
  .exact K6 (.inr h1)
theorem LO{S T:Nat->Bool}:∀ n,(∀ j,j<n->S j=T j)->gj oo pp st₀ S n=gj oo pp st₀ T n:=by
 intro n
 induction n with
 |zero=>intro _;rfl
 |succ n ih=>
  intro h;simp only[gj,ih fun j hj=>h j oG,h n oG]
theorem afR{S:Nat->Bool}{k:Nat}(hk:S k=false):∀ n,k<n->(∀ j,k<j->j<n->S j=true->(∀ t,(oo k).dst=some t->(oo j).dst≠some t)/\∀ i∈(pp k).wr,i∉(pp j).wr)->
 (gj oo pp st₀ (fun j=>if j=k then true else S j) n).env=qQ (gj oo pp st₀ S n).env (oo k).dst (pp k).val/\
 (gj oo pp st₀ (fun j=>if j=k then true else S j) n).mem=cQ (gj oo pp st₀ S n).mem (pp k).a7:=by
 intro n
 induction n with
 |zero=>intro h;omega
 |succ n ih=>
  intro nF h;rcases Nat.lt_or_ge k n with al|U
  .obtain⟨h1,h2⟩:=ih al fun j hj X=>h j hj oG;have C:n≠k:=by omega
   simp only[gj,if_neg C];cases O:S n with
   |false=>simp only[Bool.false_eq_true,if_false];exact⟨h1,h2⟩
   |true=>
    obtain⟨J,M⟩:=h n al oG O;simp only[if_true,Mj,Hx,h1,h2];exact⟨ab8 _ _ _ J,ab7 _ M⟩
  .have:n=k:=by omega
   subst this;have e:gj oo pp st₀ (fun j=>if j=n then true else S j) n=gj oo pp st₀ S n:=LO oo pp st₀ n fun j hj=>by simp only[if_neg (show j≠n by omega)]
   simp only[gj,if_true,hk,Bool.false_eq_true,if_false,Mj,Hx,e];exact⟨trivial,trivial⟩
theorem qm{j k:Nat}(h:j<=k):(fJ oo pp st₀ j).nx<=(fJ oo pp st₀ k).nx:=by
 induction k with
 |zero=>have:j=0:=by omega
        subst this;exact bM _
 |succ k ih=>
  rcases Nat.lt_or_ge j (k+1) with al|C
  .rw[sJ,xT];have:=ih oG;omega
  .have:j=k+1:=by omega
   subst this;exact bM _
end
section
variable{P:Program}{ops:Array Oper}{cf:List (Nat×Nat)}{Q:Exit->St->Prop}
def D'(P:Program)(ops:Array Oper)(cf:List (Nat×Nat))(Q:Exit->St->Prop):List Oper->List bL->St->mP->Prop
 |[],[],st,tr=>(∀ q∈cf,rU tr q.1 q.2)/\Q .normal st
 |o::os,p::ps,st,tr=>p.Ok P ops o st/\p.n3 (cM o.op) st/\D' P ops cf Q os ps (wY st o p) (tr++[(p.rd,p.wr)])
 |_,_,_,_=>False
theorem K8{Y:gn}:∀ (os:List Oper) (st:St) (tr:mP),ax P Y ops true cf Q os st tr->∃ ps,D' P ops cf Q os ps st tr
 |[],st,tr,h=>⟨[],h⟩
 |o::os,st,tr,h=>by
  simp only[ax] at h;rcases Lm h with⟨p,h1,h2,C⟩|⟨h1,_⟩|⟨h1,_⟩
  .obtain⟨ps,J⟩:=K8 os _ _ C;exact⟨p::ps,h1,h2,J⟩
  .cases h1
  .cases h1
instance:Inhabited bL:=⟨⟨.u,[],[],0⟩⟩
theorem DJ(oo:Nat->Oper)(pp:Nat->bL)(st₀:St):∀ (os:List Oper) (ps:List bL) (k:Nat) (tr:mP),(∀ j o,os[j]? =some o->oo (k+j)=o)->(∀ j p,ps[j]? =some p->pp (k+j)=p)->tr.length=k->
 (∀ j,j<k->tr.getD j ([],[])=((pp j).rd,(pp j).wr))->D' P ops cf Q os ps (fJ oo pp st₀ k) tr->
 (∀ j,k<=j->j<k+os.length->(pp j).Ok P ops (oo j) (fJ oo pp st₀ j)/\(pp j).n3 (cM (oo j).op) (fJ oo pp st₀ j))/\Q .normal (fJ oo pp st₀ (k+os.length))/\
 ∃ C:mP,(∀ j,j<k+os.length->C.getD j ([],[])=((pp j).rd,(pp j).wr))/\∀ q∈cf,rU C q.1 q.2
 |[],[],k,tr,ho,hp,hl,ht,h=>⟨fun j h1 h2=>absurd h2 oP,h.2,tr,ht,h.1⟩
 |[],_::_,_,_,_,_,_,_,h=>h.elim
 |_::_,[],_,_,_,_,_,_,h=>h.elim
 |o::os,p::ps,k,tr,ho,hp,hl,ht,h=>by
  have M:oo k=o:=ho 0 o rfl;have e2:pp k=p:=hp 0 p rfl;obtain⟨h1,h2,X⟩:=h;have J:D' P ops cf Q os ps (fJ oo pp st₀ (k+1)) (tr++[(p.rd,p.wr)]):=by rw[sJ,M,e2];exact X
  obtain⟨a1,a2,C,a3,a4⟩:=DJ oo pp st₀ os ps (k+1) _ (fun j x hj=>by have:=ho (j+1) x (by simpa using hj);rw[<- this];congr 1;omega)
   (fun j x hj=>by have:=hp (j+1) x (by simpa using hj);rw[<- this];congr 1;omega) (by simp[hl])
   (fun j hj=>by
    rcases Nat.lt_or_ge j k with al|U
    .rw[<- ht j al];simp[List.getElem?_append_left (show j<tr.length by omega)]
    .have:j=k:=by omega
     subst this;simp[<- hl,List.getElem?_append_right,e2]
     rw[hl,e2];exact⟨rfl,rfl⟩) J
  have e3:k+(o::os).length=k+1+os.length:=by simp;omega
  rw[e3];refine⟨fun j hj O=>?_,a2,C,a3,a4⟩;rcases Nat.lt_or_ge k j with al|U
  .exact a1 j al O
  .have:j=k:=by omega
   subst this;rw[M,e2];exact⟨h1,h2⟩
def Ir(P:Program)(F:Nat->Prop)(ops:Array Oper)(Q:Exit->St->Prop)(N₀:Nat)(β₀:aJ)(w₀:World)(a₀:Act)(r:Option Nat)(n:Nat)(o:Oper)(st:St):Prop:=
 ∀ (β:aJ) (w:World) (a:Act),cK P F st β w a->eW N₀ β₀ w₀ a₀ st β w a->∀ K:Act->World->Prop,(∀ a' w',ep P F N₀ β₀ w₀ a₀ Q .normal a' w'->K a' w')->mC r n P ops (ep P F N₀ β₀ w₀ a₀ Q) o K a w
theorem aae(h:bV ops=some cf):(∀ (i:Nat) (o:Oper),ops[i]? =some o->∀ e∈o.after,Region.binds .any e=true->e.on<i)/\
 (∀ q∈unordered (ju ops.toList []) ops.size,Ll ops q.1 q.2=true)/\(∀ q∈unordered (ju ops.toList []) ops.size,Hw ops q.1 q.2=true->q∈cf):=by
 unfold bV at h;simp only at h;split at h
 .rename_i hc;simp only[aB] at hc;cases h;refine⟨fun i o hi e he hb=>?_,fun q hq=>bT.1 hc.2 q hq,fun q hq hm=>by rw[List.mem_filter];exact⟨hq,hm⟩⟩
  have h1:=bT.1 hc.1 (o,i) (by
   rw[List.mem_zipIdx_iff_getElem?]
   simpa using hi)
  have h2:=bT.1 h1 e (by simpa using he);simpa[hb] using h2
 .cases h
variable{F:Nat->Prop}{N₀:Nat}{β₀:aJ}{w₀:World}{a₀:Act}
structure DS(P:Program)(F:Nat->Prop)(oo:Nat->Oper)(pp:Nat->bL)(st₀:St)(n:Nat)(N₀:Nat)(β₀:aJ)(w₀:World)(a₀:Act)(S:Nat->Bool)(β:aJ)(w:World)(a:Act):Prop where
 e:gP F β w (gj oo pp st₀ S n).env a
 m:aL P F (gj oo pp st₀ S n).mem β w
 free:∀ i,st₀.nx<=i->(∀ k,k<n->S k=true->¬ ((fJ oo pp st₀ k).nx<=i/\i<(fJ oo pp st₀ k).nx+(pp k).new))->β i=none
 step:Step β₀ w₀ β w
 grow:∀ i,i<N₀->β₀ i=none->β i=none
 size:a.tmps.size=a₀.tmps.size
 defers:a.defers=a₀.defers
theorem adZ{oo:Nat->Oper}{pp:Nat->bL}{st₀:St}(hi:bV ops=some cf)(FH:∀ j o,ops[j]? =some o->oo j=o)(al:qB a₀.tmps.size ops=true)
 (nl:Nat) (fI:nl<=ops.size) (cE:∀ j,j<nl->(pp j).Ok P ops (oo j) (fJ oo pp st₀ j)/\(pp j).n3 (cM (oo j).op) (fJ oo pp st₀ j)) (hQ:nl=ops.size->Q .normal (fJ oo pp st₀ ops.size))
 (hL:nl<ops.size->nl+1=ops.size/\(∀ i,i<nl->((ju ops.toList []).getD nl 0).testBit i=true)/\∀ r n,Ir P F ops Q N₀ β₀ w₀ a₀ r n (oo nl) (fJ oo pp st₀ nl))
 (bx:∃ p7:mP,(∀ j,j<nl->p7.getD j ([],[])=((pp j).rd,(pp j).wr))/\∀ q∈cf,rU p7 q.1 q.2)
 (ln:∀ i,st₀.nx<=i->st₀.mem i=none) (hN:N₀<=st₀.nx) (r:Option Nat) (n:Nat):
 ∀ (gQ:Nat) (listed:Array Bool) (β:aJ) (w:World) (a:Act),listed.size=ops.size->listed.toList.countP (fun b=> !b)<=gQ->(nl<ops.size->listed.getD nl false=false)->
  (∀ j,listed.getD j false=true->∀ o,ops[j]? =some o->∀ e∈o.after,Region.binds .any e=true->listed.getD e.on false=true)->
  DS P F oo pp st₀ ops.size N₀ β₀ w₀ a₀ (fun j=>listed.getD j false) β w a->
  wpAnyIn (Fe r) n P .any ops (ep P F N₀ β₀ w₀ a₀ Q) gQ listed a w:=by
 obtain⟨FI,hta,FD⟩:=aae hi;obtain⟨p7,XI,ama⟩:=bx
 have YO:∀ k,k<=nl->∀ i,(fJ oo pp st₀ k).nx<=i->(fJ oo pp st₀ k).mem i=none:=by
  intro k
  induction k with
  |zero=>intro _ i hi;exact ln i hi
  |succ k ih=>
   intro hk i hi;rw[sJ,xT] at hi;rw[sJ,Hx];have h1:=(cE k oG).2.wr;rw[Bl,ih oG i oG];intro n4;rcases h1 i n4 with h2|h2
   .exact h2 (ih oG i oG)
   .omega
 have tC:∀ i j,i<j->j<ops.size->((ju ops.toList []).getD j 0).testBit i=false->
  (∀ x∈(pp i).wr,x∉(pp j).wr)/\(∀ x∈(pp i).wr,x∈(pp j).rd->(fJ oo pp st₀ j).mem x=none)/\(∀ x∈(pp j).wr,x∈(pp i).rd->(fJ oo pp st₀ i).mem x=none):=by
  intro i j p6 hj hb;have hu:=Re p6 hj hb
  have ko:j<nl:=by
   rcases Nat.lt_or_ge j nl with h|h
   .exact h
   .obtain⟨q1,q2,_⟩:=hL oG;have:j=nl:=by omega
    subst this;rw[q2 i p6] at hb;cases hb
  have AF:ops[i]? =some (oo i):=by
   have:i<ops.size:=by omega
   rw[FH i ops[i] (by simp[this])];simp[this]
  have wZ:ops[j]? =some (oo j):=by
   rw[FH j ops[j] (by simp[hj])];simp[hj]
  obtain⟨ti,YP,YQ,t3i⟩:=(cE i oG).2;obtain⟨tj,t0j,t1j,t3j⟩:=(cE j ko).2;by_cases gh:Hw ops i j=true
  .have h1:=ama _ (FD _ hu gh);unfold rU at h1;simp only[XI i oG,XI j ko] at h1;exact⟨fun x hx=>(h1.1 x hx).2,fun x hx hr=>absurd hr (h1.1 x hx).1,fun x hx hr=>absurd hr (h1.2 x hx)⟩
  .simp only[Hw,AF,wZ,aB,Bool.or_eq_true,beq_iff_eq,bne_iff_ne,Bool.not_eq_true',ne_eq] at gh
   have hk:∀ o:Oper,cM o.op=0\/cM o.op=1\/cM o.op=2\/cM o.op=3:=fun o=>by
    unfold cM;split<;>simp
   have nil:∀ p:bL,p.a7=[]->∀ x,x∉p.wr:=fun p hp x hx=>by simp[bL.wr,hp] at hx
   rcases hk (oo j) with O|O|O|O
   .have:=t0j O;exact⟨fun x _=>nil _ this.2 x,fun x _ hr=>(by rw[this.1] at hr;cases hr),fun x hx=>absurd hx (nil _ this.2 x)⟩
   .by_cases k0:cM (oo i).op=0
    .have:=YP k0;exact⟨fun x hx=>absurd hx (nil _ this.2 x),fun x hx=>absurd hx (nil _ this.2 x),fun x _ hr=>by rw[this.1] at hr;cases hr⟩
    .have k1:cM (oo i).op=1:=by
      rcases hk (oo i) with h|h|h|h
      .exact absurd h k0
      .exact h
      .exact absurd ⟨⟨.inl O,oG⟩,by simp[h]⟩ gh
      .exact absurd ⟨⟨.inl O,oG⟩,by simp[h]⟩ gh
     exact⟨fun x hx=>absurd hx (nil _ (YQ k1) x),fun x hx=>absurd hx (nil _ (YQ k1) x),fun x hx=>absurd hx (nil _ (t1j O) x)⟩
   .by_cases k0:cM (oo i).op=0
    .have:=YP k0;exact⟨fun x hx=>absurd hx (nil _ this.2 x),fun x hx=>absurd hx (nil _ this.2 x),fun x _ hr=>by rw[this.1] at hr;cases hr⟩
    .exact absurd ⟨⟨.inr O,oG⟩,by simp[O]⟩ gh
   .have gy:=qm oo pp st₀ (show i+1<=j by omega);rw[sJ,xT] at gy;obtain⟨h1,h2⟩:=t3j O
    have CW:∀ x∈(pp i).wr,x<(fJ oo pp st₀ j).nx:=fun x hx=>by
     rcases ti x hx with h|h
     .rcases Nat.lt_or_ge x (fJ oo pp st₀ i).nx with h'|h'
      .omega
      .exact absurd (YO i oG x h') h
     .omega
    refine⟨fun x hx hxj=>?_,fun x _ hr=>(by rw[h1] at hr;cases hr),fun x hx _=>YO i oG x ?_⟩
    .have:=CW x hx;have:=h2 x hxj;omega
    .have:=h2 x hx;omega
 have OD:∀ i j,i<j->j<ops.size->((ju ops.toList []).getD j 0).testBit i=false->(oo i).apart ops (oo j)=true:=by
  intro i j p6 hj hb;have h1:=hta _ (Re p6 hj hb)
  have AF:ops[i]? =some (oo i):=by
   have:i<ops.size:=by omega
   rw[FH i ops[i] (by simp[this])];simp[this]
  have wZ:ops[j]? =some (oo j):=by
   rw[FH j ops[j] (by simp[hj])];simp[hj]
  simpa[Ll,AF,wZ] using h1
 have pV:∀ listed:Array Bool,listed.size=ops.size->Region.ready .any ops listed=[]->∀ k,k<ops.size->listed.getD k false=true:=by
  intro listed bS hr k
  induction k using Nat.strongRecOn with
  |_ k ih=>
   intro hk;cases hl:listed.getD k false with
   |true=>rfl
   |false=>
    exfalso
    have:k∈Region.ready .any ops listed:=by
     rw[mem_ready];refine⟨?_,ops[k],by simp[hk],fun e he hb=>?_⟩
     .have mb:k<listed.size:=by omega
      simpa[mb] using hl
     .have h1:=FI k ops[k] (by simp[hk]) e he hb;exact ih e.on h1 oG
    rw[hr] at this;cases this
 have done:∀ (listed:Array Bool) (β:aJ) (w:World) (a:Act),listed.size=ops.size->(nl<ops.size->listed.getD nl false=false)->DS P F oo pp st₀ ops.size N₀ β₀ w₀ a₀ (fun j=>listed.getD j false) β w a->Region.ready .any ops listed=[]->
  ep P F N₀ β₀ w₀ a₀ Q .normal a w:=by
  intro listed β w a bS me C hr
  have CX:nl=ops.size:=by
   rcases Nat.lt_or_ge nl ops.size with h|h
   .have h1:=me h;rw[pV listed bS hr nl h] at h1;cases h1
   .omega
  have hQ:=hQ CX;have e:gj oo pp st₀ (fun j=>listed.getD j false) ops.size=fJ oo pp st₀ ops.size:=LO oo pp st₀ _ fun j hj=>pV listed bS hr j hj;have h1:=C.e;have h2:=C.m;rw[e] at h1 h2;refine⟨fJ oo pp st₀ ops.size,β,hQ,⟨h1,h2,fun i hi=>C.free i ?_ fun k hk _ h=>?_⟩,⟨C.step,?_,C.grow,C.size,C.defers⟩⟩
  .exact Nat.le_trans (qm oo pp st₀ (Nat.zero_le _)) hi
  .have:=qm oo pp st₀ (show k+1<=ops.size by omega);rw[sJ,xT] at this;omega
  .exact Nat.le_trans hN (qm oo pp st₀ (Nat.zero_le _))
 intro gQ
 induction gQ with
 |zero=>
  intro listed β w a bS hc me dw C
  have hr:Region.ready .any ops listed=[]:=by
   cases pb:Region.ready .any ops listed with
   |nil=>rfl
   |cons x xs=>
    exfalso;have hx:x∈Region.ready .any ops listed:=by rw[pb];simp
    rw[mem_ready] at hx;obtain⟨h1,o,ho,_⟩:=hx;have tD:x<ops.size:=(Array.getElem?_eq_some_iff.1 ho).1;have q7:x<listed.size:=by omega
    have:listed[x]=false:=by simpa[q7] using h1
    have h2:0<listed.toList.countP (fun b=> !b):=List.countP_pos_iff.2 ⟨listed[x],oS,by simp[this]⟩;omega
  exact⟨hr,done listed β w a bS me C hr⟩
 |succ gQ ih=>
  intro listed β w a bS hc me dw C;refine⟨done listed β w a bS me C,fun k hk=>?_⟩;rw[mem_ready] at hk;obtain⟨FJ,o,ho,Aj⟩:=hk;have nF:k<ops.size:=(Array.getElem?_eq_some_iff.1 ho).1;have oe:k<listed.size:=by omega
  have PK:listed[k]=false:=by simpa[oe] using FJ
  have U:listed.getD k false=false:=by simp[oe,PK]
  have eo:oo k=o:=FH k o ho;by_cases XJ:k=nl
  ·
    subst XJ;obtain⟨q1,q2,q3⟩:=hL nF
    have bQ:∀ j,j<k->listed.getD j false=true:=by
     intro j hj;have hb:=q2 j hj;have h1:=Hh ops.toList [] k o (by simpa using ho);simp only[List.length_nil,Nat.zero_add] at h1;rw[h1] at hb;rcases GX _ j _ 0 hb with h2|⟨e,he,mQ,h2⟩
     .simp at h2
     .have wX:=Aj e (by simpa using he) mQ;rcases h2 with rfl|h2
      .exact wX
      .have al:=FI k o ho e (by simpa using he) mQ;have J:((ju ops.toList []).getD e.on 0).testBit j=true:=by simpa[List.getElem?_take,al] using h2
       exact K5 (S:=fun j=>listed.getD j false) dw j e.on wX J
    have FK:gj oo pp st₀ (fun j=>listed.getD j false) ops.size=fJ oo pp st₀ k:=by
     rw[<- Vl oo pp st₀ k ops.size oG];refine LO oo pp st₀ _ fun j hj=>?_;rcases Nat.lt_or_ge j k with h|h
     .simp[bQ j h,h]
     .have:j=k:=by omega
      subst this;simp[U]
    refine GG ho ?_;rw[<- eo];have h1:=C.e;have h2:=C.m;rw[FK] at h1 h2;refine q3 r n β w a ⟨h1,h2,fun i hi=>C.free i ?_ fun j hj hS h=>?_⟩ ⟨C.step,?_,C.grow,C.size,C.defers⟩ _ fun a' w' hp=>?_
    .exact Nat.le_trans (qm oo pp st₀ (Nat.zero_le _)) hi
    .rcases Nat.lt_or_ge j k with al|bG
     .have:=qm oo pp st₀ (show j+1<=k by omega);rw[sJ,xT] at this;omega
     .have:j=k:=by omega
      subst this;simp only[U] at hS;cases hS
    .exact Nat.le_trans hN (qm oo pp st₀ (Nat.zero_le _))
    .have hr:Region.ready .any ops (listed.setIfInBounds k true)=[]:=by
      cases pb:Region.ready .any ops (listed.setIfInBounds k true) with
      |nil=>rfl
      |cons x xs=>
       exfalso;have hx:x∈Region.ready .any ops (listed.setIfInBounds k true):=by rw[pb];simp
       rw[mem_ready] at hx;obtain⟨X,o',FL,_⟩:=hx;have tD:x<ops.size:=(Array.getElem?_eq_some_iff.1 FL).1;by_cases YR:x=k
       .subst YR;simp[oe] at X
       .have J:=bQ x oG;rw[getD_set_ne true (Ne.symm YR)] at X;have JT:x<listed.size:=by omega
        simp[JT] at X J;rw[X] at J;cases J
     cases gQ with
     |zero=>exact⟨hr,hp⟩
     |succ gQ=>exact⟨fun _=>hp,fun i hi=>by rw[hr] at hi;cases hi⟩
  have hkm:k<nl:=by
   rcases Nat.lt_or_ge k nl with h|h
   .exact h
   .have:=(hL oG).1;omega
  obtain⟨hOk,aqR⟩:=cE k hkm
  have XK:∀ j,j<k->listed.getD j false=false->((ju ops.toList []).getD k 0).testBit j=false:=by
   intro j FM hj;cases hb:((ju ops.toList []).getD k 0).testBit j with
   |false=>rfl
   |true=>
    exfalso;have h1:=Hh ops.toList [] k o (by simpa using ho);simp only[List.length_nil,Nat.zero_add] at h1;rw[h1] at hb;rcases GX _ j _ 0 hb with h2|⟨e,he,mQ,h2⟩
    .simp at h2
    .have wX:=Aj e (by simpa using he) mQ;rcases h2 with rfl|h2
     .rw[hj] at wX;cases wX
     .have al:=FI k o ho e (by simpa using he) mQ;have J:((ju ops.toList []).getD e.on 0).testBit j=true:=by simpa[List.getElem?_take,al] using h2
      have:=K5 (S:=fun j=>listed.getD j false) dw j e.on wX J;rw[hj] at this;cases this
  have Jk:∀ j,k<j->listed.getD j false=true->((ju ops.toList []).getD j 0).testBit k=false:=by
   intro j iC hj;cases hb:((ju ops.toList []).getD j 0).testBit k with
   |false=>rfl
   |true=>
    exfalso;have:=K5 (S:=fun j=>listed.getD j false) dw k j hj hb;rw[U] at this;cases this
  have Wn:∀ j,j<ops.size->listed.getD j false≠decide (j<k)->(j<k/\listed.getD j false=false)\/(k<j/\listed.getD j false=true):=by
   intro j hj M;rcases Nat.lt_trichotomy j k with h|h|h
   .left;refine⟨h,?_⟩;simpa[h] using M
   .subst h;simp[U] at M
   .right;refine⟨h,?_⟩;have:¬ j<k:=by omega
    simpa[this] using M
  have FK:=Vl oo pp st₀ k ops.size oG;refine GG ho ?_;rw[<- eo];refine hOk F β w a (gj oo pp st₀ (fun j=>listed.getD j false) ops.size).mem (gj oo pp st₀ (fun j=>listed.getD j false) ops.size).env (fJ oo pp st₀ ops.size).nx ?_ C.e C.m ?_ ?_ ?_ r n _ _ ?_
  .intro t ht;rw[<- FK];refine afP oo pp st₀ _ fun j hj M=>?_;rcases Wn j hj M with⟨h1,h2⟩|⟨h1,h2⟩
   .have:=(Oper.apart_spec (OD j k h1 nF (XK j h1 h2))).1;exact fun hd=>this t hd ht
   .have:=(Oper.apart_spec (OD k j h1 hj (Jk j h1 h2))).2.2;exact fun hd=>this t hd ht
  .intro i hi M;rw[<- FK] at M ⊢;refine afQ oo pp st₀ _ fun j hj OE hw=>?_;rw[FK] at M;rcases Wn j hj OE with⟨h1,h2⟩|⟨h1,h2⟩
   .exact M ((tC j k h1 nF (XK j h1 h2)).2.1 i hw hi)
   .exact M ((tC k j h1 hj (Jk j h1 h2)).2.2 i hw hi)
  .intro i h1 h2;refine C.free i (Nat.le_trans (qm oo pp st₀ (Nat.zero_le _)) h1) fun j hj hS J=>?_;rcases Nat.lt_trichotomy j k with h|h|h
   .have:=qm oo pp st₀ (show j+1<=k by omega);rw[sJ,xT] at this;omega
   .subst h;simp only[U] at hS;cases hS
   .have:=qm oo pp st₀ (show k+1<=j by omega);rw[sJ,xT] at this;omega
  .intro i hi;refine C.free i (Nat.le_trans (qm oo pp st₀ (Nat.zero_le _)) hi) fun j hj _ J=>?_;have:=qm oo pp st₀ (show j+1<=ops.size by omega);rw[sJ,xT] at this;omega
  .intro v w' β' X g2 g3 g4
   have hS':(fun j=>(listed.setIfInBounds k true).getD j false)=(fun j=>if j=k then true else listed.getD j false):=by
    funext j;by_cases hj:j=k
    .subst hj;simp[oe]
    .rw[if_neg hj,getD_set_ne false (Ne.symm hj)]
   obtain⟨ae,am⟩:=afR oo pp st₀ (S:=fun j=>listed.getD j false) (k:=k) U ops.size nF fun j iC hj JU=>
    ⟨(Oper.apart_spec (OD k j iC hj (Jk j iC JU))).2.1,(tC k j iC hj (Jk j iC JU)).1⟩
   refine ih _ β' w' _ (by simpa using bS) ?_ (fun h=>by rw[getD_set_ne false (fun e=>XJ e)];exact me h) ?_ ?_
   .have:(listed.setIfInBounds k true).toList=listed.toList.set k true:=by simp
    rw[this,List.countP_set (by simpa using oe)];have h2:0<listed.toList.countP (fun b=> !b):=List.countP_pos_iff.2 ⟨listed[k],oS,by simp[PK]⟩;have J:listed.toList[k]'(by simpa using oe)=false:=by simpa using PK
    rw[J];simp only[Bool.not_false,if_true,Bool.not_true,Bool.false_eq_true,if_false];omega
   .intro j hj o' FL e he hb;by_cases FM:j=k
    .subst FM;rw[ho] at FL;cases FL;exact getD_set_true (Aj e he hb)
    .rw[getD_set_ne false (Ne.symm FM)] at hj;exact getD_set_true (dw j hj o' FL e he hb)
   .rw[hS'];refine⟨?_,by rw[am];exact g2,fun i hi hn=>?_,C.step.trans g3,fun i hi hn=>?_,by rw[DY];exact C.size,by rw[put_defers];exact C.defers⟩
    .rw[ae];have hd:∀ t,(oo k).dst=some t->t<a.tmps.size:=fun t ht=>by rw[C.size];rw[eo] at ht;exact DK al ho t ht
     have he:=C.e.step g3;cases lY:(oo k).dst with
     |none=>exact he
     |some t=>exact he.put (some t) _ _ X (fun u hu=>hd u (by rw[lY];exact hu))
    .have h1:=hn k nF oS;have h2:=C.free i hi fun j hj JU=>hn j hj (by by_cases FM:j=k<;>simp[FM,JU]);exact g4 i h2 oG
    .exact g4 i (C.grow i hi hn) (.inl (Nat.lt_of_lt_of_le (Nat.lt_of_lt_of_le hi hN) (qm oo pp st₀ (Nat.zero_le _))))
theorem afS{o:Oper}{st:St}{r:Option Nat}{n:Nat}{i:Nat}(ho:ops[i]? =some o)(al:qB a₀.tmps.size ops=true)(h:ax P kT ops false [] Q [o] st []):Ir P F ops Q N₀ β₀ w₀ a₀ r n o st:=by
 intro β w a hs J K X;have hd:∀ t,o.dst=some t->t<a.tmps.size:=fun t ht=>by rw[J.size];exact DK al ho t ht
 simp only[ax] at h;rcases Lm h with⟨p,h1,_,C⟩|⟨_,f,args,h1,h2,C,U⟩|⟨_,l,args,h1,h2,C,U⟩
 .exact GY h1 hs hd r n _ fun β' a' w' M O=>X _ _ ⟨_,β',C.2,M,J.trans O⟩
 .exact RJ h1 h2 C U hs hd r n _ fun d m' aD β' a' w' hp M O=>X _ _ ⟨_,β',hp.2,M,J.trans O⟩
 .exact U.elim
theorem RK(h:zX ops=true):0<ops.size/\∀ i,i<ops.size - 1->((ju ops.toList []).getD (ops.size - 1) 0).testBit i=true:=by
 unfold zX at h;simp only[aB,bT,List.mem_range] at h;exact⟨by simpa using h.1,h.2⟩
theorem Ln{st:St}{β:aJ}{w:World}{a:Act}{r:Option Nat}{n id nl:Nat}{ps:List bL}(lV:P.follows .mixedOrders=true)(hi:bV ops=some cf)(al:qB a₀.tmps.size ops=true)(fI:nl<=ops.size)
 (X:∀ j,j<nl->(ps.getD j default).Ok P ops (ops.toList.getD j default) (fJ (fun j=>ops.toList.getD j default) (fun j=>ps.getD j default) st j)/\(ps.getD j default).n3 (cM (ops.toList.getD j default).op) (fJ (fun j=>ops.toList.getD j default) (fun j=>ps.getD j default) st j))
 (hQ:nl=ops.size->Q .normal (fJ (fun j=>ops.toList.getD j default) (fun j=>ps.getD j default) st ops.size))
 (hL:nl<ops.size->nl+1=ops.size/\(∀ i,i<nl->((ju ops.toList []).getD nl 0).testBit i=true)/\∀ r n,Ir P F ops Q N₀ β₀ w₀ a₀ r n (ops.toList.getD nl default) (fJ (fun j=>ops.toList.getD j default) (fun j=>ps.getD j default) st nl))
 (U:∃ O:mP,(∀ j,j<nl->O.getD j ([],[])=((ps.getD j default).rd,(ps.getD j default).wr))/\∀ q∈cf,rU O q.1 q.2)
 (hs:cK P F st β w a) (C:eW N₀ β₀ w₀ a₀ st β w a):(Code.region id ops true).wpIn (Fe r) n P (ep P F N₀ β₀ w₀ a₀ Q) a w:=by
 refine wpIn_region_any lV ?_
 have J:gj (fun j=>ops.toList.getD j default) (fun j=>ps.getD j default) st (fun j=>(Array.replicate ops.size false).getD j false) ops.size=st:=by
  have:∀ n,gj (fun j=>ops.toList.getD j default) (fun j=>ps.getD j default) st (fun j=>(Array.replicate ops.size false).getD j false) n=st:=by
   intro n
   induction n with
   |zero=>rfl
   |succ n ih=>
    have:(Array.replicate ops.size false).getD n false=false:=by simp[Array.getD_eq_getD_getElem?,Array.getElem?_replicate];split<;>rfl
    simp only[gj,this,Bool.false_eq_true,if_false];exact ih
  exact this _
 have M:Step β w β { w with drawn:=w.drawn+1 }:=⟨bM _,fun _ _ h=>⟨rfl,h⟩,fun _ _ h=>.inl h,⟨rfl,rfl⟩,fun _ _ _ _=>px rfl⟩
 refine adZ (st₀:=st) (oo:=fun j=>ops.toList.getD j default) (pp:=fun j=>ps.getD j default) hi (fun j o hj=>by simp[hj]) al nl fI X hQ hL U (fun i hi=>?_) C.le r n ops.size _ β _ a oS ?_ (fun h=>?_) ?_ ?_
 .cases hm:st.mem i with
  |none=>rfl
  |some row=>
   obtain⟨p,hp,_⟩:=hs.m.row i row hm;rw[hs.n i hi] at hp;cases hp
 .simpa using List.countP_le_length (p:=fun b=> !b) (l:=(Array.replicate ops.size false).toList)
 .simp[Array.getD_eq_getD_getElem?,Array.getElem?_replicate];split<;>rfl
 .intro j hj;exfalso;have:(Array.replicate ops.size false).getD j false=false:=by simp[Array.getD_eq_getD_getElem?,Array.getElem?_replicate];split<;>rfl
  rw[this] at hj;cases hj
 .refine⟨?_,?_,fun i hi _=>hs.n i hi,C.step.trans M,C.grow,C.size,C.defers⟩
  .rw[J];exact hs.e.step M
  .rw[J];exact hs.m.ext (bM _) fun _ _=>rfl
theorem aaz{Y:gn}{st:St}{β:aJ}{w:World}{a:Act}{r:Option Nat}{n id:Nat}(lV:P.follows .mixedOrders=true)(hi:bV ops=some cf)(al:qB a₀.tmps.size ops=true)
 (h:Iq P Y ops cf Q st) (hs:cK P F st β w a) (cz:eW N₀ β₀ w₀ a₀ st β w a):(Code.region id ops true).wpIn (Fe r) n P (ep P F N₀ β₀ w₀ a₀ Q) a w:=by
 obtain⟨ps,nl,fI,cE,hQ,hL,X⟩:∃ (ps:List bL) (nl:Nat),nl<=ops.size/\
  (∀ j,j<nl->(ps.getD j default).Ok P ops (ops.toList.getD j default) (fJ (fun j=>ops.toList.getD j default) (fun j=>ps.getD j default) st j)/\(ps.getD j default).n3 (cM (ops.toList.getD j default).op) (fJ (fun j=>ops.toList.getD j default) (fun j=>ps.getD j default) st j))/\
  (nl=ops.size->Q .normal (fJ (fun j=>ops.toList.getD j default) (fun j=>ps.getD j default) st ops.size))/\
  (nl<ops.size->nl+1=ops.size/\(∀ i,i<nl->((ju ops.toList []).getD nl 0).testBit i=true)/\∀ r n,Ir P F ops Q N₀ β₀ w₀ a₀ r n (ops.toList.getD nl default) (fJ (fun j=>ops.toList.getD j default) (fun j=>ps.getD j default) st nl))/\
  ∃ U:mP,(∀ j,j<nl->U.getD j ([],[])=((ps.getD j default).rd,(ps.getD j default).wr))/\∀ q∈cf,rU U q.1 q.2:=by
  rcases h with h|⟨hl,h⟩
  .obtain⟨ps,M⟩:=K8 _ _ _ h;have C:=DJ (fun j=>ops.toList.getD j default) (fun j=>ps.getD j default) st ops.toList ps 0 [] (fun j o hj=>by simp at hj;simp[hj]) (fun j p hj=>by simp[hj]) rfl oS M;simp only[Nat.zero_add,Array.length_toList] at C;obtain⟨h1,h2,J⟩:=C;exact⟨ps,ops.size,bM _,fun j hj=>h1 j (Nat.zero_le _) hj,fun _=>h2,fun h=>absurd h (Nat.lt_irrefl _),J⟩
  .obtain⟨hp,hb⟩:=RK hl;obtain⟨ps,M⟩:=K8 _ _ _ h;have hlen:(ops.toList.take (ops.size - 1)).length=ops.size - 1:=by simp
   have C:=DJ (fun j=>ops.toList.getD j default) (fun j=>ps.getD j default) st (ops.toList.take (ops.size - 1)) ps 0 [] (fun j o hj=>by
    have lJ:j<ops.size - 1:=by rw[<- hlen];exact(bX.1 hj).1
    rw[List.getElem?_take,if_pos lJ] at hj
    simp at hj;simp[hj]) (fun j p hj=>by simp[hj]) rfl oS M
   rw[hlen] at C;simp only[Nat.zero_add] at C;obtain⟨h1,h2,J⟩:=C;refine⟨ps,ops.size - 1,oG,fun j hj=>h1 j (Nat.zero_le _) hj,fun h=>by omega,fun _=>⟨oG,hb,fun r n=>?_⟩,J⟩
   have hx:ops[ops.size - 1]? =some (ops.toList.getD (ops.size - 1) default):=by
    have al:ops.size - 1<ops.size:=by omega
    simp[al]
   refine afS hx al ?_;have O:=h2.2
   have hd:ops.toList.drop (ops.size - 1)=[ops.toList.getD (ops.size - 1) default]:=by
    have al:ops.size - 1<ops.toList.length:=by simp;omega
    rw[List.drop_eq_getElem_cons al,List.drop_eq_nil_of_le oP];have r6:ops.size - 1<ops.size:=by omega
    simp[List.getD,r6]
   rw[hd] at O;exact O
 exact Ln lV hi al fI cE hQ hL X hs cz
end
section
variable{P:Program}{F:Nat->Prop}
theorem adV{β β':aJ}{w:World}{m:Mem}(hm:aL P F m β w){i:Nat}{cs:List D}{e:TypeId}(aA:m i=some (.cells cs e))(hβ:β'=up β i (some .dead)){d:D}{v:Value}(h:R F β w d v):
 R F β' w (dh i cs (P.cellsOf e) d) v:=by
 have hs:Step β w β' w:=by rw[hβ];exact Bd β w i
 have X:=h.step hs;obtain⟨p,hp,hr⟩:=hm.row i _ aA;unfold dh;split
 .rename_i j off n;split
  .rename_i U;subst U;cases h with
   |l9 _ _ _ _ h1 _=>
    rw[h1] at hp;cases hp;cases hr
   |jO _ a h1=>
    rw[h1] at hp;cases hp;cases hr;simp only[List.drop_nil,List.take_nil];exact .jy a 0
   |kO _ _ a b o len room sz h1=>
    simp only[Nat.zero_mul,List.take_zero];exact .jy a 0
   |rs _ _ _ cap b o len room sz h1 hn dO h2 h3=>
    rw[h1] at hp;cases hp;have J:β j=some (.cells b o len room sz):=h1;obtain⟨O,hl,bS,_⟩:=hr.rd;have M:=(O.drop off).take (n*P.cellsOf e);obtain⟨us,u1,u2⟩:=M;refine .sl _ n b (o+off) cap us (hm.nf j _ b J rfl) ?_ (hm.lt j _ b J rfl) hn dO u1 fun k d hk=>(u2 k d hk).step hs;rw[hβ];intro k q hq;by_cases C:k=j
    .subst C;rw[an] at hq;cases hq;simp[Pl.bF]
    .rw[aZ _ _ C] at hq;exact hm.sE J rfl hq C
  .exact X
 .rename_i j off;split
  .rename_i U;subst U;cases h with
   |tw _ _ _ h1 _=>
    rw[h1] at hp;cases hp;cases hr
   |rp _ _ b o len room sz h1=>
    rw[h1] at hp;cases hp;obtain⟨O,hl,bS,_⟩:=hr.rd;obtain⟨us,u1,u2⟩:=O.drop off;refine .pt _ b (o+off) us (hm.nf j _ b h1 rfl) ?_ (hm.lt j _ b h1 rfl) u1 fun k d hk=>(u2 k d hk).step hs;rw[hβ];intro k q hq;by_cases C:k=j
    .subst C;rw[an] at hq;cases hq;simp[Pl.bF]
    .rw[aZ _ _ C] at hq;exact hm.sE h1 rfl hq C
  .exact X
 .exact X
theorem adW{β β':aJ}{w:World}{m:Mem}(hm:aL P F m β w){i:Nat}{es:List (Value×D)}(aA:m i=some (.map es))(M:β'=up β i (some .dead)){d:D}{v:Value}(h:R F β w d v):R F β' w (Ay i es d) v:=by
 have hs:Step β w β' w:=by rw[M];exact Bd β w i
 unfold Ay;split
 .rename_i j;split
  .rename_i O;subst O;obtain⟨r,ms,clock,h1,rfl,U,X,h5,J⟩:=h.Er hm aA;refine .im es r ms clock (hm.nf j _ r h1 rfl) ?_ U X h5 (fun k x m hx hm=>(J k x m hx hm).1) fun k x m hx hm=>(J k x m hx hm).2.step hs;rw[M];intro k q hq;by_cases C:k=j
   .subst C;rw[an] at hq;cases hq;simp[Pl.bF]
   .rw[aZ _ _ C] at hq;exact hm.sE h1 rfl hq C
  .exact h.step hs
 .exact h.step hs
section subst
variable{σ:D->D}{β β':aJ}{w:World}
theorem Se(C:∀ {d v},R F β w d v->R F β' w (σ d) v){d:D}{v:Value}(h:R F β w d v):R F β' w (td σ d) v:=by
 unfold td;split
 .rename_i ds;obtain⟨vs,rfl,hl,hh⟩:=h.sM;refine .agg _ vs (by simpa using hl) fun k d v hd hv=>?_;simp only[List.getElem?_map,dI] at hd;obtain⟨d',J,rfl⟩:=hd;exact C (hh k d' v J hv)
 .cases h with
  |cS c d _ h1 h2=>exact .cS _ _ v (fun hc=>C (h1 hc)) h2
 .exact C h
theorem DW(C:∀ {d v},R F β w d v->R F β' w (σ d) v){d:D}{v:Value}(h:R F β w d v):R F β' w (sub σ d) v:=by
 have map:∀ (ds:List D) (vs:List Value),(∀ (k:Nat) (d:D) (v:Value),ds[k]? =some d->vs[k]? =some v->R F β w d v)->
  ∀ (k:Nat) (d:D) (v:Value),(ds.map (td σ))[k]? =some d->vs[k]? =some v->R F β' w d v:=fun ds vs hh k d v hd hv=>by
  simp only[List.getElem?_map,dI] at hd;obtain⟨d',J,rfl⟩:=hd;exact Se C (hh k d' v J hv)
 unfold sub;split
 .rename_i ds;obtain⟨vs,rfl,hl,hh⟩:=h.Bt;exact .bd _ vs (by simpa using hl) (map ds vs hh)
 .rename_i f fs ds;cases h with
  |fn _ _ _ us vs hl nD h1 h2=>exact .fn f _ _ us vs (by simpa using hl) (by simpa using nD) (map fs us h1) (map ds vs h2)
 .exact Se C h
theorem afL(J:∀ {d v},R F β w d v->R F β' w (σ d) v)(hs:Step β w β' w){r:Row}{p:Pl}(h:c7 P F β w r p):c7 P F β' w (r.sub σ) p:=by
 cases h with
 |nil C=>exact .nil C
 |cells ds C b o room sz c hc hr hlen bS hh=>
  have:=c7.cells (P:=P) (F:=F) (β:=β') (w:=w) (ds.map (Abs.sub σ)) C b o room sz c hc hr (by simpa using hlen) bS fun k d hk=>by
   simp only[List.getElem?_map,dI] at hk;obtain⟨d',O,rfl⟩:=hk;obtain⟨v,h1,h2,M⟩:=hh k d' O;exact⟨v,h1,DW J h2,M⟩
  simpa[Row.sub] using this
 |map es r ms clock hc hl eN hh=>
  refine .map _ r ms clock hc (by simpa using hl) (by simpa[List.map_map,Function.comp_def] using eN) fun k x U hk tx=>?_;simp only[List.getElem?_map,dI] at hk;obtain⟨x',X,rfl⟩:=hk;obtain⟨h1,h2⟩:=hh k x' U X tx;exact⟨h1,DW J h2⟩
 |raw r o hc=>exact .raw r o hc
 |bs u x T b v hc bS hx h1=>exact .bs u _ T b v hc bS (DW J hx) h1
 |lp k r L hc hk=>exact .lp k r L hc hk
 |jz f r _ F₂ h1 h2 h=>exact(c7.jz f r p F₂ h1 h2 h).step hs fun _ _=>rfl
end subst
theorem Rm{σ:D->D}{env:Env}{m:Mem}{nx i:Nat}{row:Row}(h:m i=some row){w:World}{a:Act}{β:aJ}(hs:cK P F ⟨env,m,nx⟩ β w a)(U:∀ {d v},R F β w d v->R F (up β i (some .dead)) w (σ d) v):
 ∃ β',cK P F ⟨fun t=>sub σ (env t),fun j=>if j=i then none else(m j).map (Row.sub σ),nx⟩ β' w a/\eW nx β w a ⟨fun t=>sub σ (env t),fun j=>if j=i then none else(m j).map (Row.sub σ),nx⟩ β' w a:=by
 have O:=Bd β w i;have hm:=hs.m;simp only at hm
 have M:∀ j q b,up β i (some .dead) j=some q->q.bF=some b->j≠i/\β j=some q:=fun j q b hq e=>by
  by_cases hj:j=i
  .subst hj;rw[an] at hq;cases hq;simp[Pl.bF] at e
  .rw[aZ _ _ hj] at hq;exact⟨hj,hq⟩
 have hi:∃ p,β i=some p:=by
  obtain⟨p,hp,_⟩:=hm.row i _ h;exact⟨p,hp⟩
 refine⟨up β i (some .dead),⟨fun t=>DW U (hs.e t),⟨fun j r hj=>?_,fun j k q X b hq jN C e2=>hm.inj j k q X b (M j q b hq C).2 (M k X b jN e2).2 C e2,
  fun j q b hq C=>hm.lt j q b (M j q b hq C).2 C,fun j q b hq C=>hm.nf j q b (M j q b hq C).2 C,hm.fb⟩,fun j hj=>?_⟩,⟨O,bM _,fun j hj hn=>?_,rfl,rfl⟩⟩
 .simp only at hj;by_cases J:j=i
  .rw[if_pos J] at hj;cases hj
  .rw[if_neg J] at hj;simp only[dI] at hj;obtain⟨r',iD,rfl⟩:=hj;obtain⟨q,hq,aA⟩:=hm.row j r' iD;exact⟨q,by rw[aZ _ _ J];exact hq,afL U O aA⟩
 .have J:j≠i:=fun C=>by
   subst C;obtain⟨p,hp⟩:=hi;rw[hs.n j hj] at hp;cases hp
  rw[aZ _ _ J];exact hs.n j hj
 .have J:j≠i:=fun C=>by
   subst C;obtain⟨p,hp⟩:=hi;rw[hn] at hp;cases hp
  rw[aZ _ _ J];exact hn
theorem adX{β:aJ}{w:World}{cs cs':List D}{e:TypeId}{p:Pl}(hl:cs'.length=cs.length)(M:∀ (k:Nat) (d d':D),cs[k]? =some d->cs'[k]? =some d'->Wk d d')(h:c7 P F β w (.cells cs e) p):c7 P F β w (.cells cs' e) p:=by
 cases h with
 |nil _=>
  have:cs'=[]:=List.length_eq_zero_iff.1 (by simpa using hl);subst this;exact .nil e
 |cells _ _ b o room sz c hc hr hlen bS hh=>
  rw[<- hl];refine .cells cs' e b o room sz c hc hr oG bS fun k d' C=>?_;have hk:k<cs.length:=by rw[<- hl];exact(bX.1 C).1
  obtain⟨v,h1,h2,J⟩:=hh k cs[k] (by simp[hk]);exact⟨v,h1,M k cs[k] d' (by simp[hk]) C _ _ _ _ h2,J⟩
theorem Rn{st st':St}(h:aM P st st'){w:World}{a:Act}:∀ {β:aJ},cK P F st β w a->∃ β',cK P F st' β' w a/\eW st.nx β w a st' β' w a:=by
 induction h with
 |refl st=>exact fun {β} hs=>⟨β,hs,eW.refl st β w a⟩
 |trans _ _ ih₁ ih₂=>
  intro β hs;obtain⟨β₁,h1,h2⟩:=ih₁ hs;obtain⟨β₂,U,X⟩:=ih₂ h1;exact⟨β₂,U,h2.trans X⟩
 |forget env env' m nx h=>
  intro β hs;refine⟨β,⟨fun t=>?_,hs.m,hs.n⟩,⟨Step.refl β w,bM _,fun _ _ h=>h,rfl,rfl⟩⟩;rcases h t with h1|h1
  .simp only[h1];exact hs.e t
  .simp only[h1];exact .u _
 |drop env m m' nx h=>
  intro β hs;refine⟨β,⟨hs.e,⟨fun i r hi=>?_,hs.m.inj,hs.m.lt,hs.m.nf,hs.m.fb⟩,hs.n⟩,⟨Step.refl β w,bM _,fun _ _ h=>h,rfl,rfl⟩⟩;rcases h i with h1|h1
  .exact hs.m.row i r (h1.symm.trans hi)
  .simp only at hi;rw[h1] at hi;cases hi
 |uP env env' m m' nx h gh=>
  intro β hs;refine⟨β,⟨fun t=>h t _ _ _ _ (hs.e t),⟨fun i r hi=>?_,hs.m.inj,hs.m.lt,hs.m.nf,hs.m.fb⟩,hs.n⟩,⟨Step.refl β w,bM _,fun _ _ h=>h,rfl,rfl⟩⟩;rcases gh i with h1|⟨cs,cs',e,h1,h2,U,X⟩
  .exact hs.m.row i r (h1.symm.trans hi)
  .simp only at hi;rw[h2] at hi;cases hi;obtain⟨p,hp,hr⟩:=hs.m.row i _ h1;exact⟨p,hp,adX U X hr⟩
 |freeze env m nx i cs e h=>
  intro β hs;exact Rm h hs fun hr=>adV hs.m h rfl hr
 |T' env m nx i es h=>
  intro β hs;exact Rm h hs fun hr=>adW hs.m h rfl hr
 |sU env m nx t e h=>
  intro β hs;have hm:=hs.m;have hn:β nx=none:=hs.n nx (bM _);simp only at hm
  have J:∀ j q b,up β nx (some .nil) j=some q->q.bF=some b->j≠nx/\β j=some q:=fun j q b hq e=>by
   by_cases hj:j=nx
   .subst hj;rw[an] at hq;cases hq;simp[Pl.bF] at e
   .rw[aZ _ _ hj] at hq;exact⟨hj,hq⟩
  have O:Step β w (up β nx (some .nil)) w:=by
   refine⟨bM _,fun b _ hf=>⟨rfl,fun j q hq C=>?_⟩,fun j q hq=>.inl ?_,⟨rfl,rfl⟩,fun _ _ _ _=>px rfl⟩
   .exact hf j q (J j q b hq C).2 C
   .rw[aZ _ _ (fun C=>by rw[C,hn] at hq;cases hq)];exact hq
  refine⟨up β nx (some .nil),⟨fun u=>?_,⟨fun j r hj=>?_,fun j k q q' b hq jN C e2=>hm.inj j k q q' b (J j q b hq C).2 (J k q' b jN e2).2 C e2,
   fun j q b hq C=>hm.lt j q b (J j q b hq C).2 C,fun j q b hq C=>hm.nf j q b (J j q b hq C).2 C,hm.fb⟩,fun j hj=>?_⟩,⟨O,Nat.le_succ _,fun j hj hb=>?_,rfl,rfl⟩⟩
  .by_cases hu:u=t
   .subst hu;have h1:=hs.e u;simp only at h1;rw[h] at h1;obtain⟨x,hx⟩:=h1.B2;simp only[an,hx];exact .jO nx x (an _ _ _)
   .simp only[aZ _ _ hu];exact(hs.e u).step O
  .simp only at hj;by_cases M:j=nx
   .subst M;rw[an] at hj;cases hj;exact⟨.nil,an _ _ _,.nil e⟩
   .rw[aZ _ _ M] at hj;obtain⟨q,hq,aA⟩:=hm.row j r hj;exact⟨q,by rw[aZ _ _ M];exact hq,aA.step O fun _ _=>rfl⟩
  .simp only at hj;rw[aZ _ _ (show j≠nx by omega)];exact hs.n j (by simp only;omega)
  .simp only at hj;rw[aZ _ _ (show j≠nx by omega)];exact hb
def iO(N:Nat):Code->Bool
 | .region _ ops _=>qB N ops
 | .seq a b=>iO N a&&iO N b
 | .cond _ a b=>iO N a&&iO N b
 | .block _ b=>iO N b
 | .loop b=>iO N b
 | .scope b=>iO N b
 | .rangeFunc _ ps a b=>(ps.toList.all fun t=>Nat.blt t N)&&(iO N a&&iO N b)
 |_=>true
theorem Rb{X:Fence}{n:Nat}{Q:Exit->Act->World->Prop}{c:Code}(J:Nat->Act->World->Prop){j₀:Nat}{a:Act}{w:World}(h₀:J j₀ a w)
 (round:∀ j a w,J j a w->c.wpIn X n P (Exit.then (fun a' w'=>∃ U,U<j/\J U a' w') Q) a w):(Code.loop c).wpIn X n P Q a w:=by
 intro b k cs PD hb hr
 have key:∀ j a w,J j a w->
  ∃ e a' w',Q e a' w'/\ArrivesIn (Machine.fenced P X) P (lone (b.atR a (.code c::.inLoop c::k)) cs w) b k cs e a' w':=by
  intro j
  induction j using Nat.strongRecOn with
  |_ j ih=>
   intro a w hI;obtain⟨e,M,O,hq,C⟩:=round j a w hI b (.inLoop c::k) cs PD hb hr;cases e with
   |normal=>
    obtain⟨U,al,hI₁⟩:=hq;obtain⟨e₂,a₂,w₂,hq₂,ah1⟩:=ih U al M O hI₁;exact⟨e₂,a₂,w₂,hq₂,.of_steps (StepsIn.trans C (.one (fenced_calm hb hr rfl) stepR_inLoop)) ah1⟩
   |exit id=>exact⟨_,M,O,hq,.pass (x:=.inLoop c) rfl (fun _ _=>.inl oS) C⟩
   |goto l=>exact⟨_,M,O,hq,.pass (x:=.inLoop c) rfl (fun _ _=>.inl oS) C⟩
   |ret=>exact⟨_,M,O,hq,.pass (x:=.inLoop c) rfl (fun _ _=>.inl oS) C⟩
   |panic ch=>exact⟨_,M,O,hq,.pass (x:=.inLoop c) rfl (fun _ _=>.inl oS) C⟩
   |outgrown=>exact⟨_,M,O,hq,.pass (x:=.inLoop c) rfl (fun _ _=>.inl oS) C⟩
 obtain⟨e,a',w',hq,C⟩:=key _ a w h₀;exact⟨e,a',w',hq,.of_steps (.one (fenced_calm hb hr rfl) stepR_loop) C⟩
def mark(b:Nat):Deferred:={ target:=.collected b,args:= #[] }
def Marks(β:aJ)(w:World)(lo:Nat):List Deferred->Nat->Prop
 |[],_=>True
 |d::ds,hi=>∃ b,d=mark b/\lo<=b/\b<hi/\w.heap[b]? =some (.deferred (some []))/\β.free b/\Marks β w lo ds b
theorem Marks.step{β β':aJ}{w w':World}(hs:Step β w β' w'){lo:Nat}:∀ {ds:List Deferred} {hi:Nat},hi<=w.heap.size->Marks β w lo ds hi->Marks β' w' lo ds hi
 |[],_,_,_=>trivial
 |d::ds,hi,hle,⟨b,h1,h2,h3,h4,h5,h6⟩=>by
  obtain⟨C,J⟩:=hs.fp b oG h5;exact⟨b,h1,h2,h3,C.trans h4,J,Marks.step hs oG h6⟩
theorem Marks.mono{β:aJ}{w:World}{lo hi C:Nat}(h:hi<=C):∀ {ds:List Deferred},Marks β w lo ds hi->Marks β w lo ds C
 |[],_=>trivial
 |_::_,⟨b,h1,h2,h3,h4⟩=>⟨b,h1,h2,oG,h4⟩
theorem Marks.append{β:aJ}{w:World}{lo mid:Nat}(J:lo<=mid){C:List Deferred}:∀ {ds:List Deferred} {hi:Nat},mid<=hi->Marks β w mid ds hi->Marks β w lo C mid->Marks β w lo (ds++C) hi
 |[],_,hle,_,h'=>Marks.mono hle h'
 |_::_,_,_,⟨b,h1,h2,h3,h4,h5,h6⟩,h'=>⟨b,h1,oG,h3,h4,h5,Marks.append J h2 h6 h'⟩
structure o7(N:Nat)(β:aJ)(w:World)(a:Act)(st':St)(β':aJ)(w':World)(a':Act):Prop where
 step:Step β w β' w'
 le:N<=st'.nx
 grow:∀ i,i<N->β i=none->β' i=none
 size:a'.tmps.size=a.tmps.size
 defers:∃ ds,a'.defers=ds++a.defers/\Marks β' w' w.heap.size ds w'.heap.size
theorem eW.Az{N:Nat}{β β':aJ}{w w':World}{a a':Act}{st':St}(h:eW N β w a st' β' w' a'):o7 N β w a st' β' w' a':=
 ⟨h.step,h.le,h.grow,h.size,[],h.defers,trivial⟩
theorem o7.trans{N:Nat}{β β₁ β₂:aJ}{w M O:World}{a C J:Act}{U X:St}(h:o7 N β w a U β₁ M C)(k:o7 U.nx β₁ M C X β₂ O J):o7 N β w a X β₂ O J:=by
 obtain⟨ds,e1,h1⟩:=h.defers;obtain⟨yT,e2,h2⟩:=k.defers
 exact⟨h.step.trans k.step,Nat.le_trans h.le k.le,fun i hi hn=>k.grow i (Nat.lt_of_lt_of_le hi h.le) (h.grow i hi hn),k.size.trans h.size,yT++ds,by rw[e2,e1,List.append_assoc],
  Marks.append h.step.size k.step.size h2 (h1.step k.step (bM _))⟩
theorem o7.since{N:Nat}{β β₁ β₂:aJ}{w M O:World}{a C J:Act}{U X:St}(h:o7 N β w a U β₁ M C)(k:eW U.nx β₁ M C X β₂ O J):o7 N β w a X β₂ O J:=h.trans k.Az
def EE(P:Program)(F:Nat->Prop)(N:Nat)(β:aJ)(w:World)(a:Act)(Q:Exit->St->Prop)(e:Exit)(a':Act)(w':World):Prop:=
 ∃ st' β',Q e st'/\cK P F st' β' w' a'/\o7 N β w a st' β' w' a'
theorem qC.base{J:aJ}{C:World}{β:aJ}{w:World}(hs:Step J C β w){l:Nat}{args:List D}{m:Mem}{nx:Nat}{K:D->Mem->Nat->Prop}(h:qC P F J C l args m nx K):qC P F β w l args m nx K:=
 fun β' w' us M=>h β' w' us (hs.trans M)
theorem sE{β:aJ}{i:Nat}{p:Option Pl}{b:Nat}(h:β.free b)(hp:∀ q,p=some q->q.bF≠some b):aJ.free (up β i p) b:=fun j q hq=>by
 by_cases hj:j=i
 .subst hj;rw[an] at hq;exact hp q hq
 .rw[aZ _ _ hj] at hq;exact h j q hq
theorem R.uQ{β:aJ}{w:World}{l:Nat}(C:F l)(o:Obj){d:D}{v:Value}(h:R F β w d v):R F β (w.putObj l o) d v:=
 h.gen oS (fun b _ hb hf=>⟨zy (World.putObj_heap_other fun e=>hb (e▸C)),hf,hb⟩) fun _ _ _ h=>.inl h
theorem c7.uQ{β:aJ}{w:World}{l:Nat}(C:F l)(o:Obj){r:Row}{p:Pl}(hp:∀ b,p.bF=some b->b≠l)(h:c7 P F β w r p):c7 P F β (w.putObj l o) r p:=
 h.gen oS (fun b _ hb hf=>⟨zy (World.putObj_heap_other fun e=>hb (e▸C)),hf,hb⟩) (fun _ _ _ h=>.inl h) fun b hb=>World.putObj_heap_other (hp b hb)
theorem aL.uQ{m:Mem}{β:aJ}{w:World}{l:Nat}(C:F l)(J:∀ t∈yx,t.1≠l)(o:Obj)(h:aL P F m β w):aL P F m β (w.putObj l o):=
 ⟨fun i r hi=>by
  obtain⟨p,hp,hr⟩:=h.row i r hi
  exact⟨p,hp,hr.uQ C o fun b hb e=>h.nf i p b hp hb (e▸C)⟩,h.inj,fun i p b hp hb=>by simpa using h.lt i p b hp hb,h.nf,h.fb.next (fun b hb=>by simpa using h.fb.lt b hb) (fun _ h=>h) fun t ht _=>World.putObj_heap_other fun e=>J t ht e⟩
theorem cK.uQ{st:St}{β:aJ}{w:World}{a:Act}{l:Nat}(C:F l)(J:∀ t∈yx,t.1≠l)(o:Obj)(h:cK P F st β w a):cK P F st β (w.putObj l o) a:=
 ⟨fun t=>(h.e t).uQ C o,h.m.uQ C J o,h.n⟩
theorem R.uP{F':Nat->Prop}(C:∀ b,F' b->F b){β:aJ}{w:World}{d:D}{v:Value}(h:R F β w d v):R F' β w d v:=
 h.gen (bM _) (fun b _ hb hf=>⟨pM.refl w b,hf,fun e=>hb (C b e)⟩) fun _ _ _ h=>.inl h
theorem aL.uP{F':Nat->Prop}(C:∀ b,F' b->F b)(J:∀ t∈yx,F' t.1){m:Mem}{β:aJ}{w:World}(h:aL P F m β w):aL P F' m β w:=
 ⟨fun i r hi=>by
  obtain⟨p,hp,hr⟩:=h.row i r hi
  exact⟨p,hp,hr.gen (bM _) (fun b _ hb hf=>⟨pM.refl w b,hf,fun e=>hb (C b e)⟩) (fun _ _ _ h=>.inl h) fun _ _=>rfl⟩,h.inj,h.lt,fun i p b hp hb e=>h.nf i p b hp hb (C b e),⟨fun b hb=>h.fb.lt b (C b hb),fun t ht=>⟨J t ht,(h.fb.lH t ht).2⟩⟩⟩
theorem Th{β:aJ}{b:Nat}(h:¬ β.free b):∃ i p,β i=some p/\p.bF=some b:=by
 unfold aJ.free at h;simp only[Classical.not_forall] at h;obtain⟨i,p,hp,hb⟩:=h;exact⟨i,p,hp,Decidable.not_not.1 hb⟩
structure View(il n₀:Nat)(f:Nat->Option Nat)(mc:Mem)(nc:Nat)(m:Mem)(nx:Nat):Prop where
 low:n₀<=nc
 lt:il<nx
 id:∀ i,i<n₀->f i=some i
 JM:∀ i,i<nc->∃ j,f i=some j/\j<nx/\j≠il
 out:∀ i,nc<=i->f i=none
 inj:∀ i i' j,f i=some j->f i'=some j->i=i'
 rows:∀ i r,mc i=some r->∃ j,f i=some j/\m j=some (r.uR f)
theorem View.yz{il n₀:Nat}{f:Nat->Option Nat}{mc:Mem}{nc:Nat}{m:Mem}{nx:Nat}(h:View il n₀ f mc nc m nx){i j:Nat}(hf:f i=some j):i<nc/\j<nx/\j≠il:=by
 rcases Nat.lt_or_ge i nc with al|C
 .obtain⟨M,h1,h2,J⟩:=h.JM i al;rw[hf] at h1;cases h1;exact⟨al,h2,J⟩
 .rw[h.out i C] at hf;cases hf
theorem View.ext{il n₀:Nat}{f:Nat->Option Nat}{mc:Mem}{nc:Nat}{m m':Mem}{nx aD:Nat}(h:View il n₀ f mc nc m nx)(C:nx<=aD)(he:∀ i,i<nx->m' i=m i):View il n₀ f mc nc m' aD:=
 ⟨h.low,Nat.lt_of_lt_of_le h.lt C,h.id,fun i hi=>by
  obtain⟨j,h1,h2,J⟩:=h.JM i hi;exact⟨j,h1,oG,J⟩,h.out,h.inj,fun i r hi=>by
  obtain⟨j,h1,h2⟩:=h.rows i r hi
  exact⟨j,h1,(he j (h.yz h1).2.1).trans h2⟩⟩
theorem ab6{f:Nat->Option Nat}{m:Mem}{β:aJ}{w:World}(hm:aL P F m β w){b:Nat}(h:hidden F β f b):b<w.heap.size:=by
 rcases h with h|⟨h,_⟩
 .exact hm.fb.lt b h
 .obtain⟨i,p,hp,hb⟩:=Th h;exact hm.lt i p b hp hb
theorem View.enter{il n₀:Nat}{f:Nat->Option Nat}{mc:Mem}{nc:Nat}{m:Mem}{nx:Nat}(h:View il n₀ f mc nc m nx){β:aJ}{w:World}(hm:aL P F m β w):
 aL P (hidden F β f) mc (β.via f) w/\∀ i,nc<=i->(β.via f) i=none:=by
 have look:∀ i p,(β.via f) i=some p->∃ j,f i=some j/\β j=some p:=fun i p hp=>Option.bind_eq_some_iff.1 hp;refine⟨⟨fun i r hi=>?_,fun i i' p q b hp hq e J=>?_,fun i p b hp e=>?_,fun i p b hp e C=>?_,hm.fb.next (fun b hb=>ab6 hm hb) (fun _ h=>.inl h) fun _ _ _=>rfl⟩,fun i hi=>?_⟩
 .obtain⟨j,h1,h2⟩:=h.rows i r hi;obtain⟨p,hp,hr⟩:=hm.row j _ h2;exact⟨p,by simp[aJ.via,h1,hp],hr.seen⟩
 .obtain⟨j,h1,h2⟩:=look i p hp;obtain⟨U,M,O⟩:=look i' q hq;have:=hm.inj j U p q b h2 O e J;subst this;exact h.inj i i' j h1 M
 .obtain⟨j,h1,h2⟩:=look i p hp;exact hm.lt j p b h2 e
 .obtain⟨j,h1,h2⟩:=look i p hp;rcases C with C|⟨_,C⟩
  .exact hm.nf j p b h2 e C
  .exact C i p hp e
 .simp[aJ.via,h.out i hi]
theorem aL.B3{m:Mem}{β:aJ}{w:World}{i l:Nat}{o:Obj}(h:aL P F m β w)(hm:m i=some (.raw l o)):β i=some (.raw l)/\w.heap[l]? =some o/\¬ F l/\l<w.heap.size:=by
 obtain⟨p,hp,hr⟩:=h.row i _ hm;cases hr with
 |raw _ _ hc=>exact⟨hp,hc,h.nf i _ l hp rfl,h.lt i _ l hp rfl⟩
theorem View.Hu{il n₀:Nat}{f:Nat->Option Nat}{mc:Mem}{nc:Nat}{m:Mem}{nx:Nat}(h:View il n₀ f mc nc m nx){β:aJ}{w:World}(hm:aL P F m β w){j:Nat}{p:Pl}{b:Nat}(hj:∀ i,f i≠some j)(hp:β j=some p)(hb:p.bF=some b):
 (β.via f).free b/\hidden F β f b:=by
 have C:(β.via f).free b:=fun i q hq e=>by
  obtain⟨J,h1,h2⟩:=Option.bind_eq_some_iff.1 hq;exact hj i (hm.inj J j q p b h2 hp e hb▸h1)
 exact⟨C,.inr ⟨fun e=>e j p hp hb,C⟩⟩
structure uE(l:Nat)(β:aJ)(w:World)(β':aJ)(w':World):Prop where
 size:w.heap.size<=w'.heap.size
 fp:∀ b,b<w.heap.size->b≠l->β.free b->w'.heap[b]? =w.heap[b]? /\β'.free b
 iR:∀ i p,β i=some p->β' i=some p\/β' i=some .dead
 out:Out w w'
 lp:∀ i r,r≠l->β i=some (.lp r)->β' i=some (.lp r)->Skel w w' r
theorem Step.x{β β':aJ}{w w':World}(h:Step β w β' w')(l:Nat):uE l β w β' w':=⟨h.size,fun b hb _=>h.fp b hb,h.iR,h.out,fun i r _=>h.lp i r⟩
theorem uE.trans{l:Nat}{X β₂ β₃:aJ}{M O U:World}(h:uE l X M β₂ O)(k:uE l β₂ O β₃ U):uE l X M β₃ U:=by
 refine⟨Nat.le_trans h.size k.size,fun b hb J hf=>?_,fun i p hp=>?_,h.out.trans k.out,fun i r hr hp C=>?_⟩
 rotate_left 2
 .rcases h.iR i _ hp with h1|h1
  .exact(h.lp i r hr hp h1).trans (k.lp i r hr h1 C)
  .rcases k.iR i _ h1 with h2|h2<;>(rw[h2] at C;cases C)
 .obtain⟨h1,h2⟩:=h.fp b hb J hf;obtain⟨k1,k2⟩:=k.fp b (Nat.lt_of_lt_of_le hb h.size) J h2;exact⟨k1.trans h1,k2⟩
 .rcases h.iR i p hp with h1|h1
  .exact k.iR i p h1
  .right;rcases k.iR i _ h1 with h2|h2<;>exact h2
theorem uE.put(l:Nat)(β:aJ)(w:World)(o:Obj):uE l β w β (w.putObj l o):=⟨oS,fun b _ C hf=>⟨World.putObj_heap_other C,hf⟩,fun _ _ h=>.inl h,⟨rfl,rfl⟩,fun _ _ hr _ _=>px (World.putObj_heap_other hr)⟩
theorem Sf{n j:Nat}{f:Nat->Option Nat}(C:∀ i i' j,f i=some j->f i'=some j->i=i'):
 (∀ i,(List.range n).find? (fun i=>f i==some j)=some i->f i=some j/\i<n)/\(∀ i,i<n->f i=some j->(List.range n).find? (fun i=>f i==some j)=some i):=by
 refine⟨fun i hi=>⟨by simpa using List.find?_some hi,by simpa using List.mem_of_find?_eq_some hi⟩,fun i hi hf=>?_⟩;cases h:(List.range n).find? (fun i=>f i==some j) with
 |none=>
  have:=List.find?_eq_none.1 h i (by simpa using hi);simp[hf] at this
 |some k=>rw[C i k j hf (by simpa using List.find?_some h)]
theorem View.ah2{il n₀:Nat}{f:Nat->Option Nat}{mc:Mem}{nc:Nat}{m:Mem}{nx:Nat}(h:View il n₀ f mc nc m nx){β:aJ}{w:World}(hm:aL P F m β w)(hn:∀ i,nx<=i->β i=none){l:Nat}{o o':Obj}(hl:m il=some (.raw l o))
 {m':Mem} {O:Nat} {β':aJ} {w':World} (iB:aL P (hidden F β f) m' β' w') (hs:uE l (β.via f) w β' w') (eO:∀ i,O<=i->β' i=none) (hle:nc<=O) (hg:∀ i,i<nc->(β.via f) i=none->β' i=none) (ho:w'.heap[l]? =some o'):
 ∃ C X r5 J,View il n₀ C m' O X r5/\X il=some (.raw l o')/\aL P F X J w'/\(∀ i,r5<=i->J i=none)/\Step β w J w'/\nx<=r5/\∀ i,i<nx->β i=none->J i=none:=by
 obtain⟨FC,od,YH,al⟩:=hm.B3 hl
 let C:Nat->Option Nat:=fun i=>if i<nc then f i else if i<O then some (nx+(i - nc)) else none
 have EF:∀ i,i<nc->C i=f i:=fun i hi=>by simp[C,hi]
 have Nw:∀ i,nc<=i->i<O->C i=some (nx+(i - nc)):=fun i h1 h2=>by simp[C,h2,Nat.not_lt.2 h1]
 have Wm:∀ i,O<=i->C i=none:=fun i h1=>by simp[C,Nat.not_lt.2 h1,Nat.not_lt.2 (Nat.le_trans hle h1)]
 have xM:∀ i j,C i=some j->(f i=some j/\i<nc/\j<nx)\/(nc<=i/\i<O/\j=nx+(i - nc)):=fun i j hf=>by
  rcases Nat.lt_or_ge i nc with h1|h1
  .rw[EF i h1] at hf;exact .inl ⟨hf,h.yz hf |>.1,(h.yz hf).2.1⟩
  .rcases Nat.lt_or_ge i O with h2|h2
   .rw[Nw i h1 h2] at hf;cases hf;exact .inr ⟨h1,h2,rfl⟩
   .rw[Wm i h2] at hf;cases hf
 have Nx:∀ i i' j,C i=some j->C i'=some j->i=i':=fun i i' j h1 h2=>by
  rcases xM i j h1 with⟨a1,a2,a3⟩|⟨a1,a2,a3⟩<;>rcases xM i' j h2 with⟨b1,b2,b3⟩|⟨b1,b2,b3⟩
  .exact h.inj i i' j a1 b1
  .omega
  .omega
  .omega
 let inv:Nat->Option Nat:=fun j=>(List.range O).find? fun i=>C i==some j
 have yA:∀ i j,inv j=some i->C i=some j:=fun i j hi=>((Sf Nx).1 i hi).1;have Ou:∀ i j,C i=some j->inv j=some i:=fun i j hf=>(Sf Nx).2 i (by rcases xM i j hf with h1|h1<;>omega) hf
 have al7:∀ j,inv j=none->∀ i,f i≠some j:=fun j hj i hf=>by
  have:=Ou i j (by rw[EF i (h.yz hf).1];exact hf);rw[hj] at this;cases this
 let J:aJ:=fun j=>match inv j with|some i=>β' i|none=>β j
 let X:Mem:=fun j=>match inv j with|some i=>(m' i).map (Row.uR C)|none=>if j=il then some (.raw l o') else m j
 have βs:∀ i j,C i=some j->J j=β' i:=fun i j hf=>by simp[J,Ou i j hf]
 have βn:∀ j,inv j=none->J j=β j:=fun j hj=>by simp[J,hj]
 have ag8:inv il=none:=by
  cases hi:inv il with
  |none=>rfl
  |some i=>
   rcases xM i il (yA i il hi) with⟨a1,a2,a3⟩|⟨a1,a2,a3⟩
   .exact absurd rfl (h.yz a1).2.2
   .have:=h.lt;omega
 have via:J.via C=β':=by
  funext i;simp only[aJ.via];cases hf:C i with
  |some j=>exact βs i j hf
  |none=>
   rcases Nat.lt_or_ge i O with h1|h1
   .rcases Nat.lt_or_ge i nc with h2|h2
    .obtain⟨j,h3,_⟩:=h.JM i h2;rw[EF i h2,h3] at hf;cases hf
    .rw[Nw i h2 h1] at hf;cases hf
   .exact(eO i h1).symm
 have look:∀ j p,J j=some p->(∃ i,inv j=some i/\C i=some j/\β' i=some p)\/(inv j=none/\β j=some p):=fun j p hp=>by
  cases hi:inv j with
  |some i=>exact .inl ⟨i,rfl,yA i j hi,by rw[<- βs i j (yA i j hi)];exact hp⟩
  |none=>exact .inr ⟨rfl,by rw[<- βn j hi];exact hp⟩
 have al8:∀ b,β.free b->b≠l:=fun b hb e=>hb il _ FC (e▸rfl)
 have fp:∀ b,b<w.heap.size->β.free b->w'.heap[b]? =w.heap[b]? /\J.free b:=fun b hb hf=>by
  obtain⟨h1,h2⟩:=hs.fp b hb (al8 b hf) (aJ.xG hf f);refine⟨h1,fun j p hp=>?_⟩;rcases look j p hp with⟨i,_,_,U⟩|⟨_,U⟩
  .exact h2 i p U
  .exact hf j p U
 have iR:∀ j p,β j=some p->J j=some p\/J j=some .dead:=fun j p hp=>by
  cases hi:inv j with
  |none=>exact .inl ((βn j hi).trans hp)
  |some i=>
   have hf:=yA i j hi;rw[βs i j hf];rcases xM i j hf with⟨a1,a2,a3⟩|⟨a1,a2,a3⟩
   .exact hs.iR i p (by simp[aJ.via,a1,hp])
   .rw[hn j oG] at hp;cases hp
 have M:∀ j p b,inv j=none->β j=some p->p.bF=some b->hidden F β f b/\(b≠l->b<w.heap.size/\w'.heap[b]? =w.heap[b]?):=fun j p b hj hp hb=>by
  obtain⟨h1,h2⟩:=h.Hu hm (al7 j hj) hp hb;exact⟨h2,fun bf=>⟨hm.lt j p b hp hb,(hs.fp b (hm.lt j p b hp hb) bf h1).1⟩⟩
 have lps:∀ j r,β j=some (.lp r)->J j=some (.lp r)->Skel w w' r:=fun j r hp jA=>by
  have bf:r≠l:=fun e=>by
   have:=hm.inj j il _ _ l hp FC (by simp[Pl.bF,e]) rfl;subst this;rw[FC] at hp;cases hp
  cases hi:inv j with
  |none=>exact px ((M j _ r hi hp rfl).2 bf).2
  |some i=>
   have hf:=yA i j hi;rcases xM i j hf with⟨a1,a2,a3⟩|⟨a1,a2,a3⟩
   .exact hs.lp i r bf (by simp[aJ.via,a1,hp]) (by rw[<- βs i j hf];exact jA)
   .rw[hn j oG] at hp;cases hp
 refine⟨C,X,nx+(O - nc),J,⟨Nat.le_trans h.low hle,by have:=h.lt;omega,fun i hi=>?_,fun i hi=>?_,Wm,Nx,fun i r hi=>?_⟩,?_,⟨fun j r hj=>?_,fun i j p q b hp hq e e'=>?_,fun j p b hp e=>?_,fun j p b hp e hF=>?_,?_⟩,fun i hi=>?_,⟨hs.size,fp,iR,hs.out,lps⟩,oG,fun i hi hb=>?_⟩
 .rw[EF i (Nat.lt_of_lt_of_le hi h.low)];exact h.id i hi
 .rcases Nat.lt_or_ge i nc with h1|h1
  .obtain⟨j,h2,h3,U⟩:=h.JM i h1;exact⟨j,by rw[EF i h1];exact h2,oG,U⟩
  .exact⟨_,Nw i h1 hi,oG,by have:=h.lt;omega⟩
 .obtain⟨p,hp,_⟩:=iB.row i r hi
  have:∃ j,C i=some j:=by
   rw[<- via] at hp;obtain⟨j,h1,_⟩:=Option.bind_eq_some_iff.1 hp;exact⟨j,h1⟩
  obtain⟨j,hj⟩:=this;exact⟨j,hj,by simp[X,Ou i j hj,hi]⟩
 .simp[X,ag8]
 .cases hi:inv j with
  |some i=>
   simp only[X,hi,dI] at hj;obtain⟨r0,CQ,rfl⟩:=hj;obtain⟨p,hp,hr⟩:=iB.row i r0 CQ;refine⟨p,(βs i j (yA i j hi)).trans hp,c7.XD (F':=hidden F β f) (by rw[via];exact hr) (fun b hb=>.inl hb) fun b g1 g2=>?_⟩;obtain⟨k,q,hq,YI⟩:=Th g1;rcases look k q hq with⟨i',_,_,U⟩|⟨h3,U⟩
   .exact absurd YI (g2 i' q (by rw[via];exact U))
   .exact(M k q b h3 U YI).1
  |none=>
   simp only[X,hi] at hj;split at hj
   .rename_i e;subst e;cases hj;exact⟨.raw l,(βn j hi).trans FC,.raw l o' ho⟩
   .rename_i bf;obtain⟨p,hp,hr⟩:=hm.row j r hj;refine⟨p,(βn j hi).trans hp,hr.gen hs.size (fun b hb g1 g2=>⟨zy (fp b hb g2).1,(fp b hb g2).2,g1⟩) (fun i p _=>iR i p) fun b hb=>?_⟩;exact((M j p b hi hp hb).2 fun e=>bf (hm.inj j il p _ b hp FC hb (e▸rfl))).2
 .rcases look i p hp with⟨i',a1,a2,a3⟩|⟨a1,a2⟩<;>rcases look j q hq with⟨j',b1,b2,b3⟩|⟨b1,b2⟩
  .have:=iB.inj i' j' p q b a3 b3 e e';subst this;rw[a2] at b2;cases b2;rfl
  .exact absurd (M j q b b1 b2 e').1 (iB.nf i' p b a3 e)
  .exact absurd (M i p b a1 a2 e).1 (iB.nf j' q b b3 e')
  .exact hm.inj i j p q b a2 b2 e e'
 .rcases look j p hp with⟨i',a1,a2,a3⟩|⟨a1,a2⟩
  .exact iB.lt i' p b a3 e
  .exact Nat.lt_of_lt_of_le (hm.lt j p b a2 e) hs.size
 .rcases look j p hp with⟨i',a1,a2,a3⟩|⟨a1,a2⟩
  .exact iB.nf i' p b a3 e (.inl hF)
  .exact hm.nf j p b a2 e hF
 .exact hm.fb.next (fun b hb=>Nat.lt_of_lt_of_le (hm.fb.lt b hb) hs.size) (fun _ h=>h) fun t _ hF=>(fp _ (hm.fb.lt _ hF) fun i p hp e=>hm.nf i p _ hp e hF).1
 .cases dv:inv i with
  |none=>exact(βn i dv).trans (hn i oG)
  |some i0=>
   rcases xM i0 i (yA i0 i dv) with⟨a1,a2,a3⟩|⟨a1,a2,a3⟩<;>omega
 .cases dv:inv i with
  |none=>exact(βn i dv).trans hb
  |some i0=>
   have hf:=yA i0 i dv;rw[βs i0 i hf];rcases xM i0 i hf with⟨a1,a2,a3⟩|⟨a1,a2,a3⟩
   .exact hg i0 a2 (by simp[aJ.via,a1,hb])
   .omega
theorem K4{β:aJ}{w:World}:∀ (ts:List Tmp) (ds:List D) (vs:List Value) (env:Env) (tmps:Array Value),vs.length=ds.length->(∀ (k:Nat) (d:D) (v:Value),ds[k]? =some d->vs[k]? =some v->R F β w d v)->
 (∀ t,t∈ts->t<tmps.size)->gP F β w env { tmps:=tmps,defers:=[] }->
 gP F β w (vX env ts ds) { tmps:=(ts.zip vs).foldl (fun tmps (t,a)=>tmps.setIfInBounds t a) tmps,defers:=[] }/\((ts.zip vs).foldl (fun tmps (t,a)=>tmps.setIfInBounds t a) tmps).size=tmps.size
 |[],_,_,env,tmps,_,_,_,h=>by simpa[vX] using h
 |_::_,[],[],env,tmps,_,_,_,h=>by simpa[vX] using h
 |_::_,[],_::_,_,_,hl,_,_,_=>by simp at hl
 |_::_,_::_,[],_,_,hl,_,_,_=>by simp at hl
 |t::ts,d::ds,v::vs,env,tmps,hl,hR,al,h=>by
  have h1:gP F β w (up env t d) { tmps:=tmps.setIfInBounds t v,defers:=[] }:=by
   have:=h.put (some t) d v (hR 0 d v rfl rfl) (fun u hu=>by cases hu;exact al t oS);simpa[Act.put,up] using this
  have:=K4 ts ds vs (up env t d) (tmps.setIfInBounds t v) (by simpa using hl) (fun k d v hd hv=>hR (k+1) d v (by simpa using hd) (by simpa using hv)) (fun u hu=>by simpa using al u (by simp[hu])) h1;simp only[vX,List.zip_cons_cons,List.foldl_cons];exact⟨this.1,by rw[this.2];simp⟩
theorem DD{c:Code}{b:Frame}{a:Act}{k:List Item}{cs:List Frame}{w:World}:step P (lone (b.atR a (.code (.scope c)::k)) cs w)=.next (lone (b.atR a (.code c::.inScope c::k)) cs w):=
 step_lone_go (by simp[stepG,stepG.exec,Frame.atR])
theorem aad{c:Code}{b:Frame}{a:Act}{k:List Item}{cs:List Frame}{w:World}:step P (lone (b.atR a (.inScope c::k)) cs w)=.next (lone (b.atR a k) cs w):=
 step_lone_go (by simp[stepG,stepG.exec,Frame.atR])
theorem GF{I:Machine->Prop}{m:Machine}{b:Frame}{c:Code}{k:List Item}{cs:List Frame}{e:Exit}{a:Act}{w:World}
 (hn:e≠ .normal) (hg:∀ l,e≠ .goto l) (h:ArrivesIn I P m b (.inScope c::k) cs e a w):ArrivesIn I P m b k cs e a w:=by
 cases e with
 |normal=>exact absurd rfl hn
 |exit id=>exact⟨fun k' hk=>h.1 k' (by simp[exitTo,hk]),fun hr hk=>h.2 hr (by simp[exitTo,hk])⟩
 |goto l=>exact absurd rfl (hg l)
 |ret=>exact h
 |panic chain=>exact h
 |outgrown=>exact h
theorem RH{O:Fence}{n:Nat}{Q:Exit->Act->World->Prop}{a:Act}{w:World}{c:Code}(h:c.wpIn O n P (Exit.noGoto Q) a w):(Code.scope c).wpIn O n P Q a w:=by
 intro b k cs U hb hr;have h0:(lone (b.atR a (.code (.scope c)::k)) cs w).fenced P O:=fenced_calm hb hr rfl;obtain⟨e,C,M,hq,J⟩:=h b (.inScope c::k) cs U hb hr;cases e with
 |normal=>exact⟨.normal,C,M,hq,.head h0 DD (StepsIn.trans J (.one (fenced_calm hb hr rfl) aad))⟩
 |goto l=>exact hq.elim
 |exit id=>exact⟨.exit id,C,M,hq,.of_steps (.one h0 DD) (GF (c:=c) oS oS J)⟩
 |ret=>exact⟨.ret,C,M,hq,.of_steps (.one h0 DD) (GF (c:=c) oS oS J)⟩
 |panic ch=>exact⟨.panic ch,C,M,hq,.of_steps (.one h0 DD) (GF (c:=c) oS oS J)⟩
 |outgrown=>exact⟨.outgrown,C,M,hq,.of_steps (.one h0 DD) (GF (c:=c) oS oS J)⟩
def Jump(env:Env)(Q:Exit->St->Prop):Code->Mem->Nat->Prop
 | .ret,m,nx=>Q .ret ⟨env,m,nx⟩
 | .exit id,m,nx=>Q (.exit id) ⟨env,m,nx⟩
 |_,_,_=>False
def BL(il l:Nat)(n₀:Nat)(o:Obj)(I:Mem->Nat->Prop)(m:Mem)(nx:Nat):Prop:=∃ f mc nc,View il n₀ f mc nc m nx/\m il=some (.raw l o)/\I mc nc
theorem BL.closed{il l n₀:Nat}{o:Obj}{I:Mem->Nat->Prop}:Es (BL il l n₀ o I):=by
 rintro m nx m' aD ⟨f,mc,nc,h1,h2,J⟩ C he;exact⟨f,mc,nc,h1.ext C he,(he il h1.lt).trans h2,J⟩
theorem Sg(ps:Array Tmp)(us:Array Value)(tmps:Array Value):
 (ps.zip us).foldl (fun tmps (t,a)=>tmps.setIfInBounds t a) tmps=(ps.toList.zip us.toList).foldl (fun tmps (t,a)=>tmps.setIfInBounds t a) tmps:=by
 rw[<- Array.foldl_toList];simp
theorem Rc{β:aJ}{w:World}{a:Act}{g:Operand}{f:FuncId}{fs cs:List D}(hR:R F β w (.fn (.func f) fs cs) (a.eval g))(he:na P f=true)(l:Nat)(w':World):
 ∃ (us vs:List Value) (d:Deferred),us.length=fs.length/\vs.length=cs.length/\(∀ (k:Nat) (d:D) (v:Value),fs[k]? =some d->us[k]? =some v->R F β w d v)/\(∀ (k:Nat) (d:D) (v:Value),cs[k]? =some d->vs[k]? =some v->R F β w d v)/\
  (resolve a.eval (rangeCall g l) 0).run P w'=.ok d w'/\(invoke d.target d.args).run P w'=.ok (.enter f (us.toArray++ #[.func (.yield l) #[] #[]]++vs.toArray)) w':=by
 generalize hv:a.eval g=v at hR;cases hR with
 |fn _ _ _ us vs hl nD hh C=>
 refine⟨us,vs,{ target:=.fn (.func f) vs.toArray,args:=us.toArray++ #[.func (.yield l) #[] #[]] },hl,nD,hh,C,?_,?_⟩
 .simp only[resolve,hv,Sem.run_bind,Deferred.ofValue];simp[go_sem]
 .simp only[invoke];unfold callFunc;unfold na at he;simp only[Sem.run_bind,run_program,Result.andThen_ok];split at he
  .rename_i fn J;simp only[aB,Bool.not_eq_true'] at he
   have hb:fn.body.isNone=false:=by
    cases M:fn.body<;>simp_all
   rw[J];simp only[he.1,hb,Bool.false_eq_true,if_false,Sem.run_pure]
  .cases he
theorem Rs.append{β:aJ}{w:World}{aS bs:List D}{xs ys:Array Value}(h:Rs F β w aS xs)(k:Rs F β w bs ys):Rs F β w (aS++bs) (xs++ys):=by
 refine⟨by simp[h.1,k.1],fun j d v hd hv=>?_⟩;rcases Nat.lt_or_ge j aS.length with hj|hj
 .rw[List.getElem?_append_left hj] at hd;rw[Array.getElem?_append_left (by rw[h.1];exact hj)] at hv;exact h.2 j d v hd hv
 .rw[List.getElem?_append_right hj] at hd;rw[Array.getElem?_append_right (by rw[h.1];exact hj),h.1] at hv;exact k.2 _ d v hd hv
theorem adY(lV:P.follows .mixedOrders=true):∀ (c:Code) (F:Nat->Prop) (r:Option Nat) (n:Nat) (Y:gn) (rf:Bool) (N₀:Nat) (β₀:aJ) (w₀:World) (a₀:Act),(rf=true->r=none)->
 (∀ l args m nx K,Y l args m nx K->qC P F β₀ w₀ l args m nx K)->iO a₀.tmps.size c=true->∀ (Q:Exit->St->Prop) (st:St) (β:aJ) (w:World) (a:Act),
 AW P Y rf c Q st->cK P F st β w a->o7 N₀ β₀ w₀ a₀ st β w a->c.wpIn (Fe r) n P (EE P F N₀ β₀ w₀ a₀ Q) a w:=by
 intro c
 induction c with
 |skip=>exact fun F r n Y rf N₀ β₀ w₀ a₀ O U _ Q st β w a h hs J=>wpIn_skip ⟨st,β,h,hs,J⟩
 |ret=>exact fun F r n Y rf N₀ β₀ w₀ a₀ O U _ Q st β w a h hs J=>wpIn_ret ⟨st,β,h,hs,J⟩
 |exit id=>exact fun F r n Y rf N₀ β₀ w₀ a₀ O U _ Q st β w a h hs J=>wpIn_exit ⟨st,β,h,hs,J⟩
 |label l=>exact fun F r n Y rf N₀ β₀ w₀ a₀ O U _ Q st β w a h hs J=>wpIn_label ⟨st,β,h,hs,J⟩
 |region id ops draw=>
  intro F r n Y rf N₀ β₀ w₀ a₀ O U al Q st β w a h hs J;have r6:qB a.tmps.size ops=true:=by rw[J.size];exact al
  cases draw with
  |false=>
   refine wpIn_mono (aay (N:=st.nx) (β₀:=β) (w₀:=w) (a₀:=a) (fun l args m nx K hy=>(U l args m nx K hy).base J.step) r6 h hs (eW.refl st β w a)) fun e a' w' hp=>?_;obtain⟨st',β',hq,X,gd⟩:=hp;exact⟨st',β',hq,X,J.since gd⟩
  |true=>
   simp only[AW] at h;split at h
   .rename_i cf FD;refine wpIn_mono (aaz (N₀:=st.nx) (β₀:=β) (w₀:=w) (a₀:=a) lV FD r6 h hs (eW.refl st β w a)) fun e a' w' hp=>?_;obtain⟨st',β',hq,X,gd⟩:=hp;exact⟨st',β',hq,X,J.since gd⟩
   .exact h.elim
 |seq x y JN JO=>
  intro F r n Y rf N₀ β₀ w₀ a₀ O U al Q st β w a h hs J;simp only[iO,aB] at al;refine wpIn_seq (wpIn_mono (JN F r n Y rf N₀ β₀ w₀ a₀ O U al.1 _ st β w a h hs J) fun e a' w' hp=>?_);obtain⟨st',β',hq,X,gd⟩:=hp;cases e with
  |normal=>
   obtain⟨kL,hg,hy⟩:=hq;obtain⟨kP,EW,Ny⟩:=Rn hg X;exact JO F r n Y rf N₀ β₀ w₀ a₀ O U al.2 Q kL kP w' a' hy EW (gd.since Ny)
  |_=>exact⟨st',β',hq,X,gd⟩
 |cond c x y JN JO=>
  intro F r n Y rf N₀ β₀ w₀ a₀ O U al Q st β w a h hs J;simp only[iO,aB] at al;obtain⟨ha,h⟩:=h;have hR:=(hs.e.opd c).xL _ ha;split at h
  .rename_i t ht;rw[ht] at hR;exact wpIn_cond_split hR.cI.1 (fun e=>JN F r n Y rf N₀ β₀ w₀ a₀ O U al.1 Q st β w a (h.1 e) hs J) fun e=>JO F r n Y rf N₀ β₀ w₀ a₀ O U al.2 Q st β w a (h.2 e) hs J
  .rename_i ht;rw[ht] at hR;obtain⟨b,hb⟩:=hR.Ep;exact wpIn_cond_split hb (fun _=>JN F r n Y rf N₀ β₀ w₀ a₀ O U al.1 Q st β w a h.1 hs J) fun _=>JO F r n Y rf N₀ β₀ w₀ a₀ O U al.2 Q st β w a h.2 hs J
  .exact h.elim
 |scope b ih=>
  intro F r n Y rf N₀ β₀ w₀ a₀ O U al Q st β w a h hs J;refine RH (wpIn_mono (ih F r n Y rf N₀ β₀ w₀ a₀ O U al _ st β w a h hs J) fun e a' w' hp=>?_);obtain⟨st',β',hq,X,gd⟩:=hp;cases e with
  |goto l=>exact hq.elim
  |_=>exact⟨st',β',hq,X,gd⟩
 |block id b ih=>
  intro F r n Y rf N₀ β₀ w₀ a₀ O U al Q st β w a h hs J;refine wpIn_block (wpIn_mono (ih F r n Y rf N₀ β₀ w₀ a₀ O U al _ st β w a h hs J) fun e a' w' hp=>?_);obtain⟨st',β',hq,X,gd⟩:=hp;cases e with
  |exit i=>
   simp only[iZ] at hq;simp only[Exit.inBlock];split at hq
   .rename_i hi;rw[if_pos hi];exact⟨st',β',hq,X,gd⟩
   .rename_i hi;rw[if_neg hi];exact⟨st',β',hq,X,gd⟩
  |_=>exact⟨st',β',hq,X,gd⟩
 |loop b ih=>
  intro F r n Y rf N₀ β₀ w₀ a₀ O U al Q st β w a h hs J;obtain⟨I,μ,hI,BM⟩:=h;refine Rb (fun j a w=>∃ st β,I st/\μ st=j/\cK P F st β w a/\o7 N₀ β₀ w₀ a₀ st β w a) ⟨st,β,hI,rfl,hs,J⟩ ?_;rintro j a w ⟨st,β,hI,hμ,hs,J⟩;refine wpIn_mono (ih F r n Y rf N₀ β₀ w₀ a₀ O U al _ st β w a (BM st hI) hs J) fun e a' w' hp=>?_;obtain⟨st',β',hq,X,gd⟩:=hp;cases e with
  |normal=>
   obtain⟨kQ,hg,JP,aqW⟩:=hq;obtain⟨kP,EW,Ny⟩:=Rn hg X;exact⟨μ kQ,oG,kQ,kP,JP,rfl,EW,gd.since Ny⟩
  |_=>exact⟨st',β',hq,X,gd⟩
 |rangeFunc g ps assign body yW yX=>
  intro F r n Y rf N₀ β₀ w₀ a₀ O U al Q st β w a h hs J;obtain⟨env,mem,nx⟩:=st;obtain⟨Ov,Ji,f,fs,cs,xs,I,IV,Jj,IW,JQ,BM,IX⟩:=h;simp only at Ji IV JQ BM IX;have hr:=O Ov;subst hr;simp only[iO,aB,bT,Nat.blt_eq] at al;obtain⟨o8,Ow,Ox⟩:=al;have bS:a.tmps.size=a₀.tmps.size:=J.size;have hR:=(hs.e.opd g).xL _ Ji;simp only[IV] at hR;refine wpIn_rangeFunc fun fn q6=>?_;obtain⟨C,wF⟩:∃ C:LoopState->Option Code->Loop,C=fun st pe=>{ state:=st,pending:=pe,fn,tmps:=a.tmps,params:=ps,assign,body,defers:=w.heap.size }:=⟨_,rfl⟩
  obtain⟨W1,q9⟩:∃ W1,(w.alloc (.deferred (some []))).alloc (.loop (C .ready none))=W1:=⟨_,rfl⟩
  obtain⟨us,vs,d,FE,sj,hu,hv,n1,hinv⟩:=Rc (P:=P) hR Jj.1 (w.heap.size+1) W1;have hn:∀ i,nx<=i->β i=none:=hs.n;have PE:∀ t∈yx,t.1≠w.heap.size+1:=fun t ht e=>by have:=hs.m.fb.lt _ (hs.m.fb.lH t ht).1;omega
  have YH:¬ F (w.heap.size+1):=fun e=>by have:=hs.m.fb.lt _ e;omega
  let f₀:Nat->Option Nat:=fun i=>if i<nx then some i else none
  have XE:β.via f₀=β:=by
   funext i;simp only[aJ.via,f₀];split
   .rfl
   .exact(hn i oG).symm
  have sk:aL P F (fun i=>(mem i).map (Row.uR f₀)) β w:=⟨fun i r hi=>by
   simp only[dI] at hi;obtain⟨r0,h1,rfl⟩:=hi;obtain⟨p,hp,hr⟩:=hs.m.row i r0 h1
   exact⟨p,hp,c7.XD (F':=F) (by rw[XE];exact hr) (fun _ h=>h) fun b g1 g2=>absurd (XE▸g2) g1⟩,hs.m.inj,hs.m.lt,hs.m.nf,hs.m.fb⟩
  have wS:Step β w β (w.alloc (.deferred (some []))):=Bj oS fun b hb=>heap_alloc_old w _ hb;have ln:aL P F (fun i=>(mem i).map (Row.uR f₀)) β (w.alloc (.deferred (some []))):=sk.ext oS fun b hb=>heap_alloc_old w _ hb
  have FF:aL P F (up (fun i=>(mem i).map (Row.uR f₀)) nx (some (.raw (w.heap.size+1) (.loop (C .ready none))))) (up β nx (some (.raw (w.heap.size+1)))) W1:=by
   rw[<- q9];refine ln.alloc (hn nx (bM _)) _ _ _ (fun b hb=>by simp only[Pl.bF,aV] at hb;simp;omega) (.raw _ _ ?_);have:=World.alloc_heap_new (w.alloc (.deferred (some []))) (.loop (C .ready none))
   rwa[World.size_alloc] at this
  have iE:Step β w (up β nx (some (.raw (w.heap.size+1)))) W1:=by
   rw[<- q9];exact wS.trans (Bb ln _ (hn nx (bM _)) _ (fun b hb=>by simp only[Pl.bF,aV] at hb;simp;omega))
  have PF:W1.heap[w.heap.size]? =some (.deferred (some [])):=by
   rw[<- q9];rw[heap_alloc_old _ _ oS];exact World.alloc_heap_new w _
  have Et:aJ.free (up β nx (some (.raw (w.heap.size+1)))) w.heap.size:=
   sE (fun i p hp e=>by have:=hs.m.lt i p _ hp e;omega) (by rintro q hq;cases hq;simp[Pl.bF])
  have al9:W1.heap.size=w.heap.size+2:=by rw[<- q9];simp
  have afM:∀ i,nx<=i->mem i=none:=fun i hi=>by
   cases hm:mem i with
   |none=>rfl
   |some row=>
    obtain⟨p,hp,_⟩:=hs.m.row i row hm;rw[hn i hi] at hp;cases hp
  have own:∀ {f:Nat->Option Nat} {mc:Mem} {nc:Nat} {m:Mem} {iU:Nat} {β2:aJ} {w2:World},View nx nx f mc nc m iU->Step (up β nx (some (.raw (w.heap.size+1)))) W1 β2 w2->
   ∀ {d:D} {v:Value},R F β w d v->R (hidden F β2 f) (β2.via f) w2 d v:=fun {_ _ _ _ _ _ _} M bH {d v} h=>by
   have te:=iE.trans bH;refine h.gen te.size (fun b hb hf nU=>?_) fun i p _ hp=>?_
   .obtain⟨g1,g2⟩:=te.fp b hb nU;exact⟨zy g1,aJ.xG g2 _,fun e=>e.elim hf fun e=>e.1 g2⟩
   .have hi:i<nx:=by
     rcases Nat.lt_or_ge i nx with h1|h1
     .exact h1
     .rw[hn i h1] at hp;cases hp
    simp only[aJ.via,M.id i hi,Option.bind_some];exact te.iR i p hp
  refine⟨w.heap.size+1,[mark w.heap.size],W1,d,W1,f,_,W1,?_,n1,fun f' _=>trivial,hinv,fun hd=>by simp at hd,Hg ?_⟩
  .rw[<- q9,wF];exact run_enterLoop_outer _ _ _ _ _
  refine(Jj.2 F (w.heap.size+1) (fun k=>BL nx (w.heap.size+1) nx (.loop (C .ready none)) (I k)) (fun m k=>∃ c,BL nx (w.heap.size+1) nx (.loop (C .done (some c))) (Jump env Q c) m k)
   (up (fun i=>(mem i).map (Row.uR f₀)) nx (some (.raw (w.heap.size+1) (.loop (C .ready none))))) (nx+1) (up β nx (some (.raw (w.heap.size+1)))) W1 _ (fun k=>BL.closed) ?_ FF ?_ ?_ ?_ ?_).mono ?_
  .rintro m k m' k' ⟨c,hc⟩ hle he;exact⟨c,BL.closed m k m' k' hc hle he⟩
  .intro i hi;rw[aZ _ _ (show i≠nx by omega)];exact hn i oG
  .refine Rs.append (Rs.append ?_ ?_) ?_
   .exact⟨by simp[FE],fun k d v hd hv=>(hu k d v hd (by simpa using hv)).step iE⟩
   .refine⟨rfl,fun k d v hd hv=>?_⟩;cases k with
    |zero=>
     simp only[List.getElem?_cons_zero,aV] at hd;simp only[List.getElem?_toArray,List.getElem?_cons_zero,aV] at hv;subst hd;subst hv;exact .fn _ [] [] [] [] rfl rfl oS oS
    |succ k=>simp at hd
   .exact⟨by simp[sj],fun k d v hd AA=>(hv k d v hd (by simpa using AA)).step iE⟩
  .rintro k x m k' hx ⟨g,mc,nc,M,lI,hIk⟩ β2 w2 wT Ck vq yY wU;obtain⟨YJ,yd,_,Oy⟩:=vq.B3 lI;have Oz:wT.size=ps.size:=by rw[wU.1];exact(IW x (cx hx)).1
   have hy:=run_yield (P:=P) (args:=wT) yd (by rw[wF];exact Oz);simp only[wF,Sg] at hy;refine⟨fn,_,assign,body,hy,fun n'=>?_⟩;obtain⟨PG,wV⟩:=M.enter vq;have FG:hidden F β2 g (w.heap.size+1):=(M.Hu vq (fun i e=>(M.yz e).2.2 rfl) YJ rfl).2;have Vk:(β2.via g).free (w.heap.size+1):=(M.Hu vq (fun i e=>(M.yz e).2.2 rfl) YJ rfl).1;have PH:gP (hidden F β2 g) (β2.via g) w2 env { tmps:=a.tmps,defers:=[] }:=fun t=>own M Ck (hs.e t)
   obtain⟨PI,EX⟩:=K4 ps.toList x wT.toList env a.tmps (by simp[wU.1]) (fun j d v hd hv=>
    ((IW x (cx hx)).2 d (cx hd) F β2 w2 v (wU.2 j d v hd (by simpa using hv))).gen (bM _)
     (fun b _ hb _=>⟨pM.refl _ b,aJ.xG (DH hb).2 _,fun e=>e.elim (DH hb).1 fun e=>e.1 (DH hb).2⟩) (fun i p _ hp=>by cases hp)) (fun t ht=>by rw[bS];exact o8 t ht) PH
   have OA:=yW (hidden F β2 g) (some (w.heap.size+1)) n' kT false nc (β2.via g) w2
    { tmps:=(ps.toList.zip wT.toList).foldl (fun tmps (t,a)=>tmps.setIfInBounds t a) a.tmps,defers:=[] } oS (fun _ _ _ _ _ h=>h.elim) (by show iO (Array.size _) assign=true;rw[EX,bS];exact Ow) _ ⟨vX env ps.toList x,mc,nc⟩ (β2.via g) w2 _
    (BM k mc nc x hx hIk) ⟨PI,PG,wV⟩ (eW.refl ⟨vX env ps.toList x,mc,nc⟩ _ _ _).Az
   refine roundIn_of_wpIn trivial (wpIn_mono OA fun e a3 w3 hp=>?_);obtain⟨kQ,β3,JR,sr,iF⟩:=hp;cases e with
   |normal=>
    have Nz:w.heap.size+1<w3.heap.size:=Nat.lt_of_lt_of_le Oy iF.step.size;have ah3:w3.heap[w.heap.size+1]? =some (.loop (C .ready none)):=(iF.step.fp _ Oy Vk).1.trans yd;refine⟨_,run_beginRound ah3 (by rw[wF]),?_⟩;have al':=sr.uQ (l:=w.heap.size+1) FG PE (.loop { C .ready none with state:=.busy });have NA:=yX (hidden F β2 g) (some (w.heap.size+1)) n' kT false kQ.nx β3 _ a3 oS (fun _ _ _ _ _ h=>h.elim) (by rw[iF.size];show iO (Array.size _) body=true;rw[EX,bS];exact Ox) _ kQ β3 _ a3 JR al' (eW.refl kQ _ _ _).Az;refine wpIn_mono NA fun e a4 w4 hp4=>?_;obtain⟨YK,β4,JS,YL,CR⟩:=hp4;have ah4:w.heap.size+1<w4.heap.size:=Nat.lt_of_lt_of_le (by simpa using Nz) CR.step.size
    have ah5:w4.heap[w.heap.size+1]? =some (.loop { C .ready none with state:=.busy }):=
     (CR.step.fp _ (by simpa using Nz) (iF.step.fp _ Oy Vk).2).1.trans (World.putObj_heap_same Nz)
    have fin:∀ (jump:Option Code) (K:D->Mem->Nat->Prop),(∀ f' ma r5,View nx nx f' YK.mem YK.nx ma r5->ma nx=some (.raw (w.heap.size+1) (.loop (C (if jump.isNone then .ready else .done) jump)))->K (.s (.bool jump.isNone)) ma r5)->
     ∃ v w',(Instr.endRound (w.heap.size+1) jump).run P w4=.ok v w'/\∃ v' d m' aD β',Ending.returned v=.returned v'/\K d m' aD/\aL P F m' β' w'/\(∀ i,aD<=i->β' i=none)/\R F β' w' d v'/\Step β2 w2 β' w'/\k'<=aD/\∀ i,i<k'->β2 i=none->β' i=none:=fun jump K hK=>by
     have dX:=run_endRound (P:=P) jump ah5;have e1:∀ s p,({ ({ C .ready none with state:=.busy }:Loop) with state:=s,pending:=p }:Loop)=C s p:=fun s p=>by rw[wF]
     rw[e1] at dX
     obtain⟨f',ma,r5,kP,v1,v2,v3,v4,v5,v6,v7⟩:=M.ah2 vq yY lI (o':=.loop (C (if jump.isNone then .ready else .done) jump)) (YL.m.uQ FG PE _)
      (((iF.step.x _).trans (uE.put _ β3 w3 _)).trans ((CR.step.x _).trans (uE.put _ β4 w4 _))) YL.n (Nat.le_trans iF.le CR.le) (fun i hi hb=>CR.grow i (Nat.lt_of_lt_of_le hi iF.le) (iF.grow i hi hb)) (World.putObj_heap_same ah4)
     exact⟨_,_,dX,.bool jump.isNone,_,ma,r5,kP,rfl,hK f' ma r5 v1 v2,v3,v4,.s _ rfl,v5,v6,v7⟩
    cases e with
    |normal=>exact fin none _ fun f' ma r5 v1 v2=>.inl ⟨rfl,f',_,_,v1,v2,JS⟩
    |ret=>exact fin (some .ret) _ fun f' ma r5 v1 v2=>.inr ⟨rfl,.ret,f',_,_,v1,v2,JS⟩
    |exit id=>exact fin (some (.exit id)) _ fun f' ma r5 v1 v2=>.inr ⟨rfl,.exit id,f',_,_,v1,v2,JS⟩
    |_=>exact JS.elim
   |_=>exact JR.elim
  .refine⟨f₀,mem,nx,⟨bM _,oG,fun i hi=>by simp[f₀,hi],fun i hi=>⟨i,by simp[f₀,hi],oG,oG⟩,fun i hi=>by simp[f₀,Nat.not_lt.2 hi],fun i i' j h1 h2=>?_,fun i r hi=>?_⟩,an _ _ _,JQ⟩
   .simp only[f₀,Option.ite_none_right_eq_some,aV] at h1 h2;omega
   .have al:i<nx:=by
     rcases Nat.lt_or_ge i nx with h1|h1
     .exact h1
     .rw[afM i h1] at hi;cases hi
    exact⟨i,by simp[f₀,al],by rw[aZ _ _ (show i≠nx by omega),hi];rfl⟩
  .rintro e w6 ⟨v,d6,m6,CT,β6,rfl,XF,tz,YM,_,n2,XG,OB⟩
   have fin:∀ {g:Nat->Option Nat} {mc:Mem} {nc:Nat} (o':Obj),View nx nx g mc nc m6 CT->
    cK P F ⟨env,mc,nc⟩ (β6.via g) (w6.putObj (w.heap.size+1) o') { a with defers:=[mark w.heap.size]++a.defers }/\
    o7 N₀ β₀ w₀ a₀ ⟨env,mc,nc⟩ (β6.via g) (w6.putObj (w.heap.size+1) o') { a with defers:=[mark w.heap.size]++a.defers }:=fun {g mc nc} o' M=>by
    obtain⟨PG,wV⟩:=M.enter tz
    have FG:hidden F β6 g (w.heap.size+1):=by
     have hβ:β6 nx=some (.raw (w.heap.size+1))\/β6 nx=some .dead:=n2.iR nx _ (an _ _ _);rcases hβ with hβ|hβ
     .exact(M.Hu tz (fun i e=>(M.yz e).2.2 rfl) hβ rfl).2
     .exfalso;rcases XF with⟨f',mc',q8,_,OC,_⟩|⟨c,f',mc',q8,_,OC,_⟩
      .rw[(tz.B3 OC).1] at hβ;cases hβ
      .rw[(tz.B3 OC).1] at hβ;cases hβ
    refine⟨⟨fun t=>((own M n2 (hs.e t)).uQ FG o').uP fun b hb=>.inl hb,(PG.uQ FG PE o').uP (fun b hb=>.inl hb) fun t ht=>(hs.m.fb.lH t ht).1,wV⟩,J.trans ⟨⟨?_,fun b hb hf=>?_,fun i p hp=>?_,(iE.out.trans n2.out).trans ⟨rfl,rfl⟩,fun i r hp jA=>?_⟩,M.low,fun i hi hb=>?_,rfl,[mark w.heap.size],rfl,?_⟩⟩
    .have:=n2.size;simp;omega
    .obtain⟨g1,g2⟩:=iE.fp b hb hf;obtain⟨g3,g4⟩:=n2.fp b oG g2;exact⟨(World.putObj_heap_other oG).trans (g3.trans g1),aJ.xG g4 _⟩
    .have hi:i<nx:=by
      rcases Nat.lt_or_ge i nx with h1|h1
      .exact h1
      .rw[hn i h1] at hp;cases hp
     simp only[aJ.via,M.id i hi,Option.bind_some];exact(iE.trans n2).iR i p hp
    .have hi:i<nx:=by
      rcases Nat.lt_or_ge i nx with h1|h1
      .exact h1
      .rw[hn i h1] at hp;cases hp
     simp only[aJ.via,M.id i hi,Option.bind_some] at jA;have:=hs.m.lt i _ r hp rfl;exact((iE.trans n2).lp i r hp jA).trans (px (World.putObj_heap_other oG))
    .have hi:i<nx:=hi;simp only[aJ.via,M.id i hi,Option.bind_some];exact OB i oG (by rw[aZ _ _ oG];exact hb)
    .refine⟨w.heap.size,rfl,bM _,?_,?_,?_,trivial⟩
     .have:=n2.size;simp;omega
     .exact(World.putObj_heap_other oG).trans ((n2.fp _ oG Et).1.trans PF)
     .exact aJ.xG (n2.fp _ oG Et).2 _
   rcases XF with⟨g,mc,nc,M,lI,hI⟩|⟨c,g,mc,nc,M,lI,hj⟩
   .have dX:(Instr.endLoop (w.heap.size+1)).run P w6=.ok none (w6.putObj (w.heap.size+1) (.loop (C .exhausted none))):=by
     have:=run_endLoop (P:=P) (tz.B3 lI).2.1 (by rw[wF];simp);rw[wF] at this ⊢;exact this
    obtain⟨g1,g2⟩:=fin (.loop (C .exhausted none)) M;exact⟨none,_,dX,⟨env,mc,nc⟩,_,IX mc nc hI,g1,g2⟩
   .have dX:(Instr.endLoop (w.heap.size+1)).run P w6=.ok (some c) (w6.putObj (w.heap.size+1) (.loop (C .exhausted (some c)))):=by
     have:=run_endLoop (P:=P) (tz.B3 lI).2.1 (by rw[wF];simp);rw[wF] at this ⊢;exact this
    obtain⟨g1,g2⟩:=fin (.loop (C .exhausted (some c))) M;refine⟨some c,_,dX,?_⟩;cases c with
    |ret=>exact wpIn_ret ⟨⟨env,mc,nc⟩,_,hj,g1,g2⟩
    |exit id=>exact wpIn_exit ⟨⟨env,mc,nc⟩,_,hj,g1,g2⟩
    |_=>exact hj.elim
 |_=>intro F r n Y rf N₀ β₀ w₀ a₀ O U al Q st β w a h;exact h.elim
end
end Go.Abs
