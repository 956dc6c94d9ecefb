/- Part 3. -/
import Derived.Test.YtkogeiacmmckkaaGreatDoorFlowMemory2
import Derived.Laws.BytesArg
import Derived.Laws.Concat
import Derived.Lib.UnsafeStr
import Derived.RangeFuncRecord
import Derived.Scope
set_option linter.all false
namespace Go.Abs
section
variable{P:Program}{F:Nat->Prop}{m:Mem}{nx:Nat}{β:av}{w w':World}
theorem I2:∀ {l:List Int} {c:List Value},Rl F β w (kB l) c->c=l.map (Value.int .u8)
 |[],[],_=>rfl
 |[],_::_,h=>by have:=h.1;simp[kB] at this
 |_::_,[],h=>by have:=h.1;simp[kB] at this
 |n::l,v::c,h=>by
  have h0:=(h.2 0 _ v rfl rfl).1.cm.1;have ih:=I2 (l:=l) (c:=c) ⟨by have:=h.1;simp[kB] at this ⊢;omega,fun k d u hk hu=>h.2 (k+1) d u (by simpa[kB] using hk) (by simpa using hu)⟩;rw[h0,ih];rfl
theorem OI(l:List Int):l.foldl (fun r n=>r.push (UInt8.ofNat n.toNat)) ByteArray.empty=mkStr l:=by
 rw[foldl_push_bytes];simp[mkStr,ByteArray.empty,ByteArray.emptyWithCapacity];rfl
theorem QV{src dst:TypeId}(hs:pc P src)(hd:eN P dst=true){b o cap:Nat}{l:List Int}(h:Rd F β w b o (kB l)):(convert src dst (.slice (some ⟨b,o,none⟩) l.length cap)).run P w=.ok (.string (mkStr l)) w:=by
 obtain⟨c,h1,h2⟩:=h.AI;have hc:=I2 h1;subst hc
 have hl:(loadCells ⟨b,o,none⟩ l.length).run P w=.ok (l.map (Value.int .u8)).toArray w:=by
  have:=run_loadCells_list (P:=P) w ⟨b,o,none⟩ (l.map (Value.int .u8)) h2;simpa using this
 rw[run_convert_bytes_string w src dst _ _ _ _ (ia hs.1).1 hs.2.1 (uG hd),run_bytesToString w _ l.length cap l hl,OI]
theorem I3{src dst:TypeId}(hs:pc P src)(hd:eN P dst=true)(a:Option Addr)(cap:Nat):(convert src dst (.slice a 0 cap)).run P w=.ok (.string (mkStr [])) w:=by
 rw[run_convert_bytes_string w src dst _ _ _ _ (ia hs.1).1 hs.2.1 (uG hd)];cases a with
 |none=>rfl
 |some a=>
  have hl:(loadCells a 0).run P w=.ok (([]:List Int).map (Value.int .u8)).toArray w:=by simp[loadCells,loadCellsFrom]
  rw[run_bytesToString w a 0 cap [] hl,OI]
theorem Yc(hm:ax P F m β w){src dst:TypeId}{l:List Int}{v:Value}(hx:R F β w (.sl (kB l) l.length) v)(hs:pc P src)(hd:eN P dst=true):
 aK P F m nx β w { pre:=True,val:=.s (.string (mkStr l)) } (do Pure.pure (Next.value (<- convert src dst v))):=by
 rcases hx.tf with⟨h1,h2,a,cap,rfl⟩|⟨b,o,cap,rfl,_,_,_,_,_,C⟩
 .have hl:l=[]:=List.eq_nil_of_length_eq_zero h2;subst hl;exact aK.pure hm (I3 hs hd a cap) (.s _ rfl)
 .exact aK.pure hm (QV hs hd C) (.s _ rfl)
theorem Yd(hm:ax P F m β w){src dst:TypeId}{l:List Int}{i off:Nat}{cs:List D}{e:TypeId}{v:Value}(hx:R F β w (.rs i off l.length) v)(hi:m i=some (.cells cs e))(hl:(cs.drop off).take l.length=kB l)(hs:pc P src)(hd:eN P dst=true){rd:List Nat}:
 aK P F m nx β w { pre:=True,val:=.s (.string (mkStr l)),rd:=rd } (do Pure.pure (Next.value (<- convert src dst v))):=by
 rcases hx.vi hm hi with⟨h1,h2,C,_,a,rfl⟩|⟨b,o,room,_,af,U⟩
 .have J:l=[]:=List.eq_nil_of_length_eq_zero C;subst J;exact aK.pure hm (I3 hs hd a 0) (.s _ rfl)
 .rcases U with⟨C,a,rfl⟩|⟨cap,rfl,_⟩
  .have J:l=[]:=List.eq_nil_of_length_eq_zero C;subst J;exact aK.pure hm (I3 hs hd a 0) (.s _ rfl)
  .have O:=(af.rd.1.drop off).take l.length;rw[hl] at O;exact aK.pure hm (QV hs hd O) (.s _ rfl)
theorem Y0(hm:ax P F m β w){src dst:TypeId}{k k':IntKind}{n:Int}{v:Value}(hx:R F β w (.s (.int k n)) v)(hs:P.underlying src=some (.int k'))(hd:eN P dst=true)(h0:0<=n)(h1:n<128):
 aK P F m nx β w { pre:=True,val:=.s (.string (mkStr [n])) } (do Pure.pure (Next.value (<- convert src dst v))):=by
 obtain⟨rfl,_⟩:=hx.cm;refine aK.pure hm (v:=.string (mkStr [n])) ?_ (.s _ rfl)
 have hv:Utf8.encode n=mkStr [n]:=by
  have h2:n.toNat<128:=by omega
  have C:Utf8.valid n=true:=by
   unfold Utf8.valid;simp;omega
  unfold Utf8.encode;simp only[C,if_true,if_pos h2];simp[mkStr]
 simp[convert,run_underlying hs,run_underlying (uG hd),Conv.intToString,hv]
theorem aaw(hm:ax P F m β w){t:TypeId}{es:List D}{n:Nat}{k k':IntKind}{v J C:Value}(hx:R F β w (.sl es n) v)(hh:R F β w (.s (.int k n)) J)(hc:R F β w (.s (.int k' n)) C)(ht:aW P t=true)(hn:n*P.cellsOf (aq P t)=es.length):
 aK P F m nx β w { pre:=True,val:=.sc es n } (do Pure.pure (Next.value (<- Instr.sliceAt t v none (some J) (some C)))):=by
 obtain⟨rfl,_⟩:=hh.cm;obtain⟨rfl,_⟩:=hc.cm;obtain⟨hu,he⟩:=ia ht;rcases hx.tf with⟨rfl,rfl,a,cap,rfl⟩|⟨b,o,cap,rfl,U,X,g3,g4,g5,O⟩
 .have hb:=uz (P:=P) (w:=w) 0 cap (kh:=k) (km:=k') (lo:=none) (l:=0) (h:=0) (k:=0) (.inl ⟨rfl,rfl⟩) oG oG oG oG;refine aK.val hm (v:=.slice a 0 0) ?_ (.sc [] 0 a (.gR a 0));simp[nr hu,Instr.slice,run_underlying hu,hb,fu w (fP he)]
 .have hb:=uz (P:=P) (w:=w) n cap (kh:=k) (km:=k') (lo:=none) (l:=0) (h:=n) (k:=n) (.inl ⟨rfl,rfl⟩) oG oG oG oG;refine aK.val hm (v:=.slice (if n=0 then some ⟨b,o,none⟩ else some ⟨b,o,none⟩) n n) ?_ ?_
  .simp[nr hu,Instr.slice,run_underlying hu,hb,fu w (fP he),Addr.add_lit]
  .obtain⟨us,r1,r2⟩:=O;simp only[ite_self];exact .sc es n _ (.sl es n b o n us g3 g4 g5 (a6 _) (Nat.le_trans U X) r1 r2)
theorem Y1(hm:ax P F m β w){t:TypeId}{k k':IntKind}{v J C:Value}(hx:R F β w .z v)(hh:R F β w (.s (.int k 0)) J)(hc:R F β w (.s (.int k' 0)) C)(ht:aW P t=true):
 aK P F m nx β w { pre:=True,val:=.z } (do Pure.pure (Next.value (<- Instr.sliceAt t v none (some J) (some C)))):=by
 obtain⟨rfl,_⟩:=hh.cm;obtain⟨rfl,_⟩:=hc.cm;rw[hx.ym];obtain⟨hu,he⟩:=ia ht;have hb:=uz (P:=P) (w:=w) 0 0 (kh:=k) (km:=k') (lo:=none) (l:=0) (h:=0) (k:=0) (.inl ⟨rfl,rfl⟩) oG oG oG oG;refine aK.val hm (v:=.slice none 0 0) ?_ .z;simp[nr hu,Instr.slice,run_underlying hu,hb,fu w (fP he)]
theorem Y2(hm:ax P F m β w){t:TypeId}{i off n:Nat}{cs:List D}{e:TypeId}{k k':IntKind}{v U O:Value}(hx:R F β w (.rs i off n) v)(hi:m i=some (.cells cs e))(hh:R F β w (.s (.int k n)) U)(hc:R F β w (.s (.int k' n)) O)(ht:aW P t=true)(hl:off+n*P.cellsOf e=cs.length){rd:List Nat}:
 aK P F m nx β w { pre:=True,val:=.rs i off n,rd:=rd } (do Pure.pure (Next.value (<- Instr.sliceAt t v none (some U) (some O)))):=by
 obtain⟨rfl,_⟩:=hh.cm;obtain⟨rfl,_⟩:=hc.cm;obtain⟨hu,he⟩:=ia ht;rcases hx.vi hm hi with⟨h1,h2,C,h4,a,rfl⟩|⟨b,o,room,J,af,⟨C,a,rfl⟩|⟨cap,rfl,X,g2,g3,g4⟩⟩
 .subst h2 C;have hb:=uz (P:=P) (w:=w) 0 0 (kh:=k) (km:=k') (lo:=none) (l:=0) (h:=0) (k:=0) (.inl ⟨rfl,rfl⟩) oG oG oG oG;refine aK.val hm (v:=.slice a 0 0) ?_ (.gu i a h4);simp[nr hu,Instr.slice,run_underlying hu,hb,fu w (fP he)]
 .subst C;have hb:=uz (P:=P) (w:=w) 0 0 (kh:=k) (km:=k') (lo:=none) (l:=0) (h:=0) (k:=0) (.inl ⟨rfl,rfl⟩) oG oG oG oG;refine aK.val hm (v:=.slice a 0 0) ?_ (.ir i off a b o cs.length room (P.cellsOf e) J);simp[nr hu,Instr.slice,run_underlying hu,hb,fu w (fP he)]
 .have hb:=uz (P:=P) (w:=w) n cap (kh:=k) (km:=k') (lo:=none) (l:=0) (h:=n) (k:=n) (.inl ⟨rfl,rfl⟩) oG oG oG oG;refine aK.val hm (v:=.slice (if n=0 then some ⟨b,o+off,none⟩ else some ⟨b,o+off,none⟩) n n) ?_ ?_
  .simp[nr hu,Instr.slice,run_underlying hu,hb,fu w (fP he),Addr.add_lit]
  .simp only[ite_self];cases af with
   |cells _ _ _ _ _ _ c A3 rO hlen br hh=>exact .rs i off n n b o cs.length room (P.cellsOf e) J (a6 _) (Nat.le_trans X g2) oG oG
theorem RT(b:ByteArray):Rl F β w (eV b) (Lib.strCells b):=by
 refine⟨by simp[eV,Lib.strCells],fun k d u hk hu=>?_⟩;simp only[eV,Lib.strCells,List.getElem?_map,cN] at hk hu;obtain⟨x,h1,rfl⟩:=hk;obtain⟨y,h2,rfl⟩:=hu;rw[h1] at h2;cases h2;exact⟨.s _ rfl,rfl⟩
theorem QW{t u ty:TypeId}(ht:pc P t)(hu:eN P u=true)(b:ByteArray):Src P w t u ty (aq P t) (.string b) b.size (Lib.strCells b):=by
 obtain⟨J,cn⟩:=ia ht.1;obtain⟨i,d,z,hi,hd,hz,_,jf,_,br,hb,_⟩:=qd cn;have dF:i.size=1:=br.trans ht.2.2;have hlen:=Lib.strCells_length b;have C:=uG hu;refine⟨by rw[hlen,ht.2.2,Nat.mul_one],fun hk a0 n cap O=>?_,fun hk a0 n cap fX z' U pU tg h0 tT hg cW jQ=>?_,fun hk g o n cap cur LJ rO X lB=>?_⟩
 .have hf:=Lib.run_firstCells_string (P:=P) w 1 b;have MU:b=.empty:=by rw[ByteArray.size_eq_zero_iff] at hk;exact hk
  subst MU;cases a0<;>simp[Builtin.append_,run_underlying J,run_underlying C,sizeOf,typeInfo,hi,Builtin.lenOf,O,Builtin.firstCells,storeCells]
 .simp only[hi,Option.bind_some] at U;rw[hz] at U;cases U;simp only[maxLen] at cW;cases a0 with
  |some ad=>exact Lib.run_append_grow_string (P:=P) w t u ty _ i z J C hi hz ad n cap fX (by rw[dF,pU,ht.2.2]) (tg ad rfl) b hg oG (growslice_fits oG (by rw[hb];exact jQ))
  |none=>
   obtain⟨rfl,rfl⟩:=h0 rfl;have:fX=[]:=List.eq_nil_of_length_eq_zero (by simpa using pU);subst this;have:=run_append_nil_string (P:=P) (w:=w) t u ty _ i z J C hi hz b hk oG (by rw[hb];simp at jQ;omega);simp only[Nat.zero_add];rw[this];simp only[Lib.strCells];congr 3;apply Array.ext';simp
 .have hf:=Lib.run_firstCells_string (P:=P) w 1 b;rw[ht.2.2,Nat.mul_one] at X ⊢;have bF:=run_storeCells_at P g (o+n) (aq P t) (Lib.strCells b) 0 cur w LJ (by simpa[hlen] using X) (Lib.strCells_oneCell b);simp only[Nat.add_zero] at bF;simp[Builtin.append_,run_underlying J,run_underlying C,sizeOf,typeInfo,hi,dF,Builtin.lenOf,rO,hf,Addr.add_lit,bF]
theorem Ye(hm:ax P F m β w){ts:Array TypeId}{ty:TypeId}{i off n:Nat}{r:Row}{v:Value}(hx:R F β w (.rs i off n) v)(hi:m i=some r)(hn:0<n){rd:List Nat}:
 aK P F m nx β w { pre:=True,val:=.rp i off,rd:=rd } (do Pure.pure (Next.value (<- Builtin.unsafeSliceData_ ts ty #[v]))):=by
 obtain⟨p,hp,af⟩:=hm.row i _ hi;cases hx with
 |js _ _ _ _ h _=>rw[h] at hp;cases hp;exact absurd rfl af.live
 |gu _ a h=>omega
 |ir _ _ a b o len room sz h=>omega
 |rs _ _ _ cap b o len room sz h h1 h2 C J=>
  exact aK.pure hm (Lib.run_unsafeSliceData_row w ts ty _ n cap oG) (.rp i off b o len room sz h)
theorem Y3(hm:ax P F m β w){t ty:TypeId}{i:Nat}{es:List (Value×D)}{v:Value}(hx:R F β w (.mp i) v)(hi:m i=some (.map es))(ht:iX P t=true){rd:List Nat}:
 aK P F m nx β w { pre:=True,val:=.s (.int .i64 es.length),rd:=rd } (do Pure.pure (Next.value (<- Builtin.len_ #[t] ty #[v]))):=by
 obtain⟨r,ms,clock,_,rfl,hb,hl,_⟩:=hx.B4 hm hi;have L:=zn ht;refine aK.pure hm (v:=.int .i64 ms.size) ?_ (by rw[hl];exact .s _ rfl);simp[Builtin.len_,run_underlying L.1,run_getObj_map w r ms clock hb,goInt]
theorem Xa{e:TypeId}(hc:P.cellsOf e=1)(count off n:Nat)(hn:off+n<=count):liesAt P P.depth e count off e n=true:=by
 have hd:P.depth=(2*(P.types.size+Made.depth)+1)+1:=rfl;rw[hd];simp only[liesAt,Bool.or_eq_true];left;rw[hd];simp[rowAt,hc,hn,sameLayout,Nat.mod_one]
theorem aax(pt U ty e:TypeId)(hp:P.underlying pt=some (.pointer e))(hc:P.cellsOf e=1)(g o cells:Nat)(nV:w.shape? g=some (e,cells))(l:List UInt8)(h0:l≠[])(hn:o+l.length<=cells)(VP:l.length<=9223372036854775807)
 (C:∀ j x,l[j]? =some x->w.cell? ((⟨g,o,none⟩:Addr).add j)=some (.int .u8 x.toNat)) (k:IntKind):
 (Builtin.unsafeString_ #[pt,U] ty #[.pointer (some ⟨g,o,none⟩),.int k l.length]).run P w=.ok (.string ⟨l.toArray⟩) (w.freeze ⟨g,o,none⟩ l.length):=by
 have hl:l.length≠0:=by simpa using h0
 have X:=Lib.run_loadBytes (P:=P) w l ⟨g,o,none⟩ .empty C;have J:=Xa (P:=P) hc (cells / P.cellsOf e) o l.length (by rw[hc];simpa using hn);have O:¬ (9223372036854775807:Int)<(l.length:Int):=by omega
 have LK:Builtin.unsafeString_ #[pt,U] ty #[.pointer (some ⟨g,o,none⟩),.int k l.length]=
  (do
   let n<- asInt (.int k l.length)
   if n<0 then runtimePanic (.error "unsafe.String: len out of range")
   if n>IntKind.i64.max then unsupported (.unsafePointer "String: a length above the largest int")
   if n=0 then pure (.string .empty)
   else if<- variablesAt ⟨g,o,none⟩ (<- elemOf pt) n.toNat then do
    let s<- loadBytes ⟨g,o,none⟩ .empty n.toNat
    freeze ⟨g,o,none⟩ n.toNat
    pure (.string s)
   else unsupported (.unsafePointer "String: not so many bytes at ptr")):=rfl
 rw[LK];have cW:IntKind.i64.max=9223372036854775807:=rfl;have LL:¬ (l.length:Int)<0:=by omega
 simp[asInt,asIntOf,cW,O,LL,hl,variablesAt,nV,elemOf,run_underlying hp,J,X]
theorem Oa(w:World)(a:Addr)(n k:Nat)(h:k≠a.block):(w.freeze a n).heap[k]? =w.heap[k]? :=by
 unfold World.freeze;split
 .rfl
 .simp only[Array.getElem?_modify];rw[if_neg (fun e=>h e.symm)]
theorem XK(w:World)(a:Addr)(n:Nat):(w.freeze a n).heap.size=w.heap.size:=by
 unfold World.freeze;split
 .rfl
 .simp
theorem Yf(w:World)(a:Addr)(n:Nat):Out w (w.freeze a n):=by
 unfold World.freeze;split<;>exact⟨rfl,rfl⟩
theorem XL(w:World)(a:Addr)(n b:Nat):ll w (w.freeze a n) b:=by
 by_cases hb:b=a.block
 .subst hb;unfold World.freeze;split
  .exact ll.refl w _
  .refine⟨fun o u hu=>?_,fun ms c hm=>?_⟩
   .simp only[World.cell?,Array.getElem?_modify,if_true] at hu ⊢;cases hh:w.heap[a.block]? with
    |none=>rw[hh] at hu;simp at hu
    |some C=>
     rw[hh] at hu;cases C<;>simp_all
   .simp only[Array.getElem?_modify,if_true,hm,Option.map_some]
 .exact sY (Oa w a n b hb)
theorem XM(hm:ax P F m β w){i:Nat}{p:Pl}{a:Addr}(hp:β i=some p)(hb:p.bA=some a.block)(n:Nat):
 ax P F (up m i none) (up β i (some .dead)) (w.freeze a n)/\Step β w (up β i (some .dead)) (w.freeze a n):=by
 have X:=zj β w i;have C:=hm.dead i;have U:=XK w a n;have ho:=Oa w a n
 have hs:Step β w (up β i (some .dead)) (w.freeze a n):=⟨oG,fun k hk hf=>⟨ho k fun e=>hf i p hp (e▸hb),(X.du k hk hf).2⟩,X.fG,Yf w a n,fun j r hj O=>mA (ho r fun e=>by
  have:=hm.inj j i _ p a.block hj hp (by simp[Pl.bA,e]) hb;subst this;rw[ai] at O
  cases O)⟩
 have a8:∀ j q,up β i (some .dead) j=some q->∀ c,q.bA=some c->c≠a.block:=fun j q hq c hc e=>by
  by_cases hj:j=i
  .subst hj;rw[ai] at hq;cases hq;simp[Pl.bA] at hc
  .rw[aA _ _ hj] at hq;exact hm.og hp hb hq hj (e▸hc)
 refine⟨⟨fun j r hj=>?_,C.inj,fun j q c hq hc=>by rw[U];exact C.lt j q c hq hc,C.nf,C.fb.next (fun c hc=>by rw[U];exact C.fb.lt c hc) (fun _ h=>h) fun t _ J=>ho _ fun e=>hm.nf i p _ hp hb (e▸J)⟩,hs⟩;obtain⟨q,hq,af⟩:=C.row j r hj;exact⟨q,hq,af.gen oG (fun c _ J hf=>⟨XL w a n c,hf,J⟩) (fun _ _ _ h=>.inl h) fun c hc=>ho c (a8 j q hq c hc)⟩
theorem Y4(hm:ax P F m β w){t u ty e:TypeId}{l:List Int}{i off:Nat}{cs:List D}{k:IntKind}{U O:Value}(hp:R F β w (.rp i off) U)(hn:R F β w (.s (.int k l.length)) O)(hi:m i=some (.cells cs e))(hl:(cs.drop off).take l.length=kB l)(h0:l≠[])
 (ht:P.underlying t=some (.pointer e)) (he:P.cellsOf e=1) (cW:l.length<=maxLen) (hr:∀ x∈l,0<=x/\x<256) {rd:List Nat}:
 aK P F m nx β w { pre:=True,val:=.s (.string (mkStr l)),aL:=[(i,none)],rd:=rd } (do Pure.pure (Next.value (<- Builtin.unsafeString_ #[t,u] ty #[U,O]))):=by
 obtain⟨rfl,_⟩:=hn.cm;obtain⟨b,o,room,sz,J,rfl,af⟩:=hp.FD hm hi;obtain⟨c,h1,h2⟩:=((af.rd.1.drop off).take l.length).AI;rw[hl] at h1;have hc:=I2 h1;subst hc;cases af with
 |cells _ _ _ _ _ _ cc X rO hlen br hh=>
 have je:l.length<=cs.length - off:=by
  have:=congrArg List.length hl;simp[kB] at this;omega
 have jP:0<l.length:=List.length_pos_iff.2 h0
 have C:=aax (P:=P) (w:=w) t u ty e ht he b (o+off) cc.size (by simp[World.shape?,X]) (l.map fun n=>UInt8.ofNat n.toNat) (by simpa using h0) oP (by simp[maxLen] at cW ⊢;omega) (fun j x hx=>by
  simp only[List.getElem?_map,cN] at hx;obtain⟨n,hn,rfl⟩:=hx;have hb:=hr n (cX hn);rw[h2 j (.int .u8 n) (by simp[hn])];have:(UInt8.ofNat n.toNat).toNat=n.toNat:=by simp;omega
  rw[this,Int.toNat_of_nonneg hb.1]) k
 simp only[List.length_map] at C;obtain⟨q1,q2⟩:=XM hm (a:=⟨b,o+off,none⟩) J rfl l.length;refine⟨_,.string (mkStr l),_,_,by simp only[Sem.run_bind,C,Result.andThen_ok,Sem.run_pure];rfl,.inl rfl,.s _ rfl,q1,q2,fun j hj _=>?_⟩;rw[aA _ _ fun e=>by rw[e,J] at hj;cases hj];exact hj
theorem RU(hm:ax P F m β w)(hn:β nx=none){t:TypeId}{x:D}{v:Value}(hs:P.cellsOf t=2)(hx:R F β w x v)(h1:v.oneCell'=true):
 ax P F (up m nx (some (.bs false x t))) (up β nx (some (.cells w.heap.size 0 2 2 2))) (w.alloc (.cells #[.pointer none,v] t))/\Step β w (up β nx (some (.cells w.heap.size 0 2 2 2))) (w.alloc (.cells #[.pointer none,v] t)):=by
 have C:=zh hm (.cells #[.pointer none,v] t) hn (.cells w.heap.size 0 2 2 2) (fun b hb=>by simp[Pl.bA] at hb;exact hb.symm);exact⟨hm.alloc hn _ _ _ (fun b hb=>by simp[Pl.bA] at hb;exact hb.symm) (.bs false x t _ v (heap_alloc_new w _) hs (hx.step C) h1),C⟩
theorem Y5(hm:ax P F m β w)(hn:β nx=none){t:TypeId}{c d:D}{v:Value}(hc:c.cells=[.s (.pointer none),d])(hd:d.one=true)(hs:P.cellsOf t=2)(hx:R F β w c v):
 aK P F m nx β w { pre:=True,val:=.rp nx 0,aL:=[(nx,some (.bs false d t))],new:=1 } (do Pure.pure (Next.value (<- Instr.box t v))):=by
 have X:c.cells.all D.one=true:=by rw[hc];simp only[List.all_cons,List.all_nil,hd];rfl
 obtain⟨C,J,c3⟩:=hx.cells X;rw[hc] at C J
 have h0:∃ O U,v.cells= #[O,U]:=by
  obtain⟨l,hl⟩:∃ l,v.cells=⟨l⟩:=⟨v.cells.toList,rfl⟩
  rw[hl] at C ⊢
  match l,C with
  |[a,b],_=>exact⟨a,b,rfl⟩
 obtain⟨O,U,hv⟩:=h0;obtain⟨q0,_⟩:=J 0 (.s (.pointer none)) O rfl (by simp[hv]);obtain⟨q1,q2⟩:=J 1 d U rfl (by simp[hv]);obtain⟨rfl,_⟩:=q0.cm;obtain⟨h2,h3⟩:=RU hm hn hs q1 q2;refine⟨_,_,_,_,by simp[Instr.box,Bz,hv];rfl,.inl rfl,?_,h2,h3,uH⟩;exact .rp nx 0 w.heap.size 0 _ _ _ (ai _ _ _)
theorem XN(hm:ax P F m β w)(hn:β nx=none){t:TypeId}(ht:aB P t=true)(hz:aV P t=[.s (.pointer none),.z]):
 aK P F m nx β w { pre:=True,val:=.rp nx 0,aL:=[(nx,some (.bs false .z t))],new:=1 } (do Pure.pure (Next.value (<- Instr.alloc t true (.tuple #[])))):=by
 obtain⟨z,pX,jf,X,h4⟩:=wP (P:=P) w ht;obtain⟨C,J⟩:=xA (F:=F) (β:=β) (w:=w) X h4;rw[hz] at C J
 have h0:∃ O U,z.cells= #[O,U]:=by
  obtain⟨l,hl⟩:∃ l,z.cells=⟨l⟩:=⟨z.cells.toList,rfl⟩
  rw[hl] at C ⊢
  match l,C with
  |[a,b],_=>exact⟨a,b,rfl⟩
 obtain⟨O,U,hv⟩:=h0;obtain⟨q0,_⟩:=J 0 (.s (.pointer none)) O rfl (by simp[hv]);obtain⟨q1,q2⟩:=J 1 .z U rfl (by simp[hv]);obtain⟨rfl,_⟩:=q0.cm;have hs:P.cellsOf t=2:=by rw[<- jf,hv];rfl
 obtain⟨h5,h6⟩:=RU hm hn hs q1 q2;refine⟨_,_,_,_,by simp[Instr.alloc,pX,Bz,hv];rfl,.inl rfl,?_,h5,h6,uH⟩;exact .rp nx 0 w.heap.size 0 _ _ _ (ai _ _ _)
theorem J5(hm:ax P F m β w){i off:Nat}{u:Bool}{x:D}{T:TypeId}{a:Value}(ha:R F β w (.rp i off) a)(hi:m i=some (.bs u x T)):
 ∃ b v,β i=some (.cells b 0 2 2 2)/\a=.pointer (some ⟨b,0+off,none⟩)/\w.heap[b]? =some (.cells #[.pointer (if u then some ⟨b,0,none⟩ else none),v] T (0,0))/\P.cellsOf T=2/\R F β w x v/\v.oneCell'=true:=by
 obtain⟨p,hp,af⟩:=hm.row i _ hi;cases af with
 |bs _ _ _ b v hb hs hx h1=>
 cases ha with
 |qM _ _ _ h _=>rw[h] at hp;cases hp
 |rp _ _ C o len room sz h=>
  rw[h] at hp;cases hp;exact⟨b,v,h,rfl,hb,hs,hx,h1⟩
theorem Yg(hm:ax P F m β w){t:TypeId}{i:Nat}{u:Bool}{x:D}{T:TypeId}{a:Value}(ha:R F β w (.rp i 1) a)(hi:m i=some (.bs u x T))(ht:aB P t=true)(hg:bq P t=false){rd:List Nat}:
 aK P F m nx β w { pre:=True,val:=x,rd:=rd } (do Pure.pure (Next.value (<- Instr.loadAt t a))):=by
 obtain⟨b,v,_,rfl,hb,_,hx,h1⟩:=J5 hm ha hi;refine aK.pure hm (v:=v) ?_ hx;have hc:w.cell? ⟨b,0+1,none⟩=some v:=by simp[World.cell?,hb]
 simp[Instr.loadAt,Instr.sureAddr,loadVar,By w (zu ht),hg,hc]
theorem XO(hm:ax P F m β w){t:TypeId}{i:Nat}{u:Bool}{x d:D}{T:TypeId}{a y:Value}(ha:R F β w (.rp i 1) a)(hy:R F β w d y)(hi:m i=some (.bs u x T))(ht:aB P t=true)(hg:bq P t=false)(hd:d.one=true){rd:List Nat}:
 aK P F m nx β w { pre:=True,val:=.aT [],aL:=[(i,some (.bs u d T))],rd:=rd } (do Instr.storeAt t a y;Pure.pure Next.skip):=by
 obtain⟨b,v,U,rfl,hb,hs,hx,h1⟩:=J5 hm ha hi;have C:y.oneCell'=true:=hy.one hd;obtain⟨_,_,_,_,_,_,ua,_⟩:=qd ht;have tg:y.cells= #[y]:=by cases y<;>first|rfl|simp[Value.oneCell'] at C
 have J:=run_storeCells_at P b 1 T [y] 0 #[.pointer (if u then some ⟨b,0,none⟩ else none),v] w hb oS (by simpa using C)
 have X:(storeVar t ⟨b,0+1,none⟩ y).run P w=.ok () (w.setRow b #[.pointer (if u then some ⟨b,0,none⟩ else none),y]):=by
  simp only[storeVar];simp only[Nat.add_zero] at J;simp[fu w (fP ht),ua hg,tg,J]
 have oD:=setRow_heap w b #[.pointer (if u then some ⟨b,0,none⟩ else none),v] #[.pointer (if u then some ⟨b,0,none⟩ else none),y] T (0,0) hb;have ho:∀ k,k≠b->(w.setRow b #[.pointer (if u then some ⟨b,0,none⟩ else none),y]).heap[k]? =w.heap[k]? :=fun k hk=>setRow_other w b k _ hk;have br:(w.setRow b #[.pointer (if u then some ⟨b,0,none⟩ else none),y]).heap.size=w.heap.size:=by simp
 have O:=Bv hm U rfl oG ho;have gn:=hm.write U rfl br ho (.bs u d T) (.bs u d T b y oD hs (hy.step O) C);exact⟨.skip,undef,_,β,by simp[Instr.storeAt,Instr.sureAddr,X],.inr ⟨rfl,rfl⟩,.aT [] [] rfl oS,gn,O,fun _ h _=>h⟩
theorem aay(hm:ax P F m β w){t:TypeId}{x:Value}{lo hi:Option Value}{l h:Option D}(hx:R F β w .z x)(fJ:eg l 0=some 0)(jO:eg h 0=some 0)(hl:∀ d,l=some d->∃ v,lo=some v/\R F β w d v)(J:l=none->lo=none)(hh:∀ d,h=some d->∃ v,hi=some v/\R F β w d v)(O:h=none->hi=none)(ht:aW P t=true):
 aK P F m nx β w { pre:=True,val:=.z } (do Pure.pure (Next.value (<- Instr.sliceAt t x lo hi none))):=by
 rw[hx.ym];obtain⟨hu,he⟩:=ia ht
 have sw:∀ {o:Option D} {y:Option Value},eg o 0=some 0->(∀ d,o=some d->∃ v,y=some v/\R F β w d v)->(o=none->y=none)->(y=none/\(0:Int)=0)\/∃ kk,y=some (.int kk 0):=fun {o y} h1 h2 C=>by
  cases o with
  |none=>exact .inl ⟨C rfl,rfl⟩
  |some d=>
   obtain⟨v,rfl,hv⟩:=h2 d rfl;right;unfold eg at h1;simp only[D.int?] at h1;split at h1
   .rename_i k n;simp only[aH] at h1;subst h1;exact⟨k,by rw[hv.cm.1]⟩
   .cases h1
 have hb:=wT (P:=P) (w:=w) true 0 0 (l:=0) (h:=0) (sw fJ hl J) (by simpa using sw jO hh O) oG oG oG;refine aK.val hm (v:=.slice none 0 0) ?_ .z;simp[nr hu,Instr.slice,run_underlying hu,hb,fu w (fP he)]
theorem Y6(hm:ax P F m β w){t:TypeId}{d:D}{v u:Value}(hd:mT d=some v)(hv:plain (.iface t v)=true)(ht:wl P t=true)(hu:R F β w d u):
 aK P F m nx β w { pre:=True,val:=.s (.iface t v) } (do Pure.pure (Next.value (<- Instr.makeInterface t u))):=by
 rw[zZ hd hu];refine aK.pure hm (v:=.iface t v) ?_ (.s _ hv);unfold wl at ht;cases hh:P.underlying t with
 |none=>rw[hh] at ht;cases ht
 |some x=>
  rw[hh] at ht;cases x<;>first|(cases ht;done)|simp[Instr.makeInterface,run_underlying hh]
theorem aer{v:Value}{t:TypeId}(h:plain (.iface t v)=true):R F β w (VJ v) v:=by
 cases v with
 |agg cs=>
  refine .agg (cs.toList.map .s) cs.toList oS fun k d u hd hu=>?_;simp only[List.getElem?_map,hu,Option.map_some,aH] at hd;subst hd;have h1:=cv.1 h u (cX hu);exact .s u (by cases u<;>first|exact h1|(simp[B7] at h1;done))
 |iface=>simp[plain] at h
 |_=>exact .s _ h
theorem Y7(hm:ax P F m β w){u t:TypeId}{v x:Value}(hx:R F β w (.s v) x)(hv:MO v=true)(ht:wl P t=true)(ho:aB P t=true)(hz:tU P t=true):
 aK P F m nx β w { pre:=True,val:=Ag P t v } (do Pure.pure (Next.value (<- Instr.typeAssert x u t true))):=by
 obtain⟨rfl,hp⟩:=hx.cm;obtain⟨z,C,J⟩:=EG (F:=F) (β:=β) (w:=w) ho hz
 have aT:∀ {a b:D} {y:Value} {g:Bool},R F β w a y->R F β w (.aT [a,.s (.bool g)]) (.tuple #[y,.bool g]):=fun {a b y g} h=>
  .aT [a,.s (.bool g)] [y,.bool g] rfl fun k d u hd hu=>by
   match k with
   |0=>simp at hd hu;subst hd;subst hu;exact h
   |1=>simp at hd hu;subst hd;subst hu;exact .s _ rfl
   |k+2=>simp at hd
 unfold wl at ht;cases hh:P.underlying t with
 |none=>rw[hh] at ht;cases ht
 |some q=>
  rw[hh] at ht;have hq:∀ want,q≠ .interface want:=fun want e=>by rw[e] at ht;cases ht
  cases x with
  |iface k y=>
   by_cases hk:k=t
   .subst hk;refine aK.pure hm (v:=.tuple #[y,.bool true]) ?_ (by simp only[Ag,if_true];exact aT (b:=.u) (aer hp));simp only[Instr.typeAssert,Sem.run_bind,run_underlying hh,Result.andThen_ok];cases q<;>first|exact absurd rfl (hq _)|simp
   .refine aK.pure hm (v:=.tuple #[z,.bool false]) ?_ (by simp only[Ag,if_neg hk];exact aT (b:=.u) J);simp only[Instr.typeAssert,Sem.run_bind,run_underlying hh,Result.andThen_ok];cases q<;>first|exact absurd rfl (hq _)|simp[hk,C]
  |nilIface=>
   refine aK.pure hm (v:=.tuple #[z,.bool false]) ?_ (by simp only[Ag];exact aT (b:=.u) J);simp only[Instr.typeAssert,Sem.run_bind,run_underlying hh,Result.andThen_ok];cases q<;>first|exact absurd rfl (hq _)|simp[C]
  |_=>cases hv
theorem Y8(hm:ax P F m β w){t ty:TypeId}{i off n k:Nat}{cs news:List D}{y:D}{p:Prop}{rd VQ:List Nat}{a b:Value}(ha:R F β w (.rs i off n) a)(hi:m i=some (.cells cs (aq P t)))(hb:R F β w y b)(hy:gY m (P.cellsOf (aq P t)) y=some (p,rd,k,news))(hp:p)
 (ht:aW P t=true) (hk:k<=n) (hl:off+n*P.cellsOf (aq P t)<=cs.length):
 aK P F m nx β w { pre:=True,val:=.s (.int .i64 k),aL:=[(i,some (.cells (dL cs off news) (aq P t)))],rd:=VQ } (do Pure.pure (Next.value (<- Builtin.copy_ #[t,t] ty #[a,b]))):=by
 obtain⟨hu,cn⟩:=ia ht;obtain⟨a',O,c,rfl,C,U,Hq,MW⟩:=OJ hm hb hy hp (fun _ _ _ _ _ _ _=>.inr trivial);have gf:news.length=k*P.cellsOf (aq P t):=by rw[<- C.1,U]
 have Us:Nat.min k n=k:=Nat.min_eq_left hk
 have VR:(Builtin.firstCells (P.cellsOf (aq P t)) k (.slice a' k O)).run P w=.ok c.toArray w:=by
  cases a' with
  |none=>rw[run_firstCells_none,(MW rfl).1]
  |some ad=>exact run_firstCells_some (cs:=c) (hl:=U) (h:=Hq ad rfl) ..
 have cK:∀ (a0:Option Addr) (cap:Nat) (w':World),(∀ ad,a0=some ad->(storeCells ad c).run P w=.ok () w')->(a0=none->w'=w)->(Builtin.copy_ #[t,t] ty #[.slice a0 n cap,.slice a' k O]).run P w=.ok (.int .i64 k) w':=fun a0 cap w' h1 h2=>by
  cases a0 with
  |none=>rw[h2 rfl];simp[Builtin.copy_,Builtin.lenOf,run_underlying hu,fu w (fP cn),Us,VR,goInt]
  |some ad=>simp[Builtin.copy_,Builtin.lenOf,run_underlying hu,fu w (fP cn),Us,VR,goInt,h1 ad rfl]
 have lX:up m i (some (.cells cs (aq P t)))=m:=by
  funext j;by_cases hj:j=i
  .subst hj;rw[ai,hi]
  .rw[aA _ _ hj]
 have X:k=0->(∀ (a0:Option Addr) (cap:Nat),a=.slice a0 n cap->aK P F m nx β w { pre:=True,val:=.s (.int .i64 k),aL:=[(i,some (.cells (dL cs off news) (aq P t)))],rd:=VQ } (do Pure.pure (Next.value (<- Builtin.copy_ #[t,t] ty #[a,.slice a' k O])))):=by
  rintro rfl a0 cap rfl;have yQ:c=[]:=List.eq_nil_of_length_eq_zero (by rw[U];simp);have J:news=[]:=List.eq_nil_of_length_eq_zero (by rw[gf];simp);subst yQ J;refine⟨.value (.int .i64 0),_,w,β,?_,.inl rfl,.s _ rfl,?_,Step.refl β w,fun _ h _=>h⟩
  .rw[Sem.run_bind,cK a0 cap w (fun ad _=>by simp[storeCells]) (fun _=>rfl)];rfl
  .have e:dL cs off []=cs:=by simp[dL]
   simp only[bT,e,lX];exact hm
 rcases ha.vi hm hi with⟨_,_,J,_,a0,rfl⟩|⟨b',o,room,hβ,af,jm⟩
 .subst J;exact X oG a0 0 rfl
 .rcases jm with⟨J,a0,rfl⟩|⟨cap,rfl,_⟩
  .subst J;exact X oG a0 0 rfl
  .have hle:news.length<=n*P.cellsOf (aq P t):=by rw[gf];exact Nat.mul_le_mul_right _ hk
   obtain⟨w',bF,gn,hs⟩:=H' (P:=P) hm hβ af (off:=off) (ds:=news) (vs:=c) C.1 oG (fun u hu=>by
    obtain⟨j,hj⟩:=fI hu;have c8:j<news.length:=by rw[<- C.1];exact(bU.1 hj).1
    exact(C.2 j news[j] u (by simp[c8]) hj).2) fun j d u hd hu=>(C.2 j d u hd hu).1
   refine⟨.value (.int .i64 k),_,w',β,?_,.inl rfl,.s _ rfl,gn,hs,fun _ h _=>h⟩;rw[Sem.run_bind,cK _ cap w' (fun ad qS=>by cases qS;exact bF) (fun h=>by cases h)];rfl
theorem cI.env{ρ J:Operand->D}{nx:Nat}{o:Op}{e:cR}(hr:∀ x∈o.operands,J x=ρ x)(h:cI P ρ m nx o e):cI P J m nx o e:=by
 cases h with
 |add t p x y a b hx hy h=>exact .add t p x y a b ((hr x bB).trans hx) ((hr y bB).trans hy) h
 |Ah src dst x l hx hs hd=>exact .Ah src dst x l ((hr x bB).trans hx) hs hd
 |Ai src dst x l i off cs e hx hi hl hs hd=>exact .Ai src dst x l i off cs e ((hr x bB).trans hx) hi hl hs hd
 |rune src dst x k k' n hx hs hd h0 h1=>exact .rune src dst x k k' n ((hr x bB).trans hx) hs hd h0 h1
 |cut t x h c es n k k' hx hh hc ht hn=>exact .cut t x h c es n k k' ((hr x bB).trans hx) ((hr h bB).trans hh) ((hr c bB).trans hc) ht hn
 |xK c s x t es news n k p rd hc hs hx hp ht hn hk hz C hb=>
  refine .xK c s x t es news n k p rd hc ((hr s (by rw[hc];simp[Op.operands,Call.operands])).trans hs) ?_ hp ht hn hk hz C hb;rw[hr x (by rw[hc];simp[Op.operands,Call.operands])];exact hx
 |uQ c s x t u b hc hs hx ht hu C hb=>exact .uQ c s x t u b hc ((hr s (by rw[hc];simp[Op.operands,Call.operands])).trans hs) ((hr x (by rw[hc];simp[Op.operands,Call.operands])).trans hx) ht hu C hb
 |vd c s x t u b i off n cs hc hs hx hi ht hu hf C hb=>exact .vd c s x t u b i off n cs hc ((hr s (by rw[hc];simp[Op.operands,Call.operands])).trans hs) ((hr x (by rw[hc];simp[Op.operands,Call.operands])).trans hx) hi ht hu hf C hb
 |yd c x t i es hc hx hi ht=>exact .yd c x t i es hc ((hr x (by rw[hc];simp[Op.operands,Call.operands])).trans hx) hi ht
 |vr c s t i off n r hc hs hi hn=>exact .vr c s t i off n r hc ((hr s (by rw[hc];simp[Op.operands,Call.operands])).trans hs) hi hn
 |vH c p n t u e l i off cs k hc hp hn hi hl h0 ht he C O=>exact .vH c p n t u e l i off cs k hc ((hr p (by rw[hc];simp[Op.operands,Call.operands])).trans hp) ((hr n (by rw[hc];simp[Op.operands,Call.operands])).trans hn) hi hl h0 ht he C O
 |zW t hb ht hz=>exact .zW t hb ht hz
 |ye t x d hb hx hd hs=>exact .ye t x d hb (by rw[hr x bB];exact hx) hd hs
 |AX t x lo hi hx fJ jO ht=>
  refine .AX t x lo hi ((hr x bB).trans hx) ?_ ?_ ht
  .cases lo with
   |none=>exact fJ
   |some y=>simp only[Option.map_some] at fJ ⊢;rw[hr y bB];exact fJ
  .cases hi with
   |none=>exact jO
   |some y=>simp only[Option.map_some] at jO ⊢;rw[hr y bB];exact jO
 |AB t x h c k k' hx hh hc ht=>exact .AB t x h c k k' ((hr x bB).trans hx) ((hr h bB).trans hh) ((hr c bB).trans hc) ht
 |AD t x h c i off n cs e k k' hx hi hh hc ht hl=>exact .AD t x h c i off n cs e k k' ((hr x bB).trans hx) hi ((hr h bB).trans hh) ((hr c bB).trans hc) ht hl
 |yg b op t p x fL hx ht=>exact .yg b op t p x fL ((hr x bB).trans hx) ht
 |yh b op t p x i off n cs e fL hx hi hn ht=>exact .yh b op t p x i off n cs e fL ((hr x bB).trans hx) hi hn ht
 |mkIf t x v hx hv ht=>exact .mkIf t x v (by rw[hr x bB];exact hx) hv ht
 |AE x u t v hx hv ht ho hz=>exact .AE x u t v ((hr x bB).trans hx) hv ht ho hz
 |copy c x y t i off n k cs news p rd hc hx hi hy hp ht hk hl=>
  refine .copy c x y t i off n k cs news p rd hc ((hr x (by rw[hc];simp[Op.operands,Call.operands])).trans hx) hi ?_ hp ht hk hl;rw[hr y (by rw[hc];simp[Op.operands,Call.operands])];exact hy
 |xL t a i u x T ha hi ht hg=>exact .xL t a i u x T ((hr a bB).trans ha) hi ht hg
 |ve t a y i u x T ha hi ht hg hy=>
  rw[<- hr y bB];exact .ve t a y i u x T ((hr a bB).trans ha) hi ht hg (by rw[hr y bB];exact hy)
theorem cI.mem{ρ:Operand->D}{m':Mem}{nx:Nat}{o:Op}{e:cR}(h:cI P ρ m nx o e)(hr:∀ i∈e.rd,m i≠none->m' i=m i):cI P ρ m' nx o e:=by
 cases h with
 |add t p x y a b hx hy h=>exact .add t p x y a b hx hy h
 |Ah src dst x l hx hs hd=>exact .Ah src dst x l hx hs hd
 |Ai src dst x l i off cs e hx hi hl hs hd=>exact .Ai src dst x l i off cs e hx ((hr i oS (by simp[hi])).trans hi) hl hs hd
 |rune src dst x k k' n hx hs hd h0 h1=>exact .rune src dst x k k' n hx hs hd h0 h1
 |cut t x h c es n k k' hx hh hc ht hn=>exact .cut t x h c es n k k' hx hh hc ht hn
 |xK c s x t es news n k p rd hc hs hx hp ht hn hk hz C hb=>
  refine .xK c s x t es news n k p rd hc hs ?_ hp ht hn hk hz C hb;revert hx;unfold gY;split
  .exact id
  .exact id
  .intro hx;split at hx
   .rename_i J;cases hx;rw[hr _ oS (by simp[J]),J]
   .cases hx
  .exact id
 |uQ c s x t u b hc hs hx ht hu C hb=>exact .uQ c s x t u b hc hs hx ht hu C hb
 |vd c s x t u b i off n cs hc hs hx hi ht hu hf C hb=>exact .vd c s x t u b i off n cs hc hs hx ((hr i oS (by simp[hi])).trans hi) ht hu hf C hb
 |yd c x t i es hc hx hi ht=>exact .yd c x t i es hc hx ((hr i oS (by simp[hi])).trans hi) ht
 |vr c s t i off n r hc hs hi hn=>exact .vr c s t i off n r hc hs ((hr i oS (by simp[hi])).trans hi) hn
 |vH c p n t u e l i off cs k hc hp hn hi hl h0 ht he C O=>exact .vH c p n t u e l i off cs k hc hp hn ((hr i oS (by simp[hi])).trans hi) hl h0 ht he C O
 |zW t hb ht hz=>exact .zW t hb ht hz
 |ye t x d hb hx hd hs=>exact .ye t x d hb hx hd hs
 |AX t x lo hi hx fJ jO ht=>exact .AX t x lo hi hx fJ jO ht
 |AB t x h c k k' hx hh hc ht=>exact .AB t x h c k k' hx hh hc ht
 |AD t x h c i off n cs e k k' hx hi hh hc ht hl=>exact .AD t x h c i off n cs e k k' hx ((hr i oS (by simp[hi])).trans hi) hh hc ht hl
 |yg b op t p x fL hx ht=>exact .yg b op t p x fL hx ht
 |yh b op t p x i off n cs e fL hx hi hn ht=>exact .yh b op t p x i off n cs e fL hx ((hr i oS (by simp[hi])).trans hi) hn ht
 |mkIf t x v hx hv ht=>exact .mkIf t x v hx hv ht
 |AE x u t v hx hv ht ho hz=>exact .AE x u t v hx hv ht ho hz
 |copy c x y t i off n k cs news p rd hc hx hi hy hp ht hk hl=>
  refine .copy c x y t i off n k cs news p rd hc hx ((hr i oS (by simp[hi])).trans hi) ?_ hp ht hk hl;revert hy;unfold gY;split
  .exact id
  .exact id
  .intro hx;split at hx
   .rename_i J;cases hx;rw[hr _ oS (by simp[J]),J]
   .cases hx
  .exact id
 |xL t a i u x T ha hi ht hg=>exact .xL t a i u x T ha ((hr i oS (by simp[hi])).trans hi) ht hg
 |ve t a y i u x T ha hi ht hg hy=>exact .ve t a y i u x T ha ((hr i oS (by simp[hi])).trans hi) ht hg hy
theorem cI.defer{ρ:Operand->D}{nx:Nat}{o:Op}{e:cR}(h:cI P ρ m nx o e):∀ c,o≠ .defer c:=by cases h<;>simp
theorem cI.tidy{ρ:Operand->D}{nx:Nat}{o:Op}{e:cR}(h:cI P ρ m nx o e):
 (∀ i∈e.aL.map (·.1),m i≠none\/(nx<=i/\i<nx+e.new))/\(cp o=0->e.rd=[]/\e.aL=[])/\(cp o=1->e.aL=[])/\(cp o=3->e.rd=[]/\∀ i∈e.aL.map (·.1),nx<=i):=by
 cases h with
 |xK c s x t es news n k p rd hc hs hx hp ht hn hk hz C hb=>rw[hc];simp[cp]
 |uQ c s x t u b hc hs hx ht hu C hb=>rw[hc];simp[cp]
 |vd c s x t u b i off n cs hc hs hx hi ht hu hf C hb=>rw[hc];simp[cp,hi]
 |yd c x t i es hc hx hi ht=>rw[hc];simp[cp]
 |vr c s t i off n r hc hs hi hn=>rw[hc];simp[cp]
 |vH c p n t u e l i off cs k hc hp hn hi hl h0 ht he C J=>rw[hc];simp[cp,hi]
 |ve t a y i u x T ha hi ht hg hy=>simp[cp,hi]
 |yg b op t p x fL hx ht=>subst fL;cases b<;>simp[cp]
 |yh b op t p x i off n cs e fL hx hi hn ht=>subst fL;cases b<;>simp[cp]
 |copy c x y t i off n k cs news p rd hc hx hi hy hp ht hk hl=>rw[hc];simp[cp,hi]
 |_=>simp[cp]
theorem OK(hm:ax P F m β w){o:Oper}{env:Env}{a:Act}{e:cR}(hn:e.new=1->β nx=none)(hE:ez F β w env a)(ha:asks env o.op)(h:cI P (aZ env o.op) m nx o.op e):aK P F m nx β w e (execOp a.eval o):=by
 obtain⟨dst,op,type,pos,after,guard⟩:=o;simp only at ha h
 have hR:(∀ c x y,op≠ .pick c x y)->∀ x∈op.operands.toList,R F β w (aZ env op x) (a.eval x):=fun sx x hx=>by
  have h1:aZ env op x=(opd env x).core:=by cases op<;>first|rfl|exact absurd rfl (sx _ _ _)
  have h2:(opd env x).ask:=by cases op<;>first|exact ha x hx|exact absurd rfl (sx _ _ _)
  rw[h1];exact(hE.opd x).uO _ h2
 have call:∀ (b:Builtin) (s x:Operand) (ts:Array TypeId) (q:Sem Next),op=.call { callee:=.builtin b,args:= #[s,x],argTypes:=ts }->(∀ cs,builtin b ts type cs #[a.eval s,a.eval x]=q)->aK P F m nx β w e q->aK P F m nx β w e (execOp a.eval ⟨dst,op,type,pos,after,guard⟩):=by
  intro b s x ts q ho hb hq;subst ho;obtain⟨n,v,w',β',h1,h2⟩:=hq;refine⟨n,v,w',β',?_,h2⟩;unfold execOp;simp only[resolve,Sem.run_bind,Sem.run_pure,Result.andThen_ok,invoke];have O:(#[s,x]:Array Operand).map a.eval= #[a.eval s,a.eval x]:=by simp
  rw[O,hb];exact h1
 have S3:∀ (b:Builtin) (s:Operand) (ts:Array TypeId) (q:Sem Next),op=.call { callee:=.builtin b,args:= #[s],argTypes:=ts }->(∀ cs,builtin b ts type cs #[a.eval s]=q)->aK P F m nx β w e q->aK P F m nx β w e (execOp a.eval ⟨dst,op,type,pos,after,guard⟩):=by
  intro b s ts q ho hb hq;subst ho;obtain⟨n,v,w',β',h1,h2⟩:=hq;refine⟨n,v,w',β',?_,h2⟩;unfold execOp;simp only[resolve,Sem.run_bind,Sem.run_pure,Result.andThen_ok,invoke];have O:(#[s]:Array Operand).map a.eval= #[a.eval s]:=by simp
  rw[O,hb];exact h1
 cases h with
 |add t p x y b c hx hy h=>
  have C:=hR oS x bB;have qy:=hR oS y bB;rw[hx] at C;rw[hy] at qy;obtain⟨O,_⟩:=C.cm;obtain⟨e2,_⟩:=qy.cm;unfold execOp;refine aK.val hm (v:=.string (b++c)) ?_ (.s _ rfl);simp only[O,e2,Sem.run_bind,sN .add t x y (.string b) (.string c) oS oS,Result.andThen_ok,binOp_string_add,run_string_add_sum w b c (by simp[maxLen] at h;omega),Sem.run_pure]
 |Ah src dst x l hx hs hd=>
  have C:=hR oS x bB;rw[hx] at C;exact Yc hm C hs hd
 |Ai src dst x l i off cs e hx hi hl hs hd=>
  have C:=hR oS x bB;rw[hx] at C;exact Yd hm C hi hl hs hd
 |rune src dst x k k' n hx hs hd h0 h1=>
  have C:=hR oS x bB;rw[hx] at C;exact Y0 hm C hs hd h0 h1
 |cut t x h c es n k k' hx hh hc ht U=>
  have C:=hR oS x bB;have qh:=hR oS h bB;have qc:=hR oS c bB;rw[hx] at C;rw[hh] at qh;rw[hc] at qc;exact aaw hm C qh qc ht U
 |xK c s x t es news n k p rd hc hs hx hp ht U hk hz fq hb=>
  have J:=hR oS s (by rw[hc];simp[Op.operands,Call.operands]);have C:=hR oS x (by rw[hc];simp[Op.operands,Call.operands]);rw[hs] at J;obtain⟨cc,cg,X⟩:=ID (ty:=type) hm C hx hp ht hz;exact call .append s x _ _ (by rw[hc]) (fun _=>rfl) ((Bt hm (hn rfl) cg X (ia ht).2 hz).2.1 es n J hk U fq hb)
 |uQ c s x t u b hc hs hx ht hu fq hb=>
  have J:=hR oS s (by rw[hc];simp[Op.operands,Call.operands]);have C:=hR oS x (by rw[hc];simp[Op.operands,Call.operands]);rw[hs] at J;rw[hx] at C;obtain⟨O,_⟩:=C.cm;refine call .append s x _ _ (by rw[hc]) (fun _=>rfl) ?_;rw[O];exact(Bt hm (hn rfl) (RT b) (QW (ty:=type) ht hu b) (ia ht.1).2 (by rw[ht.2.2];omega)).1 J fq hb
 |vd c s x t u b i off n cs hc hs hx hi ht hu hf fq hb=>
  have J:=hR oS s (by rw[hc];simp[Op.operands,Call.operands]);have C:=hR oS x (by rw[hc];simp[Op.operands,Call.operands]);rw[hs] at J;rw[hx] at C;obtain⟨O,_⟩:=C.cm;refine call .append s x _ _ (by rw[hc]) (fun _=>rfl) ?_;rw[O];exact(Bt hm (hn rfl) (RT b) (QW (ty:=type) ht hu b) (ia ht.1).2 (by rw[ht.2.2];omega)).2.2 i off n cs J hi (by rw[ht.2.2];omega) fq hb
 |yd c x t i es hc hx hi ht=>
  have C:=hR oS x (by rw[hc];simp[Op.operands,Call.operands]);rw[hx] at C;exact S3 .len x _ _ (by rw[hc]) (fun _=>rfl) (Y3 hm C hi ht)
 |vr c s t i off n r hc hs hi U=>
  have J:=hR oS s (by rw[hc];simp[Op.operands,Call.operands]);rw[hs] at J;exact S3 .unsafeSliceData s _ _ (by rw[hc]) (fun _=>rfl) (Ye hm J hi U)
 |vH c p n t u e l i off cs k hc hp U hi hl h0 ht he fq mi=>
  have qp:=hR oS p (by rw[hc];simp[Op.operands,Call.operands]);have qn:=hR oS n (by rw[hc];simp[Op.operands,Call.operands]);rw[hp] at qp;rw[U] at qn;exact call .unsafeString p n _ _ (by rw[hc]) (fun _=>rfl) (Y4 hm qp qn hi hl h0 ht he fq mi)
 |zW t hb ht hz=>exact XN hm (hn rfl) ht hz
 |ye t x d hb hx hd hs=>exact Y5 hm (hn rfl) hx hd hs (hR oS x bB)
 |AX t x lo hi hx fJ jO ht=>
  have C:=hR oS x bB;rw[hx] at C;refine aay (lo:=lo.map a.eval) (hi:=hi.map a.eval) hm C fJ jO ?_ ?_ ?_ ?_ ht
  .intro d hd;obtain⟨y,rfl,rfl⟩:=cN.1 hd;exact⟨_,rfl,hR oS y bB⟩
  .intro h;cases lo<;>first|rfl|cases h
  .intro d hd;obtain⟨y,rfl,rfl⟩:=cN.1 hd;exact⟨_,rfl,hR oS y bB⟩
  .intro h;cases hi<;>first|rfl|cases h
 |AB t x h c k k' hx hh hc ht=>
  have C:=hR oS x bB;have qh:=hR oS h bB;have qc:=hR oS c bB;rw[hx] at C;rw[hh] at qh;rw[hc] at qc;exact Y1 hm C qh qc ht
 |AD t x h c i off n cs e k k' hx hi hh hc ht hl=>
  have C:=hR oS x bB;have qh:=hR oS h bB;have qc:=hR oS c bB;rw[hx] at C;rw[hh] at qh;rw[hc] at qc;exact Y2 hm C hi qh qc ht hl
 |yg b op t p x fL hx ht=>
  have C:=hR oS x bB;rw[hx] at C;have:=O' (nx:=nx) (pre:=True) (rd:=[]) (ox:=x) (oy:=.const (.slice none 0 0)) (a:=none) (l:=0) (c:=0) hm ht fL;show aK P F m nx β w _ ((do eqGuard op t x (.const (.slice none 0 0)) (a.eval x) (.slice none 0 0);binOp op t (a.eval x) (.slice none 0 0))>>=fun r=>Pure.pure (Next.value r));rw[C.ym];exact this
 |yh b op t p x i off n cs e fL hx hi U ht=>
  have C:=hR oS x bB;rw[hx] at C;show aK P F m nx β w _ ((do eqGuard op t x (.const (.slice none 0 0)) (a.eval x) (.slice none 0 0);binOp op t (a.eval x) (.slice none 0 0))>>=fun r=>Pure.pure (Next.value r));rcases C.vi hm hi with⟨_,_,h3,_⟩|⟨b',o,room,_,af,⟨h3,_⟩|⟨cap,hv,_⟩⟩
  .omega
  .omega
  .have:=O' (nx:=nx) (pre:=True) (rd:=[i]) (ox:=x) (oy:=.const (.slice none 0 0)) (a:=some ⟨b',o+off,none⟩) (l:=n) (c:=cap) hm ht fL;rw[hv];exact this
 |mkIf t x v hx hv ht=>exact Y6 hm hx hv ht (hR oS x bB)
 |AE x u t v hx hv ht ho hz=>
  have C:=hR oS x bB;rw[hx] at C;exact Y7 hm C hv ht ho hz
 |copy c x y t i off n k cs news p rd hc hx hi hy hp ht hk hl=>
  have C:=hR oS x (by rw[hc];simp[Op.operands,Call.operands]);have qy:=hR oS y (by rw[hc];simp[Op.operands,Call.operands]);rw[hx] at C;exact call .copy x y _ _ (by rw[hc]) (fun _=>rfl) (Y8 hm C hi qy hy hp ht hk hl)
 |xL t b i u x T hb hi ht hg=>
  have qa:=hR oS b bB;rw[hb] at qa;exact Yg hm qa hi ht hg
 |ve t b y i u x T hb hi ht hg hy=>
  have qa:=hR oS b bB;have qy:=hR oS y bB;rw[hb] at qa;exact XO hm qa qy hi ht hg hy
end
theorem QY{P:Program}{ops:Array Oper}{o:Oper}{st:St}{e:cR}(U:fi ops o st true)(ha:asks st.env o.op)(h:cI P (aZ st.env o.op) st.mem st.nx o.op e):aY.Ok P ops o st ⟨e.val,e.aL,e.rd,e.new⟩:=by
 intro F β w a m env N he J hm hr hn X r n QX K O;have C:=uB he;refine QZ (m:=m) (nx:=st.nx) (β:=β) (F:=F) h.defer (U F β w a env he J) (OK hm (fun h1=>hn st.nx (a6 _) (by simp[h1])) J (by rw[wZ C];exact ha) ?_) O;exact(h.env (uR C)).mem hr
structure bH(P:Program)(F:Nat->Prop)(st:St)(β:av)(w:World)(a:Act):Prop where
 e:ez F β w st.env a
 m:ax P F st.mem β w
 n:∀ i,st.nx<=i->β i=none
structure de(N:Nat)(β:av)(w:World)(a:Act)(st':St)(β':av)(w':World)(a':Act):Prop where
 step:Step β w β' w'
 le:N<=st'.nx
 grow:∀ i,i<N->β i=none->β' i=none
 size:a'.tmps.size=a.tmps.size
 defers:a'.defers=a.defers
theorem de.trans{N:Nat}{β β₁ β₂:av}{w X w₂:World}{a C J:Act}{O U:St}(h:de N β w a O β₁ X C)(k:de O.nx β₁ X C U β₂ w₂ J):de N β w a U β₂ w₂ J:=
 ⟨h.step.trans k.step,Nat.le_trans h.le k.le,fun i hi hn=>k.grow i (Nat.lt_of_lt_of_le hi h.le) (h.grow i hi hn),k.size.trans h.size,k.defers.trans h.defers⟩
theorem de.refl(st:St)(β:av)(w:World)(a:Act):de st.nx β w a st β w a:=⟨Step.refl β w,a6 _,fun _ _ h=>h,rfl,rfl⟩
def cB(P:Program)(F:Nat->Prop)(N:Nat)(β:av)(w:World)(a:Act)(Q:Exit->St->Prop)(e:Exit)(a':Act)(w':World):Prop:=
 ∃ st' β',Q e st'/\bH P F st' β' w' a'/\de N β w a st' β' w' a'
section
variable{P:Program}{F:Nat->Prop}{ops:Array Oper}{o:Oper}{st:St}{β:av}{w:World}{a:Act}
theorem sS(a:Act)(d:Option Nat)(v:Value):(a.put d v).tmps.size=a.tmps.size:=by
 cases d<;>simp[Act.put]
theorem put_defers(a:Act)(d:Option Nat)(v:Value):(a.put d v).defers=a.defers:=by
 cases d<;>rfl
theorem X6(st:St)(d:Option Nat)(x:D):(st.put d x).env=(match d with|some t=>up st.env t x|none=>st.env):=by
 cases d<;>rfl
theorem OD(st:St)(d:Option Nat)(x:D):(st.put d x).mem=st.mem:=by cases d<;>rfl
theorem zl(st:St)(d:Option Nat)(x:D):(st.put d x).nx=st.nx:=by cases d<;>rfl
theorem bH.put{st':St}{β':av}{w':World}{d:Option Nat}{x:D}{v:Value}(he:ez F β' w' st'.env a)(hd:∀ t,d=some t->t<a.tmps.size)(hv:R F β' w' x v)(hm:ax P F st'.mem β' w')(hn:∀ i,st'.nx<=i->β' i=none):
 bH P F (st'.put d x) β' w' (a.put d v):=by
 refine⟨?_,by rw[OD];exact hm,by rw[zl];exact hn⟩;cases d with
 |none=>exact he
 |some t=>exact he.put (some t) x v hv hd
theorem D9{p:aY}(hp:p.Ok P ops o st)(hs:bH P F st β w a)(hd:∀ t,o.dst=some t->t<a.tmps.size)(r:Option Nat)(n:Nat)(QX:Exit->Act->World->Prop){K:Act->World->Prop}
 (O:∀ β' a' w',bH P F (St.put ⟨st.env,bT st.mem p.aL,st.nx+p.new⟩ o.dst p.val) β' w' a'->de st.nx β w a (St.put ⟨st.env,bT st.mem p.aL,st.nx+p.new⟩ o.dst p.val) β' w' a'->K a' w'):
 gk r n P ops QX o K a w:=by
 refine hp F β w a st.mem st.env st.nx (fun _ _=>rfl) hs.e hs.m (fun _ _ _=>rfl) (fun i h _=>hs.n i h) hs.n r n QX K fun v w' β' h1 h2 C J=>?_;refine O β' _ w' (bH.put (st':=⟨st.env,bT st.mem p.aL,st.nx+p.new⟩) (hs.e.step C) hd h1 h2 fun i hi=>J i (hs.n i (by simp only at hi;omega)) (.inr hi)) ⟨C,by rw[zl];simp,fun i hi hb=>J i hb (.inl hi),sS _ _ _,put_defers _ _ _⟩
theorem aa4{Y:fm}{dr:Bool}{K:St->List Nat->List Nat->Prop}(h:ju P Y ops dr o st K):
 (∃ p:aY,p.Ok P ops o st/\p.lW (cp o.op) st/\K (St.put ⟨st.env,bT st.mem p.aL,st.nx+p.new⟩ o.dst p.val) p.rd p.wr)\/
 (dr=false/\∃ f args,fi ops o st true/\asks st.env o.op/\cV (aZ st.env o.op) o.op=some (f,args)/\dB P f args st.mem st.nx fun r m nx=>K (St.put ⟨st.env,m,nx⟩ o.dst r) [] [])\/
 (dr=false/\∃ l args,fi ops o st true/\asks st.env o.op/\nD (aZ st.env o.op) o.op=some (l,args)/\Y l args st.mem st.nx fun r m nx=>K (St.put ⟨st.env,m,nx⟩ o.dst r) [] []):=by
 have aeM:∀ {x},cV (aZ st.env o.op) o.op=some x->cp o.op=2:=fun {x} hx=>by
  cases ho:o.op with
  |call c=>
   rw[ho] at hx;simp only[cV] at hx;split at hx
   .rename_i f hf;unfold cp;split<;>first|rfl|(rename_i h1;cases h1;cases hf)|skip
    all_goals simp_all
   .cases hx
  |_=>rw[ho] at hx;simp[cV] at hx
 have J:∀ {x} (p:aY),cV (aZ st.env o.op) o.op=some x->(∀ i∈p.wr,st.mem i≠none\/(st.nx<=i/\i<st.nx+p.new))->p.lW (cp o.op) st:=fun {x} p hx C=>by
  have:=aeM hx;exact⟨C,oG,oG,oG⟩
 have call:∀ {f args},fi ops o st true->asks st.env o.op->cV (aZ st.env o.op) o.op=some (f,args)->vf P dr st f args (fun r m nx rd wr=>K (St.put ⟨st.env,m,nx⟩ o.dst r) rd wr)->
  (∃ p:aY,p.Ok P ops o st/\p.lW (cp o.op) st/\K (St.put ⟨st.env,bT st.mem p.aL,st.nx+p.new⟩ o.dst p.val) p.rd p.wr)\/
  (dr=false/\∃ f args,fi ops o st true/\asks st.env o.op/\cV (aZ st.env o.op) o.op=some (f,args)/\dB P f args st.mem st.nx fun r m nx=>K (St.put ⟨st.env,m,nx⟩ o.dst r) [] [])\/
  (dr=false/\∃ l args,fi ops o st true/\asks st.env o.op/\nD (aZ st.env o.op) o.op=some (l,args)/\Y l args st.mem st.nx fun r m nx=>K (St.put ⟨st.env,m,nx⟩ o.dst r) [] []):=fun {f args} C ha hc hk=>by
  rcases hk with⟨r,h1,h2⟩|⟨eR,a7,r,h1,h2,O,h4⟩|⟨es,n,t,h1,h2⟩|⟨h1,h2⟩|⟨r,aL,a7,h1,h2,O⟩|⟨es,n,t,aL,a7,h1,h2,O,h4⟩
  .exact .inl ⟨⟨r,[],[],0⟩,Jx C ha hc h1,J _ hc (by simp[aY.wr]),h2⟩
  .exact .inl ⟨⟨r,[],a7,0⟩,Q8 C ha hc h1 h2 O,J _ hc (by simp[aY.wr]),h4⟩
  .exact .inl ⟨⟨.rs st.nx 0 n,[(st.nx,some (.cells es t))],[],1⟩,RW C ha hc h1,J _ hc (by simp[aY.wr]),h2⟩
  .exact .inr (.inl ⟨h1,f,args,C,ha,hc,h2⟩)
  .exact .inl ⟨⟨r,aL,a7,0⟩,adp C ha hc h1,J _ hc fun i hi=>.inl (h2 i hi).2,O⟩
  .refine .inl ⟨⟨.rs st.nx 0 n,aL++[(st.nx,some (.cells es t))],a7,1⟩,aaG C ha hc h1 h2 O,J _ hc fun i hi=>?_,?_⟩
   .simp only[aY.wr,List.map_append,List.mem_append,List.map_cons,List.map_nil,List.mem_singleton] at hi;rcases hi with hi|rfl
    .obtain⟨x,hx,rfl⟩:=List.mem_map.1 hi;obtain⟨r,hr,_⟩:=h1.1 _ (h1.2.1 x hx).1;exact .inl (by simp[hr])
    .exact .inr ⟨a6 _,Nat.lt_succ_self _⟩
   .show K _ _ (aY.wr _);rw[I7,aY.wr,List.map_append];exact h4
 have op:∀ {e:cR},fi ops o st true->asks st.env o.op->aM P o.op (aZ st.env o.op) st.mem st.nx=some e->e.pre->K (St.put ⟨st.env,bT st.mem e.aL,st.nx+e.new⟩ o.dst e.val) e.rd (e.aL.map (·.1))->
  (∃ p:aY,p.Ok P ops o st/\p.lW (cp o.op) st/\K (St.put ⟨st.env,bT st.mem p.aL,st.nx+p.new⟩ o.dst p.val) p.rd p.wr):=fun {e} C ha h hp hk=>by
  obtain⟨t1,t2,t3,t4⟩:=I6 h;exact⟨⟨e.val,e.aL,e.rd,e.new⟩,J8 C ha h hp,⟨t1,t2,t3,t4⟩,hk⟩
 have skip:∀ {d:D},fi ops o st false->(∀ F β w,R F β w d undef)->K (st.put o.dst d) [] []->
  (∃ p:aY,p.Ok P ops o st/\p.lW (cp o.op) st/\K (St.put ⟨st.env,bT st.mem p.aL,st.nx+p.new⟩ o.dst p.val) p.rd p.wr):=fun {d} C hd hk=>
  ⟨⟨d,[],[],0⟩,EH C d hd,⟨by simp[aY.wr],fun _=>⟨rfl,rfl⟩,fun _=>rfl,fun _=>⟨rfl,by simp[aY.wr]⟩⟩,hk⟩
 have U:∀ (F:Nat->Prop) β w,R F β w tv undef:=fun F β w=>.cu false .u undef oS fun _=>rfl;unfold ju at h;split at h
 .rename_i hg;have C:=wU (ops:=ops) (st:=st) hg;obtain⟨ha,h⟩:=h;split at h
  .rename_i f args hc;exact call C ha hc h
  .split at h
   .rename_i l args hy;exact .inr (.inr ⟨h.1,l,args,C,ha,hy,h.2⟩)
   .split at h
    .rename_i e he;exact .inl (op C ha he h.1 h.2)
    .exact h.elim
 .rename_i j b hg;split at h
  .exact h.elim
  .rename_i c hc;simp only[Option.bind_eq_some_iff] at hc;obtain⟨t,⟨oj,tX,Nl⟩,hc⟩:=hc;have C:fi ops o st c:=Ip hg (t:=t) (by simp[tX,Nl]) hc;split at h
   .rename_i f args gG;rcases h with⟨r,h1,h2⟩|⟨h1,h2⟩
    .refine .inl ⟨⟨.cu c r,[],[],0⟩,RV C fun wE=>?_,J _ gG (by simp[aY.wr]),h2⟩;subst wE;exact Jx C (h1 rfl).1 gG (h1 rfl).2
    .cases c with
     |true=>exact call C (h1 rfl).1 gG (h1 rfl).2
     |false=>exact .inl (skip C U (h2 rfl))
   .split at h
    .rename_i l args hy;cases c with
     |true=>exact .inr (.inr ⟨(h.1 rfl).2.1,l,args,C,(h.1 rfl).1,hy,(h.1 rfl).2.2⟩)
     |false=>exact .inl (skip C U (h.2 rfl))
    .split at h
     .rename_i e he;split at h
      .rename_i X;simp only[aw,List.isEmpty_iff,beq_iff_eq] at X;obtain⟨h1,h2⟩:=h;obtain⟨t1,t2,t3,t4⟩:=I6 he;refine .inl ⟨⟨.cu c e.val,[],e.rd,0⟩,RV C fun wE=>?_,⟨by simp[aY.wr],fun hk=>⟨(t2 hk).1,rfl⟩,fun _=>rfl,fun hk=>⟨(t4 hk).1,by simp[aY.wr]⟩⟩,h2⟩;subst wE;have:=J8 C (h1 rfl).1 he (h1 rfl).2;rw[X.1,X.2] at this;exact this
      .obtain⟨h1,h2⟩:=h;cases c with
       |true=>exact .inl (op C (h1 rfl).1 he (h1 rfl).2.1 (h1 rfl).2.2)
       |false=>exact .inl (skip C U (h2 rfl))
     .obtain⟨rfl,h⟩:=h;exact .inl (skip C U h)
theorem Yn(h:goes ops o st):fi ops o st true:=by
 rcases h with hg|⟨j,b,hg,hc⟩
 .exact wU hg
 .simp only[Option.bind_eq_some_iff] at hc;obtain⟨t,⟨O,J,C⟩,hc⟩:=hc;exact Ip hg (t:=t) (by simp[J,C]) hc
theorem Iy{Y:fm}{dr:Bool}{K:St->List Nat->List Nat->Prop}(h:ju P Y ops dr o st K\/Um P ops o st K):
 (∃ p:aY,p.Ok P ops o st/\p.lW (cp o.op) st/\K (St.put ⟨st.env,bT st.mem p.aL,st.nx+p.new⟩ o.dst p.val) p.rd p.wr)\/
 (dr=false/\∃ f args,fi ops o st true/\asks st.env o.op/\cV (aZ st.env o.op) o.op=some (f,args)/\dB P f args st.mem st.nx fun r m nx=>K (St.put ⟨st.env,m,nx⟩ o.dst r) [] [])\/
 (dr=false/\∃ l args,fi ops o st true/\asks st.env o.op/\nD (aZ st.env o.op) o.op=some (l,args)/\Y l args st.mem st.nx fun r m nx=>K (St.put ⟨st.env,m,nx⟩ o.dst r) [] []):=by
 rcases h with h|⟨h1,h2,e,C,J⟩
 .exact aa4 h
 .obtain⟨t1,t2,t3,t4⟩:=C.tidy;exact .inl ⟨⟨e.val,e.aL,e.rd,e.new⟩,QY (Yn h1) h2 C,⟨t1,t2,t3,t4⟩,J⟩
theorem OE{f:FuncId}{args:List D}{cB:D->Mem->Nat->Prop}(hw:fi ops o st true)(ha:asks st.env o.op)(hc:cV (aZ st.env o.op) o.op=some (f,args))(h:dB P f args st.mem st.nx cB)
 (hs:bH P F st β w a) (hd:∀ t,o.dst=some t->t<a.tmps.size) (r:Option Nat) (n:Nat) (QX:Exit->Act->World->Prop) {K:Act->World->Prop}
 (hK:∀ d m' an β' a' w',cB d m' an->bH P F (St.put ⟨st.env,m',an⟩ o.dst d) β' w' a'->de st.nx β w a (St.put ⟨st.env,m',an⟩ o.dst d) β' w' a'->K a' w'):
 gk r n P ops QX o K a w:=by
 refine zv (hw F β w a st.env (fun _ _=>rfl) hs.e) hs.e ha hc h.1 fun vs hR=>?_;refine(h.2 F β w vs hs.m hs.n hR).mono fun e w' hp=>?_;obtain⟨v,d,m',an,β',h1,h2,J,O,U,C,X,h8⟩:=hp;refine⟨v,h1,hK d m' an β' _ w' h2 (bH.put (st':=⟨st.env,m',an⟩) (hs.e.step C) hd U J O) ⟨C,by rw[zl];exact X,h8,sS _ _ _,put_defers _ _ _⟩⟩
theorem XX{env:Env}{l:Nat}{args:List D}(J:ez F β w env a)(ha:asks env o.op)(h:nD (aZ env o.op) o.op=some (l,args)):
 ∃ vs,(execOp a.eval o).run P w=(Instr.yield l vs).run P w/\Rs F β w args vs:=by
 obtain⟨dst,op,type,pos,after,guard⟩:=o;simp only at ha h;cases op with
 |call c=>
  simp only[nD] at h;have hR:∀ x∈(Op.call c).operands.toList,R F β w (aZ env (.call c) x) (a.eval x):=fun x hx=>(J.opd x).uO _ (ha x hx);split at h
  .rename_i g hg;split at h
   .rename_i X hk;simp only[aH,bR] at h;obtain⟨rfl,rfl⟩:=h;have h1:=hR g (by simp[Op.operands,Call.operands,hg]);rw[hk] at h1;obtain⟨q1,O⟩:=zT (F:=F) (β:=β) (w:=w) (xs:=c.args) (ρ:=aZ env (.call c)) (a:=a) (fun x hx=>hR x (by simp[Op.operands,Call.operands];exact .inr hx));generalize hv:a.eval g=v at h1;cases h1 with
    |fn _ _ _ us vs hl jt hh U=>
    have C:us=[]:=List.eq_nil_of_length_eq_zero (by simpa using hl);have e2:vs=[]:=List.eq_nil_of_length_eq_zero (by simpa using jt);subst C e2;refine⟨c.args.map a.eval,?_,oS,fun j d u hd hu=>O j d u hd (by simpa using hu)⟩;unfold execOp;simp only[resolve,hg,Sem.run_bind,hv,Deferred.ofValue,Sem.run_pure,Result.andThen_ok,invoke];simp
   .cases h
  .cases h
 |_=>simp[nD] at h
theorem Xy{op:Op}{ρ:Operand->D}{x:Nat×List D}(h:nD ρ op=some x):∀ c,op≠ .defer c:=fun c hc=>by
 subst hc;simp[nD] at h
theorem Yo{l:Nat}{args:List D}{cB:D->Mem->Nat->Prop}(hw:fi ops o st true)(ha:asks st.env o.op)(hc:nD (aZ st.env o.op) o.op=some (l,args)){O:av}{J:World}(h:oB P F O J l args st.mem st.nx cB)(hb:Step O J β w)
 (hs:bH P F st β w a) (hd:∀ t,o.dst=some t->t<a.tmps.size) (r:Option Nat) (n:Nat) (QX:Exit->Act->World->Prop) {K:Act->World->Prop}
 (hK:∀ d m' an β' a' w',cB d m' an->bH P F (St.put ⟨st.env,m',an⟩ o.dst d) β' w' a'->de st.nx β w a (St.put ⟨st.env,m',an⟩ o.dst d) β' w' a'->K a' w'):
 gk r n P ops QX o K a w:=by
 obtain⟨vs,h1,h2⟩:=XX (P:=P) hs.e ha hc;obtain⟨f,tmps,assign,body,h3,h4⟩:=h β w vs hb hs.m hs.n h2;unfold gk;rw[hw F β w a st.env (fun _ _=>rfl) hs.e,if_pos rfl];refine⟨fun _ _=>trivial,?_⟩;rw[xB (Xy hc),h1,h3];refine⟨oS,?_⟩;have h5:=h4 (n - 1);refine RoundIn.mono (F:=Fe r) (show RoundIn (Fe r) (n - 1) P l f tmps assign body w _ from h5) fun e w' hp=>?_;obtain⟨v,d,m',an,β',rfl,U,X,g4,g5,C,g7,g8⟩:=hp;exact hK d m' an β' _ w' U (bH.put (st':=⟨st.env,m',an⟩) (hs.e.step C) hd g5 X g4) ⟨C,by rw[zl];exact g7,g8,sS _ _ _,put_defers _ _ _⟩
def kE(N:Nat)(ops:Array Oper):Bool:=ops.toList.all fun o=>match o.dst with
 |some t=>Nat.blt t N
 |none=>true
theorem rm{N:Nat}(h:kE N ops=true){i:Nat}{o:Oper}(hi:ops[i]? =some o):∀ t,o.dst=some t->t<N:=fun t ht=>by
 have h1:=cv.1 h o (by simpa using Array.mem_of_getElem? hi);rw[ht] at h1;simpa using h1
theorem aa5{Y:fm}{r:Option Nat}{n:Nat}{cf:List (Nat×Nat)}{Q:Exit->St->Prop}{N:Nat}{β₀:av}{w₀:World}{a₀:Act}(hY:∀ l args m nx cB,Y l args m nx cB->oB P F β₀ w₀ l args m nx cB)(ag:kE a₀.tmps.size ops=true):
 ∀ (rest:List Oper) (k:Nat) (st:St) (tr:kO) (β:av) (w:World) (a:Act),ops.toList.drop k=rest->aj P Y ops false cf Q rest st tr->bH P F st β w a->de N β₀ w₀ a₀ st β w a->
  wpOpsIn (Fe r) n P ops (cB P F N β₀ w₀ a₀ Q) (List.range' k rest.length) a w:=by
 intro rest
 induction rest with
 |nil=>
  intro k st tr β w a hk h hs C;simp only[List.length_nil,List.range'_zero,wpOpsIn];exact⟨st,β,h.2,hs,C⟩
 |cons o rest ih=>
  intro k st tr β w a hk h hs C
  have ho:ops[k]? =some o:=by
   have:(ops.toList.drop k)[0]? =some o:=by rw[hk];rfl
   simpa using this
  have iG:ops.toList.drop (k+1)=rest:=by
   have:(ops.toList.drop k).drop 1=rest:=by rw[hk];rfl
   simpa[List.drop_drop,Nat.add_comm] using this
  simp only[List.length_cons,List.range'_succ,wpOpsIn_cons];refine zd ho ?_;have hd:∀ t,o.dst=some t->t<a.tmps.size:=fun t ht=>by rw[C.size];exact rm ag ho t ht
  simp only[aj] at h;rcases Iy h with⟨p,h1,_,U⟩|⟨_,f,args,h1,h2,U,X⟩|⟨_,l,args,h1,h2,U,X⟩
  .exact D9 h1 hs hd r n _ fun β' a' w' J O=>ih (k+1) _ _ β' w' a' iG U J (C.trans O)
  .exact OE h1 h2 U X hs hd r n _ fun d m' an β' a' w' hp J O=>ih (k+1) _ _ β' w' a' iG hp J (C.trans O)
  .exact Yo h1 h2 U (hY _ _ _ _ _ X) C.step hs hd r n _ fun d m' an β' a' w' hp J O=>ih (k+1) _ _ β' w' a' iG hp J (C.trans O)
theorem XG{Y:fm}{r:Option Nat}{n id:Nat}{cf:List (Nat×Nat)}{Q:Exit->St->Prop}{N:Nat}{β₀:av}{w₀:World}{a₀:Act}(J:∀ l args m nx cB,Y l args m nx cB->oB P F β₀ w₀ l args m nx cB)(ag:kE a₀.tmps.size ops=true)
 (h:aj P Y ops false cf Q ops.toList st []) (hs:bH P F st β w a) (C:de N β₀ w₀ a₀ st β w a):(Code.region id ops false).wpIn (Fe r) n P (cB P F N β₀ w₀ a₀ Q) a w:=by
 refine wpIn_region ?_;have:=aa5 J (r:=r) (n:=n) ag ops.toList 0 st [] β w a oS h hs C;rw[List.range_eq_range'];simpa using this
end
theorem zk(C:List Nat)(i:Nat):∀ (l:List Edge) (s:Nat),(l.foldl (fun s e=>if Region.binds .any e then s||| 2 ^ e.on||| C.getD e.on 0 else s) s).testBit i=true->
 s.testBit i=true\/∃ e∈l,Region.binds .any e=true/\(i=e.on\/(C.getD e.on 0).testBit i=true)
 |[],s,h=>.inl h
 |e::l,s,h=>by
  rw[List.foldl_cons] at h;rcases zk C i l _ h with h1|⟨J,O,hb⟩
  .by_cases hb:Region.binds .any e=true
   .rw[if_pos hb] at h1;simp only[Nat.testBit_or,Bool.or_eq_true,Nat.testBit_two_pow,decide_eq_true_eq] at h1;rcases h1 with(h1|h1)|h1
    .exact .inl h1
    .exact .inr ⟨e,oS,hb,.inl h1.symm⟩
    .exact .inr ⟨e,oS,hb,.inr h1⟩
   .rw[if_neg hb] at h1;exact .inl h1
  .exact .inr ⟨J,by simp[O],hb⟩
theorem H9:∀ (os:List Oper) (C:List Nat),∃ l,dh os C=C++l/\l.length=os.length
 |[],C=>⟨[],by simp[dh],rfl⟩
 |o::os,C=>by
  obtain⟨l,h1,h2⟩:=H9 os (C++[Aj C o]);exact⟨Aj C o::l,by simp[dh,h1],by simp[h2]⟩
theorem zr:∀ (os:List Oper) (C:List Nat) (k:Nat) (o:Oper),os[k]? =some o->(dh os C).getD (C.length+k) 0=Aj ((dh os C).take (C.length+k)) o
 |[],C,k,o,h=>by simp at h
 |x::os,C,0,o,h=>by
  simp only[List.getElem?_cons_zero,aH] at h;subst h;obtain⟨l,h1,h2⟩:=H9 os (C++[Aj C x]);simp[dh,h1]
 |x::os,C,k+1,o,h=>by
  have:=zr os (C++[Aj C x]) k o (by simpa using h);simp only[List.length_append,List.length_cons,List.length_nil] at this;have e:C.length+(k+1)=C.length+(0+1)+k:=by omega
  rw[e];exact this
theorem zi{ops:Array Oper}{S:Nat->Bool}(O:∀ j,S j=true->∀ o,ops[j]? =some o->∀ e∈o.after,Region.binds .any e=true->S e.on=true)(i:Nat):
 ∀ j,S j=true->((dh ops.toList []).getD j 0).testBit i=true->S i=true:=by
 intro j
 induction j using Nat.strongRecOn with
 |_ j ih=>
  intro hj hb;cases ho:ops[j]? with
  |none=>
   obtain⟨l,h1,h2⟩:=H9 ops.toList []
   have:(dh ops.toList []).getD j 0=0:=by
    rw[h1];simp only[List.nil_append];have:ops.size<=j:=by simpa using ho
    simp[List.getElem?_eq_none (show l.length<=j by simpa[h2] using this)]
   rw[this] at hb;simp at hb
  |some o=>
   have h1:=zr ops.toList [] j o (by simpa using ho);simp only[List.length_nil,Nat.zero_add] at h1;rw[h1] at hb;rcases zk _ i _ 0 hb with h2|⟨e,he,U,h2⟩
   .simp at h2
   .have C:=O j hj o ho e (by simpa using he) U;rcases h2 with rfl|h2
    .exact C
    .rcases Nat.lt_or_ge e.on j with ag|J
     .refine ih e.on ag C ?_;simpa[List.getElem?_take,ag] using h2
     .simp[List.getElem?_take,Nat.not_lt.2 J] at h2
theorem DY{bs:List Nat}{n i j:Nat}(C:i<j)(hj:j<n)(h:(bs.getD j 0).testBit i=false):(i,j)∈unordered bs n:=by
 unfold unordered;rw[List.mem_flatMap];exact⟨j,by simp[hj],by rw[List.mem_map];exact⟨i,by simp only[List.mem_filter,List.mem_range];exact⟨C,by rw[h];rfl⟩,rfl⟩⟩
theorem zs{us:List (Nat×Option Row)}:∀ {m:Mem} {i:Nat},i∉us.map (·.1)->bT m us i=m i:=by
 induction us with
 |nil=>intro m i _;rfl
 |cons u us ih=>
  intro m i h;obtain⟨j,r⟩:=u;simp only[List.map_cons,List.mem_cons,not_or] at h;simp only[bT];rw[ih h.2,aA _ _ h.1]
theorem Ij{us:List (Nat×Option Row)}:∀ {m m':Mem} {i:Nat},(i∈us.map (·.1)\/m i=m' i)->bT m us i=bT m' us i:=by
 induction us with
 |nil=>intro m m' i h;simpa[bT] using h
 |cons u us ih=>
  intro m m' i h;obtain⟨j,r⟩:=u;simp only[bT];refine ih ?_;by_cases hj:i=j
  .right;subst hj;rw[ai,ai]
  .rcases h with h|h
   .left;simp only[List.map_cons,List.mem_cons] at h;exact h.resolve_left hj
   .right;rw[aA _ _ hj,aA _ _ hj,h]
theorem YS{a b:List (Nat×Option Row)}(m:Mem)(h:∀ i∈a.map (·.1),i∉b.map (·.1)):bT (bT m a) b=bT (bT m b) a:=by
 funext i;by_cases ha:i∈a.map (·.1)
 .rw[zs (h i ha)];exact Ij (.inl ha)
 .rw[zs (m:=bT m b) ha];exact Ij (.inr (zs ha))
def oR(env:Env)(d:Option Nat)(v:D):Env:=match d with
 |some t=>up env t v
 |none=>env
theorem BJ{env:Env}{d:Option Nat}{v:D}{t:Nat}(h:d≠some t):oR env d v t=env t:=by
 cases d with
 |none=>rfl
 |some u=>exact aA _ _ fun e=>h (by rw[e])
theorem Ik{env env':Env}{d:Option Nat}{v:D}{t:Nat}(h:d=some t\/env t=env' t):oR env d v t=oR env' d v t:=by
 cases d with
 |none=>simpa[oR] using h
 |some u=>
  by_cases hu:t=u
  .subst hu;simp[oR,ai]
  .simp only[oR,aA _ _ hu];rcases h with h|h
   .simp only[aH] at h;exact absurd h.symm hu
   .exact h
theorem YT(env:Env){d d':Option Nat}(v C:D)(h:∀ t,d=some t->d'≠some t):oR (oR env d v) d' C=oR (oR env d' C) d v:=by
 funext t;by_cases hd:d=some t
 .rw[BJ (h t hd)];exact Ik (.inl hd)
 .rw[BJ (env:=oR env d' C) hd];exact Ik (.inr (BJ hd))
def tV(st:St)(o:Oper)(p:aY):St:=St.put ⟨st.env,bT st.mem p.aL,st.nx+p.new⟩ o.dst p.val
theorem Jo(st:St)(o:Oper)(p:aY):(tV st o p).env=oR st.env o.dst p.val:=by unfold tV;rw[X6];rfl
theorem EC(st:St)(o:Oper)(p:aY):(tV st o p).mem=bT st.mem p.aL:=OD _ _ _
theorem nE(st:St)(o:Oper)(p:aY):(tV st o p).nx=st.nx+p.new:=zl _ _ _
section
variable(oo:Nat->Oper)(pp:Nat->aY)(st₀:St)
def cY(S:Nat->Bool):Nat->St
 |0=>st₀
 |k+1=>if S k then tV (cY S k) (oo k) (pp k) else cY S k
def bu:Nat->St:=cY oo pp st₀ fun _=>true
theorem kv(k:Nat):bu oo pp st₀ (k+1)=tV (bu oo pp st₀ k) (oo k) (pp k):=rfl
theorem J0(k:Nat):∀ n,k<=n->cY oo pp st₀ (fun j=>decide (j<k)) n=bu oo pp st₀ k:=by
 have below:∀ n,n<=k->cY oo pp st₀ (fun j=>decide (j<k)) n=bu oo pp st₀ n:=by
  intro n
  induction n with
  |zero=>intro _;rfl
  |succ n ih=>
   intro h;have hd:decide (n<k)=true:=by simp;omega
   rw[kv, <- ih oG];simp only[cY,hd,if_true]
 intro n h
 induction n with
 |zero=>
  have:k=0:=by omega
  subst this;rfl
 |succ n ih=>
  rcases Nat.lt_or_ge n k with ag|C
  .have:k=n+1:=by omega
   subst this;exact below (n+1) (a6 _)
  .have hd:decide (n<k)=false:=by simpa using C
   simp only[cY,hd,Bool.false_eq_true,if_false];exact ih C
theorem Jp{S T:Nat->Bool}{t:Nat}:∀ n,(∀ j,j<n->S j≠T j->(oo j).dst≠some t)->(cY oo pp st₀ S n).env t=(cY oo pp st₀ T n).env t:=by
 intro n
 induction n with
 |zero=>intro _;rfl
 |succ n ih=>
  intro h;have h1:=ih fun j hj=>h j oG;have h2:=h n oG;simp only[cY];cases C:S n<;>cases J:T n<;>simp only[Bool.false_eq_true,if_false,if_true,Jo]
  .exact h1
  .rw[BJ (h2 (by simp[C,J]))];exact h1
  .rw[BJ (h2 (by simp[C,J]))];exact h1
  .exact Ik (.inr h1)
theorem Jq{S T:Nat->Bool}{i:Nat}:∀ n,(∀ j,j<n->S j≠T j->i∉(pp j).wr)->(cY oo pp st₀ S n).mem i=(cY oo pp st₀ T n).mem i:=by
 intro n
 induction n with
 |zero=>intro _;rfl
 |succ n ih=>
  intro h;have h1:=ih fun j hj=>h j oG;have h2:=h n oG;simp only[cY];cases C:S n<;>cases J:T n<;>simp only[Bool.false_eq_true,if_false,if_true,EC]
  .exact h1
  .rw[zs (h2 (by simp[C,J]))];exact h1
  .rw[zs (h2 (by simp[C,J]))];exact h1
  .exact Ij (.inr h1)
theorem zt{S T:Nat->Bool}:∀ n,(∀ j,j<n->S j=T j)->cY oo pp st₀ S n=cY oo pp st₀ T n:=by
 intro n
 induction n with
 |zero=>intro _;rfl
 |succ n ih=>
  intro h;simp only[cY,ih fun j hj=>h j oG,h n oG]
theorem QM{S:Nat->Bool}{k:Nat}(hk:S k=false):∀ n,k<n->(∀ j,k<j->j<n->S j=true->(∀ t,(oo k).dst=some t->(oo j).dst≠some t)/\∀ i∈(pp k).wr,i∉(pp j).wr)->
 (cY oo pp st₀ (fun j=>if j=k then true else S j) n).env=oR (cY oo pp st₀ S n).env (oo k).dst (pp k).val/\
 (cY oo pp st₀ (fun j=>if j=k then true else S j) n).mem=bT (cY oo pp st₀ S n).mem (pp k).aL:=by
 intro n
 induction n with
 |zero=>intro h;omega
 |succ n ih=>
  intro kP h;rcases Nat.lt_or_ge k n with ag|X
  .obtain⟨h1,h2⟩:=ih ag fun j hj iF=>h j hj oG;have C:n≠k:=by omega
   simp only[cY,if_neg C];cases U:S n with
   |false=>simp only[Bool.false_eq_true,if_false];exact⟨h1,h2⟩
   |true=>
    obtain⟨J,O⟩:=h n ag oG U;simp only[if_true,Jo,EC,h1,h2];exact⟨YT _ _ _ J,YS _ O⟩
  .have:n=k:=by omega
   subst this;have e:cY oo pp st₀ (fun j=>if j=n then true else S j) n=cY oo pp st₀ S n:=zt oo pp st₀ n fun j hj=>by simp only[if_neg (show j≠n by omega)]
   simp only[cY,if_true,hk,Bool.false_eq_true,if_false,Jo,EC,e];exact⟨trivial,trivial⟩
theorem fO{j k:Nat}(h:j<=k):(bu oo pp st₀ j).nx<=(bu oo pp st₀ k).nx:=by
 induction k with
 |zero=>have:j=0:=by omega
        subst this;exact a6 _
 |succ k ih=>
  rcases Nat.lt_or_ge j (k+1) with ag|C
  .rw[kv,nE];have:=ih oG;omega
  .have:j=k+1:=by omega
   subst this;exact a6 _
end
section
variable{P:Program}{ops:Array Oper}{cf:List (Nat×Nat)}{Q:Exit->St->Prop}
def BT(P:Program)(ops:Array Oper)(cf:List (Nat×Nat))(Q:Exit->St->Prop):List Oper->List aY->St->kO->Prop
 |[],[],st,tr=>(∀ q∈cf,mF tr q.1 q.2)/\Q .normal st
 |o::os,p::ps,st,tr=>p.Ok P ops o st/\p.lW (cp o.op) st/\BT P ops cf Q os ps (tV st o p) (tr++[(p.rd,p.wr)])
 |_,_,_,_=>False
theorem Il{Y:fm}:∀ (os:List Oper) (st:St) (tr:kO),aj P Y ops true cf Q os st tr->∃ ps,BT P ops cf Q os ps st tr
 |[],st,tr,h=>⟨[],h⟩
 |o::os,st,tr,h=>by
  simp only[aj] at h;rcases Iy h with⟨p,h1,h2,C⟩|⟨h1,_⟩|⟨h1,_⟩
  .obtain⟨ps,J⟩:=Il os _ _ C;exact⟨p::ps,h1,h2,J⟩
  .cases h1
  .cases h1
instance:Inhabited aY:=⟨⟨.u,[],[],0⟩⟩
theorem Bw(oo:Nat->Oper)(pp:Nat->aY)(st₀:St):∀ (os:List Oper) (ps:List aY) (k:Nat) (tr:kO),(∀ j o,os[j]? =some o->oo (k+j)=o)->(∀ j p,ps[j]? =some p->pp (k+j)=p)->tr.length=k->
 (∀ j,j<k->tr.getD j ([],[])=((pp j).rd,(pp j).wr))->BT P ops cf Q os ps (bu oo pp st₀ k) tr->
 (∀ j,k<=j->j<k+os.length->(pp j).Ok P ops (oo j) (bu oo pp st₀ j)/\(pp j).lW (cp (oo j).op) (bu oo pp st₀ j))/\Q .normal (bu oo pp st₀ (k+os.length))/\
 ∃ C:kO,(∀ j,j<k+os.length->C.getD j ([],[])=((pp j).rd,(pp j).wr))/\∀ q∈cf,mF C q.1 q.2
 |[],[],k,tr,ho,hp,hl,ht,h=>⟨fun j h1 h2=>absurd h2 oP,h.2,tr,ht,h.1⟩
 |[],_::_,_,_,_,_,_,_,h=>h.elim
 |_::_,[],_,_,_,_,_,_,h=>h.elim
 |o::os,p::ps,k,tr,ho,hp,hl,ht,h=>by
  have O:oo k=o:=ho 0 o rfl;have e2:pp k=p:=hp 0 p rfl;obtain⟨h1,h2,X⟩:=h;have J:BT P ops cf Q os ps (bu oo pp st₀ (k+1)) (tr++[(p.rd,p.wr)]):=by rw[kv,O,e2];exact X
  obtain⟨a1,a2,C,a3,a4⟩:=Bw oo pp st₀ os ps (k+1) _ (fun j x hj=>by have:=ho (j+1) x (by simpa using hj);rw[<- this];congr 1;omega)
   (fun j x hj=>by have:=hp (j+1) x (by simpa using hj);rw[<- this];congr 1;omega) (by simp[hl])
   (fun j hj=>by
    rcases Nat.lt_or_ge j k with ag|U
    .rw[<- ht j ag];simp[List.getElem?_append_left (show j<tr.length by omega)]
    .have:j=k:=by omega
     subst this;simp[<- hl,List.getElem?_append_right,e2]
     rw[hl,e2];exact⟨rfl,rfl⟩) J
  have e3:k+(o::os).length=k+1+os.length:=by simp;omega
  rw[e3];refine⟨fun j hj sq=>?_,a2,C,a3,a4⟩;rcases Nat.lt_or_ge k j with ag|U
  .exact a1 j ag sq
  .have:j=k:=by omega
   subst this;rw[O,e2];exact⟨h1,h2⟩
def Fz(P:Program)(F:Nat->Prop)(ops:Array Oper)(Q:Exit->St->Prop)(N₀:Nat)(β₀:av)(w₀:World)(a₀:Act)(r:Option Nat)(n:Nat)(o:Oper)(st:St):Prop:=
 ∀ (β:av) (w:World) (a:Act),bH P F st β w a->de N₀ β₀ w₀ a₀ st β w a->∀ K:Act->World->Prop,(∀ a' w',cB P F N₀ β₀ w₀ a₀ Q .normal a' w'->K a' w')->gk r n P ops (cB P F N₀ β₀ w₀ a₀ Q) o K a w
theorem N4(h:cb ops=some cf):(∀ (i:Nat) (o:Oper),ops[i]? =some o->∀ e∈o.after,Region.binds .any e=true->e.on<i)/\
 (∀ q∈unordered (dh ops.toList []) ops.size,D8 ops q.1 q.2=true)/\(∀ q∈unordered (dh ops.toList []) ops.size,EB ops q.1 q.2=true->q∈cf):=by
 unfold cb at h;simp only at h;split at h
 .rename_i hc;simp only[aw] at hc;cases h;refine⟨fun i o hi e he hb=>?_,fun q hq=>cv.1 hc.2 q hq,fun q hq hm=>by rw[List.mem_filter];exact⟨hq,hm⟩⟩
  have h1:=cv.1 hc.1 (o,i) (by
   rw[List.mem_zipIdx_iff_getElem?]
   simpa using hi)
  have h2:=cv.1 h1 e (by simpa using he);simpa[hb] using h2
 .cases h
variable{F:Nat->Prop}{N₀:Nat}{β₀:av}{w₀:World}{a₀:Act}
structure DS(P:Program)(F:Nat->Prop)(oo:Nat->Oper)(pp:Nat->aY)(st₀:St)(n:Nat)(N₀:Nat)(β₀:av)(w₀:World)(a₀:Act)(S:Nat->Bool)(β:av)(w:World)(a:Act):Prop where
 e:ez F β w (cY oo pp st₀ S n).env a
 m:ax P F (cY oo pp st₀ S n).mem β w
 free:∀ i,st₀.nx<=i->(∀ k,k<n->S k=true->¬ ((bu oo pp st₀ k).nx<=i/\i<(bu oo pp st₀ k).nx+(pp k).new))->β i=none
 step:Step β₀ w₀ β w
 grow:∀ i,i<N₀->β₀ i=none->β i=none
 size:a.tmps.size=a₀.tmps.size
 defers:a.defers=a₀.defers
theorem aan{oo:Nat->Oper}{pp:Nat->aY}{st₀:St}(hi:cb ops=some cf)(yH:∀ j o,ops[j]? =some o->oo j=o)(ag:kE a₀.tmps.size ops=true)
 (nl:Nat) (gf:nl<=ops.size) (cn:∀ j,j<nl->(pp j).Ok P ops (oo j) (bu oo pp st₀ j)/\(pp j).lW (cp (oo j).op) (bu oo pp st₀ j)) (hQ:nl=ops.size->Q .normal (bu oo pp st₀ ops.size))
 (hL:nl<ops.size->nl+1=ops.size/\(∀ i,i<nl->((dh ops.toList []).getD nl 0).testBit i=true)/\∀ r n,Fz P F ops Q N₀ β₀ w₀ a₀ r n (oo nl) (bu oo pp st₀ nl))
 (bg:∃ nT:kO,(∀ j,j<nl->nT.getD j ([],[])=((pp j).rd,(pp j).wr))/\∀ q∈cf,mF nT q.1 q.2)
 (gv:∀ i,st₀.nx<=i->st₀.mem i=none) (hN:N₀<=st₀.nx) (r:Option Nat) (n:Nat):
 ∀ (eA:Nat) (listed:Array Bool) (β:av) (w:World) (a:Act),listed.size=ops.size->listed.toList.countP (fun b=> !b)<=eA->(nl<ops.size->listed.getD nl false=false)->
  (∀ j,listed.getD j false=true->∀ o,ops[j]? =some o->∀ e∈o.after,Region.binds .any e=true->listed.getD e.on false=true)->
  DS P F oo pp st₀ ops.size N₀ β₀ w₀ a₀ (fun j=>listed.getD j false) β w a->
  wpAnyIn (Fe r) n P .any ops (cB P F N₀ β₀ w₀ a₀ Q) eA listed a w:=by
 obtain⟨tW,MP,yC⟩:=N4 hi;obtain⟨nT,Un,ahk⟩:=bg
 have VK:∀ k,k<=nl->∀ i,(bu oo pp st₀ k).nx<=i->(bu oo pp st₀ k).mem i=none:=by
  intro k
  induction k with
  |zero=>intro _ i hi;exact gv i hi
  |succ k ih=>
   intro hk i hi;rw[kv,nE] at hi;rw[kv,EC];have h1:=(cn k oG).2.wr;rw[zs,ih oG i oG];intro lX;rcases h1 i lX with h2|h2
   .exact h2 (ih oG i oG)
   .omega
 have qO:∀ i j,i<j->j<ops.size->((dh ops.toList []).getD j 0).testBit i=false->
  (∀ x∈(pp i).wr,x∉(pp j).wr)/\(∀ x∈(pp i).wr,x∈(pp j).rd->(bu oo pp st₀ j).mem x=none)/\(∀ x∈(pp j).wr,x∈(pp i).rd->(bu oo pp st₀ i).mem x=none):=by
  intro i j ko hj hb;have hu:=DY ko hj hb
  have iF:j<nl:=by
   rcases Nat.lt_or_ge j nl with h|h
   .exact h
   .obtain⟨q1,q2,_⟩:=hL oG;have:j=nl:=by omega
    subst this;rw[q2 i ko] at hb;cases hb
  have MQ:ops[i]? =some (oo i):=by
   have:i<ops.size:=by omega
   rw[yH i ops[i] (by simp[this])];simp[this]
  have tX:ops[j]? =some (oo j):=by
   rw[yH j ops[j] (by simp[hj])];simp[hj]
  obtain⟨ti,VL,VM,t3i⟩:=(cn i oG).2;obtain⟨tj,t0j,t1j,t3j⟩:=(cn j iF).2;by_cases eD:EB ops i j=true
  .have h1:=ahk _ (yC _ hu eD);unfold mF at h1;simp only[Un i oG,Un j iF] at h1;exact⟨fun x hx=>(h1.1 x hx).2,fun x hx hr=>absurd hr (h1.1 x hx).1,fun x hx hr=>absurd hr (h1.2 x hx)⟩
  .simp only[EB,MQ,tX,aw,Bool.or_eq_true,beq_iff_eq,bne_iff_ne,Bool.not_eq_true',ne_eq] at eD
   have hk:∀ o:Oper,cp o.op=0\/cp o.op=1\/cp o.op=2\/cp o.op=3:=fun o=>by
    unfold cp;split<;>simp
   have nil:∀ p:aY,p.aL=[]->∀ x,x∉p.wr:=fun p hp x hx=>by simp[aY.wr,hp] at hx
   rcases hk (oo j) with U|U|U|U
   .have:=t0j U;exact⟨fun x _=>nil _ this.2 x,fun x _ hr=>(by rw[this.1] at hr;cases hr),fun x hx=>absurd hx (nil _ this.2 x)⟩
   .by_cases k0:cp (oo i).op=0
    .have:=VL k0;exact⟨fun x hx=>absurd hx (nil _ this.2 x),fun x hx=>absurd hx (nil _ this.2 x),fun x _ hr=>by rw[this.1] at hr;cases hr⟩
    .have k1:cp (oo i).op=1:=by
      rcases hk (oo i) with h|h|h|h
      .exact absurd h k0
      .exact h
      .exact absurd ⟨⟨.inl U,oG⟩,by simp[h]⟩ eD
      .exact absurd ⟨⟨.inl U,oG⟩,by simp[h]⟩ eD
     exact⟨fun x hx=>absurd hx (nil _ (VM k1) x),fun x hx=>absurd hx (nil _ (VM k1) x),fun x hx=>absurd hx (nil _ (t1j U) x)⟩
   .by_cases k0:cp (oo i).op=0
    .have:=VL k0;exact⟨fun x hx=>absurd hx (nil _ this.2 x),fun x hx=>absurd hx (nil _ this.2 x),fun x _ hr=>by rw[this.1] at hr;cases hr⟩
    .exact absurd ⟨⟨.inr U,oG⟩,by simp[U]⟩ eD
   .have dG:=fO oo pp st₀ (show i+1<=j by omega);rw[kv,nE] at dG;obtain⟨h1,h2⟩:=t3j U
    have MR:∀ x∈(pp i).wr,x<(bu oo pp st₀ j).nx:=fun x hx=>by
     rcases ti x hx with h|h
     .rcases Nat.lt_or_ge x (bu oo pp st₀ i).nx with h'|h'
      .omega
      .exact absurd (VK i oG x h') h
     .omega
    refine⟨fun x hx hxj=>?_,fun x _ hr=>(by rw[h1] at hr;cases hr),fun x hx _=>VK i oG x ?_⟩
    .have:=MR x hx;have:=h2 x hxj;omega
    .have:=h2 x hx;omega
 have LF:∀ i j,i<j->j<ops.size->((dh ops.toList []).getD j 0).testBit i=false->(oo i).apart ops (oo j)=true:=by
  intro i j ko hj hb;have h1:=MP _ (DY ko hj hb)
  have MQ:ops[i]? =some (oo i):=by
   have:i<ops.size:=by omega
   rw[yH i ops[i] (by simp[this])];simp[this]
  have tX:ops[j]? =some (oo j):=by
   rw[yH j ops[j] (by simp[hj])];simp[hj]
  simpa[D8,MQ,tX] using h1
 have pO:∀ listed:Array Bool,listed.size=ops.size->Region.ready .any ops listed=[]->∀ k,k<ops.size->listed.getD k false=true:=by
  intro listed br hr k
  induction k using Nat.strongRecOn with
  |_ k ih=>
   intro hk;cases hl:listed.getD k false with
   |true=>rfl
   |false=>
    exfalso
    have:k∈Region.ready .any ops listed:=by
     rw[mem_ready];refine⟨?_,ops[k],by simp[hk],fun e he hb=>?_⟩
     .have iG:k<listed.size:=by omega
      simpa[iG] using hl
     .have h1:=tW k ops[k] (by simp[hk]) e he hb;exact ih e.on h1 oG
    rw[hr] at this;cases this
 have done:∀ (listed:Array Bool) (β:av) (w:World) (a:Act),listed.size=ops.size->(nl<ops.size->listed.getD nl false=false)->DS P F oo pp st₀ ops.size N₀ β₀ w₀ a₀ (fun j=>listed.getD j false) β w a->Region.ready .any ops listed=[]->
  cB P F N₀ β₀ w₀ a₀ Q .normal a w:=by
  intro listed β w a br je C hr
  have yI:nl=ops.size:=by
   rcases Nat.lt_or_ge nl ops.size with h|h
   .have h1:=je h;rw[pO listed br hr nl h] at h1;cases h1
   .omega
  have hQ:=hQ yI;have e:cY oo pp st₀ (fun j=>listed.getD j false) ops.size=bu oo pp st₀ ops.size:=zt oo pp st₀ _ fun j hj=>pO listed br hr j hj;have h1:=C.e;have h2:=C.m;rw[e] at h1 h2;refine⟨bu oo pp st₀ ops.size,β,hQ,⟨h1,h2,fun i hi=>C.free i ?_ fun k hk _ h=>?_⟩,⟨C.step,?_,C.grow,C.size,C.defers⟩⟩
  .exact Nat.le_trans (fO oo pp st₀ (Nat.zero_le _)) hi
  .have:=fO oo pp st₀ (show k+1<=ops.size by omega);rw[kv,nE] at this;omega
  .exact Nat.le_trans hN (fO oo pp st₀ (Nat.zero_le _))
 intro eA
 induction eA with
 |zero=>
  intro listed β w a br hc je cg C
  have hr:Region.ready .any ops listed=[]:=by
   cases mi:Region.ready .any ops listed with
   |nil=>rfl
   |cons x xs=>
    exfalso;have hx:x∈Region.ready .any ops listed:=by rw[mi];simp
    rw[mem_ready] at hx;obtain⟨h1,o,ho,_⟩:=hx;have wm:x<ops.size:=(Array.getElem?_eq_some_iff.1 ho).1;have o8:x<listed.size:=by omega
    have:listed[x]=false:=by simpa[o8] using h1
    have h2:0<listed.toList.countP (fun b=> !b):=List.countP_pos_iff.2 ⟨listed[x],oS,by simp[this]⟩;omega
  exact⟨hr,done listed β w a br je C hr⟩
 |succ eA ih=>
  intro listed β w a br hc je cg C;refine⟨done listed β w a br je C,fun k hk=>?_⟩;rw[mem_ready] at hk;obtain⟨pd,o,ho,lA⟩:=hk;have kP:k<ops.size:=(Array.getElem?_eq_some_iff.1 ho).1;have gU:k<listed.size:=by omega
  have yJ:listed[k]=false:=by simpa[gU] using pd
  have pf:listed.getD k false=false:=by simp[gU,yJ]
  have eo:oo k=o:=yH k o ho;by_cases Uo:k=nl
  ·
    subst Uo;obtain⟨q1,q2,q3⟩:=hL kP
    have ct:∀ j,j<k->listed.getD j false=true:=by
     intro j hj;have hb:=q2 j hj;have h1:=zr ops.toList [] k o (by simpa using ho);simp only[List.length_nil,Nat.zero_add] at h1;rw[h1] at hb;rcases zk _ j _ 0 hb with h2|⟨e,he,iw,h2⟩
     .simp at h2
     .have mh:=lA e (by simpa using he) iw;rcases h2 with rfl|h2
      .exact mh
      .have ag:=tW k o ho e (by simpa using he) iw;have J:((dh ops.toList []).getD e.on 0).testBit j=true:=by simpa[List.getElem?_take,ag] using h2
       exact zi (S:=fun j=>listed.getD j false) cg j e.on mh J
    have tY:cY oo pp st₀ (fun j=>listed.getD j false) ops.size=bu oo pp st₀ k:=by
     rw[<- J0 oo pp st₀ k ops.size oG];refine zt oo pp st₀ _ fun j hj=>?_;rcases Nat.lt_or_ge j k with h|h
     .simp[ct j h,h]
     .have:j=k:=by omega
      subst this;simp[pf]
    refine zd ho ?_;rw[<- eo];have h1:=C.e;have h2:=C.m;rw[tY] at h1 h2;refine q3 r n β w a ⟨h1,h2,fun i hi=>C.free i ?_ fun j hj hS h=>?_⟩ ⟨C.step,?_,C.grow,C.size,C.defers⟩ _ fun a' w' hp=>?_
    .exact Nat.le_trans (fO oo pp st₀ (Nat.zero_le _)) hi
    .rcases Nat.lt_or_ge j k with ag|bC
     .have:=fO oo pp st₀ (show j+1<=k by omega);rw[kv,nE] at this;omega
     .have:j=k:=by omega
      subst this;simp only[pf] at hS;cases hS
    .exact Nat.le_trans hN (fO oo pp st₀ (Nat.zero_le _))
    .have hr:Region.ready .any ops (listed.setIfInBounds k true)=[]:=by
      cases mi:Region.ready .any ops (listed.setIfInBounds k true) with
      |nil=>rfl
      |cons x xs=>
       exfalso;have hx:x∈Region.ready .any ops (listed.setIfInBounds k true):=by rw[mi];simp
       rw[mem_ready] at hx;obtain⟨X,o',qP,_⟩:=hx;have wm:x<ops.size:=(Array.getElem?_eq_some_iff.1 qP).1;by_cases De:x=k
       .subst De;simp[gU] at X
       .have J:=ct x oG;rw[getD_set_ne true (Ne.symm De)] at X;have Df:x<listed.size:=by omega
        simp[Df] at X J;rw[X] at J;cases J
     cases eA with
     |zero=>exact⟨hr,hp⟩
     |succ eA=>exact⟨fun _=>hp,fun i hi=>by rw[hr] at hi;cases hi⟩
  have wo:k<nl:=by
   rcases Nat.lt_or_ge k nl with h|h
   .exact h
   .have:=(hL oG).1;omega
  obtain⟨Dg,al'⟩:=cn k wo
  have AF:∀ j,j<k->listed.getD j false=false->((dh ops.toList []).getD k 0).testBit j=false:=by
   intro j tZ hj;cases hb:((dh ops.toList []).getD k 0).testBit j with
   |false=>rfl
   |true=>
    exfalso;have h1:=zr ops.toList [] k o (by simpa using ho);simp only[List.length_nil,Nat.zero_add] at h1;rw[h1] at hb;rcases zk _ j _ 0 hb with h2|⟨e,he,iw,h2⟩
    .simp at h2
    .have mh:=lA e (by simpa using he) iw;rcases h2 with rfl|h2
     .rw[hj] at mh;cases mh
     .have ag:=tW k o ho e (by simpa using he) iw;have J:((dh ops.toList []).getD e.on 0).testBit j=true:=by simpa[List.getElem?_take,ag] using h2
      have:=zi (S:=fun j=>listed.getD j false) cg j e.on mh J;rw[hj] at this;cases this
  have qG:∀ j,k<j->listed.getD j false=true->((dh ops.toList []).getD j 0).testBit k=false:=by
   intro j eM hj;cases hb:((dh ops.toList []).getD j 0).testBit k with
   |false=>rfl
   |true=>
    exfalso;have:=zi (S:=fun j=>listed.getD j false) cg k j hj hb;rw[pf] at this;cases this
  have Ak:∀ j,j<ops.size->listed.getD j false≠decide (j<k)->(j<k/\listed.getD j false=false)\/(k<j/\listed.getD j false=true):=by
   intro j hj O;rcases Nat.lt_trichotomy j k with h|h|h
   .left;refine⟨h,?_⟩;simpa[h] using O
   .subst h;simp[pf] at O
   .right;refine⟨h,?_⟩;have:¬ j<k:=by omega
    simpa[this] using O
  have tY:=J0 oo pp st₀ k ops.size oG;refine zd ho ?_;rw[<- eo];refine Dg F β w a (cY oo pp st₀ (fun j=>listed.getD j false) ops.size).mem (cY oo pp st₀ (fun j=>listed.getD j false) ops.size).env (bu oo pp st₀ ops.size).nx ?_ C.e C.m ?_ ?_ ?_ r n _ _ ?_
  .intro t ht;rw[<- tY];refine Jp oo pp st₀ _ fun j hj O=>?_;rcases Ak j hj O with⟨h1,h2⟩|⟨h1,h2⟩
   .have:=(Oper.apart_spec (LF j k h1 kP (AF j h1 h2))).1;exact fun hd=>this t hd ht
   .have:=(Oper.apart_spec (LF k j h1 hj (qG j h1 h2))).2.2;exact fun hd=>this t hd ht
  .intro i hi O;rw[<- tY] at O ⊢;refine Jq oo pp st₀ _ fun j hj yk hw=>?_;rw[tY] at O;rcases Ak j hj yk with⟨h1,h2⟩|⟨h1,h2⟩
   .exact O ((qO j k h1 kP (AF j h1 h2)).2.1 i hw hi)
   .exact O ((qO k j h1 hj (qG j h1 h2)).2.2 i hw hi)
  .intro i h1 h2;refine C.free i (Nat.le_trans (fO oo pp st₀ (Nat.zero_le _)) h1) fun j hj hS J=>?_;rcases Nat.lt_trichotomy j k with h|h|h
   .have:=fO oo pp st₀ (show j+1<=k by omega);rw[kv,nE] at this;omega
   .subst h;simp only[pf] at hS;cases hS
   .have:=fO oo pp st₀ (show k+1<=j by omega);rw[kv,nE] at this;omega
  .intro i hi;refine C.free i (Nat.le_trans (fO oo pp st₀ (Nat.zero_le _)) hi) fun j hj _ J=>?_;have:=fO oo pp st₀ (show j+1<=ops.size by omega);rw[kv,nE] at this;omega
  .intro v w' β' X g2 g3 g4
   have AY:(fun j=>(listed.setIfInBounds k true).getD j false)=(fun j=>if j=k then true else listed.getD j false):=by
    funext j;by_cases hj:j=k
    .subst hj;simp[gU]
    .rw[if_neg hj,getD_set_ne false (Ne.symm hj)]
   obtain⟨ae,am⟩:=QM oo pp st₀ (S:=fun j=>listed.getD j false) (k:=k) pf ops.size kP fun j eM hj yK=>
    ⟨(Oper.apart_spec (LF k j eM hj (qG j eM yK))).2.1,(qO k j eM hj (qG j eM yK)).1⟩
   refine ih _ β' w' _ (by simpa using br) ?_ (fun h=>by rw[getD_set_ne false (fun e=>Uo e)];exact je h) ?_ ?_
   .have:(listed.setIfInBounds k true).toList=listed.toList.set k true:=by simp
    rw[this,List.countP_set (by simpa using gU)];have h2:0<listed.toList.countP (fun b=> !b):=List.countP_pos_iff.2 ⟨listed[k],oS,by simp[yJ]⟩;have J:listed.toList[k]'(by simpa using gU)=false:=by simpa using yJ
    rw[J];simp only[Bool.not_false,if_true,Bool.not_true,Bool.false_eq_true,if_false];omega
   .intro j hj o' qP e he hb;by_cases tZ:j=k
    .subst tZ;rw[ho] at qP;cases qP;exact getD_set_true (lA e he hb)
    .rw[getD_set_ne false (Ne.symm tZ)] at hj;exact getD_set_true (cg j hj o' qP e he hb)
   .rw[AY];refine⟨?_,by rw[am];exact g2,fun i hi hn=>?_,C.step.trans g3,fun i hi hn=>?_,by rw[sS];exact C.size,by rw[put_defers];exact C.defers⟩
    .rw[ae];have hd:∀ t,(oo k).dst=some t->t<a.tmps.size:=fun t ht=>by rw[C.size];rw[eo] at ht;exact rm ag ho t ht
     have he:=C.e.step g3;cases eW:(oo k).dst with
     |none=>exact he
     |some t=>exact he.put (some t) _ _ X (fun u hu=>hd u (by rw[eW];exact hu))
    .have h1:=hn k kP oS;have h2:=C.free i hi fun j hj yK=>hn j hj (by by_cases tZ:j=k<;>simp[tZ,yK]);exact g4 i h2 oG
    .exact g4 i (C.grow i hi hn) (.inl (Nat.lt_of_lt_of_le (Nat.lt_of_lt_of_le hi hN) (fO oo pp st₀ (Nat.zero_le _))))
theorem ab3{o:Oper}{st:St}{r:Option Nat}{n:Nat}{i:Nat}(ho:ops[i]? =some o)(ag:kE a₀.tmps.size ops=true)(h:aj P iu ops false [] Q [o] st []):Fz P F ops Q N₀ β₀ w₀ a₀ r n o st:=by
 intro β w a hs J K hK;have hd:∀ t,o.dst=some t->t<a.tmps.size:=fun t ht=>by rw[J.size];exact rm ag ho t ht
 simp only[aj] at h;rcases Iy h with⟨p,h1,_,C⟩|⟨_,f,args,h1,h2,C,X⟩|⟨_,l,args,h1,h2,C,X⟩
 .exact D9 h1 hs hd r n _ fun β' a' w' O U=>hK _ _ ⟨_,β',C.2,O,J.trans U⟩
 .exact OE h1 h2 C X hs hd r n _ fun d m' an β' a' w' hp O U=>hK _ _ ⟨_,β',hp.2,O,J.trans U⟩
 .exact X.elim
theorem Im(h:tw ops=true):0<ops.size/\∀ i,i<ops.size - 1->((dh ops.toList []).getD (ops.size - 1) 0).testBit i=true:=by
 unfold tw at h;simp only[aw,cv,List.mem_range] at h;exact⟨by simpa using h.1,h.2⟩
theorem Iz{st:St}{β:av}{w:World}{a:Act}{r:Option Nat}{n id nl:Nat}{ps:List aY}(jo:P.follows .mixedOrders=true)(hi:cb ops=some cf)(ag:kE a₀.tmps.size ops=true)(gf:nl<=ops.size)
 (cn:∀ j,j<nl->(ps.getD j default).Ok P ops (ops.toList.getD j default) (bu (fun j=>ops.toList.getD j default) (fun j=>ps.getD j default) st j)/\(ps.getD j default).lW (cp (ops.toList.getD j default).op) (bu (fun j=>ops.toList.getD j default) (fun j=>ps.getD j default) st j))
 (hQ:nl=ops.size->Q .normal (bu (fun j=>ops.toList.getD j default) (fun j=>ps.getD j default) st ops.size))
 (hL:nl<ops.size->nl+1=ops.size/\(∀ i,i<nl->((dh ops.toList []).getD nl 0).testBit i=true)/\∀ r n,Fz P F ops Q N₀ β₀ w₀ a₀ r n (ops.toList.getD nl default) (bu (fun j=>ops.toList.getD j default) (fun j=>ps.getD j default) st nl))
 (X:∃ O:kO,(∀ j,j<nl->O.getD j ([],[])=((ps.getD j default).rd,(ps.getD j default).wr))/\∀ q∈cf,mF O q.1 q.2)
 (hs:bH P F st β w a) (C:de N₀ β₀ w₀ a₀ st β w a):(Code.region id ops true).wpIn (Fe r) n P (cB P F N₀ β₀ w₀ a₀ Q) a w:=by
 refine wpIn_region_any jo ?_
 have J:cY (fun j=>ops.toList.getD j default) (fun j=>ps.getD j default) st (fun j=>(Array.replicate ops.size false).getD j false) ops.size=st:=by
  have:∀ n,cY (fun j=>ops.toList.getD j default) (fun j=>ps.getD j default) st (fun j=>(Array.replicate ops.size false).getD j false) n=st:=by
   intro n
   induction n with
   |zero=>rfl
   |succ n ih=>
    have:(Array.replicate ops.size false).getD n false=false:=by simp[Array.getD_eq_getD_getElem?,Array.getElem?_replicate];split<;>rfl
    simp only[cY,this,Bool.false_eq_true,if_false];exact ih
  exact this _
 have U:Step β w β { w with drawn:=w.drawn+1 }:=⟨a6 _,fun _ _ h=>⟨rfl,h⟩,fun _ _ h=>.inl h,⟨rfl,rfl⟩,fun _ _ _ _=>mA rfl⟩
 refine aan (st₀:=st) (oo:=fun j=>ops.toList.getD j default) (pp:=fun j=>ps.getD j default) hi (fun j o hj=>by simp[hj]) ag nl gf cn hQ hL X (fun i hi=>?_) C.le r n ops.size _ β _ a oS ?_ (fun h=>?_) ?_ ?_
 .cases hm:st.mem i with
  |none=>rfl
  |some row=>
   obtain⟨p,hp,_⟩:=hs.m.row i row hm;rw[hs.n i hi] at hp;cases hp
 .simpa using List.countP_le_length (p:=fun b=> !b) (l:=(Array.replicate ops.size false).toList)
 .simp[Array.getD_eq_getD_getElem?,Array.getElem?_replicate];split<;>rfl
 .intro j hj;exfalso;have:(Array.replicate ops.size false).getD j false=false:=by simp[Array.getD_eq_getD_getElem?,Array.getElem?_replicate];split<;>rfl
  rw[this] at hj;cases hj
 .refine⟨?_,?_,fun i hi _=>hs.n i hi,C.step.trans U,C.grow,C.size,C.defers⟩
  .rw[J];exact hs.e.step U
  .rw[J];exact hs.m.ext (a6 _) fun _ _=>rfl
theorem XH{Y:fm}{st:St}{β:av}{w:World}{a:Act}{r:Option Nat}{n id:Nat}(jo:P.follows .mixedOrders=true)(hi:cb ops=some cf)(ag:kE a₀.tmps.size ops=true)
 (h:Fy P Y ops cf Q st) (hs:bH P F st β w a) (bX:de N₀ β₀ w₀ a₀ st β w a):(Code.region id ops true).wpIn (Fe r) n P (cB P F N₀ β₀ w₀ a₀ Q) a w:=by
 obtain⟨ps,nl,gf,cn,hQ,hL,bg⟩:∃ (ps:List aY) (nl:Nat),nl<=ops.size/\
  (∀ j,j<nl->(ps.getD j default).Ok P ops (ops.toList.getD j default) (bu (fun j=>ops.toList.getD j default) (fun j=>ps.getD j default) st j)/\(ps.getD j default).lW (cp (ops.toList.getD j default).op) (bu (fun j=>ops.toList.getD j default) (fun j=>ps.getD j default) st j))/\
  (nl=ops.size->Q .normal (bu (fun j=>ops.toList.getD j default) (fun j=>ps.getD j default) st ops.size))/\
  (nl<ops.size->nl+1=ops.size/\(∀ i,i<nl->((dh ops.toList []).getD nl 0).testBit i=true)/\∀ r n,Fz P F ops Q N₀ β₀ w₀ a₀ r n (ops.toList.getD nl default) (bu (fun j=>ops.toList.getD j default) (fun j=>ps.getD j default) st nl))/\
  ∃ X:kO,(∀ j,j<nl->X.getD j ([],[])=((ps.getD j default).rd,(ps.getD j default).wr))/\∀ q∈cf,mF X q.1 q.2:=by
  rcases h with h|⟨hl,h⟩
  .obtain⟨ps,O⟩:=Il _ _ _ h;have C:=Bw (fun j=>ops.toList.getD j default) (fun j=>ps.getD j default) st ops.toList ps 0 [] (fun j o hj=>by simp at hj;simp[hj]) (fun j p hj=>by simp[hj]) rfl oS O;simp only[Nat.zero_add,Array.length_toList] at C;obtain⟨h1,h2,J⟩:=C;exact⟨ps,ops.size,a6 _,fun j hj=>h1 j (Nat.zero_le _) hj,fun _=>h2,fun h=>absurd h (Nat.lt_irrefl _),J⟩
  .obtain⟨hp,hb⟩:=Im hl;obtain⟨ps,O⟩:=Il _ _ _ h;have hlen:(ops.toList.take (ops.size - 1)).length=ops.size - 1:=by simp
   have C:=Bw (fun j=>ops.toList.getD j default) (fun j=>ps.getD j default) st (ops.toList.take (ops.size - 1)) ps 0 [] (fun j o hj=>by
    have gw:j<ops.size - 1:=by rw[<- hlen];exact(bU.1 hj).1
    rw[List.getElem?_take,if_pos gw] at hj
    simp at hj;simp[hj]) (fun j p hj=>by simp[hj]) rfl oS O
   rw[hlen] at C;simp only[Nat.zero_add] at C;obtain⟨h1,h2,J⟩:=C;refine⟨ps,ops.size - 1,oG,fun j hj=>h1 j (Nat.zero_le _) hj,fun h=>by omega,fun _=>⟨oG,hb,fun r n=>?_⟩,J⟩
   have hx:ops[ops.size - 1]? =some (ops.toList.getD (ops.size - 1) default):=by
    have ag:ops.size - 1<ops.size:=by omega
    simp[ag]
   refine ab3 hx ag ?_;have U:=h2.2
   have hd:ops.toList.drop (ops.size - 1)=[ops.toList.getD (ops.size - 1) default]:=by
    have ag:ops.size - 1<ops.toList.length:=by simp;omega
    rw[List.drop_eq_getElem_cons ag,List.drop_eq_nil_of_le oP];have jG:ops.size - 1<ops.size:=by omega
    simp[List.getD,jG]
   rw[hd] at U;exact U
 exact Iz jo hi ag gf cn hQ hL bg hs bX
end
section
variable{P:Program}{F:Nat->Prop}
theorem PV{β β':av}{w:World}{m:Mem}(hm:ax P F m β w){i:Nat}{cs:List D}{e:TypeId}(af:m i=some (.cells cs e))(hβ:β'=up β i (some .dead)){d:D}{v:Value}(h:R F β w d v):
 R F β' w (c7 i cs (P.cellsOf e) d) v:=by
 have hs:Step β w β' w:=by rw[hβ];exact zj β w i
 have eS:=h.step hs;obtain⟨p,hp,hr⟩:=hm.row i _ af;unfold c7;split
 .rename_i j off n;split
  .rename_i X;subst X;cases h with
   |js _ _ _ _ h1 _=>
    rw[h1] at hp;cases hp;cases hr
   |gu _ a h1=>
    rw[h1] at hp;cases hp;cases hr;simp only[List.drop_nil,List.take_nil];exact .gR a 0
   |ir _ _ a b o len room sz h1=>
    simp only[Nat.zero_mul,List.take_zero];exact .gR a 0
   |rs _ _ _ cap b o len room sz h1 hn cW h2 h3=>
    rw[h1] at hp;cases hp;have J:β j=some (.cells b o len room sz):=h1;obtain⟨U,hl,br,_⟩:=hr.rd;have O:=(U.drop off).take (n*P.cellsOf e);obtain⟨us,u1,u2⟩:=O;refine .sl _ n b (o+off) cap us (hm.nf j _ b J rfl) ?_ (hm.lt j _ b J rfl) hn cW u1 fun k d hk=>(u2 k d hk).step hs;rw[hβ];intro k q hq;by_cases C:k=j
    .subst C;rw[ai] at hq;cases hq;simp[Pl.bA]
    .rw[aA _ _ C] at hq;exact hm.og J rfl hq C
  .exact eS
 .rename_i j off;split
  .rename_i X;subst X;cases h with
   |qM _ _ _ h1 _=>
    rw[h1] at hp;cases hp;cases hr
   |rp _ _ b o len room sz h1=>
    rw[h1] at hp;cases hp;obtain⟨U,hl,br,_⟩:=hr.rd;obtain⟨us,u1,u2⟩:=U.drop off;refine .pt _ b (o+off) us (hm.nf j _ b h1 rfl) ?_ (hm.lt j _ b h1 rfl) u1 fun k d hk=>(u2 k d hk).step hs;rw[hβ];intro k q hq;by_cases C:k=j
    .subst C;rw[ai] at hq;cases hq;simp[Pl.bA]
    .rw[aA _ _ C] at hq;exact hm.og h1 rfl hq C
  .exact eS
 .exact eS
theorem aak{β β':av}{w:World}{m:Mem}(hm:ax P F m β w){i:Nat}{es:List (Value×D)}(af:m i=some (.map es))(O:β'=up β i (some .dead)){d:D}{v:Value}(h:R F β w d v):R F β' w (yB i es d) v:=by
 have hs:Step β w β' w:=by rw[O];exact zj β w i
 unfold yB;split
 .rename_i j;split
  .rename_i U;subst U;obtain⟨r,ms,clock,h1,rfl,X,h4,h5,J⟩:=h.B4 hm af;refine .im es r ms clock (hm.nf j _ r h1 rfl) ?_ X h4 h5 (fun k x m hx hm=>(J k x m hx hm).1) fun k x m hx hm=>(J k x m hx hm).2.step hs;rw[O];intro k q hq;by_cases C:k=j
   .subst C;rw[ai] at hq;cases hq;simp[Pl.bA]
   .rw[aA _ _ C] at hq;exact hm.og h1 rfl hq C
  .exact h.step hs
 .exact h.step hs
section subst
variable{σ:D->D}{β β':av}{w:World}
theorem O4(C:∀ {d v},R F β w d v->R F β' w (σ d) v){d:D}{v:Value}(h:R F β w d v):R F β' w (qC σ d) v:=by
 unfold qC;split
 .rename_i ds;obtain⟨vs,rfl,hl,hh⟩:=h.qk;refine .agg _ vs (by simpa using hl) fun k d v hd hv=>?_;simp only[List.getElem?_map,cN] at hd;obtain⟨d',J,rfl⟩:=hd;exact C (hh k d' v J hv)
 .cases h with
  |cu c d _ h1 h2=>exact .cu _ _ v (fun hc=>C (h1 hc)) h2
 .exact C h
theorem BI(C:∀ {d v},R F β w d v->R F β' w (σ d) v){d:D}{v:Value}(h:R F β w d v):R F β' w (sub σ d) v:=by
 have map:∀ (ds:List D) (vs:List Value),(∀ (k:Nat) (d:D) (v:Value),ds[k]? =some d->vs[k]? =some v->R F β w d v)->
  ∀ (k:Nat) (d:D) (v:Value),(ds.map (qC σ))[k]? =some d->vs[k]? =some v->R F β' w d v:=fun ds vs hh k d v hd hv=>by
  simp only[List.getElem?_map,cN] at hd;obtain⟨d',J,rfl⟩:=hd;exact O4 C (hh k d' v J hv)
 unfold sub;split
 .rename_i ds;obtain⟨vs,rfl,hl,hh⟩:=h.zD;exact .aT _ vs (by simpa using hl) (map ds vs hh)
 .rename_i f fs ds;cases h with
  |fn _ _ _ us vs hl jt h1 h2=>exact .fn f _ _ us vs (by simpa using hl) (by simpa using jt) (map fs us h1) (map ds vs h2)
 .exact O4 C h
theorem abZ(J:∀ {d v},R F β w d v->R F β' w (σ d) v)(hs:Step β w β' w){r:Row}{p:Pl}(h:cx P F β w r p):cx P F β' w (r.sub σ) p:=by
 cases h with
 |nil C=>exact .nil C
 |cells ds C b o room sz c hc hr hlen br hh=>
  have:=cx.cells (P:=P) (F:=F) (β:=β') (w:=w) (ds.map (Abs.sub σ)) C b o room sz c hc hr (by simpa using hlen) br fun k d hk=>by
   simp only[List.getElem?_map,cN] at hk;obtain⟨d',U,rfl⟩:=hk;obtain⟨v,h1,h2,O⟩:=hh k d' U;exact⟨v,h1,BI J h2,O⟩
  simpa[Row.sub] using this
 |map es r ms clock hc hl dE hh=>
  refine .map _ r ms clock hc (by simpa using hl) (by simpa[List.map_map,Function.comp_def] using dE) fun k x X hk o7=>?_;simp only[List.getElem?_map,cN] at hk;obtain⟨x',o8,rfl⟩:=hk;obtain⟨h1,h2⟩:=hh k x' X o8 o7;exact⟨h1,BI J h2⟩
 |raw r o hc=>exact .raw r o hc
 |bs u x T b v hc br hx h1=>exact .bs u _ T b v hc br (BI J hx) h1
 |lp k r L hc hk=>exact .lp k r L hc hk
 |eZ f r _ F₂ h1 h2 h=>exact(cx.eZ f r p F₂ h1 h2 h).step hs fun _ _=>rfl
end subst
theorem Od{σ:D->D}{env:Env}{m:Mem}{nx i:Nat}{row:Row}(h:m i=some row){w:World}{a:Act}{β:av}(hs:bH P F ⟨env,m,nx⟩ β w a)(X:∀ {d v},R F β w d v->R F (up β i (some .dead)) w (σ d) v):
 ∃ β',bH P F ⟨fun t=>sub σ (env t),fun j=>if j=i then none else(m j).map (Row.sub σ),nx⟩ β' w a/\de nx β w a ⟨fun t=>sub σ (env t),fun j=>if j=i then none else(m j).map (Row.sub σ),nx⟩ β' w a:=by
 have U:=zj β w i;have hm:=hs.m;simp only at hm
 have O:∀ j q b,up β i (some .dead) j=some q->q.bA=some b->j≠i/\β j=some q:=fun j q b hq e=>by
  by_cases hj:j=i
  .subst hj;rw[ai] at hq;cases hq;simp[Pl.bA] at e
  .rw[aA _ _ hj] at hq;exact⟨hj,hq⟩
 have hi:∃ p,β i=some p:=by
  obtain⟨p,hp,_⟩:=hm.row i _ h;exact⟨p,hp⟩
 refine⟨up β i (some .dead),⟨fun t=>BI X (hs.e t),⟨fun j r hj=>?_,fun j k q q' b hq fp C e2=>hm.inj j k q q' b (O j q b hq C).2 (O k q' b fp e2).2 C e2,
  fun j q b hq C=>hm.lt j q b (O j q b hq C).2 C,fun j q b hq C=>hm.nf j q b (O j q b hq C).2 C,hm.fb⟩,fun j hj=>?_⟩,⟨U,a6 _,fun j hj hn=>?_,rfl,rfl⟩⟩
 .simp only at hj;by_cases J:j=i
  .rw[if_pos J] at hj;cases hj
  .rw[if_neg J] at hj;simp only[cN] at hj;obtain⟨r',eh,rfl⟩:=hj;obtain⟨q,hq,af⟩:=hm.row j r' eh;exact⟨q,by rw[aA _ _ J];exact hq,abZ X U af⟩
 .have J:j≠i:=fun C=>by
   subst C;obtain⟨p,hp⟩:=hi;rw[hs.n j hj] at hp;cases hp
  rw[aA _ _ J];exact hs.n j hj
 .have J:j≠i:=fun C=>by
   subst C;obtain⟨p,hp⟩:=hi;rw[hn] at hp;cases hp
  rw[aA _ _ J];exact hn
theorem aal{β:av}{w:World}{cs cs':List D}{e:TypeId}{p:Pl}(hl:cs'.length=cs.length)(O:∀ (k:Nat) (d d':D),cs[k]? =some d->cs'[k]? =some d'->Wk d d')(h:cx P F β w (.cells cs e) p):cx P F β w (.cells cs' e) p:=by
 cases h with
 |nil _=>
  have:cs'=[]:=List.length_eq_zero_iff.1 (by simpa using hl);subst this;exact .nil e
 |cells _ _ b o room sz c hc hr hlen br hh=>
  rw[<- hl];refine .cells cs' e b o room sz c hc hr oG br fun k d' C=>?_;have hk:k<cs.length:=by rw[<- hl];exact(bU.1 C).1
  obtain⟨v,h1,h2,J⟩:=hh k cs[k] (by simp[hk]);exact⟨v,h1,O k cs[k] d' (by simp[hk]) C _ _ _ _ h2,J⟩
theorem Oe{st st':St}(h:aC P st st'){w:World}{a:Act}:∀ {β:av},bH P F st β w a->∃ β',bH P F st' β' w a/\de st.nx β w a st' β' w a:=by
 induction h with
 |refl st=>exact fun {β} hs=>⟨β,hs,de.refl st β w a⟩
 |trans _ _ ih₁ ih₂=>
  intro β hs;obtain⟨β₁,h1,h2⟩:=ih₁ hs;obtain⟨β₂,X,h4⟩:=ih₂ h1;exact⟨β₂,X,h2.trans h4⟩
 |forget env env' m nx h=>
  intro β hs;refine⟨β,⟨fun t=>?_,hs.m,hs.n⟩,⟨Step.refl β w,a6 _,fun _ _ h=>h,rfl,rfl⟩⟩;rcases h t with h1|h1
  .simp only[h1];exact hs.e t
  .simp only[h1];exact .u _
 |drop env m m' nx h=>
  intro β hs;refine⟨β,⟨hs.e,⟨fun i r hi=>?_,hs.m.inj,hs.m.lt,hs.m.nf,hs.m.fb⟩,hs.n⟩,⟨Step.refl β w,a6 _,fun _ _ h=>h,rfl,rfl⟩⟩;rcases h i with h1|h1
  .exact hs.m.row i r (h1.symm.trans hi)
  .simp only at hi;rw[h1] at hi;cases hi
 |pL env env' m m' nx h eD=>
  intro β hs;refine⟨β,⟨fun t=>h t _ _ _ _ (hs.e t),⟨fun i r hi=>?_,hs.m.inj,hs.m.lt,hs.m.nf,hs.m.fb⟩,hs.n⟩,⟨Step.refl β w,a6 _,fun _ _ h=>h,rfl,rfl⟩⟩;rcases eD i with h1|⟨cs,cs',e,h1,h2,X,h4⟩
  .exact hs.m.row i r (h1.symm.trans hi)
  .simp only at hi;rw[h2] at hi;cases hi;obtain⟨p,hp,hr⟩:=hs.m.row i _ h1;exact⟨p,hp,aal X h4 hr⟩
 |freeze env m nx i cs e h=>
  intro β hs;exact Od h hs fun hr=>PV hs.m h rfl hr
 |QJ env m nx i es h=>
  intro β hs;exact Od h hs fun hr=>aak hs.m h rfl hr
 |mE env m nx t e h=>
  intro β hs;have hm:=hs.m;have hn:β nx=none:=hs.n nx (a6 _);simp only at hm
  have J:∀ j q b,up β nx (some .nil) j=some q->q.bA=some b->j≠nx/\β j=some q:=fun j q b hq e=>by
   by_cases hj:j=nx
   .subst hj;rw[ai] at hq;cases hq;simp[Pl.bA] at e
   .rw[aA _ _ hj] at hq;exact⟨hj,hq⟩
  have U:Step β w (up β nx (some .nil)) w:=by
   refine⟨a6 _,fun b _ hf=>⟨rfl,fun j q hq C=>?_⟩,fun j q hq=>.inl ?_,⟨rfl,rfl⟩,fun _ _ _ _=>mA rfl⟩
   .exact hf j q (J j q b hq C).2 C
   .rw[aA _ _ (fun C=>by rw[C,hn] at hq;cases hq)];exact hq
  refine⟨up β nx (some .nil),⟨fun u=>?_,⟨fun j r hj=>?_,fun j k q q' b hq fp C e2=>hm.inj j k q q' b (J j q b hq C).2 (J k q' b fp e2).2 C e2,
   fun j q b hq C=>hm.lt j q b (J j q b hq C).2 C,fun j q b hq C=>hm.nf j q b (J j q b hq C).2 C,hm.fb⟩,fun j hj=>?_⟩,⟨U,Nat.le_succ _,fun j hj hb=>?_,rfl,rfl⟩⟩
  .by_cases hu:u=t
   .subst hu;have h1:=hs.e u;simp only at h1;rw[h] at h1;obtain⟨x,hx⟩:=h1.Ac;simp only[ai,hx];exact .gu nx x (ai _ _ _)
   .simp only[aA _ _ hu];exact(hs.e u).step U
  .simp only at hj;by_cases O:j=nx
   .subst O;rw[ai] at hj;cases hj;exact⟨.nil,ai _ _ _,.nil e⟩
   .rw[aA _ _ O] at hj;obtain⟨q,hq,af⟩:=hm.row j r hj;exact⟨q,by rw[aA _ _ O];exact hq,af.step U fun _ _=>rfl⟩
  .simp only at hj;rw[aA _ _ (show j≠nx by omega)];exact hs.n j (by simp only;omega)
  .simp only at hj;rw[aA _ _ (show j≠nx by omega)];exact hb
def eP(N:Nat):Code->Bool
 | .region _ ops _=>kE N ops
 | .seq a b=>eP N a&&eP N b
 | .cond _ a b=>eP N a&&eP N b
 | .block _ b=>eP N b
 | .loop b=>eP N b
 | .scope b=>eP N b
 | .rangeFunc _ ps a b=>(ps.toList.all fun t=>Nat.blt t N)&&(eP N a&&eP N b)
 |_=>true
theorem N2{Fc:Fence}{n:Nat}{Q:Exit->Act->World->Prop}{c:Code}(J:Nat->Act->World->Prop){j₀:Nat}{a:Act}{w:World}(h₀:J j₀ a w)
 (round:∀ j a w,J j a w->c.wpIn Fc n P (Exit.then (fun a' w'=>∃ X,X<j/\J X a' w') Q) a w):(Code.loop c).wpIn Fc n P Q a w:=by
 intro b k cs MI hb hr
 have key:∀ j a w,J j a w->
  ∃ e a' w',Q e a' w'/\ArrivesIn (Machine.fenced P Fc) P (lone (b.atR a (.code c::.inLoop c::k)) cs w) b k cs e a' w':=by
  intro j
  induction j using Nat.strongRecOn with
  |_ j ih=>
   intro a w hI;obtain⟨e,O,U,hq,C⟩:=round j a w hI b (.inLoop c::k) cs MI hb hr;cases e with
   |normal=>
    obtain⟨X,ag,hI₁⟩:=hq;obtain⟨e₂,a₂,w₂,hq₂,ad7⟩:=ih X ag O U hI₁;exact⟨e₂,a₂,w₂,hq₂,.of_steps (StepsIn.trans C (.one (fenced_calm hb hr rfl) stepR_inLoop)) ad7⟩
   |exit id=>exact⟨_,O,U,hq,.pass (x:=.inLoop c) rfl (fun _ _=>.inl oS) C⟩
   |goto l=>exact⟨_,O,U,hq,.pass (x:=.inLoop c) rfl (fun _ _=>.inl oS) C⟩
   |ret=>exact⟨_,O,U,hq,.pass (x:=.inLoop c) rfl (fun _ _=>.inl oS) C⟩
   |panic ch=>exact⟨_,O,U,hq,.pass (x:=.inLoop c) rfl (fun _ _=>.inl oS) C⟩
   |outgrown=>exact⟨_,O,U,hq,.pass (x:=.inLoop c) rfl (fun _ _=>.inl oS) C⟩
 obtain⟨e,a',w',hq,C⟩:=key _ a w h₀;exact⟨e,a',w',hq,.of_steps (.one (fenced_calm hb hr rfl) stepR_loop) C⟩
def mark(b:Nat):Deferred:={ target:=.collected b,args:= #[] }
def Marks(β:av)(w:World)(lo:Nat):List Deferred->Nat->Prop
 |[],_=>True
 |d::ds,hi=>∃ b,d=mark b/\lo<=b/\b<hi/\w.heap[b]? =some (.deferred (some []))/\β.free b/\Marks β w lo ds b
theorem Marks.step{β β':av}{w w':World}(hs:Step β w β' w'){lo:Nat}:∀ {ds:List Deferred} {hi:Nat},hi<=w.heap.size->Marks β w lo ds hi->Marks β' w' lo ds hi
 |[],_,_,_=>trivial
 |d::ds,hi,hle,⟨b,h1,h2,h3,h4,h5,h6⟩=>by
  obtain⟨C,J⟩:=hs.du b oG h5;exact⟨b,h1,h2,h3,C.trans h4,J,Marks.step hs oG h6⟩
theorem Marks.mono{β:av}{w:World}{lo hi C:Nat}(h:hi<=C):∀ {ds:List Deferred},Marks β w lo ds hi->Marks β w lo ds C
 |[],_=>trivial
 |_::_,⟨b,h1,h2,h3,h4⟩=>⟨b,h1,h2,oG,h4⟩
theorem Marks.append{β:av}{w:World}{lo mid:Nat}(J:lo<=mid){C:List Deferred}:∀ {ds:List Deferred} {hi:Nat},mid<=hi->Marks β w mid ds hi->Marks β w lo C mid->Marks β w lo (ds++C) hi
 |[],_,hle,_,h'=>Marks.mono hle h'
 |_::_,_,_,⟨b,h1,h2,h3,h4,h5,h6⟩,h'=>⟨b,h1,oG,h3,h4,h5,Marks.append J h2 h6 h'⟩
structure mZ(N:Nat)(β:av)(w:World)(a:Act)(st':St)(β':av)(w':World)(a':Act):Prop where
 step:Step β w β' w'
 le:N<=st'.nx
 grow:∀ i,i<N->β i=none->β' i=none
 size:a'.tmps.size=a.tmps.size
 defers:∃ ds,a'.defers=ds++a.defers/\Marks β' w' w.heap.size ds w'.heap.size
theorem de.v8{N:Nat}{β β':av}{w w':World}{a a':Act}{st':St}(h:de N β w a st' β' w' a'):mZ N β w a st' β' w' a':=
 ⟨h.step,h.le,h.grow,h.size,[],h.defers,trivial⟩
theorem mZ.trans{N:Nat}{β β₁ β₂:av}{w X w₂:World}{a C J:Act}{O U:St}(h:mZ N β w a O β₁ X C)(k:mZ O.nx β₁ X C U β₂ w₂ J):mZ N β w a U β₂ w₂ J:=by
 obtain⟨ds,e1,h1⟩:=h.defers;obtain⟨vZ,e2,h2⟩:=k.defers
 exact⟨h.step.trans k.step,Nat.le_trans h.le k.le,fun i hi hn=>k.grow i (Nat.lt_of_lt_of_le hi h.le) (h.grow i hi hn),k.size.trans h.size,vZ++ds,by rw[e2,e1,List.append_assoc],
  Marks.append h.step.size k.step.size h2 (h1.step k.step (a6 _))⟩
theorem mZ.since{N:Nat}{β β₁ β₂:av}{w X w₂:World}{a C J:Act}{O U:St}(h:mZ N β w a O β₁ X C)(k:de O.nx β₁ X C U β₂ w₂ J):mZ N β w a U β₂ w₂ J:=h.trans k.v8
def Cf(P:Program)(F:Nat->Prop)(N:Nat)(β:av)(w:World)(a:Act)(Q:Exit->St->Prop)(e:Exit)(a':Act)(w':World):Prop:=
 ∃ st' β',Q e st'/\bH P F st' β' w' a'/\mZ N β w a st' β' w' a'
theorem oB.base{J:av}{C:World}{β:av}{w:World}(hs:Step J C β w){l:Nat}{args:List D}{m:Mem}{nx:Nat}{K:D->Mem->Nat->Prop}(h:oB P F J C l args m nx K):oB P F β w l args m nx K:=
 fun β' w' us O=>h β' w' us (hs.trans O)
theorem og{β:av}{i:Nat}{p:Option Pl}{b:Nat}(h:β.free b)(hp:∀ q,p=some q->q.bA≠some b):av.free (up β i p) b:=fun j q hq=>by
 by_cases hj:j=i
 .subst hj;rw[ai] at hq;exact hp q hq
 .rw[aA _ _ hj] at hq;exact h j q hq
theorem R.rX{β:av}{w:World}{l:Nat}(C:F l)(o:Obj){d:D}{v:Value}(h:R F β w d v):R F β (w.putObj l o) d v:=
 h.gen oS (fun b _ hb hf=>⟨sY (World.putObj_heap_other fun e=>hb (e▸C)),hf,hb⟩) fun _ _ _ h=>.inl h
theorem cx.rX{β:av}{w:World}{l:Nat}(C:F l)(o:Obj){r:Row}{p:Pl}(hp:∀ b,p.bA=some b->b≠l)(h:cx P F β w r p):cx P F β (w.putObj l o) r p:=
 h.gen oS (fun b _ hb hf=>⟨sY (World.putObj_heap_other fun e=>hb (e▸C)),hf,hb⟩) (fun _ _ _ h=>.inl h) fun b hb=>World.putObj_heap_other (hp b hb)
theorem ax.rX{m:Mem}{β:av}{w:World}{l:Nat}(C:F l)(J:∀ t∈vD,t.1≠l)(o:Obj)(h:ax P F m β w):ax P F m β (w.putObj l o):=
 ⟨fun i r hi=>by
  obtain⟨p,hp,hr⟩:=h.row i r hi
  exact⟨p,hp,hr.rX C o fun b hb e=>h.nf i p b hp hb (e▸C)⟩,h.inj,fun i p b hp hb=>by simpa using h.lt i p b hp hb,h.nf,h.fb.next (fun b hb=>by simpa using h.fb.lt b hb) (fun _ h=>h) fun t ht _=>World.putObj_heap_other fun e=>J t ht e⟩
theorem bH.rX{st:St}{β:av}{w:World}{a:Act}{l:Nat}(C:F l)(J:∀ t∈vD,t.1≠l)(o:Obj)(h:bH P F st β w a):bH P F st β (w.putObj l o) a:=
 ⟨fun t=>(h.e t).rX C o,h.m.rX C J o,h.n⟩
theorem R.pL{F':Nat->Prop}(C:∀ b,F' b->F b){β:av}{w:World}{d:D}{v:Value}(h:R F β w d v):R F' β w d v:=
 h.gen (a6 _) (fun b _ hb hf=>⟨ll.refl w b,hf,fun e=>hb (C b e)⟩) fun _ _ _ h=>.inl h
theorem ax.pL{F':Nat->Prop}(C:∀ b,F' b->F b)(J:∀ t∈vD,F' t.1){m:Mem}{β:av}{w:World}(h:ax P F m β w):ax P F' m β w:=
 ⟨fun i r hi=>by
  obtain⟨p,hp,hr⟩:=h.row i r hi
  exact⟨p,hp,hr.gen (a6 _) (fun b _ hb hf=>⟨ll.refl w b,hf,fun e=>hb (C b e)⟩) (fun _ _ _ h=>.inl h) fun _ _=>rfl⟩,h.inj,h.lt,fun i p b hp hb e=>h.nf i p b hp hb (C b e),⟨fun b hb=>h.fb.lt b (C b hb),fun t ht=>⟨J t ht,(h.fb.fH t ht).2⟩⟩⟩
theorem PW{β:av}{b:Nat}(h:¬ β.free b):∃ i p,β i=some p/\p.bA=some b:=by
 unfold av.free at h;simp only[Classical.not_forall] at h;obtain⟨i,p,hp,hb⟩:=h;exact⟨i,p,hp,Decidable.not_not.1 hb⟩
structure View(il n₀:Nat)(f:Nat->Option Nat)(mc:Mem)(nc:Nat)(m:Mem)(nx:Nat):Prop where
 low:n₀<=nc
 lt:il<nx
 id:∀ i,i<n₀->f i=some i
 Hg:∀ i,i<nc->∃ j,f i=some j/\j<nx/\j≠il
 out:∀ i,nc<=i->f i=none
 inj:∀ i i' j,f i=some j->f i'=some j->i=i'
 rows:∀ i r,mc i=some r->∃ j,f i=some j/\m j=some (r.rY f)
theorem View.vE{il n₀:Nat}{f:Nat->Option Nat}{mc:Mem}{nc:Nat}{m:Mem}{nx:Nat}(h:View il n₀ f mc nc m nx){i j:Nat}(hf:f i=some j):i<nc/\j<nx/\j≠il:=by
 rcases Nat.lt_or_ge i nc with ag|C
 .obtain⟨O,h1,h2,J⟩:=h.Hg i ag;rw[hf] at h1;cases h1;exact⟨ag,h2,J⟩
 .rw[h.out i C] at hf;cases hf
theorem View.ext{il n₀:Nat}{f:Nat->Option Nat}{mc:Mem}{nc:Nat}{m m':Mem}{nx an:Nat}(h:View il n₀ f mc nc m nx)(C:nx<=an)(he:∀ i,i<nx->m' i=m i):View il n₀ f mc nc m' an:=
 ⟨h.low,Nat.lt_of_lt_of_le h.lt C,h.id,fun i hi=>by
  obtain⟨j,h1,h2,J⟩:=h.Hg i hi;exact⟨j,h1,oG,J⟩,h.out,h.inj,fun i r hi=>by
  obtain⟨j,h1,h2⟩:=h.rows i r hi
  exact⟨j,h1,(he j (h.vE h1).2.1).trans h2⟩⟩
theorem YR{f:Nat->Option Nat}{m:Mem}{β:av}{w:World}(hm:ax P F m β w){b:Nat}(h:hidden F β f b):b<w.heap.size:=by
 rcases h with h|⟨h,_⟩
 .exact hm.fb.lt b h
 .obtain⟨i,p,hp,hb⟩:=PW h;exact hm.lt i p b hp hb
theorem View.enter{il n₀:Nat}{f:Nat->Option Nat}{mc:Mem}{nc:Nat}{m:Mem}{nx:Nat}(h:View il n₀ f mc nc m nx){β:av}{w:World}(hm:ax P F m β w):
 ax P (hidden F β f) mc (β.via f) w/\∀ i,nc<=i->(β.via f) i=none:=by
 have look:∀ i p,(β.via f) i=some p->∃ j,f i=some j/\β j=some p:=fun i p hp=>Option.bind_eq_some_iff.1 hp;refine⟨⟨fun i r hi=>?_,fun i i' p q b hp hq e J=>?_,fun i p b hp e=>?_,fun i p b hp e C=>?_,hm.fb.next (fun b hb=>YR hm hb) (fun _ h=>.inl h) fun _ _ _=>rfl⟩,fun i hi=>?_⟩
 .obtain⟨j,h1,h2⟩:=h.rows i r hi;obtain⟨p,hp,hr⟩:=hm.row j _ h2;exact⟨p,by simp[av.via,h1,hp],hr.seen⟩
 .obtain⟨j,h1,h2⟩:=look i p hp;obtain⟨X,O,U⟩:=look i' q hq;have:=hm.inj j X p q b h2 U e J;subst this;exact h.inj i i' j h1 O
 .obtain⟨j,h1,h2⟩:=look i p hp;exact hm.lt j p b h2 e
 .obtain⟨j,h1,h2⟩:=look i p hp;rcases C with C|⟨_,C⟩
  .exact hm.nf j p b h2 e C
  .exact C i p hp e
 .simp[av.via,h.out i hi]
theorem ax.Ad{m:Mem}{β:av}{w:World}{i l:Nat}{o:Obj}(h:ax P F m β w)(hm:m i=some (.raw l o)):β i=some (.raw l)/\w.heap[l]? =some o/\¬ F l/\l<w.heap.size:=by
 obtain⟨p,hp,hr⟩:=h.row i _ hm;cases hr with
 |raw _ _ hc=>exact⟨hp,hc,h.nf i _ l hp rfl,h.lt i _ l hp rfl⟩
theorem View.Ez{il n₀:Nat}{f:Nat->Option Nat}{mc:Mem}{nc:Nat}{m:Mem}{nx:Nat}(h:View il n₀ f mc nc m nx){β:av}{w:World}(hm:ax P F m β w){j:Nat}{p:Pl}{b:Nat}(hj:∀ i,f i≠some j)(hp:β j=some p)(hb:p.bA=some b):
 (β.via f).free b/\hidden F β f b:=by
 have C:(β.via f).free b:=fun i q hq e=>by
  obtain⟨J,h1,h2⟩:=Option.bind_eq_some_iff.1 hq;exact hj i (hm.inj J j q p b h2 hp e hb▸h1)
 exact⟨C,.inr ⟨fun e=>e j p hp hb,C⟩⟩
structure rM(l:Nat)(β:av)(w:World)(β':av)(w':World):Prop where
 size:w.heap.size<=w'.heap.size
 du:∀ b,b<w.heap.size->b≠l->β.free b->w'.heap[b]? =w.heap[b]? /\β'.free b
 fG:∀ i p,β i=some p->β' i=some p\/β' i=some .dead
 out:Out w w'
 lp:∀ i r,r≠l->β i=some (.lp r)->β' i=some (.lp r)->Skel w w' r
theorem Step.x{β β':av}{w w':World}(h:Step β w β' w')(l:Nat):rM l β w β' w':=⟨h.size,fun b hb _=>h.du b hb,h.fG,h.out,fun i r _=>h.lp i r⟩
theorem rM.trans{l:Nat}{β₁ β₂ β₃:av}{O U X:World}(h:rM l β₁ O β₂ U)(k:rM l β₂ U β₃ X):rM l β₁ O β₃ X:=by
 refine⟨Nat.le_trans h.size k.size,fun b hb J hf=>?_,fun i p hp=>?_,h.out.trans k.out,fun i r hr hp C=>?_⟩
 rotate_left 2
 .rcases h.fG i _ hp with h1|h1
  .exact(h.lp i r hr hp h1).trans (k.lp i r hr h1 C)
  .rcases k.fG i _ h1 with h2|h2<;>(rw[h2] at C;cases C)
 .obtain⟨h1,h2⟩:=h.du b hb J hf;obtain⟨k1,k2⟩:=k.du b (Nat.lt_of_lt_of_le hb h.size) J h2;exact⟨k1.trans h1,k2⟩
 .rcases h.fG i p hp with h1|h1
  .exact k.fG i p h1
  .right;rcases k.fG i _ h1 with h2|h2<;>exact h2
theorem rM.put(l:Nat)(β:av)(w:World)(o:Obj):rM l β w β (w.putObj l o):=⟨oS,fun b _ C hf=>⟨World.putObj_heap_other C,hf⟩,fun _ _ h=>.inl h,⟨rfl,rfl⟩,fun _ _ hr _ _=>mA (World.putObj_heap_other hr)⟩
theorem O5{n j:Nat}{f:Nat->Option Nat}(C:∀ i i' j,f i=some j->f i'=some j->i=i'):
 (∀ i,(List.range n).find? (fun i=>f i==some j)=some i->f i=some j/\i<n)/\(∀ i,i<n->f i=some j->(List.range n).find? (fun i=>f i==some j)=some i):=by
 refine⟨fun i hi=>⟨by simpa using List.find?_some hi,by simpa using List.mem_of_find?_eq_some hi⟩,fun i hi hf=>?_⟩;cases h:(List.range n).find? (fun i=>f i==some j) with
 |none=>
  have:=List.find?_eq_none.1 h i (by simpa using hi);simp[hf] at this
 |some k=>rw[C i k j hf (by simpa using List.find?_some h)]
theorem View.ad8{il n₀:Nat}{f:Nat->Option Nat}{mc:Mem}{nc:Nat}{m:Mem}{nx:Nat}(h:View il n₀ f mc nc m nx){β:av}{w:World}(hm:ax P F m β w)(hn:∀ i,nx<=i->β i=none){l:Nat}{o o':Obj}(hl:m il=some (.raw l o))
 {m':Mem} {O:Nat} {β':av} {w':World} (gn:ax P (hidden F β f) m' β' w') (hs:rM l (β.via f) w β' w') (fA:∀ i,O<=i->β' i=none) (hle:nc<=O) (hg:∀ i,i<nc->(β.via f) i=none->β' i=none) (ho:w'.heap[l]? =some o'):
 ∃ C ki pM J,View il n₀ C m' O ki pM/\ki il=some (.raw l o')/\ax P F ki J w'/\(∀ i,pM<=i->J i=none)/\Step β w J w'/\nx<=pM/\∀ i,i<nx->β i=none->J i=none:=by
 obtain⟨C',pU,hFl,ag⟩:=hm.Ad hl
 let C:Nat->Option Nat:=fun i=>if i<nc then f i else if i<O then some (nx+(i - nc)) else none
 have Cg:∀ i,i<nc->C i=f i:=fun i hi=>by simp[C,hi]
 have KG:∀ i,nc<=i->i<O->C i=some (nx+(i - nc)):=fun i h1 h2=>by simp[C,h2,Nat.not_lt.2 h1]
 have SP:∀ i,O<=i->C i=none:=fun i h1=>by simp[C,Nat.not_lt.2 h1,Nat.not_lt.2 (Nat.le_trans hle h1)]
 have uP:∀ i j,C i=some j->(f i=some j/\i<nc/\j<nx)\/(nc<=i/\i<O/\j=nx+(i - nc)):=fun i j hf=>by
  rcases Nat.lt_or_ge i nc with h1|h1
  .rw[Cg i h1] at hf;exact .inl ⟨hf,h.vE hf |>.1,(h.vE hf).2.1⟩
  .rcases Nat.lt_or_ge i O with h2|h2
   .rw[KG i h1 h2] at hf;cases hf;exact .inr ⟨h1,h2,rfl⟩
   .rw[SP i h2] at hf;cases hf
 have KH:∀ i i' j,C i=some j->C i'=some j->i=i':=fun i i' j h1 h2=>by
  rcases uP i j h1 with⟨a1,a2,a3⟩|⟨a1,a2,a3⟩<;>rcases uP i' j h2 with⟨b1,b2,b3⟩|⟨b1,b2,b3⟩
  .exact h.inj i i' j a1 b1
  .omega
  .omega
  .omega
 let inv:Nat->Option Nat:=fun j=>(List.range O).find? fun i=>C i==some j
 have vF:∀ i j,inv j=some i->C i=some j:=fun i j hi=>((O5 KH).1 i hi).1;have Lq:∀ i j,C i=some j->inv j=some i:=fun i j hf=>(O5 KH).2 i (by rcases uP i j hf with h1|h1<;>omega) hf
 have ahh:∀ j,inv j=none->∀ i,f i≠some j:=fun j hj i hf=>by
  have:=Lq i j (by rw[Cg i (h.vE hf).1];exact hf);rw[hj] at this;cases this
 let J:av:=fun j=>match inv j with|some i=>β' i|none=>β j
 let ki:Mem:=fun j=>match inv j with|some i=>(m' i).map (Row.rY C)|none=>if j=il then some (.raw l o') else m j
 have βs:∀ i j,C i=some j->J j=β' i:=fun i j hf=>by simp[J,Lq i j hf]
 have βn:∀ j,inv j=none->J j=β j:=fun j hj=>by simp[J,hj]
 have ac6:inv il=none:=by
  cases hi:inv il with
  |none=>rfl
  |some i=>
   rcases uP i il (vF i il hi) with⟨a1,a2,a3⟩|⟨a1,a2,a3⟩
   .exact absurd rfl (h.vE a1).2.2
   .have:=h.lt;omega
 have via:J.via C=β':=by
  funext i;simp only[av.via];cases hf:C i with
  |some j=>exact βs i j hf
  |none=>
   rcases Nat.lt_or_ge i O with h1|h1
   .rcases Nat.lt_or_ge i nc with h2|h2
    .obtain⟨j,h3,_⟩:=h.Hg i h2;rw[Cg i h2,h3] at hf;cases hf
    .rw[KG i h2 h1] at hf;cases hf
   .exact(fA i h1).symm
 have look:∀ j p,J j=some p->(∃ i,inv j=some i/\C i=some j/\β' i=some p)\/(inv j=none/\β j=some p):=fun j p hp=>by
  cases hi:inv j with
  |some i=>exact .inl ⟨i,rfl,vF i j hi,by rw[<- βs i j (vF i j hi)];exact hp⟩
  |none=>exact .inr ⟨rfl,by rw[<- βn j hi];exact hp⟩
 have ahi:∀ b,β.free b->b≠l:=fun b hb e=>hb il _ C' (e▸rfl)
 have du:∀ b,b<w.heap.size->β.free b->w'.heap[b]? =w.heap[b]? /\J.free b:=fun b hb hf=>by
  obtain⟨h1,h2⟩:=hs.du b hb (ahi b hf) (av.uD hf f);refine⟨h1,fun j p hp=>?_⟩;rcases look j p hp with⟨i,_,_,X⟩|⟨_,X⟩
  .exact h2 i p X
  .exact hf j p X
 have fG:∀ j p,β j=some p->J j=some p\/J j=some .dead:=fun j p hp=>by
  cases hi:inv j with
  |none=>exact .inl ((βn j hi).trans hp)
  |some i=>
   have hf:=vF i j hi;rw[βs i j hf];rcases uP i j hf with⟨a1,a2,a3⟩|⟨a1,a2,a3⟩
   .exact hs.fG i p (by simp[av.via,a1,hp])
   .rw[hn j oG] at hp;cases hp
 have U:∀ j p b,inv j=none->β j=some p->p.bA=some b->hidden F β f b/\(b≠l->b<w.heap.size/\w'.heap[b]? =w.heap[b]?):=fun j p b hj hp hb=>by
  obtain⟨h1,h2⟩:=h.Ez hm (ahh j hj) hp hb;exact⟨h2,fun a8=>⟨hm.lt j p b hp hb,(hs.du b (hm.lt j p b hp hb) a8 h1).1⟩⟩
 have lps:∀ j r,β j=some (.lp r)->J j=some (.lp r)->Skel w w' r:=fun j r hp gS=>by
  have a8:r≠l:=fun e=>by
   have:=hm.inj j il _ _ l hp C' (by simp[Pl.bA,e]) rfl;subst this;rw[C'] at hp;cases hp
  cases hi:inv j with
  |none=>exact mA ((U j _ r hi hp rfl).2 a8).2
  |some i=>
   have hf:=vF i j hi;rcases uP i j hf with⟨a1,a2,a3⟩|⟨a1,a2,a3⟩
   .exact hs.lp i r a8 (by simp[av.via,a1,hp]) (by rw[<- βs i j hf];exact gS)
   .rw[hn j oG] at hp;cases hp
 refine⟨C,ki,nx+(O - nc),J,⟨Nat.le_trans h.low hle,by have:=h.lt;omega,fun i hi=>?_,fun i hi=>?_,SP,KH,fun i r hi=>?_⟩,?_,⟨fun j r hj=>?_,fun i j p q b hp hq e e'=>?_,fun j p b hp e=>?_,fun j p b hp e hF=>?_,?_⟩,fun i hi=>?_,⟨hs.size,du,fG,hs.out,lps⟩,oG,fun i hi hb=>?_⟩
 .rw[Cg i (Nat.lt_of_lt_of_le hi h.low)];exact h.id i hi
 .rcases Nat.lt_or_ge i nc with h1|h1
  .obtain⟨j,h2,h3,X⟩:=h.Hg i h1;exact⟨j,by rw[Cg i h1];exact h2,oG,X⟩
  .exact⟨_,KG i h1 hi,oG,by have:=h.lt;omega⟩
 .obtain⟨p,hp,_⟩:=gn.row i r hi
  have:∃ j,C i=some j:=by
   rw[<- via] at hp;obtain⟨j,h1,_⟩:=Option.bind_eq_some_iff.1 hp;exact⟨j,h1⟩
  obtain⟨j,hj⟩:=this;exact⟨j,hj,by simp[ki,Lq i j hj,hi]⟩
 .simp[ki,ac6]
 .cases hi:inv j with
  |some i=>
   simp only[ki,hi,cN] at hj;obtain⟨r0,nS,rfl⟩:=hj;obtain⟨p,hp,hr⟩:=gn.row i r0 nS;refine⟨p,(βs i j (vF i j hi)).trans hp,cx.Ui (F':=hidden F β f) (by rw[via];exact hr) (fun b hb=>.inl hb) fun b g1 g2=>?_⟩;obtain⟨k,q,hq,VC⟩:=PW g1;rcases look k q hq with⟨i',_,_,X⟩|⟨h3,X⟩
   .exact absurd VC (g2 i' q (by rw[via];exact X))
   .exact(U k q b h3 X VC).1
  |none=>
   simp only[ki,hi] at hj;split at hj
   .rename_i e;subst e;cases hj;exact⟨.raw l,(βn j hi).trans C',.raw l o' ho⟩
   .rename_i a8;obtain⟨p,hp,hr⟩:=hm.row j r hj;refine⟨p,(βn j hi).trans hp,hr.gen hs.size (fun b hb g1 g2=>⟨sY (du b hb g2).1,(du b hb g2).2,g1⟩) (fun i p _=>fG i p) fun b hb=>?_⟩;exact((U j p b hi hp hb).2 fun e=>a8 (hm.inj j il p _ b hp C' hb (e▸rfl))).2
 .rcases look i p hp with⟨i',a1,a2,a3⟩|⟨a1,a2⟩<;>rcases look j q hq with⟨j',b1,b2,b3⟩|⟨b1,b2⟩
  .have:=gn.inj i' j' p q b a3 b3 e e';subst this;rw[a2] at b2;cases b2;rfl
  .exact absurd (U j q b b1 b2 e').1 (gn.nf i' p b a3 e)
  .exact absurd (U i p b a1 a2 e).1 (gn.nf j' q b b3 e')
  .exact hm.inj i j p q b a2 b2 e e'
 .rcases look j p hp with⟨i',a1,a2,a3⟩|⟨a1,a2⟩
  .exact gn.lt i' p b a3 e
  .exact Nat.lt_of_lt_of_le (hm.lt j p b a2 e) hs.size
 .rcases look j p hp with⟨i',a1,a2,a3⟩|⟨a1,a2⟩
  .exact gn.nf i' p b a3 e (.inl hF)
  .exact hm.nf j p b a2 e hF
 .exact hm.fb.next (fun b hb=>Nat.lt_of_lt_of_le (hm.fb.lt b hb) hs.size) (fun _ h=>h) fun t _ hF=>(du _ (hm.fb.lt _ hF) fun i p hp e=>hm.nf i p _ hp e hF).1
 .cases bL:inv i with
  |none=>exact(βn i bL).trans (hn i oG)
  |some i0=>
   rcases uP i0 i (vF i0 i bL) with⟨a1,a2,a3⟩|⟨a1,a2,a3⟩<;>omega
 .cases bL:inv i with
  |none=>exact(βn i bL).trans hb
  |some i0=>
   have hf:=vF i0 i bL;rw[βs i0 i hf];rcases uP i0 i hf with⟨a1,a2,a3⟩|⟨a1,a2,a3⟩
   .exact hg i0 a2 (by simp[av.via,a1,hb])
   .omega
theorem Ii{β:av}{w:World}:∀ (ts:List Tmp) (ds:List D) (vs:List Value) (env:Env) (tmps:Array Value),vs.length=ds.length->(∀ (k:Nat) (d:D) (v:Value),ds[k]? =some d->vs[k]? =some v->R F β w d v)->
 (∀ t,t∈ts->t<tmps.size)->ez F β w env { tmps:=tmps,defers:=[] }->
 ez F β w (td env ts ds) { tmps:=(ts.zip vs).foldl (fun tmps (t,a)=>tmps.setIfInBounds t a) tmps,defers:=[] }/\((ts.zip vs).foldl (fun tmps (t,a)=>tmps.setIfInBounds t a) tmps).size=tmps.size
 |[],_,_,env,tmps,_,_,_,h=>by simpa[td] using h
 |_::_,[],[],env,tmps,_,_,_,h=>by simpa[td] using h
 |_::_,[],_::_,_,_,hl,_,_,_=>by simp at hl
 |_::_,_::_,[],_,_,hl,_,_,_=>by simp at hl
 |t::ts,d::ds,v::vs,env,tmps,hl,hR,ag,h=>by
  have h1:ez F β w (up env t d) { tmps:=tmps.setIfInBounds t v,defers:=[] }:=by
   have:=h.put (some t) d v (hR 0 d v rfl rfl) (fun u hu=>by cases hu;exact ag t oS);simpa[Act.put,up] using this
  have:=Ii ts ds vs (up env t d) (tmps.setIfInBounds t v) (by simpa using hl) (fun k d v hd hv=>hR (k+1) d v (by simpa using hd) (by simpa using hv)) (fun u hu=>by simpa using ag u (by simp[hu])) h1;simp only[td,List.zip_cons_cons,List.foldl_cons];exact⟨this.1,by rw[this.2];simp⟩
theorem Bs{c:Code}{b:Frame}{a:Act}{k:List Item}{cs:List Frame}{w:World}:step P (lone (b.atR a (.code (.scope c)::k)) cs w)=.next (lone (b.atR a (.code c::.inScope c::k)) cs w):=
 step_lone_go (by simp[stepG,stepG.exec,Frame.atR])
theorem Xj{c:Code}{b:Frame}{a:Act}{k:List Item}{cs:List Frame}{w:World}:step P (lone (b.atR a (.inScope c::k)) cs w)=.next (lone (b.atR a k) cs w):=
 step_lone_go (by simp[stepG,stepG.exec,Frame.atR])
theorem DX{I:Machine->Prop}{m:Machine}{b:Frame}{c:Code}{k:List Item}{cs:List Frame}{e:Exit}{a:Act}{w:World}
 (hn:e≠ .normal) (hg:∀ l,e≠ .goto l) (h:ArrivesIn I P m b (.inScope c::k) cs e a w):ArrivesIn I P m b k cs e a w:=by
 cases e with
 |normal=>exact absurd rfl hn
 |exit id=>exact⟨fun k' hk=>h.1 k' (by simp[exitTo,hk]),fun hr hk=>h.2 hr (by simp[exitTo,hk])⟩
 |goto l=>exact absurd rfl (hg l)
 |ret=>exact h
 |panic chain=>exact h
 |outgrown=>exact h
theorem OC{U:Fence}{n:Nat}{Q:Exit->Act->World->Prop}{a:Act}{w:World}{c:Code}(h:c.wpIn U n P (Exit.noGoto Q) a w):(Code.scope c).wpIn U n P Q a w:=by
 intro b k cs X hb hr;have h0:(lone (b.atR a (.code (.scope c)::k)) cs w).fenced P U:=fenced_calm hb hr rfl;obtain⟨e,C,O,hq,J⟩:=h b (.inScope c::k) cs X hb hr;cases e with
 |normal=>exact⟨.normal,C,O,hq,.head h0 Bs (StepsIn.trans J (.one (fenced_calm hb hr rfl) Xj))⟩
 |goto l=>exact hq.elim
 |exit id=>exact⟨.exit id,C,O,hq,.of_steps (.one h0 Bs) (DX (c:=c) oS oS J)⟩
 |ret=>exact⟨.ret,C,O,hq,.of_steps (.one h0 Bs) (DX (c:=c) oS oS J)⟩
 |panic ch=>exact⟨.panic ch,C,O,hq,.of_steps (.one h0 Bs) (DX (c:=c) oS oS J)⟩
 |outgrown=>exact⟨.outgrown,C,O,hq,.of_steps (.one h0 Bs) (DX (c:=c) oS oS J)⟩
def Jump(env:Env)(Q:Exit->St->Prop):Code->Mem->Nat->Prop
 | .ret,m,nx=>Q .ret ⟨env,m,nx⟩
 | .exit id,m,nx=>Q (.exit id) ⟨env,m,nx⟩
 |_,_,_=>False
def zU(il l:Nat)(n₀:Nat)(o:Obj)(I:Mem->Nat->Prop)(m:Mem)(nx:Nat):Prop:=∃ f mc nc,View il n₀ f mc nc m nx/\m il=some (.raw l o)/\I mc nc
theorem zU.closed{il l n₀:Nat}{o:Obj}{I:Mem->Nat->Prop}:B5 (zU il l n₀ o I):=by
 rintro m nx m' an ⟨f,mc,nc,h1,h2,J⟩ C he;exact⟨f,mc,nc,h1.ext C he,(he il h1.lt).trans h2,J⟩
theorem O6(ps:Array Tmp)(us:Array Value)(tmps:Array Value):
 (ps.zip us).foldl (fun tmps (t,a)=>tmps.setIfInBounds t a) tmps=(ps.toList.zip us.toList).foldl (fun tmps (t,a)=>tmps.setIfInBounds t a) tmps:=by
 rw[<- Array.foldl_toList];simp
theorem N3{β:av}{w:World}{a:Act}{g:Operand}{f:FuncId}{fs cs:List D}(hR:R F β w (.fn (.func f) fs cs) (a.eval g))(he:jU P f=true)(l:Nat)(w':World):
 ∃ (us vs:List Value) (d:Deferred),us.length=fs.length/\vs.length=cs.length/\(∀ (k:Nat) (d:D) (v:Value),fs[k]? =some d->us[k]? =some v->R F β w d v)/\(∀ (k:Nat) (d:D) (v:Value),cs[k]? =some d->vs[k]? =some v->R F β w d v)/\
  (resolve a.eval (rangeCall g l) 0).run P w'=.ok d w'/\(invoke d.target d.args).run P w'=.ok (.enter f (us.toArray++ #[.func (.yield l) #[] #[]]++vs.toArray)) w':=by
 generalize hv:a.eval g=v at hR;cases hR with
 |fn _ _ _ us vs hl jt hh C=>
 refine⟨us,vs,{ target:=.fn (.func f) vs.toArray,args:=us.toArray++ #[.func (.yield l) #[] #[]] },hl,jt,hh,C,?_,?_⟩
 .simp only[resolve,hv,Sem.run_bind,Deferred.ofValue];simp[go_sem]
 .simp only[invoke];unfold callFunc;unfold jU at he;simp only[Sem.run_bind,run_program,Result.andThen_ok];split at he
  .rename_i fn J;simp only[aw,Bool.not_eq_true'] at he
   have hb:fn.body.isNone=false:=by
    cases O:fn.body<;>simp_all
   rw[J];simp only[he.1,hb,Bool.false_eq_true,if_false,Sem.run_pure]
  .cases he
theorem Rs.append{β:av}{w:World}{aS bs:List D}{xs ys:Array Value}(h:Rs F β w aS xs)(k:Rs F β w bs ys):Rs F β w (aS++bs) (xs++ys):=by
 refine⟨by simp[h.1,k.1],fun j d v hd hv=>?_⟩;rcases Nat.lt_or_ge j aS.length with hj|hj
 .rw[List.getElem?_append_left hj] at hd;rw[Array.getElem?_append_left (by rw[h.1];exact hj)] at hv;exact h.2 j d v hd hv
 .rw[List.getElem?_append_right hj] at hd;rw[Array.getElem?_append_right (by rw[h.1];exact hj),h.1] at hv;exact k.2 _ d v hd hv
theorem aam(jo:P.follows .mixedOrders=true):∀ (c:Code) (F:Nat->Prop) (r:Option Nat) (n:Nat) (Y:fm) (rf:Bool) (N₀:Nat) (β₀:av) (w₀:World) (a₀:Act),(rf=true->r=none)->
 (∀ l args m nx K,Y l args m nx K->oB P F β₀ w₀ l args m nx K)->eP a₀.tmps.size c=true->∀ (Q:Exit->St->Prop) (st:St) (β:av) (w:World) (a:Act),
 AW P Y rf c Q st->bH P F st β w a->mZ N₀ β₀ w₀ a₀ st β w a->c.wpIn (Fe r) n P (Cf P F N₀ β₀ w₀ a₀ Q) a w:=by
 intro c
 induction c with
 |skip=>exact fun F r n Y rf N₀ β₀ w₀ a₀ U X _ Q st β w a h hs J=>wpIn_skip ⟨st,β,h,hs,J⟩
 |ret=>exact fun F r n Y rf N₀ β₀ w₀ a₀ U X _ Q st β w a h hs J=>wpIn_ret ⟨st,β,h,hs,J⟩
 |exit id=>exact fun F r n Y rf N₀ β₀ w₀ a₀ U X _ Q st β w a h hs J=>wpIn_exit ⟨st,β,h,hs,J⟩
 |label l=>exact fun F r n Y rf N₀ β₀ w₀ a₀ U X _ Q st β w a h hs J=>wpIn_label ⟨st,β,h,hs,J⟩
 |region id ops draw=>
  intro F r n Y rf N₀ β₀ w₀ a₀ U X ag Q st β w a h hs J;have jG:kE a.tmps.size ops=true:=by rw[J.size];exact ag
  cases draw with
  |false=>
   refine wpIn_mono (XG (N:=st.nx) (β₀:=β) (w₀:=w) (a₀:=a) (fun l args m nx K hy=>(X l args m nx K hy).base J.step) jG h hs (de.refl st β w a)) fun e a' w' hp=>?_;obtain⟨st',β',hq,dM,eU⟩:=hp;exact⟨st',β',hq,dM,J.since eU⟩
  |true=>
   simp only[AW] at h;split at h
   .rename_i cf yC;refine wpIn_mono (XH (N₀:=st.nx) (β₀:=β) (w₀:=w) (a₀:=a) jo yC jG h hs (de.refl st β w a)) fun e a' w' hp=>?_;obtain⟨st',β',hq,dM,eU⟩:=hp;exact⟨st',β',hq,dM,J.since eU⟩
   .exact h.elim
 |seq x y Hh Hi=>
  intro F r n Y rf N₀ β₀ w₀ a₀ U X ag Q st β w a h hs J;simp only[eP,aw] at ag;refine wpIn_seq (wpIn_mono (Hh F r n Y rf N₀ β₀ w₀ a₀ U X ag.1 _ st β w a h hs J) fun e a' w' hp=>?_);obtain⟨st',β',hq,dM,eU⟩:=hp;cases e with
  |normal=>
   obtain⟨iW,hg,hy⟩:=hq;obtain⟨ja,Cx,KI⟩:=Oe hg dM;exact Hi F r n Y rf N₀ β₀ w₀ a₀ U X ag.2 Q iW ja w' a' hy Cx (eU.since KI)
  |_=>exact⟨st',β',hq,dM,eU⟩
 |cond c x y Hh Hi=>
  intro F r n Y rf N₀ β₀ w₀ a₀ U X ag Q st β w a h hs J;simp only[eP,aw] at ag;obtain⟨ha,h⟩:=h;have hR:=(hs.e.opd c).uO _ ha;split at h
  .rename_i t ht;rw[ht] at hR;exact wpIn_cond_split hR.cm.1 (fun e=>Hh F r n Y rf N₀ β₀ w₀ a₀ U X ag.1 Q st β w a (h.1 e) hs J) fun e=>Hi F r n Y rf N₀ β₀ w₀ a₀ U X ag.2 Q st β w a (h.2 e) hs J
  .rename_i ht;rw[ht] at hR;obtain⟨b,hb⟩:=hR.B3;exact wpIn_cond_split hb (fun _=>Hh F r n Y rf N₀ β₀ w₀ a₀ U X ag.1 Q st β w a h.1 hs J) fun _=>Hi F r n Y rf N₀ β₀ w₀ a₀ U X ag.2 Q st β w a h.2 hs J
  .exact h.elim
 |scope b ih=>
  intro F r n Y rf N₀ β₀ w₀ a₀ U X ag Q st β w a h hs J;refine OC (wpIn_mono (ih F r n Y rf N₀ β₀ w₀ a₀ U X ag _ st β w a h hs J) fun e a' w' hp=>?_);obtain⟨st',β',hq,dM,eU⟩:=hp;cases e with
  |goto l=>exact hq.elim
  |_=>exact⟨st',β',hq,dM,eU⟩
 |block id b ih=>
  intro F r n Y rf N₀ β₀ w₀ a₀ U X ag Q st β w a h hs J;refine wpIn_block (wpIn_mono (ih F r n Y rf N₀ β₀ w₀ a₀ U X ag _ st β w a h hs J) fun e a' w' hp=>?_);obtain⟨st',β',hq,dM,eU⟩:=hp;cases e with
  |exit i=>
   simp only[gA] at hq;simp only[Exit.inBlock];split at hq
   .rename_i hi;rw[if_pos hi];exact⟨st',β',hq,dM,eU⟩
   .rename_i hi;rw[if_neg hi];exact⟨st',β',hq,dM,eU⟩
  |_=>exact⟨st',β',hq,dM,eU⟩
 |loop b ih=>
  intro F r n Y rf N₀ β₀ w₀ a₀ U X ag Q st β w a h hs J;obtain⟨I,μ,hI,zV⟩:=h;refine N2 (fun j a w=>∃ st β,I st/\μ st=j/\bH P F st β w a/\mZ N₀ β₀ w₀ a₀ st β w a) ⟨st,β,hI,rfl,hs,J⟩ ?_;rintro j a w ⟨st,β,hI,hμ,hs,J⟩;refine wpIn_mono (ih F r n Y rf N₀ β₀ w₀ a₀ U X ag _ st β w a (zV st hI) hs J) fun e a' w' hp=>?_;obtain⟨st',β',hq,dM,eU⟩:=hp;cases e with
  |normal=>
   obtain⟨jb,hg,Hj,amk⟩:=hq;obtain⟨ja,Cx,KI⟩:=Oe hg dM;exact⟨μ jb,oG,jb,ja,Hj,rfl,Cx,eU.since KI⟩
  |_=>exact⟨st',β',hq,dM,eU⟩
 |rangeFunc g ps assign body wg wj=>
  intro F r n Y rf N₀ β₀ w₀ a₀ U X ag Q st β w a h hs J;obtain⟨env,mem,nx⟩:=st;obtain⟨Lr,GG,f,fs,cs,xs,I,F8,GH,F9,Hk,zV,Ga⟩:=h;simp only at GG F8 Hk zV Ga;have hr:=U Lr;subst hr;simp only[eP,aw,cv,Nat.blt_eq] at ag;obtain⟨na,Ls,Lu⟩:=ag;have br:a.tmps.size=a₀.tmps.size:=J.size;have hR:=(hs.e.opd g).uO _ GG;simp only[F8] at hR;refine wpIn_rangeFunc fun fn sk=>?_;obtain⟨C,lU⟩:∃ C:LoopState->Option Code->Loop,C=fun st pe=>{ state:=st,pending:=pe,fn,tmps:=a.tmps,params:=ps,assign,body,defers:=w.heap.size }:=⟨_,rfl⟩
  obtain⟨W1,pa⟩:∃ W1,(w.alloc (.deferred (some []))).alloc (.loop (C .ready none))=W1:=⟨_,rfl⟩
  obtain⟨us,vs,d,Da,pV,hu,hv,rZ,hinv⟩:=N3 (P:=P) hR GH.1 (w.heap.size+1) W1;have hn:∀ i,nx<=i->β i=none:=hs.n;have MJ:∀ t∈vD,t.1≠w.heap.size+1:=fun t ht e=>by have:=hs.m.fb.lt _ (hs.m.fb.fH t ht).1;omega
  have hFl:¬ F (w.heap.size+1):=fun e=>by have:=hs.m.fb.lt _ e;omega
  let f₀:Nat->Option Nat:=fun i=>if i<nx then some i else none
  have Uj:β.via f₀=β:=by
   funext i;simp only[av.via,f₀];split
   .rfl
   .exact(hn i oG).symm
  have Hl:ax P F (fun i=>(mem i).map (Row.rY f₀)) β w:=⟨fun i r hi=>by
   simp only[cN] at hi;obtain⟨r0,h1,rfl⟩:=hi;obtain⟨p,hp,hr⟩:=hs.m.row i r0 h1
   exact⟨p,hp,cx.Ui (F':=F) (by rw[Uj];exact hr) (fun _ h=>h) fun b g1 g2=>absurd (Uj▸g2) g1⟩,hs.m.inj,hs.m.lt,hs.m.nf,hs.m.fb⟩
  have mg:Step β w β (w.alloc (.deferred (some []))):=wY oS fun b hb=>heap_alloc_old w _ hb;have gv:ax P F (fun i=>(mem i).map (Row.rY f₀)) β (w.alloc (.deferred (some []))):=Hl.ext oS fun b hb=>heap_alloc_old w _ hb
  have yD:ax P F (up (fun i=>(mem i).map (Row.rY f₀)) nx (some (.raw (w.heap.size+1) (.loop (C .ready none))))) (up β nx (some (.raw (w.heap.size+1)))) W1:=by
   rw[<- pa];refine gv.alloc (hn nx (a6 _)) _ _ _ (fun b hb=>by simp only[Pl.bA,aH] at hb;simp;omega) (.raw _ _ ?_);have:=World.alloc_heap_new (w.alloc (.deferred (some []))) (.loop (C .ready none))
   rwa[World.size_alloc] at this
  have dF:Step β w (up β nx (some (.raw (w.heap.size+1)))) W1:=by
   rw[<- pa];exact mg.trans (zh gv _ (hn nx (a6 _)) _ (fun b hb=>by simp only[Pl.bA,aH] at hb;simp;omega))
  have MK:W1.heap[w.heap.size]? =some (.deferred (some [])):=by
   rw[<- pa];rw[heap_alloc_old _ _ oS];exact World.alloc_heap_new w _
  have B6:av.free (up β nx (some (.raw (w.heap.size+1)))) w.heap.size:=
   og (fun i p hp e=>by have:=hs.m.lt i p _ hp e;omega) (by rintro q hq;cases hq;simp[Pl.bA])
  have Lv:W1.heap.size=w.heap.size+2:=by rw[<- pa];simp
  have ab0:∀ i,nx<=i->mem i=none:=fun i hi=>by
   cases hm:mem i with
   |none=>rfl
   |some row=>
    obtain⟨p,hp,_⟩:=hs.m.row i row hm;rw[hn i hi] at hp;cases hp
  have own:∀ {f:Nat->Option Nat} {mc:Mem} {nc:Nat} {m:Mem} {gT:Nat} {β2:av} {w2:World},View nx nx f mc nc m gT->Step (up β nx (some (.raw (w.heap.size+1)))) W1 β2 w2->
   ∀ {d:D} {v:Value},R F β w d v->R (hidden F β2 f) (β2.via f) w2 d v:=fun {_ _ _ _ _ _ _} O bF {d v} h=>by
   have Lw:=dF.trans bF;refine h.gen Lw.size (fun b hb hf gD=>?_) fun i p _ hp=>?_
   .obtain⟨g1,g2⟩:=Lw.du b hb gD;exact⟨sY g1,av.uD g2 _,fun e=>e.elim hf fun e=>e.1 g2⟩
   .have hi:i<nx:=by
     rcases Nat.lt_or_ge i nx with h1|h1
     .exact h1
     .rw[hn i h1] at hp;cases hp
    simp only[av.via,O.id i hi,Option.bind_some];exact Lw.fG i p hp
  refine⟨w.heap.size+1,[mark w.heap.size],W1,d,W1,f,_,W1,?_,rZ,fun f' _=>trivial,hinv,fun hd=>by simp at hd,Em ?_⟩
  .rw[<- pa,lU];exact run_enterLoop_outer _ _ _ _ _
  refine(GH.2 F (w.heap.size+1) (fun k=>zU nx (w.heap.size+1) nx (.loop (C .ready none)) (I k)) (fun m k=>∃ c,zU nx (w.heap.size+1) nx (.loop (C .done (some c))) (Jump env Q c) m k)
   (up (fun i=>(mem i).map (Row.rY f₀)) nx (some (.raw (w.heap.size+1) (.loop (C .ready none))))) (nx+1) (up β nx (some (.raw (w.heap.size+1)))) W1 _ (fun k=>zU.closed) ?_ yD ?_ ?_ ?_ ?_).mono ?_
  .rintro m k m' k' ⟨c,hc⟩ hle he;exact⟨c,zU.closed m k m' k' hc hle he⟩
  .intro i hi;rw[aA _ _ (show i≠nx by omega)];exact hn i oG
  .refine Rs.append (Rs.append ?_ ?_) ?_
   .exact⟨by simp[Da],fun k d v hd hv=>(hu k d v hd (by simpa using hv)).step dF⟩
   .refine⟨rfl,fun k d v hd hv=>?_⟩;cases k with
    |zero=>
     simp only[List.getElem?_cons_zero,aH] at hd;simp only[List.getElem?_toArray,List.getElem?_cons_zero,aH] at hv;subst hd;subst hv;exact .fn _ [] [] [] [] rfl rfl oS oS
    |succ k=>simp at hd
   .exact⟨by simp[pV],fun k d v hd yE=>(hv k d v hd (by simpa using yE)).step dF⟩
  .rintro k x m k' hx ⟨g,mc,nc,O,jN,hIk⟩ β2 w2 tS qD pW ML pb;obtain⟨VD,oD,_,Ly⟩:=pW.Ad jN;have Lz:tS.size=ps.size:=by rw[pb.1];exact(F9 x (cX hx)).1
   have hy:=run_yield (P:=P) (args:=tS) oD (by rw[lU];exact Lz);simp only[lU,O6] at hy;refine⟨fn,_,assign,body,hy,fun n'=>?_⟩;obtain⟨MM,tT⟩:=O.enter pW;have Db:hidden F β2 g (w.heap.size+1):=(O.Ez pW (fun i e=>(O.vE e).2.2 rfl) VD rfl).2;have RG:(β2.via g).free (w.heap.size+1):=(O.Ez pW (fun i e=>(O.vE e).2.2 rfl) VD rfl).1;have Dc:ez (hidden F β2 g) (β2.via g) w2 env { tmps:=a.tmps,defers:=[] }:=fun t=>own O qD (hs.e t)
   obtain⟨MN,Cy⟩:=Ii ps.toList x tS.toList env a.tmps (by simp[pb.1]) (fun j d v hd hv=>
    ((F9 x (cX hx)).2 d (cX hd) F β2 w2 v (pb.2 j d v hd (by simpa using hv))).gen (a6 _)
     (fun b _ hb _=>⟨ll.refl _ b,av.uD (uy hb).2 _,fun e=>e.elim (uy hb).1 fun e=>e.1 (uy hb).2⟩) (fun i p _ hp=>by cases hp)) (fun t ht=>by rw[br];exact na t ht) Dc
   have LA:=wg (hidden F β2 g) (some (w.heap.size+1)) n' iu false nc (β2.via g) w2
    { tmps:=(ps.toList.zip tS.toList).foldl (fun tmps (t,a)=>tmps.setIfInBounds t a) a.tmps,defers:=[] } oS (fun _ _ _ _ _ h=>h.elim) (by show eP (Array.size _) assign=true;rw[Cy,br];exact Ls) _ ⟨td env ps.toList x,mc,nc⟩ (β2.via g) w2 _
    (zV k mc nc x hx hIk) ⟨MN,MM,tT⟩ (de.refl ⟨td env ps.toList x,mc,nc⟩ _ _ _).v8
   refine roundIn_of_wpIn trivial (wpIn_mono LA fun e a3 w3 hp=>?_);obtain⟨jb,β3,VE,jd,dU⟩:=hp;cases e with
   |normal=>
    have KJ:w.heap.size+1<w3.heap.size:=Nat.lt_of_lt_of_le Ly dU.step.size;have ad9:w3.heap[w.heap.size+1]? =some (.loop (C .ready none)):=(dU.step.du _ Ly RG).1.trans oD;refine⟨_,run_beginRound ad9 (by rw[lU]),?_⟩;have ahj:=jd.rX (l:=w.heap.size+1) Db MJ (.loop { C .ready none with state:=.busy });have KK:=wj (hidden F β2 g) (some (w.heap.size+1)) n' iu false jb.nx β3 _ a3 oS (fun _ _ _ _ _ h=>h.elim) (by rw[dU.size];show eP (Array.size _) body=true;rw[Cy,br];exact Lu) _ jb β3 _ a3 VE ahj (de.refl jb _ _ _).v8;refine wpIn_mono KK fun e a4 w4 hp4=>?_;obtain⟨VF,β4,Hm,VG,Dd⟩:=hp4;have ad':w.heap.size+1<w4.heap.size:=Nat.lt_of_lt_of_le (by simpa using KJ) Dd.step.size
    have aea:w4.heap[w.heap.size+1]? =some (.loop { C .ready none with state:=.busy }):=
     (Dd.step.du _ (by simpa using KJ) (dU.step.du _ Ly RG).2).1.trans (World.putObj_heap_same KJ)
    have fin:∀ (jump:Option Code) (K:D->Mem->Nat->Prop),(∀ f' ki pM,View nx nx f' VF.mem VF.nx ki pM->ki nx=some (.raw (w.heap.size+1) (.loop (C (if jump.isNone then .ready else .done) jump)))->K (.s (.bool jump.isNone)) ki pM)->
     ∃ v w',(Instr.endRound (w.heap.size+1) jump).run P w4=.ok v w'/\∃ v' d m' an β',Ending.returned v=.returned v'/\K d m' an/\ax P F m' β' w'/\(∀ i,an<=i->β' i=none)/\R F β' w' d v'/\Step β2 w2 β' w'/\k'<=an/\∀ i,i<k'->β2 i=none->β' i=none:=fun jump K hK=>by
     have cK:=run_endRound (P:=P) jump aea;have e1:∀ s p,({ ({ C .ready none with state:=.busy }:Loop) with state:=s,pending:=p }:Loop)=C s p:=fun s p=>by rw[lU]
     rw[e1] at cK
     obtain⟨f',ki,pM,ja,v1,v2,v3,v4,v5,v6,v7⟩:=O.ad8 pW ML jN (o':=.loop (C (if jump.isNone then .ready else .done) jump)) (VG.m.rX Db MJ _)
      (((dU.step.x _).trans (rM.put _ β3 w3 _)).trans ((Dd.step.x _).trans (rM.put _ β4 w4 _))) VG.n (Nat.le_trans dU.le Dd.le) (fun i hi hb=>Dd.grow i (Nat.lt_of_lt_of_le hi dU.le) (dU.grow i hi hb)) (World.putObj_heap_same ad')
     exact⟨_,_,cK,.bool jump.isNone,_,ki,pM,ja,rfl,hK f' ki pM v1 v2,v3,v4,.s _ rfl,v5,v6,v7⟩
    cases e with
    |normal=>exact fin none _ fun f' ki pM v1 v2=>.inl ⟨rfl,f',_,_,v1,v2,Hm⟩
    |ret=>exact fin (some .ret) _ fun f' ki pM v1 v2=>.inr ⟨rfl,.ret,f',_,_,v1,v2,Hm⟩
    |exit id=>exact fin (some (.exit id)) _ fun f' ki pM v1 v2=>.inr ⟨rfl,.exit id,f',_,_,v1,v2,Hm⟩
    |_=>exact Hm.elim
   |_=>exact VE.elim
  .refine⟨f₀,mem,nx,⟨a6 _,oG,fun i hi=>by simp[f₀,hi],fun i hi=>⟨i,by simp[f₀,hi],oG,oG⟩,fun i hi=>by simp[f₀,Nat.not_lt.2 hi],fun i i' j h1 h2=>?_,fun i r hi=>?_⟩,ai _ _ _,Hk⟩
   .simp only[f₀,Option.ite_none_right_eq_some,aH] at h1 h2;omega
   .have ag:i<nx:=by
     rcases Nat.lt_or_ge i nx with h1|h1
     .exact h1
     .rw[ab0 i h1] at hi;cases hi
    exact⟨i,by simp[f₀,ag],by rw[aA _ _ (show i≠nx by omega),hi];rfl⟩
  .rintro e w6 ⟨v,d6,m6,AT,β6,rfl,Uk,qN,VH,_,lV,Ul,LC⟩
   have fin:∀ {g:Nat->Option Nat} {mc:Mem} {nc:Nat} (o':Obj),View nx nx g mc nc m6 AT->
    bH P F ⟨env,mc,nc⟩ (β6.via g) (w6.putObj (w.heap.size+1) o') { a with defers:=[mark w.heap.size]++a.defers }/\
    mZ N₀ β₀ w₀ a₀ ⟨env,mc,nc⟩ (β6.via g) (w6.putObj (w.heap.size+1) o') { a with defers:=[mark w.heap.size]++a.defers }:=fun {g mc nc} o' O=>by
    obtain⟨MM,tT⟩:=O.enter qN
    have Db:hidden F β6 g (w.heap.size+1):=by
     have hβ:β6 nx=some (.raw (w.heap.size+1))\/β6 nx=some .dead:=lV.fG nx _ (ai _ _ _);rcases hβ with hβ|hβ
     .exact(O.Ez qN (fun i e=>(O.vE e).2.2 rfl) hβ rfl).2
     .exfalso;rcases Uk with⟨f',mc',o9,_,LD,_⟩|⟨c,f',mc',o9,_,LD,_⟩
      .rw[(qN.Ad LD).1] at hβ;cases hβ
      .rw[(qN.Ad LD).1] at hβ;cases hβ
    refine⟨⟨fun t=>((own O lV (hs.e t)).rX Db o').pL fun b hb=>.inl hb,(MM.rX Db MJ o').pL (fun b hb=>.inl hb) fun t ht=>(hs.m.fb.fH t ht).1,tT⟩,J.trans ⟨⟨?_,fun b hb hf=>?_,fun i p hp=>?_,(dF.out.trans lV.out).trans ⟨rfl,rfl⟩,fun i r hp gS=>?_⟩,O.low,fun i hi hb=>?_,rfl,[mark w.heap.size],rfl,?_⟩⟩
    .have:=lV.size;simp;omega
    .obtain⟨g1,g2⟩:=dF.du b hb hf;obtain⟨g3,g4⟩:=lV.du b oG g2;exact⟨(World.putObj_heap_other oG).trans (g3.trans g1),av.uD g4 _⟩
    .have hi:i<nx:=by
      rcases Nat.lt_or_ge i nx with h1|h1
      .exact h1
      .rw[hn i h1] at hp;cases hp
     simp only[av.via,O.id i hi,Option.bind_some];exact(dF.trans lV).fG i p hp
    .have hi:i<nx:=by
      rcases Nat.lt_or_ge i nx with h1|h1
      .exact h1
      .rw[hn i h1] at hp;cases hp
     simp only[av.via,O.id i hi,Option.bind_some] at gS;have:=hs.m.lt i _ r hp rfl;exact((dF.trans lV).lp i r hp gS).trans (mA (World.putObj_heap_other oG))
    .have hi:i<nx:=hi;simp only[av.via,O.id i hi,Option.bind_some];exact LC i oG (by rw[aA _ _ oG];exact hb)
    .refine⟨w.heap.size,rfl,a6 _,?_,?_,?_,trivial⟩
     .have:=lV.size;simp;omega
     .exact(World.putObj_heap_other oG).trans ((lV.du _ oG B6).1.trans MK)
     .exact av.uD (lV.du _ oG B6).2 _
   rcases Uk with⟨g,mc,nc,O,jN,hI⟩|⟨c,g,mc,nc,O,jN,hj⟩
   .have cK:(Instr.endLoop (w.heap.size+1)).run P w6=.ok none (w6.putObj (w.heap.size+1) (.loop (C .exhausted none))):=by
     have:=run_endLoop (P:=P) (qN.Ad jN).2.1 (by rw[lU];simp);rw[lU] at this ⊢;exact this
    obtain⟨g1,g2⟩:=fin (.loop (C .exhausted none)) O;exact⟨none,_,cK,⟨env,mc,nc⟩,_,Ga mc nc hI,g1,g2⟩
   .have cK:(Instr.endLoop (w.heap.size+1)).run P w6=.ok (some c) (w6.putObj (w.heap.size+1) (.loop (C .exhausted (some c)))):=by
     have:=run_endLoop (P:=P) (qN.Ad jN).2.1 (by rw[lU];simp);rw[lU] at this ⊢;exact this
    obtain⟨g1,g2⟩:=fin (.loop (C .exhausted (some c))) O;refine⟨some c,_,cK,?_⟩;cases c with
    |ret=>exact wpIn_ret ⟨⟨env,mc,nc⟩,_,hj,g1,g2⟩
    |exit id=>exact wpIn_exit ⟨⟨env,mc,nc⟩,_,hj,g1,g2⟩
    |_=>exact hj.elim
 |_=>intro F r n Y rf N₀ β₀ w₀ a₀ U X ag Q st β w a h;exact h.elim
end
end Go.Abs
