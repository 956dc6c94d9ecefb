/- Part 3. -/
import Derived.Test.YtkogeiacmmckkaaGreatDoorFlowNames2
import Derived.Laws.BytesArg
import Derived.Laws.Concat
import Derived.Lib.UnsafeStr
import Derived.RangeFuncRecord
import Derived.Scope
set_option linter.all false
set_option maxHeartbeats 0
set_option maxRecDepth 10000
namespace Go.Abs
open List
section
variable{src dst:TypeId}{l:List Int}{v:Value}{i off:Nat}{cs:List D}{rd:List Nat}{k:IntKind}{t:TypeId}{n:Nat}{ty:TypeId}{x d:D}{u:Bool}{a:Value}{ρ:Operand->D}{o:Op}{e:ez}
section
variable{P:Program}{F:Nat->Prop}{m:Mem}{nx:Nat}{β:aN}{w w':World}
def N2:∀ {l:List Int} {c:List Value},Rl F β w (qU l) c->c=l.map (Value.int .u8)
 |[],[],_=>rfl
 |[],_::_,h=>by have:=h.1;simp[qU] at this
 |_::_,[],h=>by have:=h.1;simp[qU] at this
 |n::l,v::c,h=>by
  have h0:=(h.2 0 _ v rfl rfl).1.cX.1;have ih:=N2 (l:=l) (c:=c) ⟨by have:=h.1;simp[qU] at this ⊢;omega,λk d u hk hu=>h.2 (k+1) d u (by simpa[qU] using hk) (tn hu)⟩;rw[h0,ih];rfl
def T4(l:List Int):l.foldl (λr n=>r.push (UInt8.ofNat n.toNat)) ByteArray.empty=mkStr l:=by
 rw[foldl_push_bytes];simp[mkStr,ByteArray.empty,ByteArray.emptyWithCapacity];rfl
def Wq(hs:wO P src)(hd:gR P dst=true){b o cap:Nat}(h:Rd F β w b o (qU l)):(convert src dst (.slice (some ⟨b,o,none⟩) l.length cap)).run P w=.ok (.string (mkStr l)) w:=by
 let⟨c,h1,h2⟩:=h.EH;have hc:=N2 h1;subst hc
 have hl:(loadCells ⟨b,o,none⟩ l.length).run P w=.ok (l.map (Value.int .u8)).toArray w:=by
  have:=run_loadCells_list (P:=P) w ⟨b,o,none⟩ (l.map (Value.int .u8)) h2;simpa using this
 rw[run_convert_bytes_string w src dst _ _ _ _ (ku hs.1).1 hs.2.1 (zz hd),run_bytesToString w _ l.length cap l hl,T4]
def N5(hs:wO P src)(hd:gR P dst=true)(a:Option Addr)(cap:Nat):(convert src dst (.slice a 0 cap)).run P w=.ok (.string (mkStr [])) w:=by
 rw[run_convert_bytes_string w src dst _ _ _ _ (ku hs.1).1 hs.2.1 (zz hd)];cases a with
 |none=>rfl
 |some a=>
  have hl:(loadCells a 0).run P w=.ok (([]:List Int).map (Value.int .u8)).toArray w:=by simp[loadCells,loadCellsFrom]
  rw[run_bytesToString w a 0 cap [] hl,T4]
def adp(hm:aQ P F m β w)(hx:R F β w (.sl (qU l) l.length) v)(hs:wO P src)(hd:gR P dst=true):
 a7 P F m nx β w { pre:=True,val:=.s (.string (mkStr l)) } (do Pure.pure (Next.value (<- convert src dst v))):=by
 rcases hx.vW with⟨h1,h2,a,cap,rfl⟩|⟨b,o,cap,rfl,_,_,_,_,_,C⟩
 .have hl:l=[]:=eq_nil_of_length_eq_zero h2;subst hl;exact a7.pure hm (N5 hs hd a cap) (.s _ rfl)
 .exact a7.pure hm (Wq hs hd C) (.s _ rfl)
def adq(hm:aQ P F m β w){e:TypeId}(hx:R F β w (.rs i off l.length) v)(hi:m i=some (.cells cs e))(hl:(cs.drop off).take l.length=qU l)(hs:wO P src)(hd:gR P dst=true):
 a7 P F m nx β w { pre:=True,val:=.s (.string (mkStr l)),rd:=rd } (do Pure.pure (Next.value (<- convert src dst v))):=by
 rcases hx.xX hm hi with⟨h1,h2,C,_,a,rfl⟩|⟨b,o,room,_,an,U⟩
 .have J:l=[]:=eq_nil_of_length_eq_zero C;subst J;exact a7.pure hm (N5 hs hd a 0) (.s _ rfl)
 .rcases U with⟨C,a,rfl⟩|⟨cap,rfl,_⟩
  .have J:l=[]:=eq_nil_of_length_eq_zero C;subst J;exact a7.pure hm (N5 hs hd a 0) (.s _ rfl)
  .have O:=(an.rd.1.drop off).take l.length;rw[hl] at O;exact a7.pure hm (Wq hs hd O) (.s _ rfl)
def aed(hm:aQ P F m β w){k':IntKind}{n:Int}(hx:R F β w (.s (.int k n)) v)(hs:P.underlying src=some (.int k'))(hd:gR P dst=true)(h0:0<=n)(h1:n<128):
 a7 P F m nx β w { pre:=True,val:=.s (.string (mkStr [n])) } (do Pure.pure (Next.value (<- convert src dst v))):=by
 obtain⟨rfl,_⟩:=hx.cX;refine a7.pure hm (v:=.string (mkStr [n])) ?_ (.s _ rfl)
 have hv:Utf8.encode n=mkStr [n]:=by
  have h2:n.toNat<128:=by omega
  have C:Utf8.valid n=true:=by
   unfold Utf8.valid;simp;omega
  unfold Utf8.encode;simp only[C,if_true,bi h2];simp[mkStr]
 simp[convert,run_underlying hs,run_underlying (zz hd),Conv.intToString,hv]
def af5(hm:aQ P F m β w){es:List D}{k':IntKind}{J C:Value}(hx:R F β w (.sl es n) v)(hh:R F β w (.s (.int k n)) J)(hc:R F β w (.s (.int k' n)) C)(ht:bE P t=true)(hn:n*P.cellsOf (aK P t)=es.length):
 a7 P F m nx β w { pre:=True,val:=.sc es n } (do Pure.pure (Next.value (<- Instr.sliceAt t v none (some J) (some C)))):=by
 obtain⟨rfl,_⟩:=hh.cX;obtain⟨rfl,_⟩:=hc.cX;let⟨hu,he⟩:=ku ht;rcases hx.vW with⟨rfl,rfl,a,cap,rfl⟩|⟨b,o,cap,rfl,U,X,g3,g4,g5,O⟩
 .have hb:=zr (P:=P) (w:=w) 0 cap (kh:=k) (km:=k') (lo:=none) (l:=0) (h:=0) (k:=0) (.inl ⟨rfl,rfl⟩) oG oG oG oG;refine a7.val hm (v:=.slice a 0 0) ?_ (.sc [] 0 a (.kf a 0));simp[qO hu,Instr.slice,run_underlying hu,hb,ix w (iV he)]
 .have hb:=zr (P:=P) (w:=w) n cap (kh:=k) (km:=k') (lo:=none) (l:=0) (h:=n) (k:=n) (.inl ⟨rfl,rfl⟩) oG oG oG oG;refine a7.val hm (v:=.slice (if n=0 then some ⟨b,o,none⟩ else some ⟨b,o,none⟩) n n) ?_ ?_
  .simp[qO hu,Instr.slice,run_underlying hu,hb,ix w (iV he),Addr.add_lit]
  .let⟨us,r1,r2⟩:=O;simp[ite_self];exact .sc es n _ (.sl es n b o n us g3 g4 g5 (bK _) (Nat.le_trans U X) r1 r2)
def aee(hm:aQ P F m β w){k':IntKind}{J C:Value}(hx:R F β w .z v)(hh:R F β w (.s (.int k 0)) J)(hc:R F β w (.s (.int k' 0)) C)(ht:bE P t=true):
 a7 P F m nx β w { pre:=True,val:=.z } (do Pure.pure (Next.value (<- Instr.sliceAt t v none (some J) (some C)))):=by
 obtain⟨rfl,_⟩:=hh.cX;obtain⟨rfl,_⟩:=hc.cX;rw[hx.Ah];let⟨hu,he⟩:=ku ht;have hb:=zr (P:=P) (w:=w) 0 0 (kh:=k) (km:=k') (lo:=none) (l:=0) (h:=0) (k:=0) (.inl ⟨rfl,rfl⟩) oG oG oG oG;refine a7.val hm (v:=.slice none 0 0) ?_ .z;simp[qO hu,Instr.slice,run_underlying hu,hb,ix w (iV he)]
def aef(hm:aQ P F m β w){e:TypeId}{k':IntKind}{U O:Value}(hx:R F β w (.rs i off n) v)(hi:m i=some (.cells cs e))(hh:R F β w (.s (.int k n)) U)(hc:R F β w (.s (.int k' n)) O)(ht:bE P t=true)(hl:off+n*P.cellsOf e=cs.length):
 a7 P F m nx β w { pre:=True,val:=.rs i off n,rd:=rd } (do Pure.pure (Next.value (<- Instr.sliceAt t v none (some U) (some O)))):=by
 obtain⟨rfl,_⟩:=hh.cX;obtain⟨rfl,_⟩:=hc.cX;let⟨hu,he⟩:=ku ht;rcases hx.xX hm hi with⟨h1,h2,C,h4,a,rfl⟩|⟨b,o,room,J,an,⟨C,a,rfl⟩|⟨cap,rfl,X,g2,g3,g4⟩⟩
 .subst h2 C;have hb:=zr (P:=P) (w:=w) 0 0 (kh:=k) (km:=k') (lo:=none) (l:=0) (h:=0) (k:=0) (.inl ⟨rfl,rfl⟩) oG oG oG oG;refine a7.val hm (v:=.slice a 0 0) ?_ (.lH i a h4);simp[qO hu,Instr.slice,run_underlying hu,hb,ix w (iV he)]
 .subst C;have hb:=zr (P:=P) (w:=w) 0 0 (kh:=k) (km:=k') (lo:=none) (l:=0) (h:=0) (k:=0) (.inl ⟨rfl,rfl⟩) oG oG oG oG;refine a7.val hm (v:=.slice a 0 0) ?_ (.mK i off a b o cs.length room (P.cellsOf e) J);simp[qO hu,Instr.slice,run_underlying hu,hb,ix w (iV he)]
 .have hb:=zr (P:=P) (w:=w) n cap (kh:=k) (km:=k') (lo:=none) (l:=0) (h:=n) (k:=n) (.inl ⟨rfl,rfl⟩) oG oG oG oG;refine a7.val hm (v:=.slice (if n=0 then some ⟨b,o+off,none⟩ else some ⟨b,o+off,none⟩) n n) ?_ ?_
  .simp[qO hu,Instr.slice,run_underlying hu,hb,ix w (iV he),Addr.add_lit]
  .simp[ite_self];cases an with
   |cells _ _ _ _ _ _ c Fg wg hlen bZ hh=>exact .rs i off n n b o cs.length room (P.cellsOf e) J (bK _) (Nat.le_trans X g2) oG oG
def Xx(b:ByteArray):Rl F β w (B2 b) (Lib.strCells b):=by
 refine⟨by simp[B2,Lib.strCells],λk d u hk hu=>?_⟩;simp[B2,Lib.strCells,getElem?_map,eg] at hk hu;obtain⟨x,h1,rfl⟩:=hk;obtain⟨y,h2,rfl⟩:=hu;rw[h1] at h2;cases h2;exact⟨.s _ rfl,rfl⟩
def Wr{u ty:TypeId}(ht:wO P t)(hu:gR P u=true)(b:ByteArray):Src P w t u ty (aK P t) (.string b) b.size (Lib.strCells b):=by
 let⟨J,c6⟩:=ku ht.1;let⟨i,d,z,hi,hd,hz,_,lN,_,bZ,hb,_⟩:=tV c6;have dY:i.size=1:=bZ.trans ht.2.2;have hlen:=Lib.strCells_length b;have C:=zz hu;refine⟨by rw[hlen,ht.2.2,Nat.mul_one],λhk a0 n cap O=>?_,λhk a0 n cap je z' U lJ xY h0 yQ hg eu mM=>?_,λhk g o n cap cur QY wg X oV=>?_⟩
 .have hf:=Lib.run_firstCells_string (P:=P) w 1 b;have Fi:b=.empty:=by rw[ByteArray.size_eq_zero_iff] at hk;exact hk
  subst Fi;cases a0<;>simp[Builtin.append_,run_underlying J,run_underlying C,sizeOf,typeInfo,hi,Builtin.lenOf,O,Builtin.firstCells,storeCells]
 .simp[hi,Option.bind_some] at U;rw[hz] at U;cases U;simp[maxLen] at eu;cases a0 with
  |some ad=>exact Lib.run_append_grow_string (P:=P) w t u ty _ i z J C hi hz ad n cap je (by rw[dY,lJ,ht.2.2]) (xY ad rfl) b hg oG (growslice_fits oG (by rw[hb];exact mM))
  |none=>
   obtain⟨rfl,rfl⟩:=h0 rfl;have:je=[]:=eq_nil_of_length_eq_zero (tn lJ);subst this;have:=run_append_nil_string (P:=P) (w:=w) t u ty _ i z J C hi hz b hk oG (by rw[hb];simp at mM;omega);simp[Nat.zero_add];rw[this];simp[Lib.strCells];congr 3;apply Array.ext';simp
 .have hf:=Lib.run_firstCells_string (P:=P) w 1 b;rw[ht.2.2,Nat.mul_one] at X ⊢;have bL:=run_storeCells_at P g (o+n) (aK P t) (Lib.strCells b) 0 cur w QY (by simpa[hlen] using X) (Lib.strCells_oneCell b);simp[Nat.add_zero] at bL;simp[Builtin.append_,run_underlying J,run_underlying C,sizeOf,typeInfo,hi,dY,Builtin.lenOf,wg,hf,Addr.add_lit,bL]
def adr(hm:aQ P F m β w){ts:Array TypeId}{r:Row}(hx:R F β w (.rs i off n) v)(hi:m i=some r)(hn:0<n):
 a7 P F m nx β w { pre:=True,val:=.rp i off,rd:=rd } (do Pure.pure (Next.value (<- Builtin.unsafeSliceData_ ts ty #[v]))):=by
 let⟨p,hp,an⟩:=hm.row i _ hi;cases hx with
 |nW _ _ _ _ h _=>rw[h] at hp;cases hp;exact absurd rfl an.live
 |lH _ a h=>omega
 |mK _ _ a b o len room sz h=>omega
 |rs _ _ _ cap b o len room sz h h1 h2 C J=>
  exact a7.pure hm (Lib.run_unsafeSliceData_row w ts ty _ n cap oG) (.rp i off b o len room sz h)
def aeg(hm:aQ P F m β w){es:List (Value×D)}(hx:R F β w (.mp i) v)(hi:m i=some (.map es))(ht:lD P t=true):
 a7 P F m nx β w { pre:=True,val:=.s (.int .i64 es.length),rd:=rd } (do Pure.pure (Next.value (<- Builtin.len_ #[t] ty #[v]))):=by
 obtain⟨r,ms,clock,_,rfl,hb,hl,_⟩:=hx.GR hm hi;have L:=Ds ht;refine a7.pure hm (v:=.int .i64 ms.size) ?_ (by rw[hl];exact .s _ rfl);simp[Builtin.len_,run_underlying L.1,run_getObj_map w r ms clock hb,goInt]
def acq{e:TypeId}(hc:P.cellsOf e=1)(count off n:Nat)(hn:off+n<=count):liesAt P P.depth e count off e n=true:=by
 have hd:P.depth=(2*(P.types.size+Made.depth)+1)+1:=rfl;rw[hd];simp[liesAt,Bool.or_eq_true];left;rw[hd];simp[rowAt,hc,hn,sameLayout,Nat.mod_one]
def af6(pt X ty e:TypeId)(hp:P.underlying pt=some (.pointer e))(hc:P.cellsOf e=1)(g o cells:Nat)(Fj:w.shape? g=some (e,cells))(l:List UInt8)(h0:l≠[])(hn:o+l.length<=cells)(h63:l.length<=9223372036854775807)
 (J:∀ j x,l[j]? =some x->w.cell? ((⟨g,o,none⟩:Addr).add j)=some (.int .u8 x.toNat)) (k:IntKind):
 (Builtin.unsafeString_ #[pt,X] ty #[.pointer (some ⟨g,o,none⟩),.int k l.length]).run P w=.ok (.string ⟨l.toArray⟩) (w.freeze ⟨g,o,none⟩ l.length):=by
 have hl:l.length≠0:=tn h0
 have U:=Lib.run_loadBytes (P:=P) w l ⟨g,o,none⟩ .empty J;have C:=acq (P:=P) hc (cells / P.cellsOf e) o l.length (by rw[hc];simpa using hn);have O:¬ (9223372036854775807:Int)<(l.length:Int):=by omega
 have QZ:Builtin.unsafeString_ #[pt,X] ty #[.pointer (some ⟨g,o,none⟩),.int k l.length]=
  (do
   let n<- asInt (.int k l.length)
   if n<0 then runtimePanic (.error "unsafe.String: len out of range")
   if n>IntKind.i64.max then unsupported (.unsafePointer "String: a length above the largest int")
   if n=0 then pure (.string .empty)
   else if<- variablesAt ⟨g,o,none⟩ (<- elemOf pt) n.toNat then do
    let s<- loadBytes ⟨g,o,none⟩ .empty n.toNat
    freeze ⟨g,o,none⟩ n.toNat
    pure (.string s)
   else unsupported (.unsafePointer "String: not so many bytes at ptr")):=rfl
 rw[QZ];have eu:IntKind.i64.max=9223372036854775807:=rfl;have Q1:¬ (l.length:Int)<0:=by omega
 simp[asInt,asIntOf,eu,O,Q1,hl,variablesAt,Fj,elemOf,run_underlying hp,C,U]
def Ty(w:World)(a:Addr)(n k:Nat)(h:k≠a.block):(w.freeze a n).heap[k]? =w.heap[k]? :=by
 unfold World.freeze;split
 .rfl
 .simp only[Array.getElem?_modify];rw[ai (λe=>h e.symm)]
def acY(w:World)(a:Addr)(n:Nat):(w.freeze a n).heap.size=w.heap.size:=by
 unfold World.freeze;split
 .rfl
 .simp
def ads(w:World)(a:Addr)(n:Nat):Out w (w.freeze a n):=by
 unfold World.freeze;split<;>exact⟨rfl,rfl⟩
def acZ(w:World)(a:Addr)(n b:Nat):oB w (w.freeze a n) b:=by
 by_cases hb:b=a.block
 .subst hb;unfold World.freeze;split
  .exact oB.refl w _
  .refine⟨λo u hu=>?_,λms c hm=>?_⟩
   .simp[World.cell?,Array.getElem?_modify,if_true] at hu ⊢;cases hh:w.heap[a.block]? with
    |none=>rw[hh] at hu;simp at hu
    |some C=>
     rw[hh] at hu;cases C<;>simp_all
   .simp[Array.getElem?_modify,if_true,hm,Option.map_some]
 .exact xG (Ty w a n b hb)
def ac0(hm:aQ P F m β w){p:Pl}{a:Addr}(hp:β i=some p)(hb:p.blk=some a.block)(n:Nat):
 aQ P F (up m i none) (up β i (some .dead)) (w.freeze a n)/\Step β w (up β i (some .dead)) (w.freeze a n):=by
 have X:=Dn β w i;have C:=hm.dead i;have O:=acY w a n;have ho:=Ty w a n
 have hs:Step β w (up β i (some .dead)) (w.freeze a n):=⟨oG,λk hk hf=>⟨ho k λe=>hf i p hp (e▸hb),(X.fF k hk hf).2⟩,X.iL,ads w a n,λj r hj U=>pV (ho r λe=>by
  have:=hm.inj j i _ p a.block hj hp (by simp[Pl.blk,e]) hb;subst this;rw[ap] at U
  cases U)⟩
 have bC:∀ j q,up β i (some .dead) j=some q->∀ c,q.blk=some c->c≠a.block:=λj q hq c hc e=>by
  by_cases hj:j=i
  .subst hj;rw[ap] at hq;cases hq;simp[Pl.blk] at hc
  .rw[aW _ _ hj] at hq;exact hm.rW hp hb hq hj (e▸hc)
 refine⟨⟨λj r hj=>?_,C.inj,λj q c hq hc=>by rw[O];exact C.lt j q c hq hc,C.nf,C.fb.next (λc hc=>by rw[O];exact C.fb.lt c hc) (λ_ h=>h) λt _ J=>ho _ λe=>hm.nf i p _ hp hb (e▸J)⟩,hs⟩;let⟨q,hq,an⟩:=C.row j r hj;exact⟨q,hq,an.gen oG (λc _ J hf=>⟨acZ w a n c,hf,J⟩) (λ_ _ _ h=>.inl h) λc hc=>ho c (bC j q hq c hc)⟩
def aeh(hm:aQ P F m β w){u e:TypeId}{U O:Value}(hp:R F β w (.rp i off) U)(hn:R F β w (.s (.int k l.length)) O)(hi:m i=some (.cells cs e))(hl:(cs.drop off).take l.length=qU l)(h0:l≠[])
 (ht:P.underlying t=some (.pointer e)) (he:P.cellsOf e=1) (eu:l.length<=maxLen) (hr:∀ x∈l,0<=x/\x<256) {rd:List Nat}:
 a7 P F m nx β w { pre:=True,val:=.s (.string (mkStr l)),bn:=[(i,none)],rd:=rd } (do Pure.pure (Next.value (<- Builtin.unsafeString_ #[t,u] ty #[U,O]))):=by
 obtain⟨rfl,_⟩:=hn.cX;obtain⟨b,o,room,sz,J,rfl,an⟩:=hp.Kv hm hi;let⟨c,h1,h2⟩:=((an.rd.1.drop off).take l.length).EH;rw[hl] at h1;have hc:=N2 h1;subst hc;cases an with
 |cells _ _ _ _ _ _ cc X wg hlen bZ hh=>
 have kX:l.length<=cs.length - off:=by
  have:=congrArg length hl;simp[qU] at this;omega
 have mL:0<l.length:=length_pos_iff.2 h0
 have C:=af6 (P:=P) (w:=w) t u ty e ht he b (o+off) cc.size (by simp[World.shape?,X]) (l.map λn=>UInt8.ofNat n.toNat) (tn h0) oP (by simp[maxLen] at eu ⊢;omega) (λj x hx=>by
  simp[getElem?_map,eg] at hx;obtain⟨n,hn,rfl⟩:=hx;have hb:=hr n (cL hn);rw[h2 j (.int .u8 n) (by simp[hn])];have:(UInt8.ofNat n.toNat).toNat=n.toNat:=by simp;omega
  rw[this,Int.toNat_of_nonneg hb.1]) k
 simp[length_map] at C;let⟨q1,q2⟩:=ac0 hm (a:=⟨b,o+off,none⟩) J rfl l.length;refine⟨_,.string (mkStr l),_,_,by simp[Sem.run_bind,C,Result.andThen_ok,Sem.run_pure];rfl,.inl rfl,.s _ rfl,q1,q2,λj hj _=>?_⟩;rw[aW _ _ λe=>by rw[e,J] at hj;cases hj];exact hj
def Xy(hm:aQ P F m β w)(hn:β nx=none)(hs:P.cellsOf t=2)(hx:R F β w x v)(h1:v.oneCell'=true):
 aQ P F (up m nx (some (.bs false x t))) (up β nx (some (.cells w.heap.size 0 2 2 2))) (w.alloc (.cells #[.pointer none,v] t))/\Step β w (up β nx (some (.cells w.heap.size 0 2 2 2))) (w.alloc (.cells #[.pointer none,v] t)):=by
 have C:=Dj hm (.cells #[.pointer none,v] t) hn (.cells w.heap.size 0 2 2 2) (λb hb=>by simp[Pl.blk] at hb;exact hb.symm);exact⟨hm.alloc hn _ _ _ (λb hb=>by simp[Pl.blk] at hb;exact hb.symm) (.bs false x t _ v (heap_alloc_new w _) hs (hx.step C) h1),C⟩
def aei(hm:aQ P F m β w)(hn:β nx=none){c:D}(hc:c.cells=[.s (.pointer none),d])(hd:d.one=true)(hs:P.cellsOf t=2)(hx:R F β w c v):
 a7 P F m nx β w { pre:=True,val:=.rp nx 0,bn:=[(nx,some (.bs false d t))],new:=1 } (do Pure.pure (Next.value (<- Instr.box t v))):=by
 have X:c.cells.all D.one=true:=by rw[hc];simp[all_cons,all_nil,hd];rfl
 let⟨C,J,c3⟩:=hx.cells X;rw[hc] at C J
 have h0:∃ O U,v.cells= #[O,U]:=by
  obtain⟨l,hl⟩:∃ l,v.cells=⟨l⟩:=⟨v.cells.toList,rfl⟩
  rw[hl] at C ⊢
  match l,C with
  |[a,b],_=>exact⟨a,b,rfl⟩
 let⟨O,U,hv⟩:=h0;let⟨q0,_⟩:=J 0 (.s (.pointer none)) O rfl (by simp[hv]);let⟨q1,q2⟩:=J 1 d U rfl (by simp[hv]);obtain⟨rfl,_⟩:=q0.cX;let⟨h2,h3⟩:=Xy hm hn hs q1 q2;refine⟨_,_,_,_,by simp[Instr.box,F9,hv];rfl,.inl rfl,?_,h2,h3,zA⟩;exact .rp nx 0 w.heap.size 0 _ _ _ s3
def ac1(hm:aQ P F m β w)(hn:β nx=none)(ht:aT P t=true)(hz:bm P t=[.s (.pointer none),.z]):
 a7 P F m nx β w { pre:=True,val:=.rp nx 0,bn:=[(nx,some (.bs false .z t))],new:=1 } (do Pure.pure (Next.value (<- Instr.alloc t true (.tuple #[])))):=by
 let⟨z,tO,lN,X,h4⟩:=A' (P:=P) w ht;let⟨C,J⟩:=BB (F:=F) (β:=β) (w:=w) X h4;rw[hz] at C J
 have h0:∃ O U,z.cells= #[O,U]:=by
  obtain⟨l,hl⟩:∃ l,z.cells=⟨l⟩:=⟨z.cells.toList,rfl⟩
  rw[hl] at C ⊢
  match l,C with
  |[a,b],_=>exact⟨a,b,rfl⟩
 let⟨O,U,hv⟩:=h0;let⟨q0,_⟩:=J 0 (.s (.pointer none)) O rfl (by simp[hv]);let⟨q1,q2⟩:=J 1 .z U rfl (by simp[hv]);obtain⟨rfl,_⟩:=q0.cX;have hs:P.cellsOf t=2:=by rw[<- lN,hv];rfl
 let⟨h5,h6⟩:=Xy hm hn hs q1 q2;refine⟨_,_,_,_,by simp[Instr.alloc,tO,F9,hv];rfl,.inl rfl,?_,h5,h6,zA⟩;exact .rp nx 0 w.heap.size 0 _ _ _ s3
def Pg(hm:aQ P F m β w){T:TypeId}(ha:R F β w (.rp i off) a)(hi:m i=some (.bs u x T)):
 ∃ b v,β i=some (.cells b 0 2 2 2)/\a=.pointer (some ⟨b,0+off,none⟩)/\w.heap[b]? =some (.cells #[.pointer (if u then some ⟨b,0,none⟩ else none),v] T (0,0))/\P.cellsOf T=2/\R F β w x v/\v.oneCell'=true:=by
 let⟨p,hp,an⟩:=hm.row i _ hi;cases an with
 |bs _ _ _ b v hb hs hx h1=>
 cases ha with
 |uN _ _ _ h _=>rw[h] at hp;cases hp
 |rp _ _ C o len room sz h=>
  rw[h] at hp;cases hp;exact⟨b,v,h,rfl,hb,hs,hx,h1⟩
def adt(hm:aQ P F m β w){T:TypeId}(ha:R F β w (.rp i 1) a)(hi:m i=some (.bs u x T))(ht:aT P t=true)(hg:bM P t=false):
 a7 P F m nx β w { pre:=True,val:=x,rd:=rd } (do Pure.pure (Next.value (<- Instr.loadAt t a))):=by
 obtain⟨b,v,_,rfl,hb,_,hx,h1⟩:=Pg hm ha hi;refine a7.pure hm (v:=v) ?_ hx;have hc:w.cell? ⟨b,0+1,none⟩=some v:=by simp[World.cell?,hb]
 simp[Instr.loadAt,Instr.sureAddr,loadVar,F8 w (DA ht),hg,hc]
def ac2(hm:aQ P F m β w){T:TypeId}{y:Value}(ha:R F β w (.rp i 1) a)(hy:R F β w d y)(hi:m i=some (.bs u x T))(ht:aT P t=true)(hg:bM P t=false)(hd:d.one=true):
 a7 P F m nx β w { pre:=True,val:=.bu [],bn:=[(i,some (.bs u d T))],rd:=rd } (do Instr.storeAt t a y;Pure.pure Next.skip):=by
 obtain⟨b,v,U,rfl,hb,hs,hx,h1⟩:=Pg hm ha hi;have C:y.oneCell'=true:=hy.one hd;let⟨_,_,_,_,_,_,yW,_⟩:=tV ht;have xY:y.cells= #[y]:=by cases y<;>first|rfl|simp[Value.oneCell'] at C
 have J:=run_storeCells_at P b 1 T [y] 0 #[.pointer (if u then some ⟨b,0,none⟩ else none),v] w hb oS (tn C)
 have X:(storeVar t ⟨b,0+1,none⟩ y).run P w=.ok () (w.setRow b #[.pointer (if u then some ⟨b,0,none⟩ else none),y]):=by
  simp[storeVar];simp[Nat.add_zero] at J;simp[ix w (iV ht),yW hg,xY,J]
 have zT:=setRow_heap w b #[.pointer (if u then some ⟨b,0,none⟩ else none),v] #[.pointer (if u then some ⟨b,0,none⟩ else none),y] T (0,0) hb;have ho:∀ k,k≠b->(w.setRow b #[.pointer (if u then some ⟨b,0,none⟩ else none),y]).heap[k]? =w.heap[k]? :=λk hk=>setRow_other w b k _ hk;have bZ:(w.setRow b #[.pointer (if u then some ⟨b,0,none⟩ else none),y]).heap.size=w.heap.size:=by simp
 have O:=Dk hm U rfl oG ho;have ke:=hm.write U rfl bZ ho (.bs u d T) (.bs u d T b y zT hs (hy.step O) C);exact⟨.skip,undef,_,β,by simp[Instr.storeAt,Instr.sureAddr,X],.inr ⟨rfl,rfl⟩,.bu [] [] rfl oS,ke,O,λ_ h _=>h⟩
def af7(hm:aQ P F m β w){x:Value}{lo hi:Option Value}{l h:Option D}(hx:R F β w .z x)(ko:gd l 0=some 0)(oZ:gd h 0=some 0)(hl:∀ d,l=some d->∃ v,lo=some v/\R F β w d v)(O:l=none->lo=none)(hh:∀ d,h=some d->∃ v,hi=some v/\R F β w d v)(U:h=none->hi=none)(ht:bE P t=true):
 a7 P F m nx β w { pre:=True,val:=.z } (do Pure.pure (Next.value (<- Instr.sliceAt t x lo hi none))):=by
 rw[hx.Ah];let⟨hu,he⟩:=ku ht
 have wR:∀ {o:Option D} {y:Option Value},gd o 0=some 0->(∀ d,o=some d->∃ v,y=some v/\R F β w d v)->(o=none->y=none)->(y=none/\(0:Int)=0)\/∃ J,y=some (.int J 0):=λ{o y} h1 h2 C=>by
  cases o with
  |none=>exact .inl ⟨C rfl,rfl⟩
  |some d=>
   obtain⟨v,rfl,hv⟩:=h2 d rfl;right;unfold gd at h1;simp[D.int?] at h1;split at h1
   .rename_i k n;simp[aY] at h1;subst h1;exact⟨k,by rw[hv.cX.1]⟩
   .cases h1
 have hb:=Bb (P:=P) (w:=w) true 0 0 (l:=0) (h:=0) (wR ko hl O) (tn (wR oZ hh U)) oG oG oG;refine a7.val hm (v:=.slice none 0 0) ?_ .z;simp[qO hu,Instr.slice,run_underlying hu,hb,ix w (iV he)]
def aej(hm:aQ P F m β w){u:Value}(hd:qk d=some v)(hv:plain (.iface t v)=true)(ht:AI P t=true)(hu:R F β w d u):
 a7 P F m nx β w { pre:=True,val:=.s (.iface t v) } (do Pure.pure (Next.value (<- Instr.makeInterface t u))):=by
 rw[D4 hd hu];refine a7.pure hm (v:=.iface t v) ?_ (.s _ hv);unfold AI at ht;cases hh:P.underlying t with
 |none=>rw[hh] at ht;cases ht
 |some x=>
  rw[hh] at ht;cases x<;>first|(cases ht;done)|simp[Instr.makeInterface,run_underlying hh]
def aj1(h:plain (.iface t v)=true):R F β w (inD v) v:=by
 cases v with
 |agg cs=>
  refine .agg (cs.toList.map .s) cs.toList oS λk d u hd hu=>?_;simp[getElem?_map,hu,Option.map_some,aY] at hd;subst hd;have h1:=cm.1 h u (cL hu);exact .s u (by cases u<;>first|exact h1|(simp[GV] at h1;done))
 |iface=>simp[plain] at h
 |_=>exact .s _ h
def aek(hm:aQ P F m β w){u:TypeId}{x:Value}(hx:R F β w (.s v) x)(hv:R2 v=true)(ht:AI P t=true)(ho:aT P t=true)(hz:yR P t=true):
 a7 P F m nx β w { pre:=True,val:=Ed P t v } (do Pure.pure (Next.value (<- Instr.typeAssert x u t true))):=by
 obtain⟨rfl,hp⟩:=hx.cX;let⟨z,C,J⟩:=JN (F:=F) (β:=β) (w:=w) ho hz
 have bu:∀ {a b:D} {y:Value} {g:Bool},R F β w a y->R F β w (.bu [a,.s (.bool g)]) (.tuple #[y,.bool g]):=λ{a b y g} h=>
  .bu [a,.s (.bool g)] [y,.bool g] rfl λk d u hd hu=>by
   match k with
   |0=>simp at hd hu;subst hd;subst hu;exact h
   |1=>simp at hd hu;subst hd;subst hu;exact .s _ rfl
   |k+2=>simp at hd
 unfold AI at ht;cases hh:P.underlying t with
 |none=>rw[hh] at ht;cases ht
 |some q=>
  rw[hh] at ht;have hq:∀ want,q≠ .interface want:=λwant e=>by rw[e] at ht;cases ht
  cases x with
  |iface k y=>
   by_cases hk:k=t
   .subst hk;refine a7.pure hm (v:=.tuple #[y,.bool true]) ?_ (by simp only[Ed,if_true];exact bu (b:=.u) (aj1 hp));simp only[Instr.typeAssert,Sem.run_bind,run_underlying hh,Result.andThen_ok];cases q<;>first|exact absurd rfl (hq _)|simp
   .refine a7.pure hm (v:=.tuple #[z,.bool false]) ?_ (by simp[Ed,ai hk];exact bu (b:=.u) J);simp[Instr.typeAssert,Sem.run_bind,run_underlying hh,Result.andThen_ok];cases q<;>first|exact absurd rfl (hq _)|simp[hk,C]
  |nilIface=>
   refine a7.pure hm (v:=.tuple #[z,.bool false]) ?_ (by simp[Ed];exact bu (b:=.u) J);simp[Instr.typeAssert,Sem.run_bind,run_underlying hh,Result.andThen_ok];cases q<;>first|exact absurd rfl (hq _)|simp[C]
  |_=>cases hv
def ael(hm:aQ P F m β w){k:Nat}{news:List D}{y:D}{p:Prop}{U:List Nat}{b:Value}(ha:R F β w (.rs i off n) a)(hi:m i=some (.cells cs (aK P t)))(hb:R F β w y b)(hy:kq m (P.cellsOf (aK P t)) y=some (p,rd,k,news))(hp:p)
 (ht:bE P t=true) (hk:k<=n) (hl:off+n*P.cellsOf (aK P t)<=cs.length):
 a7 P F m nx β w { pre:=True,val:=.s (.int .i64 k),bn:=[(i,some (.cells (fJ cs off news) (aK P t)))],rd:=U } (do Pure.pure (Next.value (<- Builtin.copy_ #[t,t] ty #[a,b]))):=by
 let⟨hu,c6⟩:=ku ht;obtain⟨a',X,c,rfl,C,u6,L9,R6⟩:=T5 hm hb hy hp (λ_ _ _ _ _ _ _=>.inr aa);have mf:news.length=k*P.cellsOf (aK P t):=by rw[<- C.1,u6]
 have ZS:Nat.min k n=k:=Nat.min_eq_left hk
 have J:(Builtin.firstCells (P.cellsOf (aK P t)) k (.slice a' k X)).run P w=.ok c.toArray w:=by
  cases a' with
  |none=>rw[run_firstCells_none,(R6 rfl).1]
  |some ad=>exact run_firstCells_some (cs:=c) (hl:=u6) (h:=L9 ad rfl) ..
 have dU:∀ (a0:Option Addr) (cap:Nat) (w':World),(∀ ad,a0=some ad->(storeCells ad c).run P w=.ok () w')->(a0=none->w'=w)->(Builtin.copy_ #[t,t] ty #[.slice a0 n cap,.slice a' k X]).run P w=.ok (.int .i64 k) w':=λa0 cap w' h1 h2=>by
  cases a0 with
  |none=>rw[h2 rfl];simp[Builtin.copy_,Builtin.lenOf,run_underlying hu,ix w (iV c6),ZS,J,goInt]
  |some ad=>simp[Builtin.copy_,Builtin.lenOf,run_underlying hu,ix w (iV c6),ZS,J,goInt,h1 ad rfl]
 have nS:up m i (some (.cells cs (aK P t)))=m:=by
  funext j;by_cases hj:j=i
  .subst hj;rw[ap,hi]
  .rw[aW _ _ hj]
 have Ur:k=0->(∀ (a0:Option Addr) (cap:Nat),a=.slice a0 n cap->a7 P F m nx β w { pre:=True,val:=.s (.int .i64 k),bn:=[(i,some (.cells (fJ cs off news) (aK P t)))],rd:=U } (do Pure.pure (Next.value (<- Builtin.copy_ #[t,t] ty #[a,.slice a' k X])))):=by
  rintro rfl a0 cap rfl;have CB:c=[]:=eq_nil_of_length_eq_zero (by rw[u6];simp);have O:news=[]:=eq_nil_of_length_eq_zero (by rw[mf];simp);subst CB O;refine⟨.value (.int .i64 0),_,w,β,?_,.inl rfl,.s _ rfl,?_,Step.refl β w,λ_ h _=>h⟩
  .rw[Sem.run_bind,dU a0 cap w (λad _=>by simp[storeCells]) (λ_=>rfl)];rfl
  .have e:fJ cs off []=cs:=by simp[fJ]
   simp[cT,e,nS];exact hm
 rcases ha.xX hm hi with⟨_,_,O,_,a0,rfl⟩|⟨b',o,room,hβ,an,rk⟩
 .subst O;exact Ur oG a0 0 rfl
 .rcases rk with⟨O,a0,rfl⟩|⟨cap,rfl,_⟩
  .subst O;exact Ur oG a0 0 rfl
  .have hle:news.length<=n*P.cellsOf (aK P t):=by rw[mf];exact Nat.mul_le_mul_right _ hk
   let⟨w',bL,ke,hs⟩:=MU (P:=P) hm hβ an (off:=off) (ds:=news) (vs:=c) C.1 oG (λu hu=>by
    let⟨j,hj⟩:=dW hu;have dx:j<news.length:=by rw[<- C.1];exact(bO.1 hj).1
    exact(C.2 j news[j] u (by simp[dx]) hj).2) λj d u hd hu=>(C.2 j d u hd hu).1
   refine⟨.value (.int .i64 k),_,w',β,?_,.inl rfl,.s _ rfl,ke,hs,λ_ h _=>h⟩;rw[Sem.run_bind,dU _ cap w' (λad u7=>by cases u7;exact bL) (λh=>by cases h)];rfl
def fN.env{J:Operand->D}{nx:Nat}(hr:∀ x∈o.operands,J x=ρ x)(h:fN P ρ m nx o e):fN P J m nx o e:=by
 cases h with
 |add t p x y a b hx hy h=>exact .add t p x y a b ((hr x ct).trans hx) ((hr y ct).trans hy) h
 |Ee src dst x l hx hs hd=>exact .Ee src dst x l ((hr x ct).trans hx) hs hd
 |Eg src dst x l i off cs e hx hi hl hs hd=>exact .Eg src dst x l i off cs e ((hr x ct).trans hx) hi hl hs hd
 |rune src dst x k k' n hx hs hd h0 h1=>exact .rune src dst x k k' n ((hr x ct).trans hx) hs hd h0 h1
 |cut t x h c es n k k' hx hh hc ht hn=>exact .cut t x h c es n k k' ((hr x ct).trans hx) ((hr h ct).trans hh) ((hr c ct).trans hc) ht hn
 |BK c s x t es news n k p rd hc hs hx hp ht hn hk hz C hb=>
  refine .BK c s x t es news n k p rd hc ((hr s (by rw[hc];simp[Op.operands,Call.operands])).trans hs) ?_ hp ht hn hk hz C hb;rw[hr x (by rw[hc];simp[Op.operands,Call.operands])];exact hx
 |Bm c s x t u b hc hs hx ht hu C hb=>exact .Bm c s x t u b hc ((hr s (by rw[hc];simp[Op.operands,Call.operands])).trans hs) ((hr x (by rw[hc];simp[Op.operands,Call.operands])).trans hx) ht hu C hb
 |By c s x t u b i off n cs hc hs hx hi ht hu hf C hb=>exact .By c s x t u b i off n cs hc ((hr s (by rw[hc];simp[Op.operands,Call.operands])).trans hs) ((hr x (by rw[hc];simp[Op.operands,Call.operands])).trans hx) hi ht hu hf C hb
 |B3 c x t i es hc hx hi ht=>exact .B3 c x t i es hc ((hr x (by rw[hc];simp[Op.operands,Call.operands])).trans hx) hi ht
 |BL c s t i off n r hc hs hi hn=>exact .BL c s t i off n r hc ((hr s (by rw[hc];simp[Op.operands,Call.operands])).trans hs) hi hn
 |B4 c p n t u e l i off cs k hc hp hn hi hl h0 ht he C O=>exact .B4 c p n t u e l i off cs k hc ((hr p (by rw[hc];simp[Op.operands,Call.operands])).trans hp) ((hr n (by rw[hc];simp[Op.operands,Call.operands])).trans hn) hi hl h0 ht he C O
 |D2 t hb ht hz=>exact .D2 t hb ht hz
 |EB t x d hb hx hd hs=>exact .EB t x d hb (by rw[hr x ct];exact hx) hd hs
 |E' t x lo hi hx ko oZ ht=>
  refine .E' t x lo hi ((hr x ct).trans hx) ?_ ?_ ht
  .cases lo with
   |none=>exact ko
   |some y=>simp[Option.map_some] at ko ⊢;rw[hr y ct];exact ko
  .cases hi with
   |none=>exact oZ
   |some y=>simp[Option.map_some] at oZ ⊢;rw[hr y ct];exact oZ
 |EC t x h c k k' hx hh hc ht=>exact .EC t x h c k k' ((hr x ct).trans hx) ((hr h ct).trans hh) ((hr c ct).trans hc) ht
 |ED t x h c i off n cs e k k' hx hi hh hc ht hl=>exact .ED t x h c i off n cs e k k' ((hr x ct).trans hx) hi ((hr h ct).trans hh) ((hr c ct).trans hc) ht hl
 |B5 b op t p x fO hx ht=>exact .B5 b op t p x fO ((hr x ct).trans hx) ht
 |B6 b op t p x i off n cs e fO hx hi hn ht=>exact .B6 b op t p x i off n cs e fO ((hr x ct).trans hx) hi hn ht
 |mkIf t x v hx hv ht=>exact .mkIf t x v (by rw[hr x ct];exact hx) hv ht
 |EE x u t v hx hv ht ho hz=>exact .EE x u t v ((hr x ct).trans hx) hv ht ho hz
 |copy c x y t i off n k cs news p rd hc hx hi hy hp ht hk hl=>
  refine .copy c x y t i off n k cs news p rd hc ((hr x (by rw[hc];simp[Op.operands,Call.operands])).trans hx) hi ?_ hp ht hk hl;rw[hr y (by rw[hc];simp[Op.operands,Call.operands])];exact hy
 |Eh t a i u x T ha hi ht hg=>exact .Eh t a i u x T ((hr a ct).trans ha) hi ht hg
 |Bz t a y i u x T ha hi ht hg hy=>
  rw[<- hr y ct];exact .Bz t a y i u x T ((hr a ct).trans ha) hi ht hg (by rw[hr y ct];exact hy)
def fN.mem{m':Mem}{nx:Nat}(h:fN P ρ m nx o e)(hr:∀ i∈e.rd,m i≠none->m' i=m i):fN P ρ m' nx o e:=by
 cases h with
 |add t p x y a b hx hy h=>exact .add t p x y a b hx hy h
 |Ee src dst x l hx hs hd=>exact .Ee src dst x l hx hs hd
 |Eg src dst x l i off cs e hx hi hl hs hd=>exact .Eg src dst x l i off cs e hx ((hr i oS (by simp[hi])).trans hi) hl hs hd
 |rune src dst x k k' n hx hs hd h0 h1=>exact .rune src dst x k k' n hx hs hd h0 h1
 |cut t x h c es n k k' hx hh hc ht hn=>exact .cut t x h c es n k k' hx hh hc ht hn
 |BK c s x t es news n k p rd hc hs hx hp ht hn hk hz C hb=>
  refine .BK c s x t es news n k p rd hc hs ?_ hp ht hn hk hz C hb;revert hx;unfold kq;split
  .exact id
  .exact id
  .intro hx;split at hx
   .rename_i J;cases hx;rw[hr _ oS (by simp[J]),J]
   .cases hx
  .exact id
 |Bm c s x t u b hc hs hx ht hu C hb=>exact .Bm c s x t u b hc hs hx ht hu C hb
 |By c s x t u b i off n cs hc hs hx hi ht hu hf C hb=>exact .By c s x t u b i off n cs hc hs hx ((hr i oS (by simp[hi])).trans hi) ht hu hf C hb
 |B3 c x t i es hc hx hi ht=>exact .B3 c x t i es hc hx ((hr i oS (by simp[hi])).trans hi) ht
 |BL c s t i off n r hc hs hi hn=>exact .BL c s t i off n r hc hs ((hr i oS (by simp[hi])).trans hi) hn
 |B4 c p n t u e l i off cs k hc hp hn hi hl h0 ht he C O=>exact .B4 c p n t u e l i off cs k hc hp hn ((hr i oS (by simp[hi])).trans hi) hl h0 ht he C O
 |D2 t hb ht hz=>exact .D2 t hb ht hz
 |EB t x d hb hx hd hs=>exact .EB t x d hb hx hd hs
 |E' t x lo hi hx ko oZ ht=>exact .E' t x lo hi hx ko oZ ht
 |EC t x h c k k' hx hh hc ht=>exact .EC t x h c k k' hx hh hc ht
 |ED t x h c i off n cs e k k' hx hi hh hc ht hl=>exact .ED t x h c i off n cs e k k' hx ((hr i oS (by simp[hi])).trans hi) hh hc ht hl
 |B5 b op t p x fO hx ht=>exact .B5 b op t p x fO hx ht
 |B6 b op t p x i off n cs e fO hx hi hn ht=>exact .B6 b op t p x i off n cs e fO hx ((hr i oS (by simp[hi])).trans hi) hn ht
 |mkIf t x v hx hv ht=>exact .mkIf t x v hx hv ht
 |EE x u t v hx hv ht ho hz=>exact .EE x u t v hx hv ht ho hz
 |copy c x y t i off n k cs news p rd hc hx hi hy hp ht hk hl=>
  refine .copy c x y t i off n k cs news p rd hc hx ((hr i oS (by simp[hi])).trans hi) ?_ hp ht hk hl;revert hy;unfold kq;split
  .exact id
  .exact id
  .intro hx;split at hx
   .rename_i J;cases hx;rw[hr _ oS (by simp[J]),J]
   .cases hx
  .exact id
 |Eh t a i u x T ha hi ht hg=>exact .Eh t a i u x T ha ((hr i oS (by simp[hi])).trans hi) ht hg
 |Bz t a y i u x T ha hi ht hg hy=>exact .Bz t a y i u x T ha ((hr i oS (by simp[hi])).trans hi) ht hg hy
def fN.defer(h:fN P ρ m nx o e):∀ c,o≠ .defer c:=by cases h<;>simp
def fN.tidy(h:fN P ρ m nx o e):
 (∀ i∈e.bn.map (·.1),m i≠none\/(nx<=i/\i<nx+e.new))/\(de o=0->e.rd=[]/\e.bn=[])/\(de o=1->e.bn=[])/\(de o=3->e.rd=[]/\∀ i∈e.bn.map (·.1),nx<=i):=by
 cases h with
 |BK c s x t es news n k p rd hc hs hx hp ht hn hk hz C hb=>rw[hc];simp[de]
 |Bm c s x t u b hc hs hx ht hu C hb=>rw[hc];simp[de]
 |By c s x t u b i off n cs hc hs hx hi ht hu hf C hb=>rw[hc];simp[de,hi]
 |B3 c x t i es hc hx hi ht=>rw[hc];simp[de]
 |BL c s t i off n r hc hs hi hn=>rw[hc];simp[de]
 |B4 c p n t u e l i off cs k hc hp hn hi hl h0 ht he C J=>rw[hc];simp[de,hi]
 |Bz t a y i u x T ha hi ht hg hy=>simp[de,hi]
 |B5 b op t p x fO hx ht=>subst fO;cases b<;>simp[de]
 |B6 b op t p x i off n cs e fO hx hi hn ht=>subst fO;cases b<;>simp[de]
 |copy c x y t i off n k cs news p rd hc hx hi hy hp ht hk hl=>rw[hc];simp[de,hi]
 |_=>simp[de]
def T6(hm:aQ P F m β w){o:Oper}{env:Env}{a:Act}(hn:e.new=1->β nx=none)(hE:gq F β w env a)(ha:asks env o.op)(h:fN P (bS env o.op) m nx o.op e):a7 P F m nx β w e (execOp a.eval o):=by
 let⟨dst,op,type,pos,after,guard⟩:=o;simp only at ha h
 have hR:(∀ c x y,op≠ .pick c x y)->∀ x∈op.operands.toList,R F β w (bS env op x) (a.eval x):=λAN x hx=>by
  have h1:bS env op x=(opd env x).core:=by cases op<;>first|rfl|exact absurd rfl (AN _ _ _)
  have h2:(opd env x).ask:=by cases op<;>first|exact ha x hx|exact absurd rfl (AN _ _ _)
  rw[h1];exact(hE.opd x).zD _ h2
 have call:∀ (b:Builtin) (s x:Operand) (ts:Array TypeId) (q:Sem Next),op=.call { callee:=.builtin b,args:= #[s,x],argTypes:=ts }->(∀ cs,builtin b ts type cs #[a.eval s,a.eval x]=q)->a7 P F m nx β w e q->a7 P F m nx β w e (execOp a.eval ⟨dst,op,type,pos,after,guard⟩):=by
  intro b s x ts q ho hb hq;subst ho;let⟨n,v,w',β',h1,h2⟩:=hq;refine⟨n,v,w',β',?_,h2⟩;unfold execOp;simp only[resolve,Sem.run_bind,Sem.run_pure,Result.andThen_ok,invoke];have O:(#[s,x]:Array Operand).map a.eval= #[a.eval s,a.eval x]:=by simp
  rw[O,hb];exact h1
 have YF:∀ (b:Builtin) (s:Operand) (ts:Array TypeId) (q:Sem Next),op=.call { callee:=.builtin b,args:= #[s],argTypes:=ts }->(∀ cs,builtin b ts type cs #[a.eval s]=q)->a7 P F m nx β w e q->a7 P F m nx β w e (execOp a.eval ⟨dst,op,type,pos,after,guard⟩):=by
  intro b s ts q ho hb hq;subst ho;let⟨n,v,w',β',h1,h2⟩:=hq;refine⟨n,v,w',β',?_,h2⟩;unfold execOp;simp only[resolve,Sem.run_bind,Sem.run_pure,Result.andThen_ok,invoke];have O:(#[s]:Array Operand).map a.eval= #[a.eval s]:=by simp
  rw[O,hb];exact h1
 cases h with
 |add t p x y b c hx hy h=>
  have C:=hR oS x ct;have qy:=hR oS y ct;rw[hx] at C;rw[hy] at qy;let⟨O,_⟩:=C.cX;let⟨e2,_⟩:=qy.cX;unfold execOp;refine a7.val hm (v:=.string (b++c)) ?_ (.s _ rfl);simp only[O,e2,Sem.run_bind,xv .add t x y (.string b) (.string c) oS oS,Result.andThen_ok,binOp_string_add,run_string_add_sum w b c (by simp[maxLen] at h;omega),Sem.run_pure]
 |Ee src dst x l hx hs hd=>
  have C:=hR oS x ct;rw[hx] at C;exact adp hm C hs hd
 |Eg src dst x l i off cs e hx hi hl hs hd=>
  have C:=hR oS x ct;rw[hx] at C;exact adq hm C hi hl hs hd
 |rune src dst x k k' n hx hs hd h0 h1=>
  have C:=hR oS x ct;rw[hx] at C;exact aed hm C hs hd h0 h1
 |cut t x h c es n k k' hx hh hc ht U=>
  have C:=hR oS x ct;have qh:=hR oS h ct;have qc:=hR oS c ct;rw[hx] at C;rw[hh] at qh;rw[hc] at qc;exact af5 hm C qh qc ht U
 |BK c s x t es news n k p rd hc hs hx hp ht U hk hz iu hb=>
  have J:=hR oS s (by rw[hc];simp[Op.operands,Call.operands]);have C:=hR oS x (by rw[hc];simp[Op.operands,Call.operands]);rw[hs] at J;let⟨cc,dh,X⟩:=NE (ty:=type) hm C hx hp ht hz;exact call .append s x _ _ (by rw[hc]) (λ_=>rfl) ((F0 hm (hn rfl) dh X (ku ht).2 hz).2.1 es n J hk U iu hb)
 |Bm c s x t u b hc hs hx ht hu iu hb=>
  have J:=hR oS s (by rw[hc];simp[Op.operands,Call.operands]);have C:=hR oS x (by rw[hc];simp[Op.operands,Call.operands]);rw[hs] at J;rw[hx] at C;let⟨O,_⟩:=C.cX;apply call .append s x _ _ (by rw[hc]) (λ_=>rfl);rw[O];exact(F0 hm (hn rfl) (Xx b) (Wr (ty:=type) ht hu b) (ku ht.1).2 (by rw[ht.2.2];omega)).1 J iu hb
 |By c s x t u b i off n cs hc hs hx hi ht hu hf iu hb=>
  have J:=hR oS s (by rw[hc];simp[Op.operands,Call.operands]);have C:=hR oS x (by rw[hc];simp[Op.operands,Call.operands]);rw[hs] at J;rw[hx] at C;let⟨O,_⟩:=C.cX;apply call .append s x _ _ (by rw[hc]) (λ_=>rfl);rw[O];exact(F0 hm (hn rfl) (Xx b) (Wr (ty:=type) ht hu b) (ku ht.1).2 (by rw[ht.2.2];omega)).2.2 i off n cs J hi (by rw[ht.2.2];omega) iu hb
 |B3 c x t i es hc hx hi ht=>
  have C:=hR oS x (by rw[hc];simp[Op.operands,Call.operands]);rw[hx] at C;exact YF .len x _ _ (by rw[hc]) (λ_=>rfl) (aeg hm C hi ht)
 |BL c s t i off n r hc hs hi U=>
  have J:=hR oS s (by rw[hc];simp[Op.operands,Call.operands]);rw[hs] at J;exact YF .unsafeSliceData s _ _ (by rw[hc]) (λ_=>rfl) (adr hm J hi U)
 |B4 c p n t u e l i off cs k hc hp U hi hl h0 ht he iu kY=>
  have qp:=hR oS p (by rw[hc];simp[Op.operands,Call.operands]);have qn:=hR oS n (by rw[hc];simp[Op.operands,Call.operands]);rw[hp] at qp;rw[U] at qn;exact call .unsafeString p n _ _ (by rw[hc]) (λ_=>rfl) (aeh hm qp qn hi hl h0 ht he iu kY)
 |D2 t hb ht hz=>exact ac1 hm (hn rfl) ht hz
 |EB t x d hb hx hd hs=>exact aei hm (hn rfl) hx hd hs (hR oS x ct)
 |E' t x lo hi hx ko oZ ht=>
  have C:=hR oS x ct;rw[hx] at C;refine af7 (lo:=lo.map a.eval) (hi:=hi.map a.eval) hm C ko oZ ?_ ?_ ?_ ?_ ht
  .intro d hd;obtain⟨y,rfl,rfl⟩:=eg.1 hd;exact⟨_,rfl,hR oS y ct⟩
  .intro h;cases lo<;>first|rfl|cases h
  .intro d hd;obtain⟨y,rfl,rfl⟩:=eg.1 hd;exact⟨_,rfl,hR oS y ct⟩
  .intro h;cases hi<;>first|rfl|cases h
 |EC t x h c k k' hx hh hc ht=>
  have C:=hR oS x ct;have qh:=hR oS h ct;have qc:=hR oS c ct;rw[hx] at C;rw[hh] at qh;rw[hc] at qc;exact aee hm C qh qc ht
 |ED t x h c i off n cs e k k' hx hi hh hc ht hl=>
  have C:=hR oS x ct;have qh:=hR oS h ct;have qc:=hR oS c ct;rw[hx] at C;rw[hh] at qh;rw[hc] at qc;exact aef hm C hi qh qc ht hl
 |B5 b op t p x fO hx ht=>
  have C:=hR oS x ct;rw[hx] at C;have:=Us (nx:=nx) (pre:=True) (rd:=[]) (ox:=x) (oy:=.const (.slice none 0 0)) (a:=none) (l:=0) (c:=0) hm ht fO;show a7 P F m nx β w _ ((do eqGuard op t x (.const (.slice none 0 0)) (a.eval x) (.slice none 0 0);binOp op t (a.eval x) (.slice none 0 0))>>=λr=>Pure.pure (Next.value r));rw[C.Ah];exact this
 |B6 b op t p x i off n cs e fO hx hi U ht=>
  have C:=hR oS x ct;rw[hx] at C;show a7 P F m nx β w _ ((do eqGuard op t x (.const (.slice none 0 0)) (a.eval x) (.slice none 0 0);binOp op t (a.eval x) (.slice none 0 0))>>=λr=>Pure.pure (Next.value r));rcases C.xX hm hi with⟨_,_,h3,_⟩|⟨b',o,room,_,an,⟨h3,_⟩|⟨cap,hv,_⟩⟩
  .omega
  .omega
  .have:=Us (nx:=nx) (pre:=True) (rd:=[i]) (ox:=x) (oy:=.const (.slice none 0 0)) (a:=some ⟨b',o+off,none⟩) (l:=n) (c:=cap) hm ht fO;rw[hv];exact this
 |mkIf t x v hx hv ht=>exact aej hm hx hv ht (hR oS x ct)
 |EE x u t v hx hv ht ho hz=>
  have C:=hR oS x ct;rw[hx] at C;exact aek hm C hv ht ho hz
 |copy c x y t i off n k cs news p rd hc hx hi hy hp ht hk hl=>
  have C:=hR oS x (by rw[hc];simp[Op.operands,Call.operands]);have qy:=hR oS y (by rw[hc];simp[Op.operands,Call.operands]);rw[hx] at C;exact call .copy x y _ _ (by rw[hc]) (λ_=>rfl) (ael hm C hi qy hy hp ht hk hl)
 |Eh t b i u x T hb hi ht hg=>
  have qa:=hR oS b ct;rw[hb] at qa;exact adt hm qa hi ht hg
 |Bz t b y i u x T hb hi ht hg hy=>
  have qa:=hR oS b ct;have qy:=hR oS y ct;rw[hb] at qa;exact ac2 hm qa qy hi ht hg hy
end
def Ws{P:Program}{ops:Array Oper}{o:Oper}{st:St}(U:gY ops o st true)(ha:asks st.env o.op)(h:fN P (bS st.env o.op) st.mem st.nx o.op e):bI.Ok P ops o st ⟨e.val,e.bn,e.rd,e.new⟩:=by
 intro F β w a m env N he C hm hr hn X r n QX K O;have J:=zu he;refine Wt (m:=m) (nx:=st.nx) (β:=β) (F:=F) h.defer (U F β w a env he C) (T6 hm (λh1=>hn st.nx (bK _) (by simp[h1])) C (by rw[Bi J];exact ha) ?_) O;exact(h.env (zG J)).mem hr
end
section
structure cy(P:Program)(F:Nat->Prop)(st:St)(β:aN)(w:World)(a:Act):Prop where
 e:gq F β w st.env a
 m:aQ P F st.mem β w
 n:∀ i,st.nx<=i->β i=none
structure eM(N:Nat)(β:aN)(w:World)(a:Act)(st':St)(β':aN)(w':World)(a':Act):Prop where
 step:Step β w β' w'
 le:N<=st'.nx
 grow:∀ i,i<N->β i=none->β' i=none
 size:a'.tmps.size=a.tmps.size
 defers:a'.defers=a.defers
variable{N:Nat}
def eM.trans{β β₁ β₂:aN}{w X w₂:World}{a O U:Act}{C J:St}(h:eM N β w a C β₁ X O)(k:eM C.nx β₁ X O J β₂ w₂ U):eM N β w a J β₂ w₂ U:=
 ⟨h.step.trans k.step,Nat.le_trans h.le k.le,λi hi hn=>k.grow i (Nat.lt_of_lt_of_le hi h.le) (h.grow i hi hn),k.size.trans h.size,k.defers.trans h.defers⟩
def eM.refl(st:St)(β:aN)(w:World)(a:Act):eM st.nx β w a st β w a:=⟨Step.refl β w,bK _,λ_ _ h=>h,rfl,rfl⟩
def dV(P:Program)(F:Nat->Prop)(N:Nat)(β:aN)(w:World)(a:Act)(Q:Exit->St->Prop)(e:Exit)(a':Act)(w':World):Prop:=
 ∃ st' β',Q e st'/\cy P F st' β' w' a'/\eM N β w a st' β' w' a'
variable{Y:iz}{dr:Bool}{args:List D}{l:Nat}{cf:List (Nat×Nat)}{Q:Exit->St->Prop}
section
variable{P:Program}{F:Nat->Prop}{ops:Array Oper}{o:Oper}{st:St}{β:aN}{w:World}{a:Act}
def xD(a:Act)(d:Option Nat)(v:Value):(a.put d v).tmps.size=a.tmps.size:=by
 cases d<;>simp[Act.put]
def put_defers(a:Act)(d:Option Nat)(v:Value):(a.put d v).defers=a.defers:=by
 cases d<;>rfl
def adj(st:St)(d:Option Nat)(x:D):(st.put d x).env=(match d with|some t=>up st.env t x|none=>st.env):=by
 cases d<;>rfl
def TZ(st:St)(d:Option Nat)(x:D):(st.put d x).mem=st.mem:=by cases d<;>rfl
def Dq(st:St)(d:Option Nat)(x:D):(st.put d x).nx=st.nx:=by cases d<;>rfl
def cy.put{st':St}{β':aN}{w':World}{d:Option Nat}{x:D}{v:Value}(he:gq F β' w' st'.env a)(hd:∀ t,d=some t->t<a.tmps.size)(hv:R F β' w' x v)(hm:aQ P F st'.mem β' w')(hn:∀ i,st'.nx<=i->β' i=none):
 cy P F (st'.put d x) β' w' (a.put d v):=by
 refine⟨?_,by rw[TZ];exact hm,by rw[Dq];exact hn⟩;cases d with
 |none=>exact he
 |some t=>exact he.put (some t) x v hv hd
def Jf{p:bI}(hp:p.Ok P ops o st)(hs:cy P F st β w a)(hd:∀ t,o.dst=some t->t<a.tmps.size)(r:Option Nat)(n:Nat)(QX:Exit->Act->World->Prop){K:Act->World->Prop}
 (O:∀ β' a' w',cy P F (St.put ⟨st.env,cT st.mem p.bn,st.nx+p.new⟩ o.dst p.val) β' w' a'->eM st.nx β w a (St.put ⟨st.env,cT st.mem p.bn,st.nx+p.new⟩ o.dst p.val) β' w' a'->K a' w'):
 ju r n P ops QX o K a w:=by
 refine hp F β w a st.mem st.env st.nx (λ_ _=>rfl) hs.e hs.m (λ_ _ _=>rfl) (λi h _=>hs.n i h) hs.n r n QX K λv w' β' h1 h2 C J=>?_;refine O β' _ w' (cy.put (st':=⟨st.env,cT st.mem p.bn,st.nx+p.new⟩) (hs.e.step C) hd h1 h2 λi hi=>J i (hs.n i (by simp only at hi;omega)) (.inr hi)) ⟨C,by rw[Dq];simp,λi hi hb=>J i hb (.inl hi),xD _ _ _,put_defers _ _ _⟩
def agC{K:St->List Nat->List Nat->Prop}(h:mh P Y ops dr o st K):
 (∃ p:bI,p.Ok P ops o st/\p.pE (de o.op) st/\K (St.put ⟨st.env,cT st.mem p.bn,st.nx+p.new⟩ o.dst p.val) p.rd p.wr)\/
 (dr=false/\∃ f args,gY ops o st true/\asks st.env o.op/\eB (bS st.env o.op) o.op=some (f,args)/\iZ P f args st.mem st.nx λr m nx=>K (St.put ⟨st.env,m,nx⟩ o.dst r) [] [])\/
 (dr=false/\∃ l args,gY ops o st true/\asks st.env o.op/\qV (bS st.env o.op) o.op=some (l,args)/\Y l args st.mem st.nx λr m nx=>K (St.put ⟨st.env,m,nx⟩ o.dst r) [] []):=by
 have akk:∀ {x},eB (bS st.env o.op) o.op=some x->de o.op=2:=λ{x} hx=>by
  cases ho:o.op with
  |call c=>
   rw[ho] at hx;simp only[eB] at hx;split at hx
   .rename_i f hf;unfold de;split<;>first|rfl|(rename_i h1;cases h1;cases hf)|skip
    all_goals simp_all
   .cases hx
  |_=>rw[ho] at hx;simp[eB] at hx
 have J:∀ {x} (p:bI),eB (bS st.env o.op) o.op=some x->(∀ i∈p.wr,st.mem i≠none\/(st.nx<=i/\i<st.nx+p.new))->p.pE (de o.op) st:=λ{x} p hx C=>by
  have:=akk hx;exact⟨C,oG,oG,oG⟩
 have call:∀ {f args},gY ops o st true->asks st.env o.op->eB (bS st.env o.op) o.op=some (f,args)->zK P dr st f args (λr m nx rd wr=>K (St.put ⟨st.env,m,nx⟩ o.dst r) rd wr)->
  (∃ p:bI,p.Ok P ops o st/\p.pE (de o.op) st/\K (St.put ⟨st.env,cT st.mem p.bn,st.nx+p.new⟩ o.dst p.val) p.rd p.wr)\/
  (dr=false/\∃ f args,gY ops o st true/\asks st.env o.op/\eB (bS st.env o.op) o.op=some (f,args)/\iZ P f args st.mem st.nx λr m nx=>K (St.put ⟨st.env,m,nx⟩ o.dst r) [] [])\/
  (dr=false/\∃ l args,gY ops o st true/\asks st.env o.op/\qV (bS st.env o.op) o.op=some (l,args)/\Y l args st.mem st.nx λr m nx=>K (St.put ⟨st.env,m,nx⟩ o.dst r) [] []):=λ{f args} C ha hc hk=>by
  rcases hk with⟨r,h1,h2⟩|⟨kK,bP,r,h1,h2,O,h4⟩|⟨es,n,t,h1,h2⟩|⟨h1,h2⟩|⟨r,bn,bP,h1,h2,O⟩|⟨es,n,t,bn,bP,h1,h2,O,h4⟩
  .exact .inl ⟨⟨r,[],[],0⟩,OL C ha hc h1,J _ hc (by simp[bI.wr]),h2⟩
  .exact .inl ⟨⟨r,[],bP,0⟩,Wz C ha hc h1 h2 O,J _ hc (by simp[bI.wr]),h4⟩
  .exact .inl ⟨⟨.rs st.nx 0 n,[(st.nx,some (.cells es t))],[],1⟩,XA C ha hc h1,J _ hc (by simp[bI.wr]),h2⟩
  .exact .inr (.inl ⟨h1,f,args,C,ha,hc,h2⟩)
  .exact .inl ⟨⟨r,bn,bP,0⟩,ai5 C ha hc h1,J _ hc λi hi=>.inl (h2 i hi).2,O⟩
  .refine .inl ⟨⟨.rs st.nx 0 n,bn++[(st.nx,some (.cells es t))],bP,1⟩,age C ha hc h1 h2 O,J _ hc λi hi=>?_,?_⟩
   .simp only[bI.wr,map_append,mem_append,map_cons,map_nil,mem_singleton] at hi;rcases hi with hi|rfl
    .obtain⟨x,hx,rfl⟩:=mem_map.1 hi;let⟨r,hr,_⟩:=h1.1 _ (h1.2.1 x hx).1;exact .inl (by simp[hr])
    .exact .inr ⟨bK _,Nat.lt_succ_self _⟩
   .show K _ _ (bI.wr _);rw[Ob,bI.wr,map_append];exact h4
 have op:∀ {e:ez},gY ops o st true->asks st.env o.op->bh P o.op (bS st.env o.op) st.mem st.nx=some e->e.pre->K (St.put ⟨st.env,cT st.mem e.bn,st.nx+e.new⟩ o.dst e.val) e.rd (e.bn.map (·.1))->
  (∃ p:bI,p.Ok P ops o st/\p.pE (de o.op) st/\K (St.put ⟨st.env,cT st.mem p.bn,st.nx+p.new⟩ o.dst p.val) p.rd p.wr):=λ{e} C ha h hp hk=>by
  let⟨t1,t2,t3,t4⟩:=Oa h;exact⟨⟨e.val,e.bn,e.rd,e.new⟩,Pk C ha h hp,⟨t1,t2,t3,t4⟩,hk⟩
 have skip:∀ {d:D},gY ops o st false->(∀ F β w,R F β w d undef)->K (st.put o.dst d) [] []->
  (∃ p:bI,p.Ok P ops o st/\p.pE (de o.op) st/\K (St.put ⟨st.env,cT st.mem p.bn,st.nx+p.new⟩ o.dst p.val) p.rd p.wr):=λ{d} C hd hk=>
  ⟨⟨d,[],[],0⟩,JO C d hd,⟨by simp[bI.wr],λ_=>⟨rfl,rfl⟩,λ_=>rfl,λ_=>⟨rfl,by simp[bI.wr]⟩⟩,hk⟩
 have U:∀ (F:Nat->Prop) β w,R F β w yh undef:=λF β w=>.dq false .u undef oS λ_=>rfl;unfold mh at h;split at h
 .rename_i hg;have C:=Bc (ops:=ops) (st:=st) hg;let⟨ha,h⟩:=h;split at h
  .rename_i f args hc;exact call C ha hc h
  .split at h
   .rename_i l args hy;exact .inr (.inr ⟨h.1,l,args,C,ha,hy,h.2⟩)
   .split at h
    .rename_i e he;exact .inl (op C ha he h.1 h.2)
    .exact h.elim
 .rename_i j b hg;split at h
  .exact h.elim
  .rename_i c hc;simp only[Option.bind_eq_some_iff] at hc;let⟨t,⟨oj,yT,Sw⟩,hc⟩:=hc;have C:gY ops o st c:=Nl hg (t:=t) (by simp[yT,Sw]) hc;split at h
   .rename_i f args kM;rcases h with⟨r,h1,h2⟩|⟨h1,h2⟩
    .refine .inl ⟨⟨.dq c r,[],[],0⟩,Xz C λvg=>?_,J _ kM (by simp[bI.wr]),h2⟩;subst vg;exact OL C (h1 rfl).1 kM (h1 rfl).2
    .cases c with
     |true=>exact call C (h1 rfl).1 kM (h1 rfl).2
     |false=>exact .inl (skip C U (h2 rfl))
   .split at h
    .rename_i l args hy;cases c with
     |true=>exact .inr (.inr ⟨(h.1 rfl).2.1,l,args,C,(h.1 rfl).1,hy,(h.1 rfl).2.2⟩)
     |false=>exact .inl (skip C U (h.2 rfl))
    .split at h
     .rename_i e he;split at h
      .rename_i X;simp only[aH,isEmpty_iff,beq_iff_eq] at X;let⟨h1,h2⟩:=h;let⟨t1,t2,t3,t4⟩:=Oa he;refine .inl ⟨⟨.dq c e.val,[],e.rd,0⟩,Xz C λvg=>?_,⟨by simp[bI.wr],λhk=>⟨(t2 hk).1,rfl⟩,λ_=>rfl,λhk=>⟨(t4 hk).1,by simp[bI.wr]⟩⟩,h2⟩;subst vg;have:=Pk C (h1 rfl).1 he (h1 rfl).2;rw[X.1,X.2] at this;exact this
      .let⟨h1,h2⟩:=h;cases c with
       |true=>exact .inl (op C (h1 rfl).1 he (h1 rfl).2.1 (h1 rfl).2.2)
       |false=>exact .inl (skip C U (h2 rfl))
     .obtain⟨rfl,h⟩:=h;exact .inl (skip C U h)
def adA(h:goes ops o st):gY ops o st true:=by
 rcases h with hg|⟨j,b,hg,hc⟩
 .exact Bc hg
 .simp[Option.bind_eq_some_iff] at hc;let⟨t,⟨O,J,C⟩,hc⟩:=hc;exact Nl hg (t:=t) (by simp[J,C]) hc
def Nz{K:St->List Nat->List Nat->Prop}(h:mh P Y ops dr o st K\/ZO P ops o st K):
 (∃ p:bI,p.Ok P ops o st/\p.pE (de o.op) st/\K (St.put ⟨st.env,cT st.mem p.bn,st.nx+p.new⟩ o.dst p.val) p.rd p.wr)\/
 (dr=false/\∃ f args,gY ops o st true/\asks st.env o.op/\eB (bS st.env o.op) o.op=some (f,args)/\iZ P f args st.mem st.nx λr m nx=>K (St.put ⟨st.env,m,nx⟩ o.dst r) [] [])\/
 (dr=false/\∃ l args,gY ops o st true/\asks st.env o.op/\qV (bS st.env o.op) o.op=some (l,args)/\Y l args st.mem st.nx λr m nx=>K (St.put ⟨st.env,m,nx⟩ o.dst r) [] []):=by
 rcases h with h|⟨h1,h2,e,C,J⟩
 .exact agC h
 .let⟨t1,t2,t3,t4⟩:=C.tidy;exact .inl ⟨⟨e.val,e.bn,e.rd,e.new⟩,Ws (adA h1) h2 C,⟨t1,t2,t3,t4⟩,J⟩
def T0{f:FuncId}{dV:D->Mem->Nat->Prop}(hw:gY ops o st true)(ha:asks st.env o.op)(hc:eB (bS st.env o.op) o.op=some (f,args))(h:iZ P f args st.mem st.nx dV)
 (hs:cy P F st β w a) (hd:∀ t,o.dst=some t->t<a.tmps.size) (r:Option Nat) (n:Nat) (QX:Exit->Act->World->Prop) {K:Act->World->Prop}
 (hK:∀ d m' aw β' a' w',dV d m' aw->cy P F (St.put ⟨st.env,m',aw⟩ o.dst d) β' w' a'->eM st.nx β w a (St.put ⟨st.env,m',aw⟩ o.dst d) β' w' a'->K a' w'):
 ju r n P ops QX o K a w:=by
 refine DB (hw F β w a st.env (λ_ _=>rfl) hs.e) hs.e ha hc h.1 λvs hR=>?_;refine(h.2 F β w vs hs.m hs.n hR).mono λe w' hp=>?_;let⟨v,d,m',aw,β',h1,h2,J,O,U,C,X,h8⟩:=hp;refine⟨v,h1,hK d m' aw β' _ w' h2 (cy.put (st':=⟨st.env,m',aw⟩) (hs.e.step C) hd U J O) ⟨C,by rw[Dq];exact X,h8,xD _ _ _,put_defers _ _ _⟩⟩
def ada{env:Env}(J:gq F β w env a)(ha:asks env o.op)(h:qV (bS env o.op) o.op=some (l,args)):
 ∃ vs,(execOp a.eval o).run P w=(Instr.yield l vs).run P w/\Rs F β w args vs:=by
 let⟨dst,op,type,pos,after,guard⟩:=o;simp only at ha h;cases op with
 |call c=>
  simp[qV] at h;have hR:∀ x∈(Op.call c).operands.toList,R F β w (bS env (.call c) x) (a.eval x):=λx hx=>(J.opd x).zD _ (ha x hx);split at h
  .rename_i g hg;split at h
   .rename_i X hk;simp[aY,cO] at h;obtain⟨rfl,rfl⟩:=h;have h1:=hR g (by simp[Op.operands,Call.operands,hg]);rw[hk] at h1;let⟨q1,O⟩:=DY (F:=F) (β:=β) (w:=w) (xs:=c.args) (ρ:=bS env (.call c)) (a:=a) (λx hx=>hR x (by simp[Op.operands,Call.operands];exact .inr hx));generalize hv:a.eval g=v at h1;cases h1 with
    |fn _ _ _ us vs hl mb hh U=>
    have C:us=[]:=eq_nil_of_length_eq_zero (tn hl);have e2:vs=[]:=eq_nil_of_length_eq_zero (tn mb);subst C e2;refine⟨c.args.map a.eval,?_,oS,λj d u hd hu=>O j d u hd (tn hu)⟩;unfold execOp;simp only[resolve,hg,Sem.run_bind,hv,Deferred.ofValue,Sem.run_pure,Result.andThen_ok,invoke];simp
   .cases h
  .cases h
 |_=>simp[qV] at h
def acP{op:Op}{ρ:Operand->D}{x:Nat×List D}(h:qV ρ op=some x):∀ c,op≠ .defer c:=λc hc=>by
 subst hc;simp[qV] at h
def adB{dV:D->Mem->Nat->Prop}(hw:gY ops o st true)(ha:asks st.env o.op)(hc:qV (bS st.env o.op) o.op=some (l,args)){O:aN}{J:World}(h:sk P F O J l args st.mem st.nx dV)(hb:Step O J β w)
 (hs:cy P F st β w a) (hd:∀ t,o.dst=some t->t<a.tmps.size) (r:Option Nat) (n:Nat) (QX:Exit->Act->World->Prop) {K:Act->World->Prop}
 (hK:∀ d m' aw β' a' w',dV d m' aw->cy P F (St.put ⟨st.env,m',aw⟩ o.dst d) β' w' a'->eM st.nx β w a (St.put ⟨st.env,m',aw⟩ o.dst d) β' w' a'->K a' w'):
 ju r n P ops QX o K a w:=by
 let⟨vs,h1,h2⟩:=ada (P:=P) hs.e ha hc;let⟨f,tmps,assign,body,h3,h4⟩:=h β w vs hb hs.m hs.n h2;rw[ju,hw F β w a st.env (λ_ _=>rfl) hs.e,bi rfl];refine⟨λ_ _=>trivial,?_⟩;rw[BC (acP hc),h1,h3];refine⟨oS,?_⟩;have h5:=h4 (n - 1);refine RoundIn.mono (F:=Fe r) (show RoundIn (Fe r) (n - 1) P l f tmps assign body w _ from h5) λe w' hp=>?_;obtain⟨v,d,m',aw,β',rfl,U,X,g4,g5,C,g7,g8⟩:=hp;exact hK d m' aw β' _ w' U (cy.put (st':=⟨st.env,m',aw⟩) (hs.e.step C) hd g5 X g4) ⟨C,by rw[Dq];exact g7,g8,xD _ _ _,put_defers _ _ _⟩
def nP(N:Nat)(ops:Array Oper):Bool:=ops.toList.all λo=>match o.dst with
 |some t=>Nat.blt t N
 |none=>true
def vC(h:nP N ops=true){i:Nat}{o:Oper}(hi:ops[i]? =some o):∀ t,o.dst=some t->t<N:=λt ht=>by
 have h1:=cm.1 h o (by simpa using Array.mem_of_getElem? hi);rw[ht] at h1;simpa using h1
def agD{r:Option Nat}{n:Nat}{β₀:aN}{w₀:World}{a₀:Act}(hY:∀ l args m nx dV,Y l args m nx dV->sk P F β₀ w₀ l args m nx dV)(al:nP a₀.tmps.size ops=true):
 ∀ (rest:List Oper) (k:Nat) (st:St) (tr:o0) (β:aN) (w:World) (a:Act),ops.toList.drop k=rest->aJ P Y ops false cf Q rest st tr->cy P F st β w a->eM N β₀ w₀ a₀ st β w a->
  wpOpsIn (Fe r) n P ops (dV P F N β₀ w₀ a₀ Q) (range' k rest.length) a w:=by
 intro rest
 induction rest with
 |nil=>
  intro k st tr β w a hk h hs C;simp[length_nil,range'_zero,wpOpsIn];exact⟨st,β,h.2,hs,C⟩
 |cons o rest ih=>
  intro k st tr β w a hk h hs C
  have ho:ops[k]? =some o:=by
   have:(ops.toList.drop k)[0]? =some o:=by rw[hk];rfl
   simpa using this
  have kV:ops.toList.drop (k+1)=rest:=by
   have:(ops.toList.drop k).drop 1=rest:=by rw[hk];rfl
   simpa[drop_drop,Nat.add_comm] using this
  simp[length_cons,range'_succ,wpOpsIn_cons];apply Dg ho;have hd:∀ t,o.dst=some t->t<a.tmps.size:=λt ht=>by rw[C.size];exact vC al ho t ht
  simp[aJ] at h;rcases Nz h with⟨p,h1,_,U⟩|⟨_,f,args,h1,h2,U,X⟩|⟨_,l,args,h1,h2,U,X⟩
  .exact Jf h1 hs hd r n _ λβ' a' w' J O=>ih (k+1) _ _ β' w' a' kV U J (C.trans O)
  .exact T0 h1 h2 U X hs hd r n _ λd m' aw β' a' w' hp J O=>ih (k+1) _ _ β' w' a' kV hp J (C.trans O)
  .exact adB h1 h2 U (hY _ _ _ _ _ X) C.step hs hd r n _ λd m' aw β' a' w' hp J O=>ih (k+1) _ _ β' w' a' kV hp J (C.trans O)
def acU{r:Option Nat}{n id:Nat}{N:Nat}{β₀:aN}{w₀:World}{a₀:Act}(J:∀ l args m nx dV,Y l args m nx dV->sk P F β₀ w₀ l args m nx dV)(al:nP a₀.tmps.size ops=true)
 (h:aJ P Y ops false cf Q ops.toList st []) (hs:cy P F st β w a) (C:eM N β₀ w₀ a₀ st β w a):(Code.region id ops false).wpIn (Fe r) n P (dV P F N β₀ w₀ a₀ Q) a w:=by
 apply wpIn_region;have:=agD J (r:=r) (n:=n) al ops.toList 0 st [] β w a oS h hs C;rw[range_eq_range'];simpa using this
end
end
section
def Dp(C:List Nat)(i:Nat):∀ (l:List Edge) (s:Nat),(l.foldl (λs e=>if Region.binds .any e then s||| 2 ^ e.on||| C.getD e.on 0 else s) s).testBit i=true->
 s.testBit i=true\/∃ e∈l,Region.binds .any e=true/\(i=e.on\/(C.getD e.on 0).testBit i=true)
 |[],s,h=>.inl h
 |e::l,s,h=>by
  rw[foldl_cons] at h;rcases Dp C i l _ h with h1|⟨J,O,hb⟩
  .by_cases hb:Region.binds .any e=true
   .rw[bi hb] at h1;simp[Nat.testBit_or,Bool.or_eq_true,Nat.testBit_two_pow,decide_eq_true_eq] at h1;rcases h1 with(h1|h1)|h1
    .exact .inl h1
    .exact .inr ⟨e,oS,hb,.inl h1.symm⟩
    .exact .inr ⟨e,oS,hb,.inr h1⟩
   .rw[ai hb] at h1;exact .inl h1
  .exact .inr ⟨J,by simp[O],hb⟩
def MT:∀ (os:List Oper) (C:List Nat),∃ l,eO os C=C++l/\l.length=os.length
 |[],C=>⟨[],by simp[eO],rfl⟩
 |o::os,C=>by
  let⟨l,h1,h2⟩:=MT os (C++[Ei C o]);exact⟨Ei C o::l,by simp[eO,h1],by simp[h2]⟩
def Dx:∀ (os:List Oper) (C:List Nat) (k:Nat) (o:Oper),os[k]? =some o->(eO os C).getD (C.length+k) 0=Ei ((eO os C).take (C.length+k)) o
 |[],C,k,o,h=>by simp at h
 |x::os,C,0,o,h=>by
  simp[getElem?_cons_zero,aY] at h;subst h;let⟨l,h1,h2⟩:=MT os (C++[Ei C x]);simp[eO,h1]
 |x::os,C,k+1,o,h=>by
  have:=Dx os (C++[Ei C x]) k o (tn h);simp[length_append,length_cons,length_nil] at this;have e:C.length+(k+1)=C.length+(0+1)+k:=by omega
  rw[e];exact this
def Dl{ops:Array Oper}{S:Nat->Bool}(O:∀ j,S j=true->∀ o,ops[j]? =some o->∀ e∈o.after,Region.binds .any e=true->S e.on=true)(i:Nat):
 ∀ j,S j=true->((eO ops.toList []).getD j 0).testBit i=true->S i=true:=by
 intro j
 induction j using Nat.strongRecOn with
 |_ j ih=>
  intro hj hb;cases ho:ops[j]? with
  |none=>
   let⟨l,h1,h2⟩:=MT ops.toList []
   have:(eO ops.toList []).getD j 0=0:=by
    rw[h1];simp[nil_append];have:ops.size<=j:=tn ho
    simp[getElem?_eq_none (show l.length<=j by simpa[h2] using this)]
   rw[this] at hb;simp at hb
  |some o=>
   have h1:=Dx ops.toList [] j o (tn ho);simp only[length_nil,Nat.zero_add] at h1;rw[h1] at hb;rcases Dp _ i _ 0 hb with h2|⟨e,he,U,h2⟩
   .simp at h2
   .have C:=O j hj o ho e (tn he) U;rcases h2 with rfl|h2
    .exact C
    .rcases Nat.lt_or_ge e.on j with al|J
     .apply ih e.on al C;simpa[getElem?_take,al] using h2
     .simp[getElem?_take,Nat.not_lt.2 J] at h2
def I1{bs:List Nat}{n i j:Nat}(C:i<j)(hj:j<n)(h:(bs.getD j 0).testBit i=false):(i,j)∈unordered bs n:=by
 rw[unordered,mem_flatMap];exact⟨j,by simp[hj],by rw[mem_map];exact⟨i,by simp only[mem_filter,mem_range];exact⟨C,by rw[h];rfl⟩,rfl⟩⟩
variable{us:List (Nat×Option Row)}
def Dy:∀ {m:Mem} {i:Nat},i∉us.map (·.1)->cT m us i=m i:=by
 induction us with
 |nil=>intro m i _;rfl
 |cons u us ih=>
  intro m i h;let⟨j,r⟩:=u;simp only[map_cons,mem_cons,not_or] at h;simp only[cT];rw[ih h.2,aW _ _ h.1]
def Ng:∀ {m m':Mem} {i:Nat},(i∈us.map (·.1)\/m i=m' i)->cT m us i=cT m' us i:=by
 induction us with
 |nil=>intro m m' i h;simpa[cT] using h
 |cons u us ih=>
  intro m m' i h;let⟨j,r⟩:=u;simp[cT];apply ih;by_cases hj:i=j
  .right;subst hj;rw[ap,ap]
  .rcases h with h|h
   .left;simp only[map_cons,mem_cons] at h;exact h.resolve_left hj
   .right;rw[aW _ _ hj,aW _ _ hj,h]
def ad8{a b:List (Nat×Option Row)}(m:Mem)(h:∀ i∈a.map (·.1),i∉b.map (·.1)):cT (cT m a) b=cT (cT m b) a:=by
 funext i;by_cases ha:i∈a.map (·.1)
 .rw[Dy (h i ha)];exact Ng (.inl ha)
 .rw[Dy (m:=cT m b) ha];exact Ng (.inr (Dy ha))
def sG(env:Env)(d:Option Nat)(v:D):Env:=match d with
 |some t=>up env t v
 |none=>env
variable{d:Option Nat}{v:D}{t:Nat}
def Gn{env:Env}(h:d≠some t):sG env d v t=env t:=by
 cases d with
 |none=>rfl
 |some u=>exact aW _ _ λe=>h (by rw[e])
def Nh{env env':Env}(h:d=some t\/env t=env' t):sG env d v t=sG env' d v t:=by
 cases d with
 |none=>simpa[sG] using h
 |some u=>
  by_cases hu:t=u
  .subst hu;simp[sG,ap]
  .simp[sG,aW _ _ hu];rcases h with h|h
   .simp[aY] at h;exact absurd h.symm hu
   .exact h
def ad9(env:Env){d':Option Nat}(v C:D)(h:∀ t,d=some t->d'≠some t):sG (sG env d v) d' C=sG (sG env d' C) d v:=by
 funext t;by_cases hd:d=some t
 .rw[Gn (h t hd)];exact Nh (.inl hd)
 .rw[Gn (env:=sG env d' C) hd];exact Nh (.inr (Gn hd))
def yS(st:St)(o:Oper)(p:bI):St:=St.put ⟨st.env,cT st.mem p.bn,st.nx+p.new⟩ o.dst p.val
def OC(st:St)(o:Oper)(p:bI):(yS st o p).env=sG st.env o.dst p.val:=by rw[yS,adj];rfl
def JK(st:St)(o:Oper)(p:bI):(yS st o p).mem=cT st.mem p.bn:=TZ _ _ _
def qW(st:St)(o:Oper)(p:bI):(yS st o p).nx=st.nx+p.new:=Dq _ _ _
section
variable(oo:Nat->Oper)(pp:Nat->bI)(st₀:St)
def eA(S:Nat->Bool):Nat->St
 |0=>st₀
 |k+1=>if S k then yS (eA S k) (oo k) (pp k) else eA S k
def b7:Nat->St:=eA oo pp st₀ λ_=>true
def nt(k:Nat):b7 oo pp st₀ (k+1)=yS (b7 oo pp st₀ k) (oo k) (pp k):=rfl
def Pa(k:Nat):∀ n,k<=n->eA oo pp st₀ (λj=>decide (j<k)) n=b7 oo pp st₀ k:=by
 have below:∀ n,n<=k->eA oo pp st₀ (λj=>decide (j<k)) n=b7 oo pp st₀ n:=by
  intro n
  induction n with
  |zero=>intro _;rfl
  |succ n ih=>
   intro h;have hd:decide (n<k)=true:=by simp;omega
   rw[nt, <- ih oG];simp[eA,hd,if_true]
 intro n h
 induction n with
 |zero=>
  have:k=0:=by omega
  subst this;rfl
 |succ n ih=>
  rcases Nat.lt_or_ge n k with al|C
  .have:k=n+1:=by omega
   subst this;exact below (n+1) (bK _)
  .have hd:decide (n<k)=false:=tn C
   simp[eA,hd,Bool.false_eq_true,if_false];exact ih C
def OD{S T:Nat->Bool}:∀ n,(∀ j,j<n->S j≠T j->(oo j).dst≠some t)->(eA oo pp st₀ S n).env t=(eA oo pp st₀ T n).env t:=by
 intro n
 induction n with
 |zero=>intro _;rfl
 |succ n ih=>
  intro h;have h1:=ih λj hj=>h j oG;have h2:=h n oG;simp[eA];cases C:S n<;>cases J:T n<;>simp[Bool.false_eq_true,if_false,if_true,OC]
  .exact h1
  .rw[Gn (h2 (by simp[C,J]))];exact h1
  .rw[Gn (h2 (by simp[C,J]))];exact h1
  .exact Nh (.inr h1)
def OE{S T:Nat->Bool}{i:Nat}:∀ n,(∀ j,j<n->S j≠T j->i∉(pp j).wr)->(eA oo pp st₀ S n).mem i=(eA oo pp st₀ T n).mem i:=by
 intro n
 induction n with
 |zero=>intro _;rfl
 |succ n ih=>
  intro h;have h1:=ih λj hj=>h j oG;have h2:=h n oG;simp[eA];cases C:S n<;>cases J:T n<;>simp[Bool.false_eq_true,if_false,if_true,JK]
  .exact h1
  .rw[Dy (h2 (by simp[C,J]))];exact h1
  .rw[Dy (h2 (by simp[C,J]))];exact h1
  .exact Ng (.inr h1)
def Dz{S T:Nat->Bool}:∀ n,(∀ j,j<n->S j=T j)->eA oo pp st₀ S n=eA oo pp st₀ T n:=by
 intro n
 induction n with
 |zero=>intro _;rfl
 |succ n ih=>
  intro h;simp[eA,ih λj hj=>h j oG,h n oG]
def Wi{S:Nat->Bool}{k:Nat}(hk:S k=false):∀ n,k<n->(∀ j,k<j->j<n->S j=true->(∀ t,(oo k).dst=some t->(oo j).dst≠some t)/\∀ i∈(pp k).wr,i∉(pp j).wr)->
 (eA oo pp st₀ (λj=>if j=k then true else S j) n).env=sG (eA oo pp st₀ S n).env (oo k).dst (pp k).val/\
 (eA oo pp st₀ (λj=>if j=k then true else S j) n).mem=cT (eA oo pp st₀ S n).mem (pp k).bn:=by
 intro n
 induction n with
 |zero=>intro h;omega
 |succ n ih=>
  intro nX h;rcases Nat.lt_or_ge k n with al|X
  .let⟨h1,h2⟩:=ih al λj hj rG=>h j hj oG;have C:n≠k:=by omega
   simp only[eA,ai C];cases U:S n with
   |false=>simp only[Bool.false_eq_true,if_false];exact⟨h1,h2⟩
   |true=>
    let⟨J,O⟩:=h n al oG U;simp only[if_true,OC,JK,h1,h2];exact⟨ad9 _ _ _ J,ad8 _ O⟩
  .have:n=k:=by omega
   subst this;have e:eA oo pp st₀ (λj=>if j=n then true else S j) n=eA oo pp st₀ S n:=Dz oo pp st₀ n λj hj=>by simp only[ai (show j≠n by omega)]
   simp only[eA,if_true,hk,Bool.false_eq_true,if_false,OC,JK,e];exact⟨aa,aa⟩
def iU{j k:Nat}(h:j<=k):(b7 oo pp st₀ j).nx<=(b7 oo pp st₀ k).nx:=by
 induction k with
 |zero=>have:j=0:=by omega
        subst this;exact bK _
 |succ k ih=>
  rcases Nat.lt_or_ge j (k+1) with al|C
  .rw[nt,qW];have:=ih oG;omega
  .have:j=k+1:=by omega
   subst this;exact bK _
end
end
section
variable{Y:iz}{st:St}{r:Option Nat}{n:Nat}{β:aN}{w:World}{a:Act}
section
variable{P:Program}{ops:Array Oper}{cf:List (Nat×Nat)}{Q:Exit->St->Prop}
def GB(P:Program)(ops:Array Oper)(cf:List (Nat×Nat))(Q:Exit->St->Prop):List Oper->List bI->St->o0->Prop
 |[],[],st,tr=>(∀ q∈cf,mT tr q.1 q.2)/\Q .normal st
 |o::os,p::ps,st,tr=>p.Ok P ops o st/\p.pE (de o.op) st/\GB P ops cf Q os ps (yS st o p) (tr++[(p.rd,p.wr)])
 |_,_,_,_=>False
def Ni:∀ (os:List Oper) (st:St) (tr:o0),aJ P Y ops true cf Q os st tr->∃ ps,GB P ops cf Q os ps st tr
 |[],st,tr,h=>⟨[],h⟩
 |o::os,st,tr,h=>by
  simp[aJ] at h;rcases Nz h with⟨p,h1,h2,C⟩|⟨h1,_⟩|⟨h1,_⟩
  .let⟨ps,J⟩:=Ni os _ _ C;exact⟨p::ps,h1,h2,J⟩
  .cases h1
  .cases h1
instance:Inhabited bI:=⟨⟨.u,[],[],0⟩⟩
def F7(oo:Nat->Oper)(pp:Nat->bI)(st₀:St):∀ (os:List Oper) (ps:List bI) (k:Nat) (tr:o0),(∀ j o,os[j]? =some o->oo (k+j)=o)->(∀ j p,ps[j]? =some p->pp (k+j)=p)->tr.length=k->
 (∀ j,j<k->tr.getD j ([],[])=((pp j).rd,(pp j).wr))->GB P ops cf Q os ps (b7 oo pp st₀ k) tr->
 (∀ j,k<=j->j<k+os.length->(pp j).Ok P ops (oo j) (b7 oo pp st₀ j)/\(pp j).pE (de (oo j).op) (b7 oo pp st₀ j))/\Q .normal (b7 oo pp st₀ (k+os.length))/\
 ∃ C:o0,(∀ j,j<k+os.length->C.getD j ([],[])=((pp j).rd,(pp j).wr))/\∀ q∈cf,mT C q.1 q.2
 |[],[],k,tr,ho,hp,hl,ht,h=>⟨λj h1 h2=>absurd h2 oP,h.2,tr,ht,h.1⟩
 |[],_::_,_,_,_,_,_,_,h=>h.elim
 |_::_,[],_,_,_,_,_,_,h=>h.elim
 |o::os,p::ps,k,tr,ho,hp,hl,ht,h=>by
  have O:oo k=o:=ho 0 o rfl;have e2:pp k=p:=hp 0 p rfl;let⟨h1,h2,X⟩:=h;have J:GB P ops cf Q os ps (b7 oo pp st₀ (k+1)) (tr++[(p.rd,p.wr)]):=by rw[nt,O,e2];exact X
  let⟨a1,a2,C,a3,a4⟩:=F7 oo pp st₀ os ps (k+1) _ (λj x hj=>by have:=ho (j+1) x (tn hj);rw[<- this];congr 1;omega)
   (λj x hj=>by have:=hp (j+1) x (tn hj);rw[<- this];congr 1;omega) (by simp[hl])
   (λj hj=>by
    rcases Nat.lt_or_ge j k with al|U
    .rw[<- ht j al];simp[getElem?_append_left (show j<tr.length by omega)]
    .have:j=k:=by omega
     subst this;simp[<- hl,getElem?_append_right,e2]
     rw[hl,e2];exact⟨rfl,rfl⟩) J
  have e3:k+(o::os).length=k+1+os.length:=by simp;omega
  rw[e3];refine⟨λj hj wM=>?_,a2,C,a3,a4⟩;rcases Nat.lt_or_ge k j with al|U
  .exact a1 j al wM
  .have:j=k:=by omega
   subst this;rw[O,e2];exact⟨h1,h2⟩
def Kr(P:Program)(F:Nat->Prop)(ops:Array Oper)(Q:Exit->St->Prop)(N₀:Nat)(β₀:aN)(w₀:World)(a₀:Act)(r:Option Nat)(n:Nat)(o:Oper)(st:St):Prop:=
 ∀ (β:aN) (w:World) (a:Act),cy P F st β w a->eM N₀ β₀ w₀ a₀ st β w a->∀ K:Act->World->Prop,(∀ a' w',dV P F N₀ β₀ w₀ a₀ Q .normal a' w'->K a' w')->ju r n P ops (dV P F N₀ β₀ w₀ a₀ Q) o K a w
def Tu(h:bV ops=some cf):(∀ (i:Nat) (o:Oper),ops[i]? =some o->∀ e∈o.after,Region.binds .any e=true->e.on<i)/\
 (∀ q∈unordered (eO ops.toList []) ops.size,Je ops q.1 q.2=true)/\(∀ q∈unordered (eO ops.toList []) ops.size,JJ ops q.1 q.2=true->q∈cf):=by
 unfold bV at h;simp only at h;split at h
 .rename_i hc;simp only[aH] at hc;cases h;refine⟨λi o hi e he hb=>?_,λq hq=>cm.1 hc.2 q hq,λq hq hm=>by rw[mem_filter];exact⟨hq,hm⟩⟩
  have h1:=cm.1 hc.1 (o,i) (by
   rw[mem_zipIdx_iff_getElem?]
   simpa using hi)
  have h2:=cm.1 h1 e (tn he);simpa[hb] using h2
 .cases h
variable{F:Nat->Prop}{N₀:Nat}{β₀:aN}{w₀:World}{a₀:Act}
structure DS(P:Program)(F:Nat->Prop)(oo:Nat->Oper)(pp:Nat->bI)(st₀:St)(n:Nat)(N₀:Nat)(β₀:aN)(w₀:World)(a₀:Act)(S:Nat->Bool)(β:aN)(w:World)(a:Act):Prop where
 e:gq F β w (eA oo pp st₀ S n).env a
 m:aQ P F (eA oo pp st₀ S n).mem β w
 free:∀ i,st₀.nx<=i->(∀ k,k<n->S k=true->¬ ((b7 oo pp st₀ k).nx<=i/\i<(b7 oo pp st₀ k).nx+(pp k).new))->β i=none
 step:Step β₀ w₀ β w
 grow:∀ i,i<N₀->β₀ i=none->β i=none
 size:a.tmps.size=a₀.tmps.size
 defers:a.defers=a₀.defers
def afX{oo:Nat->Oper}{pp:Nat->bI}{st₀:St}(hi:bV ops=some cf)(Cq:∀ j o,ops[j]? =some o->oo j=o)(al:nP a₀.tmps.size ops=true)
 (nl:Nat) (mf:nl<=ops.size) (c6:∀ j,j<nl->(pp j).Ok P ops (oo j) (b7 oo pp st₀ j)/\(pp j).pE (de (oo j).op) (b7 oo pp st₀ j)) (hQ:nl=ops.size->Q .normal (b7 oo pp st₀ ops.size))
 (hL:nl<ops.size->nl+1=ops.size/\(∀ i,i<nl->((eO ops.toList []).getD nl 0).testBit i=true)/\∀ r n,Kr P F ops Q N₀ β₀ w₀ a₀ r n (oo nl) (b7 oo pp st₀ nl))
 (bB:∃ rH:o0,(∀ j,j<nl->rH.getD j ([],[])=((pp j).rd,(pp j).wr))/\∀ q∈cf,mT rH q.1 q.2)
 (me:∀ i,st₀.nx<=i->st₀.mem i=none) (hN:N₀<=st₀.nx) (r:Option Nat) (n:Nat):
 ∀ (fu:Nat) (listed:Array Bool) (β:aN) (w:World) (a:Act),listed.size=ops.size->listed.toList.countP (λb=> !b)<=fu->(nl<ops.size->listed.getD nl false=false)->
  (∀ j,listed.getD j false=true->∀ o,ops[j]? =some o->∀ e∈o.after,Region.binds .any e=true->listed.getD e.on false=true)->
  DS P F oo pp st₀ ops.size N₀ β₀ w₀ a₀ (λj=>listed.getD j false) β w a->
  wpAnyIn (Fe r) n P .any ops (dV P F N₀ β₀ w₀ a₀ Q) fu listed a w:=by
 let⟨uR,R3,Cl⟩:=Tu hi;let⟨rH,ZP,anD⟩:=bB
 have hmT:∀ k,k<=nl->∀ i,(b7 oo pp st₀ k).nx<=i->(b7 oo pp st₀ k).mem i=none:=by
  intro k
  induction k with
  |zero=>intro _ i hi;exact me i hi
  |succ k ih=>
   intro hk i hi;rw[nt,qW] at hi;rw[nt,JK];have h1:=(c6 k oG).2.wr;rw[Dy,ih oG i oG];intro nS;rcases h1 i nS with h2|h2
   .exact h2 (ih oG i oG)
   .omega
 have uS:∀ i j,i<j->j<ops.size->((eO ops.toList []).getD j 0).testBit i=false->
  (∀ x∈(pp i).wr,x∉(pp j).wr)/\(∀ x∈(pp i).wr,x∈(pp j).rd->(b7 oo pp st₀ j).mem x=none)/\(∀ x∈(pp j).wr,x∈(pp i).rd->(b7 oo pp st₀ i).mem x=none):=by
  intro i j kp hj hb;have hu:=I1 kp hj hb
  have rG:j<nl:=by
   rcases Nat.lt_or_ge j nl with h|h
   .exact h
   .let⟨q1,q2,_⟩:=hL oG;have:j=nl:=by omega
    subst this;rw[q2 i kp] at hb;cases hb
  have Cr:ops[i]? =some (oo i):=by
   have:i<ops.size:=by omega
   rw[Cq i ops[i] (by simp[this])];simp[this]
  have yT:ops[j]? =some (oo j):=by
   rw[Cq j ops[j] (by simp[hj])];simp[hj]
  let⟨ti,t0i,t1i,t3i⟩:=(c6 i oG).2;let⟨tj,t0j,t1j,t3j⟩:=(c6 j rG).2;by_cases gQ:JJ ops i j=true
  .have h1:=anD _ (Cl _ hu gQ);unfold mT at h1;simp only[ZP i oG,ZP j rG] at h1;exact⟨λx hx=>(h1.1 x hx).2,λx hx hr=>absurd hr (h1.1 x hx).1,λx hx hr=>absurd hr (h1.2 x hx)⟩
  .simp only[JJ,Cr,yT,aH,Bool.or_eq_true,beq_iff_eq,bne_iff_ne,Bool.not_eq_true',ne_eq] at gQ
   have hk:∀ o:Oper,de o.op=0\/de o.op=1\/de o.op=2\/de o.op=3:=λo=>by
    unfold de;split<;>simp
   have nil:∀ p:bI,p.bn=[]->∀ x,x∉p.wr:=λp hp x hx=>by simp[bI.wr,hp] at hx
   rcases hk (oo j) with U|U|U|U
   .have:=t0j U;exact⟨λx _=>nil _ this.2 x,λx _ hr=>(by rw[this.1] at hr;cases hr),λx hx=>absurd hx (nil _ this.2 x)⟩
   .by_cases k0:de (oo i).op=0
    .have:=t0i k0;exact⟨λx hx=>absurd hx (nil _ this.2 x),λx hx=>absurd hx (nil _ this.2 x),λx _ hr=>by rw[this.1] at hr;cases hr⟩
    .have k1:de (oo i).op=1:=by
      rcases hk (oo i) with h|h|h|h
      .exact absurd h k0
      .exact h
      .exact absurd ⟨⟨.inl U,oG⟩,by simp[h]⟩ gQ
      .exact absurd ⟨⟨.inl U,oG⟩,by simp[h]⟩ gQ
     exact⟨λx hx=>absurd hx (nil _ (t1i k1) x),λx hx=>absurd hx (nil _ (t1i k1) x),λx hx=>absurd hx (nil _ (t1j U) x)⟩
   .by_cases k0:de (oo i).op=0
    .have:=t0i k0;exact⟨λx hx=>absurd hx (nil _ this.2 x),λx hx=>absurd hx (nil _ this.2 x),λx _ hr=>by rw[this.1] at hr;cases hr⟩
    .exact absurd ⟨⟨.inr U,oG⟩,by simp[U]⟩ gQ
   .have eh:=iU oo pp st₀ (show i+1<=j by omega);rw[nt,qW] at eh;let⟨h1,h2⟩:=t3j U
    have hwi:∀ x∈(pp i).wr,x<(b7 oo pp st₀ j).nx:=λx hx=>by
     rcases ti x hx with h|h
     .rcases Nat.lt_or_ge x (b7 oo pp st₀ i).nx with h'|h'
      .omega
      .exact absurd (hmT i oG x h') h
     .omega
    refine⟨λx hx hxj=>?_,λx _ hr=>(by rw[h1] at hr;cases hr),λx hx _=>hmT i oG x ?_⟩
    .have:=hwi x hx;have:=h2 x hxj;omega
    .have:=h2 x hx;omega
 have QV:∀ i j,i<j->j<ops.size->((eO ops.toList []).getD j 0).testBit i=false->(oo i).apart ops (oo j)=true:=by
  intro i j kp hj hb;have h1:=R3 _ (I1 kp hj hb)
  have Cr:ops[i]? =some (oo i):=by
   have:i<ops.size:=by omega
   rw[Cq i ops[i] (by simp[this])];simp[this]
  have yT:ops[j]? =some (oo j):=by
   rw[Cq j ops[j] (by simp[hj])];simp[hj]
  simpa[Je,Cr,yT] using h1
 have ng:∀ listed:Array Bool,listed.size=ops.size->Region.ready .any ops listed=[]->∀ k,k<ops.size->listed.getD k false=true:=by
  intro listed bZ hr k
  induction k using Nat.strongRecOn with
  |_ k ih=>
   intro hk;cases hl:listed.getD k false with
   |true=>rfl
   |false=>
    exfalso
    have:k∈Region.ready .any ops listed:=by
     rw[mem_ready];refine⟨?_,ops[k],by simp[hk],λe he hb=>?_⟩
     .have kV:k<listed.size:=by omega
      simpa[kV] using hl
     .have h1:=uR k ops[k] (by simp[hk]) e he hb;exact ih e.on h1 oG
    rw[hr] at this;cases this
 have done:∀ (listed:Array Bool) (β:aN) (w:World) (a:Act),listed.size=ops.size->(nl<ops.size->listed.getD nl false=false)->DS P F oo pp st₀ ops.size N₀ β₀ w₀ a₀ (λj=>listed.getD j false) β w a->Region.ready .any ops listed=[]->
  dV P F N₀ β₀ w₀ a₀ Q .normal a w:=by
  intro listed β w a bZ kX C hr
  have uT:nl=ops.size:=by
   rcases Nat.lt_or_ge nl ops.size with h|h
   .have h1:=kX h;rw[ng listed bZ hr nl h] at h1;cases h1
   .omega
  have hQ:=hQ uT;have e:eA oo pp st₀ (λj=>listed.getD j false) ops.size=b7 oo pp st₀ ops.size:=Dz oo pp st₀ _ λj hj=>ng listed bZ hr j hj;have h1:=C.e;have h2:=C.m;rw[e] at h1 h2;refine⟨b7 oo pp st₀ ops.size,β,hQ,⟨h1,h2,λi hi=>C.free i ?_ λk hk _ h=>?_⟩,⟨C.step,?_,C.grow,C.size,C.defers⟩⟩
  .exact Nat.le_trans (iU oo pp st₀ (Nat.zero_le _)) hi
  .have:=iU oo pp st₀ (show k+1<=ops.size by omega);rw[nt,qW] at this;omega
  .exact Nat.le_trans hN (iU oo pp st₀ (Nat.zero_le _))
 intro fu
 induction fu with
 |zero=>
  intro listed β w a bZ hc kX dh C
  have hr:Region.ready .any ops listed=[]:=by
   cases kY:Region.ready .any ops listed with
   |nil=>rfl
   |cons x xs=>
    exfalso;have hx:x∈Region.ready .any ops listed:=by rw[kY];simp
    rw[mem_ready] at hx;let⟨h1,o,ho,_⟩:=hx;have tN:x<ops.size:=(Array.getElem?_eq_some_iff.1 ho).1;have sM:x<listed.size:=by omega
    have:listed[x]=false:=by simpa[sM] using h1
    have h2:0<listed.toList.countP (λb=> !b):=countP_pos_iff.2 ⟨listed[x],oS,by simp[this]⟩;omega
  exact⟨hr,done listed β w a bZ kX C hr⟩
 |succ fu ih=>
  intro listed β w a bZ hc kX dh C;refine⟨done listed β w a bZ kX C,λk hk=>?_⟩;rw[mem_ready] at hk;let⟨yU,o,ho,wy⟩:=hk;have nX:k<ops.size:=(Array.getElem?_eq_some_iff.1 ho).1;have lM:k<listed.size:=by omega
  have Cs:listed[k]=false:=by simpa[lM] using yU
  have sP:listed.getD k false=false:=by simp[lM,Cs]
  have eo:oo k=o:=Cq k o ho;by_cases ZQ:k=nl
  ·
    subst ZQ;let⟨q1,q2,q3⟩:=hL nX
    have cb:∀ j,j<k->listed.getD j false=true:=by
     intro j hj;have hb:=q2 j hj;have h1:=Dx ops.toList [] k o (tn ho);simp only[length_nil,Nat.zero_add] at h1;rw[h1] at hb;rcases Dp _ j _ 0 hb with h2|⟨e,he,kD,h2⟩
     .simp at h2
     .have np:=wy e (tn he) kD;rcases h2 with rfl|h2
      .exact np
      .have al:=uR k o ho e (tn he) kD;have J:((eO ops.toList []).getD e.on 0).testBit j=true:=by simpa[getElem?_take,al] using h2
       exact Dl (S:=λj=>listed.getD j false) dh j e.on np J
    have yV:eA oo pp st₀ (λj=>listed.getD j false) ops.size=b7 oo pp st₀ k:=by
     rw[<- Pa oo pp st₀ k ops.size oG];refine Dz oo pp st₀ _ λj hj=>?_;rcases Nat.lt_or_ge j k with h|h
     .simp[cb j h,h]
     .have:j=k:=by omega
      subst this;simp[sP]
    apply Dg ho;rw[<- eo];have h1:=C.e;have h2:=C.m;rw[yV] at h1 h2;refine q3 r n β w a ⟨h1,h2,λi hi=>C.free i ?_ λj hj hS h=>?_⟩ ⟨C.step,?_,C.grow,C.size,C.defers⟩ _ λa' w' hp=>?_
    .exact Nat.le_trans (iU oo pp st₀ (Nat.zero_le _)) hi
    .rcases Nat.lt_or_ge j k with al|bJ
     .have:=iU oo pp st₀ (show j+1<=k by omega);rw[nt,qW] at this;omega
     .have:j=k:=by omega
      subst this;simp only[sP] at hS;cases hS
    .exact Nat.le_trans hN (iU oo pp st₀ (Nat.zero_le _))
    .have hr:Region.ready .any ops (listed.setIfInBounds k true)=[]:=by
      cases kY:Region.ready .any ops (listed.setIfInBounds k true) with
      |nil=>rfl
      |cons x xs=>
       exfalso;have hx:x∈Region.ready .any ops (listed.setIfInBounds k true):=by rw[kY];simp
       rw[mem_ready] at hx;let⟨X,o',uU,_⟩:=hx;have tN:x<ops.size:=(Array.getElem?_eq_some_iff.1 uU).1;by_cases H':x=k
       .subst H';simp[lM] at X
       .have J:=cb x oG;rw[getD_set_ne true (Ne.symm H')] at X;have Fa:x<listed.size:=by omega
        simp[Fa] at X J;rw[X] at J;cases J
     cases fu with
     |zero=>exact⟨hr,hp⟩
     |succ fu=>exact⟨λ_=>hp,λi hi=>by rw[hr] at hi;cases hi⟩
  have AJ:k<nl:=by
   rcases Nat.lt_or_ge k nl with h|h
   .exact h
   .have:=(hL oG).1;omega
  let⟨Ia,as9⟩:=c6 k AJ
  have EF:∀ j,j<k->listed.getD j false=false->((eO ops.toList []).getD k 0).testBit j=false:=by
   intro j uV hj;cases hb:((eO ops.toList []).getD k 0).testBit j with
   |false=>rfl
   |true=>
    exfalso;have h1:=Dx ops.toList [] k o (tn ho);simp only[length_nil,Nat.zero_add] at h1;rw[h1] at hb;rcases Dp _ j _ 0 hb with h2|⟨e,he,kD,h2⟩
    .simp at h2
    .have np:=wy e (tn he) kD;rcases h2 with rfl|h2
     .rw[hj] at np;cases np
     .have al:=uR k o ho e (tn he) kD;have J:((eO ops.toList []).getD e.on 0).testBit j=true:=by simpa[getElem?_take,al] using h2
      have:=Dl (S:=λj=>listed.getD j false) dh j e.on np J;rw[hj] at this;cases this
  have uA:∀ j,k<j->listed.getD j false=true->((eO ops.toList []).getD j 0).testBit k=false:=by
   intro j gB hj;cases hb:((eO ops.toList []).getD j 0).testBit k with
   |false=>rfl
   |true=>
    exfalso;have:=Dl (S:=λj=>listed.getD j false) dh k j hj hb;rw[sP] at this;cases this
  have Ej:∀ j,j<ops.size->listed.getD j false≠decide (j<k)->(j<k/\listed.getD j false=false)\/(k<j/\listed.getD j false=true):=by
   intro j hj O;rcases Nat.lt_trichotomy j k with h|h|h
   .left;refine⟨h,?_⟩;simpa[h] using O
   .subst h;simp[sP] at O
   .right;refine⟨h,?_⟩;have:¬ j<k:=by omega
    simpa[this] using O
  have yV:=Pa oo pp st₀ k ops.size oG;apply Dg ho;rw[<- eo];refine Ia F β w a (eA oo pp st₀ (λj=>listed.getD j false) ops.size).mem (eA oo pp st₀ (λj=>listed.getD j false) ops.size).env (b7 oo pp st₀ ops.size).nx ?_ C.e C.m ?_ ?_ ?_ r n _ _ ?_
  .intro t ht;rw[<- yV];refine OD oo pp st₀ _ λj hj O=>?_;rcases Ej j hj O with⟨h1,h2⟩|⟨h1,h2⟩
   .have:=(Oper.apart_spec (QV j k h1 nX (EF j h1 h2))).1;exact λhd=>this t hd ht
   .have:=(Oper.apart_spec (QV k j h1 hj (uA j h1 h2))).2.2;exact λhd=>this t hd ht
  .intro i hi O;rw[<- yV] at O ⊢;refine OE oo pp st₀ _ λj hj B8 hw=>?_;rw[yV] at O;rcases Ej j hj B8 with⟨h1,h2⟩|⟨h1,h2⟩
   .exact O ((uS j k h1 nX (EF j h1 h2)).2.1 i hw hi)
   .exact O ((uS k j h1 hj (uA j h1 h2)).2.2 i hw hi)
  .intro i h1 h2;refine C.free i (Nat.le_trans (iU oo pp st₀ (Nat.zero_le _)) h1) λj hj hS J=>?_;rcases Nat.lt_trichotomy j k with h|h|h
   .have:=iU oo pp st₀ (show j+1<=k by omega);rw[nt,qW] at this;omega
   .subst h;simp only[sP] at hS;cases hS
   .have:=iU oo pp st₀ (show k+1<=j by omega);rw[nt,qW] at this;omega
  .intro i hi;refine C.free i (Nat.le_trans (iU oo pp st₀ (Nat.zero_le _)) hi) λj hj _ J=>?_;have:=iU oo pp st₀ (show j+1<=ops.size by omega);rw[nt,qW] at this;omega
  .intro v w' β' X g2 g3 g4
   have Fb:(λj=>(listed.setIfInBounds k true).getD j false)=(λj=>if j=k then true else listed.getD j false):=by
    funext j;by_cases hj:j=k
    .subst hj;simp[lM]
    .rw[ai hj,getD_set_ne false (Ne.symm hj)]
   let⟨ae,am⟩:=Wi oo pp st₀ (S:=λj=>listed.getD j false) (k:=k) sP ops.size nX λj gB hj Ct=>
    ⟨(Oper.apart_spec (QV k j gB hj (uA j gB Ct))).2.1,(uS k j gB hj (uA j gB Ct)).1⟩
   refine ih _ β' w' _ (tn bZ) ?_ (λh=>by rw[getD_set_ne false (λe=>ZQ e)];exact kX h) ?_ ?_
   .have:(listed.setIfInBounds k true).toList=listed.toList.set k true:=by simp
    rw[this,countP_set (tn lM)];have h2:0<listed.toList.countP (λb=> !b):=countP_pos_iff.2 ⟨listed[k],oS,by simp[Cs]⟩;have J:listed.toList[k]'(tn lM)=false:=tn Cs
    rw[J];simp only[Bool.not_false,if_true,Bool.not_true,Bool.false_eq_true,if_false];omega
   .intro j hj o' uU e he hb;by_cases uV:j=k
    .subst uV;rw[ho] at uU;cases uU;exact getD_set_true (wy e he hb)
    .rw[getD_set_ne false (Ne.symm uV)] at hj;exact getD_set_true (dh j hj o' uU e he hb)
   .rw[Fb];refine⟨?_,by rw[am];exact g2,λi hi hn=>?_,C.step.trans g3,λi hi hn=>?_,by rw[xD];exact C.size,by rw[put_defers];exact C.defers⟩
    .rw[ae];have hd:∀ t,(oo k).dst=some t->t<a.tmps.size:=λt ht=>by rw[C.size];rw[eo] at ht;exact vC al ho t ht
     have he:=C.e.step g3;cases gO:(oo k).dst with
     |none=>exact he
     |some t=>exact he.put (some t) _ _ X (λu hu=>hd u (by rw[gO];exact hu))
    .have h1:=hn k nX oS;have h2:=C.free i hi λj hj Ct=>hn j hj (by by_cases uV:j=k<;>simp[uV,Ct]);exact g4 i h2 oG
    .exact g4 i (C.grow i hi hn) (.inl (Nat.lt_of_lt_of_le (Nat.lt_of_lt_of_le hi hN) (iU oo pp st₀ (Nat.zero_le _))))
def ahH{o:Oper}{i:Nat}(ho:ops[i]? =some o)(al:nP a₀.tmps.size ops=true)(h:aJ P nk ops false [] Q [o] st []):Kr P F ops Q N₀ β₀ w₀ a₀ r n o st:=by
 intro β w a hs J K hK;have hd:∀ t,o.dst=some t->t<a.tmps.size:=λt ht=>by rw[J.size];exact vC al ho t ht
 simp only[aJ] at h;rcases Nz h with⟨p,h1,_,C⟩|⟨_,f,args,h1,h2,C,X⟩|⟨_,l,args,h1,h2,C,X⟩
 .exact Jf h1 hs hd r n _ λβ' a' w' O U=>hK _ _ ⟨_,β',C.2,O,J.trans U⟩
 .exact T0 h1 h2 C X hs hd r n _ λd m' aw β' a' w' hp O U=>hK _ _ ⟨_,β',hp.2,O,J.trans U⟩
 .exact X.elim
def Nj(h:BM ops=true):0<ops.size/\∀ i,i<ops.size - 1->((eO ops.toList []).getD (ops.size - 1) 0).testBit i=true:=by
 unfold BM at h;simp[aH,cm,mem_range] at h;exact⟨tn h.1,h.2⟩
def NA{id nl:Nat}{ps:List bI}(lZ:P.follows .mixedOrders=true)(hi:bV ops=some cf)(al:nP a₀.tmps.size ops=true)(mf:nl<=ops.size)
 (c6:∀ j,j<nl->(ps.getD j default).Ok P ops (ops.toList.getD j default) (b7 (λj=>ops.toList.getD j default) (λj=>ps.getD j default) st j)/\(ps.getD j default).pE (de (ops.toList.getD j default).op) (b7 (λj=>ops.toList.getD j default) (λj=>ps.getD j default) st j))
 (hQ:nl=ops.size->Q .normal (b7 (λj=>ops.toList.getD j default) (λj=>ps.getD j default) st ops.size))
 (hL:nl<ops.size->nl+1=ops.size/\(∀ i,i<nl->((eO ops.toList []).getD nl 0).testBit i=true)/\∀ r n,Kr P F ops Q N₀ β₀ w₀ a₀ r n (ops.toList.getD nl default) (b7 (λj=>ops.toList.getD j default) (λj=>ps.getD j default) st nl))
 (X:∃ O:o0,(∀ j,j<nl->O.getD j ([],[])=((ps.getD j default).rd,(ps.getD j default).wr))/\∀ q∈cf,mT O q.1 q.2)
 (hs:cy P F st β w a) (C:eM N₀ β₀ w₀ a₀ st β w a):(Code.region id ops true).wpIn (Fe r) n P (dV P F N₀ β₀ w₀ a₀ Q) a w:=by
 apply wpIn_region_any lZ
 have J:eA (λj=>ops.toList.getD j default) (λj=>ps.getD j default) st (λj=>(Array.replicate ops.size false).getD j false) ops.size=st:=by
  have:∀ n,eA (λj=>ops.toList.getD j default) (λj=>ps.getD j default) st (λj=>(Array.replicate ops.size false).getD j false) n=st:=by
   intro n
   induction n with
   |zero=>rfl
   |succ n ih=>
    have:(Array.replicate ops.size false).getD n false=false:=by simp[Array.getD_eq_getD_getElem?,Array.getElem?_replicate];split<;>rfl
    simp only[eA,this,Bool.false_eq_true,if_false];exact ih
  exact this _
 have U:Step β w β { w with drawn:=w.drawn+1 }:=⟨bK _,λ_ _ h=>⟨rfl,h⟩,λ_ _ h=>.inl h,⟨rfl,rfl⟩,λ_ _ _ _=>pV rfl⟩
 refine afX (st₀:=st) (oo:=λj=>ops.toList.getD j default) (pp:=λj=>ps.getD j default) hi (λj o hj=>by simp[hj]) al nl mf c6 hQ hL X (λi hi=>?_) C.le r n ops.size _ β _ a oS ?_ (λh=>?_) ?_ ?_
 .cases hm:st.mem i with
  |none=>rfl
  |some row=>
   let⟨p,hp,_⟩:=hs.m.row i row hm;rw[hs.n i hi] at hp;cases hp
 .simpa using countP_le_length (p:=λb=> !b) (l:=(Array.replicate ops.size false).toList)
 .simp[Array.getD_eq_getD_getElem?,Array.getElem?_replicate];split<;>rfl
 .intro j hj;exfalso;have:(Array.replicate ops.size false).getD j false=false:=by simp[Array.getD_eq_getD_getElem?,Array.getElem?_replicate];split<;>rfl
  rw[this] at hj;cases hj
 .refine⟨?_,?_,λi hi _=>hs.n i hi,C.step.trans U,C.grow,C.size,C.defers⟩
  .rw[J];exact hs.e.step U
  .rw[J];exact hs.m.ext (bK _) λ_ _=>rfl
def acV{id:Nat}(lZ:P.follows .mixedOrders=true)(hi:bV ops=some cf)(al:nP a₀.tmps.size ops=true)
 (h:O' P Y ops cf Q st) (hs:cy P F st β w a) (cM:eM N₀ β₀ w₀ a₀ st β w a):(Code.region id ops true).wpIn (Fe r) n P (dV P F N₀ β₀ w₀ a₀ Q) a w:=by
 obtain⟨ps,nl,mf,c6,hQ,hL,bB⟩:∃ (ps:List bI) (nl:Nat),nl<=ops.size/\
  (∀ j,j<nl->(ps.getD j default).Ok P ops (ops.toList.getD j default) (b7 (λj=>ops.toList.getD j default) (λj=>ps.getD j default) st j)/\(ps.getD j default).pE (de (ops.toList.getD j default).op) (b7 (λj=>ops.toList.getD j default) (λj=>ps.getD j default) st j))/\
  (nl=ops.size->Q .normal (b7 (λj=>ops.toList.getD j default) (λj=>ps.getD j default) st ops.size))/\
  (nl<ops.size->nl+1=ops.size/\(∀ i,i<nl->((eO ops.toList []).getD nl 0).testBit i=true)/\∀ r n,Kr P F ops Q N₀ β₀ w₀ a₀ r n (ops.toList.getD nl default) (b7 (λj=>ops.toList.getD j default) (λj=>ps.getD j default) st nl))/\
  ∃ X:o0,(∀ j,j<nl->X.getD j ([],[])=((ps.getD j default).rd,(ps.getD j default).wr))/\∀ q∈cf,mT X q.1 q.2:=by
  rcases h with h|⟨hl,h⟩
  .let⟨ps,O⟩:=Ni _ _ _ h;have C:=F7 (λj=>ops.toList.getD j default) (λj=>ps.getD j default) st ops.toList ps 0 [] (λj o hj=>by simp at hj;simp[hj]) (λj p hj=>by simp[hj]) rfl oS O;simp only[Nat.zero_add,Array.length_toList] at C;let⟨h1,h2,J⟩:=C;exact⟨ps,ops.size,bK _,λj hj=>h1 j (Nat.zero_le _) hj,λ_=>h2,λh=>absurd h (Nat.lt_irrefl _),J⟩
  .let⟨hp,hb⟩:=Nj hl;let⟨ps,O⟩:=Ni _ _ _ h;have hlen:(ops.toList.take (ops.size - 1)).length=ops.size - 1:=by simp
   have C:=F7 (λj=>ops.toList.getD j default) (λj=>ps.getD j default) st (ops.toList.take (ops.size - 1)) ps 0 [] (λj o hj=>by
    have jm:j<ops.size - 1:=by rw[<- hlen];exact(bO.1 hj).1
    rw[getElem?_take,bi jm] at hj
    simp at hj;simp[hj]) (λj p hj=>by simp[hj]) rfl oS O
   rw[hlen] at C;simp only[Nat.zero_add] at C;let⟨h1,h2,J⟩:=C;refine⟨ps,ops.size - 1,oG,λj hj=>h1 j (Nat.zero_le _) hj,λh=>by omega,λ_=>⟨oG,hb,λr n=>?_⟩,J⟩
   have hx:ops[ops.size - 1]? =some (ops.toList.getD (ops.size - 1) default):=by
    have al:ops.size - 1<ops.size:=by omega
    simp[al]
   apply ahH hx al;have U:=h2.2
   have hd:ops.toList.drop (ops.size - 1)=[ops.toList.getD (ops.size - 1) default]:=by
    have al:ops.size - 1<ops.toList.length:=by simp;omega
    rw[drop_eq_getElem_cons al,drop_eq_nil_of_le oP];have mF:ops.size - 1<ops.size:=by omega
    simp[List.getD,mF]
   rw[hd] at U;exact U
 exact NA lZ hi al mf c6 hQ hL bB hs cM
end
end
section
variable{m:Mem}{i:Nat}{e:TypeId}{d:D}{v:Value}{r:Row}{p:Pl}{nx:Nat}{a:Act}{st st':St}{n:Nat}{Q:Exit->Act->World->Prop}{c:Code}{lo N:Nat}{β₁ β₂:aN}{l b:Nat}{F':Nat->Prop}{il n₀:Nat}{f:Nat->Option Nat}{mc:Mem}{nc j:Nat}{o:Obj}{k:List Item}{cs:List Frame}
section
variable{P:Program}{F:Nat->Prop}
def Vm{β β':aN}{w:World}(hm:aQ P F m β w){cs:List D}(an:m i=some (.cells cs e))(hβ:β'=up β i (some .dead))(h:R F β w d v):
 R F β' w (cZ i cs (P.cellsOf e) d) v:=by
 have hs:Step β w β' w:=by rw[hβ];exact Dn β w i
 have X:=h.step hs;let⟨p,hp,hr⟩:=hm.row i _ an;unfold cZ;split
 .rename_i j off n;split
  .rename_i U;subst U;cases h with
   |nW _ _ _ _ h1 _=>
    rw[h1] at hp;cases hp;cases hr
   |lH _ a h1=>
    rw[h1] at hp;cases hp;cases hr;simp[drop_nil,take_nil];exact .kf a 0
   |mK _ _ a b o len room sz h1=>
    simp[Nat.zero_mul,take_zero];exact .kf a 0
   |rs _ _ _ cap b o len room sz h1 hn eu h2 h3=>
    rw[h1] at hp;cases hp;have hblk:β j=some (.cells b o len room sz):=h1;let⟨O,hl,bZ,_⟩:=hr.rd;have J:=(O.drop off).take (n*P.cellsOf e);let⟨us,u1,u2⟩:=J;refine .sl _ n b (o+off) cap us (hm.nf j _ b hblk rfl) ?_ (hm.lt j _ b hblk rfl) hn eu u1 λk d hk=>(u2 k d hk).step hs;rw[hβ];intro k q hq;by_cases C:k=j
    .subst C;rw[ap] at hq;cases hq;simp[Pl.blk]
    .rw[aW _ _ C] at hq;exact hm.rW hblk rfl hq C
  .exact X
 .rename_i j off;split
  .rename_i U;subst U;cases h with
   |uN _ _ _ h1 _=>
    rw[h1] at hp;cases hp;cases hr
   |rp _ _ b o len room sz h1=>
    rw[h1] at hp;cases hp;let⟨O,hl,bZ,_⟩:=hr.rd;let⟨us,u1,u2⟩:=O.drop off;refine .pt _ b (o+off) us (hm.nf j _ b h1 rfl) ?_ (hm.lt j _ b h1 rfl) u1 λk d hk=>(u2 k d hk).step hs;rw[hβ];intro k q hq;by_cases C:k=j
    .subst C;rw[ap] at hq;cases hq;simp[Pl.blk]
    .rw[aW _ _ C] at hq;exact hm.rW h1 rfl hq C
  .exact X
 .exact X
def afU{β β':aN}{w:World}(hm:aQ P F m β w){es:List (Value×D)}(an:m i=some (.map es))(O:β'=up β i (some .dead))(h:R F β w d v):R F β' w (Ck i es d) v:=by
 have hs:Step β w β' w:=by rw[O];exact Dn β w i
 unfold Ck;split
 .rename_i j;split
  .rename_i U;subst U;obtain⟨r,ms,clock,h1,rfl,X,h4,h5,J⟩:=h.GR hm an;refine .im es r ms clock (hm.nf j _ r h1 rfl) ?_ X h4 h5 (λk x m hx hm=>(J k x m hx hm).1) λk x m hx hm=>(J k x m hx hm).2.step hs;rw[O];intro k q hq;by_cases C:k=j
   .subst C;rw[ap] at hq;cases hq;simp[Pl.blk]
   .rw[aW _ _ C] at hq;exact hm.rW h1 rfl hq C
  .exact h.step hs
 .exact h.step hs
section subst
variable{σ:D->D}{β β':aN}{w:World}
def Um(C:∀ {d v},R F β w d v->R F β' w (σ d) v)(h:R F β w d v):R F β' w (uv σ d) v:=by
 unfold uv;split
 .rename_i ds;obtain⟨vs,rfl,hl,hh⟩:=h.ua;refine .agg _ vs (tn hl) λk d v hd hv=>?_;simp[getElem?_map,eg] at hd;obtain⟨d',J,rfl⟩:=hd;exact C (hh k d' v J hv)
 .cases h with
  |dq c d _ h1 h2=>exact .dq _ _ v (λhc=>C (h1 hc)) h2
 .exact C h
def Dv(C:∀ {d v},R F β w d v->R F β' w (σ d) v)(h:R F β w d v):R F β' w (sub σ d) v:=by
 have map:∀ (ds:List D) (vs:List Value),(∀ (k:Nat) (d:D) (v:Value),ds[k]? =some d->vs[k]? =some v->R F β w d v)->
  ∀ (k:Nat) (d:D) (v:Value),(ds.map (uv σ))[k]? =some d->vs[k]? =some v->R F β' w d v:=λds vs hh k d v hd hv=>by
  simp[getElem?_map,eg] at hd;obtain⟨d',J,rfl⟩:=hd;exact Um C (hh k d' v J hv)
 unfold sub;split
 .rename_i ds;obtain⟨vs,rfl,hl,hh⟩:=h.DJ;exact .bu _ vs (tn hl) (map ds vs hh)
 .rename_i f fs ds;cases h with
  |fn _ _ _ us vs hl mb h1 h2=>exact .fn f _ _ us vs (tn hl) (tn mb) (map fs us h1) (map ds vs h2)
 .exact Um C h
def ahD(J:∀ {d v},R F β w d v->R F β' w (σ d) v)(hs:Step β w β' w)(h:dA P F β w r p):dA P F β' w (r.sub σ) p:=by
 cases h with
 |nil C=>exact .nil C
 |cells ds C b o room sz c hc hr hlen bZ hh=>
  have:=dA.cells (P:=P) (F:=F) (β:=β') (w:=w) (ds.map (Abs.sub σ)) C b o room sz c hc hr (tn hlen) bZ λk d hk=>by
   simp[getElem?_map,eg] at hk;obtain⟨d',U,rfl⟩:=hk;let⟨v,h1,h2,O⟩:=hh k d' U;exact⟨v,h1,Dv J h2,O⟩
  simpa[Row.sub] using this
 |map es r ms clock hc hl eY hh=>
  refine .map _ r ms clock hc (tn hl) (by simpa[map_map,Function.comp_def] using eY) λk x X hk uO=>?_;simp only[getElem?_map,eg] at hk;obtain⟨x',sM,rfl⟩:=hk;let⟨h1,h2⟩:=hh k x' X sM uO;exact⟨h1,Dv J h2⟩
 |raw r o hc=>exact .raw r o hc
 |bs u x T b v hc bZ hx h1=>exact .bs u _ T b v hc bZ (Dv J hx) h1
 |lp k r L hc hk=>exact .lp k r L hc hk
 |ia f r _ F₂ h1 h2 h=>exact(dA.ia f r p F₂ h1 h2 h).step hs λ_ _=>rfl
end subst
def TD{σ:D->D}{env:Env}{row:Row}(h:m i=some row){w:World}{β:aN}(hs:cy P F ⟨env,m,nx⟩ β w a)(X:∀ {d v},R F β w d v->R F (up β i (some .dead)) w (σ d) v):
 ∃ β',cy P F ⟨λt=>sub σ (env t),λj=>if j=i then none else(m j).map (Row.sub σ),nx⟩ β' w a/\eM nx β w a ⟨λt=>sub σ (env t),λj=>if j=i then none else(m j).map (Row.sub σ),nx⟩ β' w a:=by
 have U:=Dn β w i;have hm:=hs.m;simp only at hm
 have O:∀ j q b,up β i (some .dead) j=some q->q.blk=some b->j≠i/\β j=some q:=λj q b hq e=>by
  by_cases hj:j=i
  .subst hj;rw[ap] at hq;cases hq;simp[Pl.blk] at e
  .rw[aW _ _ hj] at hq;exact⟨hj,hq⟩
 have hi:∃ p,β i=some p:=by
  let⟨p,hp,_⟩:=hm.row i _ h;exact⟨p,hp⟩
 refine⟨up β i (some .dead),⟨λt=>Dv X (hs.e t),⟨λj r hj=>?_,λj k q q' b hq iP C e2=>hm.inj j k q q' b (O j q b hq C).2 (O k q' b iP e2).2 C e2,
  λj q b hq C=>hm.lt j q b (O j q b hq C).2 C,λj q b hq C=>hm.nf j q b (O j q b hq C).2 C,hm.fb⟩,λj hj=>?_⟩,⟨U,bK _,λj hj hn=>?_,rfl,rfl⟩⟩
 .simp only at hj;by_cases J:j=i
  .rw[bi J] at hj;cases hj
  .rw[ai J] at hj;simp[eg] at hj;obtain⟨r',fR,rfl⟩:=hj;let⟨q,hq,an⟩:=hm.row j r' fR;exact⟨q,by rw[aW _ _ J];exact hq,ahD X U an⟩
 .have J:j≠i:=λC=>by
   subst C;let⟨p,hp⟩:=hi;rw[hs.n j hj] at hp;cases hp
  rw[aW _ _ J];exact hs.n j hj
 .have J:j≠i:=λC=>by
   subst C;let⟨p,hp⟩:=hi;rw[hn] at hp;cases hp
  rw[aW _ _ J];exact hn
def afV{β:aN}{w:World}{cs cs':List D}(hl:cs'.length=cs.length)(O:∀ (k:Nat) (d d':D),cs[k]? =some d->cs'[k]? =some d'->Wk d d')(h:dA P F β w (.cells cs e) p):dA P F β w (.cells cs' e) p:=by
 cases h with
 |nil _=>
  have:cs'=[]:=length_eq_zero_iff.1 (tn hl);subst this;exact .nil e
 |cells _ _ b o room sz c hc hr hlen bZ hh=>
  rw[<- hl];refine .cells cs' e b o room sz c hc hr oG bZ λk d' C=>?_;have hk:k<cs.length:=by rw[<- hl];exact(bO.1 C).1
  let⟨v,h1,h2,J⟩:=hh k cs[k] (by simp[hk]);exact⟨v,h1,O k cs[k] d' (by simp[hk]) C _ _ _ _ h2,J⟩
def TE(h:aL P st st'){w:World}:∀ {β:aN},cy P F st β w a->∃ β',cy P F st' β' w a/\eM st.nx β w a st' β' w a:=by
 induction h with
 |refl st=>exact λ{β} hs=>⟨β,hs,eM.refl st β w a⟩
 |trans _ _ ih₁ ih₂=>
  intro β hs;let⟨β₁,h1,h2⟩:=ih₁ hs;let⟨β₂,X,h4⟩:=ih₂ h1;exact⟨β₂,X,h2.trans h4⟩
 |forget env env' m nx h=>
  intro β hs;refine⟨β,⟨λt=>?_,hs.m,hs.n⟩,⟨Step.refl β w,bK _,λ_ _ h=>h,rfl,rfl⟩⟩;rcases h t with h1|h1
  .simp only[h1];exact hs.e t
  .simp[h1];exact .u _
 |drop env m m' nx h=>
  intro β hs;refine⟨β,⟨hs.e,⟨λi r hi=>?_,hs.m.inj,hs.m.lt,hs.m.nf,hs.m.fb⟩,hs.n⟩,⟨Step.refl β w,bK _,λ_ _ h=>h,rfl,rfl⟩⟩;rcases h i with h1|h1
  .exact hs.m.row i r (h1.symm.trans hi)
  .simp only at hi;rw[h1] at hi;cases hi
 |sE env env' m m' nx h gQ=>
  intro β hs;refine⟨β,⟨λt=>h t _ _ _ _ (hs.e t),⟨λi r hi=>?_,hs.m.inj,hs.m.lt,hs.m.nf,hs.m.fb⟩,hs.n⟩,⟨Step.refl β w,bK _,λ_ _ h=>h,rfl,rfl⟩⟩;rcases gQ i with h1|⟨cs,cs',e,h1,h2,X,h4⟩
  .exact hs.m.row i r (h1.symm.trans hi)
  .simp only at hi;rw[h2] at hi;cases hi;let⟨p,hp,hr⟩:=hs.m.row i _ h1;exact⟨p,hp,afV X h4 hr⟩
 |freeze env m nx i cs e h=>
  intro β hs;exact TD h hs λhr=>Vm hs.m h rfl hr
 |Wf env m nx i es h=>
  intro β hs;exact TD h hs λhr=>afU hs.m h rfl hr
 |mz env m nx t e h=>
  intro β hs;have hm:=hs.m;have hn:β nx=none:=hs.n nx (bK _);simp only at hm
  have J:∀ j q b,up β nx (some .nil) j=some q->q.blk=some b->j≠nx/\β j=some q:=λj q b hq e=>by
   by_cases hj:j=nx
   .subst hj;rw[ap] at hq;cases hq;simp[Pl.blk] at e
   .rw[aW _ _ hj] at hq;exact⟨hj,hq⟩
  have U:Step β w (up β nx (some .nil)) w:=by
   refine⟨bK _,λb _ hf=>⟨rfl,λj q hq C=>?_⟩,λj q hq=>.inl ?_,⟨rfl,rfl⟩,λ_ _ _ _=>pV rfl⟩
   .exact hf j q (J j q b hq C).2 C
   .rw[aW _ _ (λC=>by rw[C,hn] at hq;cases hq)];exact hq
  refine⟨up β nx (some .nil),⟨λu=>?_,⟨λj r hj=>?_,λj k q q' b hq iP C e2=>hm.inj j k q q' b (J j q b hq C).2 (J k q' b iP e2).2 C e2,
   λj q b hq C=>hm.lt j q b (J j q b hq C).2 C,λj q b hq C=>hm.nf j q b (J j q b hq C).2 C,hm.fb⟩,λj hj=>?_⟩,⟨U,Nat.le_succ _,λj hj hb=>?_,rfl,rfl⟩⟩
  .by_cases hu:u=t
   .subst hu;have h1:=hs.e u;simp only at h1;rw[h] at h1;let⟨x,hx⟩:=h1.D';simp[ap,hx];exact .lH nx x s3
   .simp only[aW _ _ hu];exact(hs.e u).step U
  .simp only at hj;by_cases O:j=nx
   .subst O;rw[ap] at hj;cases hj;exact⟨.nil,ap _ _ _,.nil e⟩
   .rw[aW _ _ O] at hj;let⟨q,hq,an⟩:=hm.row j r hj;exact⟨q,by rw[aW _ _ O];exact hq,an.step U λ_ _=>rfl⟩
  .simp only at hj;rw[aW _ _ (show j≠nx by omega)];exact hs.n j (by simp only;omega)
  .simp only at hj;rw[aW _ _ (show j≠nx by omega)];exact hb
def gG(N:Nat):Code->Bool
 | .region _ ops _=>nP N ops
 | .seq a b=>gG N a&&gG N b
 | .cond _ a b=>gG N a&&gG N b
 | .block _ b=>gG N b
 | .loop b=>gG N b
 | .scope b=>gG N b
 | .rangeFunc _ ps a b=>(ps.toList.all λt=>Nat.blt t N)&&(gG N a&&gG N b)
 |_=>true
def Ts{Fc:Fence}(J:Nat->Act->World->Prop){j₀:Nat}{w:World}(h₀:J j₀ a w)
 (round:∀ j a w,J j a w->c.wpIn Fc n P (Exit.then (λa' w'=>∃ X,X<j/\J X a' w') Q) a w):(Code.loop c).wpIn Fc n P Q a w:=by
 intro b k cs RX hb hr
 have key:∀ j a w,J j a w->
  ∃ e a' w',Q e a' w'/\ArrivesIn (Machine.fenced P Fc) P (lone (b.atR a (.code c::.inLoop c::k)) cs w) b k cs e a' w':=by
  intro j
  induction j using Nat.strongRecOn with
  |_ j ih=>
   intro a w hI;let⟨e,O,U,hq,C⟩:=round j a w hI b (.inLoop c::k) cs RX hb hr;cases e with
   |normal=>
    let⟨X,al,hI₁⟩:=hq;let⟨e₂,a₂,w₂,hq₂,ajJ⟩:=ih X al O U hI₁;exact⟨e₂,a₂,w₂,hq₂,.of_steps (StepsIn.trans C (.one (fenced_calm hb hr rfl) stepR_inLoop)) ajJ⟩
   |exit id=>exact⟨_,O,U,hq,.pass (x:=.inLoop c) rfl (λ_ _=>.inl oS) C⟩
   |goto l=>exact⟨_,O,U,hq,.pass (x:=.inLoop c) rfl (λ_ _=>.inl oS) C⟩
   |ret=>exact⟨_,O,U,hq,.pass (x:=.inLoop c) rfl (λ_ _=>.inl oS) C⟩
   |panic ch=>exact⟨_,O,U,hq,.pass (x:=.inLoop c) rfl (λ_ _=>.inl oS) C⟩
   |outgrown=>exact⟨_,O,U,hq,.pass (x:=.inLoop c) rfl (λ_ _=>.inl oS) C⟩
 let⟨e,a',w',hq,C⟩:=key _ a w h₀;exact⟨e,a',w',hq,.of_steps (.one (fenced_calm hb hr rfl) stepR_loop) C⟩
def mark(b:Nat):Deferred:={ target:=.collected b,args:= #[] }
def Marks(β:aN)(w:World)(lo:Nat):List Deferred->Nat->Prop
 |[],_=>True
 |d::ds,hi=>∃ b,d=mark b/\lo<=b/\b<hi/\w.heap[b]? =some (.deferred (some []))/\β.free b/\Marks β w lo ds b
def Marks.step{β β':aN}{w w':World}(hs:Step β w β' w'):∀ {ds:List Deferred} {hi:Nat},hi<=w.heap.size->Marks β w lo ds hi->Marks β' w' lo ds hi
 |[],_,_,_=>trivial
 |d::ds,hi,hle,⟨b,h1,h2,h3,h4,h5,h6⟩=>by
  let⟨C,J⟩:=hs.fF b oG h5;exact⟨b,h1,h2,h3,C.trans h4,J,Marks.step hs oG h6⟩
def Marks.mono{β:aN}{w:World}{hi C:Nat}(h:hi<=C):∀ {ds:List Deferred},Marks β w lo ds hi->Marks β w lo ds C
 |[],_=>trivial
 |_::_,⟨b,h1,h2,h3,h4⟩=>⟨b,h1,h2,oG,h4⟩
def Marks.append{β:aN}{w:World}{mid:Nat}(J:lo<=mid){C:List Deferred}:∀ {ds:List Deferred} {hi:Nat},mid<=hi->Marks β w mid ds hi->Marks β w lo C mid->Marks β w lo (ds++C) hi
 |[],_,hle,_,h'=>Marks.mono hle h'
 |_::_,_,_,⟨b,h1,h2,h3,h4,h5,h6⟩,h'=>⟨b,h1,oG,h3,h4,h5,Marks.append J h2 h6 h'⟩
structure qw(N:Nat)(β:aN)(w:World)(a:Act)(st':St)(β':aN)(w':World)(a':Act):Prop where
 step:Step β w β' w'
 le:N<=st'.nx
 grow:∀ i,i<N->β i=none->β' i=none
 size:a'.tmps.size=a.tmps.size
 defers:∃ ds,a'.defers=ds++a.defers/\Marks β' w' w.heap.size ds w'.heap.size
def eM.Az{β β':aN}{w w':World}{a':Act}(h:eM N β w a st' β' w' a'):qw N β w a st' β' w' a':=
 ⟨h.step,h.le,h.grow,h.size,[],h.defers,aa⟩
def qw.trans{β:aN}{w X w₂:World}{a O U:Act}{C J:St}(h:qw N β w a C β₁ X O)(k:qw C.nx β₁ X O J β₂ w₂ U):qw N β w a J β₂ w₂ U:=by
 let⟨ds,e1,h1⟩:=h.defers;let⟨Ay,e2,h2⟩:=k.defers
 exact⟨h.step.trans k.step,Nat.le_trans h.le k.le,λi hi hn=>k.grow i (Nat.lt_of_lt_of_le hi h.le) (h.grow i hi hn),k.size.trans h.size,Ay++ds,by rw[e2,e1,append_assoc],
  Marks.append h.step.size k.step.size h2 (h1.step k.step (bK _))⟩
def qw.since{β:aN}{w X w₂:World}{O U:Act}{C J:St}(h:qw N β w a C β₁ X O)(k:eM C.nx β₁ X O J β₂ w₂ U):qw N β w a J β₂ w₂ U:=h.trans k.Az
def G9(P:Program)(F:Nat->Prop)(N:Nat)(β:aN)(w:World)(a:Act)(Q:Exit->St->Prop)(e:Exit)(a':Act)(w':World):Prop:=
 ∃ st' β',Q e st'/\cy P F st' β' w' a'/\qw N β w a st' β' w' a'
def sk.base{J:aN}{C:World}{β:aN}{w:World}(hs:Step J C β w){args:List D}{m:Mem}{K:D->Mem->Nat->Prop}(h:sk P F J C l args m nx K):sk P F β w l args m nx K:=
 λβ' w' us O=>h β' w' us (hs.trans O)
def rW{β:aN}{p:Option Pl}(h:β.free b)(hp:∀ q,p=some q->q.blk≠some b):aN.free (up β i p) b:=λj q hq=>by
 by_cases hj:j=i
 .subst hj;rw[ap] at hq;exact hp q hq
 .rw[aW _ _ hj] at hq;exact h j q hq
def R.wq{β:aN}{w:World}{l:Nat}(C:F l)(o:Obj)(h:R F β w d v):R F β (w.putObj l o) d v:=
 h.gen oS (λb _ hb hf=>⟨xG (World.putObj_heap_other λe=>hb (e▸C)),hf,hb⟩) λ_ _ _ h=>.inl h
def dA.wq{β:aN}{w:World}{l:Nat}(C:F l)(o:Obj)(hp:∀ b,p.blk=some b->b≠l)(h:dA P F β w r p):dA P F β (w.putObj l o) r p:=
 h.gen oS (λb _ hb hf=>⟨xG (World.putObj_heap_other λe=>hb (e▸C)),hf,hb⟩) (λ_ _ _ h=>.inl h) λb hb=>World.putObj_heap_other (hp b hb)
def aQ.wq{β:aN}{w:World}{l:Nat}(C:F l)(J:∀ t∈Ad,t.1≠l)(o:Obj)(h:aQ P F m β w):aQ P F m β (w.putObj l o):=
 ⟨λi r hi=>by
  let⟨p,hp,hr⟩:=h.row i r hi
  exact⟨p,hp,hr.wq C o λb hb e=>h.nf i p b hp hb (e▸C)⟩,h.inj,λi p b hp hb=>tn (h.lt i p b hp hb),h.nf,h.fb.next (λb hb=>tn (h.fb.lt b hb)) (λ_ h=>h) λt ht _=>World.putObj_heap_other λe=>J t ht e⟩
def cy.wq{β:aN}{w:World}{l:Nat}(C:F l)(J:∀ t∈Ad,t.1≠l)(o:Obj)(h:cy P F st β w a):cy P F st β (w.putObj l o) a:=
 ⟨λt=>(h.e t).wq C o,h.m.wq C J o,h.n⟩
def R.sE(C:∀ b,F' b->F b){β:aN}{w:World}(h:R F β w d v):R F' β w d v:=
 h.gen (bK _) (λb _ hb hf=>⟨oB.refl w b,hf,λe=>hb (C b e)⟩) λ_ _ _ h=>.inl h
def aQ.sE(C:∀ b,F' b->F b)(J:∀ t∈Ad,F' t.1){β:aN}{w:World}(h:aQ P F m β w):aQ P F' m β w:=
 ⟨λi r hi=>by
  let⟨p,hp,hr⟩:=h.row i r hi
  exact⟨p,hp,hr.gen (bK _) (λb _ hb hf=>⟨oB.refl w b,hf,λe=>hb (C b e)⟩) (λ_ _ _ h=>.inl h) λ_ _=>rfl⟩,h.inj,h.lt,λi p b hp hb e=>h.nf i p b hp hb (C b e),⟨λb hb=>h.fb.lt b (C b hb),λt ht=>⟨J t ht,(h.fb.jk t ht).2⟩⟩⟩
def Vn{β:aN}(h:¬ β.free b):∃ i p,β i=some p/\p.blk=some b:=by
 unfold aN.free at h;simp only[Classical.not_forall] at h;let⟨i,p,hp,hb⟩:=h;exact⟨i,p,hp,Decidable.not_not.1 hb⟩
structure View(il n₀:Nat)(f:Nat->Option Nat)(mc:Mem)(nc:Nat)(m:Mem)(nx:Nat):Prop where
 low:n₀<=nc
 lt:il<nx
 id:∀ i,i<n₀->f i=some i
 L2:∀ i,i<nc->∃ j,f i=some j/\j<nx/\j≠il
 out:∀ i,nc<=i->f i=none
 inj:∀ i i' j,f i=some j->f i'=some j->i=i'
 rows:∀ i r,mc i=some r->∃ j,f i=some j/\m j=some (r.wu f)
def View.Ae(h:View il n₀ f mc nc m nx)(hf:f i=some j):i<nc/\j<nx/\j≠il:=by
 rcases Nat.lt_or_ge i nc with al|C
 .let⟨O,h1,h2,J⟩:=h.L2 i al;rw[hf] at h1;cases h1;exact⟨al,h2,J⟩
 .rw[h.out i C] at hf;cases hf
def View.ext{m':Mem}{aw:Nat}(h:View il n₀ f mc nc m nx)(C:nx<=aw)(he:∀ i,i<nx->m' i=m i):View il n₀ f mc nc m' aw:=
 ⟨h.low,Nat.lt_of_lt_of_le h.lt C,h.id,λi hi=>by
  let⟨j,h1,h2,J⟩:=h.L2 i hi;exact⟨j,h1,oG,J⟩,h.out,h.inj,λi r hi=>by
  let⟨j,h1,h2⟩:=h.rows i r hi
  exact⟨j,h1,(he j (h.Ae h1).2.1).trans h2⟩⟩
def ad7{β:aN}{w:World}(hm:aQ P F m β w)(h:hidden F β f b):b<w.heap.size:=by
 rcases h with h|⟨h,_⟩
 .exact hm.fb.lt b h
 .let⟨i,p,hp,hb⟩:=Vn h;exact hm.lt i p b hp hb
def View.enter(h:View il n₀ f mc nc m nx){β:aN}{w:World}(hm:aQ P F m β w):
 aQ P (hidden F β f) mc (β.via f) w/\∀ i,nc<=i->(β.via f) i=none:=by
 have look:∀ i p,(β.via f) i=some p->∃ j,f i=some j/\β j=some p:=λi p hp=>Option.bind_eq_some_iff.1 hp;refine⟨⟨λi r hi=>?_,λi i' p q b hp hq e J=>?_,λi p b hp e=>?_,λi p b hp e C=>?_,hm.fb.next (λb hb=>ad7 hm hb) (λ_ h=>.inl h) λ_ _ _=>rfl⟩,λi hi=>?_⟩
 .let⟨j,h1,h2⟩:=h.rows i r hi;let⟨p,hp,hr⟩:=hm.row j _ h2;exact⟨p,by simp[aN.via,h1,hp],hr.seen⟩
 .let⟨j,h1,h2⟩:=look i p hp;let⟨X,O,U⟩:=look i' q hq;have:=hm.inj j X p q b h2 U e J;subst this;exact h.inj i i' j h1 O
 .let⟨j,h1,h2⟩:=look i p hp;exact hm.lt j p b h2 e
 .let⟨j,h1,h2⟩:=look i p hp;rcases C with C|⟨_,C⟩
  .exact hm.nf j p b h2 e C
  .exact C i p hp e
 .simp[aN.via,h.out i hi]
def aQ.Ea{β:aN}{w:World}(h:aQ P F m β w)(hm:m i=some (.raw l o)):β i=some (.raw l)/\w.heap[l]? =some o/\¬ F l/\l<w.heap.size:=by
 let⟨p,hp,hr⟩:=h.row i _ hm;cases hr with
 |raw _ _ hc=>exact⟨hp,hc,h.nf i _ l hp rfl,h.lt i _ l hp rfl⟩
def View.JG(h:View il n₀ f mc nc m nx){β:aN}{w:World}(hm:aQ P F m β w)(hj:∀ i,f i≠some j)(hp:β j=some p)(hb:p.blk=some b):
 (β.via f).free b/\hidden F β f b:=by
 have C:(β.via f).free b:=λi q hq e=>by
  let⟨J,h1,h2⟩:=Option.bind_eq_some_iff.1 hq;exact hj i (hm.inj J j q p b h2 hp e hb▸h1)
 exact⟨C,.inr ⟨λe=>e j p hp hb,C⟩⟩
structure we(l:Nat)(β:aN)(w:World)(β':aN)(w':World):Prop where
 size:w.heap.size<=w'.heap.size
 fF:∀ b,b<w.heap.size->b≠l->β.free b->w'.heap[b]? =w.heap[b]? /\β'.free b
 iL:∀ i p,β i=some p->β' i=some p\/β' i=some .dead
 out:Out w w'
 lp:∀ i r,r≠l->β i=some (.lp r)->β' i=some (.lp r)->Skel w w' r
def Step.x{β β':aN}{w w':World}(h:Step β w β' w')(l:Nat):we l β w β' w':=⟨h.size,λb hb _=>h.fF b hb,h.iL,h.out,λi r _=>h.lp i r⟩
def we.trans{l:Nat}{β₃:aN}{O U X:World}(h:we l β₁ O β₂ U)(k:we l β₂ U β₃ X):we l β₁ O β₃ X:=by
 refine⟨Nat.le_trans h.size k.size,λb hb J hf=>?_,λi p hp=>?_,h.out.trans k.out,λi r hr hp C=>?_⟩
 rotate_left 2
 .rcases h.iL i _ hp with h1|h1
  .exact(h.lp i r hr hp h1).trans (k.lp i r hr h1 C)
  .rcases k.iL i _ h1 with h2|h2<;>(rw[h2] at C;cases C)
 .let⟨h1,h2⟩:=h.fF b hb J hf;let⟨k1,k2⟩:=k.fF b (Nat.lt_of_lt_of_le hb h.size) J h2;exact⟨k1.trans h1,k2⟩
 .rcases h.iL i p hp with h1|h1
  .exact k.iL i p h1
  .right;rcases k.iL i _ h1 with h2|h2<;>exact h2
def we.put(l:Nat)(β:aN)(w:World)(o:Obj):we l β w β (w.putObj l o):=⟨oS,λb _ C hf=>⟨World.putObj_heap_other C,hf⟩,λ_ _ h=>.inl h,⟨rfl,rfl⟩,λ_ _ hr _ _=>pV (World.putObj_heap_other hr)⟩
def Un(C:∀ i i' j,f i=some j->f i'=some j->i=i'):
 (∀ i,(range n).find? (λi=>f i==some j)=some i->f i=some j/\i<n)/\(∀ i,i<n->f i=some j->(range n).find? (λi=>f i==some j)=some i):=by
 refine⟨λi hi=>⟨by simpa using find?_some hi,by simpa using mem_of_find?_eq_some hi⟩,λi hi hf=>?_⟩;cases h:(range n).find? (λi=>f i==some j) with
 |none=>
  have:=find?_eq_none.1 h i (tn hi);simp[hf] at this
 |some k=>rw[C i k j hf (by simpa using find?_some h)]
def View.ajK(h:View il n₀ f mc nc m nx){β:aN}{w:World}(hm:aQ P F m β w)(hn:∀ i,nx<=i->β i=none){o':Obj}(hl:m il=some (.raw l o))
 {m':Mem} {U:Nat} {β':aN} {w':World} (ke:aQ P (hidden F β f) m' β' w') (hs:we l (β.via f) w β' w') (eZ:∀ i,U<=i->β' i=none) (hle:nc<=U) (hg:∀ i,i<nc->(β.via f) i=none->β' i=none) (ho:w'.heap[l]? =some o'):
 ∃ C nj tz J,View il n₀ C m' U nj tz/\nj il=some (.raw l o')/\aQ P F nj J w'/\(∀ i,tz<=i->J i=none)/\Step β w J w'/\nx<=tz/\∀ i,i<nx->β i=none->J i=none:=by
 let⟨H5,lJ,hFl,al⟩:=hm.Ea hl
 let C:Nat->Option Nat:=λi=>if i<nc then f i else if i<U then some (nx+(i - nc)) else none
 have G':∀ i,i<nc->C i=f i:=λi hi=>by simp[C,hi]
 have PT:∀ i,nc<=i->i<U->C i=some (nx+(i - nc)):=λi h1 h2=>by simp[C,h2,Nat.not_lt.2 h1]
 have Yu:∀ i,U<=i->C i=none:=λi h1=>by simp[C,Nat.not_lt.2 h1,Nat.not_lt.2 (Nat.le_trans hle h1)]
 have zE:∀ i j,C i=some j->(f i=some j/\i<nc/\j<nx)\/(nc<=i/\i<U/\j=nx+(i - nc)):=λi j hf=>by
  rcases Nat.lt_or_ge i nc with h1|h1
  .rw[G' i h1] at hf;exact .inl ⟨hf,h.Ae hf |>.1,(h.Ae hf).2.1⟩
  .rcases Nat.lt_or_ge i U with h2|h2
   .rw[PT i h1 h2] at hf;cases hf;exact .inr ⟨h1,h2,rfl⟩
   .rw[Yu i h2] at hf;cases hf
 have PU:∀ i i' j,C i=some j->C i'=some j->i=i':=λi i' j h1 h2=>by
  rcases zE i j h1 with⟨a1,a2,a3⟩|⟨a1,a2,a3⟩<;>rcases zE i' j h2 with⟨b1,b2,b3⟩|⟨b1,b2,b3⟩
  .exact h.inj i i' j a1 b1
  .omega
  .omega
  .omega
 let inv:Nat->Option Nat:=λj=>(range U).find? λi=>C i==some j
 have Af:∀ i j,inv j=some i->C i=some j:=λi j hi=>((Un PU).1 i hi).1;have QL:∀ i j,C i=some j->inv j=some i:=λi j hf=>(Un PU).2 i (by rcases zE i j hf with h1|h1<;>omega) hf
 have anA:∀ j,inv j=none->∀ i,f i≠some j:=λj hj i hf=>by
  have:=QL i j (by rw[G' i (h.Ae hf).1];exact hf);rw[hj] at this;cases this
 let J:aN:=λj=>match inv j with|some i=>β' i|none=>β j
 let nj:Mem:=λj=>match inv j with|some i=>(m' i).map (Row.wu C)|none=>if j=il then some (.raw l o') else m j
 have βs:∀ i j,C i=some j->J j=β' i:=λi j hf=>by simp[J,QL i j hf]
 have βn:∀ j,inv j=none->J j=β j:=λj hj=>by simp[J,hj]
 have aiR:inv il=none:=by
  cases hi:inv il with
  |none=>rfl
  |some i=>
   rcases zE i il (Af i il hi) with⟨a1,a2,a3⟩|⟨a1,a2,a3⟩
   .exact absurd rfl (h.Ae a1).2.2
   .have:=h.lt;omega
 have via:J.via C=β':=by
  funext i;simp[aN.via];cases hf:C i with
  |some j=>exact βs i j hf
  |none=>
   rcases Nat.lt_or_ge i U with h1|h1
   .rcases Nat.lt_or_ge i nc with h2|h2
    .let⟨j,h3,_⟩:=h.L2 i h2;rw[G' i h2,h3] at hf;cases hf
    .rw[PT i h2 h1] at hf;cases hf
   .exact(eZ i h1).symm
 have look:∀ j p,J j=some p->(∃ i,inv j=some i/\C i=some j/\β' i=some p)\/(inv j=none/\β j=some p):=λj p hp=>by
  cases hi:inv j with
  |some i=>exact .inl ⟨i,rfl,Af i j hi,by rw[<- βs i j (Af i j hi)];exact hp⟩
  |none=>exact .inr ⟨rfl,by rw[<- βn j hi];exact hp⟩
 have anB:∀ b,β.free b->b≠l:=λb hb e=>hb il _ H5 (e▸rfl)
 have fF:∀ b,b<w.heap.size->β.free b->w'.heap[b]? =w.heap[b]? /\J.free b:=λb hb hf=>by
  let⟨h1,h2⟩:=hs.fF b hb (anB b hf) (aN.zw hf f);refine⟨h1,λj p hp=>?_⟩;rcases look j p hp with⟨i,_,_,X⟩|⟨_,X⟩
  .exact h2 i p X
  .exact hf j p X
 have iL:∀ j p,β j=some p->J j=some p\/J j=some .dead:=λj p hp=>by
  cases hi:inv j with
  |none=>exact .inl ((βn j hi).trans hp)
  |some i=>
   have hf:=Af i j hi;rw[βs i j hf];rcases zE i j hf with⟨a1,a2,a3⟩|⟨a1,a2,a3⟩
   .exact hs.iL i p (by simp[aN.via,a1,hp])
   .rw[hn j oG] at hp;cases hp
 have O:∀ j p b,inv j=none->β j=some p->p.blk=some b->hidden F β f b/\(b≠l->b<w.heap.size/\w'.heap[b]? =w.heap[b]?):=λj p b hj hp hb=>by
  let⟨h1,h2⟩:=h.JG hm (anA j hj) hp hb;exact⟨h2,λbC=>⟨hm.lt j p b hp hb,(hs.fF b (hm.lt j p b hp hb) bC h1).1⟩⟩
 have lps:∀ j r,β j=some (.lp r)->J j=some (.lp r)->Skel w w' r:=λj r hp ki=>by
  have bC:r≠l:=λe=>by
   have:=hm.inj j il _ _ l hp H5 (by simp[Pl.blk,e]) rfl;subst this;rw[H5] at hp;cases hp
  cases hi:inv j with
  |none=>exact pV ((O j _ r hi hp rfl).2 bC).2
  |some i=>
   have hf:=Af i j hi;rcases zE i j hf with⟨a1,a2,a3⟩|⟨a1,a2,a3⟩
   .exact hs.lp i r bC (by simp[aN.via,a1,hp]) (by rw[<- βs i j hf];exact ki)
   .rw[hn j oG] at hp;cases hp
 refine⟨C,nj,nx+(U - nc),J,⟨Nat.le_trans h.low hle,by have:=h.lt;omega,λi hi=>?_,λi hi=>?_,Yu,PU,λi r hi=>?_⟩,?_,⟨λj r hj=>?_,λi j p q b hp hq e e'=>?_,λj p b hp e=>?_,λj p b hp e hF=>?_,?_⟩,λi hi=>?_,⟨hs.size,fF,iL,hs.out,lps⟩,oG,λi hi hb=>?_⟩
 .rw[G' i (Nat.lt_of_lt_of_le hi h.low)];exact h.id i hi
 .rcases Nat.lt_or_ge i nc with h1|h1
  .let⟨j,h2,h3,X⟩:=h.L2 i h1;exact⟨j,by rw[G' i h1];exact h2,oG,X⟩
  .exact⟨_,PT i h1 hi,oG,by have:=h.lt;omega⟩
 .let⟨p,hp,_⟩:=ke.row i r hi
  have:∃ j,C i=some j:=by
   rw[<- via] at hp;let⟨j,h1,_⟩:=Option.bind_eq_some_iff.1 hp;exact⟨j,h1⟩
  let⟨j,hj⟩:=this;exact⟨j,hj,by simp[nj,QL i j hj,hi]⟩
 .simp[nj,aiR]
 .cases hi:inv j with
  |some i=>
   simp[nj,hi,eg] at hj;obtain⟨r0,yN,rfl⟩:=hj;let⟨p,hp,hr⟩:=ke.row i r0 yN;refine⟨p,(βs i j (Af i j hi)).trans hp,dA.ZK (F':=hidden F β f) (by rw[via];exact hr) (λb hb=>.inl hb) λb g1 g2=>?_⟩;let⟨k,q,hq,hqb⟩:=Vn g1;rcases look k q hq with⟨i',_,_,X⟩|⟨h3,X⟩
   .exact absurd hqb (g2 i' q (by rw[via];exact X))
   .exact(O k q b h3 X hqb).1
  |none=>
   simp[nj,hi] at hj;split at hj
   .rename_i e;subst e;cases hj;exact⟨.raw l,(βn j hi).trans H5,.raw l o' ho⟩
   .rename_i bC;let⟨p,hp,hr⟩:=hm.row j r hj;refine⟨p,(βn j hi).trans hp,hr.gen hs.size (λb hb g1 g2=>⟨xG (fF b hb g2).1,(fF b hb g2).2,g1⟩) (λi p _=>iL i p) λb hb=>?_⟩;exact((O j p b hi hp hb).2 λe=>bC (hm.inj j il p _ b hp H5 hb (e▸rfl))).2
 .rcases look i p hp with⟨i',a1,a2,a3⟩|⟨a1,a2⟩<;>rcases look j q hq with⟨j',b1,b2,b3⟩|⟨b1,b2⟩
  .have:=ke.inj i' j' p q b a3 b3 e e';subst this;rw[a2] at b2;cases b2;rfl
  .exact absurd (O j q b b1 b2 e').1 (ke.nf i' p b a3 e)
  .exact absurd (O i p b a1 a2 e).1 (ke.nf j' q b b3 e')
  .exact hm.inj i j p q b a2 b2 e e'
 .rcases look j p hp with⟨i',a1,a2,a3⟩|⟨a1,a2⟩
  .exact ke.lt i' p b a3 e
  .exact Nat.lt_of_lt_of_le (hm.lt j p b a2 e) hs.size
 .rcases look j p hp with⟨i',a1,a2,a3⟩|⟨a1,a2⟩
  .exact ke.nf i' p b a3 e (.inl hF)
  .exact hm.nf j p b a2 e hF
 .exact hm.fb.next (λb hb=>Nat.lt_of_lt_of_le (hm.fb.lt b hb) hs.size) (λ_ h=>h) λt _ hF=>(fF _ (hm.fb.lt _ hF) λi p hp e=>hm.nf i p _ hp e hF).1
 .cases cQ:inv i with
  |none=>exact(βn i cQ).trans (hn i oG)
  |some i0=>
   rcases zE i0 i (Af i0 i cQ) with⟨a1,a2,a3⟩|⟨a1,a2,a3⟩<;>omega
 .cases cQ:inv i with
  |none=>exact(βn i cQ).trans hb
  |some i0=>
   have hf:=Af i0 i cQ;rw[βs i0 i hf];rcases zE i0 i hf with⟨a1,a2,a3⟩|⟨a1,a2,a3⟩
   .exact hg i0 a2 (by simp[aN.via,a1,hb])
   .omega
def Nf{β:aN}{w:World}:∀ (ts:List Tmp) (ds:List D) (vs:List Value) (env:Env) (tmps:Array Value),vs.length=ds.length->(∀ (k:Nat) (d:D) (v:Value),ds[k]? =some d->vs[k]? =some v->R F β w d v)->
 (∀ t,t∈ts->t<tmps.size)->gq F β w env { tmps:=tmps,defers:=[] }->
 gq F β w (xU env ts ds) { tmps:=(ts.zip vs).foldl (λtmps (t,a)=>tmps.setIfInBounds t a) tmps,defers:=[] }/\((ts.zip vs).foldl (λtmps (t,a)=>tmps.setIfInBounds t a) tmps).size=tmps.size
 |[],_,_,env,tmps,_,_,_,h=>by simpa[xU] using h
 |_::_,[],[],env,tmps,_,_,_,h=>by simpa[xU] using h
 |_::_,[],_::_,_,_,hl,_,_,_=>by simp at hl
 |_::_,_::_,[],_,_,hl,_,_,_=>by simp at hl
 |t::ts,d::ds,v::vs,env,tmps,hl,hR,al,h=>by
  have h1:gq F β w (up env t d) { tmps:=tmps.setIfInBounds t v,defers:=[] }:=by
   have:=h.put (some t) d v (hR 0 d v rfl rfl) (λu hu=>by cases hu;exact al t oS);simpa[Act.put,up] using this
  have:=Nf ts ds vs (up env t d) (tmps.setIfInBounds t v) (tn hl) (λk d v hd hv=>hR (k+1) d v (tn hd) (tn hv)) (λu hu=>tn (al u (by simp[hu]))) h1;simp[xU,zip_cons_cons,foldl_cons];exact⟨this.1,by rw[this.2];simp⟩
def FZ{c:Code}{b:Frame}{w:World}:step P (lone (b.atR a (.code (.scope c)::k)) cs w)=.next (lone (b.atR a (.code c::.inScope c::k)) cs w):=
 step_lone_go (by simp[stepG,stepG.exec,Frame.atR])
def acA{b:Frame}{w:World}:step P (lone (b.atR a (.inScope c::k)) cs w)=.next (lone (b.atR a k) cs w):=
 step_lone_go (by simp[stepG,stepG.exec,Frame.atR])
def I0{I:Machine->Prop}{m:Machine}{b:Frame}{c:Code}{e:Exit}{w:World}
 (hn:e≠ .normal) (hg:∀ l,e≠ .goto l) (h:ArrivesIn I P m b (.inScope c::k) cs e a w):ArrivesIn I P m b k cs e a w:=by
 cases e with
 |normal=>exact absurd rfl hn
 |exit id=>exact⟨λk' hk=>h.1 k' (by simp[exitTo,hk]),λhr hk=>h.2 hr (by simp[exitTo,hk])⟩
 |goto l=>exact absurd rfl (hg l)
 |ret=>exact h
 |panic chain=>exact h
 |outgrown=>exact h
def TY{U:Fence}{w:World}(h:c.wpIn U n P (Exit.noGoto Q) a w):(Code.scope c).wpIn U n P Q a w:=by
 intro b k cs X hb hr;have h0:(lone (b.atR a (.code (.scope c)::k)) cs w).fenced P U:=fenced_calm hb hr rfl;let⟨e,C,O,hq,J⟩:=h b (.inScope c::k) cs X hb hr;cases e with
 |normal=>exact⟨.normal,C,O,hq,.head h0 FZ (StepsIn.trans J (.one (fenced_calm hb hr rfl) acA))⟩
 |goto l=>exact hq.elim
 |exit id=>exact⟨.exit id,C,O,hq,.of_steps (.one h0 FZ) (I0 (c:=c) oS oS J)⟩
 |ret=>exact⟨.ret,C,O,hq,.of_steps (.one h0 FZ) (I0 (c:=c) oS oS J)⟩
 |panic ch=>exact⟨.panic ch,C,O,hq,.of_steps (.one h0 FZ) (I0 (c:=c) oS oS J)⟩
 |outgrown=>exact⟨.outgrown,C,O,hq,.of_steps (.one h0 FZ) (I0 (c:=c) oS oS J)⟩
def Jump(env:Env)(Q:Exit->St->Prop):Code->Mem->Nat->Prop
 | .ret,m,nx=>Q .ret ⟨env,m,nx⟩
 | .exit id,m,nx=>Q (.exit id) ⟨env,m,nx⟩
 |_,_,_=>False
def DZ(il l:Nat)(n₀:Nat)(o:Obj)(I:Mem->Nat->Prop)(m:Mem)(nx:Nat):Prop:=∃ f mc nc,View il n₀ f mc nc m nx/\m il=some (.raw l o)/\I mc nc
def DZ.closed{I:Mem->Nat->Prop}:GS (DZ il l n₀ o I):=by
 rintro m nx m' aw ⟨f,mc,nc,h1,h2,J⟩ C he;exact⟨f,mc,nc,h1.ext C he,(he il h1.lt).trans h2,J⟩
def Uo(ps:Array Tmp)(us:Array Value)(tmps:Array Value):
 (ps.zip us).foldl (λtmps (t,a)=>tmps.setIfInBounds t a) tmps=(ps.toList.zip us.toList).foldl (λtmps (t,a)=>tmps.setIfInBounds t a) tmps:=by
 rw[<- Array.foldl_toList];simp
def Tt{β:aN}{w:World}{g:Operand}{f:FuncId}{fs cs:List D}(hR:R F β w (.fn (.func f) fs cs) (a.eval g))(he:nB P f=true)(l:Nat)(w':World):
 ∃ (us vs:List Value) (d:Deferred),us.length=fs.length/\vs.length=cs.length/\(∀ (k:Nat) (d:D) (v:Value),fs[k]? =some d->us[k]? =some v->R F β w d v)/\(∀ (k:Nat) (d:D) (v:Value),cs[k]? =some d->vs[k]? =some v->R F β w d v)/\
  (resolve a.eval (rangeCall g l) 0).run P w'=.ok d w'/\(invoke d.target d.args).run P w'=.ok (.enter f (us.toArray++ #[.func (.yield l) #[] #[]]++vs.toArray)) w':=by
 generalize hv:a.eval g=v at hR;cases hR with
 |fn _ _ _ us vs hl mb hh C=>
 refine⟨us,vs,{ target:=.fn (.func f) vs.toArray,args:=us.toArray++ #[.func (.yield l) #[] #[]] },hl,mb,hh,C,?_,?_⟩
 .simp only[resolve,hv,Sem.run_bind,Deferred.ofValue];simp[go_sem]
 .simp only[invoke];unfold callFunc;unfold nB at he;simp only[Sem.run_bind,run_program,Result.andThen_ok];split at he
  .rename_i fn J;simp only[aH,Bool.not_eq_true'] at he
   have hb:fn.body.isNone=false:=by
    cases O:fn.body<;>simp_all
   rw[J];simp only[he.1,hb,Bool.false_eq_true,if_false,Sem.run_pure]
  .cases he
def Rs.append{β:aN}{w:World}{aS bs:List D}{xs ys:Array Value}(h:Rs F β w aS xs)(k:Rs F β w bs ys):Rs F β w (aS++bs) (xs++ys):=by
 refine⟨by simp[h.1,k.1],λj d v hd hv=>?_⟩;rcases Nat.lt_or_ge j aS.length with hj|hj
 .rw[getElem?_append_left hj] at hd;rw[Array.getElem?_append_left (by rw[h.1];exact hj)] at hv;exact h.2 j d v hd hv
 .rw[getElem?_append_right hj] at hd;rw[Array.getElem?_append_right (by rw[h.1];exact hj),h.1] at hv;exact k.2 _ d v hd hv
def afW(lZ:P.follows .mixedOrders=true):∀ (c:Code) (F:Nat->Prop) (r:Option Nat) (n:Nat) (Y:iz) (rf:Bool) (N₀:Nat) (β₀:aN) (w₀:World) (a₀:Act),(rf=true->r=none)->
 (∀ l args m nx K,Y l args m nx K->sk P F β₀ w₀ l args m nx K)->gG a₀.tmps.size c=true->∀ (Q:Exit->St->Prop) (st:St) (β:aN) (w:World) (a:Act),
 AW P Y rf c Q st->cy P F st β w a->qw N₀ β₀ w₀ a₀ st β w a->c.wpIn (Fe r) n P (G9 P F N₀ β₀ w₀ a₀ Q) a w:=by
 intro c
 induction c with
 |skip=>exact λF r n Y rf N₀ β₀ w₀ a₀ U X _ Q st β w a h hs J=>wpIn_skip ⟨st,β,h,hs,J⟩
 |ret=>exact λF r n Y rf N₀ β₀ w₀ a₀ U X _ Q st β w a h hs J=>wpIn_ret ⟨st,β,h,hs,J⟩
 |exit id=>exact λF r n Y rf N₀ β₀ w₀ a₀ U X _ Q st β w a h hs J=>wpIn_exit ⟨st,β,h,hs,J⟩
 |label l=>exact λF r n Y rf N₀ β₀ w₀ a₀ U X _ Q st β w a h hs J=>wpIn_label ⟨st,β,h,hs,J⟩
 |region id ops draw=>
  intro F r n Y rf N₀ β₀ w₀ a₀ U X al Q st β w a h hs J;have mF:nP a.tmps.size ops=true:=by rw[J.size];exact al
  cases draw with
  |false=>
   refine wpIn_mono (acU (N:=st.nx) (β₀:=β) (w₀:=w) (a₀:=a) (λl args m nx K hy=>(X l args m nx K hy).base J.step) mF h hs (eM.refl st β w a)) λe a' w' hp=>?_;let⟨st',β',hq,fG,gN⟩:=hp;exact⟨st',β',hq,fG,J.since gN⟩
  |true=>
   simp only[AW] at h;split at h
   .rename_i cf Cl;refine wpIn_mono (acV (N₀:=st.nx) (β₀:=β) (w₀:=w) (a₀:=a) lZ Cl mF h hs (eM.refl st β w a)) λe a' w' hp=>?_;let⟨st',β',hq,fG,gN⟩:=hp;exact⟨st',β',hq,fG,J.since gN⟩
   .exact h.elim
 |seq x y L3 L4=>
  intro F r n Y rf N₀ β₀ w₀ a₀ U X al Q st β w a h hs J;simp only[gG,aH] at al;refine wpIn_seq (wpIn_mono (L3 F r n Y rf N₀ β₀ w₀ a₀ U X al.1 _ st β w a h hs J) λe a' w' hp=>?_);let⟨st',β',hq,fG,gN⟩:=hp;cases e with
  |normal=>
   let⟨lC,hg,hy⟩:=hq;let⟨lI,Hu,PV⟩:=TE hg fG;exact L4 F r n Y rf N₀ β₀ w₀ a₀ U X al.2 Q lC lI w' a' hy Hu (gN.since PV)
  |_=>exact⟨st',β',hq,fG,gN⟩
 |cond c x y L3 L4=>
  intro F r n Y rf N₀ β₀ w₀ a₀ U X al Q st β w a h hs J;simp only[gG,aH] at al;let⟨ha,h⟩:=h;have hR:=(hs.e.opd c).zD _ ha;split at h
  .rename_i t ht;rw[ht] at hR;exact wpIn_cond_split hR.cX.1 (λe=>L3 F r n Y rf N₀ β₀ w₀ a₀ U X al.1 Q st β w a (h.1 e) hs J) λe=>L4 F r n Y rf N₀ β₀ w₀ a₀ U X al.2 Q st β w a (h.2 e) hs J
  .rename_i ht;rw[ht] at hR;let⟨b,hb⟩:=hR.GP;exact wpIn_cond_split hb (λ_=>L3 F r n Y rf N₀ β₀ w₀ a₀ U X al.1 Q st β w a h.1 hs J) λ_=>L4 F r n Y rf N₀ β₀ w₀ a₀ U X al.2 Q st β w a h.2 hs J
  .exact h.elim
 |scope b ih=>
  intro F r n Y rf N₀ β₀ w₀ a₀ U X al Q st β w a h hs J;refine TY (wpIn_mono (ih F r n Y rf N₀ β₀ w₀ a₀ U X al _ st β w a h hs J) λe a' w' hp=>?_);let⟨st',β',hq,fG,gN⟩:=hp;cases e with
  |goto l=>exact hq.elim
  |_=>exact⟨st',β',hq,fG,gN⟩
 |block id b ih=>
  intro F r n Y rf N₀ β₀ w₀ a₀ U X al Q st β w a h hs J;refine wpIn_block (wpIn_mono (ih F r n Y rf N₀ β₀ w₀ a₀ U X al _ st β w a h hs J) λe a' w' hp=>?_);let⟨st',β',hq,fG,gN⟩:=hp;cases e with
  |exit i=>
   simp only[jH] at hq;simp only[Exit.inBlock];split at hq
   .rename_i hi;rw[bi hi];exact⟨st',β',hq,fG,gN⟩
   .rename_i hi;rw[ai hi];exact⟨st',β',hq,fG,gN⟩
  |_=>exact⟨st',β',hq,fG,gN⟩
 |loop b ih=>
  intro F r n Y rf N₀ β₀ w₀ a₀ U X al Q st β w a h hs J;let⟨I,μ,hI,D1⟩:=h;apply Ts (λj a w=>∃ st β,I st/\μ st=j/\cy P F st β w a/\qw N₀ β₀ w₀ a₀ st β w a) ⟨st,β,hI,rfl,hs,J⟩;rintro j a w ⟨st,β,hI,hμ,hs,J⟩;refine wpIn_mono (ih F r n Y rf N₀ β₀ w₀ a₀ U X al _ st β w a (D1 st hI) hs J) λe a' w' hp=>?_;let⟨st',β',hq,fG,gN⟩:=hp;cases e with
  |normal=>
   let⟨lK,hg,L5,atd⟩:=hq;let⟨lI,Hu,PV⟩:=TE hg fG;exact⟨μ lK,oG,lK,lI,L5,rfl,Hu,gN.since PV⟩
  |_=>exact⟨st',β',hq,fG,gN⟩
 |rangeFunc g ps assign body AE AF=>
  intro F r n Y rf N₀ β₀ w₀ a₀ U X al Q st β w a h hs J;let⟨env,mem,nx⟩:=st;let⟨QM,Ln,f,fs,cs,xs,I,KS,Lo,KT,L6,D1,KU⟩:=h;simp only at Ln KS L6 D1 KU;have hr:=U QM;subst hr;simp only[gG,aH,cm,Nat.blt_eq] at al;let⟨oY,QN,QO⟩:=al;have bZ:a.tmps.size=a₀.tmps.size:=J.size;have hR:=(hs.e.opd g).zD _ Ln;simp only[KS] at hR;refine wpIn_rangeFunc λfn wL=>?_;obtain⟨C,pB⟩:∃ C:LoopState->Option Code->Loop,C=λst pe=>{ state:=st,pending:=pe,fn,tmps:=a.tmps,params:=ps,assign,body,defers:=w.heap.size }:=⟨_,rfl⟩
  obtain⟨W1,sO⟩:∃ W1,(w.alloc (.deferred (some []))).alloc (.loop (C .ready none))=W1:=⟨_,rfl⟩
  let⟨us,vs,d,H6,tL,hu,hv,pC,hinv⟩:=Tt (P:=P) hR Lo.1 (w.heap.size+1) W1;have hn:∀ i,nx<=i->β i=none:=hs.n;have RY:∀ t∈Ad,t.1≠w.heap.size+1:=λt ht e=>by have:=hs.m.fb.lt _ (hs.m.fb.jk t ht).1;omega
  have hFl:¬ F (w.heap.size+1):=λe=>by have:=hs.m.fb.lt _ e;omega
  let f₀:Nat->Option Nat:=λi=>if i<nx then some i else none
  have ZL:β.via f₀=β:=by
   funext i;simp only[aN.via,f₀];split
   .rfl
   .exact(hn i oG).symm
  have fH:aQ P F (λi=>(mem i).map (Row.wu f₀)) β w:=⟨λi r hi=>by
   simp only[eg] at hi;obtain⟨r0,h1,rfl⟩:=hi;let⟨p,hp,hr⟩:=hs.m.row i r0 h1
   exact⟨p,hp,dA.ZK (F':=F) (by rw[ZL];exact hr) (λ_ h=>h) λb g1 g2=>absurd (ZL▸g2) g1⟩,hs.m.inj,hs.m.lt,hs.m.nf,hs.m.fb⟩
  have qz:Step β w β (w.alloc (.deferred (some []))):=Bh oS λb hb=>heap_alloc_old w _ hb;have me:aQ P F (λi=>(mem i).map (Row.wu f₀)) β (w.alloc (.deferred (some []))):=fH.ext oS λb hb=>heap_alloc_old w _ hb
  have Cm:aQ P F (up (λi=>(mem i).map (Row.wu f₀)) nx (some (.raw (w.heap.size+1) (.loop (C .ready none))))) (up β nx (some (.raw (w.heap.size+1)))) W1:=by
   rw[<- sO];refine me.alloc (hn nx (bK _)) _ _ _ (λb hb=>by simp only[Pl.blk,aY] at hb;simp;omega) (.raw _ _ ?_);have:=World.alloc_heap_new (w.alloc (.deferred (some []))) (.loop (C .ready none))
   rwa[World.size_alloc] at this
  have dY:Step β w (up β nx (some (.raw (w.heap.size+1)))) W1:=by
   rw[<- sO];exact qz.trans (Dj me _ (hn nx (bK _)) _ (λb hb=>by simp only[Pl.blk,aY] at hb;simp;omega))
  have RZ:W1.heap[w.heap.size]? =some (.deferred (some [])):=by
   rw[<- sO];rw[heap_alloc_old _ _ oS];exact World.alloc_heap_new w _
  have GU:aN.free (up β nx (some (.raw (w.heap.size+1)))) w.heap.size:=
   rW (λi p hp e=>by have:=hs.m.lt i p _ hp e;omega) (by rintro q hq;cases hq;simp[Pl.blk])
  have QP:W1.heap.size=w.heap.size+2:=by rw[<- sO];simp
  have ahE:∀ i,nx<=i->mem i=none:=λi hi=>by
   cases hm:mem i with
   |none=>rfl
   |some row=>
    let⟨p,hp,_⟩:=hs.m.row i row hm;rw[hn i hi] at hp;cases hp
  have own:∀ {f:Nat->Option Nat} {mc:Mem} {nc:Nat} {m:Mem} {jl:Nat} {β2:aN} {w2:World},View nx nx f mc nc m jl->Step (up β nx (some (.raw (w.heap.size+1)))) W1 β2 w2->
   ∀ {d:D} {v:Value},R F β w d v->R (hidden F β2 f) (β2.via f) w2 d v:=λ{_ _ _ _ _ _ _} O bL {d v} h=>by
   have uw:=dY.trans bL;refine h.gen uw.size (λb hb hf jS=>?_) λi p _ hp=>?_
   .let⟨g1,g2⟩:=uw.fF b hb jS;exact⟨xG g1,aN.zw g2 _,λe=>e.elim hf λe=>e.1 g2⟩
   .have hi:i<nx:=by
     rcases Nat.lt_or_ge i nx with h1|h1
     .exact h1
     .rw[hn i h1] at hp;cases hp
    simp only[aN.via,O.id i hi,Option.bind_some];exact uw.iL i p hp
  refine⟨w.heap.size+1,[mark w.heap.size],W1,d,W1,f,_,W1,?_,pC,λf' _=>trivial,hinv,λhd=>by simp at hd,Jw ?_⟩
  .rw[<- sO,pB];exact run_enterLoop_outer _ _ _ _ _
  refine(Lo.2 F (w.heap.size+1) (λk=>DZ nx (w.heap.size+1) nx (.loop (C .ready none)) (I k)) (λm k=>∃ c,DZ nx (w.heap.size+1) nx (.loop (C .done (some c))) (Jump env Q c) m k)
   (up (λi=>(mem i).map (Row.wu f₀)) nx (some (.raw (w.heap.size+1) (.loop (C .ready none))))) (nx+1) (up β nx (some (.raw (w.heap.size+1)))) W1 _ (λk=>DZ.closed) ?_ Cm ?_ ?_ ?_ ?_).mono ?_
  .rintro m k m' k' ⟨c,hc⟩ hle he;exact⟨c,DZ.closed m k m' k' hc hle he⟩
  .intro i hi;rw[aW _ _ (show i≠nx by omega)];exact hn i oG
  .refine Rs.append (Rs.append ?_ ?_) ?_
   .exact⟨by simp[H6],λk d v hd hv=>(hu k d v hd (tn hv)).step dY⟩
   .refine⟨rfl,λk d v hd hv=>?_⟩;cases k with
    |zero=>
     simp only[getElem?_cons_zero,aY] at hd;simp only[getElem?_toArray,getElem?_cons_zero,aY] at hv;subst hd;subst hv;exact .fn _ [] [] [] [] rfl rfl oS oS
    |succ k=>simp at hd
   .exact⟨by simp[tL],λk d v hd Cn=>(hv k d v hd (tn Cn)).step dY⟩
  .rintro k x m k' hx ⟨g,mc,nc,O,pL,hIk⟩ β2 w2 yO ux tM AG yP;let⟨hβi,zT,_,QQ⟩:=tM.Ea pL;have QR:yO.size=ps.size:=by rw[yP.1];exact(KT x (cL hx)).1
   have hy:=run_yield (P:=P) (args:=yO) zT (by rw[pB];exact QR);simp only[pB,Uo] at hy;refine⟨fn,_,assign,body,hy,λn'=>?_⟩;let⟨R0,yQ⟩:=O.enter tM;have H7:hidden F β2 g (w.heap.size+1):=(O.JG tM (λi e=>(O.Ae e).2.2 rfl) hβi rfl).2;have Xk:(β2.via g).free (w.heap.size+1):=(O.JG tM (λi e=>(O.Ae e).2.2 rfl) hβi rfl).1;have H8:gq (hidden F β2 g) (β2.via g) w2 env { tmps:=a.tmps,defers:=[] }:=λt=>own O ux (hs.e t)
   let⟨R1,Hv⟩:=Nf ps.toList x yO.toList env a.tmps (by simp[yP.1]) (λj d v hd hv=>
    ((KT x (cL hx)).2 d (cL hd) F β2 w2 v (yP.2 j d v hd (tn hv))).gen (bK _)
     (λb _ hb _=>⟨oB.refl _ b,aN.zw (F6 hb).2 _,λe=>e.elim (F6 hb).1 λe=>e.1 (F6 hb).2⟩) (λi p _ hp=>by cases hp)) (λt ht=>by rw[bZ];exact oY t ht) H8
   have QS:=AE (hidden F β2 g) (some (w.heap.size+1)) n' nk false nc (β2.via g) w2
    { tmps:=(ps.toList.zip yO.toList).foldl (λtmps (t,a)=>tmps.setIfInBounds t a) a.tmps,defers:=[] } oS (λ_ _ _ _ _ h=>h.elim) (by show gG (Array.size _) assign=true;rw[Hv,bZ];exact QN) _ ⟨xU env ps.toList x,mc,nc⟩ (β2.via g) w2 _
    (D1 k mc nc x hx hIk) ⟨R1,R0,yQ⟩ (eM.refl ⟨xU env ps.toList x,mc,nc⟩ _ _ _).Az
   refine roundIn_of_wpIn aa (wpIn_mono QS λe a3 w3 hp=>?_);let⟨lK,β3,hq3,lL,iA⟩:=hp;cases e with
   |normal=>
    have PW:w.heap.size+1<w3.heap.size:=Nat.lt_of_lt_of_le QQ iA.step.size;have ajL:w3.heap[w.heap.size+1]? =some (.loop (C .ready none)):=(iA.step.fF _ QQ Xk).1.trans zT;refine⟨_,run_beginRound ajL (by rw[pB]),?_⟩;have anC:=lL.wq (l:=w.heap.size+1) H7 RY (.loop { C .ready none with state:=.busy });have PX:=AF (hidden F β2 g) (some (w.heap.size+1)) n' nk false lK.nx β3 _ a3 oS (λ_ _ _ _ _ h=>h.elim) (by rw[iA.size];show gG (Array.size _) body=true;rw[Hv,bZ];exact QO) _ lK β3 _ a3 hq3 anC (eM.refl lK _ _ _).Az;refine wpIn_mono PX λe a4 w4 hp4=>?_;let⟨st4,β4,L7,hs4,H9⟩:=hp4;have ajM:w.heap.size+1<w4.heap.size:=Nat.lt_of_lt_of_le (tn PW) H9.step.size
    have ajN:w4.heap[w.heap.size+1]? =some (.loop { C .ready none with state:=.busy }):=
     (H9.step.fF _ (tn PW) (iA.step.fF _ QQ Xk).2).1.trans (World.putObj_heap_same PW)
    have fin:∀ (jump:Option Code) (K:D->Mem->Nat->Prop),(∀ f' nj tz,View nx nx f' st4.mem st4.nx nj tz->nj nx=some (.raw (w.heap.size+1) (.loop (C (if jump.isNone then .ready else .done) jump)))->K (.s (.bool jump.isNone)) nj tz)->
     ∃ v w',(Instr.endRound (w.heap.size+1) jump).run P w4=.ok v w'/\∃ v' d m' aw β',Ending.returned v=.returned v'/\K d m' aw/\aQ P F m' β' w'/\(∀ i,aw<=i->β' i=none)/\R F β' w' d v'/\Step β2 w2 β' w'/\k'<=aw/\∀ i,i<k'->β2 i=none->β' i=none:=λjump K hK=>by
     have dU:=run_endRound (P:=P) jump ajN;have e1:∀ s p,({ ({ C .ready none with state:=.busy }:Loop) with state:=s,pending:=p }:Loop)=C s p:=λs p=>by rw[pB]
     rw[e1] at dU
     let⟨f',nj,tz,lI,v1,v2,v3,v4,v5,v6,v7⟩:=O.ajK tM AG pL (o':=.loop (C (if jump.isNone then .ready else .done) jump)) (hs4.m.wq H7 RY _)
      (((iA.step.x _).trans (we.put _ β3 w3 _)).trans ((H9.step.x _).trans (we.put _ β4 w4 _))) hs4.n (Nat.le_trans iA.le H9.le) (λi hi hb=>H9.grow i (Nat.lt_of_lt_of_le hi iA.le) (iA.grow i hi hb)) (World.putObj_heap_same ajM)
     exact⟨_,_,dU,.bool jump.isNone,_,nj,tz,lI,rfl,hK f' nj tz v1 v2,v3,v4,.s _ rfl,v5,v6,v7⟩
    cases e with
    |normal=>exact fin none _ λf' nj tz v1 v2=>.inl ⟨rfl,f',_,_,v1,v2,L7⟩
    |ret=>exact fin (some .ret) _ λf' nj tz v1 v2=>.inr ⟨rfl,.ret,f',_,_,v1,v2,L7⟩
    |exit id=>exact fin (some (.exit id)) _ λf' nj tz v1 v2=>.inr ⟨rfl,.exit id,f',_,_,v1,v2,L7⟩
    |_=>exact L7.elim
   |_=>exact hq3.elim
  .refine⟨f₀,mem,nx,⟨bK _,oG,λi hi=>by simp[f₀,hi],λi hi=>⟨i,by simp[f₀,hi],oG,oG⟩,λi hi=>by simp[f₀,Nat.not_lt.2 hi],λi i' j h1 h2=>?_,λi r hi=>?_⟩,ap _ _ _,L6⟩
   .simp only[f₀,Option.ite_none_right_eq_some,aY] at h1 h2;omega
   .have al:i<nx:=by
     rcases Nat.lt_or_ge i nx with h1|h1
     .exact h1
     .rw[ahE i h1] at hi;cases hi
    exact⟨i,by simp[f₀,al],by rw[aW _ _ (show i≠nx by omega),hi];rfl⟩
  .rintro e w6 ⟨v,d6,m6,E2,β6,rfl,ZM,uP,hn6,_,pD,ZN,QT⟩
   have fin:∀ {g:Nat->Option Nat} {mc:Mem} {nc:Nat} (o':Obj),View nx nx g mc nc m6 E2->
    cy P F ⟨env,mc,nc⟩ (β6.via g) (w6.putObj (w.heap.size+1) o') { a with defers:=[mark w.heap.size]++a.defers }/\
    qw N₀ β₀ w₀ a₀ ⟨env,mc,nc⟩ (β6.via g) (w6.putObj (w.heap.size+1) o') { a with defers:=[mark w.heap.size]++a.defers }:=λ{g mc nc} o' O=>by
    let⟨R0,yQ⟩:=O.enter uP
    have H7:hidden F β6 g (w.heap.size+1):=by
     have hβ:β6 nx=some (.raw (w.heap.size+1))\/β6 nx=some .dead:=pD.iL nx _ s3;rcases hβ with hβ|hβ
     .exact(O.JG uP (λi e=>(O.Ae e).2.2 rfl) hβ rfl).2
     .exfalso;rcases ZM with⟨f',mc',sN,_,QU,_⟩|⟨c,f',mc',sN,_,QU,_⟩
      .rw[(uP.Ea QU).1] at hβ;cases hβ
      .rw[(uP.Ea QU).1] at hβ;cases hβ
    refine⟨⟨λt=>((own O pD (hs.e t)).wq H7 o').sE λb hb=>.inl hb,(R0.wq H7 RY o').sE (λb hb=>.inl hb) λt ht=>(hs.m.fb.jk t ht).1,yQ⟩,J.trans ⟨⟨?_,λb hb hf=>?_,λi p hp=>?_,(dY.out.trans pD.out).trans ⟨rfl,rfl⟩,λi r hp ki=>?_⟩,O.low,λi hi hb=>?_,rfl,[mark w.heap.size],rfl,?_⟩⟩
    .have:=pD.size;simp;omega
    .let⟨g1,g2⟩:=dY.fF b hb hf;let⟨g3,g4⟩:=pD.fF b oG g2;exact⟨(World.putObj_heap_other oG).trans (g3.trans g1),aN.zw g4 _⟩
    .have hi:i<nx:=by
      rcases Nat.lt_or_ge i nx with h1|h1
      .exact h1
      .rw[hn i h1] at hp;cases hp
     simp only[aN.via,O.id i hi,Option.bind_some];exact(dY.trans pD).iL i p hp
    .have hi:i<nx:=by
      rcases Nat.lt_or_ge i nx with h1|h1
      .exact h1
      .rw[hn i h1] at hp;cases hp
     simp only[aN.via,O.id i hi,Option.bind_some] at ki;have:=hs.m.lt i _ r hp rfl;exact((dY.trans pD).lp i r hp ki).trans (pV (World.putObj_heap_other oG))
    .have hi:i<nx:=hi;simp only[aN.via,O.id i hi,Option.bind_some];exact QT i oG (by rw[aW _ _ oG];exact hb)
    .refine⟨w.heap.size,rfl,bK _,?_,?_,?_,aa⟩
     .have:=pD.size;simp;omega
     .exact(World.putObj_heap_other oG).trans ((pD.fF _ oG GU).1.trans RZ)
     .exact aN.zw (pD.fF _ oG GU).2 _
   rcases ZM with⟨g,mc,nc,O,pL,hI⟩|⟨c,g,mc,nc,O,pL,hj⟩
   .have dU:(Instr.endLoop (w.heap.size+1)).run P w6=.ok none (w6.putObj (w.heap.size+1) (.loop (C .exhausted none))):=by
     have:=run_endLoop (P:=P) (uP.Ea pL).2.1 (by rw[pB];simp);rw[pB] at this ⊢;exact this
    let⟨g1,g2⟩:=fin (.loop (C .exhausted none)) O;exact⟨none,_,dU,⟨env,mc,nc⟩,_,KU mc nc hI,g1,g2⟩
   .have dU:(Instr.endLoop (w.heap.size+1)).run P w6=.ok (some c) (w6.putObj (w.heap.size+1) (.loop (C .exhausted (some c)))):=by
     have:=run_endLoop (P:=P) (uP.Ea pL).2.1 (by rw[pB];simp);rw[pB] at this ⊢;exact this
    let⟨g1,g2⟩:=fin (.loop (C .exhausted (some c))) O;refine⟨some c,_,dU,?_⟩;cases c with
    |ret=>exact wpIn_ret ⟨⟨env,mc,nc⟩,_,hj,g1,g2⟩
    |exit id=>exact wpIn_exit ⟨⟨env,mc,nc⟩,_,hj,g1,g2⟩
    |_=>exact hj.elim
 |_=>intro F r n Y rf N₀ β₀ w₀ a₀ U X al Q st β w a h;exact h.elim
end
end
end Go.Abs
