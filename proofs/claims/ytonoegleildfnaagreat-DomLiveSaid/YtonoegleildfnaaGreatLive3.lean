/- Part 3 of the proof; the last part says what is proved. -/
import Derived.Test.YtonoegleildfnaaGreatLive2
import Derived.Below
import Derived.Carry
import Derived.ChangeOld
import Derived.OpenShut
import Derived.ProofKit
import Derived.Test.YtonoegleildfnaaGreatProg
namespace Go.Abs
open Go.ChangeShapes Go.WideShapes
inductive Sh
 |int (k:IntKind)
 |bool
 |str
 |sl (s:Sh)
 |unit
 |pair (a b:Sh)
def Sh.val:Sh->Type
 | .int _=>Int
 | .bool=>Bool
 | .str=>ByteArray
 | .sl s=>List s.val
 | .unit=>Unit
 | .pair a b=>a.val×b.val
def Sh.size:Sh->Nat
 | .unit=>0
 | .pair a b=>a.size+b.size
 |_=>1
def Sh.enc:(s:Sh)->s.val->List D
 | .int k,n=>[.s (.int k n)]
 | .bool,b=>[.s (.bool b)]
 | .str,b=>[.s (.string b)]
 | .sl s,l=>[.sl (List.flatMap s.enc l) (List.length l)]
 | .unit,_=>[]
 | .pair a b,x=>a.enc x.1++b.enc x.2
def Sh.arg:(s:Sh)->s.val->D
 | .int k,n=>.s (.int k n)
 | .bool,b=>.s (.bool b)
 | .str,b=>.s (.string b)
 | .sl s,l=>.sl (List.flatMap s.enc l) (List.length l)
 | .unit,_=>.agg []
 | .pair a b,x=>.agg (a.enc x.1++b.enc x.2)
def Sh.ok:(s:Sh)->s.val->Prop
 | .int k,n=>(Lit.int k n).wf=true
 | .bool,_=>True
 | .str,b=>ByteArray.size b<=maxLen
 | .sl s,l=>∀ x:s.val,List.Mem x l->s.ok x
 | .unit,_=>True
 | .pair a b,x=>a.ok x.1/\b.ok x.2
theorem Sh.enc_length:∀ (s:Sh) (x:s.val),(s.enc x).length=s.size
 | .int _,_ | .bool,_ | .str,_ | .sl _,_ | .unit,_=>rfl
 | .pair a b,x=>by simp[Sh.enc,Sh.size,Sh.enc_length a,Sh.enc_length b]
section
variable(P:Program)
def shFs(C:TypeId->Option Sh):Nat->List Field->Option Sh
 |_,[]=>some .unit
 |off,f::fs=>if f.offset=off then match C f.type,shFs C (off+P.cellsOf f.type) fs with
  |some a,some b=>some (.pair a b)
  |_,_=>none
  else none
def shT:Nat->TypeId->Option Sh
 |0,_=>none
 |n+1,t=>match P.underlying t with
  |some .bool=>if P.cellsOf t=1 then some .bool else none
  |some (.int k)=>if P.cellsOf t=1 then some (.int k) else none
  |some .string=>if P.cellsOf t=1 then some .str else none
  |some (.slice e)=>if P.cellsOf t=1/\0<P.cellsOf e then(shT n e).map .sl else none
  |some (.struct fs)=>match shFs P (shT n) 0 fs.toList with
   |some s=>if s.size=P.cellsOf t then some s else none
   |none=>none
  |_=>none
end
section
variable{P:Program}{H:Type}{ec:TypeId×Value->H}{w:World}{base:Nat}{spare:Nat->Bool}{held:Bool}
def Holds(w:World)(ds:List D)(cs:List Value):Prop:=ds.length=cs.length/\∀ (k:Nat) (d:D) (u:Value),ds[k]? =some d->cs[k]? =some u->R (fun _=>False) noRows w d u/\u.oneCell'=true
theorem Holds.app{ds J:List D}{cs cs':List Value}(h:Holds w ds cs)(h':Holds w J cs'):Holds w (ds++J) (cs++cs'):=by
 refine⟨by simp[h.1,h'.1],fun k d u hd C=>?_⟩;by_cases hk:k<ds.length
 .rw[List.getElem?_append_left hk] at hd;rw[List.getElem?_append_left (by have:=h.1;omega)] at C;exact h.2 k d u hd C
 .rw[List.getElem?_append_right oG] at hd;rw[List.getElem?_append_right (by have:=h.1;omega), <- h.1] at C;exact h'.2 (k - ds.length) d u hd C
theorem Holds.one{d:D}{u:Value}(h:R (fun _=>False) noRows w d u)(h':u.oneCell'=true):Holds w [d] [u]:=⟨rfl,fun k d' J hd C=>by
 cases k with
 |zero=>simp at hd C;subst hd C;exact⟨h,h'⟩
 |succ k=>simp at hd⟩
theorem Holds.nil:Holds w [] []:=⟨rfl,by simp⟩
theorem shFs_nil{C:TypeId->Option Sh}{off:Nat}{s:Sh}(h:shFs P C off []=some s):s=.unit:=by
 simp only[shFs,Option.some.injEq] at h;exact h.symm
theorem shFs_cons{C:TypeId->Option Sh}{off:Nat}{f:Field}{fs:List Field}{s:Sh}(h:shFs P C off (f::fs)=some s):
 f.offset=off/\∃ a b,C f.type=some a/\shFs P C (off+P.cellsOf f.type) fs=some b/\s=.pair a b:=by
 simp only[shFs] at h;split at h
 .rename_i J;split at h
  .rename_i a b ha hb;simp only[Option.some.injEq] at h;exact⟨J,a,b,ha,hb,h.symm⟩
  .cases h
 .cases h
theorem shT_size:∀ (n:Nat) (t:TypeId) (s:Sh),shT P n t=some s->s.size=P.cellsOf t
 |0,_,_,h=>by cases h
 |n+1,t,s,h=>by
  unfold shT at h;split at h
  .split at h
   .rename_i h1;simp only[Option.some.injEq] at h;subst h;exact h1.symm
   .cases h
  .split at h
   .rename_i h1;simp only[Option.some.injEq] at h;subst h;exact h1.symm
   .cases h
  .split at h
   .rename_i h1;simp only[Option.some.injEq] at h;subst h;exact h1.symm
   .cases h
  .split at h
   .rename_i h1;simp only[Option.map_eq_some_iff] at h;obtain⟨a,_,rfl⟩:=h;exact h1.1.symm
   .cases h
  .split at h
   .split at h
    .rename_i h1;simp only[Option.some.injEq] at h;subst h;exact h1
    .cases h
   .cases h
  .cases h
def Reads(P:Program)(w:World)(C:TypeId->Option Sh)(rd:TypeId->List Value->Option (DataW H×List MemPlace)):Prop:=
 ∀ t s cs x,C t=some s->cs.length=P.cellsOf t->rd t cs=some x->∃ v:s.val,s.ok v/\Holds w (s.enc v) cs
theorem reads_fs{J:TypeId->Option Sh}{rd:TypeId->List Value->Option (DataW H×List MemPlace)}(U:∀ t s,J t=some s->s.size=P.cellsOf t)(h:Reads P w J rd){cs:List Value}:∀ (fs:List Field) (off:Nat) (s:Sh),shFs P J off fs=some s->off+s.size<=cs.length->
 (∀ f∈fs,∃ x,rd f.type ((cs.drop f.offset).take (P.cellsOf f.type))=some x)->∃ v:s.val,s.ok v/\Holds w (s.enc v) ((cs.drop off).take s.size)
 |[],off,s,hs,_,_=>by
  obtain rfl:=shFs_nil hs;exact⟨(),trivial,by simp[Sh.enc,Sh.size,Holds]⟩
 |f::fs,off,s,hs,hl,hr=>by
  obtain⟨mz,a,b,ha,hb,rfl⟩:=shFs_cons hs;obtain⟨x,hx⟩:=hr f oS;have kY:off+(a.size+b.size)<=cs.length:=hl;have bS:=U _ _ ha;rw[mz] at hx;obtain⟨v,tY,hv⟩:=h f.type a _ x ha (by simp only[List.length_take,List.length_drop];omega) hx;rw[<- bS] at hb hv;obtain⟨X,C,Jv⟩:=reads_fs U h fs (off+a.size) b hb oG fun g hg=>hr g (by simp[hg]);refine⟨(v,X),⟨tY,C⟩,?_⟩;have:=hv.app Jv;show Holds w (a.enc v++b.enc X) ((cs.drop off).take (a.size+b.size));rw[List.take_add,List.drop_drop];exact this
theorem cells_get{a:Addr}{n:Nat}{cs:List Value}(h:w.cells? base a n=some cs):cs.length=n/\∀ k,k<n->w.cell? (a.add k)=cs[k]? /\k<cs.length:=by
 unfold World.cells? at h;split at h
 .have hl:cs.length=n:=by simpa using mapM_some_length h
  exact⟨hl,fun k hk=>⟨mapM_some_get h k k (by simp[hk]),by omega⟩⟩
 .cases h
theorem choose_list{α β:Type}{p:Nat->α->β->Prop}:∀ (n:Nat) (l:Nat->α),(∀ i,i<n->∃ y,p i (l i) y)->∃ ys:List β,ys.length=n/\∀ i (h:i<n) y,ys[i]? =some y->p i (l i) y
 |0,_,_=>⟨[],rfl,fun i h=>by omega⟩
 |n+1,l,h=>by
  obtain⟨ys,h1,h2⟩:=choose_list n l fun i hi=>h i oG;obtain⟨y,hy⟩:=h n oG;refine⟨ys++[y],by simp[h1],fun i hi z C=>?_⟩;by_cases J:i<n
  .rw[List.getElem?_append_left oG] at C;exact h2 i J z C
  .have:i=n:=by omega
   subst this;rw[List.getElem?_append_right oG] at C;simp[h1] at C;subst C;exact hy
theorem flat_get{α:Type}{f:α->List D}{sz:Nat}(C:∀ x,(f x).length=sz):∀ (l:List α) (i j:Nat),j<sz->(l.flatMap f)[i*sz+j]? =(l[i]?).bind fun x=>(f x)[j]?
 |[],i,j,_=>by simp
 |x::l,0,j,h=>by simp[List.getElem?_append_left (show j<(f x).length by rw[C];exact h)]
 |x::l,i+1,j,h=>by
  rw[List.flatMap_cons,List.getElem?_append_right (by rw[C,Nat.add_mul];omega)];have:(i+1)*sz+j - (f x).length=i*sz+j:=by rw[C,Nat.add_mul];omega
  rw[this,flat_get C l i j h];simp
theorem reads_T:∀ (ff n:Nat),Reads P w (shT P n) (DataW.trod ec P w base spare held ff)
 |ff,0,t,s,cs,x,h,_,_=>by cases h
 |ff,n+1,t,s,cs,x,h,hl,hr=>by
  have bS:=shT_size _ _ _ h;unfold shT at h;split at h
  .rename_i ht;split at h
   .simp only[Option.some.injEq] at h;subst h;obtain⟨b,rfl,_⟩:=DataW.trod_bool ht hr;exact⟨b,trivial,.one (.s _ rfl) rfl⟩
   .cases h
  .rename_i k ht;split at h
   .simp only[Option.some.injEq] at h;subst h;obtain⟨b,rfl,_,hw⟩:=DataW.trod_int ht hr;exact⟨b,hw,.one (.s _ rfl) rfl⟩
   .cases h
  .rename_i ht;split at h
   .simp only[Option.some.injEq] at h;subst h;obtain⟨b,rfl,_,hw⟩:=DataW.trod_string ht hr;exact⟨b,hw,.one (.s _ rfl) rfl⟩
   .cases h
  .rename_i e ht;split at h
   .rename_i hc;simp only[Option.map_eq_some_iff] at h;obtain⟨a,ha,rfl⟩:=h;have haz:=shT_size _ _ _ ha;rcases DataW.trod_slice ht hr with⟨rfl,_⟩|⟨U,len,cap,Tf,rest,X,rfl,rfl,_,hb,hlc,hm,hlen,Cs,_,_⟩
    .exact⟨([]:List a.val),(fun x h=>nomatch h),.one (by exact .sln none 0) rfl⟩
    .have UO:∀ i,i<len->∃ C:List Value,w.cells? base (U.add (i*P.cellsOf e)) (P.cellsOf e)=some C/\∃ y,DataW.trod ec P w base spare held X e C=some y:=fun i hi=>by
      have:=Cs i hi;have hg:Tf[i]? =some Tf[i]:=by simp[hlen,hi]
      rw[hg,Option.bind_eq_some_iff] at this;obtain⟨C,h1,h2⟩:=this;exact⟨C,h1,_,h2⟩
     have BZ:∀ i,i<len->∃ v:a.val,a.ok v/\∃ C,w.cells? base (U.add (i*P.cellsOf e)) (P.cellsOf e)=some C/\Holds w (a.enc v) C:=fun i hi=>by
      obtain⟨C,h1,y,h2⟩:=UO i hi;obtain⟨v,tY,hv⟩:=reads_T X n e a C y ha (cells_get h1).1 h2;exact⟨v,tY,C,h1,hv⟩
     obtain⟨vs,pT,xO⟩:=choose_list (p:=fun(i:Nat) (_:Nat) (v:a.val)=>a.ok v/\∃ C,w.cells? base (U.add (i*P.cellsOf e)) (P.cellsOf e)=some C/\Holds w (a.enc v) C) len (fun i=>i) BZ
     have amr:∀ x:a.val,x∈vs->a.ok x:=fun x hm=>by
      obtain⟨i,hx⟩:=List.getElem?_of_mem hm;exact(xO i (by have:=(List.getElem?_eq_some_iff.1 hx).1;omega) x hx).1
     cases len with
     |zero=>
      have:vs=[]:=List.length_eq_zero_iff.1 pT;subst this;exact⟨([]:List a.val),(fun x h=>nomatch h),.one (by exact .sln _ cap) rfl⟩
     |succ l=>
      obtain⟨C,h0,_⟩:=UO 0 oG;have z6:=(cells_get h0).2 0 hc.2;simp only[Nat.zero_mul,Addr.add,if_true] at z6;obtain⟨b,o,sp⟩:=U;have D6:∃ u,w.cell? ⟨b,o,sp⟩=some u:=⟨C[0],by rw[z6.1];simp[z6.2]⟩
      obtain⟨u0,J⟩:=D6;unfold World.cell? at J
      have lN:b<w.heap.size:=by
       cases hh:w.heap[b]? with
       |none=>rw[hh] at J;cases J
       |some x=>exact(Array.getElem?_eq_some_iff.1 hh).1
      have oY:sp=none:=by
       cases sp with
       |none=>rfl
       |some q=>
        simp only at J;split at J
        .simp at J
        .cases J
      subst oY
      have ams:∀ i j,((⟨b,o,none⟩:Addr).add i).add j=⟨b,o+(i+j),none⟩:=fun i j=>by
       unfold Addr.add;split<;>split<;>simp_all;omega
      have hk:∀ k d,(vs.flatMap a.enc)[k]? =some d->∃ u,w.cell? ⟨b,o+k,none⟩=some u/\R (fun _=>False) noRows w d u/\u.oneCell'=true:=fun k d hd=>by
       have ie:0<a.size:=by omega
       have B8:k / a.size*a.size+k % a.size=k:=by rw[Nat.mul_comm];exact Nat.div_add_mod k a.size
       have Kv:=Nat.mod_lt k ie;rw[<- B8,flat_get a.enc_length _ _ _ Kv,Option.bind_eq_some_iff] at hd;obtain⟨x,hx,hd⟩:=hd
       have hi:k / a.size<l+1:=by
        have:=(List.getElem?_eq_some_iff.1 hx).1;omega
       obtain⟨_,C,hci,hho⟩:=xO _ hi x hx;obtain⟨h1,h2⟩:=(cells_get hci).2 (k % a.size) oG;rw[ams, <- haz,B8] at h1;refine⟨C[k % a.size],by rw[h1];simp[h2],hho.2 _ d _ hd (by simp[h2])⟩
      refine⟨vs,fun x h=>amr x h,.one (by
       have Cx:(List.length vs)=l+1:=pT;show R _ _ _ (.sl (List.flatMap a.enc vs) (List.length vs)) _;rw[Cx];refine .sl _ _ b o cap (fun k=>(w.cell? ⟨b,o+k,none⟩).getD undef) oS (fun _ _ h=>by cases h) lN hlc hm (fun k oA=>?_) fun k d hd=>?_
       .obtain⟨u,h1,_,h3⟩:=hk k _ (List.getElem?_eq_getElem oA);simp[h1,h3]
       .obtain⟨u,h1,h2,_⟩:=hk k d hd
        simpa[h1] using h2) rfl⟩
   .cases h
  .rename_i fs ht;obtain⟨xs,X,rfl,_,_,VK,sF⟩:=DataW.trod_struct ht hr;split at h
   .rename_i s' dw;split at h
    .rename_i hs;simp only[Option.some.injEq] at h;subst h
     obtain⟨v,tY,hv⟩:=reads_fs (P:=P) (w:=w) (fun t s=>shT_size n t s) (reads_T X n) (cs:=cs) fs.toList 0 s' dw oG fun f hf=>by
      obtain⟨i,hi,rfl⟩:=Array.getElem_of_mem (Array.mem_toList_iff.1 hf);have:=sF i fs[i] (by simp[hi]);exact⟨xs[i],by rw[this];simp[VK,hi]⟩
     refine⟨v,tY,?_⟩;rw[List.drop_zero,List.take_of_length_le oG] at hv;exact hv
    .cases h
   .cases h
  .cases h
theorem arg_R{r:Reach}{b0:Nat}{t:TypeId}{v:Value}{d:DataW H}{ps:List MemPlace}{n:Nat}{s:Sh}(C:shT P n t=some s)(hv:Value.okWide P w r b0 t v)(hd:DataW.Trod ec P w base spare held t v d ps):
 ∃ x:s.val,s.ok x/\R (fun _=>False) noRows w (s.arg x) v:=by
 cases n with
 |zero=>cases C
 |succ n=>
  obtain⟨ff,hf⟩:=hd;have hz:=shT_size _ _ _ C;have key:v.cells.toList.length=P.cellsOf t->∃ x:s.val,s.ok x/\Holds w (s.enc x) v.cells.toList:=fun hl=>reads_T ff (n+1) t s _ _ C hl hf;unfold shT at C;split at C
  .rename_i ht;obtain⟨b,rfl⟩:=okWide_bool ht hv;split at C
   .simp only[Option.some.injEq] at C;subst C;exact⟨b,trivial,.s _ rfl⟩
   .cases C
  .rename_i k ht;obtain⟨b,rfl⟩:=okWide_int ht hv;split at C
   .simp only[Option.some.injEq] at C;subst C;obtain⟨c,hc,_,X⟩:=DataW.trod_int ht hf;simp[Value.cells] at hc;subst hc;exact⟨b,X,.s _ rfl⟩
   .cases C
  .rename_i ht;obtain⟨b,rfl⟩:=okWide_string ht hv;split at C
   .simp only[Option.some.injEq] at C;subst C;obtain⟨c,hc,_,X⟩:=DataW.trod_string ht hf;simp[Value.cells] at hc;subst hc;exact⟨b,X,.s _ rfl⟩
   .cases C
  .rename_i e ht;obtain⟨a,len,cap,rfl⟩:=okWide_slice ht hv;split at C
   .rename_i h1;simp only[Option.map_eq_some_iff] at C;obtain⟨q,_,rfl⟩:=C;obtain⟨x,U,hx⟩:=key h1.1.symm;exact⟨x,U,(hx.2 0 _ _ rfl rfl).1⟩
   .cases C
  .rename_i fs ht;obtain⟨cs,rfl,bS⟩:=okWide_struct ht hv;obtain⟨x,U,hx⟩:=key (by simpa[Value.cells] using bS);refine⟨x,U,?_⟩
   have ha:s.arg x=.agg (s.enc x):=by
    split at C
    .rename_i s' J;split at C
     .simp only[Option.some.injEq] at C;subst C;cases q8:fs.toList with
      |nil=>
       rw[q8] at J;obtain rfl:=shFs_nil J;rfl
      |cons f Fv=>
       rw[q8] at J;obtain⟨_,a,b,_,_,rfl⟩:=shFs_cons J;rfl
     .cases C
    .cases C
   rw[ha];have:=hx.1;simp only[Value.cells] at this hx;have e:cs=cs.toList.toArray:=by simp
   rw[e];exact .agg _ cs.toList this.symm fun k d v h1 h2=>(hx.2 k d v h1 h2).1
  .cases C
theorem flat_one{α β:Type}(f:α->β):∀ l:List α,(l.flatMap fun x=>[f x])=l.map f
 |[]=>rfl
 |x::l=>by rw[List.flatMap_cons,flat_one f l];rfl
theorem flat_congr{α β γ:Type}{f:α->List γ}{g:β->List γ}{h:α->β}(he:∀ x,f x=g (h x)):∀ l:List α,l.flatMap f=(l.map h).flatMap g
 |[]=>rfl
 |x::l=>by rw[List.flatMap_cons,List.map_cons,List.flatMap_cons,he,flat_congr he l]
end
end Go.Abs
namespace Go.Argus
open Go.Abs
abbrev n6:Sh:=.int .i64
abbrev B0:Sh:=.int .u8
abbrev BA:Sh:=.pair B0 (.pair n6 (.pair n6 (.pair n6 (.pair n6 (.pair (.sl n6) .unit)))))
abbrev DX:Sh:=.pair .str (.pair n6 .unit)
abbrev Ei:Sh:=.pair B0 (.pair n6 (.pair n6 (.pair n6 (.pair n6 (.pair .str (.pair BA (.pair (.sl n6) (.pair (.sl DX) (.pair n6 .unit)))))))))
abbrev DO:Sh:=.pair (.sl BA) (.pair Ei .unit)
abbrev wG:Sh:=.pair .str (.pair .bool (.pair n6 (.pair B0 (.pair (.sl B0) (.pair (.sl B0) (.pair (.sl .str) (.pair (.sl DO) .unit)))))))
def Iy(x:BA.val):aW:=⟨x.1,x.2.1,x.2.2.1,x.2.2.2.1,x.2.2.2.2.1,x.2.2.2.2.2.1⟩
def QT(x:DX.val):jn:=⟨x.1,x.2.1⟩
def Tg(x:Ei.val):End:=⟨x.1,x.2.1,x.2.2.1,x.2.2.2.1,x.2.2.2.2.1,x.2.2.2.2.2.1,Iy x.2.2.2.2.2.2.1,x.2.2.2.2.2.2.2.1,List.map QT x.2.2.2.2.2.2.2.2.1,x.2.2.2.2.2.2.2.2.2.1⟩
def O1(x:DO.val):bt:=⟨List.map Iy x.1,Tg x.2.1⟩
def QU(x:wG.val):aA:=⟨x.1,x.2.1,x.2.2.1,x.2.2.2.1,x.2.2.2.2.1,x.2.2.2.2.2.1,x.2.2.2.2.2.2.1,List.map O1 x.2.2.2.2.2.2.2.1⟩
theorem DY{k:IntKind}(l:List Int):D.sl (List.flatMap (Sh.enc (.int k)) l) l.length=.sl (l.map fun n=>.s (.int k n)) l.length:=congrArg (D.sl · l.length) (flat_one (fun n=>D.s (.int k n)) l)
theorem abF(l:List ByteArray):D.sl (List.flatMap (Sh.enc .str) l) l.length=pg l:=congrArg (D.sl · l.length) (flat_one S l)
theorem Iz{s:Sh}{β:Type}{g:β->List D}{h:s.val->β}(he:∀ x,s.enc x=g (h x))(l:List s.val):D.sl (List.flatMap s.enc l) l.length=.sl ((l.map h).flatMap g) (l.map h).length:=by
 rw[flat_congr he l,List.length_map]
theorem c1'{α β:Type}(f:α->β){a a':α}(h:a=a'):f a=f a':=by rw[h]
theorem c2'{α β γ:Type}(f:α->β->γ){a a':α}{b C:β}(h:a=a')(h2:b=C):f a b=f a' C:=by rw[h,h2]
theorem c3'{α β γ δ:Type}(f:α->β->γ->δ){a a':α}{b C:β}{c J:γ}(h:a=a')(h2:b=C)(h3:c=J):f a b c=f a' C J:=by rw[h,h2,h3]
theorem c4'{α β γ δ ε:Type}(f:α->β->γ->δ->ε){a a':α}{b C:β}{c J:γ}{d d':δ}(h:a=a')(h2:b=C)(h3:c=J)(h4:d=d'):f a b c d=f a' C J d':=by rw[h,h2,h3,h4]
theorem O2(x:BA.val):BA.enc x=a8 (Iy x):=
 c1' (fun q=>[U8 x.1,I x.2.1,I x.2.2.1,I x.2.2.2.1,I x.2.2.2.2.1,q]) (DY (k:=.i64) x.2.2.2.2.2.1)
theorem Z4(x:DX.val):DX.enc x=kJ (QT x):=rfl
theorem aaX(x:Ei.val):Ei.enc x=aT (Tg x):=
 c3' (fun a b c=>[U8 x.1,I x.2.1,I x.2.2.1,I x.2.2.2.1,I x.2.2.2.2.1,S x.2.2.2.2.2.1]++(a++[b,c,I x.2.2.2.2.2.2.2.2.2.1])) (O2 x.2.2.2.2.2.2.1) (DY (k:=.i64) x.2.2.2.2.2.2.2.1) (Iz Z4 x.2.2.2.2.2.2.2.2.1)
theorem YJ(x:DO.val):DO.enc x=cR (O1 x):=by
 have:=c2' (fun a b=>a::(b++[])) (Iz O2 x.1) (aaX x.2.1);refine Eq.trans this ?_;rw[List.append_nil];rfl
theorem ZM(x:wG.val):wG.arg x=.agg (aC (QU x)):=
 c4' (fun a b c d=>D.agg [S x.1,B x.2.1,I x.2.2.1,U8 x.2.2.2.1,a,b,c,d]) (DY (k:=.u8) x.2.2.2.2.1) (DY (k:=.u8) x.2.2.2.2.2.1) (abF x.2.2.2.2.2.2.1) (Iz YJ x.2.2.2.2.2.2.2.1)
end Go.Argus
namespace Go.Abs
open Go.Argus
class V{α:Type}(x:α)(y:outParam α):Prop where h:x=y
section
variable{P:Program}{Y:YSpec}{ops:Array Oper}{dr:Bool}{cf:List (Nat×Nat)}{Q:Exit->St->Prop}{r:List Oper}{v:Env}{m:Mem}{n:Nat}{q:Tra}{x:Oper}{s:St}{e:List Nat×List Nat}
variable{t:Option Nat}{u:Nat}{ty:TypeId}{pos:String}{after:Array Edge}{j:Nat}{b c:Bool}{op:Op}
def SO(P:Program)(Y:YSpec)(ops:Array Oper)(dr:Bool)(o:Oper)(v:Env)(m:Mem)(n:Nat)(s:St)(e:List Nat×List Nat):Prop:=
 ∀ cf Q r q,AOps P Y ops dr cf Q r s (q++[e])->AOps P Y ops dr cf Q (o::r) ⟨v,m,n⟩ q
theorem ak{l:List Operand}(h:gG v l:=by repeat' (first|exact trivial|exact hc|exact rfl|refine And.intro ?_ ?_)):gG v l:=h
theorem z(K:∀ (x:D) rd,AOps P Y ops dr cf Q r (St.put ⟨v,m,n⟩ t (.opt false x)) (q++[(rd,[])]))(hj:(ops[j]?).bind (·.dst)=some u:=by exact rfl)(hg:guardC (v u) b=some false:=by exact rfl):
 AOps P Y ops dr cf Q (⟨t,op,ty,pos,after,some (j,b)⟩::r) ⟨v,m,n⟩ q:=Re hj hg K
theorem cl{f:FuncId}{gs:List D}{d:D}{t:Nat}(h:PCall P f gs d)(K:AOps P Y ops dr cf Q r ⟨up v t d,m,n⟩ (q++[([],[])]))(hc:callD (rho v op) op=some (f,gs):=by exact rfl)(ha:gG v op.operands.toList:=by exact ak):
 AOps P Y ops dr cf Q (⟨some t,op,ty,pos,after,none⟩::r) ⟨v,m,n⟩ q:=ab3 h hc ha K
theorem gc{f:FuncId}{gs:List D}{d:D}{t:Nat}(h:PCall P f gs d)(K:AOps P Y ops dr cf Q r ⟨up v t (.opt c d),m,n⟩ (q++[([],[])]))(hj:(ops[j]?).bind (·.dst)=some u:=by exact rfl)(hg:guardC (v u) b=some c:=by exact rfl)(hl:callD (rho v op) op=some (f,gs):=by exact rfl)(ha:c=true->gG v op.operands.toList:=by exact fun hc=>ak):
 AOps P Y ops dr cf Q (⟨some t,op,ty,pos,after,some (j,b)⟩::r) ⟨v,m,n⟩ q:=Hy hj hg hl (fun hc=>⟨ha hc,h⟩) K
theorem J67(K:AOps P Y ops dr cf Q r s (q++[e]))(h:SO P Y ops dr x v m n s e:=by intro _ _ _ _ k;exact bm rfl rfl (jb (v:=.pt _) rfl) (fun hc=>⟨ak,trivial⟩) k):AOps P Y ops dr cf Q (x::r) ⟨v,m,n⟩ q:=h _ _ _ _ K
theorem J87(K:AOps P Y ops dr cf Q r s (q++[e]))(h:SO P Y ops dr x v m n s e:=by intro _ _ _ _ k;exact bm rfl rfl (O8 rfl) (fun hc=>⟨ak,trivial⟩) k):AOps P Y ops dr cf Q (x::r) ⟨v,m,n⟩ q:=h _ _ _ _ K
theorem aj'(K:AOps P Y ops dr cf Q r s (q++[e]))(h:SO P Y ops dr x v m n s e:=by intro _ _ _ _ k;exact aB (qd (v:=.s (.pointer none)) rfl rfl) ak (by first|decide|simp) k):AOps P Y ops dr cf Q (x::r) ⟨v,m,n⟩ q:=h _ _ _ _ K
theorem aka(K:AOps P Y ops dr cf Q r s (q++[e]))(h:SO P Y ops dr x v m n s e:=by intro _ _ _ _ k;exact aB (qd (v:=.pt _) rfl rfl) ak (by first|decide|simp) k):AOps P Y ops dr cf Q (x::r) ⟨v,m,n⟩ q:=h _ _ _ _ K
theorem TY(K:AOps P Y ops dr cf Q r s (q++[e]))(h:SO P Y ops dr x v m n s e:=by intro _ _ _ _ k;exact aB (lk (v:=.pt _) rfl) ak trivial k):AOps P Y ops dr cf Q (x::r) ⟨v,m,n⟩ q:=h _ _ _ _ K
theorem akp(K:AOps P Y ops dr cf Q r s (q++[e]))(h:SO P Y ops dr x v m n s e:=by intro _ _ _ _ k;exact bm rfl rfl (HS rfl rfl) (fun hc=>⟨ak,rfl⟩) k):AOps P Y ops dr cf Q (x::r) ⟨v,m,n⟩ q:=h _ _ _ _ K
theorem Ud(K:AOps P Y ops dr cf Q r s (q++[e]))(h:SO P Y ops dr x v m n s e:=by intro _ _ _ _ k;exact aB (cP (vs:=aC _) rfl rfl V.h V.h rfl) ak (cQ V.h V.h (by first|(simp;done)|omega|exact Nat.le_of_ble_eq_true rfl)) k):AOps P Y ops dr cf Q (x::r) ⟨v,m,n⟩ q:=h _ _ _ _ K
theorem TR(K:AOps P Y ops dr cf Q r s (q++[e]))(h:SO P Y ops dr x v m n s e:=by intro _ _ _ _ k;exact cr (gy (d:=.s (.bool _)) (cs':=_) rfl rfl bX rfl rfl) ak (dy V.h V.h (by first|(simp;done)|exact⟨rfl,Nat.le_of_ble_eq_true rfl⟩|(simp;omega)) rfl) k):AOps P Y ops dr cf Q (x::r) ⟨v,m,n⟩ q:=h _ _ _ _ K
theorem Uq(K:AOps P Y ops dr cf Q r s (q++[e]))(h:SO P Y ops dr x v m n s e:=by intro _ _ _ _ k;exact bm rfl rfl (Pn rfl rfl pK) (fun hc=>⟨ak,rfl⟩) k):AOps P Y ops dr cf Q (x::r) ⟨v,m,n⟩ q:=h _ _ _ _ K
theorem TA(K:AOps P Y ops dr cf Q r s (q++[e]))(h:SO P Y ops dr x v m n s e:=by intro _ _ _ _ k;exact aB (Po rfl rfl tq) ak rfl k):AOps P Y ops dr cf Q (x::r) ⟨v,m,n⟩ q:=h _ _ _ _ K
theorem ao2(K:AOps P Y ops dr cf Q r s (q++[e]))(h:SO P Y ops dr x v m n s e:=by intro _ _ _ _ k;exact aB (uD rfl rfl V.h V.h (YI) (by assumption)) ak (uE V.h (YI) (by assumption)) k):AOps P Y ops dr cf Q (x::r) ⟨v,m,n⟩ q:=h _ _ _ _ K
theorem TB(K:AOps P Y ops dr cf Q r s (q++[e]))(h:SO P Y ops dr x v m n s e:=by intro _ _ _ _ k;exact aB (HQ rfl rfl) ak rfl k):AOps P Y ops dr cf Q (x::r) ⟨v,m,n⟩ q:=h _ _ _ _ K
theorem TN(K:AOps P Y ops dr cf Q r s (q++[e]))(h:SO P Y ops dr x v m n s e:=by intro _ _ _ _ k;exact aB (Gt (cs:=bh _ _ _) V.h V.h V.h rfl rfl) ak ⟨V.h,V.h⟩ k):AOps P Y ops dr cf Q (x::r) ⟨v,m,n⟩ q:=h _ _ _ _ K
theorem Tx(K:AOps P Y ops dr cf Q r s (q++[e]))(h:SO P Y ops dr x v m n s e:=by intro _ _ _ _ k;exact cr (gy (d:=.s (.int _ _)) (cs':=[_]) rfl rfl rfl rfl rfl) ak (dy V.h V.h (by first|(simp;done)|exact⟨rfl,Nat.le_of_ble_eq_true rfl⟩|(simp;omega)) rfl) k):AOps P Y ops dr cf Q (x::r) ⟨v,m,n⟩ q:=h _ _ _ _ K
theorem Tv(K:AOps P Y ops dr cf Q r s (q++[e]))(h:SO P Y ops dr x v m n s e:=by intro _ _ _ _ k;exact aB (lk (v:=.fn _ _ _) rfl) ak trivial k):AOps P Y ops dr cf Q (x::r) ⟨v,m,n⟩ q:=h _ _ _ _ K
theorem Ty(K:AOps P Y ops dr cf Q r s (q++[e]))(h:SO P Y ops dr x v m n s e:=by intro _ _ _ _ k;exact cr (gy (d:=.rs _ _ _) (cs':=[_]) rfl rfl (af oG (af oG aq)) rfl rfl) ak (dy V.h V.h (by first|(simp;done)|exact⟨rfl,Nat.le_of_ble_eq_true rfl⟩|(simp;omega)) rfl) k):AOps P Y ops dr cf Q (x::r) ⟨v,m,n⟩ q:=h _ _ _ _ K
theorem Tz(K:AOps P Y ops dr cf Q r s (q++[e]))(h:SO P Y ops dr x v m n s e:=by intro _ _ _ _ k;exact cr (gy (d:=.rs _ _ _) (cs':=[_]) rfl rfl (af oG (af oG (af oG aq))) rfl rfl) ak (dy V.h V.h (by first|(simp;done)|exact⟨rfl,Nat.le_of_ble_eq_true rfl⟩|(simp;omega)) rfl) k):AOps P Y ops dr cf Q (x::r) ⟨v,m,n⟩ q:=h _ _ _ _ K
theorem TD(K:AOps P Y ops dr cf Q r s (q++[e]))(h:SO P Y ops dr x v m n s e:=by intro _ _ _ _ k;exact bm rfl rfl (Pp rfl rfl lG) (fun hc=>⟨ak,rfl⟩) k):AOps P Y ops dr cf Q (x::r) ⟨v,m,n⟩ q:=h _ _ _ _ K
theorem TT(K:AOps P Y ops dr cf Q r s (q++[e]))(h:SO P Y ops dr x v m n s e:=by intro _ _ _ _ k;exact cr (gy (d:=.rs _ _ _) (cs':=[_]) rfl rfl rfl rfl rfl) ak (dy V.h V.h (by first|(simp;done)|exact⟨rfl,Nat.le_of_ble_eq_true rfl⟩|(simp;omega)) rfl) k):AOps P Y ops dr cf Q (x::r) ⟨v,m,n⟩ q:=h _ _ _ _ K
theorem ao3(K:AOps P Y ops dr cf Q r s (q++[e]))(h:SO P Y ops dr x v m n s e:=by intro _ _ _ _ k;exact aB (Hq rfl rfl) ak V.h k):AOps P Y ops dr cf Q (x::r) ⟨v,m,n⟩ q:=h _ _ _ _ K
theorem UB(K:AOps P Y ops dr cf Q r s (q++[e]))(h:SO P Y ops dr x v m n s e:=by intro _ _ _ _ k;exact aB (o8 rfl (af oG (af oG (af oG aq))) V.h) ak (m7 V.h) k):AOps P Y ops dr cf Q (x::r) ⟨v,m,n⟩ q:=h _ _ _ _ K
theorem ao4(K:AOps P Y ops dr cf Q r s (q++[e]))(h:SO P Y ops dr x v m n s e:=by intro _ _ _ _ k;exact eQ (Af V.h V.h V.h rfl rfl) ak ⟨rfl,by decide,V.h,by decide⟩ k):AOps P Y ops dr cf Q (x::r) ⟨v,m,n⟩ q:=h _ _ _ _ K
theorem akC(K:AOps P Y ops dr cf Q r s (q++[e]))(h:SO P Y ops dr x v m n s e:=by intro _ _ _ _ k;exact bm rfl rfl (O6 rfl rfl) (fun hc=>⟨ak,V.h⟩) k):AOps P Y ops dr cf Q (x::r) ⟨v,m,n⟩ q:=h _ _ _ _ K
variable{rf:Bool}{W:Exit->St->Prop}{o:Array Oper}{B:Code}{i:Nat}{k:St}
theorem ws[dD Y](h:AOps P Y o false [] (fu fun k=>AW P Y rf B W k) o.toList k []):AW P Y rf (.seq (.region i o false) B) W k:=an h
theorem er[dD Y](h:AOps P Y o false [] (fu fun k=>AW P Y rf B W k) o.toList k []):AOps P Y ops dr [] (fu fun k=>AW P Y rf (.seq (.region i o false) B) W k) [] k q:=ab (an h)
end
end Go.Abs
theorem eH{p:Prop}(h:p:=by repeat' (first|exact trivial|exact rfl|refine And.intro ?_ ?_)):p:=h
namespace Go.Proofs.Tryz.K
open Go.Abs
theorem kR{α:Sort _}{a b:α}(h:a=b:=by kernel_rfl):a=b:=h
instance:V (prog.cellsOf 1) 1:=⟨c1⟩
instance:V (aggP prog 1) false:=⟨a1⟩
instance:V (tyOk prog 1) true:=⟨kR⟩
instance:V (prog.bytesOf 1) 8:=⟨b1⟩
instance:V (prog.cellsOf 2) 1:=⟨c2⟩
instance:V (prog.bytesOf 2) 8:=⟨b2⟩
instance:V (aggP prog 2) false:=⟨a2⟩
instance:V (tyOk prog 2) true:=⟨kR⟩
instance:V (prog.cellsOf 3) 1:=⟨c3⟩
instance:V (prog.bytesOf 3) 8:=⟨b3⟩
instance:V (aggP prog 3) false:=⟨a3⟩
instance:V (tyOk prog 3) true:=⟨kR⟩
instance:V (zeroP prog 3) [.s (.int .i64 0)]:=⟨kR⟩
instance:V (prog.cellsOf 4) 1:=⟨c4⟩
instance:V (prog.bytesOf 4) 1:=⟨b4⟩
instance:V (aggP prog 4) false:=⟨a4⟩
instance:V (tyOk prog 4) true:=⟨kR⟩
instance:V (zeroP prog 4) [.s (.bool false)]:=⟨kR⟩
instance:V (boT prog 4) true:=⟨kR⟩
instance:V (prog.cellsOf 5) 1:=⟨c5⟩
instance:V (prog.bytesOf 5) 1:=⟨b5⟩
instance:V (aggP prog 5) false:=⟨a5⟩
instance:V (tyOk prog 5) true:=⟨kR⟩
instance:V (zeroP prog 5) [.s (.int .u8 0)]:=⟨kR⟩
instance:V (prog.bytesOf 6) 1:=⟨b6⟩
instance:V (aggP prog 6) false:=⟨a6⟩
instance:V (prog.cellsOf 9) 1:=⟨kR⟩
instance:V (aggP prog 9) false:=⟨kR⟩
instance:V (tyOk prog 9) true:=⟨kR⟩
instance:V (stT prog 9) true:=⟨kR⟩
instance:V (elemP prog 15) 275:=⟨CF⟩
instance:V (elemP prog 16) 278:=⟨CG⟩
instance:V (elemP prog 17) 287:=⟨CE⟩
instance:V (prog.cellsOf 22) 1:=⟨kR⟩
instance:V (aggP prog 22) false:=⟨kR⟩
instance:V (tyOk prog 22) true:=⟨kR⟩
instance:V (elemP prog 22) 5:=⟨Vi⟩
instance:V (slT prog 22) true:=⟨TK⟩
instance:V (prog.cellsOf 23) 1:=⟨kR⟩
instance:V (aggP prog 23) false:=⟨kR⟩
instance:V (tyOk prog 23) true:=⟨kR⟩
instance:V (elemP prog 23) 9:=⟨kR⟩
instance:V (slT prog 23) true:=⟨kR⟩
instance:V (prog.cellsOf 24) 1:=⟨kR⟩
instance:V (aggP prog 24) false:=⟨kR⟩
instance:V (tyOk prog 24) true:=⟨kR⟩
instance:V (elemP prog 24) 72:=⟨kR⟩
instance:V (slT prog 24) true:=⟨kR⟩
instance:V (prog.cellsOf 26) 8:=⟨kR⟩
instance:V (aggP prog 26) true:=⟨kR⟩
instance:V (tyOk prog 26) true:=⟨kR⟩
instance:V (zeroP prog 26) [.s (.string "".toUTF8),.s (.bool false),.s (.int .i64 0),.s (.int .u8 0),.z,.z,.z,.z]:=⟨kR⟩
instance:V (fieldP prog 26 0) (some (0,9)):=⟨kR⟩
instance:V (fieldP prog 26 1) (some (1,4)):=⟨kR⟩
instance:V (fieldP prog 26 2) (some (2,3)):=⟨kR⟩
instance:V (fieldP prog 26 3) (some (3,5)):=⟨kR⟩
instance:V (fieldP prog 26 4) (some (4,22)):=⟨kR⟩
instance:V (fieldP prog 26 5) (some (5,22)):=⟨kR⟩
instance:V (fieldP prog 26 6) (some (6,23)):=⟨kR⟩
instance:V (fieldP prog 26 7) (some (7,24)):=⟨kR⟩
instance:V (prog.cellsOf 27) 1:=⟨sK⟩
instance:V (prog.bytesOf 27) 24:=⟨E'⟩
instance:V (aggP prog 27) false:=⟨kR⟩
instance:V (tyOk prog 27) true:=⟨kR⟩
instance:V (zeroP prog 27) [.z]:=⟨kR⟩
instance:V (elemP prog 27) 3:=⟨CD⟩
instance:V (slT prog 27) true:=⟨BU⟩
instance:V (prog.cellsOf 28) 1:=⟨kR⟩
instance:V (aggP prog 28) false:=⟨kR⟩
instance:V (tyOk prog 28) true:=⟨kR⟩
instance:V (elemP prog 28) 27:=⟨kR⟩
instance:V (slT prog 28) true:=⟨kR⟩
instance:V (prog.cellsOf 52) 1:=⟨V5⟩
instance:V (prog.bytesOf 52) 24:=⟨CL⟩
instance:V (aggP prog 52) false:=⟨kR⟩
instance:V (tyOk prog 52) true:=⟨kR⟩
instance:V (zeroP prog 52) [.z]:=⟨kR⟩
instance:V (elemP prog 52) 4:=⟨kR⟩
instance:V (slT prog 52) true:=⟨kR⟩
instance:V (prog.cellsOf 66) 6:=⟨kR⟩
instance:V (aggP prog 66) true:=⟨kR⟩
instance:V (tyOk prog 66) true:=⟨kR⟩
instance:V (zeroP prog 66) [.s (.int .u8 0),.s (.int .i64 0),.s (.int .i64 0),.s (.int .i64 0),.s (.int .i64 0),.z]:=⟨kR⟩
instance:V (fieldP prog 66 0) (some (0,5)):=⟨kR⟩
instance:V (fieldP prog 66 1) (some (1,3)):=⟨kR⟩
instance:V (fieldP prog 66 2) (some (2,3)):=⟨kR⟩
instance:V (fieldP prog 66 3) (some (3,3)):=⟨kR⟩
instance:V (fieldP prog 66 4) (some (4,3)):=⟨kR⟩
instance:V (fieldP prog 66 5) (some (5,27)):=⟨kR⟩
instance:V (prog.cellsOf 67) 1:=⟨kR⟩
instance:V (aggP prog 67) false:=⟨kR⟩
instance:V (tyOk prog 67) true:=⟨kR⟩
instance:V (elemP prog 67) 199:=⟨kR⟩
instance:V (slT prog 67) true:=⟨kR⟩
instance:V (prog.cellsOf 69) 15:=⟨kR⟩
instance:V (aggP prog 69) true:=⟨kR⟩
instance:V (tyOk prog 69) true:=⟨kR⟩
instance:V (zeroP prog 69) [.s (.int .u8 0),.s (.int .i64 0),.s (.int .i64 0),.s (.int .i64 0),.s (.int .i64 0),.s (.string "".toUTF8),.s (.int .u8 0),.s (.int .i64 0),.s (.int .i64 0),.s (.int .i64 0),.s (.int .i64 0),.z,.z,.z,.s (.int .i64 0)]:=⟨kR⟩
instance:V (fieldP prog 69 0) (some (0,5)):=⟨kR⟩
instance:V (fieldP prog 69 1) (some (1,3)):=⟨kR⟩
instance:V (fieldP prog 69 2) (some (2,3)):=⟨kR⟩
instance:V (fieldP prog 69 3) (some (3,3)):=⟨kR⟩
instance:V (fieldP prog 69 4) (some (4,3)):=⟨kR⟩
instance:V (fieldP prog 69 5) (some (5,9)):=⟨kR⟩
instance:V (fieldP prog 69 6) (some (6,66)):=⟨kR⟩
instance:V (fieldP prog 69 7) (some (12,27)):=⟨kR⟩
instance:V (fieldP prog 69 8) (some (13,67)):=⟨kR⟩
instance:V (fieldP prog 69 9) (some (14,3)):=⟨kR⟩
instance:V (prog.cellsOf 70) 1:=⟨kR⟩
instance:V (aggP prog 70) false:=⟨kR⟩
instance:V (tyOk prog 70) true:=⟨kR⟩
instance:V (elemP prog 70) 66:=⟨kR⟩
instance:V (slT prog 70) true:=⟨kR⟩
instance:V (prog.cellsOf 72) 16:=⟨kR⟩
instance:V (aggP prog 72) true:=⟨kR⟩
instance:V (tyOk prog 72) true:=⟨kR⟩
instance:V (zeroP prog 72) [.z,.s (.int .u8 0),.s (.int .i64 0),.s (.int .i64 0),.s (.int .i64 0),.s (.int .i64 0),.s (.string "".toUTF8),.s (.int .u8 0),.s (.int .i64 0),.s (.int .i64 0),.s (.int .i64 0),.s (.int .i64 0),.z,.z,.z,.s (.int .i64 0)]:=⟨kR⟩
instance:V (fieldP prog 72 0) (some (0,70)):=⟨kR⟩
instance:V (fieldP prog 72 1) (some (1,69)):=⟨kR⟩
instance:V (prog.cellsOf 79) 1:=⟨kR⟩
instance:V (aggP prog 79) false:=⟨kR⟩
instance:V (tyOk prog 79) true:=⟨kR⟩
instance:V (tyOk prog 89) true:=⟨kR⟩
instance:V (zeroP prog 89) [.s (.string "".toUTF8),.s (.bool false),.s (.int .i64 0),.s (.int .u8 0),.z,.z,.z,.z,.z,.z,.z]:=⟨kR⟩
instance:V (fieldP prog 89 0) (some (0,26)):=⟨kR⟩
instance:V (fieldP prog 89 1) (some (8,28)):=⟨kR⟩
instance:V (fieldP prog 89 2) (some (9,28)):=⟨kR⟩
instance:V (fieldP prog 89 3) (some (10,52)):=⟨kR⟩
instance:V (elemP prog 95) 100:=⟨kR⟩
instance:V (slT prog 95) true:=⟨kR⟩
instance:V (prog.cellsOf 98) 1:=⟨kR⟩
instance:V (aggP prog 98) false:=⟨kR⟩
instance:V (tyOk prog 98) true:=⟨kR⟩
instance:V (prog.cellsOf 100) 19:=⟨u9⟩
instance:V (prog.bytesOf 100) 152:=⟨I6⟩
instance:V (aggP prog 100) true:=⟨BO⟩
instance:V (tyOk prog 100) true:=⟨t100⟩
instance:V (zeroP prog 100) [.s (.int .u64 0),.s (.int .u64 0),.s (.int .u64 0),.s (.int .u64 0),.s (.int .u64 0),.s (.int .u64 0),.s (.int .u64 0),.s (.int .u64 0),.s (.int .u64 0),.s (.int .u64 0),.s (.int .u64 0),.s (.int .u64 0),.s (.int .u64 0),.s (.int .u64 0),.s (.int .u64 0),.s (.int .u64 0),.s (.int .u64 0),.s (.int .u64 0),.s (.int .u64 0)]:=⟨kR⟩
instance:V (elemP prog 100) 98:=⟨kR⟩
instance:V (arT prog 100) true:=⟨kR⟩
instance:V (lenP prog 100) 19:=⟨kR⟩
instance:V (prog.cellsOf 102) 1:=⟨kR⟩
instance:V (aggP prog 102) false:=⟨kR⟩
instance:V (tyOk prog 102) true:=⟨kR⟩
instance:V (elemP prog 102) 52:=⟨kR⟩
instance:V (slT prog 102) true:=⟨kR⟩
instance:V (prog.cellsOf 104) 2:=⟨UF⟩
instance:V (aggP prog 104) true:=⟨UE⟩
instance:V (tyOk prog 104) true:=⟨t104⟩
instance:V (zeroP prog 104) [.z,.z]:=⟨kR⟩
instance:V (fieldP prog 104 0) (some (0,102)):=⟨kR⟩
instance:V (fieldP prog 104 1) (some (1,102)):=⟨kR⟩
instance:V (prog.cellsOf 128) 1:=⟨kR⟩
instance:V (aggP prog 128) false:=⟨kR⟩
instance:V (tyOk prog 128) true:=⟨kR⟩
instance:V (zeroP prog 128) [.s .nilFunc]:=⟨kR⟩
instance:V (prog.cellsOf 131) 1:=⟨kR⟩
instance:V (aggP prog 131) false:=⟨kR⟩
instance:V (tyOk prog 131) true:=⟨kR⟩
instance:V (prog.cellsOf 133) 10:=⟨Uf⟩
instance:V (aggP prog 133) true:=⟨Ue⟩
instance:V (tyOk prog 133) true:=⟨t133⟩
instance:V (zeroP prog 133) [.s (.string "".toUTF8),.s (.bool false),.s (.int .i64 0),.s (.int .u8 0),.z,.z,.z,.z,.s (.map none),.s (.map none)]:=⟨kR⟩
instance:V (fieldP prog 133 0) (some (0,26)):=⟨kR⟩
instance:V (fieldP prog 133 1) (some (8,131)):=⟨kR⟩
instance:V (fieldP prog 133 2) (some (9,131)):=⟨kR⟩
instance:V (elemP prog 155) 158:=⟨kR⟩
instance:V (slT prog 155) true:=⟨kR⟩
instance:V (prog.cellsOf 158) 2:=⟨kW⟩
instance:V (prog.bytesOf 158) 32:=⟨Uj⟩
instance:V (aggP prog 158) true:=⟨qU⟩
instance:V (tyOk prog 158) true:=⟨t158⟩
instance:V (zeroP prog 158) [.s (.bool false),.z]:=⟨kR⟩
instance:V (fieldP prog 158 0) (some (0,4)):=⟨kR⟩
instance:V (fieldP prog 158 1) (some (1,52)):=⟨kR⟩
instance:V (prog.cellsOf 199) 2:=⟨kR⟩
instance:V (aggP prog 199) true:=⟨kR⟩
instance:V (tyOk prog 199) true:=⟨kR⟩
instance:V (zeroP prog 199) [.s (.string "".toUTF8),.s (.int .i64 0)]:=⟨kR⟩
instance:V (fieldP prog 199 0) (some (0,9)):=⟨kR⟩
instance:V (fieldP prog 199 1) (some (1,3)):=⟨kR⟩
instance:V (prog.cellsOf 205) 6:=⟨kR⟩
instance:V (aggP prog 205) true:=⟨Jf⟩
instance:V (tyOk prog 205) true:=⟨kR⟩
instance:V (zeroP prog 205) [.s (.int .i64 0),.s (.int .i64 0),.s (.int .i64 0),.s (.int .i64 0),.s (.int .i64 0),.s (.int .i64 0)]:=⟨Jg⟩
instance:V (fieldP prog 205 0) (some (0,3)):=⟨kR⟩
instance:V (fieldP prog 205 1) (some (1,3)):=⟨kR⟩
instance:V (fieldP prog 205 2) (some (2,3)):=⟨kR⟩
instance:V (fieldP prog 205 3) (some (3,3)):=⟨kR⟩
instance:V (fieldP prog 205 4) (some (4,3)):=⟨kR⟩
instance:V (fieldP prog 205 5) (some (5,3)):=⟨kR⟩
instance:V (prog.cellsOf 208) 9:=⟨kR⟩
instance:V (aggP prog 208) true:=⟨kR⟩
instance:V (tyOk prog 208) true:=⟨kR⟩
instance:V (zeroP prog 208) [.s (.string "".toUTF8),.s (.bool false),.s (.int .i64 0),.s (.int .u8 0),.z,.z,.z,.z,.z]:=⟨kR⟩
instance:V (fieldP prog 208 0) (some (0,26)):=⟨kR⟩
instance:V (fieldP prog 208 1) (some (8,28)):=⟨kR⟩
instance:V (elemP prog 227) 231:=⟨kR⟩
instance:V (slT prog 227) true:=⟨kR⟩
instance:V (prog.cellsOf 231) 20:=⟨qO⟩
instance:V (prog.bytesOf 231) 160:=⟨TF⟩
instance:V (aggP prog 231) true:=⟨tv⟩
instance:V (tyOk prog 231) true:=⟨t231⟩
instance:V (zeroP prog 231) [.s (.int .u64 0),.s (.int .u64 0),.s (.int .u64 0),.s (.int .u64 0),.s (.int .u64 0),.s (.int .u64 0),.s (.int .u64 0),.s (.int .u64 0),.s (.int .u64 0),.s (.int .u64 0),.s (.int .u64 0),.s (.int .u64 0),.s (.int .u64 0),.s (.int .u64 0),.s (.int .u64 0),.s (.int .u64 0),.s (.int .u64 0),.s (.int .u64 0),.s (.int .u64 0),.s (.int .u64 0)]:=⟨TE⟩
instance:V (elemP prog 231) 98:=⟨kR⟩
instance:V (arT prog 231) true:=⟨kR⟩
instance:V (lenP prog 231) 20:=⟨kR⟩
instance:V (prog.underlying 8) (some (.struct (jf prog 8))):=⟨u8⟩
instance:V (prog.underlying 22) (some (.slice 5)):=⟨kR⟩
instance:V (prog.underlying 66) (some (.struct (jf prog 66))):=⟨kR⟩
instance:V (((jf prog 66).toList.map fun f=>(f.offset,prog.cellsOf f.type))) [(0,1),(1,1),(2,1),(3,1),(4,1),(5,1)]:=⟨kR⟩
instance:V (((jf prog 66).toList.all fun f=>(prog.info? f.type).isSome)) true:=⟨kR⟩
instance:V (prog.underlying 89) (some (.struct (jf prog 89))):=⟨kR⟩
instance:V (((jf prog 89).toList.map fun f=>(f.offset,prog.cellsOf f.type))) [(0,8),(8,1),(9,1),(10,1)]:=⟨kR⟩
instance:V (((jf prog 89).toList.all fun f=>(prog.info? f.type).isSome)) true:=⟨kR⟩
instance:V (mkeyP prog 127) 3:=⟨Ia⟩
instance:V (mapT prog 127) true:=⟨Ib⟩
instance:V (mkeyP prog 131) 5:=⟨kR⟩
instance:V (mapT prog 131) true:=⟨kR⟩
instance:V (melP prog 131) 205:=⟨Io⟩
instance:V (prog.underlying 133) (some (.struct (jf prog 133))):=⟨kR⟩
instance:V (((jf prog 133).toList.map fun f=>(f.offset,prog.cellsOf f.type))) [(0,8),(8,1),(9,1)]:=⟨kR⟩
instance:V (((jf prog 133).toList.all fun f=>(prog.info? f.type).isSome)) true:=⟨kR⟩
instance:V (prog.underlying 158) (some (.struct (jf prog 158))):=⟨kR⟩
instance:V (((jf prog 158).toList.map fun f=>(f.offset,prog.cellsOf f.type))) [(0,1),(1,1)]:=⟨kR⟩
instance:V (((jf prog 158).toList.all fun f=>(prog.info? f.type).isSome)) true:=⟨kR⟩
instance:V (prog.underlying 205) (some (.struct (jf prog 205))):=⟨kR⟩
instance:V (((jf prog 205).toList.map fun f=>(f.offset,prog.cellsOf f.type))) [(0,1),(1,1),(2,1),(3,1),(4,1),(5,1)]:=⟨kR⟩
instance:V (((jf prog 205).toList.all fun f=>(prog.info? f.type).isSome)) true:=⟨kR⟩
instance:V (prog.underlying 208) (some (.struct (jf prog 208))):=⟨kR⟩
instance:V (((jf prog 208).toList.map fun f=>(f.offset,prog.cellsOf f.type))) [(0,8),(8,1)]:=⟨kR⟩
instance:V (((jf prog 208).toList.all fun f=>(prog.info? f.type).isSome)) true:=⟨kR⟩
instance:V (prog.underlying 2) (some (.int .i64)):=⟨u2⟩
instance:V (prog.underlying 3) (some (.int .i64)):=⟨kR⟩
instance:V (prog.underlying 5) (some (.int .u8)):=⟨u5⟩
instance:V (prog.underlying 189) (some (.int .u64)):=⟨kR⟩
end Go.Proofs.Tryz.K
namespace Go.Abs
open Go.Argus
section
variable{P:Program}{Y:YSpec}{ops:Array Oper}{dr:Bool}{cf:List (Nat×Nat)}{Q:Exit->St->Prop}{r:List Oper}{v:Env}{m:Mem}{n:Nat}{q:Tra}{x:Oper}{s:St}{e:List Nat×List Nat}
theorem fE{p:Prop}(h:p:=by first|rfl|exact Nat.le_of_ble_eq_true rfl|(simp;done)|(simp;omega)|omega):p:=h
theorem zI{p:Prop}(h:p:=by first|omega|exact Nat.le_of_ble_eq_true rfl|(simp;done)|(simp;omega)):p:=h
theorem nw{p:Prop}(h:p:=by first|(simp;done)|exact⟨rfl,Nat.le_of_ble_eq_true rfl⟩|(simp;omega)):p:=h
theorem Cd{p:Prop}(h:p:=by first|rfl|exact ig _|(simp[ig];done)|exact Dn):p:=h
theorem Ce{p:Prop}(h:p:=by first|(simp;done)|omega|exact Nat.le_of_ble_eq_true rfl):p:=h
theorem zJ{p:Prop}(h:p:=by unfold maxLen;first|omega|(simp;omega)):p:=h
theorem Cf{p:Prop}(h:p:=by first|rfl|(simp;done)|(simp;omega)):p:=h
theorem Cg{p:Prop}(h:p:=by first|(simp;done)|(simp;omega)):p:=h
theorem Ch{p:Prop}(h:p:=by first|(simp;done)|fail):p:=h
theorem Wj{p:Prop}(h:p:=by first|decide|simp):p:=h
def oT(x:Oper):Nat:=2*(match x.op with
 | .move ..=>1
 | .assign ..=>2
 | .pick ..=>3
 | .alloc ..=>4
 | .box ..=>5
 | .build ..=>6
 | .buildSlice ..=>7
 | .insert ..=>8
 | .load ..=>9
 | .store ..=>10
 | .nilCheck ..=>11
 | .unOp ..=>12
 | .convert ..=>13
 | .makeFunc ..=>14
 | .makeMap ..=>15
 | .makeSlice ..=>16
 | .slice ..=>17
 | .fieldAddr ..=>18
 | .field ..=>19
 | .indexAddr ..=>20
 | .index ..=>21
 | .lookup ..=>22
 | .mapUpdate ..=>23
 | .extract ..=>24
 | .call ..=>25
 | .binOp .add ..=>26
 | .binOp .sub ..=>27
 | .binOp .mul ..=>28
 | .binOp .quo ..=>29
 | .binOp .rem ..=>30
 | .binOp .and ..=>31
 | .binOp .or ..=>32
 | .binOp .xor ..=>33
 | .binOp .shl ..=>34
 | .binOp .shr ..=>35
 | .binOp .andNot ..=>36
 | .binOp .eql ..=>37
 | .binOp .neq ..=>38
 | .binOp .lss ..=>39
 | .binOp .leq ..=>40
 | .binOp .gtr ..=>41
 | .binOp .geq ..=>42
 |_=>0)+(match x.guard with
 |none=>0
 |_=>1)
theorem SS2(ht:oT x=2:=by exact rfl)(h:SO P Y ops dr x v m n s e:=by intro _ _ _ _ k;first|exact aB (jb (v:=.s (.int _ _)) rfl) ak trivial k|exact aB (jb (v:=.s (.bool _)) rfl) ak trivial k|exact aB (jb (v:=.sl _ _) rfl) ak trivial k|exact aB (jb (v:=.rs _ _ _) rfl) ak trivial k|exact aB (jb (v:=.pt _) rfl) ak trivial k|exact aB (jb (v:=.fn _ _ _) rfl) ak trivial k|exact aB (jb (v:=.s (.string _)) rfl) ak trivial k|exact aB (jb (v:=.mp _) rfl) ak trivial k|exact aB (jb (v:=.rp _ _) rfl) ak trivial k|exact aB (jb (v:=_) rfl) ak trivial k|fail):SO P Y ops dr x v m n s e:=h
theorem SS4(ht:oT x=4:=by exact rfl)(h:SO P Y ops dr x v m n s e:=by intro _ _ _ _ k;first|exact aB (lk (v:=.s (.bool _)) rfl) ak trivial k|exact aB (lk (v:=.s (.int _ _)) rfl) ak trivial k|exact aB (lk (v:=.sl _ _) rfl) ak trivial k|exact aB (lk (v:=.rs _ _ _) rfl) ak trivial k|exact aB (lk (v:=.z) rfl) ak trivial k|exact aB (lk (v:=.s (.pointer none)) rfl) ak trivial k|exact aB (lk (v:=.mp _) rfl) ak trivial k|fail):SO P Y ops dr x v m n s e:=h
theorem aiG(ht:oT x=18:=by exact rfl)(h:SO P Y ops dr x v m n s e:=by intro _ _ _ _ k;first|exact aB (kH (vs:=aC _) rfl V.h V.h rfl) ak (kI V.h V.h Ch) k|exact aB (kH (vs:=a8 _) rfl V.h V.h rfl) ak (kI V.h V.h Ch) k|exact aB (kH (vs:=aT _) rfl V.h V.h rfl) ak (kI V.h V.h Ch) k|exact aB (kH (vs:=bh _ _ _) rfl V.h V.h rfl) ak (kI V.h V.h Ch) k|exact aB (kH (vs:=cR _) rfl V.h V.h rfl) ak (kI V.h V.h Ch) k|exact aB (cP rfl rfl V.h V.h (gC fE)) ak (cQ V.h V.h fE) k|exact aB (kH (vs:=bF _ _) rfl V.h V.h rfl) ak (kI V.h V.h Ch) k|exact aB (cP rfl aq V.h V.h (gC fE)) ak (cQ V.h V.h fE) k|exact aB (cP (vs:=aT _) rfl rfl V.h V.h rfl) ak (cQ V.h V.h Ce) k|exact aB (cP (vs:=a8 _) rfl (up_same _ _ _) V.h V.h rfl) ak (cQ V.h V.h Ce) k|exact aB (kH rfl V.h V.h rfl) ak (kI V.h V.h Ch) k|exact aB (kH (vs:=kJ _) rfl V.h V.h rfl) ak (kI V.h V.h Ch) k|exact aB (cP rfl rfl V.h V.h rfl) ak (cQ V.h V.h Ce) k|exact aB (cP rfl (af oG rfl) V.h V.h (gC fE)) ak (cQ V.h V.h fE) k|exact aB (kH rfl V.h V.h (Y7 (by assumption))) ak (kI V.h V.h (by simp;omega)) k|exact aB (cP rfl (up_same _ _ _) V.h V.h rfl) ak (cQ V.h V.h Ce) k|exact aB (O7 rfl V.h) ak (Pf V.h V.h) k|exact aB (eX rfl rfl kd V.h) ak (eY V.h V.h kd) k|exact aB (eX rfl aq kd V.h) ak (eY V.h V.h kd) k|exact aB (eX rfl bX kd V.h) ak (eY V.h V.h kd) k|exact aB (eX rfl (up_same _ _ _) kd V.h) ak (eY V.h V.h kd) k|exact aB (eX rfl rfl rfl V.h) ak (eY V.h V.h rfl) k|exact aB (eX rfl aq rfl V.h) ak (eY V.h V.h rfl) k|exact aB (eX rfl bX rfl V.h) ak (eY V.h V.h rfl) k|exact aB (eX rfl (up_same _ _ _) rfl V.h) ak (eY V.h V.h rfl) k|fail):SO P Y ops dr x v m n s e:=h
theorem aiH(ht:oT x=19:=by exact rfl)(h:SO P Y ops dr x v m n s e:=by intro _ _ _ _ k;first|exact bm rfl rfl (O7 rfl V.h) (fun hc=>⟨ak,(Pf V.h V.h)⟩) k|exact bm rfl rfl (kH (vs:=bF _ _) rfl V.h V.h rfl) (fun hc=>⟨ak,(kI V.h V.h Ch)⟩) k|exact bm rfl rfl (kH (vs:=bh _ _ _) rfl V.h V.h rfl) (fun hc=>⟨ak,(kI V.h V.h Ch)⟩) k|exact bm rfl rfl (kH (vs:=aT _) rfl V.h V.h rfl) (fun hc=>⟨ak,(kI V.h V.h Ch)⟩) k|exact bm rfl rfl (kH (vs:=aC _) rfl V.h V.h rfl) (fun hc=>⟨ak,(kI V.h V.h Ch)⟩) k|exact bm rfl rfl (kH (vs:=a8 _) rfl V.h V.h rfl) (fun hc=>⟨ak,(kI V.h V.h Ch)⟩) k|exact bm rfl rfl (eX rfl bX kd V.h) (fun hc=>⟨ak,(eY V.h V.h kd)⟩) k|exact bm rfl rfl (eX rfl fe fh V.h) (fun hc=>⟨ak,(eY V.h V.h fh)⟩) k|exact bm rfl rfl (eX rfl rfl rfl V.h) (fun hc=>⟨ak,(eY V.h V.h rfl)⟩) k|exact bm rfl rfl (eX rfl aq rfl V.h) (fun hc=>⟨ak,(eY V.h V.h rfl)⟩) k|exact bm rfl rfl (eX rfl (up_same _ _ _) rfl V.h) (fun hc=>⟨ak,(eY V.h V.h rfl)⟩) k|exact bm rfl rfl (cP rfl rfl V.h V.h rfl) (fun hc=>⟨ak,(cQ V.h V.h Ce)⟩) k|exact bm rfl rfl (cP rfl (af oG rfl) V.h V.h (gC fE)) (fun hc=>⟨ak,(cQ V.h V.h fE)⟩) k|fail):SO P Y ops dr x v m n s e:=h
theorem aiI(ht:oT x=36:=by exact rfl)(h:SO P Y ops dr x v m n s e:=by intro _ _ _ _ k;first|exact aB (Nc rfl V.h) ak (m7 V.h) k|exact aB (o8 rfl rfl V.h) ak (m7 V.h) k|exact aB (o8 rfl aq V.h) ak (m7 V.h) k|exact aB (o8 rfl bX V.h) ak (m7 V.h) k|exact aB (o8 rfl (up_same _ _ _) V.h) ak (m7 V.h) k|fail):SO P Y ops dr x v m n s e:=h
theorem SS6(ht:oT x=6:=by exact rfl)(h:SO P Y ops dr x v m n s e:=by intro _ _ _ _ k;first|exact Y3 rfl rfl (by first|exact trivial|exact rfl) k|exact Y4 rfl rfl (by first|exact trivial|exact rfl) k|exact aaj rfl rfl rfl (fun h=>by first|exact trivial|exact rfl|exact h|(show Eq _ _;rw[h];rfl)|(show Eq _ _;simp[h];done)|(show Eq _ _;simp_all;done)|fail) (fun h=>by first|exact trivial|exact rfl|exact h|(show Eq _ _;rw[h];rfl)|(show Eq _ _;simp[h];done)|(show Eq _ _;simp_all;done)|fail) k|fail):SO P Y ops dr x v m n s e:=h
theorem aiJ(ht:oT x=37:=by exact rfl)(h:SO P Y ops dr x v m n s e:=by intro _ _ _ _ k;first|exact bm rfl rfl (Nc rfl V.h) (fun hc=>⟨ak,(m7 V.h)⟩) k|exact bm rfl rfl (o8 rfl rfl V.h) (fun hc=>⟨ak,(m7 V.h)⟩) k|exact bm rfl rfl (o8 rfl aq V.h) (fun hc=>⟨ak,(m7 V.h)⟩) k|exact bm rfl rfl (o8 rfl (up_same _ _ _) V.h) (fun hc=>⟨ak,(m7 V.h)⟩) k|fail):SO P Y ops dr x v m n s e:=h
theorem aiK(ht:oT x=74:=by exact rfl)(h:SO P Y ops dr x v m n s e:=by intro _ _ _ _ k;first|exact aB (Hz rfl rfl dI) ak rfl k|exact aB (HT rfl rfl) ak rfl k|fail):SO P Y ops dr x v m n s e:=h
theorem SS3(ht:oT x=3:=by exact rfl)(h:SO P Y ops dr x v m n s e:=by intro _ _ _ _ k;first|exact bm rfl rfl (jb (v:=.s (.int _ _)) rfl) (fun hc=>⟨ak,trivial⟩) k|exact bm rfl rfl (jb (v:=.s (.bool _)) rfl) (fun hc=>⟨ak,trivial⟩) k|exact bm rfl rfl (jb (v:=.sl _ _) rfl) (fun hc=>⟨ak,trivial⟩) k|exact bm rfl rfl (jb (v:=.s (.string _)) rfl) (fun hc=>⟨ak,trivial⟩) k|exact bm rfl rfl (jb (v:=.rs _ _ _) rfl) (fun hc=>⟨ak,trivial⟩) k|exact bm rfl rfl (jb (v:=.z) rfl) (fun hc=>⟨ak,trivial⟩) k|exact bm rfl rfl (jb (v:=.fn _ _ _) rfl) (fun hc=>⟨ak,trivial⟩) k|fail):SO P Y ops dr x v m n s e:=h
theorem aiL(ht:oT x=40:=by exact rfl)(h:SO P Y ops dr x v m n s e:=by intro _ _ _ _ k;first|exact aB (Pd rfl rfl V.h V.h (by assumption)) ak (Pe V.h (by assumption)) k|exact aB (uD rfl rfl V.h V.h (Dd) (by assumption)) ak (uE V.h (Dd) (by assumption)) k|exact aB (uD rfl rfl V.h V.h (De) (by assumption)) ak (uE V.h (De) (by assumption)) k|exact aB (aal rfl rfl rfl V.h V.h V.h) ak ⟨V.h,by omega⟩ k|exact aB (uD rfl rfl V.h V.h (Ac) (by assumption)) ak (uE V.h (Ac) (by assumption)) k|exact aB (uD rfl rfl V.h V.h (Lf) (by assumption)) ak (uE V.h (Lf) (by assumption)) k|exact aB (abc rfl rfl V.h V.h (by assumption) (by assumption)) ak (abd V.h (by assumption) (by assumption) oG) k|exact aB (jG rfl rfl rfl V.h V.h) ak ⟨V.h,by omega⟩ k|exact aB (jG rfl rfl aq V.h V.h) ak ⟨V.h,by omega⟩ k|exact aB (jG rfl rfl (af oG (af oG aq)) V.h V.h) ak ⟨V.h,by omega⟩ k|exact aB (jG rfl rfl (af oG (af oG (af oG aq))) V.h V.h) ak ⟨V.h,by omega⟩ k|exact aB (jG rfl rfl bX V.h V.h) ak ⟨V.h,by omega⟩ k|exact aB (jG rfl rfl (up_same _ _ _) V.h V.h) ak ⟨V.h,by omega⟩ k|exact aB (rM rfl rfl rfl V.h V.h) ak ⟨V.h,by omega⟩ k|exact aB (aam rfl rfl (up_same _ _ _) V.h V.h) ak ⟨V.h,by omega⟩ k|fail):SO P Y ops dr x v m n s e:=h
theorem aiM(ht:oT x=50:=by exact rfl)(h:SO P Y ops dr x v m n s e:=by intro _ _ _ _ k;first|exact aB (Q4 rfl) ak V.h k|exact aB (Ht rfl) ak V.h k|exact pJ (pA rfl rfl rfl V.h V.h (Mm qN) rfl) ak ⟨V.h,rfl,zI,(by decide),Cf,zJ,(by rw[b3];first|omega|(simp;omega)),Cg⟩ k|exact aB (Hs rfl rfl) ak V.h k|exact aB (Hs rfl aq) ak V.h k|exact pJ (pA rfl rfl rfl V.h V.h (nG rfl rfl) rfl) ak ⟨V.h,rfl,zI,(by decide),Cf,zJ,(by rw[b3];first|omega|(simp;omega)),Cg⟩ k|exact pJ (pA rfl (af oG aq) rfl V.h V.h (nG (up_same _ _ _) rfl) rfl) ak ⟨V.h,rfl,zI,(by decide),Cf,zJ,(by rw[b3];first|omega|(simp;omega)),Cg⟩ k|exact pJ (pA rfl (af oG bX) rfl V.h V.h (nG (up_same _ _ _) rfl) rfl) ak ⟨V.h,rfl,zI,(by decide),Cf,zJ,(by rw[b3];first|omega|(simp;omega)),Cg⟩ k|exact eQ (Hu rfl rfl V.h V.h (nG (up_same _ _ _) rfl)) ak ⟨V.h,zI,(by decide),zJ,(by rw[b3];first|omega|(simp;omega))⟩ k|exact pJ (pA rfl (af oG aq) rfl V.h V.h (nG (up_same _ _ _) rfl) rfl) ak ⟨V.h,rfl,zI,(by decide),Cf,zJ,(by rw[E'];first|omega|(simp;omega)),Cg⟩ k|fail):SO P Y ops dr x v m n s e:=h
theorem aiN(ht:oT x=20:=by exact rfl)(h:SO P Y ops dr x v m n s e:=by intro _ _ _ _ k;first|exact cr (gy (d:=.s (.bool _)) (cs':=_) rfl rfl rfl rfl rfl) ak (dy V.h V.h nw rfl) k|exact cr (gy (d:=.s (.string _)) (cs':=_) rfl rfl rfl rfl rfl) ak (dy V.h V.h nw rfl) k|exact cr (fk rfl rfl rfl (G8 fE fE)) ak (Aq fE fE Cd) k|exact cr (fk (cs':=a8 _) rfl rfl (up_same _ _ _) rfl) ak (dy V.h V.h nw (by rfl)) k|exact cr (fk (cs':=cR _) rfl rfl (up_same _ _ _) rfl) ak (dy V.h V.h nw (by rfl)) k|exact cr (fk rfl rfl (up_same _ _ _) (G8 fE fE)) ak (Aq fE fE Cd) k|exact cr (fk rfl rfl rfl (Ax fE fE)) ak (we fE fE Cd) k|exact cr (fk rfl rfl aq (Ax fE fE)) ak (we fE fE Cd) k|exact cr (fk (cs':=kJ _) rfl rfl (up_same _ _ _) rfl) ak (dy V.h V.h nw (by rfl)) k|exact cr (gy (d:=.s (.int _ _)) (cs':=_) rfl rfl rfl rfl rfl) ak (dy V.h V.h nw rfl) k|exact cr (gy (d:=.s (.int _ _)) (cs':=_) rfl rfl (up_same _ _ _) rfl rfl) ak (dy V.h V.h nw rfl) k|exact cr (fk (cs':=aT _) rfl rfl rfl rfl) ak (dy V.h V.h nw (by rfl)) k|exact cr (fk rfl rfl rfl rfl) ak (dy V.h V.h nw (by rfl)) k|exact cr (fk rfl rfl (up_same _ _ _) rfl) ak (dy V.h V.h nw (by rfl)) k|exact cr (fk rfl rfl (af oG rfl) (G8 fE fE)) ak (Aq fE fE Cd) k|exact cr (fk rfl rfl rfl (D9 (by decide) (by assumption) (by assumption) (by first|assumption|(simp;omega)|(simp;done)|fail))) ak (Aq (by first|(simp;omega)|(simp;done)|fail) (pD (by assumption) (by assumption)) (ig _)) k|exact cr (gy (d:=.rs _ _ _) (cs':=_) rfl rfl rfl rfl rfl) ak (dy V.h V.h nw rfl) k|exact cr (gy (d:=.rs _ _ _) (cs':=_) rfl rfl (af oG (af oG aq)) rfl rfl) ak (dy V.h V.h nw rfl) k|exact cr (gy (d:=.rs _ _ _) (cs':=_) rfl rfl (af oG (af oG (af oG aq))) rfl rfl) ak (dy V.h V.h nw rfl) k|exact cr (gy (d:=.z) (cs':=_) rfl rfl rfl rfl rfl) ak (dy V.h V.h nw rfl) k|fail):SO P Y ops dr x v m n s e:=h
theorem aiO(ht:oT x=52:=by exact rfl)(h:SO P Y ops dr x v m n s e:=by intro _ _ _ _ k;first|exact aB (Q1 rfl rfl oG) ak rfl k|fail):SO P Y ops dr x v m n s e:=h
theorem aiP(ht:oT x=78:=by exact rfl)(h:SO P Y ops dr x v m n s e:=by intro _ _ _ _ k;first|exact aB (Pn rfl rfl pK) ak rfl k|exact aB (HP rfl rfl) ak rfl k|fail):SO P Y ops dr x v m n s e:=h
theorem aiQ(ht:oT x=75:=by exact rfl)(h:SO P Y ops dr x v m n s e:=by intro _ _ _ _ k;first|exact bm rfl rfl (Hz rfl rfl dI) (fun hc=>⟨ak,rfl⟩) k|exact bm rfl rfl (Hz rfl rfl uO) (fun hc=>⟨ak,rfl⟩) k|exact bm rfl rfl (HT rfl rfl) (fun hc=>⟨ak,rfl⟩) k|exact bm rfl rfl (Hp rfl rfl) (fun hc=>⟨ak,trivial⟩) k|fail):SO P Y ops dr x v m n s e:=h
theorem aiR(ht:oT x=10:=by exact rfl)(h:SO P Y ops dr x v m n s e:=by intro _ _ _ _ k;first|exact eQ (rW (cs:=aC _) rfl) ak (by first|rfl|exact sU eS eB|exact ig _|exact s6 cU) k|exact eQ (rW rfl) ak (by first|rfl|exact sU eS eB|exact ig _|exact s6 cU) k|exact eQ (rW (cs:=aT _) rfl) ak (by first|rfl|exact sU eS eB|exact ig _|exact s6 cU) k|exact eQ (rW (cs:=a8 _) rfl) ak (by first|rfl|exact sU eS eB|exact ig _|exact s6 cU) k|exact eQ (rW (cs:=bh _ _ _) rfl) ak (by first|rfl|exact sU eS eB|exact ig _|exact s6 cU) k|exact eQ (rW (cs:=bF _ _) rfl) ak (by first|rfl|exact sU eS eB|exact ig _|exact s6 cU) k|exact eQ (A9 (d:=.s (.int _ _)) rfl rfl) ak rfl k|fail):SO P Y ops dr x v m n s e:=h
theorem aiS(ht:oT x=41:=by exact rfl)(h:SO P Y ops dr x v m n s e:=by intro _ _ _ _ k;first|exact bm rfl rfl (Pd rfl rfl V.h V.h (by assumption)) (fun hc=>⟨ak,(Pe V.h (by assumption))⟩) k|exact bm rfl rfl (uD rfl rfl V.h V.h (De) (by assumption)) (fun hc=>⟨ak,(uE V.h (De) (by assumption))⟩) k|exact bm rfl rfl (uD rfl rfl V.h V.h (Dd) (by assumption)) (fun hc=>⟨ak,(uE V.h (Dd) (by assumption))⟩) k|exact bm rfl rfl (jG rfl rfl bX V.h V.h) (fun hc=>⟨ak,⟨V.h,by omega⟩⟩) k|exact bm rfl rfl (jG rfl rfl fe V.h V.h) (fun hc=>⟨ak,⟨V.h,by omega⟩⟩) k|fail):SO P Y ops dr x v m n s e:=h
theorem SS8(ht:oT x=8:=by exact rfl)(h:SO P Y ops dr x v m n s e:=by intro _ _ _ _ k;first|exact eQ (Z' V.h) ak V.h k|fail):SO P Y ops dr x v m n s e:=h
theorem aiT(ht:oT x=51:=by exact rfl)(h:SO P Y ops dr x v m n s e:=by intro _ _ _ _ k;first|exact bm rfl rfl (Q4 rfl) (fun hc=>⟨ak,V.h⟩) k|fail):SO P Y ops dr x v m n s e:=h
theorem aiU(ht:oT x=24:=by exact rfl)(h:SO P Y ops dr x v m n s e:=by intro _ _ _ _ k;first|exact aB (Q2 rfl) ak trivial k|fail):SO P Y ops dr x v m n s e:=h
theorem aiV(ht:oT x=14:=by exact rfl)(h:SO P Y ops dr x v m n s e:=by intro _ _ _ _ k;first|exact eQ (Af (cs:=[_]) V.h V.h V.h rfl rfl) ak ⟨rfl,by decide,V.h,by decide⟩ k|exact eQ (Af (cs:=[_,_]) V.h V.h V.h rfl rfl) ak ⟨rfl,by decide,V.h,by decide⟩ k|exact eQ (Af (cs:=[]) V.h V.h V.h rfl rfl) ak ⟨rfl,by decide,V.h,by decide⟩ k|fail):SO P Y ops dr x v m n s e:=h
theorem aiW(ht:oT x=25:=by exact rfl)(h:SO P Y ops dr x v m n s e:=by intro _ _ _ _ k;first|exact bm rfl rfl (Q2 rfl) (fun hc=>⟨ak,trivial⟩) k|fail):SO P Y ops dr x v m n s e:=h
theorem aiX(ht:oT x=83:=by exact rfl)(h:SO P Y ops dr x v m n s e:=by intro _ _ _ _ k;first|exact bm rfl rfl (Po rfl rfl tq) (fun hc=>⟨ak,rfl⟩) k|exact bm rfl rfl (HR rfl rfl) (fun hc=>⟨ak,rfl⟩) k|fail):SO P Y ops dr x v m n s e:=h
theorem SS7(ht:oT x=7:=by exact rfl)(h:SO P Y ops dr x v m n s e:=by intro _ _ _ _ k;first|exact XG rfl rfl rfl rfl (by first|exact fun _=>trivial|exact fun _=>rfl|exact fun hc=>hc) (by first|exact fun _=>trivial|exact fun _=>rfl|exact fun hc=>hc) k|exact XH rfl rfl rfl rfl (by first|exact fun _=>trivial|exact fun _=>rfl|exact fun hc=>hc) (by first|exact fun _=>trivial|exact fun _=>rfl|exact fun hc=>hc) k|exact Y5 rfl rfl rfl rfl rfl (by first|exact fun _=>trivial|exact fun _=>rfl|exact fun hc=>hc) (fun hc h=>by first|exact trivial|exact rfl|exact hc|(show Eq _ _;rw[hc,h];rfl)|(show Eq _ _;rw[h,hc];rfl)|(show Eq _ _;simp[hc,h];done)|(show Eq _ _;simp_all;done)|fail) (fun hc h=>by first|exact trivial|exact rfl|exact hc|(show Eq _ _;rw[hc,h];rfl)|(show Eq _ _;rw[h,hc];rfl)|(show Eq _ _;simp[hc,h];done)|(show Eq _ _;simp_all;done)|fail) k|fail):SO P Y ops dr x v m n s e:=h
theorem aiY(ht:oT x=12:=by exact rfl)(h:SO P Y ops dr x v m n s e:=by intro _ _ _ _ k;first|exact aB (Gt V.h V.h V.h rfl rfl) ak ⟨V.h,V.h⟩ k|fail):SO P Y ops dr x v m n s e:=h
theorem aiZ(ht:oT x=76:=by exact rfl)(h:SO P Y ops dr x v m n s e:=by intro _ _ _ _ k;first|exact aB (Pp rfl rfl lG) ak rfl k|exact aB (HU rfl rfl) ak rfl k|fail):SO P Y ops dr x v m n s e:=h
theorem ai0(ht:oT x=48:=by exact rfl)(h:SO P Y ops dr x v m n s e:=by intro _ _ _ _ k;first|exact aB (qd (v:=.s (.int _ _)) rfl rfl) ak Wj k|exact aB (qd (v:=.s (.bool _)) rfl rfl) ak Wj k|exact aB (qd (v:=.sl _ _) rfl rfl) ak Wj k|exact aB (qd (v:=.z) rfl rfl) ak Wj k|exact aB (qd (v:=.agg _) rfl rfl) ak Wj k|fail):SO P Y ops dr x v m n s e:=h
theorem ai1(ht:oT x=16:=by exact rfl)(h:SO P Y ops dr x v m n s e:=by intro _ _ _ _ k;first|exact cr (Y8 rfl rfl rfl rfl V.h) ak ⟨V.h,by kernel_rfl,by kernel_rfl⟩ k|fail):SO P Y ops dr x v m n s e:=h
theorem ai2(ht:oT x=54:=by exact rfl)(h:SO P Y ops dr x v m n s e:=by intro _ _ _ _ k;first|exact aB (Pq rfl rfl uY) ak rfl k|exact aB (HV rfl rfl oG) ak rfl k|fail):SO P Y ops dr x v m n s e:=h
theorem ai3(ht:oT x=22:=by exact rfl)(h:SO P Y ops dr x v m n s e:=by intro _ _ _ _ k;first|exact aB (O8 rfl) ak trivial k|exact aB (O9 rfl aq) ak trivial k|exact aB (O9 rfl bX) ak trivial k|fail):SO P Y ops dr x v m n s e:=h
theorem ai4(ht:oT x=32:=by exact rfl)(h:SO P Y ops dr x v m n s e:=by intro _ _ _ _ k;first|exact eQ (yv rfl rfl V.h V.h) ak ⟨by omega,rfl,by omega,by rw[b4];omega,V.h⟩ k|exact eQ (yv rfl rfl V.h V.h) ak ⟨by omega,rfl,by omega,by rw[E'];omega,V.h⟩ k|fail):SO P Y ops dr x v m n s e:=h
theorem ai5(ht:oT x=84:=by exact rfl)(h:SO P Y ops dr x v m n s e:=by intro _ _ _ _ k;first|exact aB (abe rfl rfl zi) ak rfl k|exact aB (HS rfl rfl) ak rfl k|fail):SO P Y ops dr x v m n s e:=h
theorem ai6(ht:oT x=77:=by exact rfl)(h:SO P Y ops dr x v m n s e:=by intro _ _ _ _ k;first|exact bm rfl rfl (HU rfl rfl) (fun hc=>⟨ak,rfl⟩) k|fail):SO P Y ops dr x v m n s e:=h
theorem ai7(ht:oT x=81:=by exact rfl)(h:SO P Y ops dr x v m n s e:=by intro _ _ _ _ k;first|exact bm rfl rfl (abf rfl rfl Tu) (fun hc=>⟨ak,rfl⟩) k|exact bm rfl rfl (HQ rfl rfl) (fun hc=>⟨ak,rfl⟩) k|fail):SO P Y ops dr x v m n s e:=h
theorem ai8(ht:oT x=28:=by exact rfl)(h:SO P Y ops dr x v m n s e:=by intro _ _ _ _ k;first|exact aB (Pc rfl rfl) ak trivial k|fail):SO P Y ops dr x v m n s e:=h
theorem ai9(ht:oT x=55:=by exact rfl)(h:SO P Y ops dr x v m n s e:=by intro _ _ _ _ k;first|exact bm rfl rfl (Pq rfl rfl uY) (fun hc=>⟨ak,rfl⟩) k|exact bm rfl rfl (HV rfl rfl oG) (fun hc=>⟨ak,rfl⟩) k|fail):SO P Y ops dr x v m n s e:=h
theorem ai'(ht:oT x=79:=by exact rfl)(h:SO P Y ops dr x v m n s e:=by intro _ _ _ _ k;first|exact bm rfl rfl (HP rfl rfl) (fun hc=>⟨ak,rfl⟩) k|fail):SO P Y ops dr x v m n s e:=h
theorem aja(ht:oT x=82:=by exact rfl)(h:SO P Y ops dr x v m n s e:=by intro _ _ _ _ k;first|exact aB (HR rfl rfl) ak rfl k|fail):SO P Y ops dr x v m n s e:=h
theorem ajb(ht:oT x=58:=by exact rfl)(h:SO P Y ops dr x v m n s e:=by intro _ _ _ _ k;first|exact aB (abg rfl rfl BE) ak ⟨rfl,by omega⟩ k|fail):SO P Y ops dr x v m n s e:=h
theorem ajc(ht:oT x=60:=by exact rfl)(h:SO P Y ops dr x v m n s e:=by intro _ _ _ _ k;first|exact aB (abh rfl rfl BF) ak ⟨rfl,by omega⟩ k|fail):SO P Y ops dr x v m n s e:=h
theorem ajd(ht:oT x=42:=by exact rfl)(h:SO P Y ops dr x v m n s e:=by intro _ _ _ _ k;first|exact aB (Pb rfl rfl) ak ⟨V.h,by omega,by omega⟩ k|fail):SO P Y ops dr x v m n s e:=h
theorem aje(ht:oT x=43:=by exact rfl)(h:SO P Y ops dr x v m n s e:=by intro _ _ _ _ k;first|exact bm rfl rfl (Pb rfl rfl) (fun hc=>⟨ak,⟨V.h,by omega,by omega⟩⟩) k|fail):SO P Y ops dr x v m n s e:=h
theorem ajf(ht:oT x=30:=by exact rfl)(h:SO P Y ops dr x v m n s e:=by intro _ _ _ _ k;first|exact eQ abR ak trivial k|fail):SO P Y ops dr x v m n s e:=h
theorem ajg(ht:oT x=15:=by exact rfl)(h:SO P Y ops dr x v m n s e:=by intro _ _ _ _ k;first|exact abb rfl rfl (Af (cs:=[_]) V.h V.h V.h rfl rfl) ak ⟨rfl,by decide,V.h,by decide⟩ k|fail):SO P Y ops dr x v m n s e:=h
theorem ajh(ht:oT x=62:=by exact rfl)(h:SO P Y ops dr x v m n s e:=by intro _ _ _ _ k;first|exact aB (abP rfl rfl) ak rfl k|fail):SO P Y ops dr x v m n s e:=h
theorem aji(ht:oT x=68:=by exact rfl)(h:SO P Y ops dr x v m n s e:=by intro _ _ _ _ k;first|exact aB (abQ rfl rfl) ak oG k|fail):SO P Y ops dr x v m n s e:=h
theorem ajj(ht:oT x=64:=by exact rfl)(h:SO P Y ops dr x v m n s e:=by intro _ _ _ _ k;first|exact aB (aiB rfl rfl) ak rfl k|fail):SO P Y ops dr x v m n s e:=h
theorem SS(K:AOps P Y ops dr cf Q r s (q++[e]))(h:SO P Y ops dr x v m n s e:=by first|exact SS2|exact SS4|exact aiG|exact aiH|exact aiI|exact SS6|exact aiJ|exact aiK|exact SS3|exact aiL|exact aiM|exact aiN|exact aiO|exact aiP|exact aiQ|exact aiR|exact aiS|exact SS8|exact aiT|exact aiU|exact aiV|exact aiW|exact aiX|exact SS7|exact aiY|exact aiZ|exact ai0|exact ai1|exact ai2|exact ai3|exact ai4|exact ai5|exact ai6|exact ai7|exact ai8|exact ai9|exact ai'|exact aja|exact ajb|exact ajc|exact ajd|exact aje|exact ajf|exact ajg|exact ajh|exact aji|exact ajj):AOps P Y ops dr cf Q (x::r) ⟨v,m,n⟩ q:=h _ _ _ _ K
variable{x2 x3 x4 x5 x6 x7 x8 x9:Oper}{e2 e3 e4 e5 e6 e7 e8 e9:List Nat×List Nat}
theorem ag(K:AOps P Y ops dr cf Q r s (q++[e]++[e2]))(h:∀ cf Q r q,AOps P Y ops dr cf Q r s (q++[e]++[e2])->AOps P Y ops dr cf Q (x::x2::r) ⟨v,m,n⟩ q:=by intro _ _ _ _ k;(iterate 2 refine SS ?_);exact k):AOps P Y ops dr cf Q (x::x2::r) ⟨v,m,n⟩ q:=h _ _ _ _ K
theorem aw(K:AOps P Y ops dr cf Q r s (q++[e]++[e2]++[e3]))(h:∀ cf Q r q,AOps P Y ops dr cf Q r s (q++[e]++[e2]++[e3])->AOps P Y ops dr cf Q (x::x2::x3::r) ⟨v,m,n⟩ q:=by intro _ _ _ _ k;(iterate 3 refine SS ?_);exact k):AOps P Y ops dr cf Q (x::x2::x3::r) ⟨v,m,n⟩ q:=h _ _ _ _ K
theorem aF(K:AOps P Y ops dr cf Q r s (q++[e]++[e2]++[e3]++[e4]))(h:∀ cf Q r q,AOps P Y ops dr cf Q r s (q++[e]++[e2]++[e3]++[e4])->AOps P Y ops dr cf Q (x::x2::x3::x4::r) ⟨v,m,n⟩ q:=by intro _ _ _ _ k;(iterate 4 refine SS ?_);exact k):AOps P Y ops dr cf Q (x::x2::x3::x4::r) ⟨v,m,n⟩ q:=h _ _ _ _ K
theorem aV(K:AOps P Y ops dr cf Q r s (q++[e]++[e2]++[e3]++[e4]++[e5]))(h:∀ cf Q r q,AOps P Y ops dr cf Q r s (q++[e]++[e2]++[e3]++[e4]++[e5])->AOps P Y ops dr cf Q (x::x2::x3::x4::x5::r) ⟨v,m,n⟩ q:=by intro _ _ _ _ k;(iterate 5 refine SS ?_);exact k):AOps P Y ops dr cf Q (x::x2::x3::x4::x5::r) ⟨v,m,n⟩ q:=h _ _ _ _ K
theorem bD(K:AOps P Y ops dr cf Q r s (q++[e]++[e2]++[e3]++[e4]++[e5]++[e6]))(h:∀ cf Q r q,AOps P Y ops dr cf Q r s (q++[e]++[e2]++[e3]++[e4]++[e5]++[e6])->AOps P Y ops dr cf Q (x::x2::x3::x4::x5::x6::r) ⟨v,m,n⟩ q:=by intro _ _ _ _ k;(iterate 6 refine SS ?_);exact k):AOps P Y ops dr cf Q (x::x2::x3::x4::x5::x6::r) ⟨v,m,n⟩ q:=h _ _ _ _ K
theorem cK(K:AOps P Y ops dr cf Q r s (q++[e]++[e2]++[e3]++[e4]++[e5]++[e6]++[e7]))(h:∀ cf Q r q,AOps P Y ops dr cf Q r s (q++[e]++[e2]++[e3]++[e4]++[e5]++[e6]++[e7])->AOps P Y ops dr cf Q (x::x2::x3::x4::x5::x6::x7::r) ⟨v,m,n⟩ q:=by intro _ _ _ _ k;(iterate 7 refine SS ?_);exact k):AOps P Y ops dr cf Q (x::x2::x3::x4::x5::x6::x7::r) ⟨v,m,n⟩ q:=h _ _ _ _ K
theorem bA(K:AOps P Y ops dr cf Q r s (q++[e]++[e2]++[e3]++[e4]++[e5]++[e6]++[e7]++[e8]))(h:∀ cf Q r q,AOps P Y ops dr cf Q r s (q++[e]++[e2]++[e3]++[e4]++[e5]++[e6]++[e7]++[e8])->AOps P Y ops dr cf Q (x::x2::x3::x4::x5::x6::x7::x8::r) ⟨v,m,n⟩ q:=by intro _ _ _ _ k;(iterate 8 refine SS ?_);exact k):AOps P Y ops dr cf Q (x::x2::x3::x4::x5::x6::x7::x8::r) ⟨v,m,n⟩ q:=h _ _ _ _ K
theorem aL(K:AOps P Y ops dr cf Q r s (q++[e]++[e2]++[e3]++[e4]++[e5]++[e6]++[e7]++[e8]++[e9]))(h:∀ cf Q r q,AOps P Y ops dr cf Q r s (q++[e]++[e2]++[e3]++[e4]++[e5]++[e6]++[e7]++[e8]++[e9])->AOps P Y ops dr cf Q (x::x2::x3::x4::x5::x6::x7::x8::x9::r) ⟨v,m,n⟩ q:=by intro _ _ _ _ k;(iterate 9 refine SS ?_);exact k):AOps P Y ops dr cf Q (x::x2::x3::x4::x5::x6::x7::x8::x9::r) ⟨v,m,n⟩ q:=h _ _ _ _ K
end
end Go.Abs
namespace Go.Abs
open Go.ChangeShapes Go.WideShapes
inductive yU:List Sh->List D->Prop
 |nil:yU [] []
 |cons {s:Sh} {l:List Sh} {ds:List D} (x:s.val) (hx:s.ok x) (h:yU l ds):yU (s::l) (s.arg x::ds)
def vf(P:Program)(n:Nat):List TypeId->Option (List Sh)
 |[]=>some []
 |t::ts=>match shT P n t,vf P n ts with
  |some s,some l=>some (s::l)
  |_,_=>none
theorem YK{P:Program}{n:Nat}{t:TypeId}{ts:List TypeId}{l:List Sh}(h:vf P n (t::ts)=some l):∃ s C,shT P n t=some s/\vf P n ts=some C/\l=s::C:=by
 simp only[vf] at h;split at h
 .rename_i s C h1 h2;simp only[Option.some.injEq] at h;exact⟨s,C,h1,h2,h.symm⟩
 .cases h
section
variable{P:Program}{H:Type}{ec:TypeId×Value->H}{w w':World}{base b0:Nat}{r:Reach}
theorem QV{n:Nat}:∀ {ts:List TypeId} {C:List Sh} {vs:List Value} {ds:List (DataW H)} {ps:List MemPlace},vf P n ts=some C->
 (∀ (j:Nat) t v,ts[j]? =some t->vs[j]? =some v->Value.okWide P w r b0 t v)->DataW.TrodAll ec P w base (fun _=>true) true ts vs ds ps->
 ∃ aS,yU C aS/\aS.length=vs.length/\∀ (k:Nat) (d:D) (v:Value),aS[k]? =some d->vs[k]? =some v->R (fun _=>False) noRows w d v
 |[],C,[],[],_,hs,_,_=>by
  simp only[vf,Option.some.injEq] at hs;subst hs;exact⟨[],.nil,rfl,by simp⟩
 |t::ts,C,v::vs,d::ds,ps,hs,bf,h=>by
  obtain⟨p,q,h1,h2,_⟩:=h;obtain⟨s,l',J,U,rfl⟩:=YK hs;obtain⟨x,X,hx⟩:=arg_R J (bf 0 t v rfl rfl) h1;obtain⟨aS,a1,a2,a3⟩:=QV U (fun j t v hj hv=>bf (j+1) t v (by simpa using hj) (by simpa using hv)) h2;refine⟨s.arg x::aS,.cons x X a1,by simp[a2],fun k d v hd hv=>?_⟩;cases k with
  |zero=>
   simp only[List.getElem?_cons_zero,Option.some.injEq] at hd hv;subst hd hv;exact hx
  |succ k=>exact a3 k d v (by simpa using hd) (by simpa using hv)
 |[],_,_::_,_,_,_,_,h=>by simp[DataW.TrodAll] at h
 |[],_,[],_::_,_,_,_,h=>by simp[DataW.TrodAll] at h
 |_::_,_,[],_,_,_,_,h=>by simp[DataW.TrodAll] at h
 |_::_,_,_::_,[],_,_,_,h=>by simp[DataW.TrodAll] at h
theorem Kept.same(h:Kept w w'){p:MemPlace}(hp:p.block<w.heap.size):w.sameAt w' p:=by
 cases p with
 |cell b o=>exact Go.World.cell?_of_block (w:=w) (h.2.1 b hp)
 |map b=>exact h.2.1 b hp
theorem Kept.frame(h:Kept w w')(C:MemPlace->Prop):w.keptBut w' C:=by
 refine⟨h.2.2.1,h.2.2.2,fun i hi=>?_⟩;rw[h.2.1 i hi];split<;>simp_all
theorem KK(hl:laidOutB P=true)(h:Kept w w'):∀ {ts:List TypeId} {vs:List Value} {ds:List (DataW H)} {ps:List MemPlace},(ts.all fun t=>P.readableRec t&&decide (t<P.types.size))=true->
 DataW.TrodAll ec P w 0 (fun _=>true) true ts vs ds ps->DataW.TrodAll ec P w' 0 (fun b=>decide (b<w.heap.size)) true ts vs ds ps
 |[],[],[],_,_,h0=>h0
 |t::ts,v::vs,d::ds,ps,ht,h0=>by
  obtain⟨p,q,h1,h2,rfl⟩:=h0;simp only[List.all_cons,Bool.and_eq_true,decide_eq_true_eq] at ht;have ao:∀ x∈p,x.block<w.heap.size:=by obtain⟨m,hm⟩:=h1;exact DataW.trod_lt m _ _ _ hm
  exact⟨p,q,WideElems.Trod_stays hl ht.1.1 ht.1.2 h1 (fun x hx=>h.same (ao x hx)) (fun x hx=>by simpa using ao x hx),KK hl h (by simpa using ht.2) h2,rfl⟩
 |[],_::_,_,_,_,h0=>by simp[DataW.TrodAll] at h0
 |[],[],_::_,_,_,h0=>by simp[DataW.TrodAll] at h0
 |_::_,[],_,_,_,h0=>by simp[DataW.TrodAll] at h0
 |_::_,_::_,[],_,_,h0=>by simp[DataW.TrodAll] at h0
theorem K3:∀ {ts:List TypeId} {vs:List Value} {ds:List (DataW H)} {ps:List MemPlace},DataW.TrodAll ec P w 0 (fun _=>true) true ts vs ds ps->ds.length=ts.length
 |[],[],[],_,_=>rfl
 |t::ts,v::vs,d::ds,ps,h0=>by
  obtain⟨p,q,h1,h2,rfl⟩:=h0;simp[K3 h2]
 |[],_::_,_,_,h0=>by simp[DataW.TrodAll] at h0
 |[],[],_::_,_,h0=>by simp[DataW.TrodAll] at h0
 |_::_,[],_,_,h0=>by simp[DataW.TrodAll] at h0
 |_::_,_::_,[],_,h0=>by simp[DataW.TrodAll] at h0
end
theorem Wq{C:Checked}{f:FuncId}{fn:Func}{s:ChangeSpec}{H:Type}{ec:TypeId×Value->H}{n:Nat}{ye:List Sh}{tb:TypeId}
 (Th:s.vars=[]) (hs:∀ ds:List (DataW H),ds.length=fn.params.size->s.fn H ds={ results:=[.lit (.bool true)],args:=ds })
 (J:laidOutB C.prog=true) (U:(fn.params.toList.all fun t=>C.prog.readableRec t&&decide (t<C.prog.types.size))=true) (lF:fn.resultTypes= #[tb]) (hb:C.prog.underlying tb=some .bool)
 (hsh:vf C.prog n fn.params.toList=some ye) (h:∀ aS,yU ye aS->PCall C.prog f aS (.s (.bool true)))
 (W:World) (base:Nat) (args:Array Value) (ds gs:List (DataW H)) (before:List MemPlace)
 (BZ:∀ (j:Nat) t v,fn.params[j]? =some t->args[j]? =some v->Value.okWide C.prog W .any base t v)
 (hW:DataW.Whole ec C.prog fn.params.toList s.vars false W args.toList ds gs before):
 Calls C.prog f args W fun e W'=>∃ v,e=.returned v/\s.post ec C.prog fn false true false false W args v W':=by
 have hW':=hW;obtain⟨p,q,X,hV,rfl,hfz,dm⟩:=hW;rw[Th] at hV
 have hg:gs=[]/\q=[]:=by
  cases gs with
  |nil=>exact⟨rfl,hV⟩
  |cons g gs=>exact hV.elim
 obtain⟨rfl,rfl⟩:=hg;obtain⟨aS,a1,a2,a3⟩:=QV hsh (fun j t v hj hv=>BZ j t v (by simpa using hj) (by simpa using hv)) X;refine((h aS a1).2.2 (fun _=>False) W args (fun _ hf=>hf.elim) ⟨by simpa using a2.symm,fun k d v hd hv=>a3 k d v hd (by simpa using hv)⟩).mono ?_;rintro e W' ⟨v,rfl,hv,hk⟩;obtain⟨rfl,_⟩:=hv.s_inv;have hlen:ds.length=fn.params.size:=by simpa using K3 X
 refine⟨_,rfl,ds,[],_,[],p,[],hW',?_,?_,?_,hk.frame _,fun h=>by cases h⟩
 .rw[List.append_nil,hs ds hlen,lF];exact⟨[],[],⟨1,by simp[DataW.trod,Value.cells,hb]⟩,rfl,rfl⟩
 .rw[List.append_nil,hs ds hlen];exact KK J hk U X
 .rw[List.append_nil,hs ds hlen,Th];rfl
end Go.Abs
section
open Go Go.Abs Go.Proofs Go.Argus
namespace Go.Proofs.Tryz.K
set_option maxRecDepth 10000
theorem IL{l:List Int}{g:FuncId}{fs cs:List D}{p:Int->Bool}(ht:Tr (.fn (.func g) fs cs))(hg:∀ x∈l,PCall prog g (fs++[U8 x]++cs) (B (p x))):PCall prog 252 [jD l,.fn (.func g) fs cs] (I (iJ p l)):=by
 refine lj H5.he (.cons (o9 _) (.cons ht .nil)) fun C=>?_;have hlen:=(C (jD l) oS).sl.1;unfold maxLen at hlen;refine aX mixed H5 (by rw[ab5];rfl) (.cons (o9 _) (.cons ht .nil)) (Tr.s _) ?_;rw[ab6,ab7];refine ws ?_;refine SS ?_;refine ab (aD (av ?_));refine aw ?_
 refine ab (bG (fun s=>Ghost prog s ⟨ay [],fun _=>none,0⟩/\∀ (j:Nat) y,l[j]? =some y->p y=false) (dq (α:=Nat) (fun k=>⟨ay [(0,jD l),(1,.fn (.func g) fs cs),(7,I l.length),(8,I k)],fun _=>none,0⟩)
  (fun k=>k<=l.length/\∀ j y,j<k->l[j]? =some y->p y=false) (fun k=>l.length - k) 0 (ap eH) ⟨by omega,fun j y hj=>by omega⟩ ?_) ?_)
 .rintro k ⟨hk,hinv⟩;refine SS ?_;refine ab ⟨_,rfl,fun h=>?_,fun h=>?_⟩
  .have ao:k<l.length:=by simpa using h
   have hx:l[k]? =some l[k]:=by simp[ao]
   generalize l[k]=x at hx;have U:=hg x (List.mem_of_getElem? hx);refine ws ?_;refine ag ?_;refine er ?_;refine aV ?_;refine cl U ?_;refine ab (au rfl (fun hp=>?_) fun hp=>?_)
   .refine ws ?_;refine ag ?_;refine ab (aU (b7 (aQ (ax rfl ?_))));rw[yj hx hp hinv];rfl
   .refine b8 ?_;refine ag ?_;refine ab (aH (k+1) (ap eH) ⟨by omega,fun j y hj hy=>?_⟩ oG);by_cases e:j=k
    .subst e;rw[hx] at hy;cases hy;exact hp
    .exact hinv j y oG hy
  .have X:¬ k<l.length:=by simpa using h
   exact⟨.forget _ _ _ _ fun _=>.inr rfl,fun j y hy=>hinv j y (by have:=(List.getElem?_eq_some_iff.1 hy).1;omega) hy⟩
 .rintro s ⟨hg,J⟩;refine⟨_,hg,an ?_⟩;refine SS ?_;refine ab (ax rfl ?_);rw[yk J];rfl
theorem tu{l:List Int}{g:FuncId}{fs cs:List D}{p:Int->Bool}(ht:Tr (.fn (.func g) fs cs))(hg:∀ x∈l,PCall prog g (fs++[U8 x]++cs) (B (p x))):PCall prog 228 [jD l,.fn (.func g) fs cs] (B (l.any p)):=by
 have IL:=IL ht hg;refine aX mixed Rf (by rw[ab8];rfl) (.cons (o9 _) (.cons ht .nil)) (Tr.s _) ?_;rw[ab9,ab'];refine ws ?_;refine SS ?_;refine er ?_;refine ag ?_;refine cl IL ?_;refine ag ?_;refine ab (ax rfl ?_);rw[<- Dp];rfl
theorem IM{l:List ByteArray}{g:FuncId}{fs cs:List D}{p:ByteArray->Bool}(ht:Tr (.fn (.func g) fs cs))(hg:∀ x∈l,PCall prog g (fs++[S x]++cs) (B (p x))):PCall prog 231 [pg l,.fn (.func g) fs cs] (I (iJ p l)):=by
 refine lj H6.he (.cons (wm _) (.cons ht .nil)) fun C=>?_;have hlen:=(C (pg l) oS).sl.1;unfold maxLen at hlen;refine aX mixed H6 (by rw[aca];rfl) (.cons (wm _) (.cons ht .nil)) (Tr.s _) ?_;rw[acb,acd];refine ws ?_;refine SS ?_;refine ab (aD (av ?_));refine aw ?_
 refine ab (bG (fun s=>Ghost prog s ⟨ay [],fun _=>none,0⟩/\∀ (j:Nat) y,l[j]? =some y->p y=false) (dq (α:=Nat) (fun k=>⟨ay [(0,pg l),(1,.fn (.func g) fs cs),(7,I l.length),(8,I k)],fun _=>none,0⟩)
  (fun k=>k<=l.length/\∀ j y,j<k->l[j]? =some y->p y=false) (fun k=>l.length - k) 0 (ap eH) ⟨by omega,fun j y hj=>by omega⟩ ?_) ?_)
 .rintro k ⟨hk,hinv⟩;refine SS ?_;refine ab ⟨_,rfl,fun h=>?_,fun h=>?_⟩
  .have ao:k<l.length:=by simpa using h
   have hx:l[k]? =some l[k]:=by simp[ao]
   generalize l[k]=x at hx;have U:=hg x (List.mem_of_getElem? hx);refine ws ?_;refine ag ?_;refine er ?_;refine aV ?_;refine cl U ?_;refine ab (au rfl (fun hp=>?_) fun hp=>?_)
   .refine ws ?_;refine ag ?_;refine ab (aU (b7 (aQ (ax rfl ?_))));rw[yj hx hp hinv];rfl
   .refine b8 ?_;refine ag ?_;refine ab (aH (k+1) (ap eH) ⟨by omega,fun j y hj hy=>?_⟩ oG);by_cases e:j=k
    .subst e;rw[hx] at hy;cases hy;exact hp
    .exact hinv j y oG hy
  .have X:¬ k<l.length:=by simpa using h
   exact⟨.forget _ _ _ _ fun _=>.inr rfl,fun j y hy=>hinv j y (by have:=(List.getElem?_eq_some_iff.1 hy).1;omega) hy⟩
 .rintro s ⟨hg,J⟩;refine⟨_,hg,an ?_⟩;refine SS ?_;refine ab (ax rfl ?_);rw[yk J];rfl
theorem Ep{l:List ByteArray}{g:FuncId}{fs cs:List D}{p:ByteArray->Bool}(ht:Tr (.fn (.func g) fs cs))(hg:∀ x∈l,PCall prog g (fs++[S x]++cs) (B (p x))):PCall prog 192 [pg l,.fn (.func g) fs cs] (B (l.any p)):=by
 have IM:=IM ht hg;refine aX mixed Rg (by rw[ace];rfl) (.cons (wm _) (.cons ht .nil)) (Tr.s _) ?_;rw[acf,acg];refine ws ?_;refine SS ?_;refine er ?_;refine ag ?_;refine cl IM ?_;refine ag ?_;refine ab (ax rfl ?_);rw[<- Dp];rfl
theorem IN{l:List aW}{g:FuncId}{fs cs:List D}{p:aW->Bool}(ht:Tr (.fn (.func g) fs cs))(hg:∀ x∈l,PCall prog g (fs++[.agg (a8 x)]++cs) (B (p x))):PCall prog 158 [dt l,.fn (.func g) fs cs] (I (iJ p l)):=by
 refine lj H7.he (.cons (yD _) (.cons ht .nil)) fun C=>?_;have hlen:=(C (dt l) oS).sl.1;unfold maxLen at hlen;refine aX mixed H7 (by rw[ach];rfl) (.cons (yD _) (.cons ht .nil)) (Tr.s _) ?_;rw[aci,acj];refine ws ?_;refine SS ?_;refine ab (aD (av ?_));refine aw ?_
 refine ab (bG (fun s=>Ghost prog s ⟨ay [],fun _=>none,0⟩/\∀ (j:Nat) y,l[j]? =some y->p y=false) (dq (α:=Nat) (fun k=>⟨ay [(0,dt l),(1,.fn (.func g) fs cs),(7,I l.length),(8,I k)],fun _=>none,0⟩)
  (fun k=>k<=l.length/\∀ j y,j<k->l[j]? =some y->p y=false) (fun k=>l.length - k) 0 (ap eH) ⟨by omega,fun j y hj=>by omega⟩ ?_) ?_)
 .rintro k ⟨hk,hinv⟩;refine SS ?_;refine ab ⟨_,rfl,fun h=>?_,fun h=>?_⟩
  .have ao:k<l.length:=by simpa using h
   have hx:l[k]? =some l[k]:=by simp[ao]
   generalize l[k]=x at hx;have U:=hg x (List.mem_of_getElem? hx);refine ws ?_;refine ag ?_;refine er ?_;refine aV ?_;refine cl U ?_;refine ab (au rfl (fun hp=>?_) fun hp=>?_)
   .refine ws ?_;refine ag ?_;refine ab (aU (b7 (aQ (ax rfl ?_))));rw[yj hx hp hinv];rfl
   .refine b8 ?_;refine ag ?_;refine ab (aH (k+1) (ap eH) ⟨by omega,fun j y hj hy=>?_⟩ oG);by_cases e:j=k
    .subst e;rw[hx] at hy;cases hy;exact hp
    .exact hinv j y oG hy
  .have X:¬ k<l.length:=by simpa using h
   exact⟨.forget _ _ _ _ fun _=>.inr rfl,fun j y hy=>hinv j y (by have:=(List.getElem?_eq_some_iff.1 hy).1;omega) hy⟩
 .rintro s ⟨hg,J⟩;refine⟨_,hg,an ?_⟩;refine SS ?_;refine ab (ax rfl ?_);rw[yk J];rfl
theorem IP{l:List jn}{g:FuncId}{fs cs:List D}{p:jn->Bool}(ht:Tr (.fn (.func g) fs cs))(hg:∀ x∈l,PCall prog g (fs++[.agg (kJ x)]++cs) (B (p x))):PCall prog 260 [nH l,.fn (.func g) fs cs] (I (iJ p l)):=by
 refine lj H8.he (.cons (iW _) (.cons ht .nil)) fun C=>?_;have hlen:=(C (nH l) oS).sl.1;unfold maxLen at hlen;refine aX mixed H8 (by rw[ack];rfl) (.cons (iW _) (.cons ht .nil)) (Tr.s _) ?_;rw[acm,acn];refine ws ?_;refine SS ?_;refine ab (aD (av ?_));refine aw ?_
 refine ab (bG (fun s=>Ghost prog s ⟨ay [],fun _=>none,0⟩/\∀ (j:Nat) y,l[j]? =some y->p y=false) (dq (α:=Nat) (fun k=>⟨ay [(0,nH l),(1,.fn (.func g) fs cs),(7,I l.length),(8,I k)],fun _=>none,0⟩)
  (fun k=>k<=l.length/\∀ j y,j<k->l[j]? =some y->p y=false) (fun k=>l.length - k) 0 (ap eH) ⟨by omega,fun j y hj=>by omega⟩ ?_) ?_)
 .rintro k ⟨hk,hinv⟩;refine SS ?_;refine ab ⟨_,rfl,fun h=>?_,fun h=>?_⟩
  .have ao:k<l.length:=by simpa using h
   have hx:l[k]? =some l[k]:=by simp[ao]
   generalize l[k]=x at hx;have U:=hg x (List.mem_of_getElem? hx);refine ws ?_;refine ag ?_;refine er ?_;refine aV ?_;refine cl U ?_;refine ab (au rfl (fun hp=>?_) fun hp=>?_)
   .refine ws ?_;refine ag ?_;refine ab (aU (b7 (aQ (ax rfl ?_))));rw[yj hx hp hinv];rfl
   .refine b8 ?_;refine ag ?_;refine ab (aH (k+1) (ap eH) ⟨by omega,fun j y hj hy=>?_⟩ oG);by_cases e:j=k
    .subst e;rw[hx] at hy;cases hy;exact hp
    .exact hinv j y oG hy
  .have X:¬ k<l.length:=by simpa using h
   exact⟨.forget _ _ _ _ fun _=>.inr rfl,fun j y hy=>hinv j y (by have:=(List.getElem?_eq_some_iff.1 hy).1;omega) hy⟩
 .rintro s ⟨hg,J⟩;refine⟨_,hg,an ?_⟩;refine SS ?_;refine ab (ax rfl ?_);rw[yk J];rfl
theorem BG{l:List jn}{g:FuncId}{fs cs:List D}{p:jn->Bool}(ht:Tr (.fn (.func g) fs cs))(hg:∀ x∈l,PCall prog g (fs++[.agg (kJ x)]++cs) (B (p x))):PCall prog 254 [nH l,.fn (.func g) fs cs] (B (l.any p)):=by
 have IP:=IP ht hg;refine aX mixed Rh (by rw[aco];rfl) (.cons (iW _) (.cons ht .nil)) (Tr.s _) ?_;rw[acp,acq];refine ws ?_;refine SS ?_;refine er ?_;refine ag ?_;refine cl IP ?_;refine ag ?_;refine ab (ax rfl ?_);rw[<- Dp];rfl
theorem IQ{l:List Int}{g:FuncId}{fs cs:List D}{p:Int->Bool}(ht:Tr (.fn (.func g) fs cs))(hg:∀ x∈l,PCall prog g (fs++[I x]++cs) (B (p x))):PCall prog 130 [az l,.fn (.func g) fs cs] (I (iJ p l)):=by
 refine lj H9.he (.cons (cI _) (.cons ht .nil)) fun C=>?_;have hlen:=(C (az l) oS).sl.1;unfold maxLen at hlen;refine aX mixed H9 (by rw[acr];rfl) (.cons (cI _) (.cons ht .nil)) (Tr.s _) ?_;rw[acs,acu];refine ws ?_;refine SS ?_;refine ab (aD (av ?_));refine aw ?_
 refine ab (bG (fun s=>Ghost prog s ⟨ay [],fun _=>none,0⟩/\∀ (j:Nat) y,l[j]? =some y->p y=false) (dq (α:=Nat) (fun k=>⟨ay [(0,az l),(1,.fn (.func g) fs cs),(7,I l.length),(8,I k)],fun _=>none,0⟩)
  (fun k=>k<=l.length/\∀ j y,j<k->l[j]? =some y->p y=false) (fun k=>l.length - k) 0 (ap eH) ⟨by omega,fun j y hj=>by omega⟩ ?_) ?_)
 .rintro k ⟨hk,hinv⟩;refine SS ?_;refine ab ⟨_,rfl,fun h=>?_,fun h=>?_⟩
  .have ao:k<l.length:=by simpa using h
   have hx:l[k]? =some l[k]:=by simp[ao]
   generalize l[k]=x at hx;have U:=hg x (List.mem_of_getElem? hx);refine ws ?_;refine ag ?_;refine er ?_;refine aV ?_;refine cl U ?_;refine ab (au rfl (fun hp=>?_) fun hp=>?_)
   .refine ws ?_;refine ag ?_;refine ab (aU (b7 (aQ (ax rfl ?_))));rw[yj hx hp hinv];rfl
   .refine b8 ?_;refine ag ?_;refine ab (aH (k+1) (ap eH) ⟨by omega,fun j y hj hy=>?_⟩ oG);by_cases e:j=k
    .subst e;rw[hx] at hy;cases hy;exact hp
    .exact hinv j y oG hy
  .have X:¬ k<l.length:=by simpa using h
   exact⟨.forget _ _ _ _ fun _=>.inr rfl,fun j y hy=>hinv j y (by have:=(List.getElem?_eq_some_iff.1 hy).1;omega) hy⟩
 .rintro s ⟨hg,J⟩;refine⟨_,hg,an ?_⟩;refine SS ?_;refine ab (ax rfl ?_);rw[yk J];rfl
theorem zj{l:List Int}{g:FuncId}{fs cs:List D}{p:Int->Bool}(ht:Tr (.fn (.func g) fs cs))(hg:∀ x∈l,PCall prog g (fs++[I x]++cs) (B (p x))):PCall prog 119 [az l,.fn (.func g) fs cs] (B (l.any p)):=by
 have IQ:=IQ ht hg;refine aX mixed Ri (by rw[acv];rfl) (.cons (cI _) (.cons ht .nil)) (Tr.s _) ?_;rw[acw,acx];refine ws ?_;refine SS ?_;refine er ?_;refine ag ?_;refine cl IQ ?_;refine ag ?_;refine ab (ax rfl ?_);rw[<- Dp];rfl
theorem lc{n a b:Int}:PCall prog 96 [I n,I a,I b] (B (cA n a b)):=by
 refine aX mixed TH (by rw[ajB];rfl) (by simp[Tr.s]) (Tr.s _) ?_;rw[ajC,ajD];refine ws ?_;refine SS ?_;refine er ?_;refine aL ?_;refine ab (ax (d:=.s (.bool _)) rfl ?_);simp[cA]
theorem ajE{b:Int}:PCall prog 229 [U8 b] (B (rG b)):=by
 refine aX mixed RI (by rw[adz];rfl) (by simp[Tr.s]) (Tr.s _) ?_;rw[adA,adB];refine ws ?_;refine SS ?_;refine er ?_;refine cK ?_;refine ab (ax (d:=.s (.bool _)) rfl ?_);simp[rG]
theorem ajF{b:Int}:PCall prog 232 [U8 b] (B (rH b)):=by
 refine aX mixed RJ (by rw[adC];rfl) (by simp[Tr.s]) (Tr.s _) ?_;rw[adD,adE];refine ws ?_;refine SS ?_;refine er ?_;refine aL ?_;refine bD ?_;refine ab (ax (d:=.s (.bool _)) rfl ?_);simp[rH]
theorem qP{s:ByteArray}:PCall prog 190 [S s] (B (ke s)):=by
 refine aX mixed RK (by rw[adF];rfl) (by simp[Tr.s]) (Tr.s _) ?_;have tu:=tu (l:=ct s) (g:=229) (fs:=[]) (cs:=[]) (p:=rG) (.fn oS oS) (fun x _=>ajE);rw[adG,adH];refine ws ?_;refine SS ?_;refine er ?_;refine ag ?_;refine cl lc ?_;refine ag ?_;refine bm rfl rfl (Mn rfl V.h V.h) (fun hc=>⟨ak,⟨V.h,by have:=jF.1 (by simpa using hc);unfold maxLen;omega⟩⟩) ?_;refine gc tu ?_;refine aw ?_;refine ab (ax (d:=.s (.bool _)) rfl ?_);simp[ke]
theorem BL{s:ByteArray}:PCall prog 194 [S s] (B (isName s)):=by
 refine aX mixed RL (by rw[adI];rfl) (by simp[Tr.s]) (Tr.s _) ?_;have tu:=tu (l:=ct s) (g:=232) (fs:=[]) (cs:=[]) (p:=rH) (.fn oS oS) (fun x _=>ajF);rw[adJ,adK];refine ws ?_;refine SS ?_;refine er ?_;refine ag ?_;refine cl lc ?_;refine ag ?_;refine bm rfl rfl (Mn rfl V.h V.h) (fun hc=>⟨ak,⟨V.h,by have:=jF.1 (by simpa using hc);unfold maxLen;omega⟩⟩) ?_;refine gc tu ?_;refine aw ?_;refine ab (ax (d:=.s (.bool _)) rfl ?_);simp[isName]
theorem ajG{s:ByteArray}:PCall prog 193 [S s] (B !(isName s)):=by
 refine aX mixed RM (by rw[adL];rfl) (by simp[Tr.s]) (Tr.s _) ?_;rw[adM,adN];refine ws ?_;refine SS ?_;refine er ?_;refine SS ?_;refine cl BL ?_;refine ag ?_;refine ab (ax rfl rfl)
theorem ajH{b m:Int}:PCall prog 230 [U8 b,.pt [U8 m]] (B (lm m b)):=by
 refine aX mixed RN (by rw[adO];rfl) (.cons (.s _) (.cons (.pt (by simp[Tr.s])) .nil)) (Tr.s _) ?_;rw[adP,adQ];refine ws ?_;refine SS ?_;refine er ?_;refine bA ?_;refine ab (ax (d:=.s (.bool _)) rfl ?_);simp[lm]
theorem IZ{l:List Int}{m:Int}:PCall prog 191 [jD l,U8 m] (B (dO l m)):=by
 refine aX mixed RO (by rw[adR];rfl) (.cons (o9 _) (.cons (.s _) .nil)) (Tr.s _) ?_;have tu:=tu (l:=l) (g:=230) (fs:=[]) (cs:=[.pt [U8 m]]) (p:=lm m) (.fn oS (.cons (.pt (by simp[Tr.s])) .nil)) (fun x _=>ajH);rw[adS,adT];refine av ?_;refine ag ?_;refine ab (aJ (bp [(0,[U8 m],5)] eH (l:=[(0,jD l),(3,.pt [U8 m])]) eH) (an ?_));refine ag ?_;refine cl tu ?_;refine ag ?_;refine ab (ax rfl rfl)
theorem Gi{p q:D}{f:aA}(h:Real (.agg (bh p q f))):f.aj.length<=maxLen/\f.aP.length<=maxLen/\f.signals.length<=maxLen/\f.blocks.length<=maxLen:=
 ⟨(h.agg (jD f.aj) (by simp[bh])).sl.1,(h.agg (jD f.aP) (by simp[bh])).sl.1,(h.agg (pg f.signals) (by simp[bh])).sl.1,(h.agg (eE f.blocks) (by simp[bh])).sl.1⟩
section
variable{p q:D}{f:aA}(hp:Tr p)(hq:Tr q)(eS:p.one=true)(eB:q.one=true)
include hp hq eS eB
theorem iM{n:Int}:PCall prog 233 [.agg (bh p q f),I n] (B (cA n 0 (f.blocks.length - 1))):=by
 have C:∀ a∈[D.agg (bh p q f),I n],Tr a:=.cons (lq hp hq f) (.cons (.s _) .nil);refine lj Ih.he C fun J=>?_;obtain⟨U,X,l3,l4⟩:=Gi (J _ (List.mem_cons_self ..));unfold maxLen at*
 refine aX mixed Ih (by rw[aeD];rfl) C (Tr.s _) ?_;rw[aeE,aeF];refine ws ?_;refine ag ?_;refine er ?_;refine bD ?_;refine cl lc ?_;refine SS ?_;refine ab (ax rfl rfl)
theorem ej{r:Int}:PCall prog 234 [.agg (bh p q f),I r] (U8 (bU f.aj r)):=by
 have C:∀ a∈[D.agg (bh p q f),I r],Tr a:=.cons (lq hp hq f) (.cons (.s _) .nil);refine lj Ii.he C fun U=>?_;obtain⟨X,l2,l3,l4⟩:=Gi (U _ (List.mem_cons_self ..));unfold maxLen at*
 refine aX mixed Ii (by rw[aeG];rfl) C (Tr.s _) ?_;rw[aeH,aeI];refine ws ?_;refine ag ?_;refine ab (aD (an ?_));refine bD ?_;refine cl lc ?_;refine SS ?_;refine ab (bC rfl (fun h=>?_) fun h=>?_)
 .refine aD (an ?_);refine SS ?_;refine ab (dx (ax rfl ?_));rw[Gd (fun J=>by simp[cA] at h;omega)];rfl
 .have J:0<=r/\r<f.aj.length:=by simp[cA] at h;omega
  obtain⟨i,rfl⟩:=Int.eq_ofNat_of_zero_le J.1;have ao:i<f.aj.length:=by omega
  have hx:f.aj[i]? =some f.aj[i]:=by simp[ao]
  generalize f.aj[i]=x at hx;refine cx (an ?_);refine cK ?_;refine ab (ax rfl ?_);rw[rI hx];rfl
theorem ajU{r:Int}:PCall prog 256 [I r,.pt (bh p q f)] (B !(dG f.aj r)):=by
 have C:∀ a∈[I r,D.pt (bh p q f)],Tr a:=.cons (.s _) (.cons (.pt (As hp hq f)) .nil);have ej:=ej (f:=f) (r:=r) hp hq eS eB;refine aX mixed R4 (by rw[aeJ];rfl) C (Tr.s _) ?_;rw[aeK,aeL];refine ws ?_;refine SS ?_;refine er ?_;refine ag ?_;refine cl ej ?_;refine aF ?_;refine gc ej ?_;refine aw ?_;refine ab (ax (d:=.s (.bool _)) rfl ?_);unfold dG;generalize bU f.aj r=k;show D.s (.bool _)=D.s (.bool _);simp only[bne];cases (k==1)<;>cases (k==2)<;>rfl
theorem gg{l:List Int}:PCall prog 237 [.agg (bh p q f),az l] (B (fm f.aj l)):=by
 have C:∀ a∈[D.agg (bh p q f),az l],Tr a:=.cons (lq hp hq f) (.cons (cI _) .nil);have zj:=zj (l:=l) (g:=256) (fs:=[]) (cs:=[.pt (bh p q f)]) (p:=fun r=> !(dG f.aj r)) (.fn oS (.cons (.pt (As hp hq f)) .nil)) (fun x _=>ajU hp hq eS eB);refine aX mixed R5 (by rw[aeM];rfl) C (Tr.s _) ?_;rw[aeN,aeO];refine av ?_;refine ag ?_;refine ab (aJ (bp [(0,bh p q f,133)] eH (l:=[(1,az l),(2,.pt (bh p q f))]) eH) (an ?_));refine ag ?_;refine cl zj ?_;refine ag ?_;refine ab (ax (d:=.s (.bool _)) rfl ?_);simp[fm,List.all_eq_not_any_not]
theorem EC{r n:Int}:PCall prog 239 [.agg (bh p q f),I r,I n] (B (kO f.aj f.aP r n)):=by
 have J:∀ a∈[D.agg (bh p q f),I r,I n],Tr a:=.cons (lq hp hq f) (.cons (.s _) (.cons (.s _) .nil));refine lj Ij.he J fun U=>?_;obtain⟨l1,l2,l3,l4⟩:=Gi (U _ (List.mem_cons_self ..));unfold maxLen at*
 have ej:=ej (f:=f) (r:=r) hp hq eS eB;refine aX mixed Ij (by rw[aeP];rfl) J (Tr.s _) ?_;rw[aeQ,aeR];have lc:=lc (n:=n) (a:=0) (b:=f.aP.length - 1);by_cases X:0<=n/\n<f.aP.length
 .obtain⟨i,rfl⟩:=Int.eq_ofNat_of_zero_le X.1;have ao:i<f.aP.length:=by omega
  have hx:f.aP[i]? =some f.aP[i]:=by simp[ao]
  generalize f.aP[i]=x at hx;have C:cA (i:Int) 0 (f.aP.length - 1)=true:=jF.2 oG;rw[C] at lc;refine ws ?_;refine ag ?_;refine ab (dd LL ?_);refine bD ?_;refine cl lc ?_;refine SS ?_;refine bm rfl rfl (cP (vs:=bh _ _ _) rfl rfl V.h V.h rfl) (fun hc=>⟨ak,(cQ V.h V.h (by first|(simp;done)|omega|exact Nat.le_of_ble_eq_true rfl))⟩) ?_;refine SS ?_;refine gc ej ?_;refine aL ?_;refine bj (by simp[apartT]) ?_;refine ax (d:=.s (.bool _)) rfl ?_;simp[kO,C,rI hx]
 .have C:cA n 0 (f.aP.length - 1)=false:=XZ.2 oG;rw[C] at lc;refine ws ?_;refine ag ?_;refine ab (dd LL ?_);refine bD ?_;refine cl lc ?_;refine SS ?_;(iterate 10 refine z fun _ _=>?_);refine ag ?_;refine bj (by simp[apartT]) ?_;refine ax (d:=.s (.bool _)) rfl ?_;simp[kO,C]
end
section
variable{p q:D}{f:aA}(hp:Tr p)(hq:Tr q)(eS:p.one=true)(eB:q.one=true)
include hp hq eS eB
theorem BS{r want kd:Int}:PCall prog 253 [.agg (bh p q f),I r,I want,U8 kd] (B (kM f.aj r want kd)):=by
 have C:∀ a∈[D.agg (bh p q f),I r,I want,U8 kd],Tr a:=.cons (lq hp hq f) (.cons (.s _) (.cons (.s _) (.cons (.s _) .nil)));have ej:=ej (f:=f) (r:=r) hp hq eS eB;refine aX mixed R8 (by rw[aeZ];rfl) C (Tr.s _) ?_;rw[ae0,ae1];refine ws ?_;refine ag ?_;refine er ?_;refine aB (cP (vs:=bh _ _ _) rfl rfl V.h V.h rfl) ak (cQ V.h V.h (by first|(simp;done)|omega|exact Nat.le_of_ble_eq_true rfl)) ?_;refine SS ?_;refine cl ej ?_;refine SS ?_;refine ab (aD (an ?_));refine SS ?_;refine ab (lW (an ?_));refine ag ?_;refine ab (au rfl (fun h0=>?_) fun h0=>?_)
 .have h0:want=0:=by simpa using h0
  refine ws ?_;refine aw ?_;refine ab (aU (bu (aQ (ax (d:=.s (.bool _)) rfl ?_))));simp[kM,h0]
 have h0:¬ want=0:=by simpa using h0
 refine ws ?_;refine ag ?_;refine ab (au rfl (fun h1=>?_) fun h1=>?_)
 .have h1:want=1:=by simpa using h1
  refine ws ?_;refine aw ?_;refine ab (aU (bu (aQ (ax (d:=.s (.bool _)) rfl ?_))));simp[kM,h1]
 have h1:¬ want=1:=by simpa using h1
 refine ws ?_;refine ag ?_;refine ab (au rfl (fun h2=>?_) fun h2=>?_)
 .have h2:want=2:=by simpa using h2
  refine ws ?_;refine aw ?_;refine ab (aU (bu (aQ (ax (d:=.s (.bool _)) rfl ?_))));simp[kM,h2]
 have h2:¬ want=2:=by simpa using h2
 refine ws ?_;refine ag ?_;refine ab (au rfl (fun h3=>?_) fun h3=>?_)
 .have h3:want=3:=by simpa using h3
  refine ws ?_;refine cK ?_;refine ab (aU (bu (aQ (ax (d:=.s (.bool _)) rfl ?_))));simp[kM,h3,dG,ib]
 have h3:¬ want=3:=by simpa using h3
 refine lx (an ?_);refine bA ?_;refine ab (ax (d:=.s (.bool _)) rfl ?_);simp[kM,h0,h1,h2,h3,ib,bne]
theorem zo{x:aW}{s:Shape}:PCall prog 235 [.agg (bh p q f),.agg (a8 x),.agg (iw s)] (B (nM f.aj x s)):=by
 have J:∀ a∈[D.agg (bh p q f),.agg (a8 x),.agg (iw s)],Tr a:=.cons (lq hp hq f) (.cons (.agg (mW x)) (.cons (.agg (LP s)) .nil));have ej:=fun r=>ej (f:=f) (r:=r) hp hq eS eB;have BS:= @BS p q f hp hq eS eB;have gg:=gg (f:=f) hp hq eS eB (l:=x.args);have U:=lc (n:=x.n) (a:=s.low) (b:=s.high);refine aX mixed R9 (by rw[ae2];rfl) J (Tr.s _) ?_;rw[ae3,ae4];refine av ?_;refine ag ?_;refine eQ (rW (cs:=iw _) rfl) ak (by first|rfl|exact sU eS eB|exact ig _|exact s6 cU) ?_;refine SS ?_;refine ab (aJ (bp [(0,bh p q f,133),(1,a8 x,66),(2,iw s,205)] eH (l:=[(3,.pt (bh p q f)),(4,.pt (a8 x)),(5,.pt (iw s))]) eH) (an ?_));have C:=ej;have ej:=ej x.to;refine aw ?_;refine cl ej ?_;refine SS ?_;refine ab ?_;refine dB (fun s'=>Ghost prog s' ⟨ay [(3,.pt (bh p q f)),(4,.pt (a8 x)),(5,.pt (iw s)),(7,U8 (pf f.aj x s))],fun _=>none,3⟩) (an ?_) fun s' hg=>⟨_,hg,?_⟩
 .refine bA ?_;refine ab (au rfl (fun h=>j9 ?_) fun h=>aZ ?_)
  .have h:s.to=0\/s.to=1:=by simpa[ib] using h
   have ej:=C x.a;refine aw ?_;refine cl ej ?_;refine SS ?_;refine ab ?_;show Ghost _ _ _;refine ap (l:=[(3,_),(4,_),(5,_),(7,_)]) ⟨rfl,rfl,rfl,?_,trivial⟩;simp only[pf,if_pos h];rfl
  .have h:¬ (s.to=0\/s.to=1):=by simpa[ib] using h
   show Ghost _ _ _;refine ap (l:=[(3,_),(4,_),(5,_),(7,_)]) ⟨rfl,rfl,rfl,?_,trivial⟩;simp only[pf,if_neg h];rfl
 refine ws ?_;refine aV ?_;refine ab ?_;refine dB (fun s'=>Ghost prog s' ⟨ay [(3,.pt (bh p q f)),(4,.pt (a8 x)),(5,.pt (iw s)),(7,U8 (pf f.aj x s)),(8,B (o6 f.aj x s))],fun _=>none,3⟩) (an ?_) fun s' hg=>⟨_,hg,?_⟩
 .refine ag ?_;refine ab (nL (an ?_));refine ag ?_;refine ab (au rfl (fun h=>mV ?_) fun h=>an ?_)
  .have h:s.args=5:=by simpa using h
   have lc:=lc (n:=x.args.length) (a:=1) (b:=6);refine aw ?_;refine cl lc ?_;refine aF ?_;refine gc gg ?_;refine ag ?_;refine ab ?_;refine ap ⟨rfl,rfl,rfl,rfl,?_,trivial⟩;show D.s (.bool _)=_;simp[o6,h]
  .have h5:¬ s.args=5:=by simpa using h
   refine ag ?_;refine ab (au rfl (fun h=>mV ?_) fun h=>Gz ?_)
   .have h:s.args=6:=by simpa using h
    refine bA ?_;refine gc gg ?_;refine ag ?_;refine ab ?_;refine ap ⟨rfl,rfl,rfl,rfl,?_,trivial⟩;show D.s (.bool _)=_;simp[o6,h,ib]
   .have X:¬ s.args=6:=by simpa using h
    refine ap ⟨rfl,rfl,rfl,rfl,?_,trivial⟩;show D.s (.bool _)=_;simp[o6,h5,X,ib]
 refine ws ?_;refine aV ?_;refine cl BS ?_;refine cK ?_;refine gc BS ?_;refine bA ?_;refine gc BS ?_;refine aL ?_;refine ag ?_;refine gc lc ?_;refine ag ?_;refine ab (ax (d:=.s (.bool _)) rfl ?_);simp[nM,Bool.and_assoc]
end
theorem Jd{x:aW}:PCall prog 257 [.agg (a8 x)] (B (Bi x)):=by
 have C:∀ a∈[D.agg (a8 x)],Tr a:=.cons (.agg (mW x)) .nil;refine aX mixed Sd (by rw[ae8];rfl) C (Tr.s _) ?_;rw[ae9,ae'];refine ws ?_;refine ag ?_;refine er ?_;refine aL ?_;refine aL ?_;refine aL ?_;refine aw ?_;refine ab (ax (d:=.s (.bool _)) rfl ?_);simp only[Bi,ib];cases decide (x.op=0)<;>cases decide (x.to=0)<;>cases decide (x.a=0)<;>cases decide (x.b=0)<;>cases decide (x.n=0)<;>rfl
theorem Je{x:Argus.End}:PCall prog 238 [.agg (aT x)] (B (wL x)):=by
 have C:∀ a∈[D.agg (aT x)],Tr a:=.cons (.agg (ix x)) .nil;have Jd:=Jd (x:=x.ins);refine aX mixed Se (by rw[afa];rfl) C (Tr.s _) ?_;rw[afb,afc];refine ws ?_;refine ag ?_;refine er ?_;refine aL ?_;refine aL ?_;refine aL ?_;refine aL ?_;refine aL ?_;refine ag ?_;refine bm rfl rfl (cP (vs:=a8 _) rfl rfl V.h V.h rfl) (fun hc=>⟨ak,(cQ V.h V.h (by first|(simp;done)|omega|exact Nat.le_of_ble_eq_true rfl))⟩) ?_;refine gc Jd ?_;refine ag ?_;refine ab (ax (d:=.s (.bool _)) rfl ?_);have:decide (x.name.toList=[])=x.name.toList.isEmpty:=by cases x.name.toList<;>rfl
 simp[wL,ib,Bool.and_assoc,this]
theorem akn{w v:jn}:PCall prog 255 [.agg (kJ v),.pt (kJ w)] (B (v.name.toList==w.name.toList)):=by
 have C:∀ a∈[D.agg (kJ v),.pt (kJ w)],Tr a:=.cons (.agg (Ds v)) (.cons (.pt (Ds w)) .nil);refine aX mixed Sf (by rw[afd];rfl) C (Tr.s _) ?_;rw[afe,aff];refine ws ?_;refine eQ (rW (cs:=kJ _) rfl) ak (by first|rfl|exact sU eS eB|exact ig _|exact s6 cU) ?_;refine SS ?_;refine er ?_;refine aF ?_;refine aB (Hp rfl rfl) ak trivial ?_;refine SS ?_;exact ab (ax rfl rfl)
section
variable{p q:D}{f:aA}(hp:Tr p)(hq:Tr q)(eS:p.one=true)(eB:q.one=true)
include hp hq eS eB
theorem sw{x:Argus.End}:PCall prog 236 [.agg (bh p q f),.agg (aT x)] (B (lp f x)):=by
 have J:∀ a∈[D.agg (bh p q f),.agg (aT x)],Tr a:=.cons (lq hp hq f) (.cons (.agg (ix x)) .nil);refine lj Ik.he J fun X=>?_;have hlen:x.aE.length<=maxLen:=((X _ (List.mem_cons_of_mem _ (List.mem_cons_self ..))).agg (nH x.aE) (by simp[aT])).sl.1;unfold maxLen at hlen;have iM:= @iM p q f hp hq eS eB;refine aX mixed Ik (by rw[afg];rfl) J (Tr.s _) ?_;rw[afh,afi];refine av ?_;refine aw ?_;refine ab (aJ (bp [(0,bh p q f,133),(1,aT x,69)] eH (l:=[(2,.pt (bh p q f)),(3,.pt (aT x))]) eH) (aD (av ?_)));refine aF ?_
 refine ab (bG (fun s=>∃ n,Ghost prog s ⟨ay [(2,.pt (bh p q f)),(3,.pt (aT x))],fun _=>none,n⟩/\∀ (j:Nat) y,x.aE[j]? =some y->na f x.aE j y=true) (dq (α:=Nat) (fun k=>⟨ay [(2,.pt (bh p q f)),(3,.pt (aT x)),(8,nH x.aE),(9,I x.aE.length),(10,I k)],fun _=>none,2+k⟩)
  (fun k=>k<=x.aE.length/\∀ j y,j<k->x.aE[j]? =some y->na f x.aE j y=true) (fun k=>x.aE.length - k) 0 (ap eH) ⟨by omega,fun j y hj=>by omega⟩ ?_) ?_)
 .rintro k ⟨hk,hinv⟩;refine SS ?_;refine ab ⟨_,rfl,fun h=>?_,fun h=>?_⟩
  .have ao:k<x.aE.length:=by simpa using h
   have hx:x.aE[k]? =some x.aE[k]:=by simp[ao]
   generalize x.aE[k]=w at hx;refine av ?_;refine bD ?_;refine ab (aJ (bp [(2+k,kJ w,199)] ⟨up_same _ _ _,trivial⟩ (l:=[(2,.pt (bh p q f)),(3,.pt (aT x)),(5,I k),(6,.pt (kJ w)),(8,nH x.aE),(9,I x.aE.length),(10,I k)]) ⟨rfl,rfl,rfl,lC (sz:=prog.cellsOf 199),rfl,rfl,rfl,trivial⟩) (an ?_));have BL:=BL (s:=w.name);have BG:=BG (l:=x.aE.take k) (g:=255) (fs:=[]) (cs:=[.pt (kJ w)]) (p:=fun v=>v.name.toList==w.name.toList) (.fn oS (.cons (.pt (Ds w)) .nil)) (fun v _=>akn);unfold nH at BG;rw[<- Np Ac hk] at BG;refine ag ?_;refine cl BL ?_;refine aV ?_;refine gc iM ?_;refine bD ?_;refine bm rfl rfl (yA rfl V.h V.h rfl rfl rfl) (fun hc=>⟨ak,⟨V.h,by omega,by omega,by omega⟩⟩) ?_;refine bm rfl rfl (Pc rfl rfl) (fun hc=>⟨ak,trivial⟩) ?_;refine gc BG ?_;refine SS ?_;have hb:((isName w.name&&(bN f w.to&& !(x.aE.take k).any fun v=>v.name.toList==w.name.toList)))=na f x.aE k w:=rfl;refine ab (au rfl (fun hp=>?_) fun hp=>?_)
   .refine ws ?_;refine SS ?_;refine ab (aU (b7 (aQ (ax (d:=.s (.bool _)) rfl ?_))))
    have C:na f x.aE k w=false:=by
     rw[<- hb];simp only[bN];revert hp;generalize isName w.name=a;generalize cA w.to 0 (f.blocks.length - 1)=b;generalize (List.any _ _)=c;cases a<;>cases b<;>cases c<;>simp
    simp[lp,FQ hx C]
   .refine b8 ?_
    have C:na f x.aE k w=true:=by
     rw[<- hb];simp only[bN];revert hp;generalize isName w.name=a;generalize cA w.to 0 (f.blocks.length - 1)=b;generalize (List.any _ _)=c;cases a<;>cases b<;>cases c<;>simp
    refine ag ?_;refine ab (aH (k+1) (ap eH) ⟨by omega,fun j y hj hy=>?_⟩ oG);by_cases e:j=k
    .subst e;rw[hx] at hy;cases hy;exact C
    .exact hinv j y oG hy
  .have aY:¬ k<x.aE.length:=by simpa using h
   exact⟨2+k,.forget _ _ _ _ fun t=>lY (l:=[(2,.pt (bh p q f)),(3,.pt (aT x))]) ⟨rfl,rfl,trivial⟩ t,fun j y hy=>hinv j y (by have:=(List.getElem?_eq_some_iff.1 hy).1;omega) hy⟩
 .rintro s ⟨n,hg,U⟩;refine⟨_,hg,an ?_⟩;refine aw ?_;refine TB ?_;refine bA ?_;refine gc iM ?_;refine aw ?_;refine ab (ax (d:=.s (.bool _)) rfl ?_);have xG:=KY U;simp[lp,bN,xG,ib]
end
abbrev P0:D:=.im (pO mZ)
abbrev Q0:D:=.im (pO iD)
theorem ako:PCall prog 166 [] (.tup [P0,Q0]):=by
 refine aX mixed Sg (by rw[afj];rfl) Tr.nil (.tup (.cons (y8 _) (.cons (y8 _) .nil))) ?_;rw[afk,afl];refine ws ?_;refine aB (lk (v:=.s (.map none)) rfl) ak trivial ?_;refine aB (lk (v:=.s (.map none)) rfl) ak trivial ?_;refine er ?_;refine aL ?_;refine aL ?_;refine aL ?_;refine bD ?_;refine er ?_;refine aL ?_;refine aL ?_;refine aw ?_;refine ab (av ?_);refine aF ?_;refine ab (aJ (Zu [(0,pO mZ),(1,pO iD)] eH (l:=[(0,P0),(1,Q0)]) eH) ?_);exact yQ rfl rfl rfl
abbrev qG(f:aA):D:=.agg (bh P0 Q0 f)
theorem I2{f:aA}:PCall prog 189 [.agg (aC f)] (qG f):=by
 have C:∀ a∈[D.agg (aC f)],Tr a:=.cons (.agg (gz f)) .nil;refine aX mixed Si (by rw[afm];rfl) C (lq (y8 _) (y8 _) f) ?_;rw[afn,afo];refine ws ?_;refine ag ?_;refine er ?_;refine cl ako ?_;refine SS ?_;refine aB (qd (v:=.im _) rfl rfl) ak (by first|decide|simp) ?_;refine aB (qd (v:=.im _) rfl rfl) ak (by first|decide|simp) ?_;refine aB (lk (v:=.im _) rfl) ak trivial ?_;refine aB (lk (v:=.im _) rfl) ak trivial ?_;refine er ?_;refine Ud ?_;refine aB (jb (v:=.im _) rfl) ak trivial ?_;refine aB (jb (v:=.im _) rfl) ak trivial ?_;refine TN ?_;refine cr (fk (cs':=bh _ _ _) rfl rfl rfl rfl) ak (dy V.h V.h (by first|(simp;done)|exact⟨rfl,Nat.le_of_ble_eq_true rfl⟩|(simp;omega)) (by rfl)) ?_;refine ab (iz (iV rfl rfl Ue Uf rfl t133 oS) ?_);rfl
theorem kP:Tr P0:=y8 _
theorem kQ:Tr Q0:=y8 _
section
variable{p q:D}{f:aA}(hp:Tr p)(hq:Tr q)(eS:p.one=true)(eB:q.one=true)
include hp hq eS eB
theorem akq{r kd:Int}:PCall prog 240 [I r,.pt (bh p q f),.pt [U8 kd]] (B !(aM (bU f.aj r) kd)):=by
 have C:∀ a∈[I r,.pt (bh p q f),.pt [U8 kd]],Tr a:=.cons (.s _) (.cons (.pt (As hp hq f)) (.cons (.pt (.cons (.s _) .nil)) .nil));have ej:=ej (f:=f) (r:=r) hp hq eS eB;refine aX mixed Sr (by rw[afN];rfl) C (Tr.s _) ?_;rw[afO,afP];refine ws ?_;refine SS ?_;refine ab (dd Yc ?_);refine ag ?_;refine cl ej ?_;refine aw ?_;refine bj (by simp[apartT]) ?_;refine ax (d:=.s (.bool _)) rfl ?_;rfl
end
theorem Eu{f:aA}{b ahead:Int}{x:aW}{phis:Bool}:PCall prog 196 [qG f,I b,.agg (a8 x),B phis,I ahead] (B (hD f b x phis ahead)):=by
 have U:∀ a∈[qG f,I b,.agg (a8 x),B phis,I ahead],Tr a:=.cons (lq kP kQ f) (.cons (.s _) (.cons (.agg (mW x)) (.cons (.s _) (.cons (.s _) .nil))));have ej:= @ej P0 Q0 f kP kQ rfl rfl;have EC:= @EC P0 Q0 f kP kQ rfl rfl;have gg:= @gg P0 Q0 f kP kQ rfl rfl;have zo:= @zo P0 Q0 f kP kQ rfl rfl;refine aX mixed Ss (by rw[afQ];rfl) U (Tr.s _) ?_;rw[afR,afS];refine av ?_;refine aw ?_;refine ab (aJ (bp [(0,bh P0 Q0 f,133),(1,a8 x,66)] eH (l:=[(1,I b),(3,B phis),(4,I ahead),(5,.pt (bh P0 Q0 f)),(7,.pt (a8 x))]) eH) (aD (an ?_)));refine ag ?_;refine ab (lW (an ?_));refine ag ?_;refine ab (au rfl (fun h0=>?_) fun h0=>?_)
 .have h0:x.op=16:=by simpa using h0
  refine ws ?_;refine cK ?_;refine gc ej ?_;refine aL ?_;refine bA ?_;refine ag ?_;refine ab (aU (bu (aQ (ax (d:=.s (.bool _)) rfl ?_))));simp[hD,h0,aM,iF,ib,Bool.and_assoc]
 have h0:¬ x.op=16:=by simpa using h0
 refine ws ?_;refine ag ?_;refine ab (au rfl (fun h1=>?_) fun h1=>?_)
 .have h1:x.op=17:=by simpa using h1
  refine ws ?_;refine aL ?_;refine aL ?_;refine ag ?_;refine gc EC ?_;refine ag ?_;refine ab (aU (bu (aQ (ax (d:=.s (.bool _)) rfl ?_))));simp[hD,h1,aM,iF,ib,Bool.and_assoc]
 have h1:¬ x.op=17:=by simpa using h1
 refine ws ?_;refine ag ?_;refine ab (au rfl (fun h2=>?_) fun h2=>?_)
 .have h2:x.op=18:=by simpa using h2
  refine ws ?_;refine aL ?_;refine aL ?_;refine ag ?_;refine gc EC ?_;refine ag ?_;refine ab (aU (bu (aQ (ax (d:=.s (.bool _)) rfl ?_))));simp[hD,h2,aM,iF,ib,Bool.and_assoc]
 have h2:¬ x.op=18:=by simpa using h2
 refine ws ?_;refine ag ?_;refine ab (au rfl (fun h3=>?_) fun h3=>?_)
 .have h3:x.op=19:=by simpa using h3
  refine av ?_;refine aw ?_;refine cl ej ?_;refine SS ?_;refine Tx ?_;refine ab (aJ (bp [(2,[U8 (bU f.aj x.to)],5)] eH (l:=[(1,I b),(3,B phis),(4,I ahead),(5,.pt (bh P0 Q0 f)),(7,.pt (a8 x)),(11,.pt [U8 (bU f.aj x.to)])]) eH) (an ?_));have zj:=zj (l:=x.args) (g:=240) (fs:=[]) (cs:=[.pt (bh P0 Q0 f),.pt [U8 (bU f.aj x.to)]]) (p:=fun r=> !(aM (bU f.aj r) (bU f.aj x.to))) (.fn oS (.cons (.pt (As kP kQ f)) (.cons (.pt (.cons (.s _) .nil)) .nil))) (fun r _=>akq kP kQ rfl rfl);refine aw ?_;refine cl zj ?_;refine SS ?_;refine er ?_;by_cases hb:phis=true/\0<b
  .obtain⟨rfl,hb⟩:=hb;have tq:decide (0<b)=true:=by simpa using hb
   have gg:=gg (l:=[x.to]);have C:∀ {m:Mem},m 3=some (.cells [I x.to] 3)->Sns prog [3] m [qG f,.rs 3 0 1] [qG f,az [x.to]]:=fun hm=>⟨cC (lq kP kQ f),H4 hm oS (by rw[c3];rfl) (.cons (.s _) .nil),trivial⟩
   refine bA ?_;refine ag ?_;refine DR gg rfl rfl rfl rfl (C rfl) ak ?_;refine aL ?_;refine aL ?_;refine bA ?_;refine ag ?_;refine ab (aU (bu (aQ (ax (d:=.s (.bool _)) rfl ?_))));simp[hD,h3,hb,aM,iF,ib,Bool.and_assoc,fm]
  .have hf:hD f b x phis ahead=false:=by
    cases phis with
    |false=>simp[hD,h3]
    |true=>simp[hD,h3,show ¬ 0<b by simpa using hb]
   have hf:D.s (.bool false)=B (hD f b x phis ahead):=by rw[hf]
   cases phis with
   |false=>
    refine ag ?_;(iterate 2 refine z fun _ _=>?_);refine ag ?_;(iterate 5 refine z fun _ _=>?_);refine ag ?_;(iterate 3 refine z fun _ _=>?_);refine ag ?_;(iterate 3 refine z fun _ _=>?_);refine ag ?_;(iterate 3 refine z fun _ _=>?_);refine ag ?_;(iterate 5 refine z fun _ _=>?_);refine ag ?_;(iterate 2 refine z fun _ _=>?_);refine ag ?_;exact ab (aU (bu (aQ (ax (d:=.s (.bool _)) rfl hf))))
   |true=>
    have tq:decide (0<b)=false:=by simpa using hb
    refine bD ?_;(iterate 5 refine z fun _ _=>?_);refine ag ?_;(iterate 3 refine z fun _ _=>?_);refine ag ?_;(iterate 3 refine z fun _ _=>?_);refine ag ?_;(iterate 3 refine z fun _ _=>?_);refine ag ?_;(iterate 5 refine z fun _ _=>?_);refine ag ?_;(iterate 2 refine z fun _ _=>?_);refine ag ?_;exact ab (aU (bu (aQ (ax (d:=.s (.bool _)) rfl hf))))
 have h3:¬ x.op=19:=by simpa using h3
 refine lx (an ?_);have X:gotD prog 131 true (lookD (.int .u8 x.op) (pO mZ))=.tup [.agg (iw ((eF mZ x.op).getD wu)),.s (.bool (eF mZ x.op).isSome)]:=PB rfl _ _ (by rw[Io];unfold zeroD;rw[Jf,Jg];rfl);have J:=Nu (P:=prog) (kt:=5) u5 mZ;refine aF ?_;refine aB (Lr rfl rfl V.h X) ak ⟨V.h,by kernel_rfl,J⟩ ?_;refine SS ?_;refine aB (qd (v:=.agg (iw _)) rfl rfl) ak (by first|decide|simp) ?_;refine ag ?_;refine cr (fk (cs':=iw _) rfl rfl rfl rfl) ak (dy V.h V.h (by first|(simp;done)|exact⟨rfl,Nat.le_of_ble_eq_true rfl⟩|(simp;omega)) (by rfl)) ?_;refine SS ?_;refine er ?_;refine aF ?_;refine bm rfl rfl (cP (vs:=iw _) rfl rfl V.h V.h rfl) (fun hc=>⟨ak,(cQ V.h V.h (by first|(simp;done)|omega|exact Nat.le_of_ble_eq_true rfl))⟩) ?_;refine gc zo ?_;refine ag ?_;refine ab (ax (d:=.s (.bool _)) rfl ?_);simp[hD,h0,h1,h2,h3]
def SN(f:aA)(x:Argus.End)(s:St):Prop:=∃ cells n,Ghost prog s ⟨ay [(2,.pt (bh P0 Q0 f)),(3,.pt (aT x)),(5,.rp 2 0),(6,B (eO f x).1)],up (fun _=>none) 2 (some (.cells cells 69)),n⟩/\cells.length=15/\∀ m,Sns prog [2] m cells (aT (eO f x).2)
theorem vR{l:List Int}{r:Int}:fm l [r]=dG l r:=by simp[fm]
theorem lK{f:aA}{x r:Argus.End}{env:Env}{m:Mem}{nx:Nat}{cells:List D}{ok:Bool}(hr:eO f x=(ok,r))(he:iA [(2,.pt (bh P0 Q0 f)),(3,.pt (aT x)),(5,.rp 2 0),(6,B ok)] env)(hm:m 2=some (.cells cells 69))(hl:cells.length=15)
 (C:∀ m,Sns prog [2] m cells (aT r)):SN f x ⟨env,m,nx⟩:=by
 refine⟨cells,nx,?_,hl,?_⟩
 .rw[hr];exact MA he (Y2 hm)
 .rw[hr];exact C
set_option maxHeartbeats 4000000 in
theorem Et{f:aA}{x:Argus.End}:PCall prog 195 [qG f,.agg (aT x)] (B (iC f x)):=by
 have aR:∀ a∈[qG f,.agg (aT x)],Tr a:=.cons (lq kP kQ f) (.cons (.agg (ix x)) .nil);have iM:= @iM P0 Q0 f kP kQ rfl rfl;have ej:= @ej P0 Q0 f kP kQ rfl rfl;have gg:= @gg P0 Q0 f kP kQ rfl rfl;have zo:= @zo P0 Q0 f kP kQ rfl rfl;have sw:= @sw P0 Q0 f kP kQ rfl rfl;refine aX mixed SP (by rw[agG];rfl) aR (Tr.s _) ?_;rw[agH,agI];refine av ?_;refine aw ?_;refine ab (aJ (bp [(0,bh P0 Q0 f,133),(1,aT x,69)] eH (l:=[(2,.pt (bh P0 Q0 f)),(3,.pt (aT x))]) eH) (an ?_));refine aF ?_;refine er ?_;refine ag ?_;refine ab ?_;refine dB (SN f x) (an ?_) fun s hs=>?_
 .refine ag ?_;refine ab (nL (an ?_));refine ag ?_;refine ab (au rfl (fun h=>?_) fun h=>?_)
  .have h:x.kind=1:=by simpa using h
   refine mV ?_;refine aw ?_;refine cl iM ?_;refine aw ?_;refine ab ?_;exact lK (r:={ x with kind:=0,to:=0 }) (by simp[eO,h,aM,ib,Bool.and_assoc,bN]) ⟨rfl,rfl,rfl,rfl,trivial⟩ rfl rfl (fun m=>by repeat' (first|exact trivial|exact cC (Tr.s _)|exact cC (cI _)|exact cC (iW _)|exact lL|refine And.intro ?_ ?_))
  have h1:¬ x.kind=1:=by simpa using h
  clear h;refine ws ?_;refine ag ?_;refine ab (au rfl (fun h=>?_) fun h=>?_)
  .have h:x.kind=2:=by simpa using h
   refine mV ?_;refine aw ?_;refine cl ej ?_;refine aV ?_;refine gc iM ?_;refine aV ?_;refine gc iM ?_;refine bA ?_;refine ab ?_;exact lK (r:={ x with kind:=0,a:=0,to:=0,eL:=0 }) (by simp[eO,h,aM,ib,Bool.and_assoc,bN]) ⟨rfl,rfl,rfl,rfl,trivial⟩ rfl rfl (fun m=>by repeat' (first|exact trivial|exact cC (Tr.s _)|exact cC (cI _)|exact cC (iW _)|exact lL|refine And.intro ?_ ?_))
  have h2:¬ x.kind=2:=by simpa using h
  clear h;refine ws ?_;refine ag ?_;refine ab (au rfl (fun h=>?_) fun h=>?_)
  .have h:x.kind=3:=by simpa using h
   refine ws ?_;refine bD ?_;refine er ?_;refine bA ?_;refine ag ?_;refine ab (au rfl (fun hr=>?_) fun hr=>?_)
   .have hr:f.result≠0/\f.iter=false:=by simpa[bne,ib] using hr
    refine Mx Xg ?_;refine aw ?_;refine cl ej ?_;refine aV ?_;refine bj (by simp[apartT]) ?_;exact lK (r:={ x with kind:=0,a:=0 }) (by simp[eO,h,aM,ib,Bool.and_assoc,hr.1,hr.2]) ⟨rfl,rfl,rfl,rfl,trivial⟩ rfl rfl (fun m=>by repeat' (first|exact trivial|exact cC (Tr.s _)|exact cC (cI _)|exact cC (iW _)|exact lL|refine And.intro ?_ ?_))
   .have hr:¬ (f.result≠0/\f.iter=false):=by simpa[bne,ib] using hr
    refine Gz ?_;exact lK (r:={ x with kind:=0,a:=0 }) (by simp only[eO,h];simp only[if_neg hr];simp[aM,ib]) ⟨rfl,rfl,rfl,rfl,trivial⟩ rfl rfl (fun m=>by repeat' (first|exact trivial|exact cC (Tr.s _)|exact cC (cI _)|exact cC (iW _)|exact lL|refine And.intro ?_ ?_))
  have h3:¬ x.kind=3:=by simpa using h
  clear h;refine ws ?_;refine ag ?_;refine ab (au rfl (fun h=>?_) fun h=>?_)
  .have h:x.kind=4:=by simpa using h
   refine mV ?_;refine ag ?_;refine cl BL ?_;refine aw ?_;refine ab ?_;exact lK (r:={ x with kind:=0,name:=.empty }) (by simp[eO,h,aM,ib,Bool.and_assoc]) ⟨rfl,rfl,rfl,rfl,trivial⟩ rfl rfl (fun m=>by repeat' (first|exact trivial|exact cC (Tr.s _)|exact cC (cI _)|exact cC (iW _)|exact lL|refine And.intro ?_ ?_))
  have h4:¬ x.kind=4:=by simpa using h
  clear h;refine ws ?_;refine ag ?_;refine ab (au rfl (fun h=>?_) fun h=>?_)
  .have h:x.kind=5:=by simpa using h
   refine ws ?_;have kg:gotD prog 131 true (lookD (.int .u8 x.ins.op) (pO iD))=.tup [.agg (iw ((eF iD x.ins.op).getD wu)),.s (.bool (eF iD x.ins.op).isSome)]:=PB rfl _ _ (by rw[Io];unfold zeroD;rw[Jf,Jg];rfl);have Kh:=Nu (P:=prog) (kt:=5) u5 iD;refine aV ?_;refine aB (Lr rfl rfl V.h kg) ak ⟨V.h,by kernel_rfl,Kh⟩ ?_;refine SS ?_;refine aB (qd (v:=.agg (iw _)) rfl rfl) ak (by first|decide|simp) ?_;refine ag ?_;refine cr (fk (cs':=iw _) rfl rfl rfl rfl) ak (dy V.h V.h (by first|(simp;done)|exact⟨rfl,Nat.le_of_ble_eq_true rfl⟩|(simp;omega)) (by rfl)) ?_;refine SS ?_;refine er ?_;refine aV ?_;refine bm rfl rfl (cP (vs:=iw _) rfl rfl V.h V.h rfl) (fun hc=>⟨ak,(cQ V.h V.h (by first|(simp;done)|omega|exact Nat.le_of_ble_eq_true rfl))⟩) ?_;refine gc zo ?_;refine aV ?_;refine gc iM ?_;refine aF ?_;refine gc sw ?_;refine ag ?_;refine ab (mV ?_);refine aL ?_;refine ab ?_;exact lK (r:={ x with kind:=0,ins:=dh,to:=0,aE:=[],cm:= -1 }) (by simp[eO,h,aM,ib,Bool.and_assoc,bN]) ⟨rfl,rfl,rfl,rfl,trivial⟩ rfl rfl (fun m=>by repeat' (first|exact trivial|exact cC (Tr.s _)|exact cC (cI _)|exact cC (iW _)|exact lL|refine And.intro ?_ ?_))
  have h5:¬ x.kind=5:=by simpa using h
  clear h;refine ws ?_;refine ag ?_;refine ab (au rfl (fun h=>?_) fun h=>?_)
  .have h:x.kind=6:=by simpa using h
   refine ws ?_;have qP:=qP (s:=x.name);have agJ:=gg (l:=[x.a]);have gg:=gg (l:=x.args);have abu:∀ {m:Mem},m 3=some (.cells [I x.a] 3)->Sns prog [3] m [qG f,.rs 3 0 1] [qG f,az [x.a]]:=fun hm=>⟨cC (lq kP kQ f),H4 hm oS (by rw[c3];rfl) (.cons (.s _) .nil),trivial⟩
   cases C:ke x.name with
   |false=>
    rw[C] at qP;refine ag ?_;refine cl qP ?_;refine bA ?_;refine ag ?_;refine gc gg ?_;refine aL ?_;(iterate 3 refine z fun _ _=>?_);refine aV ?_;refine gc iM ?_;refine aF ?_;refine gc sw ?_;refine ag ?_;refine ab (mV ?_);refine aL ?_;refine aw ?_;refine ab ?_;exact lK (r:={ x with kind:=0,name:=.empty,args:=[],a:=0,to:=0,aE:=[],cm:= -1 }) (by simp[eO,h,aM,ib,Bool.and_assoc,bN,C]) ⟨rfl,rfl,rfl,rfl,trivial⟩ rfl rfl (fun m=>by repeat' (first|exact trivial|exact cC (Tr.s _)|exact cC (cI _)|exact cC (iW _)|exact lL|refine And.intro ?_ ?_))
   |true=>
    rw[C] at qP;by_cases J:(x.args.length:Int)<=6
    rotate_left
    .have Tu:decide ((x.args.length:Int)<=6)=false:=by simpa using J
     refine ag ?_;refine cl qP ?_;refine bA ?_;refine ag ?_;refine gc gg ?_;refine aL ?_;(iterate 3 refine z fun _ _=>?_);refine aV ?_;refine gc iM ?_;refine aF ?_;refine gc sw ?_;refine ag ?_;refine ab (mV ?_);refine aL ?_;refine aw ?_;refine ab ?_;exact lK (r:={ x with kind:=0,name:=.empty,args:=[],a:=0,to:=0,aE:=[],cm:= -1 }) (by simp[eO,h,aM,ib,Bool.and_assoc,bN,C,J]) ⟨rfl,rfl,rfl,rfl,trivial⟩ rfl rfl (fun m=>by repeat' (first|exact trivial|exact cC (Tr.s _)|exact cC (cI _)|exact cC (iW _)|exact lL|refine And.intro ?_ ?_))
    have Tu:decide ((x.args.length:Int)<=6)=true:=by simpa using J
    cases U:fm f.aj x.args with
    |false=>
     rw[U] at gg;refine ag ?_;refine cl qP ?_;refine bA ?_;refine ag ?_;refine gc gg ?_;refine aL ?_;(iterate 3 refine z fun _ _=>?_);refine aV ?_;refine gc iM ?_;refine aF ?_;refine gc sw ?_;refine ag ?_;refine ab (mV ?_);refine aL ?_;refine aw ?_;refine ab ?_;exact lK (r:={ x with kind:=0,name:=.empty,args:=[],a:=0,to:=0,aE:=[],cm:= -1 }) (by simp[eO,h,aM,ib,Bool.and_assoc,bN,C,J,U]) ⟨rfl,rfl,rfl,rfl,trivial⟩ rfl rfl (fun m=>by repeat' (first|exact trivial|exact cC (Tr.s _)|exact cC (cI _)|exact cC (iW _)|exact lL|refine And.intro ?_ ?_))
    |true=>
     rw[U] at gg;by_cases X:x.a= -1
     .have dI:(x.a== -1)=true:=by simpa using X
      refine ag ?_;refine cl qP ?_;refine bA ?_;refine ag ?_;refine gc gg ?_;refine aL ?_;(iterate 2 refine z fun _ _=>?_);refine bD ?_;refine gc iM ?_;refine aF ?_;refine gc sw ?_;refine ag ?_;refine ab (mV ?_);refine aL ?_;refine aw ?_;refine ab ?_;exact lK (r:={ x with kind:=0,name:=.empty,args:=[],a:=0,to:=0,aE:=[],cm:= -1 }) (by simp[eO,h,aM,ib,Bool.and_assoc,bN,C,J,U,X]) ⟨rfl,rfl,rfl,rfl,trivial⟩ rfl rfl (fun m=>by repeat' (first|exact trivial|exact cC (Tr.s _)|exact cC (cI _)|exact cC (iW _)|exact lL|refine And.intro ?_ ?_))
     .have dI:(x.a== -1)=false:=by simpa using X
      refine ag ?_;refine cl qP ?_;refine bA ?_;refine ag ?_;refine gc gg ?_;refine bA ?_;refine ag ?_;refine DR agJ rfl rfl rfl rfl (abu rfl) ak ?_;refine bD ?_;refine gc iM ?_;refine aF ?_;refine gc sw ?_;refine ag ?_;refine ab (mV ?_);refine aL ?_;refine aw ?_;refine ab ?_;exact lK (r:={ x with kind:=0,name:=.empty,args:=[],a:=0,to:=0,aE:=[],cm:= -1 }) (by simp[eO,h,aM,ib,Bool.and_assoc,bN,C,J,U,X,vR]) ⟨rfl,rfl,rfl,rfl,trivial⟩ rfl rfl (fun m=>by repeat' (first|exact trivial|exact cC (Tr.s _)|exact cC (cI _)|exact cC (iW _)|exact lL|refine And.intro ?_ ?_))
  have h6:¬ x.kind=6:=by simpa using h
  clear h;refine ws ?_;refine ag ?_;refine ab (au rfl (fun h=>?_) fun h=>?_)
  .have h:x.kind=7:=by simpa using h
   refine ws ?_;refine ag ?_;refine cl qP ?_;refine bA ?_;refine ag ?_;refine gc gg ?_;refine aV ?_;refine gc ej ?_;refine bD ?_;refine gc iM ?_;refine ag ?_;refine ab (mV ?_);refine bA ?_;refine ab ?_;exact lK (r:={ x with kind:=0,name:=.empty,args:=[],a:=0,to:=0 }) (by simp[eO,h,aM,ib,Bool.and_assoc,bN]) ⟨rfl,rfl,rfl,rfl,trivial⟩ rfl rfl (fun m=>by repeat' (first|exact trivial|exact cC (Tr.s _)|exact cC (cI _)|exact cC (iW _)|exact lL|refine And.intro ?_ ?_))
  have h7:¬ x.kind=7:=by simpa using h
  clear h;refine ws ?_;refine ag ?_;refine ab (au rfl (fun h=>?_) fun h=>?_)
  .have h:x.kind=8:=by simpa using h
   refine ws ?_;have gg:=gg (l:=[x.b]);have Im:∀ {m:Mem},m 3=some (.cells [I x.b] 3)->Sns prog [3] m [qG f,.rs 3 0 1] [qG f,az [x.b]]:=fun hm=>⟨cC (lq kP kQ f),H4 hm oS (by rw[c3];rfl) (.cons (.s _) .nil),trivial⟩
   by_cases C:bU f.aj x.a=3
   .have dI:(bU f.aj x.a==3)=true:=by simpa using C
    refine aw ?_;refine cl ej ?_;refine bD ?_;refine DR gg rfl rfl rfl rfl (Im rfl) ak ?_;refine aV ?_;refine gc iM ?_;refine aV ?_;refine gc iM ?_;refine aF ?_;refine gc sw ?_;refine ag ?_;refine ab (mV ?_);refine aL ?_;refine aw ?_;refine ab ?_;exact lK (r:={ x with kind:=0,a:=0,b:=0,to:=0,eL:=0,aE:=[],cm:= -1 }) (by simp[eO,h,aM,ib,Bool.and_assoc,bN,C,vR]) ⟨rfl,rfl,rfl,rfl,trivial⟩ rfl rfl (fun m=>by repeat' (first|exact trivial|exact cC (Tr.s _)|exact cC (cI _)|exact cC (iW _)|exact lL|refine And.intro ?_ ?_))
   .have dI:(bU f.aj x.a==3)=false:=by simpa using C
    refine aw ?_;refine cl ej ?_;refine aV ?_;(iterate 2 refine z fun _ _=>?_);refine aV ?_;refine gc iM ?_;refine aV ?_;refine gc iM ?_;refine aF ?_;refine gc sw ?_;refine ag ?_;refine ab (mV ?_);refine aL ?_;refine aw ?_;refine ab ?_;exact lK (r:={ x with kind:=0,a:=0,b:=0,to:=0,eL:=0,aE:=[],cm:= -1 }) (by simp[eO,h,aM,ib,Bool.and_assoc,bN,C]) ⟨rfl,rfl,rfl,rfl,trivial⟩ rfl rfl (fun m=>by repeat' (first|exact trivial|exact cC (Tr.s _)|exact cC (cI _)|exact cC (iW _)|exact lL|refine And.intro ?_ ?_))
  have h8:¬ x.kind=8:=by simpa using h
  clear h;refine ws ?_;refine ag ?_;refine ab (au rfl (fun h=>?_) fun h=>?_)
  .have h:x.kind=9:=by simpa using h
   refine Mx Xh ?_;refine cK ?_;refine gc ej ?_;refine aL ?_;refine gc iM ?_;refine bD ?_;refine bj (by simp[apartT]) ?_;exact lK (r:={ x with kind:=0,a:=0,to:=0 }) (by simp[eO,h,aM,ib,Bool.and_assoc,bN]) ⟨rfl,rfl,rfl,rfl,trivial⟩ rfl rfl (fun m=>by repeat' (first|exact trivial|exact cC (Tr.s _)|exact cC (cI _)|exact cC (iW _)|exact lL|refine And.intro ?_ ?_))
  .have h9:¬ x.kind=9:=by simpa using h
   refine Gz ?_;exact lK (r:={ x with kind:=0 }) (by simp[eO,h1,h2,h3,h4,h5,h6,h7,h8,h9]) ⟨rfl,rfl,rfl,rfl,trivial⟩ rfl rfl (fun m=>by repeat' (first|exact trivial|exact cC (Tr.s _)|exact cC (cI _)|exact cC (iW _)|exact lL|refine And.intro ?_ ?_))
 .obtain⟨cells,n,hg,hl,hs⟩:=hs;refine⟨_,hg,an ?_⟩;have ra:(cells.drop 0).take 15=cells:=by rw[List.drop_zero,List.take_of_length_le oG]
  have Je:=Je (x:=(eO f x).2);have agK:∀ {m:Mem},m 2=m 2->Sns prog [2] m [.agg ((cells.drop 0).take 15)] [.agg (aT (eO f x).2)]:=fun {m} _=>⟨abv (by rw[ra];exact hs m),trivial⟩
  have he:iC f x=((eO f x).1&&wL (eO f x).2):=rfl;generalize (eO f x).1=ok at he;cases ok with
  |true=>
   refine aw ?_;refine DR Je rfl rfl rfl rfl (agK rfl) ak ?_;refine ag ?_;refine ab (ax (d:=.s (.bool _)) rfl ?_);rw[he];simp
  |false=>
   refine ag ?_;(iterate 2 refine z fun _ _=>?_);refine ag ?_;refine ab (ax (d:=.s (.bool _)) rfl ?_);rw[he];simp
theorem tw{n:Int}(hn: -1000000<=n/\n<=1000000):PCall prog 244 [I n] (I (jC n)):=by
 refine aX mixed SW (by rw[agY];rfl) (by simp[Tr.s]) (Tr.s _) ?_;rw[agZ,ag0];refine ws ?_;refine SS ?_;refine er ?_;refine aw ?_;exact ab (ax rfl rfl)
theorem tx{x:aW}:PCall prog 139 [.agg (a8 x)] (I (bM x)):=by
 have U:∀ a∈[D.agg (a8 x)],Tr a:=.cons (.agg (mW x)) .nil;refine aX mixed SX (by rw[ag1];rfl) U (Tr.s _) ?_;rw[ag2,ag3];refine av ?_;refine ag ?_;refine ab (aJ (bp [(0,a8 x,66)] eH (l:=[(1,.pt (a8 x))]) eH) (aD (an ?_)));refine ag ?_;refine ab (lW ?_);refine dB (fun s=>Ghost prog s ⟨ay [(1,.pt (a8 x)),(4,U8 x.op),(5,B (aG kG x.op))],fun _=>none,1⟩) (an ?_) fun s hg=>⟨_,hg,?_⟩
 .refine ag ?_;refine ab (au rfl (fun h=>aZ ?_) fun e1=>an ?_)
  .have h:x.op=1:=by simpa using h
   refine ap ⟨rfl,rfl,?_,trivial⟩;show D.s (.bool (x.op==1))=_;rw[h];rfl
  refine ag ?_;refine ab (au rfl (fun h=>aZ ?_) fun e2=>an ?_)
  .have h:x.op=2:=by simpa using h
   refine ap ⟨rfl,rfl,?_,trivial⟩;show D.s (.bool (x.op==2))=_;rw[h];rfl
  refine ag ?_;refine ab (au rfl (fun h=>aZ ?_) fun e3=>an ?_)
  .have h:x.op=3:=by simpa using h
   refine ap ⟨rfl,rfl,?_,trivial⟩;show D.s (.bool (x.op==3))=_;rw[h];rfl
  refine ag ?_;refine ab (au rfl (fun h=>aZ ?_) fun e4=>an ?_)
  .have h:x.op=4:=by simpa using h
   refine ap ⟨rfl,rfl,?_,trivial⟩;show D.s (.bool (x.op==4))=_;rw[h];rfl
  refine ag ?_;refine ab (au rfl (fun h=>aZ ?_) fun e5=>an ?_)
  .have h:x.op=5:=by simpa using h
   refine ap ⟨rfl,rfl,?_,trivial⟩;show D.s (.bool (x.op==5))=_;rw[h];rfl
  refine ag ?_;refine ab (au rfl (fun h=>aZ ?_) fun e6=>an ?_)
  .have h:x.op=6:=by simpa using h
   refine ap ⟨rfl,rfl,?_,trivial⟩;show D.s (.bool (x.op==6))=_;rw[h];rfl
  refine ag ?_;refine ab (au rfl (fun h=>aZ ?_) fun e7=>an ?_)
  .have h:x.op=7:=by simpa using h
   refine ap ⟨rfl,rfl,?_,trivial⟩;show D.s (.bool (x.op==7))=_;rw[h];rfl
  refine ag ?_;refine ab (au rfl (fun h=>aZ ?_) fun e8=>an ?_)
  .have h:x.op=8:=by simpa using h
   refine ap ⟨rfl,rfl,?_,trivial⟩;show D.s (.bool (x.op==8))=_;rw[h];rfl
  refine ag ?_;refine ab (au rfl (fun h=>aZ ?_) fun e9=>an ?_)
  .have h:x.op=9:=by simpa using h
   refine ap ⟨rfl,rfl,?_,trivial⟩;show D.s (.bool (x.op==9))=_;rw[h];rfl
  refine ag ?_;refine ab (au rfl (fun h=>aZ ?_) fun C=>an ?_)
  .have h:x.op=10:=by simpa using h
   refine ap ⟨rfl,rfl,?_,trivial⟩;show D.s (.bool (x.op==10))=_;rw[h];rfl
  refine ag ?_;refine ab (au rfl (fun h=>aZ ?_) fun X=>an ?_)
  .have h:x.op=11:=by simpa using h
   refine ap ⟨rfl,rfl,?_,trivial⟩;show D.s (.bool (x.op==11))=_;rw[h];rfl
  refine ag ?_;refine ab (au rfl (fun h=>aZ ?_) fun ua=>an ?_)
  .have h:x.op=13:=by simpa using h
   refine ap ⟨rfl,rfl,?_,trivial⟩;show D.s (.bool (x.op==13))=_;rw[h];rfl
  refine ag ?_;refine ab (au rfl (fun h=>aZ ?_) fun xQ=>an ?_)
  .have h:x.op=14:=by simpa using h
   refine ap ⟨rfl,rfl,?_,trivial⟩;show D.s (.bool (x.op==14))=_;rw[h];rfl
  refine ag ?_;refine ab (au rfl (fun h=>aZ ?_) fun CE=>j9 ?_)
  .have h:x.op=17:=by simpa using h
   refine ap ⟨rfl,rfl,?_,trivial⟩;show D.s (.bool (x.op==17))=_;rw[h];rfl
  refine ag ?_;refine ab ?_;refine ap ⟨rfl,rfl,?_,trivial⟩;show D.s (.bool (x.op==19))=_;simp[aG,kG,e1,e2,e3,e4,e5,e6,e7,e8,e9,C,X,ua,xQ,CE]
 refine au rfl (fun h1=>?_) fun h1=>?_
 .refine ws ?_;refine aw ?_;refine ab (aU (bu (aQ (ax (d:=I x.to) rfl ?_))));simp[bM,h1]
 refine dB (fun s=>Ghost prog s ⟨ay [(1,.pt (a8 x)),(4,U8 x.op),(23,B (aG mU x.op))],fun _=>none,1⟩) (an ?_) fun s hg=>⟨_,hg,?_⟩
 .refine ag ?_;refine ab (au rfl (fun h=>aZ ?_) fun ud=>an ?_)
  .have h:x.op=30:=by simpa using h
   refine ap ⟨rfl,rfl,?_,trivial⟩;show D.s (.bool (x.op==30))=_;rw[h];rfl
  refine ag ?_;refine ab (au rfl (fun h=>aZ ?_) fun ue=>an ?_)
  .have h:x.op=31:=by simpa using h
   refine ap ⟨rfl,rfl,?_,trivial⟩;show D.s (.bool (x.op==31))=_;rw[h];rfl
  refine ag ?_;refine ab (au rfl (fun h=>aZ ?_) fun uf=>an ?_)
  .have h:x.op=32:=by simpa using h
   refine ap ⟨rfl,rfl,?_,trivial⟩;show D.s (.bool (x.op==32))=_;rw[h];rfl
  refine ag ?_;refine ab (au rfl (fun h=>aZ ?_) fun ug=>an ?_)
  .have h:x.op=33:=by simpa using h
   refine ap ⟨rfl,rfl,?_,trivial⟩;show D.s (.bool (x.op==33))=_;rw[h];rfl
  refine ag ?_;refine ab (au rfl (fun h=>aZ ?_) fun xR=>an ?_)
  .have h:x.op=34:=by simpa using h
   refine ap ⟨rfl,rfl,?_,trivial⟩;show D.s (.bool (x.op==34))=_;rw[h];rfl
  refine ag ?_;refine ab (au rfl (fun h=>aZ ?_) fun J=>j9 ?_)
  .have h:x.op=36:=by simpa using h
   refine ap ⟨rfl,rfl,?_,trivial⟩;show D.s (.bool (x.op==36))=_;rw[h];rfl
  refine ag ?_;refine ab ?_;refine ap ⟨rfl,rfl,?_,trivial⟩;show D.s (.bool (x.op==37))=_;simp[aG,mU,ud,ue,uf,ug,xR,J]
 refine au rfl (fun h2=>?_) fun h2=>?_
 .refine ws ?_;refine aw ?_;refine ab (aU (bu (aQ (ax (d:=I x.to) rfl ?_))));simp[bM,h2]
 refine lx (an ?_);refine SS ?_;refine ab (ax (d:=I (-1)) rfl ?_);simp[bM,h1,h2]
theorem zl{x:Argus.End}:PCall prog 175 [.agg (aT x)] (I (dp x)):=by
 have C:∀ a∈[D.agg (aT x)],Tr a:=.cons (.agg (ix x)) .nil;have tx:=tx (x:=x.ins);refine aX mixed SY (by rw[ag4];rfl) C (Tr.s _) ?_;rw[ag5,ag6];refine av ?_;refine ag ?_;refine ab (aJ (bp [(0,aT x,69)] eH (l:=[(1,.pt (aT x))]) eH) (aD (an ?_)));refine ag ?_;refine ab (lW (an ?_));refine ag ?_;refine ab (au rfl (fun h1=>?_) fun h1=>?_)
 .have h1:x.kind=5:=by simpa using h1
  refine ws ?_;refine ag ?_;refine cl tx ?_;refine SS ?_;refine ab (aU (bu (aQ (ax (d:=I (bM x.ins)) rfl ?_))));simp[dp,h1]
 have h1:¬ x.kind=5:=by simpa using h1
 refine dB (fun s=>Ghost prog s ⟨ay [(1,.pt (aT x)),(4,U8 x.kind),(10,B (aG [6,7] x.kind))],fun _=>none,1⟩) (an ?_) fun s hg=>⟨_,hg,?_⟩
 .refine ag ?_;refine ab (au rfl (fun h=>aZ ?_) fun e6=>j9 ?_)
  .have h:x.kind=6:=by simpa using h
   refine ap ⟨rfl,rfl,?_,trivial⟩;show D.s (.bool (x.kind==6))=_;rw[h];rfl
  refine ag ?_;refine ab ?_;refine ap ⟨rfl,rfl,?_,trivial⟩;show D.s (.bool (x.kind==7))=_;simp[aG,e6]
 refine au rfl (fun h2=>?_) fun h2=>?_
 .refine ws ?_;refine aw ?_;refine ab (aU (bu (aQ (ax (d:=I x.a) rfl ?_))));simp[dp,h1,h2]
 refine ws ?_;refine ag ?_;refine ab (au rfl (fun h3=>?_) fun h3=>?_)
 .have h3:x.kind=8:=by simpa using h3
  refine ws ?_;refine aw ?_;refine ab (aU (bu (aQ (ax (d:=I x.b) rfl ?_))));simp[dp,h2,h3];simp[aG]
 have h3:¬ x.kind=8:=by simpa using h3
 refine lx (an ?_);refine SS ?_;refine ab (ax (d:=I (-1)) rfl ?_);simp[dp,h1,h2,h3]
theorem zy{l:List Int}(hl:l.length<=100000):PCall prog 105 [az l] (az l):=by
 have J:∀ a∈[az l],Tr a:=.cons (cI _) .nil;refine aX mixed SZ (by rw[ag7];rfl) J (cI _) ?_;rw[ag8,ag9];have qN:(l.map I).take (l.length*1)=l.map I:=List.take_of_length_le oS
 have last:AW prog noY true (.seq (.region 3 (Z ux 3) false) .ret) (retQ prog [.tmp 2] fun d x=>d=az l) ⟨ay [(0,az l)],fun _=>none,0⟩:=by
  refine av ?_;refine aF ?_;refine ab (aJ (bp [(1,l.map I,3)] eH (l:=[(2,az l)]) ⟨?_,trivial⟩) (ax rfl rfl));show qY _ [(1,l.map I,3)] (.rs 1 0 (0+l.length))=.sl (l.map I) l.length;rw[Nat.zero_add];exact jO c3 (List.take_of_length_le oS)
 refine ws ?_;refine SS ?_;refine ab ?_;refine dB (fun s=>Ghost prog s ⟨ay [(0,az l)],fun _=>none,0⟩) (an ?_) fun s hg=>⟨_,hg,last⟩
 cases l with
 |nil=>
  refine SS ?_;refine aB (abx rfl) ak V.h ?_;refine ab (aak rfl (av ?_) (aZ (ap eH)));refine SS ?_;exact ab (aJ (v9 (n0:=2) rfl) (aU (aQ (ax rfl rfl))))
 |cons a l=>
  have C:(a::l).length≠0:=by simp
  refine SS ?_;refine aB (aby rfl C) ak V.h ?_;exact ab (au rfl (fun h=>oH) fun h=>aZ (ap eH))
theorem sr{x:aW}(hx:x.op=10\/x.op=38->x.args.length<=1000):PCall prog 140 [.agg (a8 x)] (az (bK x)):=by
 have X:∀ a∈[D.agg (a8 x)],Tr a:=.cons (.agg (mW x)) .nil;refine aX mixed S0 (by rw[ag'];rfl) X (cI _) ?_;rw[aha,ahb];refine av ?_;refine ag ?_;refine ab (aJ (bp [(0,a8 x,66)] eH (l:=[(1,.pt (a8 x))]) eH) (aD (an ?_)));refine ag ?_;refine ab (lW ?_);refine dB (fun s=>Ghost prog s ⟨ay [(1,.pt (a8 x)),(4,U8 x.op),(5,B (aG l5 x.op))],fun _=>none,1⟩) (an ?_) fun s hg=>⟨_,hg,?_⟩
 .refine ag ?_;refine ab (au rfl (fun h=>aZ ?_) fun e2=>an ?_)
  .have h:x.op=2:=by simpa using h
   refine ap ⟨rfl,rfl,?_,trivial⟩;show D.s (.bool (x.op==2))=_;rw[h];rfl
  refine ag ?_;refine ab (au rfl (fun h=>aZ ?_) fun e8=>an ?_)
  .have h:x.op=8:=by simpa using h
   refine ap ⟨rfl,rfl,?_,trivial⟩;show D.s (.bool (x.op==8))=_;rw[h];rfl
  refine ag ?_;refine ab (au rfl (fun h=>aZ ?_) fun tZ=>an ?_)
  .have h:x.op=11:=by simpa using h
   refine ap ⟨rfl,rfl,?_,trivial⟩;show D.s (.bool (x.op==11))=_;rw[h];rfl
  refine ag ?_;refine ab (au rfl (fun h=>aZ ?_) fun ua=>an ?_)
  .have h:x.op=13:=by simpa using h
   refine ap ⟨rfl,rfl,?_,trivial⟩;show D.s (.bool (x.op==13))=_;rw[h];rfl
  refine ag ?_;refine ab (au rfl (fun h=>aZ ?_) fun xQ=>an ?_)
  .have h:x.op=14:=by simpa using h
   refine ap ⟨rfl,rfl,?_,trivial⟩;show D.s (.bool (x.op==14))=_;rw[h];rfl
  refine ag ?_;refine ab (au rfl (fun h=>aZ ?_) fun CF=>an ?_)
  .have h:x.op=15:=by simpa using h
   refine ap ⟨rfl,rfl,?_,trivial⟩;show D.s (.bool (x.op==15))=_;rw[h];rfl
  refine ag ?_;refine ab (au rfl (fun h=>aZ ?_) fun CG=>an ?_)
  .have h:x.op=16:=by simpa using h
   refine ap ⟨rfl,rfl,?_,trivial⟩;show D.s (.bool (x.op==16))=_;rw[h];rfl
  refine ag ?_;refine ab (au rfl (fun h=>aZ ?_) fun C=>j9 ?_)
  .have h:x.op=18:=by simpa using h
   refine ap ⟨rfl,rfl,?_,trivial⟩;show D.s (.bool (x.op==18))=_;rw[h];rfl
  refine ag ?_;refine ab ?_;refine ap ⟨rfl,rfl,?_,trivial⟩;show D.s (.bool (x.op==36))=_;simp[aG,l5,e2,e8,tZ,ua,xQ,CF,CG,C]
 refine au rfl (fun h1=>?_) fun h1=>?_
 .refine av ?_;refine aF ?_;refine ab (aJ (bp [(1,([x.a]).map I,3)] eH (l:=[(2,az ([x.a]))]) ⟨jO c3 rfl,trivial⟩) (aU (bu (aQ (ax (d:=az ([x.a])) rfl ?_)))));exact congrArg az (by unfold bK;rw[if_pos h1])
 refine dB (fun s=>Ghost prog s ⟨ay [(1,.pt (a8 x)),(4,U8 x.op),(18,B (aG po x.op))],fun _=>none,1⟩) (an ?_) fun s hg=>⟨_,hg,?_⟩
 .refine ag ?_;refine ab (au rfl (fun h=>aZ ?_) fun e3=>an ?_)
  .have h:x.op=3:=by simpa using h
   refine ap ⟨rfl,rfl,?_,trivial⟩;show D.s (.bool (x.op==3))=_;rw[h];rfl
  refine ag ?_;refine ab (au rfl (fun h=>aZ ?_) fun e4=>an ?_)
  .have h:x.op=4:=by simpa using h
   refine ap ⟨rfl,rfl,?_,trivial⟩;show D.s (.bool (x.op==4))=_;rw[h];rfl
  refine ag ?_;refine ab (au rfl (fun h=>aZ ?_) fun e5=>an ?_)
  .have h:x.op=5:=by simpa using h
   refine ap ⟨rfl,rfl,?_,trivial⟩;show D.s (.bool (x.op==5))=_;rw[h];rfl
  refine ag ?_;refine ab (au rfl (fun h=>aZ ?_) fun e6=>an ?_)
  .have h:x.op=6:=by simpa using h
   refine ap ⟨rfl,rfl,?_,trivial⟩;show D.s (.bool (x.op==6))=_;rw[h];rfl
  refine ag ?_;refine ab (au rfl (fun h=>aZ ?_) fun e7=>an ?_)
  .have h:x.op=7:=by simpa using h
   refine ap ⟨rfl,rfl,?_,trivial⟩;show D.s (.bool (x.op==7))=_;rw[h];rfl
  refine ag ?_;refine ab (au rfl (fun h=>aZ ?_) fun J=>an ?_)
  .have h:x.op=12:=by simpa using h
   refine ap ⟨rfl,rfl,?_,trivial⟩;show D.s (.bool (x.op==12))=_;rw[h];rfl
  refine ag ?_;refine ab (au rfl (fun h=>aZ ?_) fun ud=>an ?_)
  .have h:x.op=30:=by simpa using h
   refine ap ⟨rfl,rfl,?_,trivial⟩;show D.s (.bool (x.op==30))=_;rw[h];rfl
  refine ag ?_;refine ab (au rfl (fun h=>aZ ?_) fun ue=>an ?_)
  .have h:x.op=31:=by simpa using h
   refine ap ⟨rfl,rfl,?_,trivial⟩;show D.s (.bool (x.op==31))=_;rw[h];rfl
  refine ag ?_;refine ab (au rfl (fun h=>aZ ?_) fun uf=>an ?_)
  .have h:x.op=32:=by simpa using h
   refine ap ⟨rfl,rfl,?_,trivial⟩;show D.s (.bool (x.op==32))=_;rw[h];rfl
  refine ag ?_;refine ab (au rfl (fun h=>aZ ?_) fun ug=>an ?_)
  .have h:x.op=33:=by simpa using h
   refine ap ⟨rfl,rfl,?_,trivial⟩;show D.s (.bool (x.op==33))=_;rw[h];rfl
  refine ag ?_;refine ab (au rfl (fun h=>aZ ?_) fun xR=>an ?_)
  .have h:x.op=34:=by simpa using h
   refine ap ⟨rfl,rfl,?_,trivial⟩;show D.s (.bool (x.op==34))=_;rw[h];rfl
  refine ag ?_;refine ab (au rfl (fun h=>aZ ?_) fun U=>j9 ?_)
  .have h:x.op=35:=by simpa using h
   refine ap ⟨rfl,rfl,?_,trivial⟩;show D.s (.bool (x.op==35))=_;rw[h];rfl
  refine ag ?_;refine ab ?_;refine ap ⟨rfl,rfl,?_,trivial⟩;show D.s (.bool (x.op==37))=_;simp[aG,po,e3,e4,e5,e6,e7,J,ud,ue,uf,ug,xR,U]
 refine au rfl (fun h2=>?_) fun h2=>?_
 .refine av ?_;refine bD ?_;refine ab (aJ (bp [(1,([x.a,x.b]).map I,3)] eH (l:=[(2,az ([x.a,x.b]))]) ⟨jO c3 rfl,trivial⟩) (aU (bu (aQ (ax (d:=az ([x.a,x.b])) rfl ?_)))));exact congrArg az (by unfold bK;rw[if_neg (by simp[h1]),if_pos h2])
 refine ws ?_;refine ag ?_;refine ab (au rfl (fun h3=>?_) fun h3=>?_)
 .have h3:x.op=10:=by simpa using h3
  have zy:=zy (l:=x.args) (by have:=hx (.inl h3);omega);refine ws ?_;refine ag ?_;refine cl zy ?_;refine SS ?_;refine ab (aU (bu (aQ (ax (d:=az x.args) rfl ?_))));exact congrArg az (by unfold bK;rw[if_neg (by simp[h1]),if_neg (by simp[h2]),if_pos h3])
 have h3:¬ x.op=10:=by simpa using h3
 refine ws ?_;refine ag ?_;refine ab (au rfl (fun h4=>?_) fun h4=>?_)
 .have h4:x.op=38:=by simpa using h4
  have hl:=hx (.inr h4);have qN:(x.args.map I).take (x.args.length*1)=x.args.map I:=List.take_of_length_le oS;refine av ?_;refine aL ?_;refine ab (aJ (bp [(2,(x.a::x.b::x.args).map I,3)] eH (l:=[(2,az (x.a::x.b::x.args))]) ⟨?_,trivial⟩) (aU (bu (aQ (ax (d:=az (x.a::x.b::x.args)) rfl ?_)))))
  .show qY _ [(2,_,3)] (.rs 2 0 (2+x.args.length))=_;refine(jO c3 (es:=(x.a::x.b::x.args).map I) (List.take_of_length_le oP)).trans ?_;rw[Nat.add_comm];rfl
  .exact congrArg az (by unfold bK;rw[if_neg (by simp[h1]),if_neg (by simp[h2]),if_neg h3,if_pos h4])
 have h4:¬ x.op=38:=by simpa using h4
 refine lx (av ?_);refine SS ?_;refine ab (aJ (v9 (n0:=2) rfl) (ax (d:=az []) rfl ?_));exact congrArg az (by unfold bK;rw[if_neg (by simp[h1]),if_neg (by simp[h2]),if_neg h3,if_neg h4])
theorem wX{x:Argus.End}(hx:x.kind=5->x.ins.op=10\/x.ins.op=38->x.ins.args.length<=1000)(hy:x.kind=6\/x.kind=7->x.args.length<=1000):PCall prog 137 [.agg (aT x)] (az (bJ x)):=by
 have C:∀ a∈[D.agg (aT x)],Tr a:=.cons (.agg (ix x)) .nil;refine aX mixed S2 (by rw[ahc];rfl) C (cI _) ?_;rw[ahe,ahf];refine av ?_;refine ag ?_;refine ab (aJ (bp [(0,aT x,69)] eH (l:=[(1,.pt (aT x))]) eH) (aD (an ?_)));refine ag ?_;refine ab (lW ?_);refine dB (fun s=>Ghost prog s ⟨ay [(1,.pt (aT x)),(4,U8 x.kind),(5,B (aG [2,8,9] x.kind))],fun _=>none,1⟩) (an ?_) fun s hg=>⟨_,hg,?_⟩
 .refine ag ?_;refine ab (au rfl (fun h=>aZ ?_) fun e2=>an ?_)
  .have h:x.kind=2:=by simpa using h
   refine ap ⟨rfl,rfl,?_,trivial⟩;show D.s (.bool (x.kind==2))=_;rw[h];rfl
  refine ag ?_;refine ab (au rfl (fun h=>aZ ?_) fun e8=>j9 ?_)
  .have h:x.kind=8:=by simpa using h
   refine ap ⟨rfl,rfl,?_,trivial⟩;show D.s (.bool (x.kind==8))=_;rw[h];rfl
  refine ag ?_;refine ab ?_;refine ap ⟨rfl,rfl,?_,trivial⟩;show D.s (.bool (x.kind==9))=_;simp[aG,e2,e8]
 refine au rfl (fun h1=>?_) fun h1=>?_
 .refine av ?_;refine aF ?_;refine ab (aJ (bp [(1,([x.a]).map I,3)] eH (l:=[(2,az ([x.a]))]) ⟨jO c3 rfl,trivial⟩) (aU (bu (aQ (ax (d:=az ([x.a])) rfl ?_)))));exact congrArg az (by unfold bJ;rw[if_pos h1])
 refine ws ?_;refine ag ?_;refine ab (au rfl (fun h2=>?_) fun h2=>?_)
 .have h2:x.kind=3:=by simpa using h2
  refine ws ?_;refine aw ?_;refine ab (au rfl (fun h3=>?_) fun h3=>?_)
  .have h3:¬ x.a= -1:=by simpa[bne,ib] using h3
   refine av ?_;refine aF ?_;refine ab (aJ (bp [(1,([x.a]).map I,3)] eH (l:=[(2,az ([x.a]))]) ⟨jO c3 rfl,trivial⟩) (aU (bu (aQ (ax (d:=az ([x.a])) rfl ?_)))));exact congrArg az (by unfold bJ;rw[if_neg (by simp[h1]),if_pos h2,if_pos h3])
  .have h3:x.a= -1:=by simpa[bne,ib] using h3
   refine lx (av ?_);refine SS ?_;refine ab (aJ (v9 (n0:=2) rfl) (ax (d:=az []) rfl ?_));exact congrArg az (by unfold bJ;rw[if_neg (by simp[h1]),if_pos h2,if_neg (by simp[h3])])
 have h2:¬ x.kind=3:=by simpa using h2
 refine ws ?_;refine ag ?_;refine ab (au rfl (fun h3=>?_) fun h3=>?_)
 .have h3:x.kind=5:=by simpa using h3
  have sr:=sr (x:=x.ins) (hx h3);refine ws ?_;refine ag ?_;refine cl sr ?_;refine SS ?_;refine ab (aU (bu (aQ (ax (d:=az (bK x.ins)) rfl ?_))));exact congrArg az (by unfold bJ;rw[if_neg (by simp[h1]),if_neg h2,if_pos h3])
 have h3:¬ x.kind=5:=by simpa using h3
 refine dB (fun s=>Ghost prog s ⟨ay [(1,.pt (aT x)),(4,U8 x.kind),(25,B (aG [6,7] x.kind))],fun _=>none,1⟩) (an ?_) fun s hg=>⟨_,hg,?_⟩
 .refine ag ?_;refine ab (au rfl (fun h=>aZ ?_) fun e6=>j9 ?_)
  .have h:x.kind=6:=by simpa using h
   refine ap ⟨rfl,rfl,?_,trivial⟩;show D.s (.bool (x.kind==6))=_;rw[h];rfl
  refine ag ?_;refine ab ?_;refine ap ⟨rfl,rfl,?_,trivial⟩;show D.s (.bool (x.kind==7))=_;simp[aG,e6]
 refine au rfl (fun h4=>?_) fun h4=>?_
 .have h5:x.kind=6\/x.kind=7:=by simpa[aG] using h4
  have zy:=zy (l:=x.args) (by have:=hy h5;omega);refine ws ?_;refine ag ?_;refine cl zy ?_;refine SS ?_;refine ab (aU (bu (aQ (ax (d:=az x.args) rfl ?_))));exact congrArg az (by unfold bJ;rw[if_neg (by simp[h1]),if_neg h2,if_neg h3,if_pos h4])
 refine lx (av ?_);refine SS ?_;refine ab (aJ (v9 (n0:=2) rfl) (ax (d:=az []) rfl ?_));exact congrArg az (by unfold bJ;rw[if_neg (by simp[h1]),if_neg h2,if_neg h3,if_neg (by simp[h4])])
noncomputable def cx0:Ctx:=⟨fun f=>BH.get f,fun _ _ _=>none,fun _ _=>none⟩
theorem ly:cx0.Ok prog:=⟨mixed,HA,fun _ _ _ _ h=>oH,fun _ _ _ h=>oH⟩
theorem Aq{off:Nat}{vs cs:List D}(hv:vs.length=20)(hl:off+20<=cs.length)(C:vs.all D.one=true):tyOk prog 231=true/\vs.length=prog.cellsOf 231/\off+prog.cellsOf 231<=cs.length/\vs.all D.one=true:=by
 rw[qO];exact⟨t231,hv,hl,C⟩
theorem kp{w:List Int}{m:Nat}(J:w.length=20)(hm:m<1280):PCall prog 200 [cX w,I m] (B (gW w m)):=by
 have C:∀ a∈[cX w,I m],Tr a:=.cons (iK _) (.cons (.s _) .nil);have hi:w[m / 64]? =some w[m / 64]:=List.getElem?_eq_getElem oG;have hg:w.getD (m / 64) 0=w[m / 64]:=by simp[List.getD_eq_getElem?_getD,hi]
 have BE:=Bs (m:=m) oG;have BF:=Bt m;have kd:=eV (f:=bc) hi;refine aX mixed Rj (by rw[acy];rfl) C (Tr.s _) ?_;rw[acz,acA];refine ws ?_;refine ag ?_;refine er ?_;refine bD ?_;refine aB (QZ rfl rfl) ak oG ?_;refine aw ?_;refine ab (ax (d:=.s (.bool _)) rfl ?_);unfold gW;rw[hg];rfl
theorem pL{w:List Int}{n:Int}(J:w.length=20)(hn: -1000000<=n/\n<1280):PCall prog 242 [cX w,I n] (cX (fP w n)):=by
 have C:∀ a∈[cX w,I n],Tr a:=.cons (iK _) (.cons (.s _) .nil);refine aX mixed Rk (by rw[acB];rfl) C (iK _) ?_;rw[acC,acD];refine ws ?_;refine ag ?_;refine ab (aD (an ?_));by_cases h0:0<=n
 .obtain⟨m,rfl⟩:=Int.eq_ofNat_of_zero_le h0;have hm:m<1280:=by omega
  have hi:w[m / 64]? =some w[m / 64]:=List.getElem?_eq_getElem oG;have hg:w.getD (m / 64) 0=w[m / 64]:=by simp[List.getD_eq_getElem?_getD,hi]
  have BE:=Bs (m:=m) oG;have BF:=Bt m;have kd:=eV (f:=bc) hi;have zi:decide (0<=(m:Int))=true:=by simp
  refine ag ?_;refine ab (bC rfl (fun _=>dd XJ ?_) fun h=>oH);refine bA ?_;refine ag ?_;refine bj (by simp[apartT]) (an ?_);refine ag ?_;refine ab (iz (iV rfl rfl tv qO (gC (by first|rfl|simp;omega)) t231 oP) ?_);simp only[fP,h0,if_true,Int.toNat_natCast,gT,hg,cX,List.map_set];rfl
 .have zi:decide (0<=n)=false:=by simpa using h0
  refine ag ?_;refine ab (bC rfl (fun h=>oH) fun _=>cx (an ?_));refine ag ?_;refine ab (iz (iV rfl rfl tv qO (gC oP) t231 oP) ?_);simp only[fP,h0,if_false]
theorem Er{w v:List Int}(C:w.length=20)(hv:v.length=20):PCall prog 243 [cX w,cX v] (cX (fQ w v)):=by
 have X:∀ a∈[cX w,cX v],Tr a:=.cons (iK _) (.cons (iK _) .nil);refine aX mixed Rm (by rw[acE];rfl) X (iK _) ?_;rw[acF,acG];refine ws ?_;refine aw ?_;refine ab (aD (av ?_));refine SS ?_
 refine ab (bG (fun s=>Ghost prog s ⟨ay [(2,.rp 0 0),(3,.rp 1 0),(4,.rp 2 0)],a9 [(0,.cells ((fQ w v).map bc) 231),(1,.cells (v.map bc) 231),(2,.cells (List.replicate 20 (bc 0)) 231)],3⟩) (dq (α:=Nat)
  (fun k=>⟨ay [(2,.rp 0 0),(3,.rp 1 0),(4,.rp 2 0),(6,I k)],a9 [(0,.cells ((dY w v k).map bc) 231),(1,.cells (v.map bc) 231),(2,.cells (List.replicate 20 (bc 0)) 231)],3⟩)
  (fun k=>k<=20) (fun k=>20 - k) 0 (aK eH eH) oG ?_) ?_)
 .intro k hk;refine SS ?_;refine ab ⟨_,rfl,fun h=>?_,fun h=>?_⟩
  .have ao:k<20:=by have h:(k:Int)<20:=by simpa using h
                    omega
   have k8:(dY w v k).length=20:=by simp[C]
   have hi:(dY w v k)[k]? =some (dY w v k)[k]:=List.getElem?_eq_getElem oG;have hj:v[k]? =some v[k]:=List.getElem?_eq_getElem oG;have hg:(dY w v k).getD k 0=(dY w v k)[k]:=by simp[List.getD_eq_getElem?_getD,hi]
   have J:v.getD k 0=v[k]:=by simp[List.getD_eq_getElem?_getD,hj]
   have kd:=eV (f:=bc) hi;have fh:=eV (f:=bc) hj;refine ws ?_;refine ag ?_;refine ab (iZ XK ?_);refine aV ?_;refine aB (eX rfl rfl fh V.h) ak (eY V.h V.h fh) ?_;refine aw ?_;refine bj (by simp[apartT]) ?_;refine ag ?_;refine ab (aH (k+1) (aK eH ⟨?_,rfl,rfl,trivial⟩) oG oG);rw[up_same];simp only[dY,hg,J,List.map_set];rfl
  .have aY:¬ k<20:=by intro hh;simp at h;omega
   have:k=20:=by omega
   subst this;exact .forget _ _ _ _ fun t=>lY (l:=[(2,.rp 0 0),(3,.rp 1 0),(4,.rp 2 0)]) ⟨rfl,rfl,rfl,trivial⟩ t
 .intro s hg;have U:(fQ w v).length=20:=by simp[C]
  generalize fQ w v=u at hg U ⊢;refine⟨_,hg,an ?_⟩;refine ag ?_;refine ab (iz (iV rfl rfl tv qO (gC oP) t231 oP) ?_);rfl
def ajk:Int:=18446744073709551615
theorem IS:PCall prog 241 [] (cX (List.replicate 20 ajk)):=by
 exact j6 ly 100 rfl kr
theorem BI{w:List Int}{x:aW}(C:w.length=20)(hn:x.op=18->0<=x.n/\x.n<80)(ht:x.op≠18-> -1000000<=bM x/\bM x<1280):PCall prog 245 [cX w,.agg (a8 x)] (cX (fP w (if x.op=18 then jC x.n else bM x))):=by
 have J:∀ a∈[cX w,.agg (a8 x)],Tr a:=.cons (iK _) (.cons (.agg (mW x)) .nil);refine aX mixed Rn (by rw[acH];rfl) J (iK _) ?_;rw[acI,acJ];refine ws ?_;refine aw ?_;refine ab (aD (an ?_));refine aw ?_;refine ab (bC rfl (fun h=>?_) fun h=>cx (dd XL ?_))
 .have h:x.op=18:=by simpa using h
  have hx:=hn h;have tw:=tw (n:=x.n) oG;have pL:=pL (w:=w) (n:=jC x.n) C (by unfold jC;omega);refine aD (dd XM ?_);refine aw ?_;refine cl tw ?_;refine cl pL ?_;refine SS ?_;refine bj (by simp[apartT]) (dx (iz (iV rfl rfl tv qO (gC oP) t231 oP) ?_));simp[h]
 .have h:x.op≠18:=by simpa using h
  have tx:=tx (x:=x);have pL:=pL (w:=w) (n:=bM x) C (ht h);refine SS ?_;refine aB (cP (vs:=a8 _) rfl rfl V.h V.h rfl) ak (cQ V.h V.h (by first|(simp;done)|omega|exact Nat.le_of_ble_eq_true rfl)) ?_;refine cl tx ?_;refine cl pL ?_;refine SS ?_;refine bj (by simp[apartT]) (iz (iV rfl rfl tv qO (gC oP) t231 oP) ?_);simp[h]
end Go.Proofs.Tryz.K
namespace Go.Argus
def fX(x:End):Bool:=decide (0<=x.cm)&&aG [5,6,8] x.kind
def cz(x:End):List Int:=if aG [3,4] x.kind then [] else x.to::((if aG [2,8] x.kind then [x.eL] else [])++(x.aE.map (·.to)++(if fX x then [x.cm] else [])))
def oL(x:End):Nat:=if aG [2,8] x.kind then 2 else 1
theorem Y9{x:End}(h:aG [3,4] x.kind=false):(cz x)[0]? =some x.to/\(aG [2,8] x.kind=true->(cz x)[1]? =some x.eL)/\(∀ (j:Nat) w,x.aE[j]? =some w->(cz x)[oL x+j]? =some w.to)/\
 (fX x=true->(cz x)[oL x+x.aE.length]? =some x.cm)/\(cz x).length=oL x+x.aE.length+(if fX x then 1 else 0):=by
 unfold cz oL;generalize fX x=c;rw[if_neg (by simp[h])];cases h2:aG [2,8] x.kind with
 |true=>
  refine⟨rfl,fun _=>rfl,fun j w hj=>?_,fun hc=>?_,?_⟩
  .have:j<x.aE.length:=(List.getElem?_eq_some_iff.1 hj).1;simp only[if_true,List.singleton_append];rw[show 2+j=j+1+1 by omega,List.getElem?_cons_succ,List.getElem?_cons_succ,List.getElem?_append_left (by simpa using this)];simp[hj]
  .simp only[if_true,List.singleton_append];rw[show 2+x.aE.length=x.aE.length+1+1 by omega,List.getElem?_cons_succ,List.getElem?_cons_succ,List.getElem?_append_right oS];rw[if_pos hc];simp
  .cases c<;>simp<;>omega
 |false=>
  refine⟨rfl,fun h=>oH,fun j w hj=>?_,fun hc=>?_,?_⟩
  .have:j<x.aE.length:=(List.getElem?_eq_some_iff.1 hj).1;simp only[Bool.false_eq_true,if_false,List.nil_append];rw[show 1+j=j+1 by omega,List.getElem?_cons_succ,List.getElem?_append_left (by simpa using this)];simp[hj]
  .simp only[Bool.false_eq_true,if_false,List.nil_append];rw[show 1+x.aE.length=x.aE.length+1 by omega,List.getElem?_cons_succ,List.getElem?_append_right oS];rw[if_pos hc];simp
  .cases c<;>simp<;>omega
def yR(x:End)(b:Int):Bool:=aM x.to b&&aM ((cz x).count b:Nat) 1
theorem G9(x:End):(cz x).length<=x.aE.length+3:=by
 unfold cz;split
 .simp
 .simp only[List.length_cons,List.length_append,List.length_map];split<;>split<;>simp<;>omega
end Go.Argus
namespace Go.Abs
theorem fI{P:Program}{Y:YSpec}{rf:Bool}{Q:Exit->St->Prop}{st:St}[dD Y]{ops:Array Oper}{i:Nat}(h:AOps P Y ops false [] (fu (Q .normal)) ops.toList st []):AW P Y rf (.region i ops false) Q st:=rF (rf:=rf) (id:=i) (AOps.kU h fun _ h=>h)
section
variable{P:Program}{env:Env}{m:Mem}{nx:Nat}{x y:Operand}{t p:TypeId}{k:IntKind}{n n':Int}
theorem Pq(hx:(opd env x).core=.s (.int .i64 n))(hy:(opd env y).core=.s (.int .i64 n')){r:Int}(hd:n - n'=r/\ -9223372036854775808<=r/\r<=9223372036854775807):Ef P (.binOp .sub t x y p) env m nx ⟨IntKind.i64=IntKind.i64,.s (.int .i64 r),[],[],0⟩:=by
 obtain⟨rfl,h⟩:=hd;exact HV hx hy h
theorem jG{j i l:Nat}{e:TypeId}{r:Row}(hx:(opd env x).core=.rs j 0 l)(hy:(opd env y).core=.s (.int k (i:Int)))(hm:m j=some r)(he:elemP P t=e)(C:P.cellsOf e=1):
 Ef P (.indexAddr t x y) env m nx ⟨slT P t=true/\i<l,.rp j i,[],[j],0⟩:=by
 have h:=Hr (P:=P) (env:=env) (m:=m) (nx:=nx) (t:=t) hx hy hm he C;have h1:0+((i:Int)).toNat*1=i:=by simp
 have h2:(slT P t=true/\(0:Int)<=(i:Int)/\(i:Int)<l)=(slT P t=true/\i<l):=by
  apply propext;constructor
  .rintro⟨a,_,b⟩;exact⟨a,by omega⟩
  .rintro⟨a,b⟩;exact⟨a,by omega,by omega⟩
 rw[h1,h2] at h;exact h
theorem jN{α:Type}(f:Nat->α)(i:Nat)(a b:α):up (up f i a) i b=up f i b:=by
 funext j;simp only[up];split<;>rfl
variable{Y:YSpec}{rf:Bool}{Q:Exit->St->Prop}{st:St}{id gp i1 i3:Nat}{rc ri:Array Oper}{body:Code}{α:Type}{cf:List (Nat×Nat)}{u:Nat}
theorem abi[dD Y](hi:drawInfo rc=some cf)(S:α->St)(J:α->Prop)(μ:α->Nat)(C:α)(hg:Ghost P st (S C))(U:J C)
 (h:∀ x,J x->AOps P Y rc true cf (fu fun s=>∃ g,opd s.env (.tmp u)=.s (.bool g)/\(g=true->AW P Y rf body (mn gp id (fun s=>AOps P Y ri false [] (fu (r9 P S J μ x)) ri.toList s []) Q) s)/\(g=false->Q .normal s)) rc.toList (S x) []):
 ∃ st',Ghost P st st'/\AW P Y rf (.block id (.loop (.seq (.seq (.region i1 rc true) (.cond (.tmp u) .skip (.exit id))) (.seq (.block gp body) (.region i3 ri false))))) Q st':=by
 refine DC (Q:=blockQ id Q) S J μ C hg U (fun x hx=>?_) (a:=.skip) fun _ h=>h;refine aD (Bb (rf:=rf) (id:=i1) hi (AOps.kU (h x hx) fun s X=>?_));obtain⟨g,h1,h2,h3⟩:=X;refine⟨s,.refl s,bC h1 (fun xB=>?_) fun xC=>?_⟩
 .exact cx (G6 (h2 xB))
 .refine qc ?_;simp only[seqQ,blockQ,if_true];exact h3 xC
theorem gO{l:List (Nat×D)}{m':Mem}(h:iA l env)(hm:m=m'):Ghost P ⟨env,m,nx⟩ ⟨ay l,m',nx⟩:=hm▸ap h
end
end Go.Abs
namespace Go.Proofs.Tryz.K
set_option maxRecDepth 10000
theorem tz{x:Argus.End}:PCall prog 156 [.agg (aT x)] (.fn (.func 202) [] [.pt (aT x)]):=by
 have C:∀ a∈[D.agg (aT x)],Tr a:=.cons (.agg (ix x)) .nil;refine aX mixed Rp (by rw[acK];rfl) C (.fn oS (.cons (.pt (ix x)) .nil)) ?_;rw[acL,acM];refine av ?_;refine SS ?_;refine aB (lk (v:=.s .nilFunc) rfl) ak trivial ?_;refine ab (aJ (bp [(0,aT x,69)] eH (l:=[(1,.pt (aT x))]) eH) (an ?_));refine SS ?_;refine Tv ?_;exact ab (ax rfl rfl)
def JX(l:Nat)(x:Argus.End)(C:Nat->Mem->Nat->Prop)(n:Nat)(s:St):Prop:=∃ m nx,Ghost prog s ⟨ay [(0,.fn (.yield l) [] []),(1,.pt (aT x))],m,nx⟩/\C n m nx
theorem Tw{x:Argus.End}(hlen:x.aE.length<=100000):SeqA prog 202 [] [.pt (aT x)] ((cz x).map fun n=>[I n]):=by
 refine Hv mixed Rq (by rw[acN];rfl) fun l X Stop m nx hI D1 h0=>?_;rw[acO,acP];by_cases C:aG [3,4] x.kind=true
 .have jm:((cz x).map fun n=>[I n]).length=0:=by simp[cz,C]
  rw[jm];by_cases h3:x.kind=3
  .have dI:(x.kind==3)=true:=by simpa using h3
   refine aD (an ?_);refine aF ?_;(iterate 3 refine z fun _ _=>?_);refine ag ?_;(iterate 5 refine z fun _ _=>?_);refine SS ?_;refine ab (bC rfl (fun h=>Ph (aU (aQ (s3 (.inl h0))))) fun h=>oH)
  .have h4:x.kind=4:=by simpa[aG,h3] using C
   have dI:(x.kind==3)=false:=by simpa using h3
   have uO:(x.kind==4)=true:=by simpa using h4
   refine aD (an ?_);refine aL ?_;(iterate 5 refine z fun _ _=>?_);refine SS ?_;refine ab (bC rfl (fun h=>Ph (aU (aQ (s3 (.inl h0))))) fun h=>oH)
 have C:aG [3,4] x.kind=false:=by simpa using C
 obtain⟨x0,x1,xw,xo,xl⟩:=Y9 C;have J:∀ {k:Nat} {n:Int},(cz x)[k]? =some n->((cz x).map fun n=>[I n])[k]? =some [I n]:=fun h=>by simp[h]
 have qE:((cz x).map fun n=>[I n]).length=oL x+x.aE.length+(if fX x then 1 else 0):=by simpa using xl
 have pY:x.kind≠3/\x.kind≠4:=by simpa[aG] using C
 refine dB (JX l x X 1) ?_ fun s U=>?_
 .have dI:(x.kind==3)=false:=by simpa using pY.1
  have uO:(x.kind==4)=false:=by simpa using pY.2
  refine ws ?_;refine aL ?_;refine aw ?_;refine D7 rfl rfl rfl rfl (by repeat' (first|exact trivial|exact rfl|refine And.intro ?_ ?_)) ⟨rfl,0,J x0,h0,fun d m' nx' hp=>?_⟩;rcases hp with⟨rfl,hp⟩|⟨rfl,hp⟩
  .refine ag ?_;exact ab (au rfl (fun h=>oH) fun h=>aZ ⟨m',nx',ap eH,hp⟩)
  .refine ag ?_;exact ab (au rfl (fun h=>aU (aQ (s3 (.inr hp)))) fun h=>oH)
 obtain⟨m1,U1,hg,h1⟩:=U;refine⟨_,hg,?_⟩;clear hg h0;refine dB (JX l x X (oL x)) ?_ fun s U=>?_
 .have yes:aG [2,8] x.kind=true->(cz x)[1]? =some x.eL/\oL x=2:=fun h=>⟨x1 h,by simp[oL,h]⟩
  by_cases h2:x.kind=2
  .obtain⟨y1,y2⟩:=yes (by rw[h2];rfl);have dI:(x.kind==2)=true:=by simpa using h2
   refine ws ?_;refine aF ?_;(iterate 3 refine z fun _ _=>?_);refine aV ?_;refine D7 rfl rfl rfl rfl (by repeat' (first|exact trivial|exact rfl|refine And.intro ?_ ?_)) ⟨rfl,1,J y1,h1,fun d m' nx' hp=>?_⟩;rcases hp with⟨rfl,hp⟩|⟨rfl,hp⟩
   .refine ag ?_;exact ab (au rfl (fun h=>oH) fun h=>aZ ⟨m',nx',ap eH,y2▸hp⟩)
   .refine ag ?_;exact ab (au rfl (fun h=>aU (aQ (s3 (.inr hp)))) fun h=>oH)
  .have dI:(x.kind==2)=false:=by simpa using h2
   by_cases h8:x.kind=8
   .obtain⟨y1,y2⟩:=yes (by rw[h8];rfl);have uO:(x.kind==8)=true:=by simpa using h8
    refine ws ?_;refine aL ?_;refine aw ?_;refine D7 rfl rfl rfl rfl (by repeat' (first|exact trivial|exact rfl|refine And.intro ?_ ?_)) ⟨rfl,1,J y1,h1,fun d m' nx' hp=>?_⟩;rcases hp with⟨rfl,hp⟩|⟨rfl,hp⟩
    .refine ag ?_;exact ab (au rfl (fun h=>oH) fun h=>aZ ⟨m',nx',ap eH,y2▸hp⟩)
    .refine ag ?_;exact ab (au rfl (fun h=>aU (aQ (s3 (.inr hp)))) fun h=>oH)
   .have uO:(x.kind==8)=false:=by simpa using h8
    have hb:oL x=1:=by simp[oL,aG,h2,h8]
    refine ws ?_;refine aL ?_;(iterate 5 refine z fun _ _=>?_);refine SS ?_;exact ab (au rfl (fun h=>oH) fun h=>aZ ⟨m1,U1,ap eH,hb▸h1⟩)
 obtain⟨m2,fW,hg,h2⟩:=U;refine⟨_,hg,?_⟩;clear hg;refine dB (JX l x X (oL x+x.aE.length)) (av ?_) fun s U=>?_
 .refine aF ?_
  refine ab (dq (α:=Nat×Mem×Nat) (fun k=>⟨ay [(0,.fn (.yield l) [] []),(1,.pt (aT x)),(36,nH x.aE),(37,I x.aE.length),(38,I k.1)],k.2.1,k.2.2⟩)
   (fun k=>k.1<=x.aE.length/\X (oL x+k.1) k.2.1 k.2.2) (fun k=>x.aE.length - k.1) (0,m2,fW) (ap eH) ⟨by omega,h2⟩ ?_)
  rintro⟨k,m3,U'⟩ ⟨hk,oz⟩;refine SS ?_;refine ab ⟨_,rfl,fun h=>?_,fun h=>?_⟩
  .have ao:k<x.aE.length:=by simpa using h
   have hx:x.aE[k]? =some x.aE[k]:=by simp[ao]
   generalize x.aE[k]=w at hx;refine ws ?_;refine aF ?_;refine er ?_;refine aw ?_;refine IK rfl rfl (by repeat' (first|exact trivial|exact rfl|refine And.intro ?_ ?_)) ⟨rfl,oL x+k,J (xw k w hx),hI _ _ _ _ _ oz oG (fun i hi=>af oG (af oG rfl)),fun d m' nx' hp=>?_⟩;rcases hp with⟨rfl,hp⟩|⟨rfl,hp⟩
   .refine SS ?_;refine ab (au rfl (fun h=>oH) fun h=>b8 ?_);refine ag ?_;exact ab (aH (k+1,m',nx') (ap eH) ⟨by simp only;omega,hp⟩ (by simp only;omega))
   .refine SS ?_;exact ab (au rfl (fun h=>aU (b7 (aQ (s3 (.inr hp))))) fun h=>oH)
  .have aY:¬ k<x.aE.length:=by simpa using h
   have:k=x.aE.length:=by simp only at hk;omega
   subst this;exact⟨m3,U',.forget _ _ _ _ fun t=>lY (l:=[(0,.fn (.yield l) [] []),(1,.pt (aT x))]) ⟨rfl,rfl,trivial⟩ t,oz⟩
 obtain⟨m3,U',hg,h3⟩:=U;refine⟨_,hg,an ?_⟩;refine aL ?_;refine aL ?_;refine ab (au rfl (fun h=>?_) fun h=>?_)
 .have hc:fX x=true:=by
   revert h;unfold fX aG;simp[ib,or_assoc]
  refine fI ?_;refine aw ?_;refine IK rfl rfl (by repeat' (first|exact trivial|exact rfl|refine And.intro ?_ ?_)) ⟨rfl,_,J (xo hc),h3,fun d m' nx' hp=>?_⟩;refine ab (rX ?_);rcases hp with⟨rfl,hp⟩|⟨rfl,hp⟩
  .left;rw[qE,if_pos hc];exact hp
  .exact .inr hp
 .have hc:fX x=false:=by
   revert h;unfold fX aG;simp[ib,and_assoc]
  refine b8 (rX (.inl ?_));rw[qE,hc];exact h3
theorem IT{x:Argus.End}{b:Int}(hlen:x.aE.length<=1000):PCall prog 246 [.agg (aT x),I b] (B (yR x b)):=by
 have J:∀ a∈[D.agg (aT x),I b],Tr a:=.cons (.agg (ix x)) (.cons (.s _) .nil);have tz:=tz (x:=x);have hl:=G9 x;refine aX mixed Rr (by rw[acQ];rfl) J (Tr.s _) ?_;rw[acR,acS];refine av ?_;refine aw ?_;refine ab (aJ (bp [(0,aT x,69),(1,[I b],3)] eH (l:=[(2,.pt (aT x)),(3,.pt [I b])]) eH) (an ?_));refine SS ?_;refine Tx ?_;refine ab ?_;refine dB (fun s=>∃ n',Ghost prog s ⟨ay [(2,.pt (aT x)),(3,.pt [I b]),(5,.rp 2 0)],a9 [(2,.cells [I ((cz x).count b:Nat)] 3)],n'⟩) (an ?_) fun s X=>?_
 .refine SS ?_;refine cl tz ?_;refine ab (nL ?_);refine⟨rfl,trivial,202,[],[.pt (aT x)],(cz x).map (fun n=>[I n]),fun k m nx=>m 2=some (.cells [I (((cz x).take k).count b:Nat)] 3)/\3<=nx,rfl,Tw oG,?_,⟨rfl,by simp⟩,?_,?_⟩
  .intro y hy;obtain⟨n,_,rfl⟩:=List.mem_map.1 hy;exact⟨rfl,.cons (.s _) .nil⟩
  .rintro k m nx y hy ⟨aq,U⟩;simp only[List.getElem?_map,Option.map_eq_some_iff] at hy;obtain⟨n,hn,rfl⟩:=hy;have hk:k<(cz x).length:=(List.getElem?_eq_some_iff.1 hn).1
   have hc:((cz x).take (k+1)).count b=((cz x).take k).count b+(if n=b then 1 else 0):=by
    rw[List.take_add_one,hn,List.count_append];by_cases e:n=b
    .subst e;simp
    .simp[e]
   have C:((cz x).take k).count b<=k:=Nat.le_trans List.count_le_length oP;generalize ((cz x).take k).count b=c at aq hc C;refine fI ?_;refine SS ?_;refine ab (show AW _ _ _ _ _ _ from nL (an ?_));refine aw ?_;refine ab (au rfl (fun h=>?_) fun h=>?_)
   .have h:n=b:=by simpa using h
    refine fI ?_;refine ag ?_;refine cr (gy (d:=.s (.int _ _)) (cs':=[_]) rfl rfl aq rfl rfl) ak (dy V.h V.h (by first|(simp;done)|exact⟨rfl,Nat.le_of_ble_eq_true rfl⟩|(simp;omega)) rfl) ?_;refine ab ?_;refine⟨?_,by dsimp only;omega⟩;dsimp only;refine(up_same _ _ _).trans ?_;rw[hc,if_pos h];simp
   .have h:¬ n=b:=by simpa using h
    exact b8 ⟨by rw[hc,if_neg h];exact aq,U⟩
  .rintro m nx ⟨h1,h2⟩;refine⟨nx,aK eH ⟨?_,trivial⟩⟩;rw[h1,List.length_map,List.take_length]
 obtain⟨n',hg⟩:=X;refine⟨_,hg,an ?_⟩;refine aL ?_;refine ab (ax (d:=.s (.bool _)) rfl ?_);simp[yR,aM,ib]
theorem IU{f:FuncId}{cs:List D}{xs:List Int}(J:SeqA prog f [] cs (xs.map fun n=>[I n]))(ht:Tr (.fn (.func f) [] cs))(hlen:xs.length<=100000):OCall prog 258 [.z,.fn (.func f) [] cs] (xs.map I) xs.length 3:=by
 have aR:∀ a∈[D.z,.fn (.func f) [] cs],Tr a:=.cons .z (.cons ht .nil);refine uv mixed Rt (by rw[acT];rfl) aR (.map fun _=>.s _) ?_;rw[acU,acV];refine ws ?_;refine eQ (A9 (d:=.z) rfl rfl) ak rfl ?_;refine SS ?_;refine ab ?_;refine dB (fun s=>(xs=[]/\∃ n',Ghost prog s ⟨ay [(2,.rp 0 0)],a9 [(0,.cells [.z] 27)],n'⟩)\/∃ r n',0<r/\Ghost prog s ⟨ay [(2,.rp 0 0)],a9 [(0,.cells [.rs r 0 xs.length] 27),(r,.cells (xs.map I) 3)],n'⟩) (an ?_) fun s J=>?_
 .refine SS ?_;refine ab (nL ?_);refine⟨rfl,trivial,f,[],cs,xs.map (fun n=>[I n]),fun k m nx=>1<=nx/\((k=0/\m 0=some (.cells [.z] 27))\/(0<k/\∃ r,0<r/\r<nx/\m 0=some (.cells [.rs r 0 k] 27)/\m r=some (.cells ((xs.take k).map I) 3))),rfl,J,?_,⟨by simp,.inl ⟨rfl,rfl⟩⟩,?_,?_⟩
  .intro y hy;obtain⟨n,_,rfl⟩:=List.mem_map.1 hy;exact⟨rfl,.cons (.s _) .nil⟩
  .rintro k m nx y hy ⟨fC,C⟩;simp only[List.getElem?_map,Option.map_eq_some_iff] at hy;obtain⟨n,hn,rfl⟩:=hy;have hk:k<xs.length:=(List.getElem?_eq_some_iff.1 hn).1
   have U:(xs.take (k+1)).map I=(xs.take k).map I++[I n]:=by
    rw[List.take_add_one,hn];simp
   refine fI ?_;refine SS ?_;refine ab (show AW _ _ _ _ _ _ from nL (fI ?_));rcases C with⟨rfl,aq⟩|⟨zE,r,X,Ck,aq,bX⟩
   .refine aF ?_;refine Ty ?_;refine ab ?_;refine⟨by dsimp only;omega,.inr ⟨by omega,nx+1,by omega,by dsimp only;omega,?_,?_⟩⟩
    .dsimp only;exact(up_same _ _ _).trans rfl
    .dsimp only;exact(af oG (up_same _ _ _)).trans (by rw[U];rfl)
   .have pZ:((xs.take k).map I).length=k:=by simp;omega
    refine aF ?_;refine Tz ?_;refine ab ?_;refine⟨by dsimp only;omega,.inr ⟨by omega,nx+1,by omega,by dsimp only;omega,?_,?_⟩⟩
    .dsimp only;exact(up_same _ _ _).trans rfl
    .dsimp only;exact(af oG (up_same _ _ _)).trans (by rw[U];rfl)
  .rintro m nx ⟨fC,C⟩;rw[List.length_map] at C;rcases C with⟨h0,aq⟩|⟨zE,r,X,Ck,aq,bX⟩
   .exact .inl ⟨List.length_eq_zero_iff.1 h0,nx,aK eH ⟨aq,trivial⟩⟩
   .refine .inr ⟨r,nx,X,aK eH ⟨aq,?_,trivial⟩⟩;rw[bX,List.take_length]
 rcases J with⟨rfl,n',hg⟩|⟨r,n',hr,hg⟩
 .refine⟨_,hg,av ?_⟩;refine ag ?_;refine ab ⟨_,.nilrow _ _ _ 4 3 rfl,ax rfl ⟨n',?_,up_same _ _ _⟩⟩;rfl
 .refine⟨_,hg,an ?_⟩;refine ag ?_;refine ab (ax rfl ⟨r,rfl,?_⟩);simp[a9];omega
theorem IV{f:FuncId}{cs:List D}{xs:List Int}(J:SeqA prog f [] cs (xs.map fun n=>[I n]))(ht:Tr (.fn (.func f) [] cs))(hlen:xs.length<=100000):OCall prog 247 [.fn (.func f) [] cs] (xs.map I) xs.length 3:=by
 have C:∀ a∈[.fn (.func f) [] cs],Tr a:=.cons ht .nil;refine uv mixed Ru (by rw[acW];rfl) C (.map fun _=>.s _) ?_;rw[acX,acY];have IU:=IU J ht hlen;refine ws ?_;refine SS ?_;refine er ?_;refine SS ?_;refine y0 IU rfl (by repeat' (first|exact trivial|exact rfl|refine And.intro ?_ ?_)) ?_;refine SS ?_;exact ab (ax rfl ⟨0,rfl,rfl⟩)
end Go.Proofs.Tryz.K
namespace Go.Argus
def swapAt(l:List Int)(j:Nat):List Int:=(l.set (j+1) (l.getD j 0)).set j (l.getD (j+1) 0)
def nk(l:List Int):Nat->List Int
 |0=>l
 |j+1=>if l.getD (j+1) 0<l.getD j 0 then nk (swapAt l j) j else l
def lB(l:List Int):Nat->List Int
 |0=>l
 |k+1=>nk (lB l k) (k+1)
def eI(l:List Int):List Int:=lB l (l.length - 1)
@[simp] theorem aou (l : List Int) (j : Nat) : (swapAt l j).length = l.length := by simp [swapAt]
@[simp] theorem Y' : ∀ (j : Nat) (l : List Int), (nk l j).length = l.length
 |0,l=>rfl
 |j+1,l=>by simp only[nk];split<;>simp[Y' j]
@[simp] theorem Lx (l : List Int) : ∀ k, (lB l k).length = l.length
 |0=>rfl
 |k+1=>by simp[lB,Lx l k]
@[simp] theorem Ga (l : List Int) : (eI l).length = l.length := Lx l _
def ep(d:List Int):Nat->List Int
 |0=>[]
 |t+1=>ep d t++(if t≠0/\d.getD t 0=d.getD (t - 1) 0 then [] else [d.getD t 0])
def jE(d:List Int):List Int:=ep d d.length
theorem Nl{d:List Int}{x:Int}:∀ {t:Nat},t<=d.length->(x∈ep d t↔x∈d.take t)
 |0,_=>by simp[ep]
 |t+1,ht=>by
  have ih:=Nl (d:=d) (x:=x) (t:=t) oG;have hg:d.getD t 0=d[t]:=by simp[List.getD_eq_getElem?_getD,List.getElem?_eq_getElem (show t<d.length by omega)]
  rw[ep,List.mem_append,ih,List.take_succ_eq_append_getElem oG,List.mem_append];split
  .rename_i h;have h1:d[t - 1]? =some d[t - 1]:=List.getElem?_eq_getElem oG
   have C:d[t]∈d.take t:=by
    rw[<- hg,h.2];have:d.getD (t - 1) 0=d[t - 1]:=by simp[List.getD_eq_getElem?_getD,h1]
    rw[this];exact List.mem_of_getElem? (i:=t - 1) (by rw[List.getElem?_take,if_pos oG,h1])
   constructor
   .rintro(h|h)
    .exact .inl h
    .simp at h
   .rintro(h|h)
    .exact .inl h
    .simp at h;subst h;exact .inl C
  .rw[hg]
theorem G'{d:List Int}:∀ t,(ep d t).length<=t
 |0=>by simp[ep]
 |t+1=>by
  have:=G' (d:=d) t;rw[ep,List.length_append];split<;>simp<;>omega
theorem Pr{d:List Int}{t:Nat}(ht:t<d.length)(h0:t≠0)(h:d.getD t 0=d.getD (t - 1) 0):ep d (t+1)=ep d t:=by
 rw[ep,if_pos ⟨h0,h⟩,List.append_nil]
theorem Ps{d:List Int}{t:Nat}(h:d.getD t 0≠d.getD (t - 1) 0):ep d (t+1)=ep d t++[d.getD t 0]:=by
 rw[ep,if_neg fun C=>h C.2]
end Go.Argus
namespace Go.Proofs.Tryz.K
set_option maxRecDepth 10000
theorem ajl{a:Int}:PCall prog 227 [I a] (B false):=by
 refine aX mixed Rv (by rw[acZ];rfl) (by simp[Tr.s]) (Tr.s _) ?_;rw[ac0,ac1];refine ws ?_;refine SS ?_;refine er ?_;refine aF ?_;refine ab (ax (d:=.s (.bool _)) rfl ?_);simp[bne]
theorem ajm{a b:Int}:PCall prog 184 [I a,I b] (B (decide (a<b))):=by
 refine aX mixed Rw (by rw[ac2];rfl) (by simp[Tr.s]) (Tr.s _) ?_;rw[ac3,ac4];refine ws ?_;refine SS ?_;refine er ?_;refine SS ?_;refine cl ajl ?_;refine SS ?_;(iterate 3 refine z fun _ _=>?_);refine cK ?_;exact ab (ax (d:=.s (.bool _)) rfl rfl)
theorem ajn{m:Mem}{nx i n:Nat}{l:List Int}(hi:i<nx)(hm:m i=some (.cells (l.map I) 3))(hl:l.length=n)(hn:n<=12):
 ACalls prog 178 [.rs i 0 n,I 0,I n] m nx (fun r m' nx'=>r=.tup []/\nx'=nx/\m'=up m i (some (.cells ((eI l).map I) 3))):=by
 refine uu mixed Rx (by rw[ac5];rfl) ?_;rw[ac6,ac7]
 have zK:up m i (some (.cells (l.map I) 3))=m:=by
  funext j;simp only[up];split
  .rename_i e;rw[e,hm]
  .rfl
 refine av ?_;refine aw ?_;refine ab (cq (α:=Nat) (fun k=>⟨ay [(0,.rs i 0 n),(1,I 0),(2,I n),(6,I (k+1:Nat))],up m i (some (.cells ((lB l k).map I) 3)),nx⟩) (fun k=>k<=n - 1) (fun k=>n - k) 0 (gO eH zK.symm) oG ?_);intro k hk;refine aw ?_;refine ab ⟨_,rfl,fun h=>?_,fun h=>?_⟩
 .have ao:k+1<n:=by have:((k+1:Nat):Int)<n:=by simpa using h
                    omega
  refine av ?_;refine ag ?_;refine ab (abi XN (α:=List Int×Nat) (fun s=>⟨ay [(0,.rs i 0 n),(1,I 0),(2,I n),(6,I (k+1:Nat)),(7,I s.2)],up m i (some (.cells (s.1.map I) 3)),nx⟩) (fun s=>s.1.length=n/\s.2<=k+1/\nk s.1 s.2=lB l (k+1)) (fun s=>s.2) (lB l k,k+1) (ap eH) ⟨by simp[hl],by simp,rfl⟩ ?_);rintro⟨d,j⟩ ⟨hd,hj,C⟩;simp only at hd hj C;cases j with
  |zero=>
   have tq:decide ((0:Int)<((0:Nat):Int))=false:=rfl;refine ag ?_;refine TA ?_;refine SS ?_;(iterate 10 refine z fun _ _=>?_);refine SS ?_;refine bj (by simp[apartT]) ⟨_,rfl,fun h=>oH,fun h=>?_⟩;have C:d=lB l (k+1):=C;subst C;show AOps _ _ _ _ _ _ _ _ _;refine aw ?_;exact ab (aH (k+1) (ap eH) oG oG)
  |succ j=>
   have ha:d[j+1]? =some d[j+1]:=List.getElem?_eq_getElem oG;have hb:d[j]? =some d[j]:=List.getElem?_eq_getElem oG;have J:d.getD (j+1) 0=d[j+1]:=by simp[List.getD_eq_getElem?_getD,ha]
   have U:d.getD j 0=d[j]:=by simp[List.getD_eq_getElem?_getD,hb]
   have kd:=eV (f:=I) ha;have fh:=eV (f:=I) hb;generalize X:d[j+1]=a at ha J kd;generalize hB:d[j]=b at hb U fh;clear X hB;have tq:decide ((0:Int)<((j+1:Nat):Int))=true:=by simp
   have uY:((j+1:Nat):Int) - 1=(j:Int)/\ -9223372036854775808<=(j:Int)/\(j:Int)<=9223372036854775807:=by omega
   refine ag ?_;refine TA ?_;refine aw ?_;refine bm rfl rfl (jG rfl rfl (up_same _ _ _) V.h V.h) (fun hc=>⟨ak,⟨V.h,by omega⟩⟩) ?_;refine bm rfl rfl (eX rfl (up_same _ _ _) kd V.h) (fun hc=>⟨ak,(eY V.h V.h kd)⟩) ?_;refine aw ?_;refine bm rfl rfl (jG rfl rfl (up_same _ _ _) V.h V.h) (fun hc=>⟨ak,⟨V.h,by omega⟩⟩) ?_;refine bm rfl rfl (eX rfl (up_same _ _ _) fh V.h) (fun hc=>⟨ak,(eY V.h V.h fh)⟩) ?_;refine gc ajm ?_;refine SS ?_;refine bj (by simp[apartT]) ⟨_,rfl,fun h=>?_,fun h=>?_⟩
   .have h:a<b:=by simpa using h
    refine iZ XO ?_;refine aL ?_;refine aB (eX rfl (up_same _ _ _) fh V.h) ak (eY V.h V.h fh) ?_;refine bA ?_;refine bj (by simp[apartT]) ?_;refine aw ?_;refine ab (aH (swapAt d j,j) (gO eH ?_) ⟨by simp[hd],by simp only;omega,?_⟩ (by simp only;omega))
    .rw[jN,jN];simp only[swapAt,J,U,List.map_set]
    .rw[<- C];simp only[nk,J,U,if_pos h]
   .have h:¬ a<b:=by simpa using h
    have C:d=lB l (k+1):=by rw[<- C];simp only[nk,J,U,if_neg h]
    subst C;show AOps _ _ _ _ _ _ _ _ _;refine aw ?_;exact ab (aH (k+1) (ap eH) oG oG)
 .have aY:¬ k+1<n:=by have h:¬ ((k+1:Nat):Int)<n:=by simpa using h
                      omega
  refine rX ⟨rfl,rfl,?_⟩;have:k=n - 1:=by omega
  subst this;simp only[eI,hl]
theorem ajo{m:Mem}{nx i n:Nat}{l:List Int}{mK:Int}(hi:i<nx)(hm:m i=some (.cells (l.map I) 3))(hl:l.length=n)(hn:n<=12):
 ACalls prog 151 [.rs i 0 n,I 0,I n,I mK] m nx (fun r m' nx'=>r=.tup []/\nx'=nx/\m'=up m i (some (.cells ((eI l).map I) 3))):=by
 refine uu mixed Ry (by rw[ac8];rfl) ?_;rw[ac9,ac'];refine ws ?_;refine SS ?_;refine ab (av ?_);refine SS ?_;refine ab ⟨_,ap (l:=[(0,.rs i 0 n),(1,I 0),(2,I n)]) eH,nL (Ni (fun s=>s=⟨ay [(0,.rs i 0 n),(1,I 0),(2,I n)],m,nx⟩) (fun _=>0) rfl fun s C=>?_)⟩;subst C;refine nL (an ?_);refine aF ?_;refine ab (aD (an ?_));refine SS ?_;refine TB ?_;refine ab (bC rfl (fun h=>?_) fun h=>?_)
 .refine aD (an ?_);refine aw ?_;refine mu (ajn hi hm hl hn) rfl (by repeat' (first|exact trivial|exact rfl|refine And.intro ?_ ?_)) fun r m' nx' hp=>?_;obtain⟨rfl,rfl,rfl⟩:=hp;exact ab (dx (bu (aQ (bu (s3 ⟨rfl,rfl,rfl⟩)))))
 .have:¬ ((n:Int) - 0<=12):=by simpa using h
  omega
theorem IW{n:Nat}(hn:n<=12):∃ r,PCall prog 152 [.s (.int .u64 (IntKind.u64.wrap (n:Int)))] (I r):=by
 match n,hn with
 |0,_=>exact⟨0,j6 ly 100 rfl kr⟩
 |1,_=>exact⟨1,j6 ly 100 rfl kr⟩
 |2,_=>exact⟨2,j6 ly 100 rfl kr⟩
 |3,_=>exact⟨2,j6 ly 100 rfl kr⟩
 |4,_=>exact⟨3,j6 ly 100 rfl kr⟩
 |5,_=>exact⟨3,j6 ly 100 rfl kr⟩
 |6,_=>exact⟨3,j6 ly 100 rfl kr⟩
 |7,_=>exact⟨3,j6 ly 100 rfl kr⟩
 |8,_=>exact⟨4,j6 ly 100 rfl kr⟩
 |9,_=>exact⟨4,j6 ly 100 rfl kr⟩
 |10,_=>exact⟨4,j6 ly 100 rfl kr⟩
 |11,_=>exact⟨4,j6 ly 100 rfl kr⟩
 |12,_=>exact⟨4,j6 ly 100 rfl kr⟩
theorem tR{m:Mem}{nx i n:Nat}{l:List Int}(hi:i<nx)(hm:m i=some (.cells (l.map I) 3))(hl:l.length=n)(hn:n<=12):
 ACalls prog 89 [.rs i 0 n] m nx (fun r m' nx'=>r=.tup []/\nx'=nx/\m'=up m i (some (.cells ((eI l).map I) 3))):=by
 refine uu mixed TC (by rw[ajp];rfl) ?_;rw[ajq,ajr];obtain⟨mK,IW⟩:=IW hn;have aq:=hm;refine ws ?_;refine aw ?_;refine ab (fI ?_);refine aw ?_;refine aB (aa5 rfl V.h) ak V.h ?_;refine cl IW ?_;refine mu (ajo hi hm hl hn) rfl (by repeat' (first|exact trivial|exact rfl|refine And.intro ?_ ?_)) fun r m' nx' hp=>?_;obtain⟨rfl,rfl,rfl⟩:=hp;exact ab (rX ⟨rfl,rfl,rfl⟩)
end Go.Proofs.Tryz.K
namespace Go.Abs
section
variable{P:Program}{env:Env}{m:Mem}{nx:Nat}{x y:Operand}{t p:TypeId}{k:IntKind}{n n':Int}
theorem aam{j i l off:Nat}{e:TypeId}{r:Row}(hx:(opd env x).core=.rs j off l)(hy:(opd env y).core=.s (.int k (i:Int)))(hm:m j=some r)(he:elemP P t=e)(C:P.cellsOf e=1):
 Ef P (.indexAddr t x y) env m nx ⟨slT P t=true/\i<l,.rp j (off+i),[],[j],0⟩:=by
 have h:=Hr (P:=P) (env:=env) (m:=m) (nx:=nx) (t:=t) hx hy hm he C;have h1:off+((i:Int)).toNat*1=off+i:=by simp
 have h2:(slT P t=true/\(0:Int)<=(i:Int)/\(i:Int)<l)=(slT P t=true/\i<l):=by
  apply propext;constructor
  .rintro⟨a,_,b⟩;exact⟨a,by omega⟩
  .rintro⟨a,b⟩;exact⟨a,by omega,by omega⟩
 rw[h1,h2] at h;exact h
theorem Ly{i l a:Nat}{cs:List D}{e:TypeId}(hx:(opd env x).core=.rs i 0 l)(hm:m i=some (.cells cs e))(he:elemP P t=e)(C:P.cellsOf e=1)(ha:(opd env y).core=.s (.int .i64 (a:Int))):
 Ef P (.slice t x (some y) none none) env m nx ⟨slT P t=true/\a<=l,.rs i a (l - a),[],[i],0⟩:=by
 have h:=Mo (P:=P) (env:=env) (m:=m) (nx:=nx) (t:=t) (lo:=some y) (hi:=none) (a:=(a:Int)) (b:=(l:Int)) hx hm he C (by simp[bndD,ha,D.int?]) (by simp[bndD]);have h1:0+((a:Int)).toNat*1=a:=by simp
 have h3:((l:Int) - (a:Int)).toNat=l - a:=by omega
 have h2:((slT P t=true/\1=1)/\(0:Int)<=(a:Int)/\(a:Int)<=(l:Int)/\(l:Int)<=(l:Int))=(slT P t=true/\a<=l):=by
  apply propext;constructor
  .rintro⟨⟨a,_⟩,_,b,_⟩;exact⟨a,by omega⟩
  .rintro⟨a,b⟩;exact⟨⟨a,rfl⟩,by omega,by omega,by omega⟩
 rw[h1,h2,h3] at h;exact h
theorem XP{i l b:Nat}{cs:List D}{e:TypeId}(hx:(opd env x).core=.rs i 0 l)(hm:m i=some (.cells cs e))(he:elemP P t=e)(C:P.cellsOf e=1)(hb:(opd env y).core=.s (.int .i64 (b:Int))):
 Ef P (.slice t x none (some y) none) env m nx ⟨slT P t=true/\b<=l,.rs i 0 b,[],[i],0⟩:=by
 have h:=Mo (P:=P) (env:=env) (m:=m) (nx:=nx) (t:=t) (lo:=none) (hi:=some y) (a:=0) (b:=(b:Int)) hx hm he C (by simp[bndD]) (by simp[bndD,hb,D.int?]);have h1:0+((0:Int)).toNat*1=0:=by simp
 have h3:((b:Int) - 0).toNat=b:=by omega
 have h2:((slT P t=true/\1=1)/\(0:Int)<=0/\(0:Int)<=(b:Int)/\(b:Int)<=(l:Int))=(slT P t=true/\b<=l):=by
  apply propext;constructor
  .rintro⟨⟨a,_⟩,_,_,b⟩;exact⟨a,by omega⟩
  .rintro⟨a,b⟩;exact⟨⟨a,rfl⟩,by omega,by omega,by omega⟩
 rw[h1,h2,h3] at h;exact h
theorem aao{i off l:Nat}{cs z:List D}{e:TypeId}(hx:(opd env x).core=.rs i off l)(hm:m i=some (.cells cs e))(he:elemP P t=e)(C:zeroP P e=z):
 Ef P (.call { callee:=.builtin .clear,args:= #[x],argTypes:= #[t] }) env m nx ⟨slT P t=true/\off+l*P.cellsOf e<=cs.length/\e=e,.tup [],[(i,some (.cells (splice cs off (replD l z)) e))],[i],0⟩:=by
 refine uK («aS»:=[.rs i off l]) rfl (by simp[hx]) ?_;simp only[builtinD,hm,C,Array.getD_eq_getD_getElem?,List.getElem?_toArray,List.getElem?_cons_zero,Option.getD_some,he]
theorem WT{cs:List D}{n k:Nat}{x:D}(hn:cs.length=n)(hk:k<=n):splice cs k (replD (n - k) [x])=cs.take k++List.replicate (n - k) x:=by
 have hr:replD (n - k) [x]=List.replicate (n - k) x:=by
  unfold replD;generalize n - k=j
  induction j with
  |zero=>rfl
  |succ j ih=>simp[List.replicate_succ,ih]
 rw[hr];unfold splice;split
 .rename_i y e;have h1:n - k=1:=by have:=congrArg List.length e;simpa using this
  rw[h1] at e ⊢;simp at e;subst e;rw[List.set_eq_take_append_cons_drop,if_pos oG,List.drop_eq_nil_of_le oG];rfl
 .rw[List.length_replicate,List.drop_eq_nil_of_le oG,List.append_nil]
end
end Go.Abs
namespace Go.Proofs.Tryz.K
set_option maxRecDepth 10000
def s7(d:List Int)(n:Nat):List D:=(jE d).map I++List.replicate (n - (jE d).length) (I 0)
def Nm(d:List Int)(n:Nat)(m:Mem)(nx i:Nat)(r:D)(m':Mem)(nx':Nat):Prop:=nx'=nx/\r=.rs i 0 (jE d).length/\m'=up m i (some (.cells (s7 d n) 3))
def abj(d:List Int)(m:Mem)(nx i:Nat)(r:D)(m':Mem)(nx':Nat):Prop:=nx'=nx/\r=.rs i 0 (jE d).length/\∃ c,m'=up m i (some (.cells c 3))/\c.take (jE d).length=(jE d).map I
theorem BJ{m:Mem}{nx i n:Nat}{d:List Int}(hi:i<nx)(hm:m i=some (.cells (d.map I) 3))(hl:d.length=n)(hn:n<=100000):ACalls prog 90 [.rs i 0 n] m nx (Nm d n m nx i):=by
 refine uu mixed zk (by rw[ajs];rfl) ?_;rw[ajt,aju];have aq:=hm
 have zK:up m i (some (.cells (d.map I) 3))=m:=by
  funext j;simp only[up];split
  .rename_i e;rw[e,hm]
  .rfl
 have whole:ep d n=d->Nm d n m nx i (.rs i 0 n) m nx:=fun h=>by
  have h:jE d=d:=by unfold jE;rw[hl];exact h
  refine⟨rfl,by rw[h,hl],?_⟩;rw[s7,h,hl,Nat.sub_self,List.replicate_zero,List.append_nil,zK]
 refine ws ?_;refine SS ?_;refine ab (aD (an ?_));refine aw ?_;refine ab (bC rfl (fun h=>?_) fun h=>cx (aD (av ?_)))
 .have h:n<2:=by have h:(n:Int)<2:=by simpa using h
                 omega
  refine aD (an ?_);refine ag ?_;refine ab (dx (ax rfl (whole ?_)))
  match d,n,hl,h with
  |[],_,rfl,_=>rfl
  |[a],_,rfl,_=>rfl
 have h2:2<=n:=by have h:¬ (n:Int)<2:=by simpa using h
                  omega
 refine SS ?_;refine ab (bG (fun s=>Ghost prog s ⟨ay [(0,.rs i 0 n)],m,nx⟩/\ep d n=d) (cq (α:=Nat) (fun k=>⟨ay [(0,.rs i 0 n),(3,I k)],m,nx⟩) (fun k=>1<=k/\k<=n/\ep d k=d.take k) (fun k=>n - k) 1 (ap eH) ⟨by omega,by omega,?_⟩ ?_) ?_)
 .match d,hl with
  |a::t,_=>rfl
  |[],hl=>simp at hl;omega
 .rintro k ⟨B8,hk,J⟩;refine aF ?_;refine ab ⟨_,rfl,fun h=>?_,fun h=>?_⟩
  .have ao:k<n:=by have h:(k:Int)<n:=by simpa using h
                   omega
   obtain⟨j,rfl⟩:∃ j,k=j+1:=⟨k - 1,by omega⟩
   have ha:d[j+1]? =some d[j+1]:=List.getElem?_eq_getElem oG;have hb:d[j]? =some d[j]:=List.getElem?_eq_getElem oG;have ga:d.getD (j+1) 0=d[j+1]:=by simp[List.getD_eq_getElem?_getD,ha]
   have gb:d.getD j 0=d[j]:=by simp[List.getD_eq_getElem?_getD,hb]
   have kd:=eV (f:=I) ha;have fh:=eV (f:=I) hb;have uY:((j+1:Nat):Int) - 1=(j:Int)/\ -9223372036854775808<=(j:Int)/\(j:Int)<=9223372036854775807:=by omega
   refine dd Za ?_;refine bA ?_;refine aB (eX rfl aq fh V.h) ak (eY V.h V.h fh) ?_;refine SS ?_;refine bj (by simp[apartT]) (au rfl (fun h=>?_) fun h=>?_)
   .have tQ:d[j+1]=d[j]:=by simpa using h
    refine ws ?_;refine ag ?_;refine aB (Ly rfl aq V.h V.h rfl) ak ⟨V.h,by omega⟩ ?_;refine SS ?_;refine ab (aD (av ?_));refine SS ?_;have ajv:ep d (j+1+1)=ep d (j+1):=Pr oG oG (by rw[ga,show j+1 - 1=j by omega,gb];exact tQ);have zE:(ep d (j+1)).length=j+1:=by rw[J];simp;omega
    clear kd fh uY
    refine ab (bG (fun s=>∃ (c:List Int) (k:Nat),Ghost prog s ⟨ay [(0,.rs i 0 n),(3,I (k:Nat))],up m i (some (.cells (c.map I) 3)),nx⟩/\c.length=n/\k<=n/\c.take k=ep d n) (cq (α:=List Int×Nat×Nat) (fun s=>⟨ay [(0,.rs i 0 n),(3,I s.2.1),(4,.rs i (j+1) (n - (j+1))),(5,I (s.2.2+1:Nat))],up m i (some (.cells (s.1.map I) 3)),nx⟩)
     (fun s=>s.1.length=n/\j+1+(s.2.2+1)<=n/\s.2.1<=j+1+s.2.2/\s.1.take s.2.1=ep d (j+1+(s.2.2+1))/\∀ p,j+1+s.2.2<=p->s.1[p]? =d[p]?) (fun s=>n - s.2.2) (d,j+1,0) (gO eH zK.symm) ⟨hl,by simp only;omega,by simp only;omega,?_,fun _ _=>rfl⟩ ?_) ?_)
    .show d.take (j+1)=ep d (j+1+1);rw[ajv,J]
    .rintro⟨c,k,q⟩ ⟨C,X,w3,w4,U⟩;simp only at C X w3 w4 U;dsimp only;refine ag ?_;refine aB (Hs rfl (up_same _ _ _)) ak V.h ?_;refine SS ?_;refine ab ⟨_,rfl,fun h=>?_,fun h=>?_⟩
     .have ao:q+1<n - (j+1):=by have h:((q+1:Nat):Int)<((n - (j+1):Nat):Int):=by simpa using h
                                omega
      have xa:c[j+1+(q+1)]? =some c[j+1+(q+1)]:=List.getElem?_eq_getElem oG;have xb:c[j+1+q]? =some c[j+1+q]:=List.getElem?_eq_getElem oG;have ya:d.getD (j+1+(q+1)) 0=c[j+1+(q+1)]:=by rw[List.getD_eq_getElem?_getD, <- U _ oG,xa];rfl
      have yb:d.getD (j+1+q) 0=c[j+1+q]:=by rw[List.getD_eq_getElem?_getD, <- U _ oG,xb];rfl
      have kd:=eV (f:=I) xa;have fh:=eV (f:=I) xb;generalize hA:c[j+1+(q+1)]=a at xa ya kd;generalize hB:c[j+1+q]=b at xb yb fh;clear hA hB;have uY:((q+1:Nat):Int) - 1=(q:Int)/\ -9223372036854775808<=(q:Int)/\(q:Int)<=9223372036854775807:=by omega
      refine dd XQ ?_;refine bA ?_;refine aB (eX rfl (up_same _ _ _) fh V.h) ak (eY V.h V.h fh) ?_;refine SS ?_;refine bj (by simp[apartT]) (au rfl (fun h=>?_) fun h=>?_)
      .have aI:a≠b:=by simpa using h
       have hn:=Ps (d:=d) (t:=j+1+(q+1)) (by rw[ya,show j+1+(q+1) - 1=j+1+q by omega,yb];exact aI);refine ws ?_;refine bA ?_;refine ab (dJ ?_);refine aw ?_;refine ab ?_;refine aw ?_;refine ab (aH (c.set k a,k+1,q+1) (gO eH ?_) ⟨by simp[C],by simp only;omega,by simp only;omega,?_,fun p hp=>?_⟩ (by simp only;omega))
       .rw[jN,List.map_set]
       .show(c.set k a).take (k+1)=ep d (j+1+(q+1)+1);rw[hn,ya, <- w4,List.take_succ_eq_append_getElem oP];simp;exact List.take_set_of_le (Nat.le_refl k)
       .simp only at hp;show(c.set k a)[p]? =_;rw[List.getElem?_set_ne oG];exact U p oG
      .have ajw:a=b:=by simpa using h
       have hn:=Pr (d:=d) (t:=j+1+(q+1)) oG oG (by rw[ya,show j+1+(q+1) - 1=j+1+q by omega,yb];exact ajw);refine b8 ?_;refine aw ?_;refine ab (aH (c,k,q+1) (ap eH) ⟨C,by simp only;omega,by simp only;omega,?_,fun p hp=>U p (by simp only at hp;omega)⟩ (by simp only;omega));show c.take k=ep d (j+1+(q+1)+1);rw[hn,w4]
     .have aY:¬ q+1<n - (j+1):=by have h:¬ ((q+1:Nat):Int)<((n - (j+1):Nat):Int):=by simpa using h
                                  omega
      refine⟨c,k,.forget _ _ _ _ fun t=>lY (l:=[(0,.rs i 0 n),(3,I k)]) ⟨rfl,rfl,trivial⟩ t,C,by omega,?_⟩;rw[w4];exact congrArg (ep d) oG
    .rintro s ⟨c,k,hg,C,ck,X⟩;refine⟨_,hg,an ?_⟩;refine ag ?_;refine aB (Ly rfl (up_same _ _ _) V.h V.h rfl) ak ⟨V.h,by omega⟩ ?_;refine cr (aao rfl (up_same _ _ _) V.h V.h) ak ⟨V.h,(by rw[c3];first|(simp;done)|(simp;omega)|omega),rfl⟩ ?_;refine er ?_;refine ag ?_;refine aB (XP rfl (up_same _ _ _) V.h V.h rfl) ak ⟨V.h,by omega⟩ ?_;refine SS ?_;have cN:(jE d).length=k:=by unfold jE;rw[hl, <- X];simp;omega
     refine ab (aU (b7 (aQ (ax (d:=.rs i 0 k) rfl ⟨rfl,by rw[cN],(jN _ _ _ _).trans ?_⟩))));rw[WT (by rw[List.length_map,C]) ck, <- List.map_take,X,s7,cN];unfold jE;rw[hl]
   .have aI:d[j+1]≠d[j]:=by simpa using h
    refine b8 ?_;refine aw ?_;refine ab (aH (j+1+1) (ap eH) ⟨by omega,by omega,?_⟩ oG);rw[Ps (by rw[ga,show j+1 - 1=j by omega,gb];exact aI),J,ga];exact(List.take_succ_eq_append_getElem oG).symm
  .have aY:¬ k<n:=by have h:¬ (k:Int)<n:=by simpa using h
                     omega
   have:k=n:=by omega
   refine⟨.forget _ _ _ _ fun t=>lY (l:=[(0,.rs i 0 n)]) ⟨rfl,trivial⟩ t,?_⟩;rw[<- this,J,List.take_of_length_le oG]
 .rintro s ⟨hg,J⟩;refine⟨_,hg,an ?_⟩;refine ag ?_;exact ab (ax rfl (whole J))
theorem Cl{m:Mem}{nx i n:Nat}{d:List Int}(hi:i<nx)(hm:m i=some (.cells (d.map I) 3))(hl:d.length=n)(hn:n<=100000):ACalls prog 90 [.rs i 0 n] m nx (abj d m nx i):=by
 refine(BJ hi hm hl hn).mono ?_;rintro r m' nx' ⟨h1,h2,h3⟩;refine⟨h1,h2,s7 d n,h3,?_⟩;rw[s7,List.take_append_of_le_length oS,List.take_of_length_le oS]
end Go.Proofs.Tryz.K
namespace Go.Argus
def fq(x:End)(b:Int)(w:List Int):List Int:=if yR x b then fP w (dp x) else w
@[simp] theorem Lz (x : End) (b : Int) (w : List Int) : (fq x b w).length = w.length := by unfold fq; split <;> simp
def yE(l:List Int):List Int:=jE (eI l)
structure nU(x:aW):Prop where
 rd:∀ r∈bK x,0<=r/\r<1200
 sl:x.op=17\/x.op=18->0<=x.n/\x.n<80
 wr: -1000000<=bM x/\bM x<1200
 ar:x.op=10\/x.op=38->x.args.length<=1000
structure y4(x:End):Prop where
 rd:∀ r∈bJ x,0<=r/\r<1200
 wr: -1000000<=dp x/\dp x<1200
 wh:x.aE.length<=9
 a1:x.kind=5->x.ins.op=10\/x.ins.op=38->x.ins.args.length<=1000
 a2:x.kind=6\/x.kind=7->x.args.length<=1000
def g'(w:List Int)(ok:Bool)(rs:List Int):Bool:=rs.foldl (fun ok r=>ok&&gW w r.toNat) ok
def uG(w:List Int)(x:aW):List Int:=fP w (if x.op=18 then jC x.n else bM x)
def mv(s:List Int×Bool)(x:aW):List Int×Bool:=(uG s.1 x,g' s.1 s.2 (bK x)&&(x.op !=17||gW s.1 (jC x.n).toNat))
def jR(l:List aW)(w:List Int):List Int×Bool:=l.foldl mv (w,true)
def g9(b:bt)(w:List Int):List Int×Bool:=((jR b.ins w).1,g' (jR b.ins w).1 (jR b.ins w).2 (bJ b.fin))
theorem kE{α β:Type}{f:β->α->β}{z:β}{l:List α}{k:Nat}{x:α}(h:l[k]? =some x):(l.take (k+1)).foldl f z=f ((l.take k).foldl f z) x:=by
 rw[List.take_add_one,h,List.foldl_append];rfl
theorem GB(l:List aW)(w:List Int):(jR l w).1.length=w.length:=by
 unfold jR;generalize true=b
 induction l generalizing w b with
 |nil=>rfl
 |cons x l ih=>rw[List.foldl_cons];exact(ih _ _).trans (by simp[uG])
theorem FN(b:bt)(w:List Int):(g9 b w).1.length=w.length:=GB _ _
def bk(l:List (List Int)):List D:=l.flatMap fun w=>w.map bc
theorem Ha{sz:Nat}:∀ {l:List (List Int)} {i:Nat} {w:List Int},(∀ w∈l,w.length=sz)->l[i]? =some w->(bk l).drop (i*sz)=w.map bc++(bk (l.drop (i+1)))
 |[],i,w,_,h=>by simp at h
 |a::l,0,w,_,h=>by simp at h;subst h;simp[bk]
 |a::l,i+1,w,hs,h=>by
  have ha:(a.map bc).length=sz:=by simpa using hs a oS
  have h1:(i+1)*sz=(a.map bc).length+i*sz:=by rw[ha,Nat.add_mul];omega
  have ih:=Ha (l:=l) (i:=i) (w:=w) (fun w C=>hs w (by simp[C])) (by simpa using h);unfold bk at ih ⊢;rw[List.flatMap_cons,h1, <- List.drop_drop,List.drop_left,ih,List.drop_succ_cons]
theorem wK{sz:Nat}{l:List (List Int)}{i:Nat}{w:List Int}(h:∀ w∈l,w.length=sz)(hi:l[i]? =some w):((bk l).drop (i*sz)).take sz=w.map bc:=by
 rw[Ha h hi,List.take_append_of_le_length (by simp[h w (List.mem_of_getElem? hi)]),List.take_of_length_le (by simp[h w (List.mem_of_getElem? hi)])]
theorem Ag{sz:Nat}:∀ {l:List (List Int)},(∀ w∈l,w.length=sz)->(bk l).length=l.length*sz
 |[],_=>by simp[bk]
 |a::l,h=>by
  have:=Ag (l:=l) fun w C=>h w (by simp[C]);unfold bk at this ⊢;rw[List.flatMap_cons,List.length_append,this,List.length_map,h a oS,List.length_cons,Nat.add_mul];omega
theorem pD{sz:Nat}{l:List (List Int)}{i:Nat}{w:List Int}(h:∀ w∈l,w.length=sz)(hi:l[i]? =some w):i*sz+sz<=(bk l).length:=by
 rw[Ag h];have:=(List.getElem?_eq_some_iff.1 hi).1;rw[<- Nat.succ_mul];exact Nat.mul_le_mul_right _ this
theorem D9{sz:Nat}(J:2<=sz):∀ {l:List (List Int)} {i:Nat} {w v:List Int},(∀ w∈l,w.length=sz)->l[i]? =some v->w.length=sz->splice (bk l) (i*sz) (w.map bc)=bk (l.set i w):=by
 intro l i w v h hi C
 have key:splice (bk l) (i*sz) (w.map bc)=(bk l).take (i*sz)++w.map bc++(bk l).drop (i*sz+(w.map bc).length):=by
  unfold splice;split
  .rename_i x hx;have:(w.map bc).length=1:=by rw[hx];rfl
   simp at this;omega
  .rfl
 rw[key,List.length_map,C];clear key
 induction l generalizing i with
 |nil=>simp at hi
 |cons a l ih=>
  have ha:(a.map bc).length=sz:=by simpa using h a oS
  cases i with
  |zero=>
   simp only[Nat.zero_mul,List.take_zero,List.nil_append,Nat.zero_add,List.set_cons_zero];unfold bk;rw[List.flatMap_cons,List.flatMap_cons, <- ha,List.drop_left]
  |succ i=>
   have ih:=ih (i:=i) (fun w C=>h w (by simp[C])) (by simpa using hi);simp only[List.set_cons_succ];unfold bk at ih ⊢;rw[List.flatMap_cons,List.flatMap_cons, <- ih,show(i+1)*sz=(a.map bc).length+i*sz by rw[ha,Nat.add_mul];omega,List.take_length_add_append,Nat.add_assoc,List.drop_length_add_append];simp
theorem GC(n:Nat)(w:List Int):replD n (w.map bc)=bk (List.replicate n w):=by
 unfold replD bk
 induction n with
 |zero=>rfl
 |succ n ih=>rw[List.replicate_succ,List.replicate_succ,List.flatten_cons,List.flatMap_cons,ih]
theorem pj(n:Nat)(b:Bool):replD n [B b]=(List.replicate n b).map B:=by
 unfold replD
 induction n with
 |zero=>rfl
 |succ n ih=>rw[List.replicate_succ,List.replicate_succ,List.flatten_cons,List.map_cons,ih];rfl
theorem HB(l:List (List Int)):∀ a∈bk l,Tr a:=.flat fun w=>.map fun _=>.s _
theorem Hb{sz:Nat}{l:List (List Int)}{i:Nat}{w:List Int}(h:∀ w∈l,w.length=sz)(J:w.length=sz):∀ u∈l.set i w,u.length=sz:=fun u C=>by
 rcases List.mem_or_eq_of_mem_set C with h1|h1
 .exact h u h1
 .rw[h1];exact J
theorem GD:∀ {w v:List Int},w.length=v.length->zipV (w.map bc) (v.map bc)=some (w.map (Value.int .u64),v.map (Value.int .u64))
 |[],[],_=>rfl
 |a::w,b::v,h=>by
  have:=GD (w:=w) (v:=v) (by simpa using h);simp[zipV,sameK,this]
theorem GF:∀ {w v:List Int},w.length=v.length->veqs (w.map (Value.int .u64)) (v.map (Value.int .u64))=(w==v)
 |[],[],_=>rfl
 |a::w,b::v,h=>by
  have:=GF (w:=w) (v:=v) (by simpa using h);simp[veqs,veq1,this]
theorem LB(w:List Int):(w.map (Value.int .u64)).map kindV=List.replicate w.length 0:=by
 induction w with
 |nil=>rfl
 |cons a w ih=>simpa[kindV,List.replicate_succ] using ih
end Go.Argus
namespace Go.Proofs.Tryz.K
set_option maxRecDepth 10000
theorem IX{f:FuncId}{cs:List D}{xs:List Int}(J:SeqA prog f [] cs (xs.map fun n=>[I n]))(ht:Tr (.fn (.func f) [] cs))(hlen:xs.length<=12):OCall prog 201 [.fn (.func f) [] cs] ((eI xs).map I) xs.length 3:=by
 have C:∀ a∈[.fn (.func f) [] cs],Tr a:=.cons ht .nil;refine uv mixed Rz (by rw[ada];rfl) C (.map fun _=>.s _) ?_;rw[adb,ade];have IV:=IV J ht oG;refine ws ?_;refine SS ?_;refine er ?_;refine SS ?_;refine y0 IV rfl (by repeat' (first|exact trivial|exact rfl|refine And.intro ?_ ?_)) ?_;refine SS ?_;refine er ?_;refine SS ?_;refine mu (tR (i:=0) (l:=xs) oG rfl rfl hlen) rfl (by repeat' (first|exact trivial|exact rfl|refine And.intro ?_ ?_)) fun r m' nx' hp=>?_;obtain⟨rfl,rfl,rfl⟩:=hp;refine er ?_;refine ag ?_;exact ab (ax rfl ⟨0,rfl,rfl⟩)
theorem tA{f:FuncId}{cs:List D}{xs:List Int}(J:SeqA prog f [] cs (xs.map fun n=>[I n]))(ht:Tr (.fn (.func f) [] cs))(hlen:xs.length<=12):PCall prog 155 [.fn (.func f) [] cs] (az (yE xs)):=by
 have C:∀ a∈[.fn (.func f) [] cs],Tr a:=.cons ht .nil;refine aX mixed RA (by rw[adf];rfl) C (cI _) ?_;rw[adg,adh];have IX:=IX J ht hlen;refine ws ?_;refine SS ?_;refine ab (av ?_);refine SS ?_;refine y0 IX rfl (by repeat' (first|exact trivial|exact rfl|refine And.intro ?_ ?_)) ?_;refine mu (Cl (i:=0) (d:=eI xs) (n:=xs.length) oG rfl oS oG) rfl (by repeat' (first|exact trivial|exact rfl|refine And.intro ?_ ?_)) fun r m' nx' hp=>?_;obtain⟨rfl,rfl,c,rfl,hc⟩:=hp;refine SS ?_;refine ab (aJ (bp [(0,c,3)] ⟨up_same _ _ _,trivial⟩ (l:=[(2,az (yE xs))]) ⟨?_,trivial⟩) (ax rfl rfl));exact jO c3 (by rw[List.drop_zero,Nat.mul_one];exact hc)
def nextR(x:Argus.End):List Int:=yE (cz x)
theorem Pt{x:Argus.End}(hlen:x.aE.length<=9):PCall prog 155 [.fn (.func 202) [] [.pt (aT x)]] (az (nextR x)):=
 tA (Tw oG) (.fn oS (.cons (.pt (ix x)) .nil)) (by have:=G9 x;omega)
theorem uZ{x:Argus.End}{b:Int}{w:List Int}(J:w.length=20)(hlen:x.aE.length<=1000)(hn: -1000000<=dp x/\dp x<1280):PCall prog 199 [.agg (aT x),I b,cX w] (cX (fq x b w)):=by
 have C:∀ a∈[D.agg (aT x),I b,cX w],Tr a:=.cons (.agg (ix x)) (.cons (.s _) (.cons (iK _) .nil));refine aX mixed RB (by rw[adi];rfl) C (iK _) ?_;rw[adj,adk];have IT:=IT (x:=x) (b:=b) hlen;refine ws ?_;refine aw ?_;refine ab (aD (an ?_));refine ag ?_;refine cl IT ?_;refine ab (bC rfl (fun h=>?_) fun h=>cx (an ?_))
 .have zl:=zl (x:=x);have pL:=pL (w:=w) (n:=dp x) J hn;refine aD (dd XR ?_);refine ag ?_;refine cl zl ?_;refine cl pL ?_;refine SS ?_;refine bj (by simp[apartT]) (dx (iz (iV rfl rfl tv qO (gC oP) t231 oP) ?_));simp[fq,h]
 .refine ag ?_;refine ab (iz (iV rfl rfl tv qO (gC oP) t231 oP) ?_);simp[fq,h]
set_option maxHeartbeats 1000000 in
theorem mA{b:bt}{w:List Int}(hw:w.length=20)(hl:b.ins.length<=100000)(hi:∀ x∈b.ins,nU x)(hf:y4 b.fin)(pX:∀ x∈b.ins,(bK x).length<=100000)(iq:(bJ b.fin).length<=100000):PCall prog 198 [.agg (cR b),cX w] (.tup [cX (g9 b w).1,B (g9 b w).2]):=by
 have aR:∀ a∈[D.agg (cR b),cX w],Tr a:=.cons (.agg (LA b)) (.cons (iK _) .nil);refine aX mixed RC (by rw[adl];rfl) aR (.tup (.cons (iK _) (.cons (.s _) .nil))) ?_;rw[adm,adn];refine ws ?_;refine eQ (rW (cs:=cR _) rfl) ak (by first|rfl|exact sU eS eB|exact ig _|exact s6 cU) ?_;refine aw ?_;refine ab (av ?_);refine SS ?_;refine ab (aJ (aK (l:=[(2,.rp 0 0),(3,.rp 1 0),(4,.rp 2 0),(6,B true)]) (ml:=[(0,.cells (cR b) 72),(1,.cells (w.map bc) 231),(2,.cells (List.replicate 20 (bc 0)) 231)]) eH eH) (aD (av ?_)));refine aF ?_
 refine ab (bG (fun s=>∃ n',3<=n'/\Ghost prog s ⟨ay [(2,.rp 0 0),(3,.rp 1 0),(4,.rp 2 0),(6,B (jR b.ins w).2)],a9 [(0,.cells (cR b) 72),(1,.cells ((jR b.ins w).1.map bc) 231),(2,.cells (List.replicate 20 (bc 0)) 231)],n'⟩) (dq (α:=Nat×Nat)
  (fun k=>⟨ay [(2,.rp 0 0),(3,.rp 1 0),(4,.rp 2 0),(6,B (jR (b.ins.take k.1) w).2),(14,dt b.ins),(15,I b.ins.length),(16,I k.1)],a9 [(0,.cells (cR b) 72),(1,.cells ((jR (b.ins.take k.1) w).1.map bc) 231),(2,.cells (List.replicate 20 (bc 0)) 231)],k.2⟩)
  (fun k=>k.1<=b.ins.length/\3<=k.2) (fun k=>b.ins.length - k.1) (0,3) (aK eH eH) ⟨by simp,by simp⟩ ?_) ?_)
 .rintro⟨k,N⟩ ⟨hk,hN⟩;dsimp only at hk hN ⊢;refine SS ?_;refine ab ⟨_,rfl,fun h=>?_,fun h=>?_⟩
  .have ao:k<b.ins.length:=by simpa using h
   have hx:b.ins[k]? =some b.ins[k]:=by simp[ao]
   have gE:b.ins[k]∈b.ins:=List.getElem_mem ao;generalize b.ins[k]=x at hx gE;obtain⟨ird,Va,iwr,iar⟩:=hi x gE;have C:jR (b.ins.take (k+1)) w=mv (jR (b.ins.take k) w) x:=kE hx;have hlen:(jR (b.ins.take k) w).1.length=20:=by rw[GB,hw]
   generalize jR (b.ins.take k) w=u at C hlen;obtain⟨v,ok⟩:=u;dsimp only at hlen ⊢;refine ws ?_;refine aF ?_;refine ab (aD (av ?_));have sr:=sr (x:=x) iar;refine SS ?_;refine cl sr ?_;refine ag ?_;have aoL:=pX x gE
   refine ab (bG (fun s=>Ghost prog s ⟨ay [(2,.rp 0 0),(3,.rp 1 0),(4,.rp 2 0),(6,B (g' v ok (bK x))),(8,.rp N 0),(14,dt b.ins),(15,I b.ins.length),(16,I k)],up (a9 [(0,.cells (cR b) 72),(1,.cells (v.map bc) 231),(2,.cells (List.replicate 20 (bc 0)) 231)]) N (some (.cells (a8 x) 66)),N+1⟩) (dq (α:=Nat)
    (fun j=>⟨ay [(2,.rp 0 0),(3,.rp 1 0),(4,.rp 2 0),(6,B (g' v ok ((bK x).take j))),(8,.rp N 0),(14,dt b.ins),(15,I b.ins.length),(16,I k),(21,az (bK x)),(22,I (bK x).length),(23,I j)],up (a9 [(0,.cells (cR b) 72),(1,.cells (v.map bc) 231),(2,.cells (List.replicate 20 (bc 0)) 231)]) N (some (.cells (a8 x) 66)),N+1⟩)
    (fun j=>j<=(bK x).length) (fun j=>(bK x).length - j) 0 (gO eH (jN _ _ _ _)) oG ?_) ?_)
   .intro j hj;refine SS ?_;refine ab ⟨_,rfl,fun h=>?_,fun h=>?_⟩
    .have J:j<(bK x).length:=by simpa using h
     have hr:(bK x)[j]? =some (bK x)[j]:=by simp[J]
     have X:(bK x)[j]∈bK x:=List.getElem_mem J;generalize (bK x)[j]=r at hr X;have mE:=ird r X;obtain⟨U,rfl⟩:=Int.eq_ofNat_of_zero_le mE.1;have kp:=kp (w:=v) (m:=U) hlen oG;refine ws ?_;refine aw ?_;refine ab (dJ ?_);refine aF ?_;refine gc kp ?_;refine ag ?_;refine ab ?_;refine ag ?_;refine ab (aH (j+1) (ap ⟨rfl,rfl,rfl,?_,rfl,rfl,rfl,rfl,rfl,rfl,rfl,trivial⟩) oG oG)
     have e:g' v ok ((bK x).take (j+1))=(g' v ok ((bK x).take j)&&gW v U):=by
      unfold g';rw[kE hr,Int.toNat_natCast]
     rw[e];generalize g' v ok ((bK x).take j)=g;cases g<;>rfl
    .have aY:¬ j<(bK x).length:=by simpa using h
     refine ap ⟨rfl,rfl,rfl,?_,rfl,rfl,rfl,rfl,trivial⟩;show B _=B _;rw[List.take_of_length_le oG]
   .intro s hg;have C:jR (b.ins.take (k+1)) w=(uG v x,g' v ok (bK x)&&(x.op !=17||gW v (jC x.n).toNat)):=C;generalize g' v ok (bK x)=JY at hg C;have BI:=BI (w:=v) (x:=x) hlen (fun h=>Va (.inr h)) (fun _=>by omega);have fin:∀ (d:Bool) env,d=(JY&&(x.op !=17||gW v (jC x.n).toNat))->iA [(2,.rp 0 0),(3,.rp 1 0),(4,.rp 2 0),(6,B d),(8,.rp N 0),(14,dt b.ins),(15,I b.ins.length),(16,I k)] env->True:=fun _ _ _ _=>trivial;refine⟨_,hg,?_⟩;cases JY with
    |false=>
     have tw:false=true->PCall prog 244 [I x.n] (I (jC x.n)):=fun h=>by cases h
     have kp:false=true->PCall prog 200 [cX v,I (jC x.n)] (B true):=fun h=>by cases h
     refine dd F1 ?_;refine aL ?_;refine Hy rfl rfl rfl (fun hc=>⟨ak,tw hc⟩) ?_;refine Hy rfl rfl rfl (fun hc=>⟨ak,kp hc⟩) ?_;refine aw ?_;refine bj (by simp[apartT]) (dJ ?_);refine ag ?_;refine cl BI ?_;refine SS ?_;refine ab ?_;refine ag ?_;refine ab (aH (k+1,N+1) (aK ⟨rfl,rfl,rfl,?_,rfl,rfl,rfl,trivial⟩ ⟨af oG (af oG rfl),?_,af oG (af oG rfl),trivial⟩) ⟨by dsimp only;omega,by dsimp only;omega⟩ oM)
     .dsimp only;rw[C];rfl
     .dsimp only;rw[C];exact up_same _ _ _
    |true=>
     by_cases fY:x.op=17
     .have lG:(x.op !=17)=false:=by simp[fY]
      have aoR:=Va (.inl fY);have tw:=tw (n:=x.n) oG;obtain⟨sn,om⟩:=Int.eq_ofNat_of_zero_le (show 0<=jC x.n by unfold jC;omega);have kp:=kp (w:=v) (m:=sn) hlen (by unfold jC at om;omega);rw[<- om] at kp;refine dd F1 ?_;refine aF ?_;refine TD ?_;refine aF ?_;refine gc tw ?_;refine gc kp ?_;refine aw ?_;refine bj (by simp[apartT]) (dJ ?_);refine ag ?_;refine cl BI ?_;refine SS ?_;refine ab ?_;refine ag ?_;refine ab (aH (k+1,N+1) (aK ⟨rfl,rfl,rfl,?_,rfl,rfl,rfl,trivial⟩ ⟨af oG (af oG rfl),?_,af oG (af oG rfl),trivial⟩) ⟨by dsimp only;omega,by dsimp only;omega⟩ oM)
      .dsimp only;rw[C,lG,om];rfl
      .dsimp only;rw[C];exact up_same _ _ _
     .have lG:(x.op !=17)=true:=by simp[fY]
      have tw:false=true->PCall prog 244 [I x.n] (I (jC x.n)):=fun h=>by cases h
      have kp:false=true->PCall prog 200 [cX v,I (jC x.n)] (B true):=fun h=>by cases h
      refine dd F1 ?_;refine aF ?_;refine TD ?_;refine SS ?_;(iterate 5 refine z fun _ _=>?_);refine aw ?_;refine bj (by simp[apartT]) (dJ ?_);refine ag ?_;refine cl BI ?_;refine SS ?_;refine ab ?_;refine ag ?_;refine ab (aH (k+1,N+1) (aK ⟨rfl,rfl,rfl,?_,rfl,rfl,rfl,trivial⟩ ⟨af oG (af oG rfl),?_,af oG (af oG rfl),trivial⟩) ⟨by dsimp only;omega,by dsimp only;omega⟩ oM)
      .dsimp only;rw[C,lG];rfl
      .dsimp only;rw[C];exact up_same _ _ _
  .have aY:¬ k<b.ins.length:=by simpa using h
   have tN:b.ins.take k=b.ins:=List.take_of_length_le oG;refine⟨N,hN,?_⟩;rw[tN];exact ap eH
 .rintro s ⟨n',cY,hg⟩;have hlen:(jR b.ins w).1.length=20:=by rw[GB,hw]
  have Cm:g9 b w=((jR b.ins w).1,g' (jR b.ins w).1 (jR b.ins w).2 (bJ b.fin)):=rfl;rw[Cm];generalize jR b.ins w=u at hg hlen ⊢;obtain⟨v,ok⟩:=u;dsimp only at hlen hg ⊢;have wX:=wX (x:=b.fin) hf.a1 hf.a2;refine⟨_,hg,aD (av ?_)⟩;refine ag ?_;refine cl wX ?_;refine ag ?_
  refine ab (bG (fun s=>Ghost prog s ⟨ay [(3,.rp 1 0),(4,.rp 2 0),(6,B (g' v ok (bJ b.fin)))],a9 [(1,.cells (v.map bc) 231),(2,.cells (List.replicate 20 (bc 0)) 231)],n'⟩) (dq (α:=Nat)
   (fun j=>⟨ay [(3,.rp 1 0),(4,.rp 2 0),(6,B (g' v ok ((bJ b.fin).take j))),(53,az (bJ b.fin)),(54,I (bJ b.fin).length),(55,I j)],a9 [(1,.cells (v.map bc) 231),(2,.cells (List.replicate 20 (bc 0)) 231)],n'⟩)
   (fun j=>j<=(bJ b.fin).length) (fun j=>(bJ b.fin).length - j) 0 (aK eH eH) oG ?_) ?_)
  .intro j hj;refine SS ?_;refine ab ⟨_,rfl,fun h=>?_,fun h=>?_⟩
   .have J:j<(bJ b.fin).length:=by simpa using h
    have hr:(bJ b.fin)[j]? =some (bJ b.fin)[j]:=by simp[J]
    have X:(bJ b.fin)[j]∈bJ b.fin:=List.getElem_mem J;generalize (bJ b.fin)[j]=r at hr X;have mE:=hf.rd r X;obtain⟨U,rfl⟩:=Int.eq_ofNat_of_zero_le mE.1;have kp:=kp (w:=v) (m:=U) hlen oG;refine ws ?_;refine aw ?_;refine ab (dJ ?_);refine ag ?_;refine bm rfl rfl (cP rfl rfl V.h V.h (gC (by first|rfl|exact Nat.le_of_ble_eq_true rfl|(simp;done)|(simp;omega)|omega))) (fun hc=>⟨ak,(cQ V.h V.h (by first|rfl|exact Nat.le_of_ble_eq_true rfl|(simp;done)|(simp;omega)|omega))⟩) ?_;refine SS ?_;refine gc kp ?_;refine ag ?_;refine ab ?_;refine ag ?_;refine ab (aH (j+1) (ap ⟨rfl,rfl,?_,rfl,rfl,rfl,trivial⟩) oG oG)
    have e:g' v ok ((bJ b.fin).take (j+1))=(g' v ok ((bJ b.fin).take j)&&gW v U):=by
     unfold g';rw[kE hr,Int.toNat_natCast]
    rw[e];generalize g' v ok ((bJ b.fin).take j)=g;cases g<;>rfl
   .have aY:¬ j<(bJ b.fin).length:=by simpa using h
    refine ap ⟨rfl,rfl,?_,trivial⟩;show B _=B _;rw[List.take_of_length_le oG]
  .intro s hg;refine⟨_,hg,an ?_⟩;refine aF ?_;exact ab (WI (iV rfl rfl tv qO (gC oP) t231 oP) rfl rfl)
end Go.Proofs.Tryz.K
end
namespace Go.Argus
open Go.Abs
theorem Xu{l:List Int}{j:Nat}(hj:j+1<l.length){x:Int}:x∈swapAt l j↔x∈l:=by
 have ha:l.getD j 0=l[j]:=by simp[List.getD_eq_getElem?_getD,List.getElem?_eq_getElem (show j<l.length by omega)]
 have hb:l.getD (j+1) 0=l[j+1]:=by simp[List.getD_eq_getElem?_getD,List.getElem?_eq_getElem hj]
 unfold swapAt;rw[ha,hb];exact(List.set_set_perm (show j+1<l.length from hj) (show j<l.length by omega)).mem_iff
theorem MN{x:Int}:∀ (j:Nat) {l:List Int},j<l.length->(x∈nk l j↔x∈l)
 |0,l,_=>Iff.rfl
 |j+1,l,hj=>by
  simp only[nk];split
  .exact(MN j oP).trans (Xu hj)
  .exact Iff.rfl
theorem L5{l:List Int}{x:Int}:∀ k,k<l.length->(x∈lB l k↔x∈l)
 |0,_=>Iff.rfl
 |k+1,h=>by
  simp only[lB];exact(MN (k+1) (by simpa using h)).trans (L5 k oG)
theorem YB{l:List Int}{x:Int}:x∈eI l↔x∈l:=by
 unfold eI;cases l with
 |nil=>simp[lB]
 |cons a l=>exact L5 _ oS
theorem Ab{l:List Int}{x:Int}:x∈yE l↔x∈l:=by
 unfold yE jE;rw[Nl (Nat.le_refl _),List.take_length];exact YB
theorem wrap_u64{n:Nat}(h:n<2 ^ 64):IntKind.u64.wrap (n:Int)=n:=by
 unfold IntKind.wrap;simp[IntKind.signed,IntKind.bits];omega
theorem aap{a b:Int}(ha:0<=a/\a<18446744073709551616):0<=n9 a b/\n9 a b<=a:=by
 unfold n9 intBitsV;simp only;rw[wrap_u64 (n:=(BitVec.ofInt IntKind.u64.bits a&&& BitVec.ofInt IntKind.u64.bits b).toNat) (BitVec.isLt (w:=64) _)];obtain⟨n,rfl⟩:=Int.eq_ofNat_of_zero_le ha.1
 have h1:(BitVec.ofInt IntKind.u64.bits (n:Int)).toNat=n:=by
  rw[BitVec.toNat_ofInt];show((n:Int) % ((2 ^ 64:Nat):Int)).toNat=n;omega
 have h2:(BitVec.ofInt IntKind.u64.bits (n:Int)&&& BitVec.ofInt IntKind.u64.bits b).toNat<=n:=by
  rw[BitVec.toNat_and,h1];exact Nat.and_le_left
 omega
end Go.Argus
section
open Go Go.Abs Go.Proofs Go.Argus
namespace Go.Abs
section
variable{P:Program}{env:Env}{m:Mem}{nx:Nat}{x y:Operand}{t p:TypeId}{k:IntKind}{n n':Int}
theorem rM{j i l sz:Nat}{e:TypeId}{r:Row}(hx:(opd env x).core=.rs j 0 l)(hy:(opd env y).core=.s (.int k (i:Int)))(hm:m j=some r)(he:elemP P t=e)(C:P.cellsOf e=sz):
 Ef P (.indexAddr t x y) env m nx ⟨slT P t=true/\i<l,.rp j (i*sz),[],[j],0⟩:=by
 have h:=Hr (P:=P) (env:=env) (m:=m) (nx:=nx) (t:=t) hx hy hm he C;have h1:0+((i:Int)).toNat*sz=i*sz:=by simp
 have h2:(slT P t=true/\(0:Int)<=(i:Int)/\(i:Int)<l)=(slT P t=true/\i<l):=by
  apply propext;constructor
  .rintro⟨a,_,b⟩;exact⟨a,by omega⟩
  .rintro⟨a,b⟩;exact⟨a,by omega,by omega⟩
 rw[h1,h2] at h;exact h
theorem Zb{ps:Array (Nat×Operand)}{e:TypeId}{l:Nat}{z:List D}(C:P.underlying t=some (.array l e))(hp:ps.toList=[])(J:zeroP P t=z):Ef P (.build t ps) env m nx ⟨tyOk P t=true/\tyOk P e=true,.agg z,[],[],0⟩:=by
 refine⟨?_,rfl,rfl⟩;simp only[aop,C,hp,J,List.map_nil,fillD,Option.map_some]
theorem RD{xs ys:List D}{us vs:List Value}{C:List Nat}(hx:(opd env x).core=.agg xs)(hy:(opd env y).core=.agg ys)(hf:flatT P t=some C)(J:zipV xs ys=some (us,vs)){c:Bool}(hc:(!veqs us vs)=c):
 Ef P (.binOp .neq t x y p) env m nx ⟨us.map kindV=C/\P.eqGuardType P.depth t=false,.s (.bool c),[],[],0⟩:=by
 refine⟨?_,rfl,rfl⟩
 have hn:nilD P m .neq t (.agg xs) y=none:=by
  unfold nilD;split<;>first|rfl|(rename_i h;cases h)
 simp only[aop,rho,hx,hy,hn,binD,aggEqD,hf,J,hc,Option.map_some]
end
def np(cs:List D):Prop:=∀ d∈cs,∃ v,d=.s v
theorem np.map{α:Type}{f:α->Value}{l:List α}:np (l.map fun x=>.s (f x)):=fun d hd=>by
 obtain⟨x,_,rfl⟩:=List.mem_map.1 hd;exact⟨_,rfl⟩
theorem Ay(l:List (List Int)):np (Go.Argus.bk l):=fun d hd=>by
 obtain⟨w,_,C⟩:=List.mem_flatMap.1 hd;obtain⟨x,_,rfl⟩:=List.mem_map.1 C;exact⟨_,rfl⟩
theorem ado{i sz:Nat}{C cs:List D}(h:np cs):cs.map (sub (fz0 i C sz))=cs:=by
 induction cs with
 |nil=>rfl
 |cons d cs ih=>
  obtain⟨v,rfl⟩:=h d oS;rw[List.map_cons,ih fun d hd=>h d (by simp[hd])];rfl
theorem DF{m:Mem}{i j sz:Nat}{J cs:List D}{e:TypeId}(C:j≠i)(hm:m j=some (.cells cs e))(h:np cs):(if j=i then none else(m j).map (Row.sub (fz0 i J sz)))=some (.cells cs e):=by
 rw[if_neg C,hm];show some (Row.cells (cs.map _) e)=_;rw[ado h]
theorem HC{i sz n:Nat}{C es:List D}:sub (fz0 i C sz) (.sl es n)=.sl es n:=rfl
theorem qe{i j sz off n:Nat}{C:List D}(h:j≠i):sub (fz0 i C sz) (.rs j off n)=.rs j off n:=by
 show(if j=i then _ else D.rs j off n)=_;rw[if_neg h]
theorem gv{i sz n:Nat}{C:List D}(h:C.length=n*sz):sub (fz0 i C sz) (.rs i 0 n)=.sl C n:=by
 show(if i=i then D.sl ((C.drop 0).take (n*sz)) n else _)=_;rw[if_pos rfl,List.drop_zero,List.take_of_length_le oG]
end Go.Abs
namespace Go.Proofs.Tryz.K
set_option maxRecDepth 10000
theorem adp:flatT prog 231=some (List.replicate 20 0):=kr
theorem adq:prog.eqGuardType prog.depth 231=false:=kr
theorem adr:flatT prog 100=some (List.replicate 19 0):=kr
theorem ads:prog.eqGuardType prog.depth 100=false:=kr
theorem adt:zeroP prog 231=(List.replicate 20 (0:Int)).map bc:=TE
theorem ajx:prog.underlying 231=some (.array 20 98):=kr
section
variable{env:Env}{m:Mem}{nx:Nat}{x y:Operand}{p:TypeId}
theorem adu{w v:List Int}(hx:(opd env x).core=cX w)(hy:(opd env y).core=cX v)(h:w.length=v.length):Ef prog (.binOp .neq 231 x y p) env m nx ⟨(w.map (Value.int .u64)).map kindV=List.replicate 20 0/\prog.eqGuardType prog.depth 231=false,B (w !=v),[],[],0⟩:=
 RD hx hy adp (GD h) (by rw[GF h];rfl)
theorem adv{w:List Int}(h:w.length=20):(w.map (Value.int .u64)).map kindV=List.replicate 20 0/\prog.eqGuardType prog.depth 231=false:=⟨by rw[LB,h],adq⟩
theorem RE{w v:List Int}(hx:(opd env x).core=cX w)(hy:(opd env y).core=cX v)(h:w.length=v.length):Ef prog (.binOp .neq 100 x y p) env m nx ⟨(w.map (Value.int .u64)).map kindV=List.replicate 19 0/\prog.eqGuardType prog.depth 100=false,B (w !=v),[],[],0⟩:=
 RD hx hy adr (GD h) (by rw[GF h];rfl)
theorem RF{w:List Int}(h:w.length=19):(w.map (Value.int .u64)).map kindV=List.replicate 19 0/\prog.eqGuardType prog.depth 100=false:=⟨by rw[LB,h],ads⟩
end
end Go.Proofs.Tryz.K
namespace Go.Argus
open Go.Proofs.Tryz.K (nextR)
structure CS where
 ws:List (List Int)
 re:List Bool
 ch:Bool
def cg(x:End)(w:List Int)(s:CS)(n:Int):CS:=
 if s.re.getD n.toNat false=false\/fQ (s.ws.getD n.toNat []) (fq x n w)≠s.ws.getD n.toNat [] then⟨s.ws.set n.toNat (fQ (s.ws.getD n.toNat []) (fq x n w)),s.re.set n.toNat true,true⟩ else s
def c7(bs:List bt)(s:CS)(k:Nat):CS:=match bs[k]? with
 |none=>s
 |some x=>if s.re.getD k false=true then(nextR x.fin).foldl (cg x.fin (g9 x (s.ws.getD k [])).1) s else s
def iX(bs:List bt)(s:CS):CS:=(List.range bs.length).foldl (c7 bs) ⟨s.ws,s.re,false⟩
def ll(bs:List bt):Nat->CS->CS
 |0,s=>s
 |k+1,s=>if(iX bs s).ch=true then ll bs k (iX bs s) else iX bs s
def jS:Int:=18446744073709551615
def gD:Nat->List Int
 |0=>List.replicate 20 0
 |k+1=>fP (gD k) k
@[simp] theorem LC : ∀ k, (gD k).length = 20
 |0=>rfl
 |k+1=>by simp[gD,LC k]
def iY(n args:Nat):CS:=⟨(List.replicate n (List.replicate 20 jS)).set 0 (gD args),(List.replicate n false).set 0 true,true⟩
def c8(u:Int):Prop:=0<=u/\u<18446744073709551616
structure eK(n:Nat)(s:CS):Prop where
 lw:s.ws.length=n
 lr:s.re.length=n
 iU:∀ w∈s.ws,w.length=20
 rg:∀ w∈s.ws,∀ u∈w,c8 u
def lH(w:List Int):Nat:=(w.map Int.toNat).sum
def oO(s:CS):Nat:=(s.ws.map lH).sum+s.re.count false
def mL(s:CS):Nat:=oO s+if s.ch=true then 1 else 0
theorem Hc{l:List Nat}{k x y:Nat}(h:l[k]? =some x):(l.set k y).sum+x=l.sum+y:=by
 induction l generalizing k with
 |nil=>simp at h
 |cons a l ih=>cases k with
  |zero=>simp at h;subst h;simp;omega
  |succ k=>have:=ih (k:=k) (by simpa using h);simp;omega
theorem Zc{l:List Int}{k:Nat}{x y:Int}(h:l[k]? =some x):lH (l.set k y)+x.toNat=lH l+y.toNat:=by
 unfold lH;rw[List.map_set];exact Hc (by simp[h])
theorem LD{a b:Int}(h:c8 a):c8 (n9 a b)/\n9 a b<=a:=by
 have:=aap (b:=b) h;exact⟨⟨this.1,by unfold c8 at h;omega⟩,this.2⟩
theorem Zd{α:Type}{l:List α}{k:Nat}{x:α}(h:l[k]? =some x):l.set k x=l:=by
 apply List.ext_getElem?;intro i;rw[List.getElem?_set];split
 .rename_i e;subst e;rw[if_pos (List.getElem?_eq_some_iff.1 h).1,h]
 .rfl
theorem Mz{w v:List Int}(U:∀ u∈w,c8 u):∀ k,k<=w.length->(∀ u∈dY w v k,c8 u)/\lH (dY w v k)<=lH w/\(dY w v k≠w->lH (dY w v k)<lH w)
 |0,_=>⟨U,Nat.le_refl _,fun h=>absurd rfl h⟩
 |k+1,hk=>by
  obtain⟨h1,h2,h3⟩:=Mz (v:=v) U k oG;have hl:k<(dY w v k).length:=by simp;omega
  have hx:(dY w v k)[k]? =some (dY w v k)[k]:=List.getElem?_eq_getElem hl;have hg:(dY w v k).getD k 0=(dY w v k)[k]:=by simp[List.getD_eq_getElem?_getD,hx]
  have hm:=h1 _ (List.getElem_mem hl);simp only[dY,hg];generalize (dY w v k)[k]=a at hx hm;obtain⟨C,r2⟩:=LD (b:=v.getD k 0) hm;generalize n9 a (v.getD k 0)=y at C r2;have hs:=Zc (y:=y) hx;unfold c8 at C hm;refine⟨fun u X=>?_,by omega,fun J=>?_⟩
  .rcases List.mem_or_eq_of_mem_set X with h|h
   .exact h1 u h
   .subst h;exact C
  .by_cases e:y=a
   .subst e;have:(dY w v k).set k y=dY w v k:=Zd hx;rw[this] at J ⊢;exact h3 J
   .omega
theorem Ze{l:List (List Int)}{k:Nat}{w v:List Int}(h:l[k]? =some w):((l.set k v).map lH).sum+lH w=(l.map lH).sum+lH v:=by
 rw[List.map_set];exact Hc (by simp[h])
theorem count_set{l:List Bool}{k:Nat}{b:Bool}(h:l[k]? =some b):(l.set k true).count false+(if b=true then 0 else 1)=l.count false:=by
 induction l generalizing k with
 |nil=>simp at h
 |cons a l ih=>cases k with
  |zero=>simp at h;subst h;cases a<;>simp
  |succ k=>have:=ih (k:=k) (by simpa using h);simp only[List.set_cons_succ,List.count_cons];omega
theorem CV{x:End}{w:List Int}{s:CS}{n:Nat}{t:Int}(hs:eK n s)(ht:0<=t/\t<n):eK n (cg x w s t)/\mL (cg x w s t)<=mL s:=by
 obtain⟨lw,lr,iU,rg⟩:=hs;obtain⟨k,rfl⟩:=Int.eq_ofNat_of_zero_le ht.1;have hk:k<n:=by omega
 have hx:s.ws[k]? =some s.ws[k]:=List.getElem?_eq_getElem oG;have hb:s.re[k]? =some s.re[k]:=List.getElem?_eq_getElem oG;have X:s.ws.getD k []=s.ws[k]:=by simp[List.getD_eq_getElem?_getD,hx]
 have U:s.re.getD k false=s.re[k]:=by simp[List.getD_eq_getElem?_getD,hb]
 have hm:s.ws[k]∈s.ws:=List.getElem_mem _;unfold cg;simp only[Int.toNat_natCast,X,U];generalize s.ws[k]=v at hx hm;generalize s.re[k]=b at hb;have v20:=iU v hm;obtain⟨C,J,m3⟩:=Mz (v:=fq x k w) (rg v hm) 20 oG;have hl:=LF v (fq x k w)
 change (∀ u∈fQ v (fq x k w),c8 u) at C
 change lH (fQ v (fq x k w))<=lH v at J
 change fQ v (fq x k w)≠v->lH (fQ v (fq x k w))<lH v at m3
 generalize fQ v (fq x k w)=u at C J m3 hl;split
 .rename_i hc;refine⟨⟨by simp[lw],by simp[lr],Hb iU oG,fun y hy=>?_⟩,?_⟩
  .rcases List.mem_or_eq_of_mem_set hy with h|h
   .exact rg y h
   .subst h;exact C
  .have h1:=Ze (v:=u) hx;have h2:=count_set hb;unfold mL oO;simp only[if_true];rcases hc with hc|hc
   .subst hc;simp only[Bool.false_eq_true,if_false] at h2;omega
   .have:=m3 hc;omega
 .exact⟨⟨lw,lr,iU,rg⟩,Nat.le_refl _⟩
theorem ym{α β:Type}{f:β->α->β}{J:β->Prop}{φ:β->Nat}{l:List α}(h:∀ x∈l,∀ s,J s->J (f s x)/\φ (f s x)<=φ s){s:β}(C:J s):J (l.foldl f s)/\φ (l.foldl f s)<=φ s:=by
 induction l generalizing s with
 |nil=>exact⟨C,Nat.le_refl _⟩
 |cons x l ih=>
  obtain⟨h1,h2⟩:=h x oS s C;obtain⟨h3,h4⟩:=ih (fun y hy=>h y (by simp[hy])) h1;exact⟨h3,Nat.le_trans h4 h2⟩
theorem ur(x:End):(nextR x).length<=x.aE.length+3:=by
 have h1:=G' (d:=eI (cz x)) (eI (cz x)).length;have h2:=G9 x;rw[Ga] at h1;exact Nat.le_trans (by simpa[nextR,yE,jE] using h1) h2
structure qF(n:Nat)(b:bt):Prop where
 len:b.ins.length<=100000
 ins:∀ x∈b.ins,nU x
 fin:y4 b.fin
 rl:∀ x∈b.ins,(bK x).length<=100000
 rf:(bJ b.fin).length<=100000
 to:∀ t∈nextR b.fin,0<=t/\t<n
theorem GG{bs:List bt}{s:CS}{n k:Nat}(hb:∀ b∈bs,qF n b)(C:eK n s):eK n (c7 bs s k)/\mL (c7 bs s k)<=mL s:=by
 unfold c7;split
 .exact⟨C,Nat.le_refl _⟩
 .rename_i x hx;split
  .exact ym (J:=eK n) (φ:=mL) (fun t ht s C=>CV C ((hb x (List.mem_of_getElem? hx)).to t ht)) C
  .exact⟨C,Nat.le_refl _⟩
theorem Aa{bs:List bt}{s:CS}{n:Nat}(hb:∀ b∈bs,qF n b)(C:eK n s):eK n (iX bs s)/\mL (iX bs s)<=oO s:=by
 have:=ym (J:=eK n) (φ:=mL) (f:=c7 bs) (l:=List.range bs.length) (fun k _ s C=>GG hb C) (s:=⟨s.ws,s.re,false⟩) ⟨C.lw,C.lr,C.iU,C.rg⟩;exact this
def gf(bs:List bt)(args:Nat):CS:=ll bs (oO (iY bs.length args)+1) (iY bs.length args)
theorem getD_some{α:Type}{l:List α}{k:Nat}{x d:α}(h:l[k]? =some x):l.getD k d=x:=by simp[List.getD_eq_getElem?_getD,h]
theorem Hd{α:Type}{n k:Nat}{x y:α}(hk:k<n):(List.replicate k x++List.replicate (n - k) y).set k x=List.replicate (k+1) x++List.replicate (n - (k+1)) y:=by
 rw[show n - k=n - (k+1)+1 by omega,List.replicate_succ,List.replicate_succ',List.append_assoc,List.singleton_append];rw[List.set_append];simp
theorem Zf{α:Type}{a b:Nat}{x y z:α}(h:z∈List.replicate a x++List.replicate b y):z=x\/z=y:=by
 rcases List.mem_append.1 h with h|h
 .exact .inl (List.eq_of_mem_replicate h)
 .exact .inr (List.eq_of_mem_replicate h)
theorem WB{x:End}{w v:List Int}{s:CS}{k:Nat}{b:Bool}(hx:s.ws[k]? =some v)(hb:s.re[k]? =some b)(h:b=false\/fQ v (fq x k w)≠v):cg x w s k=⟨s.ws.set k (fQ v (fq x k w)),s.re.set k true,true⟩:=by
 unfold cg;rw[Int.toNat_natCast,getD_some hx,getD_some hb,if_pos h]
theorem WU{x:End}{w v:List Int}{s:CS}{k:Nat}{b:Bool}(hx:s.ws[k]? =some v)(hb:s.re[k]? =some b)(h:¬ (b=false\/fQ v (fq x k w)≠v)):cg x w s k=s:=by
 unfold cg;rw[Int.toNat_natCast,getD_some hx,getD_some hb,if_neg h]
theorem FT{n args:Nat}(ha:∀ u∈gD args,c8 u):eK n (iY n args):=by
 refine⟨by simp[iY],by simp[iY],Hb (fun w J=>by rw[List.eq_of_mem_replicate J];simp) oS,fun w J u C=>?_⟩;rcases List.mem_or_eq_of_mem_set J with h|h
 .rw[List.eq_of_mem_replicate h] at C;rw[List.eq_of_mem_replicate C];simp[c8,jS]
 .rw[h] at C;exact ha u C
end Go.Argus
namespace Go.Proofs.Tryz.K
set_option maxRecDepth 10000
set_option maxHeartbeats 2000000 in
theorem zm{p q:D}{f:aA}{n args:Nat}(hp:Tr p)(hq:Tr q)(eS:p.one=true)(eB:q.one=true)(hn:f.blocks.length=n)(oJ:0<n)(lO:n<=100000)(ha:f.args=args)(q0:args<=1000)(zM:∀ u∈gD args,c8 u)(hb:∀ b∈f.blocks,qF n b):
 PCall prog 197 [.agg (bh p q f)] (.tup [.sl (bk (gf f.blocks args).ws) n,.sl ((gf f.blocks args).re.map B) n]):=by
 have aR:∀ a∈[D.agg (bh p q f)],Tr a:=.cons (lq hp hq f) .nil;refine aX mixed RG (by rw[adw];rfl) aR (.tup (.cons (.sl (HB _)) (.cons (.sl (.map fun _=>.s _)) .nil))) ?_;rw[adx,ady];refine av ?_;refine aw ?_;refine ab (aJ (bp [(0,bh p q f,133)] eH (l:=[(1,.pt (bh p q f))]) eH) (mQ XS ?_));refine aF ?_;refine eQ (yv rfl rfl V.h V.h) ak ⟨by omega,rfl,by omega,by rw[TF];omega,V.h⟩ ?_;refine cK ?_;have cY:((f.blocks.length:Nat):Int).toNat=n:=hn;refine bj (by simp[apartT]) (aJ (aK (l:=[(1,.pt (bh p q f)),(4,.rs 1 0 n),(5,.rs 2 0 n)]) (ml:=[(1,.cells (bk (List.replicate n (List.replicate 20 0))) 231),(2,.cells ((List.replicate n false).map B) 4)]) ⟨rfl,?_,?_,trivial⟩ ⟨?_,?_,trivial⟩) (aD (av ?_)))
 .exact congrArg (fun k=>D.rs 1 0 k) cY
 .exact congrArg (fun k=>D.rs 2 0 k) cY
 .exact congrArg (fun c=>some (Row.cells c 231)) ((congrArg (fun k=>replD k ((List.replicate 20 (0:Int)).map bc)) cY).trans (GC n (List.replicate 20 0)))
 .exact congrArg (fun c=>some (Row.cells c 4)) ((congrArg (fun k=>replD k [B false]) cY).trans (pj n false))
 refine aw ?_
 refine ab (bG (fun s=>Ghost prog s ⟨ay [(1,.pt (bh p q f)),(4,.rs 1 0 n),(5,.rs 2 0 n)],a9 [(1,.cells (bk (List.replicate n (List.replicate 20 jS))) 231),(2,.cells ((List.replicate n false).map B) 4)],3⟩) (dq (α:=Nat)
  (fun k=>⟨ay [(1,.pt (bh p q f)),(4,.rs 1 0 n),(5,.rs 2 0 n),(27,I n),(28,I k)],a9 [(1,.cells (bk (List.replicate k (List.replicate 20 jS)++List.replicate (n - k) (List.replicate 20 0))) 231),(2,.cells ((List.replicate n false).map B) 4)],3⟩)
  (fun k=>k<=n) (fun k=>n - k) 0 (aK eH eH) oG ?_) ?_)
 .intro k hk;refine SS ?_;refine ab ⟨_,rfl,fun h=>?_,fun h=>?_⟩
  .have ao:k<n:=by simpa using h
   have ss:=Hd (x:=List.replicate 20 jS) (y:=List.replicate 20 (0:Int)) ao
   have hi:(List.replicate k (List.replicate 20 jS)++List.replicate (n - k) (List.replicate 20 (0:Int)))[k]? =some (List.replicate 20 0):=by
    rw[List.getElem?_append_right oS,List.length_replicate,Nat.sub_self,show n - k=n - (k+1)+1 by omega,List.replicate_succ];rfl
   have xG:∀ w∈List.replicate k (List.replicate 20 jS)++List.replicate (n - k) (List.replicate 20 (0:Int)),w.length=20:=fun w hw=>by
    rcases Zf hw with h|h<;>(rw[h];simp)
   have IS:PCall prog 241 [] (cX (List.replicate 20 jS)):=IS;refine ws ?_;refine ag ?_;refine ab (dJ ?_);refine ag ?_;refine cl IS ?_;refine ag ?_;refine ab ?_;refine ag ?_;refine ab (aH (k+1) (aK eH ⟨?_,rfl,trivial⟩) oG oG);rw[<- ss];rfl
  .have aY:¬ k<n:=by simpa using h
   have:k=n:=by omega
   subst this;refine aK eH ⟨?_,rfl,trivial⟩;show some (Row.cells (bk (_++List.replicate (k - k) _)) _)=_;rw[Nat.sub_self,List.replicate_zero,List.append_nil]
 rintro s hg;refine⟨_,hg,av ?_⟩;have hi:(List.replicate n (List.replicate 20 jS))[0]? =some (List.replicate 20 jS):=by simp[oJ]
 have xG:∀ w∈List.replicate n (List.replicate 20 jS),w.length=20:=fun w hw=>by rw[List.eq_of_mem_replicate hw];simp
 refine ag ?_;refine aB (Zb ajx rfl adt) ak ⟨V.h,V.h⟩ ?_;refine aF ?_;refine ab (aJ (aK (l:=[(1,.pt (bh p q f)),(4,.rs 1 0 n),(5,.rs 2 0 n)]) (ml:=[(1,.cells (bk ((List.replicate n (List.replicate 20 jS)).set 0 (gD 0))) 231),(2,.cells (((List.replicate n false).set 0 true).map B) 4)]) eH ⟨rfl,?_,trivial⟩) (aD (av ?_)))
 .rw[List.map_set];rfl
 clear hi;refine aF ?_
 refine ab (bG (fun s=>Ghost prog s ⟨ay [(1,.pt (bh p q f)),(4,.rs 1 0 n),(5,.rs 2 0 n)],a9 [(1,.cells (bk ((List.replicate n (List.replicate 20 jS)).set 0 (gD args))) 231),(2,.cells (((List.replicate n false).set 0 true).map B) 4)],3⟩) (dq (α:=Nat)
  (fun k=>⟨ay [(1,.pt (bh p q f)),(4,.rs 1 0 n),(5,.rs 2 0 n),(43,I args),(44,I k)],a9 [(1,.cells (bk ((List.replicate n (List.replicate 20 jS)).set 0 (gD k))) 231),(2,.cells (((List.replicate n false).set 0 true).map B) 4)],3⟩)
  (fun k=>k<=args) (fun k=>args - k) 0 (aK ⟨rfl,rfl,rfl,congrArg I ha,rfl,trivial⟩ eH) oG ?_) ?_)
 .intro k hk;refine SS ?_;refine ab ⟨_,rfl,fun h=>?_,fun h=>?_⟩
  .have ao:k<args:=by simpa using h
   have hi:((List.replicate n (List.replicate 20 jS)).set 0 (gD k))[0]? =some (gD k):=by simp[oJ]
   have xG:=Hb (i:=0) xG (LC k);have pL:=pL (w:=gD k) (n:=(k:Int)) oS oG;refine ws ?_;refine ag ?_;refine ab (dJ ?_);refine aw ?_;refine aB (cP rfl rfl V.h V.h (wK oN oN)) ak (cQ V.h V.h (pD oN oN)) ?_;refine SS ?_;refine cl pL ?_;refine ag ?_;refine ab ?_;refine ag ?_;refine ab (aH (k+1) (aK eH ⟨?_,rfl,trivial⟩) oG oG);show some (Row.cells (bk ((List.set _ 0 (gD k)).set 0 (gD (k+1)))) _)=_;rw[List.set_set]
  .have aY:¬ k<args:=by simpa using h
   have:k=args:=by omega
   subst this;exact ap eH
 clear xG;rintro s hg;refine⟨_,hg,aD (av ?_)⟩;refine SS ?_;have xH:=FT (n:=n) zM;have hR:gf f.blocks args=ll f.blocks (oO (iY n args)+1) (iY n args):=by rw[gf,hn]
 generalize gf f.blocks args=R at hR ⊢
 refine ab (bG (fun s=>∃ n',Ghost prog s ⟨ay [(4,.rs 1 0 n),(5,.rs 2 0 n)],a9 [(1,.cells (bk R.ws) 231),(2,.cells (R.re.map B) 4)],n'⟩/\eK n R) (wl (α:=CS×Nat)
  (fun s=>⟨ay [(1,.pt (bh p q f)),(4,.rs 1 0 n),(5,.rs 2 0 n),(8,B s.1.ch)],a9 [(1,.cells (bk s.1.ws) 231),(2,.cells (s.1.re.map B) 4)],s.2⟩)
  (fun s=>eK n s.1/\3<=s.2/\(s.1.ch=true->∃ k,oO s.1<k/\ll f.blocks k s.1=R)/\(s.1.ch=false->s.1=R)) (fun s=>2*oO s.1+if s.1.ch=true then 1 else 0) (iY n args,3)
  (aK eH eH) ⟨xH,Nat.le_refl _,fun _=>⟨_,Nat.lt_succ_self _,hR.symm⟩,fun h=>by cases h⟩ ?_) ?_)
 .rintro⟨C,N0⟩ ⟨jq,la,vC,u4⟩;dsimp only at jq la vC u4 ⊢;refine SS ?_;refine ab ⟨_,rfl,fun h0=>?_,fun h=>?_⟩
  .obtain⟨ff,RH,uP⟩:=vC h0;obtain⟨ff,rfl⟩:∃ j,ff=j+1:=⟨ff - 1,by omega⟩
   have uQ:=Aa hb jq;refine ws ?_;refine SS ?_;refine ab (av ?_);refine aV ?_
   refine ab (dq (α:=Nat×Nat)
    (fun k=>⟨ay [(1,.pt (bh p q f)),(4,.rs 1 0 n),(5,.rs 2 0 n),(8,B ((List.range k.1).foldl (c7 f.blocks) ⟨C.ws,C.re,false⟩).ch),(58,eE f.blocks),(59,I n),(60,I k.1)],a9 [(1,.cells (bk ((List.range k.1).foldl (c7 f.blocks) ⟨C.ws,C.re,false⟩).ws) 231),(2,.cells (((List.range k.1).foldl (c7 f.blocks) ⟨C.ws,C.re,false⟩).re.map B) 4)],k.2⟩)
    (fun k=>k.1<=n/\3<=k.2) (fun k=>n - k.1) (0,N0) (aK ⟨rfl,rfl,rfl,rfl,rfl,congrArg (fun k:Nat=>I k) hn,rfl,trivial⟩ eH) ⟨Nat.zero_le _,la⟩ ?_)
   rintro⟨k,N⟩ ⟨hk,hN⟩;dsimp only at hk hN ⊢;have bf:=(ym (J:=eK n) (φ:=mL) (f:=c7 f.blocks) (l:=List.range k) (fun k _ s hs=>GG hb hs) (s:=⟨C.ws,C.re,false⟩) ⟨jq.lw,jq.lr,jq.iU,jq.rg⟩).1;have bL:(List.range (k+1)).foldl (c7 f.blocks) ⟨C.ws,C.re,false⟩=c7 f.blocks ((List.range k).foldl (c7 f.blocks) ⟨C.ws,C.re,false⟩) k:=by rw[List.range_succ,List.foldl_append];rfl
   have fR:k=n->(List.range k).foldl (c7 f.blocks) ⟨C.ws,C.re,false⟩=iX f.blocks C:=fun e=>by rw[e,iX,hn]
   generalize (List.range k).foldl (c7 f.blocks) ⟨C.ws,C.re,false⟩=u at bf bL fR;refine SS ?_;refine ab ⟨_,rfl,fun h=>?_,fun h=>?_⟩
   .have ao:k<n:=by simpa using h
    have hx:f.blocks[k]? =some f.blocks[k]:=List.getElem?_eq_getElem oG;have bI:f.blocks[k]∈f.blocks:=List.getElem_mem _;generalize f.blocks[k]=x at hx bI;have gq:=hb x bI;have U:c7 f.blocks u k=if u.re.getD k false=true then(nextR x.fin).foldl (cg x.fin (g9 x (u.ws.getD k [])).1) u else u:=by rw[c7,hx]
    have lw:=bf.lw;have lr:=bf.lr;have iU:=bf.iU;have hw:u.ws[k]? =some u.ws[k]:=List.getElem?_eq_getElem oG;have gN:u.re[k]? =some u.re[k]:=List.getElem?_eq_getElem oG;rw[getD_some hw,getD_some gN] at U;have lb:=iU _ (List.getElem_mem (h:=by omega):u.ws[k]∈u.ws);generalize u.ws[k]=w at hw U lb;generalize u.re[k]=b at gN U;have kd:=eV (f:=B) gN;refine ws ?_;refine bD ?_;refine ab (aD (an ?_));refine ag ?_;refine aB (jG rfl rfl (af oG (af oG rfl)) V.h V.h) ak ⟨V.h,by omega⟩ ?_;refine aB (eX rfl (af oG (af oG rfl)) kd V.h) ak (eY V.h V.h kd) ?_;refine SS ?_;refine ab (bC rfl (fun h=>qc (wC ?_)) fun h=>cx (mQ WV ?_))
    .have JZ:b=false:=by simpa using h
     subst JZ;have U:c7 f.blocks u k=u:=U;refine ag ?_;refine ab (aH (k+1,N+1) (aK ⟨rfl,rfl,rfl,?_,rfl,rfl,rfl,trivial⟩ ⟨?_,?_,trivial⟩) ⟨by dsimp only;omega,by dsimp only;omega⟩ oM)
     .dsimp only;rw[bL,U];rfl
     .dsimp only;rw[bL,U];exact af oG (af oG rfl)
     .dsimp only;rw[bL,U];exact af oG (af oG rfl)
    have zN:b=true:=by simpa using h
    subst zN;have U:c7 f.blocks u k=(nextR x.fin).foldl (cg x.fin (g9 x w).1) u:=U;have mA:=mA lb gq.len gq.ins gq.fin gq.rl gq.rf;have tB:=FN x w;rw[lb] at tB;generalize Cm:g9 x w=th at mA tB U;obtain⟨w',JY⟩:=th;dsimp only at tB mA U;clear kd;refine aB (cP (vs:=cR _) rfl (up_same _ _ _) V.h V.h rfl) ak (cQ V.h V.h (by first|(simp;done)|omega|exact Nat.le_of_ble_eq_true rfl)) ?_;refine ag ?_;refine aB (rM rfl rfl (af oG (af oG (up_same _ _ _))) V.h V.h) ak ⟨V.h,by omega⟩ ?_;refine aB (cP rfl (af oG (af oG (up_same _ _ _))) V.h V.h (wK oN oN)) ak (cQ V.h V.h (pD oN oN)) ?_;refine cl mA ?_;refine bD ?_;refine bj (by simp[apartT]) (aJ (gO (l:=[(1,.pt (bh p q f)),(4,.rs 1 0 n),(5,.rs 2 0 n),(8,B u.ch),(10,.rp N 0),(11,.rp (N+1) 0),(58,eE f.blocks),(59,I n),(60,I k)]) (m':=up (up (a9 [(1,.cells (bk u.ws) 231),(2,.cells (u.re.map B) 4)]) N (some (.cells (cR x) 72))) (N+1) (some (.cells (w'.map bc) 231))) eH (by rw[jN,jN])) (av ?_));have tz:=tz (x:=x.fin);have tA:=Pt (x:=x.fin) gq.fin.wh
    change PCall _ _ _ (az (nextR x.fin)) at tA
    have cZ:=gq.to;have eT:=ur x.fin;have zO:=gq.fin.wh;generalize nextR x.fin=l at tA U cZ eT;refine aB (o8 rfl (af oG (up_same _ _ _)) V.h) ak (m7 V.h) ?_;refine aB (cP (vs:=aT _) rfl (af oG (up_same _ _ _)) V.h V.h rfl) ak (cQ V.h V.h (by first|(simp;done)|omega|exact Nat.le_of_ble_eq_true rfl)) ?_;refine cl tz ?_;refine cl tA ?_;refine ag ?_;have su:c7 f.blocks u k=l.foldl (cg x.fin w') u:=U
    refine ab (dq (α:=Nat×Nat)
     (fun j=>⟨ay [(1,.pt (bh p q f)),(4,.rs 1 0 n),(5,.rs 2 0 n),(8,B ((l.take j.1).foldl (cg x.fin w') u).ch),(10,.rp N 0),(11,.rp (N+1) 0),(58,eE f.blocks),(59,I n),(60,I k),(82,az l),(83,I l.length),(84,I j.1)],up (up (a9 [(1,.cells (bk ((l.take j.1).foldl (cg x.fin w') u).ws) 231),(2,.cells (((l.take j.1).foldl (cg x.fin w') u).re.map B) 4)]) N (some (.cells (cR x) 72))) (N+1) (some (.cells (w'.map bc) 231)),j.2⟩)
     (fun j=>j.1<=l.length/\N+2<=j.2) (fun j=>l.length - j.1) (0,N+2) (gO eH rfl) ⟨Nat.zero_le _,Nat.le_refl _⟩ ?_)
    rintro⟨j,N'⟩ ⟨hj,Fa⟩;dsimp only at hj Fa ⊢;have Fb:=(ym (J:=eK n) (φ:=mL) (f:=cg x.fin w') (l:=l.take j) (fun t ht s hs=>CV hs (cZ t (List.mem_of_mem_take ht))) bf).1;have X:∀ t,l[j]? =some t->(l.take (j+1)).foldl (cg x.fin w') u=cg x.fin w' ((l.take j).foldl (cg x.fin w') u) t:=fun t ht=>kE ht;have m9:j=l.length->(l.take j).foldl (cg x.fin w') u=c7 f.blocks u k:=fun e=>by rw[su,List.take_of_length_le oG]
    generalize (l.take j).foldl (cg x.fin w') u=v at Fb X m9;clear lw lr iU hw gN;have lw:=Fb.lw;have lr:=Fb.lr;have iU:=Fb.iU;refine SS ?_;refine ab ⟨_,rfl,fun h=>?_,fun h=>?_⟩
    .have bZ:j<l.length:=by simpa using h
     have ht:l[j]? =some l[j]:=List.getElem?_eq_getElem bZ;have mM:=cZ _ (List.getElem_mem bZ);generalize l[j]=t at ht mM;obtain⟨i,rfl⟩:=Int.eq_ofNat_of_zero_le mM.1;have bl:i<n:=by omega
     have hw:v.ws[i]? =some v.ws[i]:=List.getElem?_eq_getElem oG;have gN:v.re[i]? =some v.re[i]:=List.getElem?_eq_getElem oG;have J0:=iU _ (List.getElem_mem (h:=by omega):v.ws[i]∈v.ws);generalize v.ws[i]=y at hw J0;generalize v.re[i]=b at gN;have kd:=eV (f:=B) gN;have uZ:=uZ (x:=x.fin) (b:=(i:Int)) (w:=w') tB (by have:=gq.fin.wh;omega) (by have:=gq.fin.wr;omega);have vD:=Lz x.fin i w';rw[tB] at vD;have Er:=Er J0 vD;have k8:=LF y (fq x.fin i w');rw[J0] at k8;have yes:=WB (x:=x.fin) (w:=w') hw gN;have no:=WU (x:=x.fin) (w:=w') hw gN;generalize fQ y (fq x.fin i w')=z at Er k8 yes no;refine ws ?_;refine aw ?_;refine ab (mQ WW ?_);refine ag ?_;refine aB (rM rfl rfl (af oG (af oG (up_same _ _ _))) V.h V.h) ak ⟨V.h,by omega⟩ ?_;refine aB (cP rfl (af oG (af oG (up_same _ _ _))) V.h V.h (wK oN oN)) ak (cQ V.h V.h (pD oN oN)) ?_;refine aB (o8 rfl (af oG (up_same _ _ _)) V.h) ak (m7 V.h) ?_;refine aB (cP (vs:=aT _) rfl (af oG (up_same _ _ _)) V.h V.h rfl) ak (cQ V.h V.h (by first|(simp;done)|omega|exact Nat.le_of_ble_eq_true rfl)) ?_;refine SS ?_;refine aB (cP rfl (up_same _ _ _) V.h V.h (gC (by first|rfl|exact Nat.le_of_ble_eq_true rfl|(simp;done)|(simp;omega)|omega))) ak (cQ V.h V.h (by first|rfl|exact Nat.le_of_ble_eq_true rfl|(simp;done)|(simp;omega)|omega)) ?_;refine cl uZ ?_;refine cl Er ?_;refine ag ?_;refine bj (by simp[apartT]) (aJ (gO (l:=[(1,.pt (bh p q f)),(4,.rs 1 0 n),(5,.rs 2 0 n),(8,B v.ch),(10,.rp N 0),(11,.rp (N+1) 0),(14,I i),(15,.rp N' 0),(58,eE f.blocks),(59,I n),(60,I k),(82,az l),(83,I l.length),(84,I j)]) (m':=up (up (up (a9 [(1,.cells (bk v.ws) 231),(2,.cells (v.re.map B) 4)]) N (some (.cells (cR x) 72))) (N+1) (some (.cells (w'.map bc) 231))) N' (some (.cells (z.map bc) 231))) eH (jN _ _ _ _)) (dd WX ?_));refine ag ?_;refine aB (jG rfl rfl (af oG (af oG (af oG rfl))) V.h V.h) ak ⟨V.h,by omega⟩ ?_;refine aB (eX rfl (af oG (af oG (af oG rfl))) kd V.h) ak (eY V.h V.h kd) ?_;refine ag ?_;refine bm rfl rfl (cP rfl (up_same _ _ _) V.h V.h (gC (by first|rfl|exact Nat.le_of_ble_eq_true rfl|(simp;done)|(simp;omega)|omega))) (fun hc=>⟨ak,(cQ V.h V.h (by first|rfl|exact Nat.le_of_ble_eq_true rfl|(simp;done)|(simp;omega)|omega))⟩) ?_;refine ag ?_;refine bm rfl rfl (rM rfl rfl (af oG (af oG (af oG (up_same _ _ _)))) V.h V.h) (fun hc=>⟨ak,⟨V.h,by omega⟩⟩) ?_;refine bm rfl rfl (cP rfl (af oG (af oG (af oG (up_same _ _ _)))) V.h V.h (wK oN oN)) (fun hc=>⟨ak,(cQ V.h V.h (pD oN oN))⟩) ?_;refine bm rfl rfl (adu rfl rfl (by first|assumption|(simp;omega)|omega)) (fun hc=>⟨ak,(adv (by first|assumption|(simp;omega)|omega))⟩) ?_;refine SS ?_;refine bj (by simp[apartT]) (au rfl (fun h=>?_) fun h=>?_)
     .have yes:=yes (by
       cases b with
       |false=>exact .inl rfl
       |true=>exact .inr (by simpa using h))
      have X:=(X _ ht).trans yes;clear yes no;refine dJ ?_;refine aF ?_;refine aB (cP rfl (up_same _ _ _) V.h V.h (gC (by first|rfl|exact Nat.le_of_ble_eq_true rfl|(simp;done)|(simp;omega)|omega))) ak (cQ V.h V.h (by first|rfl|exact Nat.le_of_ble_eq_true rfl|(simp;done)|(simp;omega)|omega)) ?_;refine aB (rM rfl rfl (af oG (af oG (af oG (up_same _ _ _)))) V.h V.h) ak ⟨V.h,by omega⟩ ?_;refine cr (fk rfl rfl (af oG (af oG (af oG (up_same _ _ _)))) (D9 oC oN oN (by first|assumption|(simp;omega)|(simp;done)))) ak (Aq (by first|(simp;omega)|(simp;done)) (pD oN oN) (ig _)) ?_;refine aB (jG rfl rfl (af oG (af oG (af oG (af oG rfl)))) V.h V.h) ak ⟨V.h,by omega⟩ ?_;refine cr (gy (d:=.s (.bool _)) (cs':=_) rfl rfl (af oG (af oG (af oG (af oG rfl)))) rfl rfl) ak (dy V.h V.h (by first|(simp;done)|exact⟨rfl,Nat.le_of_ble_eq_true rfl⟩|(simp;omega)) rfl) ?_;refine SS ?_;refine ab ?_;refine ag ?_
      refine ab (aH (j+1,N'+1) (aK (ml:=[(N+1,.cells (w'.map bc) 231),(N,.cells (cR x) 72),(1,.cells (bk ((l.take (j+1)).foldl (cg x.fin w') u).ws) 231),(2,.cells (((l.take (j+1)).foldl (cg x.fin w') u).re.map B) 4)]) ⟨rfl,rfl,rfl,?_,rfl,rfl,rfl,rfl,rfl,rfl,rfl,rfl,trivial⟩
       ⟨af oG (af oG (af oG (up_same _ _ _))),af oG (af oG (af oG (af oG (up_same _ _ _)))),af oG ?_,?_,trivial⟩) ⟨by dsimp only;omega,by dsimp only;omega⟩ oM)
      .dsimp only;rw[X];rfl
      .rw[X];exact up_same _ _ _
      .rw[X];dsimp only;rw[List.map_set];exact up_same _ _ _
     .have no:=no (by
       cases b with
       |false=>simp at h
       |true=>simpa using h)
      have X:=(X _ ht).trans no;refine b8 ?_;refine ag ?_
      refine ab (aH (j+1,N'+1) (aK (ml:=[(N+1,.cells (w'.map bc) 231),(N,.cells (cR x) 72),(1,.cells (bk ((l.take (j+1)).foldl (cg x.fin w') u).ws) 231),(2,.cells (((l.take (j+1)).foldl (cg x.fin w') u).re.map B) 4)]) ⟨rfl,rfl,rfl,?_,rfl,rfl,rfl,rfl,rfl,rfl,rfl,rfl,trivial⟩
       ⟨af oG (up_same _ _ _),af oG (af oG (up_same _ _ _)),?_,?_,trivial⟩) ⟨by dsimp only;omega,by dsimp only;omega⟩ oM)
      .dsimp only;rw[X];rfl
      .rw[X];exact af oG (af oG (af oG rfl))
      .rw[X];exact af oG (af oG (af oG rfl))
    .have aY:¬ j<l.length:=by simpa using h
     have vl:=m9 oG;subst vl;show AOps _ _ _ _ _ _ _ _ _;refine ag ?_;refine ab (aH (k+1,N') (aK ⟨rfl,rfl,rfl,?_,rfl,rfl,rfl,trivial⟩ ⟨?_,?_,trivial⟩) ⟨by dsimp only;omega,by dsimp only;omega⟩ oM)
     .dsimp only;rw[bL];rfl
     .dsimp only;rw[bL];exact af oG (af oG rfl)
     .dsimp only;rw[bL];exact af oG (af oG rfl)
   .have aY:¬ k<n:=by simpa using h
    have hl:=fR oG;subst hl;refine aH (iX f.blocks C,N) (aK eH eH) ⟨bf,hN,fun hc=>?_,fun hc=>?_⟩ ?_
    .refine⟨ff,?_,?_⟩
     .have:=uQ.2;unfold mL at this;show oO (iX f.blocks C)<ff;rw[if_pos hc] at this;omega
     .dsimp only at hc ⊢;rw[<- uP,ll,if_pos hc]
    .dsimp only at hc ⊢;rw[<- uP,ll,if_neg (by simp[hc])]
    .have:=uQ.2;unfold mL at this;dsimp only;rw[if_pos h0];split at this<;>rename_i hc
     .rw[if_pos hc];omega
     .rw[if_neg hc];omega
  .have Cn:=u4 h;subst Cn;exact⟨N0,aK eH eH,jq⟩
 .rintro s ⟨n',hg,u6⟩;refine⟨_,hg,av ?_⟩;refine aF ?_;refine ab (aJ (bp [(1,bk R.ws,231),(2,R.re.map B,4)] ⟨rfl,DF oG rfl .map,trivial⟩ (l:=[(2,.sl (bk R.ws) n),(3,.sl (R.re.map B) n)]) ⟨?_,?_,trivial⟩) (yQ rfl rfl rfl))
  .show sub (fz0 2 (R.re.map B) (prog.cellsOf 4)) (sub (fz0 1 (bk R.ws) (prog.cellsOf 231)) (D.rs 1 0 n))=_;rw[gv (by rw[qO,Ag u6.iU,u6.lw]),HC]
  .show sub (fz0 2 (R.re.map B) (prog.cellsOf 4)) (sub (fz0 1 (bk R.ws) (prog.cellsOf 231)) (D.rs 2 0 n))=_;rw[qe oG,gv (by rw[c4,List.length_map,u6.lr,Nat.mul_one])]
end Go.Proofs.Tryz.K
namespace Go.Abs
def jc(r:Nat)(l:List D):D:=match l with
 |[]=>.z
 |_=>.rs r 0 l.length
theorem pE{r:Nat}{l:List D}(h:l≠[]):jc r l=.rs r 0 l.length:=by cases l with
 |nil=>exact absurd rfl h
 |cons=>rfl
def mB(ρ:Nat->Nat)(L:Nat->List D)(n:Nat):List D:=(List.range n).map fun i=>jc (ρ i) (L i)
@[simp] theorem aoC (ρ : Nat -> Nat) (L : Nat -> List D) (n : Nat) : (mB ρ L n).length = n := by simp [mB]
theorem GH{ρ:Nat->Nat}{L:Nat->List D}{n i:Nat}(hi:i<n):∃ cs,(mB ρ L n).drop i=jc (ρ i) (L i)::cs:=
 ⟨_,eV (f:=fun i=>jc (ρ i) (L i)) (by simp[hi])⟩
theorem Gb{α:Type}{F:Nat->α}{n i:Nat}{x:α}:((List.range n).map F).set i x=(List.range n).map (up F i x):=by
 apply List.ext_getElem?;intro k;rw[List.getElem?_set];simp only[List.length_map,List.length_range,List.getElem?_map];split
 .rename_i e;subst e;split
  .rename_i h;simp[h,up_same]
  .rename_i h;simp[h]
 .rename_i e;by_cases hk:k<n
  .simp[hk,up_ne F x (Ne.symm e)]
  .simp[hk]
theorem aaq{ρ:Nat->Nat}{L:Nat->List D}{n i r:Nat}{l:List D}(hl:l≠[]):(mB ρ L n).set i (.rs r 0 l.length)=mB (up ρ i r) (up L i l) n:=by
 unfold mB;rw[Gb];refine congrArg (fun F=>(List.range n).map F) (funext fun k=>?_);simp only[up];split
 .rw[pE hl]
 .rfl
structure fF(m:Mem)(nx j n:Nat)(e et:TypeId)(ρ:Nat->Nat)(L:Nat->List D):Prop where
 row:m j=some (.cells (mB ρ L n) e)
 jx:j<nx
 jr:∀ i,i<n->L i≠[]->m (ρ i)=some (.cells (L i) et)
 lt:∀ i,i<n->L i≠[]->ρ i<nx
 ne:∀ i,i<n->L i≠[]->ρ i≠j
 inj:∀ i k,i<n->k<n->L i≠[]->L k≠[]->ρ i=ρ k->i=k
theorem fF.ext{m m':Mem}{nx nx' j n:Nat}{e et:TypeId}{ρ:Nat->Nat}{L:Nat->List D}(h:fF m nx j n e et ρ L)(hm:∀ q,q<nx->m' q=m q)(hn:nx<=nx'):fF m' nx' j n e et ρ L:=
 ⟨(hm j h.jx).trans h.row,Nat.lt_of_lt_of_le h.jx hn,fun i hi hl=>(hm _ (h.lt i hi hl)).trans (h.jr i hi hl),fun i hi hl=>Nat.lt_of_lt_of_le (h.lt i hi hl) hn,h.ne,h.inj⟩
theorem fF.zP{m m':Mem}{nx nx' j n i r:Nat}{e et:TypeId}{ρ:Nat->Nat}{L:Nat->List D}{l:List D}(h:fF m nx j n e et ρ L)(hi:i<n)(hl:l≠[])(hr:nx<=r)(fB:r<nx')
 (hj:m' j=some (.cells ((mB ρ L n).set i (.rs r 0 l.length)) e)) (aq:m' r=some (.cells l et)) (hk:∀ q,q<nx->q≠j->(L i≠[]->q≠ρ i)->m' q=m q):fF m' nx' j n e et (up ρ i r) (up L i l):=by
 have bZ:=h.jx
 have old:∀ k,k<n->k≠i->L k≠[]->m' (ρ k)=some (.cells (L k) et):=fun k U J C=>
  (hk _ (h.lt k U C) (h.ne k U C) fun BB e=>J (h.inj k i U hi C BB e)).trans (h.jr k U C)
 refine⟨by rw[hj,aaq hl],by omega,fun k U C=>?_,fun k U C=>?_,fun k U C=>?_,fun a b ha hb zR zS lP=>?_⟩
 .by_cases J:k=i
  .subst J;rw[up_same,up_same];exact aq
  .rw[up_ne _ _ J] at C ⊢;rw[up_ne _ _ J];exact old k U J C
 .by_cases J:k=i
  .subst J;rw[up_same];exact fB
  .rw[up_ne _ _ J] at C ⊢;have:=h.lt k U C;omega
 .by_cases J:k=i
  .subst J;rw[up_same];omega
  .rw[up_ne _ _ J] at C ⊢;exact h.ne k U C
 .by_cases vE:a=i
  .by_cases X:b=i
   .omega
   .subst vE;rw[up_same,up_ne _ _ X] at lP;rw[up_ne _ _ X] at zS;have:=h.lt b hb zS;omega
  .by_cases X:b=i
   .subst X;rw[up_same,up_ne _ _ vE] at lP;rw[up_ne _ _ vE] at zR;have:=h.lt a ha zR;omega
   .rw[up_ne _ _ vE] at zR lP;rw[up_ne _ _ X] at zS lP;exact h.inj a b ha hb zR zS lP
theorem GI{m:Mem}{nx j n:Nat}{e et:TypeId}{ρ:Nat->Nat}(hj:j<nx)(hm:m j=some (.cells (List.replicate n .z) e)):fF m nx j n e et ρ (fun _=>[]):=by
 refine⟨?_,hj,fun _ _ h=>absurd rfl h,fun _ _ h=>absurd rfl h,fun _ _ h=>absurd rfl h,fun _ _ _ _ h=>absurd rfl h⟩;rw[hm];congr 2;unfold mB jc;rw[List.map_const',List.length_range]
theorem DG(n:Nat):replD n [.z]=List.replicate n D.z:=by
 unfold replD
 induction n with
 |zero=>rfl
 |succ n ih=>rw[List.replicate_succ,List.replicate_succ,List.flatten_cons,ih];rfl
def jP(X:Nat->Prop)(d:D):Prop:=∀ i cs sz,X i->sub (fz0 i cs sz) d=d
def iB(X:Nat->Prop)(r:Row):Prop:=∀ i cs sz,X i->Row.sub (fz0 i cs sz) r=r
theorem jP.s{X:Nat->Prop}(v:Value):jP X (.s v):=fun _ _ _ _=>rfl
theorem jP.sl{X:Nat->Prop}(es:List D)(n:Nat):jP X (.sl es n):=fun _ _ _ _=>rfl
theorem jP.z{X:Nat->Prop}:jP X .z:=fun _ _ _ _=>rfl
theorem jP.u{X:Nat->Prop}:jP X .u:=fun _ _ _ _=>rfl
theorem jP.rs{X:Nat->Prop}{j off n:Nat}(h:¬ X j):jP X (.rs j off n):=fun i cs sz hi=>qe fun e=>h (e▸hi)
theorem jP.rp{X:Nat->Prop}{j off:Nat}(h:¬ X j):jP X (.rp j off):=fun i cs sz hi=>by
 show(if j=i then _ else D.rp j off)=_;exact if_neg fun(e:j=i)=>h (e▸hi)
theorem iB.cells{X:Nat->Prop}{cs:List D}{e:TypeId}(h:∀ d∈cs,jP X d):iB X (.cells cs e):=fun i C sz hi=>by
 show Row.cells (cs.map _) e=_;congr 1
 induction cs with
 |nil=>rfl
 |cons d cs ih=>rw[List.map_cons,h d oS i C sz hi,ih fun d hd=>h d (by simp[hd])]
theorem iB.BK{X:Nat->Prop}{cs:List D}{e:TypeId}(h:np cs):iB X (.cells cs e):=iB.cells fun d hd=>by obtain⟨v,rfl⟩:=h d hd;exact .s v
theorem He(d:D):Wk d d:=fun _ _ _ _ h=>h
theorem IY:Wk .z (.sl [] 0):=fun F β w v hv=>by
 obtain⟨x,rfl⟩:=hv.z_inv;exact .sln x 0
theorem Lg{X:Nat->Prop}{l:List (Nat×D)}(h:∀ x∈l,jP X x.2)(t:Nat):jP X (ay l t):=by
 induction l with
 |nil=>exact .u
 |cons x l ih=>
  obtain⟨k,d⟩:=x;simp only[ay];split
  .exact h (k,d) oS
  .exact ih fun y hy=>h y (by simp[hy])
theorem WY{X:Nat->Prop}{l:List (Nat×Row)}(h:∀ x∈l,iB X x.2){q:Nat}{r:Row}(hq:a9 l q=some r):iB X r:=by
 induction l with
 |nil=>simp[a9] at hq
 |cons x l ih=>
  obtain⟨k,d⟩:=x;simp only[a9] at hq;split at hq
  .cases hq;exact h (k,r) oS
  .exact ih (fun y hy=>h y (by simp[hy])) hq
theorem XT{l:List (Nat×Row)}{q:Nat}(h:∀ x∈l,x.1≠q):a9 l q=none:=by
 induction l with
 |nil=>rfl
 |cons x l ih=>
  obtain⟨k,d⟩:=x;simp only[a9];rw[if_neg fun e=>h (k,d) oS e.symm];exact ih fun y hy=>h y (by simp[hy])
section
variable{P:Program}
open Classical in
noncomputable def js(ml:List (Nat×Row))(j n k:Nat)(e et:TypeId)(ρ:Nat->Nat)(L:Nat->List D):Mem:=fun q=>
 if q=j then some (.cells ((List.range n).map fun i=>if i<k then .sl (L i) (L i).length else jc (ρ i) (L i)) e)
 else if h:∃ i,k<=i/\i<n/\L i≠[]/\ρ i=q then some (.cells (L (Classical.choose h)) et)
 else a9 ml q
theorem Zg{m:Mem}{nx j n k:Nat}{e et:TypeId}{ρ:Nat->Nat}{L:Nat->List D}{l:List (Nat×D)}{ml:List (Nat×Row)}{X:Nat->Prop}(h:fF m nx j n e et ρ L)(hs:∀ i,np (L i))(U:P.cellsOf et=1)
 (J:∀ i,i<n->L i≠[]->X (ρ i)) (rh:¬ X j) (hl:∀ x∈l,jP X x.2) (oI:∀ x∈ml,iB X x.2/\¬ X x.1) (hk:k<n):
 Ghost P ⟨ay l,js ml j n k e et ρ L,nx⟩ ⟨ay l,js ml j n (k+1) e et ρ L,nx⟩:=by
 by_cases C:L k=[]
 .refine .weak _ _ _ _ _ (fun t=>He _) fun q=>?_;by_cases hq:q=j
  .subst hq;right;refine⟨_,_,e,by simp only[js,if_true];rfl,by simp only[js,if_true];rfl,by simp,fun i d d' hd kZ=>?_⟩;simp only[List.getElem?_map,Option.map_eq_some_iff] at hd kZ;obtain⟨a,ha,rfl⟩:=hd;obtain⟨b,hb,rfl⟩:=kZ;rw[ha] at hb;cases hb;by_cases h1:a<k
   .rw[if_pos h1,if_pos oG];exact He _
   .rw[if_neg h1];by_cases h2:a=k
    .subst h2;rw[if_pos oG,C];exact IY
    .rw[if_neg oG];exact He _
  .left;simp only[js,if_neg hq]
   have:(∃ i,k+1<=i/\i<n/\L i≠[]/\ρ i=q)↔(∃ i,k<=i/\i<n/\L i≠[]/\ρ i=q):=by
    constructor
    .rintro⟨i,h1,h2⟩;exact⟨i,by omega,h2⟩
    .rintro⟨i,h1,h2,h3,h4⟩
     exact⟨i,by
      rcases Nat.lt_or_ge k i with g|g
      .exact g
      .have:i=k:=by omega
       subst this;exact absurd C h3,h2,h3,h4⟩
   by_cases hc:∃ i,k<=i/\i<n/\L i≠[]/\ρ i=q
   .rw[dif_pos (this.2 hc),dif_pos hc];have e1:=Classical.choose_spec hc;have e2:=Classical.choose_spec (this.2 hc);have:Classical.choose (this.2 hc)=Classical.choose hc:=h.inj _ _ e2.2.1 e1.2.1 e2.2.2.1 e1.2.2.1 (e2.2.2.2.trans e1.2.2.2.symm);rw[this]
   .rw[dif_neg (fun h=>hc (this.1 h)),dif_neg hc]
 .have Co:ρ k≠j:=h.ne k hk C
  have aq:js ml j n k e et ρ L (ρ k)=some (.cells (L k) et):=by
   have hc:∃ i,k<=i/\i<n/\L i≠[]/\ρ i=ρ k:=⟨k,Nat.le_refl _,hk,C,rfl⟩
   simp only[js,if_neg Co,dif_pos hc];have e1:=Classical.choose_spec hc;have:Classical.choose hc=k:=h.inj _ _ e1.2.1 hk e1.2.2.1 C e1.2.2.2;rw[this]
  have hg:=Ghost.freeze (P:=P) (ay l) (js ml j n k e et ρ L) nx (ρ k) (L k) et aq;have e1:(fun t=>sub (fz0 (ρ k) (L k) (P.cellsOf et)) (ay l t))=ay l:=funext fun t=>Lg hl t _ _ _ (J k hk C)
  have e2:(fun q=>if q=ρ k then none else(js ml j n k e et ρ L q).map (Row.sub (fz0 (ρ k) (L k) (P.cellsOf et))))=js ml j n (k+1) e et ρ L:=by
   funext q;by_cases rj:q=ρ k
   .subst rj;rw[if_pos rfl]
    have hc:¬ ∃ i,k+1<=i/\i<n/\L i≠[]/\ρ i=ρ k:=by
     rintro⟨i,g1,g2,g3,g4⟩;have:=h.inj _ _ g2 hk g3 C g4;omega
    simp only[js,if_neg Co,dif_neg hc];exact(XT fun x hx e=>(oI x hx).2 (e▸J k hk C)).symm
   .rw[if_neg rj];by_cases oQ:q=j
    .subst oQ;simp only[js,if_true,Option.map_some];congr 1;show Row.cells (List.map _ (List.map _ _)) e=_;rw[List.map_map];congr 1;refine List.map_congr_left fun i hi=>?_;have bl:i<n:=by simpa using hi
     simp only[Function.comp_apply];by_cases h1:i<k
     .rw[if_pos h1,if_pos oG];rfl
     .rw[if_neg h1];by_cases h2:i=k
      .subst h2;rw[if_pos oG,pE C,U];exact gv oG
      .rw[if_neg oG];by_cases h3:L i=[]
       .rw[h3];rfl
       .rw[pE h3];exact qe fun e=>h2 (h.inj _ _ bl hk h3 C e)
    .simp only[js,if_neg oQ]
     have this:(∃ i,k+1<=i/\i<n/\L i≠[]/\ρ i=q)↔(∃ i,k<=i/\i<n/\L i≠[]/\ρ i=q):=by
      constructor
      .rintro⟨i,h1,h2⟩;exact⟨i,by omega,h2⟩
      .rintro⟨i,h1,h2,h3,h4⟩
       exact⟨i,by
        rcases Nat.lt_or_ge k i with g|g
        .exact g
        .have:i=k:=by omega
         subst this;exact absurd h4.symm rj,h2,h3,h4⟩
     by_cases hc:∃ i,k<=i/\i<n/\L i≠[]/\ρ i=q
     .rw[dif_pos (this.2 hc),dif_pos hc];have e1:=Classical.choose_spec hc;have e2:=Classical.choose_spec (this.2 hc);have:Classical.choose (this.2 hc)=Classical.choose hc:=h.inj _ _ e2.2.1 e1.2.1 e2.2.2.1 e1.2.2.1 (e2.2.2.2.trans e1.2.2.2.symm);rw[this];exact congrArg some (iB.BK (X:=X) (hs _) _ _ _ (J k hk C))
     .rw[dif_neg (fun h=>hc (this.1 h)),dif_neg hc];cases hm:a9 ml q with
      |none=>rfl
      |some r=>exact congrArg some (WY (fun x hx=>(oI x hx).1) hm _ _ _ (J k hk C))
  rw[e1,e2] at hg;exact hg
theorem Gc{env:Env}{m:Mem}{nx j n:Nat}{e et:TypeId}{ρ:Nat->Nat}{L:Nat->List D}{l:List (Nat×D)}{ml:List (Nat×Row)}(X:Nat->Prop)(h:fF m nx j n e et ρ L)(U:∀ i,np (L i))(C:P.cellsOf et=1)
 (J:∀ i,i<n->L i≠[]->X (ρ i)) (rh:¬ X j) (he:iA l env) (hl:∀ x∈l,jP X x.2) (hm:Bc ml m) (oI:∀ x∈ml,iB X x.2/\¬ X x.1):
 Ghost P ⟨env,m,nx⟩ ⟨ay l,a9 ((j,.cells ((List.range n).map fun i=>.sl (L i) (L i).length) e)::ml),nx⟩:=by
 have key:∀ k,k<=n->Ghost P ⟨ay l,js ml j n 0 e et ρ L,nx⟩ ⟨ay l,js ml j n k e et ρ L,nx⟩:=fun k=>by
  induction k with
  |zero=>exact fun _=>.refl _
  |succ k ih=>exact fun hk=>(ih oG).trans (Zg h U C J rh hl oI oG)
 have h0:Ghost P ⟨env,m,nx⟩ ⟨ay l,js ml j n 0 e et ρ L,nx⟩:=by
  refine(Ghost.forget env _ m nx (lY he)).trans (.drop _ _ _ _ fun q=>?_);by_cases hq:q=j
  .subst hq;left;simp only[js,if_true,Nat.not_lt_zero,if_false];exact h.row.symm
  .simp only[js,if_neg hq];by_cases hc:∃ i,0<=i/\i<n/\L i≠[]/\ρ i=q
   .rw[dif_pos hc];have e1:=Classical.choose_spec hc;left;have:=h.jr _ e1.2.1 e1.2.2.1;rw[e1.2.2.2] at this;exact this.symm
   .rw[dif_neg hc];exact DD hm q
 refine h0.trans ((key n (Nat.le_refl _)).trans (.drop _ _ _ _ fun q=>.inl ?_));by_cases hq:q=j
 .subst hq;simp only[a9,js,if_true];congr 2;exact List.map_congr_left fun i hi=>by rw[if_pos (by simpa using hi)]
 .simp only[a9,if_neg hq,js];rw[dif_neg];rintro⟨i,g1,g2,_⟩;omega
end
section
variable{P:Program}{env:Env}{m:Mem}{nx:Nat}{x y:Operand}{t e:TypeId}{k:IntKind}
theorem Y7{w:List Int}{rest:List D}{sz:Nat}(h:w.length=sz):(w.map bc++rest).take sz=w.map bc:=by
 rw[List.take_append_of_le_length (by simp[h]),List.take_of_length_le (by simp[h])]
theorem abc{sz n i:Nat}{l:List (List Int)}{w:List Int}(hx:(opd env x).core=.sl (bk l) n)(hy:(opd env y).core=.s (.int k i))(he:elemP P t=e)(C:P.cellsOf e=sz)(hl:∀ w∈l,w.length=sz)(J:l[i]? =some w):
 Ef P (.indexAddr t x y) env m nx ⟨slT P t=true/\0<=(i:Int)/\(i:Int)<n/\((i:Int).toNat+1)*sz<=(bk l).length,.pt (w.map bc++bk (l.drop (i+1))),[],[],0⟩:=
 HW hx hy he C (by rw[Int.toNat_natCast];exact Ha hl J)
theorem abd{sz n i:Nat}{l:List (List Int)}{w:List Int}(ht:slT P t=true)(hl:∀ w∈l,w.length=sz)(C:l[i]? =some w)(hn:i<n):slT P t=true/\0<=(i:Int)/\(i:Int)<n/\((i:Int).toNat+1)*sz<=(bk l).length:=by
 have:=pD hl C;refine⟨ht,by omega,by omega,?_⟩;rw[Int.toNat_natCast,Nat.add_mul,Nat.one_mul];exact this
theorem mR{i:Nat}{cs:List D}{l:List (Nat×D)}(hm:m i=some (.cells cs e))(hl:iA l fun t=>sub (fz0 i cs (P.cellsOf e)) (env t)):Ghost P ⟨env,m,nx⟩ ⟨ay l,fun _=>none,nx⟩:=
 bp [(i,cs,e)] ⟨hm,trivial⟩ hl
theorem eW{l:List (Nat×D)}(hl:iA l env):Ghost P ⟨env,m,nx⟩ ⟨ay l,fun _=>none,nx⟩:=MA hl fun _=>.inr rfl
end
section
variable{P:Program}{env:Env}{m:Mem}{nx:Nat}{x y:Operand}{t e:TypeId}{k:IntKind}
theorem Zi{α:Type}{f:α->D}{l:List α}{b:Int}(hx:(opd env x).core=.sl (l.map f) l.length)(he:elemP P t=e)(J:P.cellsOf e=1)(hb:(opd env y).core=.s (.int .i64 b))(hc:slT P t=true)(C:0<=b/\b<=l.length):
 Ef P (.slice t x none (some y) none) env m nx ⟨True,.sl ((l.take b.toNat).map f) (l.take b.toNat).length,[],[],0⟩:=by
 have h:=yA (P:=P) (env:=env) (m:=m) (nx:=nx) (t:=t) (lo:=none) (hi:=some y) (a:=0) (b:=b) (es':=(l.take b.toNat).map f) hx he J (by simp[bndD]) (by simp[bndD,hb,D.int?]) (by simp[List.map_take])
 have h2:(slT P t=true/\(0:Int)<=0/\(0:Int)<=b/\b<=(l.length:Int))=True:=by
  apply propext;constructor
  .exact fun _=>trivial
  .exact fun _=>⟨hc,by omega,C.1,C.2⟩
 have h3:(b - 0).toNat=(l.take b.toNat).length:=by rw[List.length_take];omega
 rw[h2,h3] at h;exact h
theorem sW{i j sz:Nat}{C:List D}{r:Row}(J:j≠i)(hm:m j=some r)(h:Row.sub (fz0 i C sz) r=r):(if j=i then none else(m j).map (Row.sub (fz0 i C sz)))=some r:=by
 rw[if_neg J,hm];exact congrArg some h
theorem kF{i:Nat}{cs:List D}{l:List (Nat×D)}{ml:List (Nat×Row)}(hm:m i=some (.cells cs e))(hl:iA l fun t=>sub (fz0 i cs (P.cellsOf e)) (env t))(C:Bc ml fun j=>if j=i then none else(m j).map (Row.sub (fz0 i cs (P.cellsOf e)))):Ghost P ⟨env,m,nx⟩ ⟨ay l,a9 ml,nx⟩:=
 (Ghost.freeze env m nx i cs e hm).trans (aK hl C)
end
end Go.Abs
namespace Go.Argus
open Go.Proofs.Tryz.K (nextR)
def cS(b:Nat)(L:Nat->List Int)(t:Int):Nat->List Int:=up L t.toNat (L t.toNat++[(b:Int)])
def nQ(bs:List bt)(L:Nat->List Int)(b:Nat):Nat->List Int:=match bs[b]? with
 |none=>L
 |some x=>(nextR x.fin).foldl (cS b) L
def br(bs:List bt)(k:Nat):Nat->List Int:=(List.range k).foldl (nQ bs) fun _=>[]
def cu(bs:List bt):List (List Int):=(List.range bs.length).map (br bs bs.length)
def bd(L:List (List Int)):D:=.sl (L.map az) L.length
theorem nI(L:List (List Int)):Tr (bd L):=.sl (.map fun _=>cI _)
theorem GJ{F:Nat->List Int}{n:Nat}:(D.sl ((List.range n).map fun i=>.sl ((F i).map I) ((F i).map I).length) n)=bd ((List.range n).map F):=by
 unfold bd;rw[List.map_map,List.length_map,List.length_range];congr 1;exact List.map_congr_left fun i _=>by simp[az]
theorem CW{b:Nat}{L:Nat->List Int}{t:Int}{c:Nat}(h:∀ i,(L i).length<=c):∀ i,(cS b L t i).length<=c+1:=fun i=>by
 unfold cS;simp only[up];split
 .have:=h t.toNat;simp;omega
 .have:=h i;omega
theorem HD{L:Nat->List Int}{k:Nat}{l:List Int}:(fun i=>(up L k l i).map I)=up (fun i=>(L i).map I) k (l.map I):=by
 funext i;simp only[up];split<;>rfl
theorem mP{P:Nat->Bool}{n k:Nat}(hk:k<n)(h:P k=false):(List.range n).all P=false:=by
 refine Bool.eq_false_iff.2 fun ht=>?_;have:=List.all_eq_true.1 ht k (by simpa using hk);rw[h] at this;cases this
theorem j4{P:Nat->Bool}{k:Nat}(h:(List.range k).all P=true)(hk:P k=true):(List.range (k+1)).all P=true:=by
 rw[List.range_succ,List.all_append,h];simp[hk]
abbrev bW(l:List Bool):D:=.sl (l.map B) l.length
def iH:bt:=⟨[],⟨0,0,0,0,0,.empty,dh,[],[],0⟩⟩
def rN(bs:List bt)(s:CS)(b:Nat)(y:aW)(i:Nat):Bool:=
 let p:=((br bs bs.length b).getD i 0).toNat
 !(s.re.getD p false)||gW (fq (bs.getD p iH).fin b (g9 (bs.getD p iH) (s.ws.getD p [])).1) (y.args.getD i 0).toNat
def s8(bs:List bt)(s:CS)(b:Nat)(y:aW):Bool:=(List.range (br bs bs.length b).length).all (rN bs s b y)
def bx(y:aW):Bool:=y.op==19
def qg(bs:List bt)(s:CS)(b:Nat):Bool:=
 !(s.re.getD b false)||((g9 (bs.getD b iH) (s.ws.getD b [])).2&&((bs.getD b iH).ins.takeWhile bx).all (s8 bs s b))
def uw(bs:List bt)(args:Nat):Bool:=(List.range bs.length).all (qg bs (gf bs args))
theorem takeWhile_eq{α:Type}{p:α->Bool}{l:List α}{j:Nat}(h:∀ y∈l.take j,p y=true)(h':∀ y,l[j]? =some y->p y=false):l.takeWhile p=l.take j:=by
 induction l generalizing j with
 |nil=>simp
 |cons a l ih=>cases j with
  |zero=>have:=h' a rfl;simp[this]
  |succ j=>
   have ha:=h a oS;rw[List.takeWhile_cons,if_pos ha,List.take_succ_cons,ih (j:=j) (fun y hy=>h y (by simp[hy])) (fun y hy=>h' y (by simpa using hy))]
theorem Lh{b:Nat}{p:Int}:∀ {l:List Int} {L:Nat->List Int} {i:Nat},p∈(l.foldl (cS b) L) i↔p∈L i\/(p=b/\∃ t∈l,t.toNat=i)
 |[],L,i=>by simp
 |t::l,L,i=>by
  rw[List.foldl_cons,Lh (l:=l)];unfold cS;simp only[up];by_cases h:i=t.toNat
  .subst h;simp only[if_true,List.mem_append,List.mem_singleton];constructor
   .rintro((h|h)|⟨h,u,h1,h2⟩)
    .exact .inl h
    .exact .inr ⟨h,t,by simp,rfl⟩
    .exact .inr ⟨h,u,by simp[h1],h2⟩
   .rintro(h|⟨h,u,h1,h2⟩)
    .exact .inl (.inl h)
    .exact .inl (.inr h)
  .rw[if_neg h];constructor
   .rintro(h'|⟨h',u,h1,h2⟩)
    .exact .inl h'
    .exact .inr ⟨h',u,by simp[h1],h2⟩
   .rintro(h'|⟨h',u,h1,h2⟩)
    .exact .inl h'
    .rcases List.mem_cons.1 h1 with e|e
     .subst e;exact absurd h2.symm h
     .exact .inr ⟨h',u,e,h2⟩
theorem Ad{bs:List bt}{p:Int}{i:Nat}:∀ {k:Nat},p∈br bs k i↔∃ b:Nat,p=b/\b<k/\∃ x,bs[b]? =some x/\∃ t∈nextR x.fin,t.toNat=i
 |0=>by simp[br]
 |k+1=>by
  have ih:=Ad (bs:=bs) (p:=p) (i:=i) (k:=k);have e:br bs (k+1)=nQ bs (br bs k) k:=by rw[br,List.range_succ,List.foldl_append];rfl
  rw[e,nQ];cases hx:bs[k]? with
  |none=>
   simp only;rw[ih];constructor
   .rintro⟨b,h1,h2,h3⟩;exact⟨b,h1,by omega,h3⟩
   .rintro⟨b,h1,h2,x,h3,h4⟩;refine⟨b,h1,?_,x,h3,h4⟩;rcases Nat.lt_or_ge b k with g|g
    .exact g
    .have:b=k:=by omega
     subst this;rw[hx] at h3;cases h3
  |some x=>
   simp only;rw[Lh,ih];constructor
   .rintro(⟨b,h1,h2,h3⟩|⟨h1,h2⟩)
    .exact⟨b,h1,by omega,h3⟩
    .exact⟨k,h1,by omega,x,hx,h2⟩
   .rintro⟨b,h1,h2,C,h3,h4⟩;rcases Nat.lt_or_ge b k with g|g
    .exact .inl ⟨b,h1,g,C,h3,h4⟩
    .have:b=k:=by omega
     subst this;rw[hx] at h3;cases h3;exact .inr ⟨h1,h4⟩
theorem KX{bs:List bt}{n:Nat}(hb:∀ b∈bs,qF n b):∀ (k:Nat) {s:CS},eK n s->eK n (ll bs k s)
 |0,_,h=>h
 |k+1,s,h=>by
  rw[ll];split
  .exact KX hb k (Aa hb h).1
  .exact(Aa hb h).1
theorem Zh{bs:List bt}{args:Nat}(hb:∀ b∈bs,qF bs.length b)(C:∀ u∈gD args,c8 u):eK bs.length (gf bs args):=KX hb _ (FT C)
theorem LH{b:Nat}:∀ {l:List Int} {L:Nat->List Int} {c:Nat},(∀ i,(L i).length<=c)->∀ i,((l.foldl (cS b) L) i).length<=c+l.length
 |[],_,_,h,i=>h i
 |t::l,L,c,h,i=>by
  have:=LH (b:=b) (l:=l) (CW (t:=t) (b:=b) h) i;rw[List.foldl_cons,List.length_cons];omega
theorem CX{bs:List bt}(C:∀ b∈bs,b.fin.aE.length<=9):∀ (k i:Nat),(br bs k i).length<=12*k
 |0,_=>by simp[br]
 |k+1,i=>by
  have ih:=CX C k;have e:br bs (k+1)=nQ bs (br bs k) k:=by rw[br,List.range_succ,List.foldl_append];rfl
  rw[e,nQ];cases hx:bs[k]? with
  |none=>have:=ih i;simp only;omega
  |some x=>
   have h1:=LH (l:=nextR x.fin) (b:=k) ih i;have h2:=ur x.fin;have h3:=C x (List.mem_of_getElem? hx);simp only;omega
theorem CY{bs:List bt}{n k:Nat}(hn:bs.length=n)(hk:k<n):(cu bs)[k]? =some (br bs n k):=by
 subst hn;simp[cu,hk]
def pb(f:aA):Bool:=decide (f.result=1)||(decide (f.result=2)||(decide (f.result=0)&& !f.iter))
def lZ(f:aA):Bool:=
 ke f.name&&(cA f.args 0 (if(f.aj.length:Int)<6 then(f.aj.length:Int) else 6)&&(pb f&&(!decide ((1200:Int)<f.aj.length)&&(!decide ((60:Int)<f.aP.length)&&cA f.blocks.length 1 1200))))
def pk(f:aA):Bool:=
 dO f.aj 3&&(dO (f.aj.take f.args.toNat) 2&&(dO f.aP 2&&(!decide ((6:Int)<f.signals.length)&& !f.signals.any fun s=> !isName s)))
def rO(l:List ByteArray)(i:Nat):Bool:=Op.bytesLess (l.getD i .empty).toList (l.getD (i+1) .empty).toList
def l0(f:aA):Bool:=(List.range (f.signals.length - 1)).all (rO f.signals)
def j7(bs:List bt)(k:Nat):List Int:=((bs.take k).filter fun x=>x.fin.kind==7).map fun x=>x.fin.a
def iy(f:aA)(k:Nat):Bool:=
 let x:=f.blocks.getD k iH
 iC f x.fin&&(!decide ((200:Int)<x.ins.length)&& !(x.fin.kind==7&&(j7 f.blocks k).any (·==x.fin.a)))
def sV(f:aA)(b:Nat)(l:List aW)(j:Nat):Bool:=hD f b (l.getD j dh) ((l.take (j+1)).all bx) (br f.blocks f.blocks.length b).length
def qh(f:aA)(b:Nat):Bool:=(List.range (f.blocks.getD b iH).ins.length).all (sV f b (f.blocks.getD b iH).ins)
def hC(f:aA):Bool:=
 lZ f&&(pk f&&(l0 f&&((List.range f.blocks.length).all (iy f)&&(List.range f.blocks.length).all (qh f))))
def fN(f:aA):Int:=if hC f=true then(if uw f.blocks f.args.toNat=true then 0 else 81) else 80
def gU(l:List Int)(r:Int):Prop:=0<=r/\r<l.length
theorem jH{l:List Int}{r:Int}(h:bU l r≠0):gU l r:=Classical.byContradiction fun hn=>h (Gd hn)
theorem mS{l:List Int}{r:Int}(h:dG l r=true):gU l r:=by
 refine jH fun e=>?_;simp[dG,e] at h
theorem vY{l rs:List Int}(h:fm l rs=true):∀ r∈rs,gU l r:=fun r hr=>mS (List.all_eq_true.1 h r hr)
theorem GK{l:List Int}{r want J:Int}(h:kM l r want J=true)(C:want≠0):gU l r:=by
 unfold kM at h;rw[if_neg C] at h;split at h
 .refine jH fun e=>?_;simp[e] at h
 .split at h
  .refine jH fun e=>?_;simp[e] at h
  .split at h
   .exact mS h
   .refine jH fun e=>?_;simp[e] at h
structure TJ(l:List Int)(x:aW)(s:Shape):Prop where
 to:s.to≠0->gU l x.to
 a:s.a≠0->gU l x.a
 b:s.b≠0->gU l x.b
 args:s.args=5\/s.args=6->x.args.length<=6/\∀ r∈x.args,gU l r
theorem Ge{l:List Int}{x:aW}{s:Shape}(h:nM l x s=true):TJ l x s:=by
 unfold nM at h;simp only[Bool.and_eq_true] at h;obtain⟨h1,h2,h3,h4,_⟩:=h;refine⟨GK h1,GK h2,GK h3,fun C=>?_⟩;unfold o6 at h4;rcases C with C|C
 .rw[if_pos C,Bool.and_eq_true] at h4;have:=jF.1 h4.1;exact⟨by omega,vY h4.2⟩
 .rw[if_neg oG,if_pos C,Bool.and_eq_true] at h4;have:(x.args.length:Int)=1:=by simpa using h4.1
  exact⟨by omega,vY h4.2⟩
theorem FU{l:List (Int×Shape)}{op:Int}{s:Shape}(h:eF l op=some s):(op,s)∈l:=by
 unfold eF at h;rw[Option.map_eq_some_iff] at h;obtain⟨⟨o,s'⟩,h1,rfl⟩:=h;have h2:=List.find?_some h1;have h3:=List.mem_of_find?_eq_some h1;have:o=op:=by simpa using h2
 subst this;exact h3
theorem FV{l:List Int}{x:aW}{s:Shape}(hl:l.length<=1200)(hm:(x.op,s)∈mZ\/(x.op,s)∈iD)(h:TJ l x s):nU x:=by
 obtain⟨h1,h2,h3,h4⟩:=h;unfold gU at h1 h2 h3 h4;have hr:∀ {r:Int},0<=r/\r<l.length->0<=r/\r<1200:=fun h=>by omega
 have J:∀ {r:Int},0<=r/\r<l.length-> -1000000<=r/\r<1200:=fun h=>by omega
 obtain⟨op,to,a,b,n,args⟩:=x;dsimp only at h1 h2 h3 h4 hm;simp only[mZ,iD,List.mem_cons,Prod.mk.injEq,List.not_mem_nil,or_false] at hm;rcases hm with hm|hm
 .rcases hm with hm|hm|hm|hm|hm|hm|hm|hm|hm|hm|hm|hm|hm|hm|hm<;>obtain⟨rfl,rfl⟩:=hm<;>refine⟨fun r C=>?_,fun h=>?_,?_,fun h=>?_⟩<;>
   simp_all[bK,bM,aG,l5,po,kG,mU]<;>first|omega|(rcases C with rfl|rfl<;>omega)|(have:=h4.2 r C;omega)
 .rcases hm with hm|hm|hm|hm|hm|hm|hm|hm|hm<;>obtain⟨rfl,rfl⟩:=hm<;>refine⟨fun r C=>?_,fun h=>?_,?_,fun h=>?_⟩<;>
   simp_all[bK,bM,aG,l5,po,kG,mU]<;>first|omega|(rcases C with rfl|rfl<;>omega)|(rcases C with rfl|rfl|C<;>first|omega|(have:=h4.2 r C;omega))
theorem lX{a b:Int}:aM a b=true↔a=b:=by simp[aM]
theorem Hf{l aP:List Int}{r n:Int}(C:∀ k∈aP,k≠0)(h:kO l aP r n=true):gU l r/\0<=n/\n<aP.length:=by
 unfold kO at h;rw[Bool.and_eq_true,jF] at h;obtain⟨⟨h1,h2⟩,h3⟩:=h
 have h4:bU aP n≠0:=by
  obtain⟨k,rfl⟩:=Int.eq_ofNat_of_zero_le h1;have hk:k<aP.length:=by omega
  rw[rI (List.getElem?_eq_getElem hk)];exact C _ (List.getElem_mem hk)
 refine⟨jH ?_,h1,by omega⟩;rw[show bU l r=bU aP n by simpa using h3];exact h4
theorem FW{f:aA}{b ahead:Int}{x:aW}{phis:Bool}(hl:f.aj.length<=1200)(C:∀ k∈f.aP,k≠0)(fM:f.aP.length<=60)(h:hD f b x phis ahead=true):
 nU x/\(x.op=19->(x.args.length:Int)=ahead/\phis=true/\0<b/\gU f.aj x.to/\∀ r∈x.args,bU f.aj r=bU f.aj x.to/\gU f.aj r):=by
 unfold hD at h;split at h
 .rename_i oU;simp only[Bool.and_eq_true,lX] at h;have hr:=jH (l:=f.aj) (r:=x.a) oG;unfold gU at hr;refine⟨⟨fun r h'=>?_,fun h'=>by omega,?_,fun h'=>by omega⟩,fun h'=>by omega⟩
  .simp[bK,aG,l5,oU] at h';omega
  .simp[bM,aG,kG,mU,oU]
 .rename_i oU;split at h
  .rename_i X;simp only[Bool.and_eq_true,lX] at h;obtain⟨h1,h2,h3⟩:=Hf C h.2.2.2;unfold gU at h1;refine⟨⟨fun r h'=>?_,fun h'=>by omega,?_,fun h'=>by omega⟩,fun h'=>by omega⟩
   .simp[bK,aG,l5,po,X] at h'
   .simp[bM,aG,kG,X];omega
  .rename_i X;split at h
   .rename_i U;simp only[Bool.and_eq_true,lX] at h;obtain⟨h1,h2,h3⟩:=Hf C h.2.2.2;unfold gU at h1;refine⟨⟨fun r h'=>?_,fun h'=>by omega,?_,fun h'=>by omega⟩,fun h'=>by omega⟩
    .simp[bK,aG,l5,U] at h';omega
    .simp[bM,aG,kG,mU,U]
   .rename_i U;split at h
    .rename_i J;simp only[Bool.and_eq_true,lX,decide_eq_true_eq] at h;obtain⟨g1,g2,g3,g4,g5,g6,g7,g8⟩:=h;have hr:=mS g3;have hk:bU f.aj x.to≠0:=fun e=>by simp[dG,e] at g3
     refine⟨⟨fun r h'=>?_,fun h'=>by omega,?_,fun h'=>by omega⟩,fun _=>⟨g7,g1,g2,hr,fun r fB=>?_⟩⟩
     .simp[bK,aG,l5,po,J] at h'
     .unfold gU at hr;simp[bM,aG,kG,J];omega
     .have:aM (bU f.aj r) (bU f.aj x.to)=true:=by
       simp only[Bool.not_eq_true',List.any_eq_false] at g8;simpa using g8 r fB
      rw[lX] at this;exact⟨this,jH (by rw[this];exact hk)⟩
    .rename_i J;rw[Bool.and_eq_true] at h;cases C:eF mZ x.op with
     |none=>rw[C] at h;simp at h
     |some s=>
      rw[C] at h;exact⟨FV hl (.inl (FU C)) (Ge h.2),fun h'=>absurd h' J⟩
structure D'(f:aA)(x:End):Prop where
 fin:y4 x
 wh:x.aE.length<=7
 to:∀ t∈cz x,0<=t/\t<f.blocks.length
theorem F3{f:aA}{x:End}(h:lp f x=true):x.aE.length<=7/\(∀ w∈x.aE,0<=w.to/\w.to<f.blocks.length)/\(0<=x.cm->x.cm<f.blocks.length):=by
 unfold lp at h;rw[Bool.and_eq_true,Bool.and_eq_true] at h;obtain⟨h1,h2,h3⟩:=h;have h2:(x.aE.length:Int)<=7:=by simpa using h2
 refine⟨by omega,fun w C=>?_,fun h0=>?_⟩
 .obtain⟨i,hi⟩:=List.getElem?_of_mem C;have hm:(w,i)∈x.aE.zipIdx:=List.mem_zipIdx_iff_getElem?.2 hi;have:=List.all_eq_true.1 h1 _ hm;simp only[na,Bool.and_eq_true,bN,jF] at this;omega
 .rw[Bool.or_eq_true] at h3;rcases h3 with h3|h3
  .have:x.cm= -1:=by simpa using h3
   omega
  .rw[bN,jF] at h3;omega
theorem Nn{x:End}(h:wL x=true):x.kind=0/\x.a=0/\x.b=0/\x.to=0/\x.eL=0/\x.cm= -1/\x.args.length=0/\x.aE.length=0:=by
 simp only[wL,Bool.and_eq_true,decide_eq_true_eq] at h;omega
theorem GL{f:aA}{x:End}(hl:f.aj.length<=1200)(hr:pb f=true)(h:iC f x=true):D' f x:=by
 have jT:∀ {r:Int},gU f.aj r->0<=r/\r<1200:=fun h=>by unfold gU at h;omega
 unfold iC at h;rw[Bool.and_eq_true] at h;obtain⟨h,hb⟩:=h;have hb:=Nn hb;have X:∀ {t:Int},bN f t=true->0<=t/\t<f.blocks.length:=fun h=>by rw[bN,jF] at h;omega
 obtain⟨kind,a,b,to,eL,name,ins,args,aE,cm⟩:=x;simp only[eO] at h hb;by_cases h1:kind=1
 .subst h1;simp only[if_true] at h hb;have J:=X h;have C:aE=[]:=List.length_eq_zero_iff.1 hb.2.2.2.2.2.2.2;subst C;refine⟨⟨fun r h'=>?_,?_,by simp,by simp,by simp⟩,by simp,fun t ht=>?_⟩
  .simp[bJ,aG] at h'
  .simp[dp,aG]
  .simp[cz,fX,aG] at ht;subst ht;exact J
 by_cases h2:kind=2
 .subst h2;simp only[Int.reduceEq,if_false,if_true,Bool.and_eq_true,lX] at h hb;have C:aE=[]:=List.length_eq_zero_iff.1 hb.2.2.2.2.2.2.2;subst C;have zV:=jT (jH (l:=f.aj) (r:=a) oG);have J:=X h.2.1;have Cs:=X h.2.2;refine⟨⟨fun r h'=>?_,?_,by simp,by simp,by simp⟩,by simp,fun t ht=>?_⟩
  .simp[bJ,aG] at h';subst h';exact zV
  .simp[dp,aG]
  .simp[cz,fX,aG] at ht;rcases ht with rfl|rfl
   .exact J
   .exact Cs
 by_cases h3:kind=3
 .subst h3;simp only[Int.reduceEq,if_false,if_true] at h hb;have C:aE=[]:=List.length_eq_zero_iff.1 hb.2.2.2.2.2.2.2;subst C;refine⟨⟨fun r h'=>?_,?_,by simp,by simp,by simp⟩,by simp,fun t ht=>?_⟩
  .simp[bJ,aG] at h';obtain⟨h1,rfl⟩:=h';split at h
   .rename_i hc;rw[lX] at h;exact jT (jH (by rw[h];exact hc.1))
   .rw[lX] at h;exact absurd h h1
  .simp[dp,aG]
  .simp[cz,aG] at ht
 by_cases h4:kind=4
 .subst h4;simp only[Int.reduceEq,if_false,if_true] at h hb;have C:aE=[]:=List.length_eq_zero_iff.1 hb.2.2.2.2.2.2.2;subst C;refine⟨⟨fun r h'=>?_,?_,by simp,by simp,by simp⟩,by simp,fun t ht=>?_⟩
  .simp[bJ,aG] at h'
  .simp[dp,aG]
  .simp[cz,aG] at ht
 by_cases h5:kind=5
 .subst h5;simp only[Int.reduceEq,if_false,if_true,Bool.and_eq_true] at h hb;obtain⟨g1,g2,g3,U⟩:=h;obtain⟨lQ,vH,Ct⟩:=F3 U;have J:=X g3
  have hi:nU ins:=by
   cases hs:eF iD ins.op with
   |none=>rw[hs] at g1;simp at g1
   |some s=>rw[hs] at g2;exact FV hl (.inr (FU hs)) (Ge g2)
  refine⟨⟨fun r h'=>?_,?_,?_,fun _=>hi.ar,by simp⟩,lQ,fun t ht=>?_⟩
  .simp[bJ,aG] at h';exact hi.rd r h'
  .simp only[dp,if_true];exact hi.wr
  .dsimp only at lQ ⊢;omega
  .simp[cz,fX,aG] at ht;rcases ht with rfl|⟨w,C,rfl⟩|⟨h0,rfl⟩
   .exact J
   .exact vH w C
   .exact⟨h0,Ct h0⟩
 by_cases h6:kind=6
 .subst h6;simp only[Int.reduceEq,if_false,if_true,Bool.and_eq_true,Bool.or_eq_true,lX,decide_eq_true_eq] at h hb;obtain⟨g1,g2,g3,U,g5,g6⟩:=h;obtain⟨lQ,vH,Ct⟩:=F3 g6;have J:=X g5;have hv:=vY g3;refine⟨⟨fun r h'=>?_,?_,?_,by simp,fun _=>?_⟩,lQ,fun t ht=>?_⟩
  .simp[bJ,aG] at h';exact jT (hv r h')
  .simp only[dp,aG];rcases U with U|U
   .simp[U]
   .have:=jT (mS U);simp;omega
  .dsimp only at lQ ⊢;omega
  .dsimp only;omega
  .simp[cz,fX,aG] at ht;rcases ht with rfl|⟨w,C,rfl⟩|⟨h0,rfl⟩
   .exact J
   .exact vH w C
   .exact⟨h0,Ct h0⟩
 by_cases h7:kind=7
 .subst h7;simp only[Int.reduceEq,if_false,if_true,Bool.and_eq_true,lX,decide_eq_true_eq] at h hb;obtain⟨g1,g2,g3,U,g5⟩:=h;have C:aE=[]:=List.length_eq_zero_iff.1 hb.2.2.2.2.2.2.2;subst C;have J:=X g5;have hv:=vY g3;have zV:=jT (jH (l:=f.aj) (r:=a) oG);refine⟨⟨fun r h'=>?_,?_,by simp,by simp,fun _=>?_⟩,by simp,fun t ht=>?_⟩
  .simp[bJ,aG] at h';exact jT (hv r h')
  .simp only[dp,aG];simp;omega
  .dsimp only;omega
  .simp[cz,fX,aG] at ht;subst ht;exact J
 by_cases h8:kind=8
 .subst h8;simp only[Int.reduceEq,if_false,if_true,Bool.and_eq_true,lX] at h hb;obtain⟨g1,g2,g3,U,g5⟩:=h;obtain⟨lQ,vH,Ct⟩:=F3 g5;have J:=X g3;have Cs:=X U;have zV:=jT (jH (l:=f.aj) (r:=a) oG);have hrb:=jT (mS g2);refine⟨⟨fun r h'=>?_,?_,?_,by simp,by simp⟩,lQ,fun t ht=>?_⟩
  .simp[bJ,aG] at h';subst h';exact zV
  .simp[dp,aG];omega
  .dsimp only at lQ ⊢;omega
  .simp[cz,fX,aG] at ht;rcases ht with rfl|rfl|⟨w,C,rfl⟩|⟨h0,rfl⟩
   .exact J
   .exact Cs
   .exact vH w C
   .exact⟨h0,Ct h0⟩
 by_cases h9:kind=9
 .subst h9;simp only[Int.reduceEq,if_false,if_true,Bool.and_eq_true,lX] at h hb;obtain⟨g1,g2,g3⟩:=h;have C:aE=[]:=List.length_eq_zero_iff.1 hb.2.2.2.2.2.2.2;subst C;have J:=X g3
  have zV:=jT (jH (l:=f.aj) (r:=a) (by
   rw[g2];intro e
   simp[pb,e,g1] at hr))
  refine⟨⟨fun r h'=>?_,?_,by simp,by simp,by simp⟩,by simp,fun t ht=>?_⟩
  .simp[bJ,aG] at h';subst h';exact zV
  .simp[dp,aG]
  .simp[cz,fX,aG] at ht;subst ht;exact J
 .simp[h1,h2,h3,h4,h5,h6,h7,h8,h9] at h
end Go.Argus
namespace Go.Proofs.Tryz.K
set_option maxRecDepth 10000
set_option maxHeartbeats 1000000 in
theorem zT{p q:D}{f:aA}{n:Nat}(hp:Tr p)(hq:Tr q)(eS:p.one=true)(eB:q.one=true)(hn:f.blocks.length=n)(lO:n<=100000)(hw:∀ b∈f.blocks,b.fin.aE.length<=9)(ht:∀ b∈f.blocks,∀ t∈nextR b.fin,0<=t/\t<n):
 PCall prog 97 [.agg (bh p q f)] (bd (cu f.blocks)):=by
 have aR:∀ a∈[D.agg (bh p q f)],Tr a:=.cons (lq hp hq f) .nil;refine aX mixed TG (by rw[ajy];rfl) aR (nI _) ?_;rw[ajz,ajA];refine av ?_;refine ag ?_;refine ab (aJ (bp [(0,bh p q f,133)] eH (l:=[(1,.pt (bh p q f))]) eH) (av ?_));refine bD ?_;have cY:((f.blocks.length:Nat):Int).toNat=n:=hn;refine ab (aJ (aK (l:=[(1,.pt (bh p q f)),(3,.rs 1 0 n)]) (ml:=[(1,.cells (List.replicate n .z) 27)]) ⟨rfl,congrArg (fun k=>D.rs 1 0 k) cY,trivial⟩ ⟨?_,trivial⟩) (aD (av ?_)))
 .exact congrArg (fun c=>some (Row.cells c 27)) ((congrArg (fun k=>replD k [D.z]) cY).trans (DG n))
 refine aV ?_
 refine ab (bG (fun s=>∃ m nx ρ,Ghost prog s ⟨ay [(3,.rs 1 0 n)],m,nx⟩/\fF m nx 1 n 27 3 ρ (fun i=>(br f.blocks n i).map I)) (dq (α:=Nat×Mem×Nat)
  (fun k=>⟨ay [(1,.pt (bh p q f)),(3,.rs 1 0 n),(15,eE f.blocks),(16,I n),(17,I k.1)],k.2.1,k.2.2⟩)
  (fun k=>k.1<=n/\(∃ ρ,fF k.2.1 k.2.2 1 n 27 3 ρ (fun i=>(br f.blocks k.1 i).map I))/\∀ i,(br f.blocks k.1 i).length<=12*k.1) (fun k=>n - k.1) (0,a9 [(1,.cells (List.replicate n .z) 27)],2)
  (ap ⟨rfl,rfl,rfl,congrArg (fun k:Nat=>I k) hn,rfl,trivial⟩) ⟨Nat.zero_le _,⟨fun _=>0,GI (show 1<2 by decide) rfl⟩,fun _=>Nat.le_refl _⟩ ?_) ?_)
 .rintro⟨k,m,nx⟩ ⟨hk,⟨ρ,C⟩,hlen⟩;dsimp only at hk C hlen ⊢;have aq:=C.row;have bZ:=C.jx;refine SS ?_;refine ab ⟨_,rfl,fun h=>?_,fun h=>?_⟩
  .have ao:k<n:=by simpa using h
   have hx:f.blocks[k]? =some f.blocks[k]:=List.getElem?_eq_getElem oG;have bI:f.blocks[k]∈f.blocks:=List.getElem_mem _;generalize f.blocks[k]=x at hx bI
   have bL:br f.blocks (k+1)=(nextR x.fin).foldl (cS k) (br f.blocks k):=by
    rw[br,List.range_succ,List.foldl_append];show nQ f.blocks _ k=_;rw[nQ,hx];rfl
   generalize br f.blocks k=L0 at C hlen aq bL;refine ws ?_;refine bD ?_;have tz:=tz (x:=x.fin);have tA:=Pt (x:=x.fin) (hw x bI)
   change PCall _ _ _ (az (nextR x.fin)) at tA
   have cZ:=ht x bI;have eT:=ur x.fin;have zO:=hw x bI;generalize nextR x.fin=l at tA cZ eT bL;refine ab (av ?_);refine SS ?_;refine aB (cP (vs:=aT _) rfl (up_same _ _ _) V.h V.h rfl) ak (cQ V.h V.h (by first|(simp;done)|omega|exact Nat.le_of_ble_eq_true rfl)) ?_;refine cl tz ?_;refine cl tA ?_;refine ag ?_
   refine ab (dq (α:=Nat×Mem×Nat)
    (fun j=>⟨ay [(1,.pt (bh p q f)),(3,.rs 1 0 n),(4,I k),(15,eE f.blocks),(16,I n),(17,I k),(25,az l),(26,I l.length),(27,I j.1)],j.2.1,j.2.2⟩)
    (fun j=>j.1<=l.length/\(∃ ρ,fF j.2.1 j.2.2 1 n 27 3 ρ (fun i=>((l.take j.1).foldl (cS k) L0 i).map I))/\∀ i,((l.take j.1).foldl (cS k) L0 i).length<=12*k+j.1) (fun j=>l.length - j.1) (0,up m nx (some (.cells (cR x) 72)),nx+1)
    (gO eH (jN _ _ _ _)) ⟨Nat.zero_le _,⟨ρ,C.ext (fun q hq=>af oG rfl) oM⟩,hlen⟩ ?_)
   clear C aq hlen;rintro⟨j,m,nx⟩ ⟨hj,⟨ρ,C⟩,hlen⟩;dsimp only at hj C hlen ⊢;have aq:=C.row;have bZ:=C.jx;have X:∀ t,l[j]? =some t->(l.take (j+1)).foldl (cS k) L0=cS k ((l.take j).foldl (cS k) L0) t:=fun t ht=>kE ht;have m9:j=l.length->(l.take j).foldl (cS k) L0=br f.blocks (k+1):=fun e=>by rw[bL,List.take_of_length_le oG]
   generalize (l.take j).foldl (cS k) L0=L at C hlen aq X m9;refine SS ?_;refine ab ⟨_,rfl,fun h=>?_,fun h=>?_⟩
   .have u7:j<l.length:=by simpa using h
    have tS:l[j]? =some l[j]:=List.getElem?_eq_getElem u7;have mM:=cZ _ (List.getElem_mem u7);generalize l[j]=t at tS mM;obtain⟨i,rfl⟩:=Int.eq_ofNat_of_zero_le mM.1;have J:i<n:=by omega
    have hL:=hlen i;have X:(l.take (j+1)).foldl (cS k) L0=up L i (L i++[(k:Int)]):=X _ tS
    have qE:∀ i,((l.take (j+1)).foldl (cS k) L0 i).length<=12*k+(j+1):=fun a=>by
     rw[X];exact CW (t:=(i:Int)) hlen a
    have vF:(fun a=>((l.take (j+1)).foldl (cS k) L0 a).map I)=up (fun a=>(L a).map I) i ((L i++[(k:Int)]).map I):=by rw[X];exact HD
    obtain⟨cs,kd⟩:=GH (ρ:=ρ) (L:=fun i=>(L i).map I) J;refine ws ?_;refine aw ?_;refine ab (dJ ?_);by_cases hz:L i=[]
    .have rk:jc (ρ i) ((L i).map I)=.z:=by rw[hz];rfl
     rw[rk] at kd;refine aL ?_;refine ag ?_;refine ab ?_;refine ag ?_;refine ab (aH (j+1,up (up (up m nx (some (.cells [I k] 3))) (nx+1) (some (.cells [I k] 3))) 1 (some (.cells ((mB ρ (fun i=>(L i).map I) n).set i (.rs (nx+1) 0 1)) 27)),nx+2) (ap eH) ⟨by dsimp only;omega,⟨up ρ i (nx+1),?_⟩,qE⟩ oM);dsimp only;rw[vF];refine C.zP J oS oG oG ?_ ?_ (fun q hq oQ _=>?_)
     .rw[hz];exact up_same _ _ _
     .rw[hz];exact af oG (up_same _ _ _)
     .exact af oG (af oG (af oG rfl))
    .have U:(L i).map I≠[]:=by simpa using hz
     have rk:jc (ρ i) ((L i).map I)=.rs (ρ i) 0 (L i).length:=by rw[pE U,List.length_map]
     rw[rk] at kd;have bX:=C.jr i J U;have zU:=C.lt i J U;have Vb:=C.ne i J U;refine aL ?_;refine ag ?_;refine ab ?_;refine ag ?_;refine ab (aH (j+1,up (up (up (up m nx (some (.cells [I k] 3))) (ρ i) none) (nx+1) (some (.cells ((L i).map I++[I k]) 3))) 1 (some (.cells ((mB ρ (fun i=>(L i).map I) n).set i (.rs (nx+1) 0 ((L i).length+1))) 27)),nx+2) (ap eH) ⟨by dsimp only;omega,⟨up ρ i (nx+1),?_⟩,qE⟩ oM);dsimp only;rw[vF];refine C.zP J oS oG oG ?_ ?_ (fun q hq oQ mJ=>?_)
     .rw[List.length_map,List.length_append];exact up_same _ _ _
     .rw[List.map_append];exact af oG (up_same _ _ _)
     .have:=mJ U;exact af oG (af oG (af oG (af oG rfl)))
   .have aY:¬ j<l.length:=by simpa using h
    have vl:=m9 oG;subst vl;show AOps _ _ _ _ _ _ _ _ _;refine ag ?_;refine ab (aH (k+1,m,nx) (ap eH) ⟨by dsimp only;omega,⟨ρ,C⟩,fun i=>by have:=hlen i;dsimp only at this ⊢;omega⟩ oM)
  .have aY:¬ k<n:=by simpa using h
   have:k=n:=by omega
   subst this;exact⟨m,nx,ρ,ap eH,C⟩
 .rintro s ⟨m,nx,ρ,hg,C⟩;have rh:¬ ∃ i,i<n/\(br f.blocks n i).map I≠[]/\ρ i=1:=fun⟨i,h1,h2,h3⟩=>C.ne i h1 h2 h3;refine⟨_,hg.trans (Gc (l:=[(3,.rs 1 0 n)]) (ml:=[]) (fun r=>∃ i,i<n/\(br f.blocks n i).map I≠[]/\ρ i=r) C (fun _=>.map) c3 (fun i h1 h2=>⟨i,h1,h2,rfl⟩) rh ⟨rfl,trivial⟩ (fun x hx=>?_) trivial (fun x hx=>by cases hx)),av ?_⟩
  .simp at hx;subst hx;exact .rs rh
  refine ag ?_;refine ab (aJ (bp [(1,_,27)] eH (l:=[(2,bd (cu f.blocks))]) ⟨?_,trivial⟩) (ax rfl rfl));show sub (fz0 1 _ (prog.cellsOf 27)) (D.rs 1 0 n)=_;rw[gv (by rw[sK];simp),GJ,cu,hn]
set_option maxHeartbeats 1000000 in
theorem Es{p q:D}{f:aA}{n args:Nat}(hp:Tr p)(hq:Tr q)(eS:p.one=true)(eB:q.one=true)(hn:f.blocks.length=n)(oJ:0<n)(lO:n<=100000)(ha:f.args=args)(q0:args<=1000)(zM:∀ u∈gD args,c8 u)(hb:∀ b∈f.blocks,qF n b)
 (wY:∀ b x,f.blocks[b]? =some x->∀ y∈x.ins,y.op=19->y.args.length=(br f.blocks n b).length/\∀ r∈y.args,0<=r/\r<1280):
 PCall prog 154 [.agg (bh p q f)] (B (uw f.blocks args)):=by
 have aR:∀ a∈[D.agg (bh p q f)],Tr a:=.cons (lq hp hq f) .nil;have zm:=zm hp hq eS eB hn oJ lO ha q0 zM hb;have zT:=zT hp hq eS eB hn lO (fun b h=>(hb b h).fin.wh) (fun b h=>(hb b h).to);have TI:eK n (gf f.blocks args):=by subst hn;exact Zh hb zM
 refine aX mixed RP (by rw[adU];rfl) aR (.s _) ?_;rw[adV,adW];refine av ?_;refine ag ?_;refine ab (aJ (bp [(0,bh p q f,133)] eH (l:=[(1,.pt (bh p q f))]) eH) ?_);have lF:uw f.blocks args=(List.range n).all (qg f.blocks (gf f.blocks args)):=by rw[uw,hn]
 rw[lF];clear lF;generalize gf f.blocks args=R at zm TI ⊢;obtain⟨lw,lr,iU,rg⟩:=TI;have zm:PCall prog 197 [.agg (bh p q f)] (.tup [.sl (bk R.ws) n,bW R.re]):=by unfold bW;rw[lr];exact zm
 show AW _ _ _ _ (scopeQ _) _;refine ws ?_;refine SS ?_;refine cl zm ?_;refine aV ?_;refine ab (av ?_);refine SS ?_;refine cl zT ?_;refine SS ?_;refine ab (aJ (eW (l:=[(1,.pt (bh p q f)),(3,.sl (bk R.ws) n),(4,bW R.re),(5,bd (cu f.blocks))]) eH) (Wz (aD (av ?_))));refine aV ?_
 refine ab (bG (fun s=>(List.range n).all (qg f.blocks R)=true) (dq (α:=Nat×Nat)
  (fun k=>⟨ay [(1,.pt (bh p q f)),(3,.sl (bk R.ws) n),(4,bW R.re),(5,bd (cu f.blocks)),(25,eE f.blocks),(26,I n),(27,I k.1)],fun _=>none,k.2⟩)
  (fun k=>k.1<=n/\(List.range k.1).all (qg f.blocks R)=true) (fun k=>n - k.1) (0,1) (eW ⟨rfl,rfl,rfl,rfl,rfl,congrArg (fun k:Nat=>I k) hn,rfl,trivial⟩) ⟨Nat.zero_le _,rfl⟩ ?_) ?_)
 .rintro⟨k,N⟩ ⟨hk,bH⟩;dsimp only at hk bH ⊢;refine SS ?_;refine ab ⟨_,rfl,fun h=>?_,fun h=>?_⟩
  .have ao:k<n:=by simpa using h
   have hx:f.blocks[k]? =some f.blocks[k]:=List.getElem?_eq_getElem oG;have bI:f.blocks[k]∈f.blocks:=List.getElem_mem _;generalize f.blocks[k]=x at hx bI;have gq:=hb x bI;have oR:=wY k x hx;have hw:R.ws[k]? =some R.ws[k]:=List.getElem?_eq_getElem oG;have gN:R.re[k]? =some R.re[k]:=List.getElem?_eq_getElem oG;have lb:=iU _ (List.getElem_mem (h:=by omega):R.ws[k]∈R.ws)
   have U:qg f.blocks R k=(!R.re[k]||((g9 x R.ws[k]).2&&(x.ins.takeWhile bx).all (s8 f.blocks R k))):=by
    rw[qg,getD_some hw,getD_some gN,getD_some hx]
   generalize R.ws[k]=w at hw lb U;generalize R.re[k]=b at gN U;refine av ?_;refine bD ?_;refine ab (aJ (mR (i:=N) (l:=[(1,.pt (bh p q f)),(3,.sl (bk R.ws) n),(4,bW R.re),(5,bd (cu f.blocks)),(6,I k),(7,.pt (cR x)),(25,eE f.blocks),(26,I n),(27,I k)]) (up_same _ _ _) ⟨rfl,rfl,rfl,rfl,rfl,lC,rfl,rfl,rfl,trivial⟩) (aD (an ?_)));refine aV ?_;refine ab (bC rfl (fun h=>qc (wC ?_)) fun h=>cx (aD (mQ XU ?_)))
   .have JZ:b=false:=by simpa using h
    subst JZ;refine ag ?_;refine ab (aH (k+1,N+1) (eW eH) ⟨by dsimp only;omega,j4 bH (by rw[U];rfl)⟩ oM)
   have zN:b=true:=by simpa using h
   subst zN;have mA:=mA lb gq.len gq.ins gq.fin gq.rl gq.rf;have tB:=FN x w;rw[lb] at tB;generalize g9 x w=th at mA U tB;obtain⟨w1,ok⟩:=th;dsimp only at mA U tB;refine aV ?_;refine cl mA ?_;refine bD ?_;refine bj (by simp[apartT]) (aJ (eW (l:=[(1,.pt (bh p q f)),(3,.sl (bk R.ws) n),(4,bW R.re),(5,bd (cu f.blocks)),(6,I k),(7,.pt (cR x)),(9,B ok),(25,eE f.blocks),(26,I n),(27,I k)]) eH) (aD (an ?_)));refine ag ?_;refine ab (bC rfl (fun h=>?_) fun h=>cx (av ?_))
   .have bf:ok=false:=by simpa using h
    subst bf;refine aD (an ?_);refine SS ?_;refine ab (dx (b7 (aQ (G7 (ax (d:=B false) rfl ?_)))));rw[mP ao (by rw[U];rfl)]
   have bf:ok=true:=by simpa using h
   subst bf;have U:qg f.blocks R k=(x.ins.takeWhile bx).all (s8 f.blocks R k):=U;refine aF ?_;have eT:=gq.len
   refine ab (dq (α:=Nat×Nat)
    (fun j=>⟨ay [(1,.pt (bh p q f)),(3,.sl (bk R.ws) n),(4,bW R.re),(5,bd (cu f.blocks)),(6,I k),(25,eE f.blocks),(26,I n),(27,I k),(49,dt x.ins),(50,I x.ins.length),(51,I j.1)],fun _=>none,j.2⟩)
    (fun j=>j.1<=x.ins.length/\(∀ y∈x.ins.take j.1,bx y=true)/\(x.ins.take j.1).all (s8 f.blocks R k)=true) (fun j=>x.ins.length - j.1) (0,_) (eW eH) ⟨Nat.zero_le _,by simp,by simp⟩ ?_)
   rintro⟨j,N⟩ ⟨hj,zn,BM⟩;dsimp only at hj zn BM ⊢;refine SS ?_;refine ab ⟨_,rfl,fun h=>?_,fun h=>?_⟩
   .have bZ:j<x.ins.length:=by simpa using h
    have hy:x.ins[j]? =some x.ins[j]:=List.getElem?_eq_getElem bZ;have gY:x.ins[j]∈x.ins:=List.getElem_mem bZ;generalize x.ins[j]=y at hy gY;refine av ?_;refine aF ?_;refine ab (aJ (mR (i:=N) (l:=[(1,.pt (bh p q f)),(3,.sl (bk R.ws) n),(4,bW R.re),(5,bd (cu f.blocks)),(6,I k),(11,.pt (a8 y)),(25,eE f.blocks),(26,I n),(27,I k),(49,dt x.ins),(50,I x.ins.length),(51,I j)]) (up_same _ _ _) ⟨rfl,rfl,rfl,rfl,rfl,lC,rfl,rfl,rfl,rfl,rfl,rfl,trivial⟩) (aD (an ?_)));refine aw ?_;refine ab (bC rfl (fun h=>qc (abW oC oC (wC ?_))) fun h=>cx (av ?_))
    .have aI:y.op≠19:=by simpa using h
     refine ag ?_;refine ab (aH (k+1,_) (eW eH) ⟨by dsimp only;omega,j4 bH ?_⟩ oM);rw[U,takeWhile_eq zn (fun y' h'=>by rw[hy] at h';cases h';simpa[bx] using aI)];exact BM
    have dF:y.op=19:=by simpa using h
    obtain⟨nA,Cp⟩:=oR y gY dF;have hA:=CY hn ao
    have Cq:∀ p∈br f.blocks n k,∃ C:Nat,p=C/\C<n:=fun p hp=>by
     obtain⟨b,h1,h2,_⟩:=Ad.1 hp;exact⟨b,h1,h2⟩
    have J1:s8 f.blocks R k y=(List.range (br f.blocks n k).length).all (rN f.blocks R k y):=by rw[s8,hn]
    have J:∀ i,rN f.blocks R k y i=(!(R.re.getD ((br f.blocks n k).getD i 0).toNat false)||gW (fq (f.blocks.getD ((br f.blocks n k).getD i 0).toNat iH).fin k (g9 (f.blocks.getD ((br f.blocks n k).getD i 0).toNat iH) (R.ws.getD ((br f.blocks n k).getD i 0).toNat [])).1) (y.args.getD i 0).toNat):=fun i=>by rw[rN,hn]
    have vG:=CX (fun b h=>(hb b h).fin.wh) n k;generalize br f.blocks n k=A at nA hA Cq J1 J vG
    have abk:∀ i,i<A.length->rN f.blocks R k y i=false->(List.range n).all (qg f.blocks R)=false:=fun i hi he=>by
     refine mP ao ?_;rw[U];refine Bool.eq_false_iff.2 fun ht=>?_
     have ajI:y∈x.ins.takeWhile bx:=by
      have:x.ins.take (j+1)=x.ins.take j++[y]:=by rw[List.take_add_one,hy];rfl
      have h2:x.ins=x.ins.take (j+1)++x.ins.drop (j+1):=(List.take_append_drop _ _).symm;rw[h2,this,List.takeWhile_append_of_pos]
      .simp
      .intro z hz;rcases List.mem_append.1 hz with h|h
       .exact zn z h
       .rw[List.mem_singleton.1 h];simp[bx,dF]
     have:=List.all_eq_true.1 ht y ajI;rw[J1,mP hi he] at this;cases this
    refine bD ?_
    refine ab (dq (α:=Nat×Nat)
     (fun i=>⟨ay [(1,.pt (bh p q f)),(3,.sl (bk R.ws) n),(4,bW R.re),(5,bd (cu f.blocks)),(6,I k),(11,.pt (a8 y)),(25,eE f.blocks),(26,I n),(27,I k),(49,dt x.ins),(50,I x.ins.length),(51,I j),(61,az A),(62,I A.length),(63,I i.1)],fun _=>none,i.2⟩)
     (fun i=>i.1<=A.length/\(List.range i.1).all (rN f.blocks R k y)=true) (fun i=>A.length - i.1) (0,_) (eW eH) ⟨Nat.zero_le _,rfl⟩ ?_)
    rintro⟨i,N⟩ ⟨hi,H'⟩;dsimp only at hi H' ⊢;refine SS ?_;refine ab ⟨_,rfl,fun h=>?_,fun h=>?_⟩
    .have fK:i<A.length:=by simpa using h
     have Vc:A[i]? =some A[i]:=List.getElem?_eq_getElem fK;obtain⟨C,Cr,iT⟩:=Cq _ (List.getElem_mem fK);rw[Cr] at Vc;clear Cr;have sL:f.blocks[C]? =some f.blocks[C]:=List.getElem?_eq_getElem oG;have oa:f.blocks[C]∈f.blocks:=List.getElem_mem _;have Vd:R.ws[C]? =some R.ws[C]:=List.getElem?_eq_getElem oG;have Ve:R.re[C]? =some R.re[C]:=List.getElem?_eq_getElem oG;have I0:=iU _ (List.getElem_mem (h:=by omega):R.ws[C]∈R.ws);have xI:y.args[i]? =some y.args[i]:=List.getElem?_eq_getElem oG;have vB:=Cp _ (List.getElem_mem (h:=by omega):y.args[i]∈y.args);have J:=J i;rw[getD_some Vc,Int.toNat_natCast,getD_some sL,getD_some Vd,getD_some Ve,getD_some xI] at J;generalize f.blocks[C]=xp at sL oa J;generalize R.ws[C]=wp at Vd I0 J;generalize R.re[C]=rb at Ve J;generalize y.args[i]=r at xI vB J;obtain⟨rn,rfl⟩:=Int.eq_ofNat_of_zero_le vB.1;rw[Int.toNat_natCast] at J;have wZ:=hb xp oa;have mA:=Go.Proofs.Tryz.K.mA I0 wZ.len wZ.ins wZ.fin wZ.rl wZ.rf;have BN:=FN xp wp;rw[I0] at BN;generalize g9 xp wp=tp at mA J BN;obtain⟨w2,ok2⟩:=tp;dsimp only at mA J BN;have uZ:=uZ (x:=xp.fin) (b:=(k:Int)) (w:=w2) BN (by have:=wZ.fin.wh;omega) (by have:=wZ.fin.wr;omega);have gX:=Lz xp.fin k w2;rw[BN] at gX;generalize fq xp.fin k w2=w3 at uZ gX J;have kp:=kp (w:=w3) (m:=rn) gX oG;refine ws ?_;refine aV ?_;refine ab (mQ WZ ?_);refine bA ?_;refine ag ?_;refine cl mA ?_;refine bD ?_;refine bj (by simp[apartT]) (aJ (mR (i:=N) (l:=[(1,.pt (bh p q f)),(3,.sl (bk R.ws) n),(4,bW R.re),(5,bd (cu f.blocks)),(6,I k),(11,.pt (a8 y)),(12,I i),(13,I C),(14,.pt (w2.map bc)),(25,eE f.blocks),(26,I n),(27,I k),(49,dt x.ins),(50,I x.ins.length),(51,I j),(61,az A),(62,I A.length),(63,I i)]) (up_same _ _ _) ⟨rfl,rfl,rfl,rfl,rfl,rfl,rfl,rfl,lC,rfl,rfl,rfl,rfl,rfl,rfl,rfl,rfl,rfl,trivial⟩) (dd W0 ?_))
     have sa:∀ v:Bool,v=rN f.blocks R k y i->(v=false->(List.range n).all (qg f.blocks R)=false)/\(v=true->(List.range (i+1)).all (rN f.blocks R k y)=true):=fun v hv=>by
      subst hv;exact⟨abk i fK,fun h=>j4 H' h⟩
     cases rb with
     |false=>
      obtain⟨_,X⟩:=sa true J.symm;have X:=X rfl;refine aL ?_;refine aF ?_;refine bm rfl rfl (kH rfl V.h V.h (HE (by first|rfl|exact Nat.le_of_ble_eq_true rfl|(simp;done)|(simp;omega)|omega))) (fun hc=>⟨ak,(kI V.h V.h (by first|rfl|exact Nat.le_of_ble_eq_true rfl|(simp;done)|(simp;omega)|omega))⟩) ?_;refine gc uZ ?_;refine aV ?_;refine gc kp ?_;refine ag ?_;refine bj (by simp[apartT]) (au rfl (fun h=>oH) fun h=>b8 ?_);refine ag ?_;refine ab (aH (i+1,_) (eW eH) ⟨by dsimp only;omega,X⟩ oM)
     |true=>
      obtain⟨fL,X⟩:=sa (gW w3 rn) J.symm;generalize gW w3 rn=hv at kp fL X;refine aL ?_;refine aF ?_;refine bm rfl rfl (kH rfl V.h V.h (HE (by first|rfl|exact Nat.le_of_ble_eq_true rfl|(simp;done)|(simp;omega)|omega))) (fun hc=>⟨ak,(kI V.h V.h (by first|rfl|exact Nat.le_of_ble_eq_true rfl|(simp;done)|(simp;omega)|omega))⟩) ?_;refine gc uZ ?_;refine aV ?_;refine gc kp ?_;refine ag ?_;refine bj (by simp[apartT]) (au rfl (fun h=>?_) fun h=>b8 ?_)
      .have hf:hv=false:=by simpa using h
       refine ws ?_;refine SS ?_;refine ab (aU (b7 (b7 (b7 (aQ (G7 (ax (d:=B false) rfl ?_)))))));rw[fL hf]
      .have ht:hv=true:=by simpa using h
       have X:=X ht;refine ag ?_;refine ab (aH (i+1,_) (eW eH) ⟨by dsimp only;omega,X⟩ oM)
    .have aY:¬ i<A.length:=by simpa using h
     have hiA:i=A.length:=by omega
     subst hiA;show AOps _ _ _ _ _ _ _ _ _;refine ag ?_;refine ab (aH (j+1,_) (eW eH) ⟨by dsimp only;omega,fun z hz=>?_,?_⟩ oM)
     .dsimp only at hz;rw[List.take_add_one,hy] at hz;rcases List.mem_append.1 hz with h|h
      .exact zn z h
      .rw[List.mem_singleton.1 h];simp[bx,dF]
     .dsimp only;rw[List.take_add_one,hy,List.all_append,BM];simpa[J1] using H'
   .have aY:¬ j<x.ins.length:=by simpa using h
    have oD:j=x.ins.length:=by omega
    subst oD;show AOps _ _ _ _ _ _ _ _ _;refine ag ?_;refine ab (aH (k+1,_) (eW eH) ⟨by dsimp only;omega,j4 bH ?_⟩ oM);rw[List.take_length] at zn BM;rw[U,takeWhile_eq (j:=x.ins.length) (by rw[List.take_length];exact zn) (fun y h=>by simp at h),List.take_length];exact BM
  .have aY:¬ k<n:=by simpa using h
   have:k=n:=by omega
   subst this;exact bH
 .rintro⟨env,m,nx⟩ bH;refine⟨_,.refl _,an ?_⟩;refine SS ?_;refine ab (G7 (ax (d:=B true) rfl ?_));rw[bH]
end Go.Proofs.Tryz.K
namespace Go.Argus
theorem Vf:∀ b1 b2 b3 b4 b5 b6:Bool,(if(if(if(if(if(!b1)=true then true else !b2)=true then true else !b3)=true then true else b4)=true then true else b5)=true then true else !b6)= !(b1&&(b2&&(b3&&(!b4&&(!b5&&b6))))):=by decide
theorem Vg:∀ b1 b2 b3 b4 b5:Bool,(if(if(if(if(!b1)=true then true else !b2)=true then true else !b3)=true then true else b4)=true then true else b5)= !(b1&&(b2&&(b3&&(!b4&& !b5)))):=by decide
theorem hd3:∀ b1 b2 b3 b4:Bool,(if(if b1=true then true else b2)=true then true else if b3=true then !b4 else false)=(b1||(b2||(b3&& !b4))):=by decide
def lR(l:List Int):List (Value×D):=l.map fun a=>(.int .i64 a,B true)
theorem Hg(a:Int):∀ l:List Int,(lookD (.int .i64 a) (lR l)).map (·.2)=if(l.any (·==a))=true then some (B true) else none
 |[]=>rfl
 |b::l=>by
  have ih:=Hg a l;unfold lR at ih ⊢;simp only[List.map_cons,lookD,veq,veq1,List.any_cons,beq_self_eq_true,Bool.true_and] at ih ⊢;by_cases h:b=a
  .subst h;simp
  .have hb:(b==a)=false:=by simpa using h
   simp only[hb,Bool.false_eq_true,if_false,Option.map_map,Bool.false_or];exact ih
theorem abl{P:Program}{t:TypeId}(C:zeroD P (melP P t)=B false)(a:Int)(l:List Int):gotD P t false (lookD (.int .i64 a) (lR l))=B (l.any (·==a)):=by
 have h:=Hg a l;cases h1:lookD (.int .i64 a) (lR l) with
 |none=>
  rw[h1] at h;cases h2:l.any (·==a) with
  |true=>rw[h2] at h;simp at h
  |false=>simp[gotD,C]
 |some x=>
  rw[h1] at h;cases h2:l.any (·==a) with
  |false=>rw[h2] at h;simp at h
  |true=>rw[h2] at h;simp at h;simp[gotD,h]
theorem abm{a:Int}{l:List Int}(h:l.any (·==a)=false):putD (.int .i64 a) (B true) (lR l)=lR (l++[a]):=by
 have h1:=Hg a l;rw[h] at h1;unfold putD;cases h2:lookD (.int .i64 a) (lR l) with
 |none=>simp[lR]
 |some x=>rw[h2] at h1;simp at h1
theorem No{P:Program}{kt:TypeId}(hk:P.underlying kt=some (.int .i64))(l:List Int):(lR l).all (fun e=>keyP P kt e.1)=true:=by
 refine List.all_eq_true.2 fun x hx=>?_;obtain⟨y,_,rfl⟩:=List.mem_map.1 hx;simp[keyP,hk]
theorem Pu{P:Program}{kt:TypeId}(hk:P.underlying kt=some (.int .i64))(a:Int):keyP P kt (.int .i64 a)=true:=by simp[keyP,hk]
theorem aar{i sz:Nat}{C:List D}(l:List Int):Row.sub (fz0 i C sz) (.map (lR l))=.map (lR l):=by
 show Row.map ((lR l).map _)=_;unfold lR;rw[List.map_map];rfl
theorem Wn{bs:List bt}{k:Nat}{x:bt}(hx:bs[k]? =some x):j7 bs (k+1)=if(x.fin.kind==7)=true then j7 bs k++[x.fin.a] else j7 bs k:=by
 unfold j7;rw[List.take_add_one,hx];by_cases h:(x.fin.kind==7)=true
 .simp[h]
 .simp[h]
end Go.Argus
namespace Go.Proofs.Tryz.K
set_option maxRecDepth 10000
theorem Ff:prog.underlying 3=some (.int .i64):=kr
theorem adX:zeroD prog (melP prog 127)=B false:=kr
set_option maxHeartbeats 1000000 in
theorem I1{f:aA}:PCall prog 153 [.agg (aC f)] (B (hC f)):=by
 have aR:∀ a∈[D.agg (aC f)],Tr a:=.cons (.agg (gz f)) .nil;refine aX mixed RQ (by rw[adY];rfl) aR (.s _) ?_;rw[adZ,ad0];refine av ?_;refine ag ?_;refine ab (aJ (mR (i:=0) (l:=[(1,.pt (aC f))]) rfl eH) (av ?_));have I2:=I2 (f:=f);refine SS ?_;refine cl I2 ?_;refine SS ?_;refine cr (fk (cs':=bh _ _ _) rfl rfl rfl rfl) ak (dy V.h V.h (by first|(simp;done)|exact⟨rfl,Nat.le_of_ble_eq_true rfl⟩|(simp;omega)) (by rfl)) ?_;refine ab (aJ (mR (i:=1) (l:=[(1,.pt (aC f)),(3,.pt (bh P0 Q0 f))]) rfl eH) (av ?_));refine aL ?_;refine bA ?_;refine ag ?_;refine ab (aJ (eW (l:=[(1,.pt (aC f)),(3,.pt (bh P0 Q0 f)),(4,B (pb f))]) ⟨rfl,rfl,congrArg B (hd3 (f.result==1) (f.result==2) (f.result==0) f.iter),trivial⟩) (aD (an ?_)));have ajJ:hC f=(lZ f&&(pk f&&(l0 f&&((List.range f.blocks.length).all (iy f)&&(List.range f.blocks.length).all (qh f))))):=rfl;rw[ajJ];have hH:lZ f=(ke f.name&&(cA f.args 0 (if(f.aj.length:Int)<6 then(f.aj.length:Int) else 6)&&(pb f&&(!decide ((1200:Int)<f.aj.length)&&(!decide ((60:Int)<f.aP.length)&&cA f.blocks.length 1 1200))))):=rfl;generalize lF:pb f=Vh at hH ⊢;refine ag ?_;refine cl qP ?_;refine cK ?_;refine bm rfl rfl (Q5 rfl rfl) (fun hc=>⟨ak,rfl⟩) ?_;refine gc lc ?_;refine aL ?_;refine aL ?_;refine aF ?_;refine gc lc ?_;refine ag ?_;refine ab (bC rfl (fun h=>?_) fun h=>cx (aD (an ?_)))
 .have h:=(Vf _ _ _ _ _ _).symm.trans h;rw[<- hH] at h;have h:lZ f=false:=by simpa using h
  refine aD (an ?_);refine SS ?_;refine ab (dx (ax (d:=B false) rfl ?_));rw[h];rfl
 have h:=(Vf _ _ _ _ _ _).symm.trans h;rw[<- hH] at h;have J:lZ f=true:=by simpa using h
 rw[J,Bool.true_and];rw[hH] at J;simp only[Bool.and_eq_true,jF,Bool.not_eq_true',decide_eq_false_iff_not] at J;obtain⟨_,ha,hr,pX,X,cO⟩:=J;subst hr;clear h hH
 have q0:0<=f.args/\f.args<=f.aj.length/\f.args<=6:=by
  split at ha<;>omega
 have hK:pk f=(dO f.aj 3&&(dO (f.aj.take f.args.toNat) 2&&(dO f.aP 2&&(!decide ((6:Int)<f.signals.length)&& !f.signals.any fun s=> !isName s)))):=rfl;have Ep:=Ep (l:=f.signals) (g:=193) (fs:=[]) (cs:=[]) (p:=fun s=> !isName s) (.fn oS oS) (fun x _=>ajG);have ha2:0<=f.args/\f.args<=f.aj.length:=⟨q0.1,q0.2.1⟩
 refine ag ?_;refine cl IZ ?_;refine bD ?_;refine bm rfl rfl (Zi rfl Vi c5 rfl TK ha2) (fun hc=>⟨(by repeat' (first|exact trivial|exact hc|exact rfl|refine And.intro ?_ ?_)),trivial⟩) ?_;refine gc IZ ?_;refine aV ?_;refine gc IZ ?_;refine aL ?_;refine ag ?_;refine gc Ep ?_;refine SS ?_;refine ab (bC rfl (fun h=>?_) fun h=>cx (aD (av ?_)))
 .have h:=(Vg _ _ _ _ _).symm.trans h;rw[<- hK] at h;have h:pk f=false:=by simpa using h
  refine aD (an ?_);refine SS ?_;refine ab (dx (ax (d:=B false) rfl ?_));rw[h];rfl
 have h:=(Vg _ _ _ _ _).symm.trans h;rw[<- hK] at h;have J:pk f=true:=by simpa using h
 rw[J,Bool.true_and];rw[hK] at J;simp only[Bool.and_eq_true,Bool.not_eq_true',decide_eq_false_iff_not] at J;obtain⟨_,_,vw,hsg,_⟩:=J;clear h hK Ep;have hS:l0 f=(List.range (f.signals.length - 1)).all (rO f.signals):=rfl;rw[hS];have om:f.signals.length<=6:=by omega
 refine SS ?_;refine ab (bG (fun s=>Ghost prog s ⟨ay [(1,.pt (aC f)),(3,.pt (bh P0 Q0 f))],fun _=>none,2⟩/\(List.range (f.signals.length - 1)).all (rO f.signals)=true) (cq (α:=Nat) (fun k=>⟨ay [(1,.pt (aC f)),(3,.pt (bh P0 Q0 f)),(5,I (k+1:Nat))],fun _=>none,2⟩) (fun k=>k<=f.signals.length - 1/\(List.range k).all (rO f.signals)=true) (fun k=>f.signals.length - k) 0 (eW eH) ⟨Nat.zero_le _,rfl⟩ ?_) ?_)
 .rintro k ⟨hk,C⟩;refine aV ?_;refine ab ⟨_,rfl,fun h=>?_,fun h=>?_⟩
  .have ao:k+1<f.signals.length:=by have:((k+1:Nat):Int)<f.signals.length:=by simpa using h
                                    omega
   have h1:f.signals[k]? =some f.signals[k]:=List.getElem?_eq_getElem oG;have h2:f.signals[k+1]? =some f.signals[k+1]:=List.getElem?_eq_getElem oG;have X:rO f.signals k=Op.bytesLess f.signals[k].toList f.signals[k+1].toList:=by rw[rO,getD_some h1,getD_some h2]
   generalize f.signals[k]=s1 at h1 X;generalize f.signals[k+1]=s2 at h2 X;have uY:((k+1:Nat):Int) - 1=(k:Int)/\ -9223372036854775808<=(k:Int)/\(k:Int)<=9223372036854775807:=by omega
   refine dd W2 ?_;refine aL ?_;refine ag ?_;refine aB (O5 rfl rfl) ak trivial ?_;refine bj (by simp[apartT]) (au rfl (fun h=>?_) fun h=>b8 ?_)
   .have hf:rO f.signals k=false:=by rw[X];simpa using h
    refine ws ?_;refine SS ?_;refine ab (aU (b7 (aQ (ax (d:=B false) rfl ?_))));rw[mP oG hf];rfl
   .have ht:rO f.signals k=true:=by rw[X];simpa using h
    refine aw ?_;exact ab (aH (k+1) (eW eH) ⟨by omega,j4 C ht⟩ oG)
  .have aY:¬ k+1<f.signals.length:=by intro J;simp at h;omega
   have:k=f.signals.length - 1:=by omega
   subst this;exact⟨eW eH,C⟩
 rintro s ⟨hg,C⟩;rw[C,Bool.true_and];clear C hS;refine⟨_,hg,av ?_⟩;refine ag ?_;refine ab (aJ (aK (l:=[(1,.pt (aC f)),(3,.pt (bh P0 Q0 f)),(6,.mp 2)]) (ml:=[(2,.map (lR []))]) eH eH) (aD (av ?_)));refine aF ?_;generalize hn:f.blocks.length=n at cO ⊢;refine ab (bG (fun s=>∃ N,Ghost prog s ⟨ay [(1,.pt (aC f)),(3,.pt (bh P0 Q0 f))],fun _=>none,N⟩/\(List.range n).all (iy f)=true) (dq (α:=Nat×Nat) (fun k=>⟨ay [(1,.pt (aC f)),(3,.pt (bh P0 Q0 f)),(6,.mp 2),(123,eE f.blocks),(124,I n),(125,I k.1)],a9 [(2,.map (lR (j7 f.blocks k.1)))],k.2⟩) (fun k=>k.1<=n/\(List.range k.1).all (iy f)=true/\3<=k.2) (fun k=>n - k.1) (0,3) (aK eH eH) ⟨Nat.zero_le _,rfl,Nat.le_refl _⟩ ?_) ?_)
 .rintro⟨k,N⟩ ⟨hk,C,hN⟩;dsimp only at hk C hN ⊢;refine SS ?_;refine ab ⟨_,rfl,fun h=>?_,fun h=>?_⟩
  .have ao:k<n:=by simpa using h
   have hx:f.blocks[k]? =some f.blocks[k]:=List.getElem?_eq_getElem oG;generalize f.blocks[k]=x at hx;have U:iy f k=(iC f x.fin&&(!decide ((200:Int)<x.ins.length)&& !(x.fin.kind==7&&(j7 f.blocks k).any (·==x.fin.a)))):=by rw[iy,getD_some hx]
   have nB:=Wn hx;have Et:=Et (f:=f) (x:=x.fin);generalize j7 f.blocks k=l at U nB;refine av ?_;refine aF ?_;refine ab (aJ (kF (i:=N) (l:=[(1,.pt (aC f)),(3,.pt (bh P0 Q0 f)),(6,.mp 2),(8,.pt (cR x)),(123,eE f.blocks),(124,I n),(125,I k)]) (ml:=[(2,.map (lR l))]) (up_same _ _ _) ⟨rfl,rfl,rfl,lC,rfl,rfl,rfl,trivial⟩ ⟨sW oG (af oG (af oG rfl)) (aar l),trivial⟩) (aD (an ?_)));generalize iC f x.fin=e at Et U;refine aw ?_;refine cl Et ?_;refine cK ?_;refine ab (bC rfl (fun h=>?_) fun h=>cx (an ?_))
   .have hf:iy f k=false:=by
     rw[U];cases e with
     |false=>rfl
     |true=>have:decide ((200:Int)<x.ins.length)=true:=by simpa using h
            rw[this];rfl
    refine aD (an ?_);refine SS ?_;refine ab (dx (b7 (aQ (ax (d:=B false) rfl ?_))));rw[mP ao hf];rfl
   have U:iy f k= !(x.fin.kind==7&&l.any (·==x.fin.a)):=by
    rw[U];cases e with
    |false=>simp at h
    |true=>have:decide ((200:Int)<x.ins.length)=false:=by simpa using h
           rw[this];rfl
   refine aF ?_;refine ab (au rfl (fun h7=>?_) fun h7=>b8 ?_)
   .rw[h7] at U nB;refine aD (an ?_);refine aF ?_;refine aB (YR rfl rfl rfl Ia (abl adX _ _)) (by repeat' (first|exact trivial|exact rfl|refine And.intro ?_ ?_)) ⟨Ib,Pu Ff _,No Ff _⟩ ?_;refine ab (bC rfl (fun h=>?_) fun h=>cx (dJ ?_))
    .have hf:iy f k=false:=by rw[U,h];rfl
     refine aD (an ?_);refine SS ?_;refine ab (dx (b7 (aQ (ax (d:=B false) rfl ?_))));rw[mP ao hf];rfl
    .have ht:iy f k=true:=by rw[U,h];rfl
     refine aF ?_;refine cr (aa6 rfl rfl rfl rfl Ia) (by repeat' (first|exact trivial|exact rfl|refine And.intro ?_ ?_)) ⟨Ib,Pu Ff _,No Ff _⟩ ?_;refine ab ?_;refine ag ?_;refine ab (aH (k+1,_) (aK eH ⟨?_,trivial⟩) ⟨by dsimp only;omega,j4 C ht,by dsimp only;omega⟩ oM);dsimp only;rw[nB,if_pos rfl, <- abm h];exact up_same _ _ _
   .rw[h7] at U nB;refine ag ?_;refine ab (aH (k+1,_) (aK eH ⟨?_,trivial⟩) ⟨by dsimp only;omega,j4 C U,by dsimp only;omega⟩ oM);dsimp only;rw[nB,if_neg oS];rfl
  .have aY:¬ k<n:=by simpa using h
   have:k=n:=by omega
   subst this;exact⟨N,eW eH,C⟩
 rintro s ⟨N,hg,C⟩;rw[C,Bool.true_and]
 have hE:∀ x∈f.blocks,D' f x.fin:=fun x hx=>by
  obtain⟨k,hk⟩:=List.getElem?_of_mem hx;have ao:k<n:=by rw[<- hn];exact(List.getElem?_eq_some_iff.1 hk).1
  have:=List.all_eq_true.1 C k (by simpa using ao);rw[iy,getD_some hk] at this;simp only[Bool.and_eq_true] at this;exact GL oG lF this.1
 have zT:=zT (f:=f) kP kQ rfl rfl hn oG (fun b h=>by have:=(hE b h).wh;omega) (fun b h t ht=>hn▸(hE b h).to t (Ab.1 ht));refine⟨_,hg,an ?_⟩;refine SS ?_;refine cl zT ?_;refine SS ?_;refine ab (aD (av ?_));refine aF ?_;refine ab (bG (fun s=>(List.range n).all (qh f)=true) (dq (α:=Nat×Nat) (fun k=>⟨ay [(1,.pt (aC f)),(3,.pt (bh P0 Q0 f)),(9,bd (cu f.blocks)),(157,eE f.blocks),(158,I n),(159,I k.1)],fun _=>none,k.2⟩) (fun k=>k.1<=n/\(List.range k.1).all (qh f)=true) (fun k=>n - k.1) (0,N) (eW ⟨rfl,rfl,rfl,rfl,congrArg (fun k:Nat=>I k) hn,rfl,trivial⟩) ⟨Nat.zero_le _,rfl⟩ ?_) ?_)
 .rintro⟨k,N⟩ ⟨hk,C⟩;dsimp only at hk C ⊢;refine SS ?_;refine ab ⟨_,rfl,fun h=>?_,fun h=>?_⟩
  .have ao:k<n:=by simpa using h
   have hx:f.blocks[k]? =some f.blocks[k]:=List.getElem?_eq_getElem oG;have bI:f.blocks[k]∈f.blocks:=List.getElem_mem _;generalize f.blocks[k]=x at hx bI;have hA:=CY hn ao;have nz:qh f k=(List.range x.ins.length).all (sV f k x.ins):=by rw[qh,getD_some hx]
   have nv:∀ j,sV f k x.ins j=hD f k (x.ins.getD j dh) ((x.ins.take (j+1)).all bx) (br f.blocks n k).length:=fun j=>by rw[sV,hn]
   generalize br f.blocks n k=A at hA nv;refine av ?_;refine bD ?_;refine ab (aJ (mR (i:=N) (l:=[(1,.pt (aC f)),(3,.pt (bh P0 Q0 f)),(9,bd (cu f.blocks)),(10,I k),(11,.pt (cR x)),(157,eE f.blocks),(158,I n),(159,I k)]) (up_same _ _ _) ⟨rfl,rfl,rfl,rfl,lC,rfl,rfl,rfl,trivial⟩) (an ?_));refine SS ?_;refine ab (av ?_);refine aF ?_
   have eu:x.ins.length<=200:=by
    have:=List.all_eq_true.1 ‹(List.range n).all (iy f)=true› k (by simpa using ao);rw[iy,getD_some hx] at this;simp only[Bool.and_eq_true,Bool.not_eq_true',decide_eq_false_iff_not] at this;omega
   refine ab (dq (α:=Nat×Nat) (fun j=>⟨ay [(1,.pt (aC f)),(3,.pt (bh P0 Q0 f)),(9,bd (cu f.blocks)),(10,I k),(12,B ((x.ins.take j.1).all bx)),(157,eE f.blocks),(158,I n),(159,I k),(165,dt x.ins),(166,I x.ins.length),(167,I j.1)],fun _=>none,j.2⟩) (fun j=>j.1<=x.ins.length/\(List.range j.1).all (sV f k x.ins)=true) (fun j=>x.ins.length - j.1) (0,N+1) (eW eH) ⟨Nat.zero_le _,rfl⟩ ?_);rintro⟨j,N⟩ ⟨hj,Ic⟩;dsimp only at hj Ic ⊢;refine SS ?_;refine ab ⟨_,rfl,fun h=>?_,fun h=>?_⟩
   .have bZ:j<x.ins.length:=by simpa using h
    have hy:x.ins[j]? =some x.ins[j]:=List.getElem?_eq_getElem bZ;generalize x.ins[j]=y at hy;have kA:(x.ins.take (j+1)).all bx=((x.ins.take j).all bx&&bx y):=by rw[List.take_add_one,hy,List.all_append];simp
    have nv:=nv j;rw[getD_some hy] at nv;generalize (x.ins.take j).all bx=ph at kA;refine av ?_;refine aF ?_;refine ab (aJ (mR (i:=N) (l:=[(1,.pt (aC f)),(3,.pt (bh P0 Q0 f)),(9,bd (cu f.blocks)),(10,I k),(12,B ph),(14,.pt (a8 y)),(157,eE f.blocks),(158,I n),(159,I k),(165,dt x.ins),(166,I x.ins.length),(167,I j)]) (up_same _ _ _) ⟨rfl,rfl,rfl,rfl,rfl,lC,rfl,rfl,rfl,rfl,rfl,rfl,trivial⟩) (av ?_));refine cK ?_;refine ab (aJ (eW (l:=[(1,.pt (aC f)),(3,.pt (bh P0 Q0 f)),(9,bd (cu f.blocks)),(10,I k),(12,B ((x.ins.take (j+1)).all bx)),(14,.pt (a8 y)),(157,eE f.blocks),(158,I n),(159,I k),(165,dt x.ins),(166,I x.ins.length),(167,I j)]) ⟨rfl,rfl,rfl,rfl,?_,rfl,rfl,rfl,rfl,rfl,rfl,rfl,trivial⟩) (dd W3 ?_))
    .rw[kA];cases ph<;>rfl
    have Eu:=Eu (f:=f) (b:=(k:Int)) (ahead:=(A.length:Int)) (x:=y) (phis:=(x.ins.take (j+1)).all bx);rw[<- nv] at Eu;refine aL ?_;refine cl Eu ?_;refine SS ?_;refine bj (by simp[apartT]) (au rfl (fun h=>?_) fun h=>b8 ?_)
    .have hf:sV f k x.ins j=false:=by simpa using h
     refine ws ?_;refine SS ?_;refine ab (aU (b7 (b7 (aQ (ax (d:=B false) rfl ?_)))));rw[mP ao (by rw[nz];exact mP bZ hf)]
    .have ht:sV f k x.ins j=true:=by simpa using h
     refine ag ?_;exact ab (aH (j+1,_) (eW eH) ⟨by dsimp only;omega,j4 Ic ht⟩ oM)
   .have aY:¬ j<x.ins.length:=by simpa using h
    have oD:j=x.ins.length:=by omega
    subst oD;show AOps _ _ _ _ _ _ _ _ _;refine ag ?_;exact ab (aH (k+1,_) (eW eH) ⟨by dsimp only;omega,j4 oN (nz.trans Ic)⟩ oM)
  .have aY:¬ k<n:=by simpa using h
   have:k=n:=by omega
   subst this;show(List.range k).all (qh f)=true
   assumption
 .rintro⟨env,m,nx⟩ C;refine⟨_,.refl _,an ?_⟩;refine SS ?_;refine ab (ax (d:=B true) rfl ?_);rw[C]
end Go.Proofs.Tryz.K
end
