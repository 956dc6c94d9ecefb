/- Part 3 of the proof; the last part says what is proved. -/
import Derived.Test.YtonoegleildfnaaGreatLoops2
import Derived.Below
import Derived.Carry
import Derived.ChangeOld
import Derived.OpenShut
import Derived.ProofKit
import Derived.Test.YtonoegleildfnaaGreatProg
namespace Go.Abs
open Go.ChangeShapes Go.WideShapes
inductive Sh
 |int (k:IntKind)
 |bool
 |str
 |sl (s:Sh)
 |unit
 |pair (a b:Sh)
def Sh.val:Sh->Type
 | .int _=>Int
 | .bool=>Bool
 | .str=>ByteArray
 | .sl s=>List s.val
 | .unit=>Unit
 | .pair a b=>a.val×b.val
def Sh.size:Sh->Nat
 | .unit=>0
 | .pair a b=>a.size+b.size
 |_=>1
def Sh.enc:(s:Sh)->s.val->List D
 | .int k,n=>[.s (.int k n)]
 | .bool,b=>[.s (.bool b)]
 | .str,b=>[.s (.string b)]
 | .sl s,l=>[.sl (List.flatMap s.enc l) (List.length l)]
 | .unit,_=>[]
 | .pair a b,x=>a.enc x.1++b.enc x.2
def Sh.arg:(s:Sh)->s.val->D
 | .int k,n=>.s (.int k n)
 | .bool,b=>.s (.bool b)
 | .str,b=>.s (.string b)
 | .sl s,l=>.sl (List.flatMap s.enc l) (List.length l)
 | .unit,_=>.agg []
 | .pair a b,x=>.agg (a.enc x.1++b.enc x.2)
def Sh.ok:(s:Sh)->s.val->Prop
 | .int k,n=>(Lit.int k n).wf=true
 | .bool,_=>True
 | .str,b=>ByteArray.size b<=maxLen
 | .sl s,l=>∀ x:s.val,List.Mem x l->s.ok x
 | .unit,_=>True
 | .pair a b,x=>a.ok x.1/\b.ok x.2
theorem Sh.enc_length:∀ (s:Sh) (x:s.val),(s.enc x).length=s.size
 | .int _,_ | .bool,_ | .str,_ | .sl _,_ | .unit,_=>rfl
 | .pair a b,x=>by simp[Sh.enc,Sh.size,Sh.enc_length a,Sh.enc_length b]
section
variable(P:Program)
def shFs(C:TypeId->Option Sh):Nat->List Field->Option Sh
 |_,[]=>some .unit
 |off,f::fs=>if f.offset=off then match C f.type,shFs C (off+P.cellsOf f.type) fs with
  |some a,some b=>some (.pair a b)
  |_,_=>none
  else none
def shT:Nat->TypeId->Option Sh
 |0,_=>none
 |n+1,t=>match P.underlying t with
  |some .bool=>if P.cellsOf t=1 then some .bool else none
  |some (.int k)=>if P.cellsOf t=1 then some (.int k) else none
  |some .string=>if P.cellsOf t=1 then some .str else none
  |some (.slice e)=>if P.cellsOf t=1/\0<P.cellsOf e then(shT n e).map .sl else none
  |some (.struct fs)=>match shFs P (shT n) 0 fs.toList with
   |some s=>if s.size=P.cellsOf t then some s else none
   |none=>none
  |_=>none
end
section
variable{P:Program}{H:Type}{ec:TypeId×Value->H}{w:World}{base:Nat}{spare:Nat->Bool}{held:Bool}
def Holds(w:World)(ds:List D)(cs:List Value):Prop:=ds.length=cs.length/\∀ (k:Nat) (d:D) (u:Value),ds[k]? =some d->cs[k]? =some u->R (fun _=>False) noRows w d u/\u.oneCell'=true
theorem Holds.app{ds J:List D}{cs cs':List Value}(h:Holds w ds cs)(h':Holds w J cs'):Holds w (ds++J) (cs++cs'):=by
 refine⟨by simp[h.1,h'.1],fun k d u hd C=>?_⟩;by_cases hk:k<ds.length
 .rw[List.getElem?_append_left hk] at hd;rw[List.getElem?_append_left (by have:=h.1;omega)] at C;exact h.2 k d u hd C
 .rw[List.getElem?_append_right oG] at hd;rw[List.getElem?_append_right (by have:=h.1;omega), <- h.1] at C;exact h'.2 (k - ds.length) d u hd C
theorem Holds.one{d:D}{u:Value}(h:R (fun _=>False) noRows w d u)(h':u.oneCell'=true):Holds w [d] [u]:=⟨rfl,fun k d' J hd C=>by
 cases k with
 |zero=>simp at hd C;subst hd C;exact⟨h,h'⟩
 |succ k=>simp at hd⟩
theorem Holds.nil:Holds w [] []:=⟨rfl,by simp⟩
theorem shFs_nil{C:TypeId->Option Sh}{off:Nat}{s:Sh}(h:shFs P C off []=some s):s=.unit:=by
 simp only[shFs,Option.some.injEq] at h;exact h.symm
theorem shFs_cons{C:TypeId->Option Sh}{off:Nat}{f:Field}{fs:List Field}{s:Sh}(h:shFs P C off (f::fs)=some s):
 f.offset=off/\∃ a b,C f.type=some a/\shFs P C (off+P.cellsOf f.type) fs=some b/\s=.pair a b:=by
 simp only[shFs] at h;split at h
 .rename_i J;split at h
  .rename_i a b ha hb;simp only[Option.some.injEq] at h;exact⟨J,a,b,ha,hb,h.symm⟩
  .cases h
 .cases h
theorem shT_size:∀ (n:Nat) (t:TypeId) (s:Sh),shT P n t=some s->s.size=P.cellsOf t
 |0,_,_,h=>by cases h
 |n+1,t,s,h=>by
  unfold shT at h;split at h
  .split at h
   .rename_i h1;simp only[Option.some.injEq] at h;subst h;exact h1.symm
   .cases h
  .split at h
   .rename_i h1;simp only[Option.some.injEq] at h;subst h;exact h1.symm
   .cases h
  .split at h
   .rename_i h1;simp only[Option.some.injEq] at h;subst h;exact h1.symm
   .cases h
  .split at h
   .rename_i h1;simp only[Option.map_eq_some_iff] at h;obtain⟨a,_,rfl⟩:=h;exact h1.1.symm
   .cases h
  .split at h
   .split at h
    .rename_i h1;simp only[Option.some.injEq] at h;subst h;exact h1
    .cases h
   .cases h
  .cases h
def Reads(P:Program)(w:World)(C:TypeId->Option Sh)(rd:TypeId->List Value->Option (DataW H×List MemPlace)):Prop:=
 ∀ t s cs x,C t=some s->cs.length=P.cellsOf t->rd t cs=some x->∃ v:s.val,s.ok v/\Holds w (s.enc v) cs
theorem reads_fs{J:TypeId->Option Sh}{rd:TypeId->List Value->Option (DataW H×List MemPlace)}(M:∀ t s,J t=some s->s.size=P.cellsOf t)(h:Reads P w J rd){cs:List Value}:∀ (fs:List Field) (off:Nat) (s:Sh),shFs P J off fs=some s->off+s.size<=cs.length->
 (∀ f∈fs,∃ x,rd f.type ((cs.drop f.offset).take (P.cellsOf f.type))=some x)->∃ v:s.val,s.ok v/\Holds w (s.enc v) ((cs.drop off).take s.size)
 |[],off,s,hs,_,_=>by
  obtain rfl:=shFs_nil hs;exact⟨(),trivial,by simp[Sh.enc,Sh.size,Holds]⟩
 |f::fs,off,s,hs,hl,hr=>by
  obtain⟨nh,a,b,ha,hb,rfl⟩:=shFs_cons hs;obtain⟨x,hx⟩:=hr f oS;have iS:off+(a.size+b.size)<=cs.length:=hl;have bX:=M _ _ ha;rw[nh] at hx;obtain⟨v,X,hv⟩:=h f.type a _ x ha (by simp only[List.length_take,List.length_drop];omega) hx;rw[<- bX] at hb hv;obtain⟨U,C,KT⟩:=reads_fs M h fs (off+a.size) b hb oG fun g hg=>hr g (by simp[hg]);refine⟨(v,U),⟨X,C⟩,?_⟩;have:=hv.app KT;show Holds w (a.enc v++b.enc U) ((cs.drop off).take (a.size+b.size));rw[List.take_add,List.drop_drop];exact this
theorem cells_get{a:Addr}{n:Nat}{cs:List Value}(h:w.cells? base a n=some cs):cs.length=n/\∀ k,k<n->w.cell? (a.add k)=cs[k]? /\k<cs.length:=by
 unfold World.cells? at h;split at h
 .have hl:cs.length=n:=by simpa using mapM_some_length h
  exact⟨hl,fun k hk=>⟨mapM_some_get h k k (by simp[hk]),by omega⟩⟩
 .cases h
theorem choose_list{α β:Type}{p:Nat->α->β->Prop}:∀ (n:Nat) (l:Nat->α),(∀ i,i<n->∃ y,p i (l i) y)->∃ ys:List β,ys.length=n/\∀ i (h:i<n) y,ys[i]? =some y->p i (l i) y
 |0,_,_=>⟨[],rfl,fun i h=>by omega⟩
 |n+1,l,h=>by
  obtain⟨ys,h1,h2⟩:=choose_list n l fun i hi=>h i oG;obtain⟨y,hy⟩:=h n oG;refine⟨ys++[y],by simp[h1],fun i hi z C=>?_⟩;by_cases J:i<n
  .rw[List.getElem?_append_left oG] at C;exact h2 i J z C
  .have:i=n:=by omega
   subst this;rw[List.getElem?_append_right oG] at C;simp[h1] at C;subst C;exact hy
theorem flat_get{α:Type}{f:α->List D}{sz:Nat}(C:∀ x,(f x).length=sz):∀ (l:List α) (i j:Nat),j<sz->(l.flatMap f)[i*sz+j]? =(l[i]?).bind fun x=>(f x)[j]?
 |[],i,j,_=>by simp
 |x::l,0,j,h=>by simp[List.getElem?_append_left (show j<(f x).length by rw[C];exact h)]
 |x::l,i+1,j,h=>by
  rw[List.flatMap_cons,List.getElem?_append_right (by rw[C,Nat.add_mul];omega)];have:(i+1)*sz+j - (f x).length=i*sz+j:=by rw[C,Nat.add_mul];omega
  rw[this,flat_get C l i j h];simp
theorem reads_T:∀ (iA n:Nat),Reads P w (shT P n) (DataW.trod ec P w base spare held iA)
 |iA,0,t,s,cs,x,h,_,_=>by cases h
 |iA,n+1,t,s,cs,x,h,hl,hr=>by
  have bX:=shT_size _ _ _ h;unfold shT at h;split at h
  .rename_i ht;split at h
   .simp only[Option.some.injEq] at h;subst h;obtain⟨b,rfl,_⟩:=DataW.trod_bool ht hr;exact⟨b,trivial,.one (.s _ rfl) rfl⟩
   .cases h
  .rename_i k ht;split at h
   .simp only[Option.some.injEq] at h;subst h;obtain⟨b,rfl,_,hw⟩:=DataW.trod_int ht hr;exact⟨b,hw,.one (.s _ rfl) rfl⟩
   .cases h
  .rename_i ht;split at h
   .simp only[Option.some.injEq] at h;subst h;obtain⟨b,rfl,_,hw⟩:=DataW.trod_string ht hr;exact⟨b,hw,.one (.s _ rfl) rfl⟩
   .cases h
  .rename_i e ht;split at h
   .rename_i hc;simp only[Option.map_eq_some_iff] at h;obtain⟨a,ha,rfl⟩:=h;have haz:=shT_size _ _ _ ha;rcases DataW.trod_slice ht hr with⟨rfl,_⟩|⟨M,len,cap,UU,rest,U,rfl,rfl,_,hb,hlc,hm,hlen,DK,_,_⟩
    .exact⟨([]:List a.val),(fun x h=>nomatch h),.one (by exact .sln none 0) rfl⟩
    .have WB:∀ i,i<len->∃ C:List Value,w.cells? base (M.add (i*P.cellsOf e)) (P.cellsOf e)=some C/\∃ y,DataW.trod ec P w base spare held U e C=some y:=fun i hi=>by
      have:=DK i hi;have hg:UU[i]? =some UU[i]:=by simp[hlen,hi]
      rw[hg,Option.bind_eq_some_iff] at this;obtain⟨C,h1,h2⟩:=this;exact⟨C,h1,_,h2⟩
     have Dh:∀ i,i<len->∃ v:a.val,a.ok v/\∃ C,w.cells? base (M.add (i*P.cellsOf e)) (P.cellsOf e)=some C/\Holds w (a.enc v) C:=fun i hi=>by
      obtain⟨C,h1,y,h2⟩:=WB i hi;obtain⟨v,X,hv⟩:=reads_T U n e a C y ha (cells_get h1).1 h2;exact⟨v,X,C,h1,hv⟩
     obtain⟨vs,tV,X8⟩:=choose_list (p:=fun(i:Nat) (_:Nat) (v:a.val)=>a.ok v/\∃ C,w.cells? base (M.add (i*P.cellsOf e)) (P.cellsOf e)=some C/\Holds w (a.enc v) C) len (fun i=>i) Dh
     have aoq:∀ x:a.val,x∈vs->a.ok x:=fun x hm=>by
      obtain⟨i,hx⟩:=List.getElem?_of_mem hm;exact(X8 i (by have:=(List.getElem?_eq_some_iff.1 hx).1;omega) x hx).1
     cases len with
     |zero=>
      have:vs=[]:=List.length_eq_zero_iff.1 tV;subst this;exact⟨([]:List a.val),(fun x h=>nomatch h),.one (by exact .sln _ cap) rfl⟩
     |succ l=>
      obtain⟨C,h0,_⟩:=WB 0 oG;have vE:=(cells_get h0).2 0 hc.2;simp only[Nat.zero_mul,Addr.add,if_true] at vE;obtain⟨b,o,sp⟩:=M;have FH:∃ u,w.cell? ⟨b,o,sp⟩=some u:=⟨C[0],by rw[vE.1];simp[vE.2]⟩
      obtain⟨u0,J⟩:=FH;unfold World.cell? at J
      have kq:b<w.heap.size:=by
       cases hh:w.heap[b]? with
       |none=>rw[hh] at J;cases J
       |some x=>exact(Array.getElem?_eq_some_iff.1 hh).1
      have pT:sp=none:=by
       cases sp with
       |none=>rfl
       |some q=>
        simp only at J;split at J
        .simp at J
        .cases J
      subst pT
      have aor:∀ i j,((⟨b,o,none⟩:Addr).add i).add j=⟨b,o+(i+j),none⟩:=fun i j=>by
       unfold Addr.add;split<;>split<;>simp_all;omega
      have hk:∀ k d,(vs.flatMap a.enc)[k]? =some d->∃ u,w.cell? ⟨b,o+k,none⟩=some u/\R (fun _=>False) noRows w d u/\u.oneCell'=true:=fun k d hd=>by
       have lP:0<a.size:=by omega
       have A2:k / a.size*a.size+k % a.size=k:=by rw[Nat.mul_comm];exact Nat.div_add_mod k a.size
       have L2:=Nat.mod_lt k lP;rw[<- A2,flat_get a.enc_length _ _ _ L2,Option.bind_eq_some_iff] at hd;obtain⟨x,hx,hd⟩:=hd
       have hi:k / a.size<l+1:=by
        have:=(List.getElem?_eq_some_iff.1 hx).1;omega
       obtain⟨_,C,hci,hho⟩:=X8 _ hi x hx;obtain⟨h1,h2⟩:=(cells_get hci).2 (k % a.size) oG;rw[aor, <- haz,A2] at h1;refine⟨C[k % a.size],by rw[h1];simp[h2],hho.2 _ d _ hd (by simp[h2])⟩
      refine⟨vs,fun x h=>aoq x h,.one (by
       have D2:(List.length vs)=l+1:=tV;show R _ _ _ (.sl (List.flatMap a.enc vs) (List.length vs)) _;rw[D2];refine .sl _ _ b o cap (fun k=>(w.cell? ⟨b,o+k,none⟩).getD undef) oS (fun _ _ h=>by cases h) kq hlc hm (fun k yW=>?_) fun k d hd=>?_
       .obtain⟨u,h1,_,h3⟩:=hk k _ (List.getElem?_eq_getElem yW);simp[h1,h3]
       .obtain⟨u,h1,h2,_⟩:=hk k d hd
        simpa[h1] using h2) rfl⟩
   .cases h
  .rename_i fs ht;obtain⟨xs,U,rfl,_,_,uk,n8⟩:=DataW.trod_struct ht hr;split at h
   .rename_i s' dH;split at h
    .rename_i hs;simp only[Option.some.injEq] at h;subst h
     obtain⟨v,X,hv⟩:=reads_fs (P:=P) (w:=w) (fun t s=>shT_size n t s) (reads_T U n) (cs:=cs) fs.toList 0 s' dH oG fun f hf=>by
      obtain⟨i,hi,rfl⟩:=Array.getElem_of_mem (Array.mem_toList_iff.1 hf);have:=n8 i fs[i] (by simp[hi]);exact⟨xs[i],by rw[this];simp[uk,hi]⟩
     refine⟨v,X,?_⟩;rw[List.drop_zero,List.take_of_length_le oG] at hv;exact hv
    .cases h
   .cases h
  .cases h
theorem arg_R{r:Reach}{b0:Nat}{t:TypeId}{v:Value}{d:DataW H}{ps:List MemPlace}{n:Nat}{s:Sh}(C:shT P n t=some s)(hv:Value.okWide P w r b0 t v)(hd:DataW.Trod ec P w base spare held t v d ps):
 ∃ x:s.val,s.ok x/\R (fun _=>False) noRows w (s.arg x) v:=by
 cases n with
 |zero=>cases C
 |succ n=>
  obtain⟨iA,hf⟩:=hd;have hz:=shT_size _ _ _ C;have key:v.cells.toList.length=P.cellsOf t->∃ x:s.val,s.ok x/\Holds w (s.enc x) v.cells.toList:=fun hl=>reads_T iA (n+1) t s _ _ C hl hf;unfold shT at C;split at C
  .rename_i ht;obtain⟨b,rfl⟩:=okWide_bool ht hv;split at C
   .simp only[Option.some.injEq] at C;subst C;exact⟨b,trivial,.s _ rfl⟩
   .cases C
  .rename_i k ht;obtain⟨b,rfl⟩:=okWide_int ht hv;split at C
   .simp only[Option.some.injEq] at C;subst C;obtain⟨c,hc,_,M⟩:=DataW.trod_int ht hf;simp[Value.cells] at hc;subst hc;exact⟨b,M,.s _ rfl⟩
   .cases C
  .rename_i ht;obtain⟨b,rfl⟩:=okWide_string ht hv;split at C
   .simp only[Option.some.injEq] at C;subst C;obtain⟨c,hc,_,M⟩:=DataW.trod_string ht hf;simp[Value.cells] at hc;subst hc;exact⟨b,M,.s _ rfl⟩
   .cases C
  .rename_i e ht;obtain⟨a,len,cap,rfl⟩:=okWide_slice ht hv;split at C
   .rename_i h1;simp only[Option.map_eq_some_iff] at C;obtain⟨q,_,rfl⟩:=C;obtain⟨x,U,hx⟩:=key h1.1.symm;exact⟨x,U,(hx.2 0 _ _ rfl rfl).1⟩
   .cases C
  .rename_i fs ht;obtain⟨cs,rfl,bX⟩:=okWide_struct ht hv;obtain⟨x,U,hx⟩:=key (by simpa[Value.cells] using bX);refine⟨x,U,?_⟩
   have ha:s.arg x=.agg (s.enc x):=by
    split at C
    .rename_i s' J;split at C
     .simp only[Option.some.injEq] at C;subst C;cases X:fs.toList with
      |nil=>
       rw[X] at J;obtain rfl:=shFs_nil J;rfl
      |cons f GR=>
       rw[X] at J;obtain⟨_,a,b,_,_,rfl⟩:=shFs_cons J;rfl
     .cases C
    .cases C
   rw[ha];have:=hx.1;simp only[Value.cells] at this hx;have e:cs=cs.toList.toArray:=by simp
   rw[e];exact .agg _ cs.toList this.symm fun k d v h1 h2=>(hx.2 k d v h1 h2).1
  .cases C
theorem flat_one{α β:Type}(f:α->β):∀ l:List α,(l.flatMap fun x=>[f x])=l.map f
 |[]=>rfl
 |x::l=>by rw[List.flatMap_cons,flat_one f l];rfl
theorem flat_congr{α β γ:Type}{f:α->List γ}{g:β->List γ}{h:α->β}(he:∀ x,f x=g (h x)):∀ l:List α,l.flatMap f=(l.map h).flatMap g
 |[]=>rfl
 |x::l=>by rw[List.flatMap_cons,List.map_cons,List.flatMap_cons,he,flat_congr he l]
end
end Go.Abs
namespace Go.Argus
open Go.Abs
abbrev o9:Sh:=.int .i64
abbrev Dj:Sh:=.int .u8
abbrev CJ:Sh:=.pair Dj (.pair o9 (.pair o9 (.pair o9 (.pair o9 (.pair (.sl o9) .unit)))))
abbrev Fx:Sh:=.pair .str (.pair o9 .unit)
abbrev FU:Sh:=.pair Dj (.pair o9 (.pair o9 (.pair o9 (.pair o9 (.pair .str (.pair CJ (.pair (.sl o9) (.pair (.sl Fx) (.pair o9 .unit)))))))))
abbrev Fj:Sh:=.pair (.sl CJ) (.pair FU .unit)
abbrev yg:Sh:=.pair .str (.pair .bool (.pair o9 (.pair Dj (.pair (.sl Dj) (.pair (.sl Dj) (.pair (.sl .str) (.pair (.sl Fj) .unit)))))))
def JW(x:CJ.val):bt:=⟨x.1,x.2.1,x.2.2.1,x.2.2.2.1,x.2.2.2.2.1,x.2.2.2.2.2.1⟩
def SK(x:Fx.val):jN:=⟨x.1,x.2.1⟩
def UW(x:FU.val):End:=⟨x.1,x.2.1,x.2.2.1,x.2.2.2.1,x.2.2.2.2.1,x.2.2.2.2.2.1,JW x.2.2.2.2.2.2.1,x.2.2.2.2.2.2.2.1,List.map SK x.2.2.2.2.2.2.2.2.1,x.2.2.2.2.2.2.2.2.2.1⟩
def QJ(x:Fj.val):bP:=⟨List.map JW x.1,UW x.2.1⟩
def SL(x:yg.val):aF:=⟨x.1,x.2.1,x.2.2.1,x.2.2.2.1,x.2.2.2.2.1,x.2.2.2.2.2.1,x.2.2.2.2.2.2.1,List.map QJ x.2.2.2.2.2.2.2.1⟩
theorem Fy{k:IntKind}(l:List Int):D.sl (List.flatMap (Sh.enc (.int k)) l) l.length=.sl (l.map fun n=>.s (.int k n)) l.length:=congrArg (D.sl · l.length) (flat_one (fun n=>D.s (.int k n)) l)
theorem adY(l:List ByteArray):D.sl (List.flatMap (Sh.enc .str) l) l.length=p7 l:=congrArg (D.sl · l.length) (flat_one S l)
theorem JX{s:Sh}{β:Type}{g:β->List D}{h:s.val->β}(he:∀ x,s.enc x=g (h x))(l:List s.val):D.sl (List.flatMap s.enc l) l.length=.sl ((l.map h).flatMap g) (l.map h).length:=by
 rw[flat_congr he l,List.length_map]
theorem c1'{α β:Type}(f:α->β){a a':α}(h:a=a'):f a=f a':=by rw[h]
theorem c2'{α β γ:Type}(f:α->β->γ){a a':α}{b C:β}(h:a=a')(h2:b=C):f a b=f a' C:=by rw[h,h2]
theorem c3'{α β γ δ:Type}(f:α->β->γ->δ){a a':α}{b C:β}{c J:γ}(h:a=a')(h2:b=C)(h3:c=J):f a b c=f a' C J:=by rw[h,h2,h3]
theorem c4'{α β γ δ ε:Type}(f:α->β->γ->δ->ε){a a':α}{b C:β}{c J:γ}{d d':δ}(h:a=a')(h2:b=C)(h3:c=J)(h4:d=d'):f a b c d=f a' C J d':=by rw[h,h2,h3,h4]
theorem QK(x:CJ.val):CJ.enc x=bl (JW x):=
 c1' (fun q=>[U8 x.1,I x.2.1,I x.2.2.1,I x.2.2.2.1,I x.2.2.2.2.1,q]) (Fy (k:=.i64) x.2.2.2.2.2.1)
theorem ab2(x:Fx.val):Fx.enc x=lu (SK x):=rfl
theorem ac3(x:FU.val):FU.enc x=bc (UW x):=
 c3' (fun a b c=>[U8 x.1,I x.2.1,I x.2.2.1,I x.2.2.2.1,I x.2.2.2.2.1,S x.2.2.2.2.2.1]++(a++[b,c,I x.2.2.2.2.2.2.2.2.2.1])) (QK x.2.2.2.2.2.2.1) (Fy (k:=.i64) x.2.2.2.2.2.2.2.1) (JX ab2 x.2.2.2.2.2.2.2.2.1)
theorem aaH(x:Fj.val):Fj.enc x=eC (QJ x):=by
 have:=c2' (fun a b=>a::(b++[])) (JX QK x.1) (ac3 x.2.1);refine Eq.trans this ?_;rw[List.append_nil];rfl
theorem abM(x:yg.val):yg.arg x=.agg (aG (SL x)):=
 c4' (fun a b c d=>D.agg [S x.1,B x.2.1,I x.2.2.1,U8 x.2.2.2.1,a,b,c,d]) (Fy (k:=.u8) x.2.2.2.2.1) (Fy (k:=.u8) x.2.2.2.2.2.1) (adY x.2.2.2.2.2.2.1) (JX aaH x.2.2.2.2.2.2.2.1)
end Go.Argus
namespace Go.Abs
open Go.Argus
class V{α:Type}(x:α)(y:outParam α):Prop where h:x=y
section
variable{P:Program}{Y:YSpec}{ops:Array Oper}{dr:Bool}{cf:List (Nat×Nat)}{Q:Exit->St->Prop}{r:List Oper}{v:Env}{m:Mem}{n:Nat}{q:Tra}{x:Oper}{s:St}{e:List Nat×List Nat}
variable{t:Option Nat}{u:Nat}{ty:TypeId}{pos:String}{after:Array Edge}{j:Nat}{b c:Bool}{op:Op}
def SO(P:Program)(Y:YSpec)(ops:Array Oper)(dr:Bool)(o:Oper)(v:Env)(m:Mem)(n:Nat)(s:St)(e:List Nat×List Nat):Prop:=
 ∀ cf Q r q,AOps P Y ops dr cf Q r s (q++[e])->AOps P Y ops dr cf Q (o::r) ⟨v,m,n⟩ q
theorem ak{l:List Operand}(h:gJ v l:=by repeat' (first|exact trivial|exact hc|exact rfl|refine And.intro ?_ ?_)):gJ v l:=h
theorem z(K:∀ (x:D) rd,AOps P Y ops dr cf Q r (St.put ⟨v,m,n⟩ t (.opt false x)) (q++[(rd,[])]))(hj:(ops[j]?).bind (·.dst)=some u:=by exact rfl)(hg:guardC (v u) b=some false:=by exact rfl):
 AOps P Y ops dr cf Q (⟨t,op,ty,pos,after,some (j,b)⟩::r) ⟨v,m,n⟩ q:=S5 hj hg K
theorem cl{f:FuncId}{gs:List D}{d:D}{t:Nat}(h:PCall P f gs d)(K:AOps P Y ops dr cf Q r ⟨up v t d,m,n⟩ (q++[([],[])]))(hc:callD (rho v op) op=some (f,gs):=by exact rfl)(ha:gJ v op.operands.toList:=by exact ak):
 AOps P Y ops dr cf Q (⟨some t,op,ty,pos,after,none⟩::r) ⟨v,m,n⟩ q:=aem h hc ha K
theorem gc{f:FuncId}{gs:List D}{d:D}{t:Nat}(h:PCall P f gs d)(K:AOps P Y ops dr cf Q r ⟨up v t (.opt c d),m,n⟩ (q++[([],[])]))(hj:(ops[j]?).bind (·.dst)=some u:=by exact rfl)(hg:guardC (v u) b=some c:=by exact rfl)(hl:callD (rho v op) op=some (f,gs):=by exact rfl)(ha:c=true->gJ v op.operands.toList:=by exact fun hc=>ak):
 AOps P Y ops dr cf Q (⟨some t,op,ty,pos,after,some (j,b)⟩::r) ⟨v,m,n⟩ q:=Cq hj hg hl (fun hc=>⟨ha hc,h⟩) K
theorem J68(K:AOps P Y ops dr cf Q r s (q++[e]))(h:SO P Y ops dr x v m n s e:=by intro _ _ _ _ k;exact bG rfl rfl (jH (v:=.pt _) rfl) (fun hc=>⟨ak,trivial⟩) k):AOps P Y ops dr cf Q (x::r) ⟨v,m,n⟩ q:=h _ _ _ _ K
theorem J87(K:AOps P Y ops dr cf Q r s (q++[e]))(h:SO P Y ops dr x v m n s e:=by intro _ _ _ _ k;exact bG rfl rfl (QR rfl) (fun hc=>⟨ak,trivial⟩) k):AOps P Y ops dr cf Q (x::r) ⟨v,m,n⟩ q:=h _ _ _ _ K
theorem al5(K:AOps P Y ops dr cf Q r s (q++[e]))(h:SO P Y ops dr x v m n s e:=by intro _ _ _ _ k;exact aH (mP (v:=.pt _) rfl) ak trivial k):AOps P Y ops dr cf Q (x::r) ⟨v,m,n⟩ q:=h _ _ _ _ K
theorem aqZ(K:AOps P Y ops dr cf Q r s (q++[e]))(h:SO P Y ops dr x v m n s e:=by intro _ _ _ _ k;exact aH (dU rfl aA V.h V.h (mw (by first|rfl|exact Nat.le_of_ble_eq_true rfl|(simp;done)|(simp;omega)|omega))) ak (dV V.h V.h (by first|rfl|exact Nat.le_of_ble_eq_true rfl|(simp;done)|(simp;omega)|omega)) k):AOps P Y ops dr cf Q (x::r) ⟨v,m,n⟩ q:=h _ _ _ _ K
theorem V7(K:AOps P Y ops dr cf Q r s (q++[e]))(h:SO P Y ops dr x v m n s e:=by intro _ _ _ _ k;exact bG rfl rfl (Jo rfl rfl) (fun hc=>⟨ak,rfl⟩) k):AOps P Y ops dr cf Q (x::r) ⟨v,m,n⟩ q:=h _ _ _ _ K
theorem aq0(K:AOps P Y ops dr cf Q r s (q++[e]))(h:SO P Y ops dr x v m n s e:=by intro _ _ _ _ k;exact bG rfl rfl (mf (vs:=aG _) rfl V.h V.h rfl) (fun hc=>⟨ak,(mg V.h V.h (by simp))⟩) k):AOps P Y ops dr cf Q (x::r) ⟨v,m,n⟩ q:=h _ _ _ _ K
theorem VW(K:AOps P Y ops dr cf Q r s (q++[e]))(h:SO P Y ops dr x v m n s e:=by intro _ _ _ _ k;exact aH (dU (vs:=aG _) rfl rfl V.h V.h rfl) ak (dV V.h V.h (by first|(simp;done)|omega|exact Nat.le_of_ble_eq_true rfl)) k):AOps P Y ops dr cf Q (x::r) ⟨v,m,n⟩ q:=h _ _ _ _ K
theorem Vb(K:AOps P Y ops dr cf Q r s (q++[e]))(h:SO P Y ops dr x v m n s e:=by intro _ _ _ _ k;exact aH (adQ rfl rfl Va) ak ⟨rfl,by omega⟩ k):AOps P Y ops dr cf Q (x::r) ⟨v,m,n⟩ q:=h _ _ _ _ K
theorem Wh(K:AOps P Y ops dr cf Q r s (q++[e]))(h:SO P Y ops dr x v m n s e:=by intro _ _ _ _ k;exact bG rfl rfl (Q8 rfl rfl tI) (fun hc=>⟨ak,rfl⟩) k):AOps P Y ops dr cf Q (x::r) ⟨v,m,n⟩ q:=h _ _ _ _ K
theorem Vg(K:AOps P Y ops dr cf Q r s (q++[e]))(h:SO P Y ops dr x v m n s e:=by intro _ _ _ _ k;exact aH (Ra rfl rfl uV) ak rfl k):AOps P Y ops dr cf Q (x::r) ⟨v,m,n⟩ q:=h _ _ _ _ K
theorem Vq(K:AOps P Y ops dr cf Q r s (q++[e]))(h:SO P Y ops dr x v m n s e:=by intro _ _ _ _ k;exact aH (adt rfl rfl V.h V.h (by assumption) (by assumption)) ak (adu V.h (by assumption) (by assumption) oG) k):AOps P Y ops dr cf Q (x::r) ⟨v,m,n⟩ q:=h _ _ _ _ K
theorem Vr(K:AOps P Y ops dr cf Q r s (q++[e]))(h:SO P Y ops dr x v m n s e:=by intro _ _ _ _ k;exact aH (mf rfl V.h V.h (abd (by assumption))) ak (mg V.h V.h (by simp;omega)) k):AOps P Y ops dr cf Q (x::r) ⟨v,m,n⟩ q:=h _ _ _ _ K
theorem aq1(K:AOps P Y ops dr cf Q r s (q++[e]))(h:SO P Y ops dr x v m n s e:=by intro _ _ _ _ k;exact b9 (gR rfl rfl rfl (ac1 (by first|rfl|exact Nat.le_of_ble_eq_true rfl|(simp;done)|(simp;omega)|omega) (by first|rfl|exact Nat.le_of_ble_eq_true rfl|(simp;done)|(simp;omega)|omega))) ak (ab1 (by first|rfl|exact Nat.le_of_ble_eq_true rfl|(simp;done)|(simp;omega)|omega) (by first|rfl|exact Nat.le_of_ble_eq_true rfl|(simp;done)|(simp;omega)|omega) (by first|rfl|exact kS _|(simp[kS];done)|exact H0)) k):AOps P Y ops dr cf Q (x::r) ⟨v,m,n⟩ q:=h _ _ _ _ K
theorem aq2(K:AOps P Y ops dr cf Q r s (q++[e]))(h:SO P Y ops dr x v m n s e:=by intro _ _ _ _ k;exact b9 (gR rfl rfl aA (ac1 (by first|rfl|exact Nat.le_of_ble_eq_true rfl|(simp;done)|(simp;omega)|omega) (by first|rfl|exact Nat.le_of_ble_eq_true rfl|(simp;done)|(simp;omega)|omega))) ak (ab1 (by first|rfl|exact Nat.le_of_ble_eq_true rfl|(simp;done)|(simp;omega)|omega) (by first|rfl|exact Nat.le_of_ble_eq_true rfl|(simp;done)|(simp;omega)|omega) (by first|rfl|exact kS _|(simp[kS];done)|exact H0)) k):AOps P Y ops dr cf Q (x::r) ⟨v,m,n⟩ q:=h _ _ _ _ K
theorem Vv(K:AOps P Y ops dr cf Q r s (q++[e]))(h:SO P Y ops dr x v m n s e:=by intro _ _ _ _ k;exact aH (HS (cs:=bg _ _ _) V.h V.h V.h rfl rfl) ak ⟨V.h,V.h⟩ k):AOps P Y ops dr cf Q (x::r) ⟨v,m,n⟩ q:=h _ _ _ _ K
theorem Vc(K:AOps P Y ops dr cf Q r s (q++[e]))(h:SO P Y ops dr x v m n s e:=by intro _ _ _ _ k;exact aH (ad8 rfl rfl) ak rfl k):AOps P Y ops dr cf Q (x::r) ⟨v,m,n⟩ q:=h _ _ _ _ K
theorem aln(K:AOps P Y ops dr cf Q r s (q++[e]))(h:SO P Y ops dr x v m n s e:=by intro _ _ _ _ k;exact aH (ad9 rfl rfl) ak oG k):AOps P Y ops dr cf Q (x::r) ⟨v,m,n⟩ q:=h _ _ _ _ K
theorem alo(K:AOps P Y ops dr cf Q r s (q++[e]))(h:SO P Y ops dr x v m n s e:=by intro _ _ _ _ k;exact aH (akF rfl rfl) ak rfl k):AOps P Y ops dr cf Q (x::r) ⟨v,m,n⟩ q:=h _ _ _ _ K
theorem alu(K:AOps P Y ops dr cf Q r s (q++[e]))(h:SO P Y ops dr x v m n s e:=by intro _ _ _ _ k;exact aH (mP (v:=.fn _ _ _) rfl) ak trivial k):AOps P Y ops dr cf Q (x::r) ⟨v,m,n⟩ q:=h _ _ _ _ K
theorem Vf(K:AOps P Y ops dr cf Q r s (q++[e]))(h:SO P Y ops dr x v m n s e:=by intro _ _ _ _ k;exact aH (iI rfl (up_same _ _ _) rfl V.h) ak (iJ V.h V.h rfl) k):AOps P Y ops dr cf Q (x::r) ⟨v,m,n⟩ q:=h _ _ _ _ K
theorem Vk(K:AOps P Y ops dr cf Q r s (q++[e]))(h:SO P Y ops dr x v m n s e:=by intro _ _ _ _ k;exact bG rfl rfl (Q9 rfl rfl gZ) (fun hc=>⟨ak,rfl⟩) k):AOps P Y ops dr cf Q (x::r) ⟨v,m,n⟩ q:=h _ _ _ _ K
theorem aq3(K:AOps P Y ops dr cf Q r s (q++[e]))(h:SO P Y ops dr x v m n s e:=by intro _ _ _ _ k;exact aH (aqH rfl rfl) ak V.h k):AOps P Y ops dr cf Q (x::r) ⟨v,m,n⟩ q:=h _ _ _ _ K
variable{rf:Bool}{W:Exit->St->Prop}{o:Array Oper}{B:Code}{i:Nat}{k:St}
theorem ws[dG Y](h:AOps P Y o false [] (fK fun k=>AW P Y rf B W k) o.toList k []):AW P Y rf (.seq (.region i o false) B) W k:=aj h
theorem er[dG Y](h:AOps P Y o false [] (fK fun k=>AW P Y rf B W k) o.toList k []):AOps P Y ops dr [] (fK fun k=>AW P Y rf (.seq (.region i o false) B) W k) [] k q:=ab (aj h)
end
end Go.Abs
theorem eH{p:Prop}(h:p:=by repeat' (first|exact trivial|exact rfl|refine And.intro ?_ ?_)):p:=h
namespace Go.Proofs.Tryz.K
open Go.Abs
theorem kR{α:Sort _}{a b:α}(h:a=b:=by kernel_rfl):a=b:=h
instance:V (prog.cellsOf 1) 1:=⟨kR⟩
instance:V (aggP prog 1) false:=⟨a1⟩
instance:V (tyOk prog 1) true:=⟨kR⟩
instance:V (zeroP prog 1) [.s .nilFunc]:=⟨kR⟩
instance:V (prog.bytesOf 1) 8:=⟨b1⟩
instance:V (prog.cellsOf 2) 1:=⟨kR⟩
instance:V (prog.bytesOf 2) 8:=⟨b2⟩
instance:V (aggP prog 2) false:=⟨a2⟩
instance:V (tyOk prog 2) true:=⟨kR⟩
instance:V (zeroP prog 2) [.s (.int .i64 0)]:=⟨kR⟩
instance:V (prog.cellsOf 3) 1:=⟨c3⟩
instance:V (prog.bytesOf 3) 8:=⟨b3⟩
instance:V (aggP prog 3) false:=⟨a3⟩
instance:V (tyOk prog 3) true:=⟨kR⟩
instance:V (zeroP prog 3) [.s (.int .i64 0)]:=⟨kR⟩
instance:V (prog.cellsOf 4) 1:=⟨c4⟩
instance:V (prog.bytesOf 4) 1:=⟨b4⟩
instance:V (aggP prog 4) false:=⟨a4⟩
instance:V (tyOk prog 4) true:=⟨t4⟩
instance:V (zeroP prog 4) [.s (.bool false)]:=⟨kR⟩
instance:V (boT prog 4) true:=⟨kR⟩
instance:V (prog.cellsOf 5) 1:=⟨c5⟩
instance:V (prog.bytesOf 5) 1:=⟨b5⟩
instance:V (aggP prog 5) false:=⟨a5⟩
instance:V (tyOk prog 5) true:=⟨kR⟩
instance:V (zeroP prog 5) [.s (.int .u8 0)]:=⟨kR⟩
instance:V (prog.bytesOf 6) 1:=⟨b6⟩
instance:V (aggP prog 6) false:=⟨a6⟩
instance:V (prog.cellsOf 9) 1:=⟨kR⟩
instance:V (aggP prog 9) false:=⟨kR⟩
instance:V (tyOk prog 9) true:=⟨kR⟩
instance:V (stT prog 9) true:=⟨kR⟩
instance:V (elemP prog 15) 275:=⟨D5⟩
instance:V (elemP prog 16) 278:=⟨D6⟩
instance:V (elemP prog 17) 287:=⟨D4⟩
instance:V (prog.cellsOf 22) 1:=⟨kR⟩
instance:V (aggP prog 22) false:=⟨kR⟩
instance:V (tyOk prog 22) true:=⟨kR⟩
instance:V (elemP prog 22) 5:=⟨W7⟩
instance:V (slT prog 22) true:=⟨Vt⟩
instance:V (prog.cellsOf 23) 1:=⟨kR⟩
instance:V (aggP prog 23) false:=⟨kR⟩
instance:V (tyOk prog 23) true:=⟨kR⟩
instance:V (elemP prog 23) 9:=⟨kR⟩
instance:V (slT prog 23) true:=⟨kR⟩
instance:V (prog.cellsOf 24) 1:=⟨kR⟩
instance:V (aggP prog 24) false:=⟨kR⟩
instance:V (tyOk prog 24) true:=⟨kR⟩
instance:V (elemP prog 24) 72:=⟨kR⟩
instance:V (slT prog 24) true:=⟨kR⟩
instance:V (prog.cellsOf 26) 8:=⟨kR⟩
instance:V (aggP prog 26) true:=⟨kR⟩
instance:V (tyOk prog 26) true:=⟨kR⟩
instance:V (zeroP prog 26) [.s (.string "".toUTF8),.s (.bool false),.s (.int .i64 0),.s (.int .u8 0),.z,.z,.z,.z]:=⟨kR⟩
instance:V (fieldP prog 26 0) (some (0,9)):=⟨kR⟩
instance:V (fieldP prog 26 1) (some (1,4)):=⟨kR⟩
instance:V (fieldP prog 26 2) (some (2,3)):=⟨kR⟩
instance:V (fieldP prog 26 3) (some (3,5)):=⟨kR⟩
instance:V (fieldP prog 26 4) (some (4,22)):=⟨kR⟩
instance:V (fieldP prog 26 5) (some (5,22)):=⟨kR⟩
instance:V (fieldP prog 26 6) (some (6,23)):=⟨kR⟩
instance:V (fieldP prog 26 7) (some (7,24)):=⟨kR⟩
instance:V (prog.cellsOf 27) 1:=⟨y6⟩
instance:V (prog.bytesOf 27) 24:=⟨WW⟩
instance:V (aggP prog 27) false:=⟨kR⟩
instance:V (tyOk prog 27) true:=⟨kR⟩
instance:V (zeroP prog 27) [.z]:=⟨kR⟩
instance:V (elemP prog 27) 3:=⟨D3⟩
instance:V (slT prog 27) true:=⟨Db⟩
instance:V (prog.cellsOf 28) 1:=⟨kR⟩
instance:V (aggP prog 28) false:=⟨kR⟩
instance:V (tyOk prog 28) true:=⟨kR⟩
instance:V (zeroP prog 28) [.z]:=⟨kR⟩
instance:V (elemP prog 28) 27:=⟨kR⟩
instance:V (slT prog 28) true:=⟨kR⟩
instance:V (prog.cellsOf 34) 1:=⟨GX⟩
instance:V (aggP prog 34) false:=⟨GW⟩
instance:V (tyOk prog 34) true:=⟨t34⟩
instance:V (zeroP prog 34) [.s (.int .i64 0)]:=⟨kR⟩
instance:V (prog.cellsOf 52) 1:=⟨XP⟩
instance:V (prog.bytesOf 52) 24:=⟨XO⟩
instance:V (aggP prog 52) false:=⟨kR⟩
instance:V (tyOk prog 52) true:=⟨kR⟩
instance:V (zeroP prog 52) [.z]:=⟨kR⟩
instance:V (elemP prog 52) 4:=⟨kR⟩
instance:V (slT prog 52) true:=⟨kR⟩
instance:V (prog.cellsOf 59) 1:=⟨kR⟩
instance:V (aggP prog 59) false:=⟨kR⟩
instance:V (tyOk prog 59) true:=⟨kR⟩
instance:V (zeroP prog 59) [.z]:=⟨kR⟩
instance:V (elemP prog 59) 74:=⟨kR⟩
instance:V (slT prog 59) true:=⟨kR⟩
instance:V (prog.cellsOf 66) 6:=⟨kR⟩
instance:V (aggP prog 66) true:=⟨kR⟩
instance:V (tyOk prog 66) true:=⟨kR⟩
instance:V (zeroP prog 66) [.s (.int .u8 0),.s (.int .i64 0),.s (.int .i64 0),.s (.int .i64 0),.s (.int .i64 0),.z]:=⟨kR⟩
instance:V (fieldP prog 66 0) (some (0,5)):=⟨kR⟩
instance:V (fieldP prog 66 1) (some (1,3)):=⟨kR⟩
instance:V (fieldP prog 66 2) (some (2,3)):=⟨kR⟩
instance:V (fieldP prog 66 3) (some (3,3)):=⟨kR⟩
instance:V (fieldP prog 66 4) (some (4,3)):=⟨kR⟩
instance:V (fieldP prog 66 5) (some (5,27)):=⟨kR⟩
instance:V (prog.cellsOf 67) 1:=⟨kR⟩
instance:V (aggP prog 67) false:=⟨kR⟩
instance:V (tyOk prog 67) true:=⟨kR⟩
instance:V (elemP prog 67) 199:=⟨kR⟩
instance:V (slT prog 67) true:=⟨kR⟩
instance:V (prog.cellsOf 69) 15:=⟨kR⟩
instance:V (aggP prog 69) true:=⟨kR⟩
instance:V (tyOk prog 69) true:=⟨kR⟩
instance:V (zeroP prog 69) [.s (.int .u8 0),.s (.int .i64 0),.s (.int .i64 0),.s (.int .i64 0),.s (.int .i64 0),.s (.string "".toUTF8),.s (.int .u8 0),.s (.int .i64 0),.s (.int .i64 0),.s (.int .i64 0),.s (.int .i64 0),.z,.z,.z,.s (.int .i64 0)]:=⟨kR⟩
instance:V (fieldP prog 69 0) (some (0,5)):=⟨kR⟩
instance:V (fieldP prog 69 1) (some (1,3)):=⟨kR⟩
instance:V (fieldP prog 69 2) (some (2,3)):=⟨kR⟩
instance:V (fieldP prog 69 3) (some (3,3)):=⟨kR⟩
instance:V (fieldP prog 69 4) (some (4,3)):=⟨kR⟩
instance:V (fieldP prog 69 5) (some (5,9)):=⟨kR⟩
instance:V (fieldP prog 69 6) (some (6,66)):=⟨kR⟩
instance:V (fieldP prog 69 7) (some (12,27)):=⟨kR⟩
instance:V (fieldP prog 69 8) (some (13,67)):=⟨kR⟩
instance:V (fieldP prog 69 9) (some (14,3)):=⟨kR⟩
instance:V (prog.cellsOf 70) 1:=⟨kR⟩
instance:V (aggP prog 70) false:=⟨kR⟩
instance:V (tyOk prog 70) true:=⟨kR⟩
instance:V (elemP prog 70) 66:=⟨kR⟩
instance:V (slT prog 70) true:=⟨kR⟩
instance:V (prog.cellsOf 72) 16:=⟨kR⟩
instance:V (aggP prog 72) true:=⟨kR⟩
instance:V (tyOk prog 72) true:=⟨kR⟩
instance:V (zeroP prog 72) [.z,.s (.int .u8 0),.s (.int .i64 0),.s (.int .i64 0),.s (.int .i64 0),.s (.int .i64 0),.s (.string "".toUTF8),.s (.int .u8 0),.s (.int .i64 0),.s (.int .i64 0),.s (.int .i64 0),.s (.int .i64 0),.z,.z,.z,.s (.int .i64 0)]:=⟨kR⟩
instance:V (fieldP prog 72 0) (some (0,70)):=⟨kR⟩
instance:V (fieldP prog 72 1) (some (1,69)):=⟨kR⟩
instance:V (prog.cellsOf 74) 2:=⟨LI⟩
instance:V (prog.bytesOf 74) 32:=⟨GV⟩
instance:V (aggP prog 74) true:=⟨kR⟩
instance:V (tyOk prog 74) true:=⟨kR⟩
instance:V (zeroP prog 74) [.s (.int .i64 0),.z]:=⟨kR⟩
instance:V (fieldP prog 74 0) (some (0,3)):=⟨kR⟩
instance:V (fieldP prog 74 1) (some (1,27)):=⟨kR⟩
instance:V (prog.cellsOf 79) 1:=⟨kR⟩
instance:V (aggP prog 79) false:=⟨kR⟩
instance:V (tyOk prog 79) true:=⟨kR⟩
instance:V (zeroP prog 79) [.s (.pointer none)]:=⟨kR⟩
instance:V (tyOk prog 89) true:=⟨kR⟩
instance:V (zeroP prog 89) [.s (.string "".toUTF8),.s (.bool false),.s (.int .i64 0),.s (.int .u8 0),.z,.z,.z,.z,.z,.z,.z]:=⟨kR⟩
instance:V (fieldP prog 89 0) (some (0,26)):=⟨kR⟩
instance:V (fieldP prog 89 1) (some (8,28)):=⟨kR⟩
instance:V (fieldP prog 89 2) (some (9,28)):=⟨kR⟩
instance:V (fieldP prog 89 3) (some (10,52)):=⟨kR⟩
instance:V (prog.cellsOf 98) 1:=⟨kR⟩
instance:V (aggP prog 98) false:=⟨kR⟩
instance:V (tyOk prog 98) true:=⟨kR⟩
instance:V (elemP prog 102) 52:=⟨kR⟩
instance:V (slT prog 102) true:=⟨kR⟩
instance:V (prog.cellsOf 127) 1:=⟨kR⟩
instance:V (aggP prog 127) false:=⟨kR⟩
instance:V (tyOk prog 127) true:=⟨kR⟩
instance:V (zeroP prog 127) [.s (.map none)]:=⟨kR⟩
instance:V (prog.cellsOf 128) 1:=⟨kR⟩
instance:V (aggP prog 128) false:=⟨kR⟩
instance:V (tyOk prog 128) true:=⟨kR⟩
instance:V (zeroP prog 128) [.s .nilFunc]:=⟨kR⟩
instance:V (prog.cellsOf 131) 1:=⟨kR⟩
instance:V (aggP prog 131) false:=⟨kR⟩
instance:V (tyOk prog 131) true:=⟨kR⟩
instance:V (prog.cellsOf 133) 10:=⟨VY⟩
instance:V (aggP prog 133) true:=⟨VX⟩
instance:V (tyOk prog 133) true:=⟨t133⟩
instance:V (zeroP prog 133) [.s (.string "".toUTF8),.s (.bool false),.s (.int .i64 0),.s (.int .u8 0),.z,.z,.z,.z,.s (.map none),.s (.map none)]:=⟨kR⟩
instance:V (fieldP prog 133 0) (some (0,26)):=⟨kR⟩
instance:V (fieldP prog 133 1) (some (8,131)):=⟨kR⟩
instance:V (fieldP prog 133 2) (some (9,131)):=⟨kR⟩
instance:V (elemP prog 155) 158:=⟨kR⟩
instance:V (slT prog 155) true:=⟨kR⟩
instance:V (prog.cellsOf 158) 2:=⟨lT⟩
instance:V (prog.bytesOf 158) 32:=⟨Wa⟩
instance:V (aggP prog 158) true:=⟨r6⟩
instance:V (tyOk prog 158) true:=⟨t158⟩
instance:V (zeroP prog 158) [.s (.bool false),.z]:=⟨kR⟩
instance:V (fieldP prog 158 0) (some (0,4)):=⟨kR⟩
instance:V (fieldP prog 158 1) (some (1,52)):=⟨kR⟩
instance:V (prog.cellsOf 199) 2:=⟨kR⟩
instance:V (aggP prog 199) true:=⟨kR⟩
instance:V (tyOk prog 199) true:=⟨kR⟩
instance:V (zeroP prog 199) [.s (.string "".toUTF8),.s (.int .i64 0)]:=⟨kR⟩
instance:V (fieldP prog 199 0) (some (0,9)):=⟨kR⟩
instance:V (fieldP prog 199 1) (some (1,3)):=⟨kR⟩
instance:V (prog.cellsOf 205) 6:=⟨kR⟩
instance:V (aggP prog 205) true:=⟨KE⟩
instance:V (tyOk prog 205) true:=⟨kR⟩
instance:V (zeroP prog 205) [.s (.int .i64 0),.s (.int .i64 0),.s (.int .i64 0),.s (.int .i64 0),.s (.int .i64 0),.s (.int .i64 0)]:=⟨KF⟩
instance:V (fieldP prog 205 0) (some (0,3)):=⟨kR⟩
instance:V (fieldP prog 205 1) (some (1,3)):=⟨kR⟩
instance:V (fieldP prog 205 2) (some (2,3)):=⟨kR⟩
instance:V (fieldP prog 205 3) (some (3,3)):=⟨kR⟩
instance:V (fieldP prog 205 4) (some (4,3)):=⟨kR⟩
instance:V (fieldP prog 205 5) (some (5,3)):=⟨kR⟩
instance:V (prog.cellsOf 208) 9:=⟨kR⟩
instance:V (aggP prog 208) true:=⟨kR⟩
instance:V (tyOk prog 208) true:=⟨kR⟩
instance:V (zeroP prog 208) [.s (.string "".toUTF8),.s (.bool false),.s (.int .i64 0),.s (.int .u8 0),.z,.z,.z,.z,.z]:=⟨kR⟩
instance:V (fieldP prog 208 0) (some (0,26)):=⟨kR⟩
instance:V (fieldP prog 208 1) (some (8,28)):=⟨kR⟩
instance:V (elemP prog 227) 231:=⟨kR⟩
instance:V (slT prog 227) true:=⟨kR⟩
instance:V (prog.cellsOf 231) 20:=⟨rU⟩
instance:V (prog.bytesOf 231) 160:=⟨Vm⟩
instance:V (aggP prog 231) true:=⟨uY⟩
instance:V (tyOk prog 231) true:=⟨t231⟩
instance:V (zeroP prog 231) [.s (.int .u64 0),.s (.int .u64 0),.s (.int .u64 0),.s (.int .u64 0),.s (.int .u64 0),.s (.int .u64 0),.s (.int .u64 0),.s (.int .u64 0),.s (.int .u64 0),.s (.int .u64 0),.s (.int .u64 0),.s (.int .u64 0),.s (.int .u64 0),.s (.int .u64 0),.s (.int .u64 0),.s (.int .u64 0),.s (.int .u64 0),.s (.int .u64 0),.s (.int .u64 0),.s (.int .u64 0)]:=⟨Vl⟩
instance:V (elemP prog 231) 98:=⟨kR⟩
instance:V (arT prog 231) true:=⟨kR⟩
instance:V (lenP prog 231) 20:=⟨kR⟩
instance:V (prog.underlying 8) (some (.struct (ir prog 8))):=⟨u8⟩
instance:V (prog.underlying 22) (some (.slice 5)):=⟨kR⟩
instance:V (prog.underlying 66) (some (.struct (ir prog 66))):=⟨kR⟩
instance:V (((ir prog 66).toList.map fun f=>(f.offset,prog.cellsOf f.type))) [(0,1),(1,1),(2,1),(3,1),(4,1),(5,1)]:=⟨kR⟩
instance:V (((ir prog 66).toList.all fun f=>(prog.info? f.type).isSome)) true:=⟨kR⟩
instance:V (prog.underlying 74) (some (.struct (ir prog 74))):=⟨kR⟩
instance:V (((ir prog 74).toList.map fun f=>(f.offset,prog.cellsOf f.type))) [(0,1),(1,1)]:=⟨kR⟩
instance:V (((ir prog 74).toList.all fun f=>(prog.info? f.type).isSome)) true:=⟨kR⟩
instance:V (prog.underlying 89) (some (.struct (ir prog 89))):=⟨kR⟩
instance:V (((ir prog 89).toList.map fun f=>(f.offset,prog.cellsOf f.type))) [(0,8),(8,1),(9,1),(10,1)]:=⟨kR⟩
instance:V (((ir prog 89).toList.all fun f=>(prog.info? f.type).isSome)) true:=⟨kR⟩
instance:V (mkeyP prog 127) 3:=⟨wq⟩
instance:V (mapT prog 127) true:=⟨wu⟩
instance:V (mkeyP prog 131) 5:=⟨kR⟩
instance:V (mapT prog 131) true:=⟨kR⟩
instance:V (melP prog 131) 205:=⟨JP⟩
instance:V (prog.underlying 133) (some (.struct (ir prog 133))):=⟨kR⟩
instance:V (((ir prog 133).toList.map fun f=>(f.offset,prog.cellsOf f.type))) [(0,8),(8,1),(9,1)]:=⟨kR⟩
instance:V (((ir prog 133).toList.all fun f=>(prog.info? f.type).isSome)) true:=⟨kR⟩
instance:V (prog.underlying 158) (some (.struct (ir prog 158))):=⟨kR⟩
instance:V (((ir prog 158).toList.map fun f=>(f.offset,prog.cellsOf f.type))) [(0,1),(1,1)]:=⟨kR⟩
instance:V (((ir prog 158).toList.all fun f=>(prog.info? f.type).isSome)) true:=⟨kR⟩
instance:V (prog.underlying 205) (some (.struct (ir prog 205))):=⟨kR⟩
instance:V (((ir prog 205).toList.map fun f=>(f.offset,prog.cellsOf f.type))) [(0,1),(1,1),(2,1),(3,1),(4,1),(5,1)]:=⟨kR⟩
instance:V (((ir prog 205).toList.all fun f=>(prog.info? f.type).isSome)) true:=⟨kR⟩
instance:V (prog.underlying 208) (some (.struct (ir prog 208))):=⟨kR⟩
instance:V (((ir prog 208).toList.map fun f=>(f.offset,prog.cellsOf f.type))) [(0,8),(8,1)]:=⟨kR⟩
instance:V (((ir prog 208).toList.all fun f=>(prog.info? f.type).isSome)) true:=⟨kR⟩
instance:V (prog.underlying 2) (some (.int .i64)):=⟨u2⟩
instance:V (prog.underlying 3) (some (.int .i64)):=⟨u3⟩
instance:V (prog.underlying 5) (some (.int .u8)):=⟨u5⟩
instance:V (prog.underlying 189) (some (.int .u64)):=⟨kR⟩
end Go.Proofs.Tryz.K
namespace Go.Abs
open Go.Argus
section
variable{P:Program}{Y:YSpec}{ops:Array Oper}{dr:Bool}{cf:List (Nat×Nat)}{Q:Exit->St->Prop}{r:List Oper}{v:Env}{m:Mem}{n:Nat}{q:Tra}{x:Oper}{s:St}{e:List Nat×List Nat}
theorem lc{p:Prop}(h:p:=by first|rfl|exact Nat.le_of_ble_eq_true rfl|(simp;done)|(simp;omega)|omega):p:=h
theorem A6{p:Prop}(h:p:=by first|omega|exact Nat.le_of_ble_eq_true rfl|(simp;done)|(simp;omega)):p:=h
theorem jz{p:Prop}(h:p:=by first|(simp;done)|exact⟨rfl,Nat.le_of_ble_eq_true rfl⟩|(simp;omega)):p:=h
theorem Le{p:Prop}(h:p:=by first|rfl|exact kS _|(simp[kS];done)|exact H0):p:=h
theorem Dz{p:Prop}(h:p:=by first|(simp;done)|omega|exact Nat.le_of_ble_eq_true rfl):p:=h
theorem A7{p:Prop}(h:p:=by unfold maxLen;first|omega|(simp;omega)):p:=h
theorem DA{p:Prop}(h:p:=by first|rfl|(simp;done)|(simp;omega)):p:=h
theorem DB{p:Prop}(h:p:=by first|(simp;done)|(simp;omega)):p:=h
theorem qI{p:Prop}(h:p:=by first|(simp;done)|fail):p:=h
theorem y5{p:Prop}(h:p:=by first|decide|simp):p:=h
def oT(x:Oper):Nat:=2*(match x.op with
 | .move ..=>1
 | .assign ..=>2
 | .pick ..=>3
 | .alloc ..=>4
 | .box ..=>5
 | .build ..=>6
 | .buildSlice ..=>7
 | .insert ..=>8
 | .load ..=>9
 | .store ..=>10
 | .nilCheck ..=>11
 | .unOp ..=>12
 | .convert ..=>13
 | .makeFunc ..=>14
 | .makeMap ..=>15
 | .makeSlice ..=>16
 | .slice ..=>17
 | .fieldAddr ..=>18
 | .field ..=>19
 | .indexAddr ..=>20
 | .index ..=>21
 | .lookup ..=>22
 | .mapUpdate ..=>23
 | .extract ..=>24
 | .call ..=>25
 | .binOp .add ..=>26
 | .binOp .sub ..=>27
 | .binOp .mul ..=>28
 | .binOp .quo ..=>29
 | .binOp .rem ..=>30
 | .binOp .and ..=>31
 | .binOp .or ..=>32
 | .binOp .xor ..=>33
 | .binOp .shl ..=>34
 | .binOp .shr ..=>35
 | .binOp .andNot ..=>36
 | .binOp .eql ..=>37
 | .binOp .neq ..=>38
 | .binOp .lss ..=>39
 | .binOp .leq ..=>40
 | .binOp .gtr ..=>41
 | .binOp .geq ..=>42
 |_=>0)+(match x.guard with
 |none=>0
 |_=>1)
theorem SS2(ht:oT x=2:=by exact rfl)(h:SO P Y ops dr x v m n s e:=by intro _ _ _ _ k;first|exact aH (jH (v:=.s (.int _ _)) rfl) ak trivial k|exact aH (jH (v:=.s (.bool _)) rfl) ak trivial k|exact aH (jH (v:=.sl _ _) rfl) ak trivial k|exact aH (jH (v:=.rs _ _ _) rfl) ak trivial k|exact aH (jH (v:=.pt _) rfl) ak trivial k|exact aH (jH (v:=.fn _ _ _) rfl) ak trivial k|exact aH (jH (v:=.s (.string _)) rfl) ak trivial k|exact aH (jH (v:=.mp _) rfl) ak trivial k|exact aH (jH (v:=.rp _ _) rfl) ak trivial k|exact aH (jH (v:=_) rfl) ak trivial k|fail):SO P Y ops dr x v m n s e:=h
theorem SS4(ht:oT x=4:=by exact rfl)(h:SO P Y ops dr x v m n s e:=by intro _ _ _ _ k;first|exact aH (mP (v:=.s (.bool _)) rfl) ak trivial k|exact aH (mP (v:=.s (.int _ _)) rfl) ak trivial k|exact aH (mP (v:=.sl _ _) rfl) ak trivial k|exact aH (mP (v:=.rs _ _ _) rfl) ak trivial k|exact aH (mP (v:=.z) rfl) ak trivial k|exact aH (mP (v:=.s (.pointer none)) rfl) ak trivial k|exact aH (mP (v:=.mp _) rfl) ak trivial k|fail):SO P Y ops dr x v m n s e:=h
theorem akL(ht:oT x=18:=by exact rfl)(h:SO P Y ops dr x v m n s e:=by intro _ _ _ _ k;first|exact aH (mf (vs:=aG _) rfl V.h V.h rfl) ak (mg V.h V.h qI) k|exact aH (mf (vs:=bl _) rfl V.h V.h rfl) ak (mg V.h V.h qI) k|exact aH (mf (vs:=bc _) rfl V.h V.h rfl) ak (mg V.h V.h qI) k|exact aH (mf (vs:=bg _ _ _) rfl V.h V.h rfl) ak (mg V.h V.h qI) k|exact aH (mf (vs:=eC _) rfl V.h V.h rfl) ak (mg V.h V.h qI) k|exact aH (dU rfl rfl V.h V.h (mw lc)) ak (dV V.h V.h lc) k|exact aH (mf (vs:=bL _ _) rfl V.h V.h rfl) ak (mg V.h V.h qI) k|exact aH (dU (vs:=bc _) rfl rfl V.h V.h rfl) ak (dV V.h V.h Dz) k|exact aH (dU (vs:=bl _) rfl (up_same _ _ _) V.h V.h rfl) ak (dV V.h V.h Dz) k|exact aH (mf rfl V.h V.h rfl) ak (mg V.h V.h qI) k|exact aH (mf (vs:=lu _) rfl V.h V.h rfl) ak (mg V.h V.h qI) k|exact aH (dU rfl rfl V.h V.h rfl) ak (dV V.h V.h Dz) k|exact aH (dU rfl (ap oG rfl) V.h V.h (mw lc)) ak (dV V.h V.h lc) k|exact aH (dU rfl (up_same _ _ _) V.h V.h rfl) ak (dV V.h V.h Dz) k|exact aH (QQ rfl V.h) ak (Q3 V.h V.h) k|exact aH (iI rfl rfl kd V.h) ak (iJ V.h V.h kd) k|exact aH (iI rfl aA kd V.h) ak (iJ V.h V.h kd) k|exact aH (iI rfl cW kd V.h) ak (iJ V.h V.h kd) k|exact aH (iI rfl (up_same _ _ _) kd V.h) ak (iJ V.h V.h kd) k|exact aH (iI rfl rfl rfl V.h) ak (iJ V.h V.h rfl) k|exact aH (iI rfl aA rfl V.h) ak (iJ V.h V.h rfl) k|exact aH (iI rfl cW rfl V.h) ak (iJ V.h V.h rfl) k|fail):SO P Y ops dr x v m n s e:=h
theorem akM(ht:oT x=19:=by exact rfl)(h:SO P Y ops dr x v m n s e:=by intro _ _ _ _ k;first|exact bG rfl rfl (QQ rfl V.h) (fun hc=>⟨ak,(Q3 V.h V.h)⟩) k|exact bG rfl rfl (mf (vs:=bL _ _) rfl V.h V.h rfl) (fun hc=>⟨ak,(mg V.h V.h qI)⟩) k|exact bG rfl rfl (mf (vs:=bg _ _ _) rfl V.h V.h rfl) (fun hc=>⟨ak,(mg V.h V.h qI)⟩) k|exact bG rfl rfl (mf (vs:=bc _) rfl V.h V.h rfl) (fun hc=>⟨ak,(mg V.h V.h qI)⟩) k|exact bG rfl rfl (mf (vs:=bl _) rfl V.h V.h rfl) (fun hc=>⟨ak,(mg V.h V.h qI)⟩) k|exact bG rfl rfl (iI rfl rfl kd V.h) (fun hc=>⟨ak,(iJ V.h V.h kd)⟩) k|exact bG rfl rfl (iI rfl rfl rfl V.h) (fun hc=>⟨ak,(iJ V.h V.h rfl)⟩) k|exact bG rfl rfl (iI rfl (up_same _ _ _) rfl V.h) (fun hc=>⟨ak,(iJ V.h V.h rfl)⟩) k|exact bG rfl rfl (dU rfl rfl V.h V.h rfl) (fun hc=>⟨ak,(dV V.h V.h Dz)⟩) k|exact bG rfl rfl (dU rfl (ap oG rfl) V.h V.h (mw lc)) (fun hc=>⟨ak,(dV V.h V.h lc)⟩) k|fail):SO P Y ops dr x v m n s e:=h
theorem SS6(ht:oT x=6:=by exact rfl)(h:SO P Y ops dr x v m n s e:=by intro _ _ _ _ k;first|exact aaX rfl rfl (by first|exact trivial|exact rfl) k|exact aaY rfl rfl (by first|exact trivial|exact rfl) k|exact ach rfl rfl rfl (fun h=>by first|exact trivial|exact rfl|exact h|(show Eq _ _;rw[h];rfl)|(show Eq _ _;simp[h];done)|(show Eq _ _;simp_all;done)|fail) (fun h=>by first|exact trivial|exact rfl|exact h|(show Eq _ _;rw[h];rfl)|(show Eq _ _;simp[h];done)|(show Eq _ _;simp_all;done)|fail) k|fail):SO P Y ops dr x v m n s e:=h
theorem akN(ht:oT x=36:=by exact rfl)(h:SO P Y ops dr x v m n s e:=by intro _ _ _ _ k;first|exact aH (OO rfl V.h) ak (qn V.h) k|exact aH (sP rfl rfl V.h) ak (qn V.h) k|exact aH (sP rfl aA V.h) ak (qn V.h) k|exact aH (sP rfl cW V.h) ak (qn V.h) k|exact aH (sP rfl (up_same _ _ _) V.h) ak (qn V.h) k|fail):SO P Y ops dr x v m n s e:=h
theorem akO(ht:oT x=37:=by exact rfl)(h:SO P Y ops dr x v m n s e:=by intro _ _ _ _ k;first|exact bG rfl rfl (OO rfl V.h) (fun hc=>⟨ak,(qn V.h)⟩) k|exact bG rfl rfl (sP rfl rfl V.h) (fun hc=>⟨ak,(qn V.h)⟩) k|exact bG rfl rfl (sP rfl (up_same _ _ _) V.h) (fun hc=>⟨ak,(qn V.h)⟩) k|fail):SO P Y ops dr x v m n s e:=h
theorem SS3(ht:oT x=3:=by exact rfl)(h:SO P Y ops dr x v m n s e:=by intro _ _ _ _ k;first|exact bG rfl rfl (jH (v:=.s (.int _ _)) rfl) (fun hc=>⟨ak,trivial⟩) k|exact bG rfl rfl (jH (v:=.s (.bool _)) rfl) (fun hc=>⟨ak,trivial⟩) k|exact bG rfl rfl (jH (v:=.sl _ _) rfl) (fun hc=>⟨ak,trivial⟩) k|exact bG rfl rfl (jH (v:=.rs _ _ _) rfl) (fun hc=>⟨ak,trivial⟩) k|exact bG rfl rfl (jH (v:=.z) rfl) (fun hc=>⟨ak,trivial⟩) k|exact bG rfl rfl (jH (v:=.s (.string _)) rfl) (fun hc=>⟨ak,trivial⟩) k|exact bG rfl rfl (jH (v:=.fn _ _ _) rfl) (fun hc=>⟨ak,trivial⟩) k|fail):SO P Y ops dr x v m n s e:=h
theorem akP(ht:oT x=40:=by exact rfl)(h:SO P Y ops dr x v m n s e:=by intro _ _ _ _ k;first|exact aH (Q1 rfl rfl V.h V.h (by assumption)) ak (Q2 V.h (by assumption)) k|exact aH (rz rfl rfl V.h V.h (zD) (by assumption)) ak (rA V.h (zD) (by assumption)) k|exact aH (rz rfl rfl V.h V.h (Ew) (by assumption)) ak (rA V.h (Ew) (by assumption)) k|exact aH (acj rfl rfl rfl V.h V.h V.h) ak ⟨V.h,by omega⟩ k|exact aH (rz rfl rfl V.h V.h (Bs) (by assumption)) ak (rA V.h (Bs) (by assumption)) k|exact aH (rz rfl rfl V.h V.h (MS) (by assumption)) ak (rA V.h (MS) (by assumption)) k|exact aH (rz rfl rfl V.h V.h (zE) (by assumption)) ak (rA V.h (zE) (by assumption)) k|exact aH (nM rfl rfl rfl V.h V.h) ak ⟨V.h,by omega⟩ k|exact aH (nM rfl rfl aA V.h V.h) ak ⟨V.h,by omega⟩ k|exact aH (nM rfl rfl (ap oG (ap oG aA)) V.h V.h) ak ⟨V.h,by omega⟩ k|exact aH (nM rfl rfl (ap oG (ap oG (ap oG aA))) V.h V.h) ak ⟨V.h,by omega⟩ k|exact aH (nM rfl rfl cW V.h V.h) ak ⟨V.h,by omega⟩ k|exact aH (nM rfl rfl (up_same _ _ _) V.h V.h) ak ⟨V.h,by omega⟩ k|exact aH (BO rfl rfl rfl V.h V.h) ak ⟨V.h,by omega⟩ k|exact aH (ack rfl rfl (up_same _ _ _) V.h V.h) ak ⟨V.h,by omega⟩ k|fail):SO P Y ops dr x v m n s e:=h
theorem akQ(ht:oT x=74:=by exact rfl)(h:SO P Y ops dr x v m n s e:=by intro _ _ _ _ k;first|exact aH (I0 rfl rfl fh) ak rfl k|exact aH (Jp rfl rfl) ak rfl k|fail):SO P Y ops dr x v m n s e:=h
theorem akR(ht:oT x=20:=by exact rfl)(h:SO P Y ops dr x v m n s e:=by intro _ _ _ _ k;first|exact b9 (eS (d:=.s (.bool _)) (cs':=_) rfl rfl rfl rfl rfl) ak (cP V.h V.h jz rfl) k|exact b9 (eS (d:=.s (.string _)) (cs':=_) rfl rfl rfl rfl rfl) ak (cP V.h V.h jz rfl) k|exact b9 (gR rfl rfl rfl (IA lc lc)) ak (BE lc lc Le) k|exact b9 (gR (cs':=eC _) rfl rfl (up_same _ _ _) rfl) ak (cP V.h V.h jz (by rfl)) k|exact b9 (gR (cs':=bl _) rfl rfl (up_same _ _ _) rfl) ak (cP V.h V.h jz (by rfl)) k|exact b9 (eS (d:=.s (.bool _)) (cs':=_) rfl rfl cW rfl rfl) ak (cP V.h V.h jz rfl) k|exact b9 (gR rfl rfl (up_same _ _ _) (IA lc lc)) ak (BE lc lc Le) k|exact b9 (gR (cs':=lu _) rfl rfl (up_same _ _ _) rfl) ak (cP V.h V.h jz (by rfl)) k|exact b9 (gR rfl rfl rfl rfl) ak (cP V.h V.h jz (by rfl)) k|exact b9 (gR rfl rfl (up_same _ _ _) rfl) ak (cP V.h V.h jz (by rfl)) k|exact b9 (eS (d:=.s (.int _ _)) (cs':=[_]) rfl rfl rfl rfl rfl) ak (cP V.h V.h jz rfl) k|exact b9 (eS (d:=.s (.int _ _)) (cs':=_) rfl rfl rfl rfl rfl) ak (cP V.h V.h jz rfl) k|exact b9 (eS (d:=.s (.int _ _)) (cs':=_) rfl rfl (up_same _ _ _) rfl rfl) ak (cP V.h V.h jz rfl) k|exact b9 (gR rfl rfl (ap oG rfl) (IA lc lc)) ak (BE lc lc Le) k|exact b9 (gR rfl rfl rfl (S7 (by decide) (by assumption) (by assumption) (by first|assumption|(simp;omega)|(simp;done)|fail))) ak (BE (by first|(simp;omega)|(simp;done)|fail) (yp (by assumption) (by assumption)) (kS _)) k|exact b9 (eS (d:=.pt _) (cs':=[_]) rfl rfl rfl rfl rfl) ak (cP V.h V.h jz rfl) k|exact b9 (eS (d:=.s (.pointer none)) (cs':=[_]) rfl rfl rfl rfl rfl) ak (cP V.h V.h jz rfl) k|exact b9 (eS (d:=.sl _ _) (cs':=[_]) rfl rfl rfl rfl rfl) ak (cP V.h V.h jz rfl) k|exact b9 (eS (d:=.rs _ _ _) (cs':=[_]) rfl rfl rfl rfl rfl) ak (cP V.h V.h jz rfl) k|exact b9 (eS (d:=.rs _ _ _) (cs':=[_]) rfl rfl (ap oG (ap oG aA)) rfl rfl) ak (cP V.h V.h jz rfl) k|exact b9 (eS (d:=.rs _ _ _) (cs':=[_]) rfl rfl (ap oG (ap oG (ap oG aA))) rfl rfl) ak (cP V.h V.h jz rfl) k|exact b9 (eS (d:=.sl _ _) (cs':=_) rfl rfl rfl rfl rfl) ak (cP V.h V.h jz rfl) k|exact b9 (eS (d:=.rs _ _ _) (cs':=_) rfl rfl (ap oG (ap oG aA)) rfl rfl) ak (cP V.h V.h jz rfl) k|exact b9 (eS (d:=.rs _ _ _) (cs':=_) rfl rfl (ap oG (ap oG (ap oG aA))) rfl rfl) ak (cP V.h V.h jz rfl) k|exact b9 (eS (d:=.z) (cs':=_) rfl rfl rfl rfl rfl) ak (cP V.h V.h jz rfl) k|fail):SO P Y ops dr x v m n s e:=h
theorem akS(ht:oT x=50:=by exact rfl)(h:SO P Y ops dr x v m n s e:=by intro _ _ _ _ k;first|exact aH (SV rfl) ak V.h k|exact aH (IW rfl) ak V.h k|exact tH (tl rfl rfl rfl V.h V.h (NW rT) rfl) ak ⟨V.h,rfl,A6,(by decide),DA,A7,(by rw[b3];first|omega|(simp;omega)),DB⟩ k|exact aH (Fl rfl rfl) ak V.h k|exact aH (Fl rfl aA) ak V.h k|exact tH (tl rfl rfl rfl V.h V.h (sQ rfl rfl) rfl) ak ⟨V.h,rfl,A6,(by decide),DA,A7,(by rw[b3];first|omega|(simp;omega)),DB⟩ k|exact tH (tl rfl (ap oG aA) rfl V.h V.h (sQ (up_same _ _ _) rfl) rfl) ak ⟨V.h,rfl,A6,(by decide),DA,A7,(by rw[b3];first|omega|(simp;omega)),DB⟩ k|exact tH (tl rfl (ap oG cW) rfl V.h V.h (sQ (up_same _ _ _) rfl) rfl) ak ⟨V.h,rfl,A6,(by decide),DA,A7,(by rw[b3];first|omega|(simp;omega)),DB⟩ k|exact tH (tl rfl (ap oG ix) rfl V.h V.h (sQ (up_same _ _ _) rfl) rfl) ak ⟨V.h,rfl,A6,(by decide),DA,A7,(by rw[b3];first|omega|(simp;omega)),DB⟩ k|exact fX (QU rfl rfl V.h V.h (sQ (up_same _ _ _) rfl)) ak ⟨V.h,A6,(by decide),A7,(by rw[b3];first|omega|(simp;omega))⟩ k|fail):SO P Y ops dr x v m n s e:=h
theorem akT(ht:oT x=52:=by exact rfl)(h:SO P Y ops dr x v m n s e:=by intro _ _ _ _ k;first|exact aH (SQ rfl rfl oG) ak rfl k|fail):SO P Y ops dr x v m n s e:=h
theorem akU(ht:oT x=78:=by exact rfl)(h:SO P Y ops dr x v m n s e:=by intro _ _ _ _ k;first|exact aH (Q8 rfl rfl tI) ak rfl k|exact aH (Jl rfl rfl) ak rfl k|fail):SO P Y ops dr x v m n s e:=h
theorem akV(ht:oT x=75:=by exact rfl)(h:SO P Y ops dr x v m n s e:=by intro _ _ _ _ k;first|exact bG rfl rfl (I0 rfl rfl fh) (fun hc=>⟨ak,rfl⟩) k|exact bG rfl rfl (QP rfl rfl) (fun hc=>⟨ak,V.h⟩) k|exact bG rfl rfl (I0 rfl rfl FL) (fun hc=>⟨ak,rfl⟩) k|exact bG rfl rfl (Jp rfl rfl) (fun hc=>⟨ak,rfl⟩) k|exact bG rfl rfl (IU rfl rfl) (fun hc=>⟨ak,trivial⟩) k|fail):SO P Y ops dr x v m n s e:=h
theorem akW(ht:oT x=10:=by exact rfl)(h:SO P Y ops dr x v m n s e:=by intro _ _ _ _ k;first|exact fX (tk (cs:=aG _) rfl) ak (by first|rfl|exact uw eL fk|exact kS _|exact uN c7) k|exact fX (tk rfl) ak (by first|rfl|exact uw eL fk|exact kS _|exact uN c7) k|exact fX (tk (cs:=bc _) rfl) ak (by first|rfl|exact uw eL fk|exact kS _|exact uN c7) k|exact fX (tk (cs:=bl _) rfl) ak (by first|rfl|exact uw eL fk|exact kS _|exact uN c7) k|exact fX (tk (cs:=bg _ _ _) rfl) ak (by first|rfl|exact uw eL fk|exact kS _|exact uN c7) k|exact fX (tk (cs:=bL _ _) rfl) ak (by first|rfl|exact uw eL fk|exact kS _|exact uN c7) k|exact fX (Fk (d:=.s (.int _ _)) rfl rfl) ak rfl k|fail):SO P Y ops dr x v m n s e:=h
theorem SS8(ht:oT x=8:=by exact rfl)(h:SO P Y ops dr x v m n s e:=by intro _ _ _ _ k;first|exact fX (ab8 V.h) ak V.h k|fail):SO P Y ops dr x v m n s e:=h
theorem akX(ht:oT x=41:=by exact rfl)(h:SO P Y ops dr x v m n s e:=by intro _ _ _ _ k;first|exact bG rfl rfl (Q1 rfl rfl V.h V.h (by assumption)) (fun hc=>⟨ak,(Q2 V.h (by assumption))⟩) k|exact bG rfl rfl (rz rfl rfl V.h V.h (Ew) (by assumption)) (fun hc=>⟨ak,(rA V.h (Ew) (by assumption))⟩) k|exact bG rfl rfl (nM rfl rfl rfl V.h V.h) (fun hc=>⟨ak,⟨V.h,by omega⟩⟩) k|fail):SO P Y ops dr x v m n s e:=h
theorem akY(ht:oT x=48:=by exact rfl)(h:SO P Y ops dr x v m n s e:=by intro _ _ _ _ k;first|exact aH (qT (v:=.s (.int _ _)) rfl rfl) ak y5 k|exact aH (qT (v:=.s (.bool _)) rfl rfl) ak y5 k|exact aH (qT (v:=.sl _ _) rfl rfl) ak y5 k|exact aH (qT (v:=.z) rfl rfl) ak y5 k|exact aH (qT (v:=.pt _) rfl rfl) ak y5 k|exact aH (qT (v:=.s (.pointer none)) rfl rfl) ak y5 k|exact aH (qT (v:=.agg _) rfl rfl) ak y5 k|fail):SO P Y ops dr x v m n s e:=h
theorem akZ(ht:oT x=24:=by exact rfl)(h:SO P Y ops dr x v m n s e:=by intro _ _ _ _ k;first|exact aH (SR rfl) ak trivial k|fail):SO P Y ops dr x v m n s e:=h
theorem ak0(ht:oT x=51:=by exact rfl)(h:SO P Y ops dr x v m n s e:=by intro _ _ _ _ k;first|exact bG rfl rfl (SV rfl) (fun hc=>⟨ak,V.h⟩) k|fail):SO P Y ops dr x v m n s e:=h
theorem ak1(ht:oT x=25:=by exact rfl)(h:SO P Y ops dr x v m n s e:=by intro _ _ _ _ k;first|exact bG rfl rfl (SR rfl) (fun hc=>⟨ak,trivial⟩) k|fail):SO P Y ops dr x v m n s e:=h
theorem ak2(ht:oT x=14:=by exact rfl)(h:SO P Y ops dr x v m n s e:=by intro _ _ _ _ k;first|exact fX (Bv (cs:=[_]) V.h V.h V.h rfl rfl) ak ⟨rfl,by decide,V.h,by decide⟩ k|exact fX (Bv (cs:=[_,_]) V.h V.h V.h rfl rfl) ak ⟨rfl,by decide,V.h,by decide⟩ k|exact fX (Bv (cs:=[]) V.h V.h V.h rfl rfl) ak ⟨rfl,by decide,V.h,by decide⟩ k|exact fX (Bv V.h V.h V.h rfl rfl) ak ⟨rfl,by decide,V.h,by decide⟩ k|fail):SO P Y ops dr x v m n s e:=h
theorem ak3(ht:oT x=76:=by exact rfl)(h:SO P Y ops dr x v m n s e:=by intro _ _ _ _ k;first|exact aH (Q9 rfl rfl gZ) ak rfl k|exact aH (Jq rfl rfl) ak rfl k|fail):SO P Y ops dr x v m n s e:=h
theorem ak4(ht:oT x=83:=by exact rfl)(h:SO P Y ops dr x v m n s e:=by intro _ _ _ _ k;first|exact bG rfl rfl (Ra rfl rfl uV) (fun hc=>⟨ak,rfl⟩) k|exact bG rfl rfl (Jn rfl rfl) (fun hc=>⟨ak,rfl⟩) k|fail):SO P Y ops dr x v m n s e:=h
theorem ak5(ht:oT x=12:=by exact rfl)(h:SO P Y ops dr x v m n s e:=by intro _ _ _ _ k;first|exact aH (HS V.h V.h V.h rfl rfl) ak ⟨V.h,V.h⟩ k|fail):SO P Y ops dr x v m n s e:=h
theorem SS7(ht:oT x=7:=by exact rfl)(h:SO P Y ops dr x v m n s e:=by intro _ _ _ _ k;first|exact ZD rfl rfl rfl rfl (by first|exact fun _=>trivial|exact fun _=>rfl|exact fun hc=>hc) (by first|exact fun _=>trivial|exact fun _=>rfl|exact fun hc=>hc) k|exact ZE rfl rfl rfl rfl (by first|exact fun _=>trivial|exact fun _=>rfl|exact fun hc=>hc) (by first|exact fun _=>trivial|exact fun _=>rfl|exact fun hc=>hc) k|exact aaZ rfl rfl rfl rfl rfl (by first|exact fun _=>trivial|exact fun _=>rfl|exact fun hc=>hc) (fun hc h=>by first|exact trivial|exact rfl|exact hc|(show Eq _ _;rw[hc,h];rfl)|(show Eq _ _;rw[h,hc];rfl)|(show Eq _ _;simp[hc,h];done)|(show Eq _ _;simp_all;done)|fail) (fun hc h=>by first|exact trivial|exact rfl|exact hc|(show Eq _ _;rw[hc,h];rfl)|(show Eq _ _;rw[h,hc];rfl)|(show Eq _ _;simp[hc,h];done)|(show Eq _ _;simp_all;done)|fail) k|fail):SO P Y ops dr x v m n s e:=h
theorem ak6(ht:oT x=22:=by exact rfl)(h:SO P Y ops dr x v m n s e:=by intro _ _ _ _ k;first|exact aH (QR rfl) ak trivial k|exact aH (QS rfl aA) ak trivial k|exact aH (QS rfl cW) ak trivial k|fail):SO P Y ops dr x v m n s e:=h
theorem ak7(ht:oT x=16:=by exact rfl)(h:SO P Y ops dr x v m n s e:=by intro _ _ _ _ k;first|exact b9 (Oe rfl rfl rfl rfl V.h) ak ⟨V.h,by kernel_rfl,by kernel_rfl⟩ k|fail):SO P Y ops dr x v m n s e:=h
theorem ak8(ht:oT x=54:=by exact rfl)(h:SO P Y ops dr x v m n s e:=by intro _ _ _ _ k;first|exact aH (Rc rfl rfl uW) ak rfl k|exact aH (Jr rfl rfl oG) ak rfl k|fail):SO P Y ops dr x v m n s e:=h
theorem ak9(ht:oT x=32:=by exact rfl)(h:SO P Y ops dr x v m n s e:=by intro _ _ _ _ k;first|exact fX (zH rfl rfl V.h V.h) ak ⟨by omega,rfl,by omega,by rw[b4];omega,V.h⟩ k|exact fX (zH rfl rfl V.h V.h) ak ⟨by omega,rfl,by omega,by rw[WW];omega,V.h⟩ k|fail):SO P Y ops dr x v m n s e:=h
theorem ak'(ht:oT x=84:=by exact rfl)(h:SO P Y ops dr x v m n s e:=by intro _ _ _ _ k;first|exact aH (adk rfl rfl wF) ak rfl k|exact aH (Jo rfl rfl) ak rfl k|fail):SO P Y ops dr x v m n s e:=h
theorem ala(ht:oT x=77:=by exact rfl)(h:SO P Y ops dr x v m n s e:=by intro _ _ _ _ k;first|exact bG rfl rfl (Jq rfl rfl) (fun hc=>⟨ak,rfl⟩) k|fail):SO P Y ops dr x v m n s e:=h
theorem alb(ht:oT x=81:=by exact rfl)(h:SO P Y ops dr x v m n s e:=by intro _ _ _ _ k;first|exact bG rfl rfl (adl rfl rfl U') (fun hc=>⟨ak,rfl⟩) k|exact bG rfl rfl (Jm rfl rfl) (fun hc=>⟨ak,rfl⟩) k|fail):SO P Y ops dr x v m n s e:=h
theorem alc(ht:oT x=28:=by exact rfl)(h:SO P Y ops dr x v m n s e:=by intro _ _ _ _ k;first|exact aH (QW rfl rfl) ak trivial k|fail):SO P Y ops dr x v m n s e:=h
theorem ald(ht:oT x=55:=by exact rfl)(h:SO P Y ops dr x v m n s e:=by intro _ _ _ _ k;first|exact bG rfl rfl (Rc rfl rfl uW) (fun hc=>⟨ak,rfl⟩) k|exact bG rfl rfl (Jr rfl rfl oG) (fun hc=>⟨ak,rfl⟩) k|fail):SO P Y ops dr x v m n s e:=h
theorem ale(ht:oT x=82:=by exact rfl)(h:SO P Y ops dr x v m n s e:=by intro _ _ _ _ k;first|exact aH (Jn rfl rfl) ak rfl k|fail):SO P Y ops dr x v m n s e:=h
theorem alf(ht:oT x=79:=by exact rfl)(h:SO P Y ops dr x v m n s e:=by intro _ _ _ _ k;first|exact bG rfl rfl (Jl rfl rfl) (fun hc=>⟨ak,rfl⟩) k|fail):SO P Y ops dr x v m n s e:=h
theorem alg(ht:oT x=58:=by exact rfl)(h:SO P Y ops dr x v m n s e:=by intro _ _ _ _ k;first|exact aH (adm rfl rfl F1) ak ⟨rfl,by omega⟩ k|fail):SO P Y ops dr x v m n s e:=h
theorem alh(ht:oT x=30:=by exact rfl)(h:SO P Y ops dr x v m n s e:=by intro _ _ _ _ k;first|exact fX aea ak trivial k|fail):SO P Y ops dr x v m n s e:=h
theorem ali(ht:oT x=42:=by exact rfl)(h:SO P Y ops dr x v m n s e:=by intro _ _ _ _ k;first|exact aH (QV rfl rfl) ak ⟨V.h,by omega,by omega⟩ k|fail):SO P Y ops dr x v m n s e:=h
theorem alj(ht:oT x=43:=by exact rfl)(h:SO P Y ops dr x v m n s e:=by intro _ _ _ _ k;first|exact bG rfl rfl (QV rfl rfl) (fun hc=>⟨ak,⟨V.h,by omega,by omega⟩⟩) k|fail):SO P Y ops dr x v m n s e:=h
theorem alk(ht:oT x=80:=by exact rfl)(h:SO P Y ops dr x v m n s e:=by intro _ _ _ _ k;first|exact aH (Jm rfl rfl) ak rfl k|fail):SO P Y ops dr x v m n s e:=h
theorem alm(ht:oT x=15:=by exact rfl)(h:SO P Y ops dr x v m n s e:=by intro _ _ _ _ k;first|exact adj rfl rfl (Bv (cs:=[_]) V.h V.h V.h rfl rfl) ak ⟨rfl,by decide,V.h,by decide⟩ k|fail):SO P Y ops dr x v m n s e:=h
theorem SS(K:AOps P Y ops dr cf Q r s (q++[e]))(h:SO P Y ops dr x v m n s e:=by first|exact SS2|exact SS4|exact akL|exact akM|exact SS6|exact akN|exact akO|exact SS3|exact akP|exact akQ|exact akR|exact akS|exact akT|exact akU|exact akV|exact akW|exact SS8|exact akX|exact akY|exact akZ|exact ak0|exact ak1|exact ak2|exact ak3|exact ak4|exact ak5|exact SS7|exact ak6|exact ak7|exact ak8|exact ak9|exact ak'|exact ala|exact alb|exact alc|exact ald|exact ale|exact alf|exact alg|exact alh|exact ali|exact alj|exact alk|exact alm):AOps P Y ops dr cf Q (x::r) ⟨v,m,n⟩ q:=h _ _ _ _ K
variable{x2 x3 x4 x5 x6 x7 x8 x9:Oper}{e2 e3 e4 e5 e6 e7 e8 e9:List Nat×List Nat}
theorem af(K:AOps P Y ops dr cf Q r s (q++[e]++[e2]))(h:∀ cf Q r q,AOps P Y ops dr cf Q r s (q++[e]++[e2])->AOps P Y ops dr cf Q (x::x2::r) ⟨v,m,n⟩ q:=by intro _ _ _ _ k;(iterate 2 refine SS ?_);exact k):AOps P Y ops dr cf Q (x::x2::r) ⟨v,m,n⟩ q:=h _ _ _ _ K
theorem au(K:AOps P Y ops dr cf Q r s (q++[e]++[e2]++[e3]))(h:∀ cf Q r q,AOps P Y ops dr cf Q r s (q++[e]++[e2]++[e3])->AOps P Y ops dr cf Q (x::x2::x3::r) ⟨v,m,n⟩ q:=by intro _ _ _ _ k;(iterate 3 refine SS ?_);exact k):AOps P Y ops dr cf Q (x::x2::x3::r) ⟨v,m,n⟩ q:=h _ _ _ _ K
theorem aP(K:AOps P Y ops dr cf Q r s (q++[e]++[e2]++[e3]++[e4]))(h:∀ cf Q r q,AOps P Y ops dr cf Q r s (q++[e]++[e2]++[e3]++[e4])->AOps P Y ops dr cf Q (x::x2::x3::x4::r) ⟨v,m,n⟩ q:=by intro _ _ _ _ k;(iterate 4 refine SS ?_);exact k):AOps P Y ops dr cf Q (x::x2::x3::x4::r) ⟨v,m,n⟩ q:=h _ _ _ _ K
theorem aK(K:AOps P Y ops dr cf Q r s (q++[e]++[e2]++[e3]++[e4]++[e5]))(h:∀ cf Q r q,AOps P Y ops dr cf Q r s (q++[e]++[e2]++[e3]++[e4]++[e5])->AOps P Y ops dr cf Q (x::x2::x3::x4::x5::r) ⟨v,m,n⟩ q:=by intro _ _ _ _ k;(iterate 5 refine SS ?_);exact k):AOps P Y ops dr cf Q (x::x2::x3::x4::x5::r) ⟨v,m,n⟩ q:=h _ _ _ _ K
theorem bD(K:AOps P Y ops dr cf Q r s (q++[e]++[e2]++[e3]++[e4]++[e5]++[e6]))(h:∀ cf Q r q,AOps P Y ops dr cf Q r s (q++[e]++[e2]++[e3]++[e4]++[e5]++[e6])->AOps P Y ops dr cf Q (x::x2::x3::x4::x5::x6::r) ⟨v,m,n⟩ q:=by intro _ _ _ _ k;(iterate 6 refine SS ?_);exact k):AOps P Y ops dr cf Q (x::x2::x3::x4::x5::x6::r) ⟨v,m,n⟩ q:=h _ _ _ _ K
theorem c8(K:AOps P Y ops dr cf Q r s (q++[e]++[e2]++[e3]++[e4]++[e5]++[e6]++[e7]))(h:∀ cf Q r q,AOps P Y ops dr cf Q r s (q++[e]++[e2]++[e3]++[e4]++[e5]++[e6]++[e7])->AOps P Y ops dr cf Q (x::x2::x3::x4::x5::x6::x7::r) ⟨v,m,n⟩ q:=by intro _ _ _ _ k;(iterate 7 refine SS ?_);exact k):AOps P Y ops dr cf Q (x::x2::x3::x4::x5::x6::x7::r) ⟨v,m,n⟩ q:=h _ _ _ _ K
theorem bF(K:AOps P Y ops dr cf Q r s (q++[e]++[e2]++[e3]++[e4]++[e5]++[e6]++[e7]++[e8]))(h:∀ cf Q r q,AOps P Y ops dr cf Q r s (q++[e]++[e2]++[e3]++[e4]++[e5]++[e6]++[e7]++[e8])->AOps P Y ops dr cf Q (x::x2::x3::x4::x5::x6::x7::x8::r) ⟨v,m,n⟩ q:=by intro _ _ _ _ k;(iterate 8 refine SS ?_);exact k):AOps P Y ops dr cf Q (x::x2::x3::x4::x5::x6::x7::x8::r) ⟨v,m,n⟩ q:=h _ _ _ _ K
theorem aL(K:AOps P Y ops dr cf Q r s (q++[e]++[e2]++[e3]++[e4]++[e5]++[e6]++[e7]++[e8]++[e9]))(h:∀ cf Q r q,AOps P Y ops dr cf Q r s (q++[e]++[e2]++[e3]++[e4]++[e5]++[e6]++[e7]++[e8]++[e9])->AOps P Y ops dr cf Q (x::x2::x3::x4::x5::x6::x7::x8::x9::r) ⟨v,m,n⟩ q:=by intro _ _ _ _ k;(iterate 9 refine SS ?_);exact k):AOps P Y ops dr cf Q (x::x2::x3::x4::x5::x6::x7::x8::x9::r) ⟨v,m,n⟩ q:=h _ _ _ _ K
end
end Go.Abs
namespace Go.Abs
open Go.ChangeShapes Go.WideShapes
inductive Ae:List Sh->List D->Prop
 |nil:Ae [] []
 |cons {s:Sh} {l:List Sh} {ds:List D} (x:s.val) (hx:s.ok x) (h:Ae l ds):Ae (s::l) (s.arg x::ds)
def wR(P:Program)(n:Nat):List TypeId->Option (List Sh)
 |[]=>some []
 |t::ts=>match shT P n t,wR P n ts with
  |some s,some l=>some (s::l)
  |_,_=>none
theorem aaI{P:Program}{n:Nat}{t:TypeId}{ts:List TypeId}{l:List Sh}(h:wR P n (t::ts)=some l):∃ s C,shT P n t=some s/\wR P n ts=some C/\l=s::C:=by
 simp only[wR] at h;split at h
 .rename_i s C h1 h2;simp only[Option.some.injEq] at h;exact⟨s,C,h1,h2,h.symm⟩
 .cases h
section
variable{P:Program}{H:Type}{ec:TypeId×Value->H}{w w':World}{base b0:Nat}{r:Reach}
theorem SM{n:Nat}:∀ {ts:List TypeId} {C:List Sh} {vs:List Value} {ds:List (DataW H)} {ps:List MemPlace},wR P n ts=some C->
 (∀ (j:Nat) t v,ts[j]? =some t->vs[j]? =some v->Value.okWide P w r b0 t v)->DataW.TrodAll ec P w base (fun _=>true) true ts vs ds ps->
 ∃ aS,Ae C aS/\aS.length=vs.length/\∀ (k:Nat) (d:D) (v:Value),aS[k]? =some d->vs[k]? =some v->R (fun _=>False) noRows w d v
 |[],C,[],[],_,hs,_,_=>by
  simp only[wR,Option.some.injEq] at hs;subst hs;exact⟨[],.nil,rfl,by simp⟩
 |t::ts,C,v::vs,d::ds,ps,hs,bB,h=>by
  obtain⟨p,q,h1,h2,_⟩:=h;obtain⟨s,X,J,M,rfl⟩:=aaI hs;obtain⟨x,U,hx⟩:=arg_R J (bB 0 t v rfl rfl) h1;obtain⟨aS,a1,a2,a3⟩:=SM M (fun j t v hj hv=>bB (j+1) t v (by simpa using hj) (by simpa using hv)) h2;refine⟨s.arg x::aS,.cons x U a1,by simp[a2],fun k d v hd hv=>?_⟩;cases k with
  |zero=>
   simp only[List.getElem?_cons_zero,Option.some.injEq] at hd hv;subst hd hv;exact hx
  |succ k=>exact a3 k d v (by simpa using hd) (by simpa using hv)
 |[],_,_::_,_,_,_,_,h=>by simp[DataW.TrodAll] at h
 |[],_,[],_::_,_,_,_,h=>by simp[DataW.TrodAll] at h
 |_::_,_,[],_,_,_,_,h=>by simp[DataW.TrodAll] at h
 |_::_,_,_::_,[],_,_,_,h=>by simp[DataW.TrodAll] at h
theorem Kept.same(h:Kept w w'){p:MemPlace}(hp:p.block<w.heap.size):w.sameAt w' p:=by
 cases p with
 |cell b o=>exact Go.World.cell?_of_block (w:=w) (h.2.1 b hp)
 |map b=>exact h.2.1 b hp
theorem Kept.frame(h:Kept w w')(C:MemPlace->Prop):w.keptBut w' C:=by
 refine⟨h.2.2.1,h.2.2.2,fun i hi=>?_⟩;rw[h.2.1 i hi];split<;>simp_all
theorem Mn(hl:laidOutB P=true)(h:Kept w w'):∀ {ts:List TypeId} {vs:List Value} {ds:List (DataW H)} {ps:List MemPlace},(ts.all fun t=>P.readableRec t&&decide (t<P.types.size))=true->
 DataW.TrodAll ec P w 0 (fun _=>true) true ts vs ds ps->DataW.TrodAll ec P w' 0 (fun b=>decide (b<w.heap.size)) true ts vs ds ps
 |[],[],[],_,_,h0=>h0
 |t::ts,v::vs,d::ds,ps,ht,h0=>by
  obtain⟨p,q,h1,h2,rfl⟩:=h0;simp only[List.all_cons,Bool.and_eq_true,decide_eq_true_eq] at ht;have ao:∀ x∈p,x.block<w.heap.size:=by obtain⟨m,hm⟩:=h1;exact DataW.trod_lt m _ _ _ hm
  exact⟨p,q,WideElems.Trod_stays hl ht.1.1 ht.1.2 h1 (fun x hx=>h.same (ao x hx)) (fun x hx=>by simpa using ao x hx),Mn hl h (by simpa using ht.2) h2,rfl⟩
 |[],_::_,_,_,_,h0=>by simp[DataW.TrodAll] at h0
 |[],[],_::_,_,_,h0=>by simp[DataW.TrodAll] at h0
 |_::_,[],_,_,_,h0=>by simp[DataW.TrodAll] at h0
 |_::_,_::_,[],_,_,h0=>by simp[DataW.TrodAll] at h0
theorem MG:∀ {ts:List TypeId} {vs:List Value} {ds:List (DataW H)} {ps:List MemPlace},DataW.TrodAll ec P w 0 (fun _=>true) true ts vs ds ps->ds.length=ts.length
 |[],[],[],_,_=>rfl
 |t::ts,v::vs,d::ds,ps,h0=>by
  obtain⟨p,q,h1,h2,rfl⟩:=h0;simp[MG h2]
 |[],_::_,_,_,h0=>by simp[DataW.TrodAll] at h0
 |[],[],_::_,_,h0=>by simp[DataW.TrodAll] at h0
 |_::_,[],_,_,h0=>by simp[DataW.TrodAll] at h0
 |_::_,_::_,[],_,h0=>by simp[DataW.TrodAll] at h0
end
theorem Yq{C:Checked}{f:FuncId}{fn:Func}{s:ChangeSpec}{H:Type}{ec:TypeId×Value->H}{n:Nat}{zx:List Sh}{tb:TypeId}
 (UX:s.vars=[]) (hs:∀ ds:List (DataW H),ds.length=fn.params.size->s.fn H ds={ results:=[.lit (.bool true)],args:=ds })
 (J:laidOutB C.prog=true) (M:(fn.params.toList.all fun t=>C.prog.readableRec t&&decide (t<C.prog.types.size))=true) (fV:fn.resultTypes= #[tb]) (hb:C.prog.underlying tb=some .bool)
 (uq:wR C.prog n fn.params.toList=some zx) (h:∀ aS,Ae zx aS->PCall C.prog f aS (.s (.bool true)))
 (W:World) (base:Nat) (args:Array Value) (ds gs:List (DataW H)) (before:List MemPlace)
 (Dh:∀ (j:Nat) t v,fn.params[j]? =some t->args[j]? =some v->Value.okWide C.prog W .any base t v)
 (hW:DataW.Whole ec C.prog fn.params.toList s.vars false W args.toList ds gs before):
 Calls C.prog f args W fun e W'=>∃ v,e=.returned v/\s.post ec C.prog fn false true false false W args v W':=by
 have hW':=hW;obtain⟨p,q,U,X,rfl,hfz,dw⟩:=hW;rw[UX] at X
 have hg:gs=[]/\q=[]:=by
  cases gs with
  |nil=>exact⟨rfl,X⟩
  |cons g gs=>exact X.elim
 obtain⟨rfl,rfl⟩:=hg;obtain⟨aS,a1,a2,a3⟩:=SM uq (fun j t v hj hv=>Dh j t v (by simpa using hj) (by simpa using hv)) U;refine((h aS a1).2.2 (fun _=>False) W args (fun _ hf=>hf.elim) ⟨by simpa using a2.symm,fun k d v hd hv=>a3 k d v hd (by simpa using hv)⟩).mono ?_;rintro e W' ⟨v,rfl,hv,hk⟩;obtain⟨rfl,_⟩:=hv.s_inv;have hlen:ds.length=fn.params.size:=by simpa using MG U
 refine⟨_,rfl,ds,[],_,[],p,[],hW',?_,?_,?_,hk.frame _,fun h=>by cases h⟩
 .rw[List.append_nil,hs ds hlen,fV];exact⟨[],[],⟨1,by simp[DataW.trod,Value.cells,hb]⟩,rfl,rfl⟩
 .rw[List.append_nil,hs ds hlen];exact Mn J hk M U
 .rw[List.append_nil,hs ds hlen,UX];rfl
end Go.Abs
section
open Go Go.Abs Go.Proofs Go.Argus
namespace Go.Proofs.Tryz.K
set_option maxRecDepth 10000
theorem J9{l:List Int}{g:FuncId}{fs cs:List D}{p:Int->Bool}(ht:Tr (.fn (.func g) fs cs))(hg:∀ x∈l,PCall prog g (fs++[U8 x]++cs) (B (p x))):PCall prog 252 [jX l,.fn (.func g) fs cs] (I (qv p l)):=by
 refine mM Jz.he (.cons (pY _) (.cons ht .nil)) fun C=>?_;have hlen:=(C (jX l) oS).sl.1;unfold maxLen at hlen;refine a9 mixed Jz (by rw[aeo];rfl) (.cons (pY _) (.cons ht .nil)) (Tr.s _) ?_;rw[aep,aeq];refine ws ?_;refine SS ?_;refine ab (aC (aw ?_));refine au ?_
 refine ab (bO (fun s=>Ghost prog s ⟨az [],fun _=>none,0⟩/\∀ (j:Nat) y,l[j]? =some y->p y=false) (dK (α:=Nat) (fun k=>⟨az [(0,jX l),(1,.fn (.func g) fs cs),(7,I l.length),(8,I k)],fun _=>none,0⟩)
  (fun k=>k<=l.length/\∀ j y,j<k->l[j]? =some y->p y=false) (fun k=>l.length - k) 0 (av eH) ⟨by omega,fun j y hj=>by omega⟩ ?_) ?_)
 .rintro k ⟨hk,hinv⟩;refine SS ?_;refine ab ⟨_,rfl,fun h=>?_,fun h=>?_⟩
  .have ao:k<l.length:=by simpa using h
   have hx:l[k]? =some l[k]:=by simp[ao]
   generalize l[k]=x at hx;have M:=hg x (List.mem_of_getElem? hx);refine ws ?_;refine af ?_;refine er ?_;refine aK ?_;refine cl M ?_;refine ab (aq rfl (fun hp=>?_) fun hp=>?_)
   .refine ws ?_;refine af ?_;refine ab (aV (cq (aT (ay rfl ?_))));rw[Ex hx hp hinv];rfl
   .refine cg ?_;refine af ?_;refine ab (aJ (k+1) (av eH) ⟨by omega,fun j y hj hy=>?_⟩ oG);by_cases e:j=k
    .subst e;rw[hx] at hy;cases hy;exact hp
    .exact hinv j y oG hy
  .have U:¬ k<l.length:=by simpa using h
   exact⟨.forget _ _ _ _ fun _=>.inr rfl,fun j y hy=>hinv j y (by have:=(List.getElem?_eq_some_iff.1 hy).1;omega) hy⟩
 .rintro s ⟨hg,J⟩;refine⟨_,hg,aj ?_⟩;refine SS ?_;refine ab (ay rfl ?_);rw[Ey J];rfl
theorem uX{l:List Int}{g:FuncId}{fs cs:List D}{p:Int->Bool}(ht:Tr (.fn (.func g) fs cs))(hg:∀ x∈l,PCall prog g (fs++[U8 x]++cs) (B (p x))):PCall prog 228 [jX l,.fn (.func g) fs cs] (B (l.any p)):=by
 have J9:=J9 ht hg;refine a9 mixed S8 (by rw[aer];rfl) (.cons (pY _) (.cons ht .nil)) (Tr.s _) ?_;rw[aes,aet];refine ws ?_;refine SS ?_;refine er ?_;refine af ?_;refine cl J9 ?_;refine af ?_;refine ab (ay rfl ?_);rw[<- EM];rfl
theorem J'{l:List ByteArray}{g:FuncId}{fs cs:List D}{p:ByteArray->Bool}(ht:Tr (.fn (.func g) fs cs))(hg:∀ x∈l,PCall prog g (fs++[S x]++cs) (B (p x))):PCall prog 231 [p7 l,.fn (.func g) fs cs] (I (qv p l)):=by
 refine mM JA.he (.cons (xR _) (.cons ht .nil)) fun C=>?_;have hlen:=(C (p7 l) oS).sl.1;unfold maxLen at hlen;refine a9 mixed JA (by rw[aeu];rfl) (.cons (xR _) (.cons ht .nil)) (Tr.s _) ?_;rw[aev,aew];refine ws ?_;refine SS ?_;refine ab (aC (aw ?_));refine au ?_
 refine ab (bO (fun s=>Ghost prog s ⟨az [],fun _=>none,0⟩/\∀ (j:Nat) y,l[j]? =some y->p y=false) (dK (α:=Nat) (fun k=>⟨az [(0,p7 l),(1,.fn (.func g) fs cs),(7,I l.length),(8,I k)],fun _=>none,0⟩)
  (fun k=>k<=l.length/\∀ j y,j<k->l[j]? =some y->p y=false) (fun k=>l.length - k) 0 (av eH) ⟨by omega,fun j y hj=>by omega⟩ ?_) ?_)
 .rintro k ⟨hk,hinv⟩;refine SS ?_;refine ab ⟨_,rfl,fun h=>?_,fun h=>?_⟩
  .have ao:k<l.length:=by simpa using h
   have hx:l[k]? =some l[k]:=by simp[ao]
   generalize l[k]=x at hx;have M:=hg x (List.mem_of_getElem? hx);refine ws ?_;refine af ?_;refine er ?_;refine aK ?_;refine cl M ?_;refine ab (aq rfl (fun hp=>?_) fun hp=>?_)
   .refine ws ?_;refine af ?_;refine ab (aV (cq (aT (ay rfl ?_))));rw[Ex hx hp hinv];rfl
   .refine cg ?_;refine af ?_;refine ab (aJ (k+1) (av eH) ⟨by omega,fun j y hj hy=>?_⟩ oG);by_cases e:j=k
    .subst e;rw[hx] at hy;cases hy;exact hp
    .exact hinv j y oG hy
  .have U:¬ k<l.length:=by simpa using h
   exact⟨.forget _ _ _ _ fun _=>.inr rfl,fun j y hy=>hinv j y (by have:=(List.getElem?_eq_some_iff.1 hy).1;omega) hy⟩
 .rintro s ⟨hg,J⟩;refine⟨_,hg,aj ?_⟩;refine SS ?_;refine ab (ay rfl ?_);rw[Ey J];rfl
theorem F3{l:List ByteArray}{g:FuncId}{fs cs:List D}{p:ByteArray->Bool}(ht:Tr (.fn (.func g) fs cs))(hg:∀ x∈l,PCall prog g (fs++[S x]++cs) (B (p x))):PCall prog 192 [p7 l,.fn (.func g) fs cs] (B (l.any p)):=by
 have J':=J' ht hg;refine a9 mixed S9 (by rw[aex];rfl) (.cons (xR _) (.cons ht .nil)) (Tr.s _) ?_;rw[aey,aez];refine ws ?_;refine SS ?_;refine er ?_;refine af ?_;refine cl J' ?_;refine af ?_;refine ab (ay rfl ?_);rw[<- EM];rfl
theorem Ka{l:List jN}{g:FuncId}{fs cs:List D}{p:jN->Bool}(ht:Tr (.fn (.func g) fs cs))(hg:∀ x∈l,PCall prog g (fs++[.agg (lu x)]++cs) (B (p x))):PCall prog 260 [oA l,.fn (.func g) fs cs] (I (qv p l)):=by
 refine mM JB.he (.cons (jD _) (.cons ht .nil)) fun C=>?_;have hlen:=(C (oA l) oS).sl.1;unfold maxLen at hlen;refine a9 mixed JB (by rw[aeA];rfl) (.cons (jD _) (.cons ht .nil)) (Tr.s _) ?_;rw[aeB,aeC];refine ws ?_;refine SS ?_;refine ab (aC (aw ?_));refine au ?_
 refine ab (bO (fun s=>Ghost prog s ⟨az [],fun _=>none,0⟩/\∀ (j:Nat) y,l[j]? =some y->p y=false) (dK (α:=Nat) (fun k=>⟨az [(0,oA l),(1,.fn (.func g) fs cs),(7,I l.length),(8,I k)],fun _=>none,0⟩)
  (fun k=>k<=l.length/\∀ j y,j<k->l[j]? =some y->p y=false) (fun k=>l.length - k) 0 (av eH) ⟨by omega,fun j y hj=>by omega⟩ ?_) ?_)
 .rintro k ⟨hk,hinv⟩;refine SS ?_;refine ab ⟨_,rfl,fun h=>?_,fun h=>?_⟩
  .have ao:k<l.length:=by simpa using h
   have hx:l[k]? =some l[k]:=by simp[ao]
   generalize l[k]=x at hx;have M:=hg x (List.mem_of_getElem? hx);refine ws ?_;refine af ?_;refine er ?_;refine aK ?_;refine cl M ?_;refine ab (aq rfl (fun hp=>?_) fun hp=>?_)
   .refine ws ?_;refine af ?_;refine ab (aV (cq (aT (ay rfl ?_))));rw[Ex hx hp hinv];rfl
   .refine cg ?_;refine af ?_;refine ab (aJ (k+1) (av eH) ⟨by omega,fun j y hj hy=>?_⟩ oG);by_cases e:j=k
    .subst e;rw[hx] at hy;cases hy;exact hp
    .exact hinv j y oG hy
  .have U:¬ k<l.length:=by simpa using h
   exact⟨.forget _ _ _ _ fun _=>.inr rfl,fun j y hy=>hinv j y (by have:=(List.getElem?_eq_some_iff.1 hy).1;omega) hy⟩
 .rintro s ⟨hg,J⟩;refine⟨_,hg,aj ?_⟩;refine SS ?_;refine ab (ay rfl ?_);rw[Ey J];rfl
theorem CO{l:List jN}{g:FuncId}{fs cs:List D}{p:jN->Bool}(ht:Tr (.fn (.func g) fs cs))(hg:∀ x∈l,PCall prog g (fs++[.agg (lu x)]++cs) (B (p x))):PCall prog 254 [oA l,.fn (.func g) fs cs] (B (l.any p)):=by
 have Ka:=Ka ht hg;refine a9 mixed S' (by rw[aeD];rfl) (.cons (jD _) (.cons ht .nil)) (Tr.s _) ?_;rw[aeE,aeF];refine ws ?_;refine SS ?_;refine er ?_;refine af ?_;refine cl Ka ?_;refine af ?_;refine ab (ay rfl ?_);rw[<- EM];rfl
theorem Kb{l:List Int}{g:FuncId}{fs cs:List D}{p:Int->Bool}(ht:Tr (.fn (.func g) fs cs))(hg:∀ x∈l,PCall prog g (fs++[I x]++cs) (B (p x))):PCall prog 130 [ax l,.fn (.func g) fs cs] (I (qv p l)):=by
 refine mM JC.he (.cons (cB _) (.cons ht .nil)) fun C=>?_;have hlen:=(C (ax l) oS).sl.1;unfold maxLen at hlen;refine a9 mixed JC (by rw[aeG];rfl) (.cons (cB _) (.cons ht .nil)) (Tr.s _) ?_;rw[aeH,aeI];refine ws ?_;refine SS ?_;refine ab (aC (aw ?_));refine au ?_
 refine ab (bO (fun s=>Ghost prog s ⟨az [],fun _=>none,0⟩/\∀ (j:Nat) y,l[j]? =some y->p y=false) (dK (α:=Nat) (fun k=>⟨az [(0,ax l),(1,.fn (.func g) fs cs),(7,I l.length),(8,I k)],fun _=>none,0⟩)
  (fun k=>k<=l.length/\∀ j y,j<k->l[j]? =some y->p y=false) (fun k=>l.length - k) 0 (av eH) ⟨by omega,fun j y hj=>by omega⟩ ?_) ?_)
 .rintro k ⟨hk,hinv⟩;refine SS ?_;refine ab ⟨_,rfl,fun h=>?_,fun h=>?_⟩
  .have ao:k<l.length:=by simpa using h
   have hx:l[k]? =some l[k]:=by simp[ao]
   generalize l[k]=x at hx;have M:=hg x (List.mem_of_getElem? hx);refine ws ?_;refine af ?_;refine er ?_;refine aK ?_;refine cl M ?_;refine ab (aq rfl (fun hp=>?_) fun hp=>?_)
   .refine ws ?_;refine af ?_;refine ab (aV (cq (aT (ay rfl ?_))));rw[Ex hx hp hinv];rfl
   .refine cg ?_;refine af ?_;refine ab (aJ (k+1) (av eH) ⟨by omega,fun j y hj hy=>?_⟩ oG);by_cases e:j=k
    .subst e;rw[hx] at hy;cases hy;exact hp
    .exact hinv j y oG hy
  .have U:¬ k<l.length:=by simpa using h
   exact⟨.forget _ _ _ _ fun _=>.inr rfl,fun j y hy=>hinv j y (by have:=(List.getElem?_eq_some_iff.1 hy).1;omega) hy⟩
 .rintro s ⟨hg,J⟩;refine⟨_,hg,aj ?_⟩;refine SS ?_;refine ab (ay rfl ?_);rw[Ey J];rfl
theorem Ax{l:List Int}{g:FuncId}{fs cs:List D}{p:Int->Bool}(ht:Tr (.fn (.func g) fs cs))(hg:∀ x∈l,PCall prog g (fs++[I x]++cs) (B (p x))):PCall prog 119 [ax l,.fn (.func g) fs cs] (B (l.any p)):=by
 have Kb:=Kb ht hg;refine a9 mixed Ta (by rw[aeJ];rfl) (.cons (cB _) (.cons ht .nil)) (Tr.s _) ?_;rw[aeK,aeL];refine ws ?_;refine SS ?_;refine er ?_;refine af ?_;refine cl Kb ?_;refine af ?_;refine ab (ay rfl ?_);rw[<- EM];rfl
theorem l6{n a b:Int}:PCall prog 96 [I n,I a,I b] (B (cJ n a b)):=by
 refine a9 mixed Vo (by rw[alH];rfl) (by simp[Tr.s]) (Tr.s _) ?_;rw[alI,alJ];refine ws ?_;refine SS ?_;refine er ?_;refine aL ?_;refine ab (ay (d:=.s (.bool _)) rfl ?_);simp[cJ]
theorem alK{b:Int}:PCall prog 229 [U8 b] (B (sU b)):=by
 refine a9 mixed Ty (by rw[afL];rfl) (by simp[Tr.s]) (Tr.s _) ?_;rw[afM,afN];refine ws ?_;refine SS ?_;refine er ?_;refine c8 ?_;refine ab (ay (d:=.s (.bool _)) rfl ?_);simp[sU]
theorem alL{b:Int}:PCall prog 232 [U8 b] (B (sV b)):=by
 refine a9 mixed Tz (by rw[afO];rfl) (by simp[Tr.s]) (Tr.s _) ?_;rw[afP,afQ];refine ws ?_;refine SS ?_;refine er ?_;refine aL ?_;refine bD ?_;refine ab (ay (d:=.s (.bool _)) rfl ?_);simp[sV]
theorem rW{s:ByteArray}:PCall prog 190 [S s] (B (kL s)):=by
 refine a9 mixed TA (by rw[afR];rfl) (by simp[Tr.s]) (Tr.s _) ?_;have uX:=uX (l:=cA s) (g:=229) (fs:=[]) (cs:=[]) (p:=sU) (.fn oS oS) (fun x _=>alK);rw[afS,afT];refine ws ?_;refine SS ?_;refine er ?_;refine af ?_;refine cl l6 ?_;refine af ?_;refine bG rfl rfl (NX rfl V.h V.h) (fun hc=>⟨ak,⟨V.h,by have:=jY.1 (by simpa using hc);unfold maxLen;omega⟩⟩) ?_;refine gc uX ?_;refine au ?_;refine ab (ay (d:=.s (.bool _)) rfl ?_);simp[kL]
theorem CU{s:ByteArray}:PCall prog 194 [S s] (B (isName s)):=by
 refine a9 mixed TB (by rw[afU];rfl) (by simp[Tr.s]) (Tr.s _) ?_;have uX:=uX (l:=cA s) (g:=232) (fs:=[]) (cs:=[]) (p:=sV) (.fn oS oS) (fun x _=>alL);rw[afV,afW];refine ws ?_;refine SS ?_;refine er ?_;refine af ?_;refine cl l6 ?_;refine af ?_;refine bG rfl rfl (NX rfl V.h V.h) (fun hc=>⟨ak,⟨V.h,by have:=jY.1 (by simpa using hc);unfold maxLen;omega⟩⟩) ?_;refine gc uX ?_;refine au ?_;refine ab (ay (d:=.s (.bool _)) rfl ?_);simp[isName]
theorem alM{s:ByteArray}:PCall prog 193 [S s] (B !(isName s)):=by
 refine a9 mixed TC (by rw[afX];rfl) (by simp[Tr.s]) (Tr.s _) ?_;rw[afY,afZ];refine ws ?_;refine SS ?_;refine er ?_;refine SS ?_;refine cl CU ?_;refine af ?_;refine ab (ay rfl rfl)
theorem alN{b m:Int}:PCall prog 230 [U8 b,.pt [U8 m]] (B (ma m b)):=by
 refine a9 mixed TD (by rw[af0];rfl) (.cons (.s _) (.cons (.pt (by simp[Tr.s])) .nil)) (Tr.s _) ?_;rw[af1,af2];refine ws ?_;refine SS ?_;refine er ?_;refine bF ?_;refine ab (ay (d:=.s (.bool _)) rfl ?_);simp[ma]
theorem Km{l:List Int}{m:Int}:PCall prog 191 [jX l,U8 m] (B (dY l m)):=by
 refine a9 mixed TE (by rw[af3];rfl) (.cons (pY _) (.cons (.s _) .nil)) (Tr.s _) ?_;have uX:=uX (l:=l) (g:=230) (fs:=[]) (cs:=[.pt [U8 m]]) (p:=ma m) (.fn oS (.cons (.pt (by simp[Tr.s])) .nil)) (fun x _=>alN);rw[af4,af5];refine aw ?_;refine af ?_;refine ab (aO (bw [(0,[U8 m],5)] eH (l:=[(0,jX l),(3,.pt [U8 m])]) eH) (aj ?_));refine af ?_;refine cl uX ?_;refine af ?_;refine ab (ay rfl rfl)
theorem HF{p q:D}{f:aF}(h:Real (.agg (bg p q f))):f.ag.length<=maxLen/\f.aR.length<=maxLen/\f.signals.length<=maxLen/\f.blocks.length<=maxLen:=
 ⟨(h.agg (jX f.ag) (by simp[bg])).sl.1,(h.agg (jX f.aR) (by simp[bg])).sl.1,(h.agg (p7 f.signals) (by simp[bg])).sl.1,(h.agg (eZ f.blocks) (by simp[bg])).sl.1⟩
section
variable{p q:D}{f:aF}(hp:Tr p)(hq:Tr q)(eL:p.one=true)(fk:q.one=true)
include hp hq eL fk
theorem jq{n:Int}:PCall prog 233 [.agg (bg p q f),I n] (B (cJ n 0 (f.blocks.length - 1))):=by
 have C:∀ a∈[D.agg (bg p q f),I n],Tr a:=.cons (mh hp hq f) (.cons (.s _) .nil);refine mM JH.he C fun J=>?_;obtain⟨M,U,X,l4⟩:=HF (J _ (List.mem_cons_self ..));unfold maxLen at*
 refine a9 mixed JH (by rw[agn];rfl) C (Tr.s _) ?_;rw[ago,agp];refine ws ?_;refine af ?_;refine er ?_;refine bD ?_;refine cl l6 ?_;refine SS ?_;refine ab (ay rfl rfl)
theorem eP{r:Int}:PCall prog 234 [.agg (bg p q f),I r] (U8 (bZ f.ag r)):=by
 have C:∀ a∈[D.agg (bg p q f),I r],Tr a:=.cons (mh hp hq f) (.cons (.s _) .nil);refine mM JI.he C fun M=>?_;obtain⟨U,X,l3,l4⟩:=HF (M _ (List.mem_cons_self ..));unfold maxLen at*
 refine a9 mixed JI (by rw[agq];rfl) C (Tr.s _) ?_;rw[agr,ags];refine ws ?_;refine af ?_;refine ab (aC (aj ?_));refine bD ?_;refine cl l6 ?_;refine SS ?_;refine ab (bh rfl (fun h=>?_) fun h=>?_)
 .refine aC (aj ?_);refine SS ?_;refine ab (cU (ay rfl ?_));rw[HC (fun J=>by simp[cJ] at h;omega)];rfl
 .have J:0<=r/\r<f.ag.length:=by simp[cJ] at h;omega
  obtain⟨i,rfl⟩:=Int.eq_ofNat_of_zero_le J.1;have ao:i<f.ag.length:=by omega
  have hx:f.ag[i]? =some f.ag[i]:=by simp[ao]
  generalize f.ag[i]=x at hx;refine bS (aj ?_);refine c8 ?_;refine ab (ay rfl ?_);rw[sX hx];rfl
theorem alX{r:Int}:PCall prog 256 [I r,.pt (bg p q f)] (B !(dO f.ag r)):=by
 have C:∀ a∈[I r,D.pt (bg p q f)],Tr a:=.cons (.s _) (.cons (.pt (BG hp hq f)) .nil);have eP:=eP (f:=f) (r:=r) hp hq eL fk;refine a9 mixed TL (by rw[agt];rfl) C (Tr.s _) ?_;rw[agu,agv];refine ws ?_;refine SS ?_;refine er ?_;refine af ?_;refine cl eP ?_;refine aP ?_;refine gc eP ?_;refine au ?_;refine ab (ay (d:=.s (.bool _)) rfl ?_);unfold dO;generalize bZ f.ag r=k;show D.s (.bool _)=D.s (.bool _);simp only[bne];cases (k==1)<;>cases (k==2)<;>rfl
theorem gK{l:List Int}:PCall prog 237 [.agg (bg p q f),ax l] (B (fQ f.ag l)):=by
 have C:∀ a∈[D.agg (bg p q f),ax l],Tr a:=.cons (mh hp hq f) (.cons (cB _) .nil);have Ax:=Ax (l:=l) (g:=256) (fs:=[]) (cs:=[.pt (bg p q f)]) (p:=fun r=> !(dO f.ag r)) (.fn oS (.cons (.pt (BG hp hq f)) .nil)) (fun x _=>alX hp hq eL fk);refine a9 mixed TM (by rw[agw];rfl) C (Tr.s _) ?_;rw[agx,agy];refine aw ?_;refine af ?_;refine ab (aO (bw [(0,bg p q f,133)] eH (l:=[(1,ax l),(2,.pt (bg p q f))]) eH) (aj ?_));refine af ?_;refine cl Ax ?_;refine af ?_;refine ab (ay (d:=.s (.bool _)) rfl ?_);simp[fQ,List.all_eq_not_any_not]
theorem Gc{r n:Int}:PCall prog 239 [.agg (bg p q f),I r,I n] (B (lK f.ag f.aR r n)):=by
 have J:∀ a∈[D.agg (bg p q f),I r,I n],Tr a:=.cons (mh hp hq f) (.cons (.s _) (.cons (.s _) .nil));refine mM JJ.he J fun M=>?_;obtain⟨X,l2,l3,l4⟩:=HF (M _ (List.mem_cons_self ..));unfold maxLen at*
 have eP:=eP (f:=f) (r:=r) hp hq eL fk;refine a9 mixed JJ (by rw[agz];rfl) J (Tr.s _) ?_;rw[agA,agB];have l6:=l6 (n:=n) (a:=0) (b:=f.aR.length - 1);by_cases U:0<=n/\n<f.aR.length
 .obtain⟨i,rfl⟩:=Int.eq_ofNat_of_zero_le U.1;have ao:i<f.aR.length:=by omega
  have hx:f.aR[i]? =some f.aR[i]:=by simp[ao]
  generalize f.aR[i]=x at hx;have C:cJ (i:Int) 0 (f.aR.length - 1)=true:=jY.2 oG;rw[C] at l6;refine ws ?_;refine af ?_;refine ab (dm Nn ?_);refine bD ?_;refine cl l6 ?_;refine SS ?_;refine bG rfl rfl (dU (vs:=bg _ _ _) rfl rfl V.h V.h rfl) (fun hc=>⟨ak,(dV V.h V.h (by first|(simp;done)|omega|exact Nat.le_of_ble_eq_true rfl))⟩) ?_;refine SS ?_;refine gc eP ?_;refine aL ?_;refine bk (by simp[apartT]) ?_;refine ay (d:=.s (.bool _)) rfl ?_;simp[lK,C,sX hx]
 .have C:cJ n 0 (f.aR.length - 1)=false:=ZW.2 oG;rw[C] at l6;refine ws ?_;refine af ?_;refine ab (dm Nn ?_);refine bD ?_;refine cl l6 ?_;refine SS ?_;(iterate 10 refine z fun _ _=>?_);refine af ?_;refine bk (by simp[apartT]) ?_;refine ay (d:=.s (.bool _)) rfl ?_;simp[lK,C]
end
section
variable{p q:D}{f:aF}(hp:Tr p)(hq:Tr q)(eL:p.one=true)(fk:q.one=true)
include hp hq eL fk
theorem CZ{r want kd:Int}:PCall prog 253 [.agg (bg p q f),I r,I want,U8 kd] (B (lC f.ag r want kd)):=by
 have C:∀ a∈[D.agg (bg p q f),I r,I want,U8 kd],Tr a:=.cons (mh hp hq f) (.cons (.s _) (.cons (.s _) (.cons (.s _) .nil)));have eP:=eP (f:=f) (r:=r) hp hq eL fk;refine a9 mixed TR (by rw[agJ];rfl) C (Tr.s _) ?_;rw[agK,agL];refine ws ?_;refine af ?_;refine er ?_;refine aH (dU (vs:=bg _ _ _) rfl rfl V.h V.h rfl) ak (dV V.h V.h (by first|(simp;done)|omega|exact Nat.le_of_ble_eq_true rfl)) ?_;refine SS ?_;refine cl eP ?_;refine SS ?_;refine ab (aC (aj ?_));refine SS ?_;refine ab (mN (aj ?_));refine af ?_;refine ab (aq rfl (fun h0=>?_) fun h0=>?_)
 .have h0:want=0:=by simpa using h0
  refine ws ?_;refine au ?_;refine ab (aV (bx (aT (ay (d:=.s (.bool _)) rfl ?_))));simp[lC,h0]
 have h0:¬ want=0:=by simpa using h0
 refine ws ?_;refine af ?_;refine ab (aq rfl (fun h1=>?_) fun h1=>?_)
 .have h1:want=1:=by simpa using h1
  refine ws ?_;refine au ?_;refine ab (aV (bx (aT (ay (d:=.s (.bool _)) rfl ?_))));simp[lC,h1]
 have h1:¬ want=1:=by simpa using h1
 refine ws ?_;refine af ?_;refine ab (aq rfl (fun h2=>?_) fun h2=>?_)
 .have h2:want=2:=by simpa using h2
  refine ws ?_;refine au ?_;refine ab (aV (bx (aT (ay (d:=.s (.bool _)) rfl ?_))));simp[lC,h2]
 have h2:¬ want=2:=by simpa using h2
 refine ws ?_;refine af ?_;refine ab (aq rfl (fun h3=>?_) fun h3=>?_)
 .have h3:want=3:=by simpa using h3
  refine ws ?_;refine c8 ?_;refine ab (aV (bx (aT (ay (d:=.s (.bool _)) rfl ?_))));simp[lC,h3,dO,ib]
 have h3:¬ want=3:=by simpa using h3
 refine mn (aj ?_);refine bF ?_;refine ab (ay (d:=.s (.bool _)) rfl ?_);simp[lC,h0,h1,h2,h3,ib,bne]
theorem AD{x:bt}{s:Shape}:PCall prog 235 [.agg (bg p q f),.agg (bl x),.agg (iZ s)] (B (oD f.ag x s)):=by
 have J:∀ a∈[D.agg (bg p q f),.agg (bl x),.agg (iZ s)],Tr a:=.cons (mh hp hq f) (.cons (.agg (p8 x)) (.cons (.agg (Np s)) .nil));have eP:=fun r=>eP (f:=f) (r:=r) hp hq eL fk;have CZ:= @CZ p q f hp hq eL fk;have gK:=gK (f:=f) hp hq eL fk (l:=x.args);have M:=l6 (n:=x.n) (a:=s.low) (b:=s.high);refine a9 mixed TS (by rw[agM];rfl) J (Tr.s _) ?_;rw[agN,agO];refine aw ?_;refine af ?_;refine fX (tk (cs:=iZ _) rfl) ak (by first|rfl|exact uw eL fk|exact kS _|exact uN c7) ?_;refine SS ?_;refine ab (aO (bw [(0,bg p q f,133),(1,bl x,66),(2,iZ s,205)] eH (l:=[(3,.pt (bg p q f)),(4,.pt (bl x)),(5,.pt (iZ s))]) eH) (aj ?_));have C:=eP;have eP:=eP x.to;refine au ?_;refine cl eP ?_;refine SS ?_;refine ab ?_;refine dE (fun s'=>Ghost prog s' ⟨az [(3,.pt (bg p q f)),(4,.pt (bl x)),(5,.pt (iZ s)),(7,U8 (p6 f.ag x s))],fun _=>none,3⟩) (aj ?_) fun s' hg=>⟨_,hg,?_⟩
 .refine bF ?_;refine ab (aq rfl (fun h=>kK ?_) fun h=>aZ ?_)
  .have h:s.to=0\/s.to=1:=by simpa[ib] using h
   have eP:=C x.a;refine au ?_;refine cl eP ?_;refine SS ?_;refine ab ?_;show Ghost _ _ _;refine av (l:=[(3,_),(4,_),(5,_),(7,_)]) ⟨rfl,rfl,rfl,?_,trivial⟩;simp only[p6,if_pos h];rfl
  .have h:¬ (s.to=0\/s.to=1):=by simpa[ib] using h
   show Ghost _ _ _;refine av (l:=[(3,_),(4,_),(5,_),(7,_)]) ⟨rfl,rfl,rfl,?_,trivial⟩;simp only[p6,if_neg h];rfl
 refine ws ?_;refine aK ?_;refine ab ?_;refine dE (fun s'=>Ghost prog s' ⟨az [(3,.pt (bg p q f)),(4,.pt (bl x)),(5,.pt (iZ s)),(7,U8 (p6 f.ag x s)),(8,B (pV f.ag x s))],fun _=>none,3⟩) (aj ?_) fun s' hg=>⟨_,hg,?_⟩
 .refine af ?_;refine ab (ja (aj ?_));refine af ?_;refine ab (aq rfl (fun h=>nK ?_) fun h=>aj ?_)
  .have h:s.args=5:=by simpa using h
   have l6:=l6 (n:=x.args.length) (a:=1) (b:=6);refine au ?_;refine cl l6 ?_;refine aP ?_;refine gc gK ?_;refine af ?_;refine ab ?_;refine av ⟨rfl,rfl,rfl,rfl,?_,trivial⟩;show D.s (.bool _)=_;simp[pV,h]
  .have h5:¬ s.args=5:=by simpa using h
   refine af ?_;refine ab (aq rfl (fun h=>nK ?_) fun h=>HY ?_)
   .have h:s.args=6:=by simpa using h
    refine bF ?_;refine gc gK ?_;refine af ?_;refine ab ?_;refine av ⟨rfl,rfl,rfl,rfl,?_,trivial⟩;show D.s (.bool _)=_;simp[pV,h,ib]
   .have U:¬ s.args=6:=by simpa using h
    refine av ⟨rfl,rfl,rfl,rfl,?_,trivial⟩;show D.s (.bool _)=_;simp[pV,h5,U,ib]
 refine ws ?_;refine aK ?_;refine cl CZ ?_;refine c8 ?_;refine gc CZ ?_;refine bF ?_;refine gc CZ ?_;refine aL ?_;refine af ?_;refine gc l6 ?_;refine af ?_;refine ab (ay (d:=.s (.bool _)) rfl ?_);simp[oD,Bool.and_assoc]
end
theorem Ks{x:bt}:PCall prog 257 [.agg (bl x)] (B (Cs x)):=by
 have C:∀ a∈[D.agg (bl x)],Tr a:=.cons (.agg (p8 x)) .nil;refine a9 mixed TX (by rw[agR];rfl) C (Tr.s _) ?_;rw[agS,agT];refine ws ?_;refine af ?_;refine er ?_;refine aL ?_;refine aL ?_;refine aL ?_;refine au ?_;refine ab (ay (d:=.s (.bool _)) rfl ?_);simp only[Cs,ib];cases decide (x.op=0)<;>cases decide (x.to=0)<;>cases decide (x.a=0)<;>cases decide (x.b=0)<;>cases decide (x.n=0)<;>rfl
theorem Kt{x:Argus.End}:PCall prog 238 [.agg (bc x)] (B (yq x)):=by
 have C:∀ a∈[D.agg (bc x)],Tr a:=.cons (.agg (kH x)) .nil;have Ks:=Ks (x:=x.ins);refine a9 mixed TY (by rw[agU];rfl) C (Tr.s _) ?_;rw[agV,agW];refine ws ?_;refine af ?_;refine er ?_;refine aL ?_;refine aL ?_;refine aL ?_;refine aL ?_;refine aL ?_;refine af ?_;refine bG rfl rfl (dU (vs:=bl _) rfl rfl V.h V.h rfl) (fun hc=>⟨ak,(dV V.h V.h (by first|(simp;done)|omega|exact Nat.le_of_ble_eq_true rfl))⟩) ?_;refine gc Ks ?_;refine af ?_;refine ab (ay (d:=.s (.bool _)) rfl ?_);have:decide (x.name.toList=[])=x.name.toList.isEmpty:=by cases x.name.toList<;>rfl
 simp[yq,ib,Bool.and_assoc,this]
theorem amf{w v:jN}:PCall prog 255 [.agg (lu v),.pt (lu w)] (B (v.name.toList==w.name.toList)):=by
 have C:∀ a∈[D.agg (lu v),.pt (lu w)],Tr a:=.cons (.agg (EQ v)) (.cons (.pt (EQ w)) .nil);refine a9 mixed TZ (by rw[agX];rfl) C (Tr.s _) ?_;rw[agY,agZ];refine ws ?_;refine fX (tk (cs:=lu _) rfl) ak (by first|rfl|exact uw eL fk|exact kS _|exact uN c7) ?_;refine SS ?_;refine er ?_;refine aP ?_;refine aH (IU rfl rfl) ak trivial ?_;refine SS ?_;exact ab (ay rfl rfl)
section
variable{p q:D}{f:aF}(hp:Tr p)(hq:Tr q)(eL:p.one=true)(fk:q.one=true)
include hp hq eL fk
theorem tL{x:Argus.End}:PCall prog 236 [.agg (bg p q f),.agg (bc x)] (B (me f x)):=by
 have J:∀ a∈[D.agg (bg p q f),.agg (bc x)],Tr a:=.cons (mh hp hq f) (.cons (.agg (kH x)) .nil);refine mM JK.he J fun X=>?_;have hlen:x.aI.length<=maxLen:=((X _ (List.mem_cons_of_mem _ (List.mem_cons_self ..))).agg (oA x.aI) (by simp[bc])).sl.1;unfold maxLen at hlen;have jq:= @jq p q f hp hq eL fk;refine a9 mixed JK (by rw[ag0];rfl) J (Tr.s _) ?_;rw[ag1,ag2];refine aw ?_;refine au ?_;refine ab (aO (bw [(0,bg p q f,133),(1,bc x,69)] eH (l:=[(2,.pt (bg p q f)),(3,.pt (bc x))]) eH) (aC (aw ?_)));refine aP ?_
 refine ab (bO (fun s=>∃ n,Ghost prog s ⟨az [(2,.pt (bg p q f)),(3,.pt (bc x))],fun _=>none,n⟩/\∀ (j:Nat) y,x.aI[j]? =some y->nW f x.aI j y=true) (dK (α:=Nat) (fun k=>⟨az [(2,.pt (bg p q f)),(3,.pt (bc x)),(8,oA x.aI),(9,I x.aI.length),(10,I k)],fun _=>none,2+k⟩)
  (fun k=>k<=x.aI.length/\∀ j y,j<k->x.aI[j]? =some y->nW f x.aI j y=true) (fun k=>x.aI.length - k) 0 (av eH) ⟨by omega,fun j y hj=>by omega⟩ ?_) ?_)
 .rintro k ⟨hk,hinv⟩;refine SS ?_;refine ab ⟨_,rfl,fun h=>?_,fun h=>?_⟩
  .have ao:k<x.aI.length:=by simpa using h
   have hx:x.aI[k]? =some x.aI[k]:=by simp[ao]
   generalize x.aI[k]=w at hx;refine aw ?_;refine bD ?_;refine ab (aO (bw [(2+k,lu w,199)] ⟨up_same _ _ _,trivial⟩ (l:=[(2,.pt (bg p q f)),(3,.pt (bc x)),(5,I k),(6,.pt (lu w)),(8,oA x.aI),(9,I x.aI.length),(10,I k)]) ⟨rfl,rfl,rfl,m9 (sz:=prog.cellsOf 199),rfl,rfl,rfl,trivial⟩) (aj ?_));have CU:=CU (s:=w.name);have CO:=CO (l:=x.aI.take k) (g:=255) (fs:=[]) (cs:=[.pt (lu w)]) (p:=fun v=>v.name.toList==w.name.toList) (.fn oS (.cons (.pt (EQ w)) .nil)) (fun v _=>amf);unfold oA at CO;rw[<- acw Bs hk] at CO;refine af ?_;refine cl CU ?_;refine aK ?_;refine gc jq ?_;refine bD ?_;refine bG rfl rfl (xQ rfl V.h V.h rfl rfl rfl) (fun hc=>⟨ak,⟨V.h,by omega,by omega,by omega⟩⟩) ?_;refine bG rfl rfl (QW rfl rfl) (fun hc=>⟨ak,trivial⟩) ?_;refine gc CO ?_;refine SS ?_;have hb:((isName w.name&&(bU f w.to&& !(x.aI.take k).any fun v=>v.name.toList==w.name.toList)))=nW f x.aI k w:=rfl;refine ab (aq rfl (fun hp=>?_) fun hp=>?_)
   .refine ws ?_;refine SS ?_;refine ab (aV (cq (aT (ay (d:=.s (.bool _)) rfl ?_))))
    have C:nW f x.aI k w=false:=by
     rw[<- hb];simp only[bU];revert hp;generalize isName w.name=a;generalize cJ w.to 0 (f.blocks.length - 1)=b;generalize (List.any _ _)=c;cases a<;>cases b<;>cases c<;>simp
    simp[me,Hh hx C]
   .refine cg ?_
    have C:nW f x.aI k w=true:=by
     rw[<- hb];simp only[bU];revert hp;generalize isName w.name=a;generalize cJ w.to 0 (f.blocks.length - 1)=b;generalize (List.any _ _)=c;cases a<;>cases b<;>cases c<;>simp
    refine af ?_;refine ab (aJ (k+1) (av eH) ⟨by omega,fun j y hj hy=>?_⟩ oG);by_cases e:j=k
    .subst e;rw[hx] at hy;cases hy;exact C
    .exact hinv j y oG hy
  .have aX:¬ k<x.aI.length:=by simpa using h
   exact⟨2+k,.forget _ _ _ _ fun t=>oB (l:=[(2,.pt (bg p q f)),(3,.pt (bc x))]) ⟨rfl,rfl,trivial⟩ t,fun j y hy=>hinv j y (by have:=(List.getElem?_eq_some_iff.1 hy).1;omega) hy⟩
 .rintro s ⟨n,hg,U⟩;refine⟨_,hg,aj ?_⟩;refine aL ?_;refine au ?_;refine gc jq ?_;refine au ?_;refine ab (ay (d:=.s (.bool _)) rfl ?_);have M:=MA U;simp[me,bU,M,ib]
end
abbrev P0:D:=.im (qy nQ)
abbrev Q0:D:=.im (qy jh)
theorem amt:PCall prog 166 [] (.tup [P0,Q0]):=by
 refine a9 mixed T6 (by rw[ahk];rfl) Tr.nil (.tup (.cons (Am _) (.cons (Am _) .nil))) ?_;rw[ahl,ahm];refine ws ?_;refine aH (mP (v:=.s (.map none)) rfl) ak trivial ?_;refine aH (mP (v:=.s (.map none)) rfl) ak trivial ?_;refine er ?_;refine aL ?_;refine aL ?_;refine aL ?_;refine bD ?_;refine er ?_;refine aL ?_;refine aL ?_;refine au ?_;refine ab (aw ?_);refine aP ?_;refine ab (aO (abt [(0,qy nQ),(1,qy jh)] eH (l:=[(0,P0),(1,Q0)]) eH) ?_);exact j6 rfl rfl rfl
abbrev rL(f:aF):D:=.agg (bg P0 Q0 f)
theorem Kp{f:aF}:PCall prog 189 [.agg (aG f)] (rL f):=by
 have C:∀ a∈[D.agg (aG f)],Tr a:=.cons (.agg (gn f)) .nil;refine a9 mixed T7 (by rw[ahn];rfl) C (mh (Am _) (Am _) f) ?_;rw[aho,ahp];refine ws ?_;refine af ?_;refine er ?_;refine cl amt ?_;refine SS ?_;refine aH (qT (v:=.im _) rfl rfl) ak (by first|decide|simp) ?_;refine aH (qT (v:=.im _) rfl rfl) ak (by first|decide|simp) ?_;refine aH (mP (v:=.im _) rfl) ak trivial ?_;refine aH (mP (v:=.im _) rfl) ak trivial ?_;refine er ?_;refine VW ?_;refine aH (jH (v:=.im _) rfl) ak trivial ?_;refine aH (jH (v:=.im _) rfl) ak trivial ?_;refine Vv ?_;refine b9 (gR (cs':=bg _ _ _) rfl rfl rfl rfl) ak (cP V.h V.h (by first|(simp;done)|exact⟨rfl,Nat.le_of_ble_eq_true rfl⟩|(simp;omega)) (by rfl)) ?_;refine ab (mj (mL rfl rfl VX VY rfl t133 oS) ?_);rfl
theorem lL:Tr P0:=Am _
theorem lM:Tr Q0:=Am _
section
variable{p q:D}{f:aF}(hp:Tr p)(hq:Tr q)(eL:p.one=true)(fk:q.one=true)
include hp hq eL fk
theorem amv{r kd:Int}:PCall prog 240 [I r,.pt (bg p q f),.pt [U8 kd]] (B !(aQ (bZ f.ag r) kd)):=by
 have C:∀ a∈[I r,.pt (bg p q f),.pt [U8 kd]],Tr a:=.cons (.s _) (.cons (.pt (BG hp hq f)) (.cons (.pt (.cons (.s _) .nil)) .nil));have eP:=eP (f:=f) (r:=r) hp hq eL fk;refine a9 mixed Ue (by rw[ahP];rfl) C (Tr.s _) ?_;rw[ahQ,ahR];refine ws ?_;refine SS ?_;refine ab (dm aab ?_);refine af ?_;refine cl eP ?_;refine au ?_;refine bk (by simp[apartT]) ?_;refine ay (d:=.s (.bool _)) rfl ?_;rfl
end
theorem F9{f:aF}{b ahead:Int}{x:bt}{phis:Bool}:PCall prog 196 [rL f,I b,.agg (bl x),B phis,I ahead] (B (iM f b x phis ahead)):=by
 have M:∀ a∈[rL f,I b,.agg (bl x),B phis,I ahead],Tr a:=.cons (mh lL lM f) (.cons (.s _) (.cons (.agg (p8 x)) (.cons (.s _) (.cons (.s _) .nil))));have eP:= @eP P0 Q0 f lL lM rfl rfl;have Gc:= @Gc P0 Q0 f lL lM rfl rfl;have gK:= @gK P0 Q0 f lL lM rfl rfl;have AD:= @AD P0 Q0 f lL lM rfl rfl;refine a9 mixed Uf (by rw[ahS];rfl) M (Tr.s _) ?_;rw[ahT,ahU];refine aw ?_;refine au ?_;refine ab (aO (bw [(0,bg P0 Q0 f,133),(1,bl x,66)] eH (l:=[(1,I b),(3,B phis),(4,I ahead),(5,.pt (bg P0 Q0 f)),(7,.pt (bl x))]) eH) (aC (aj ?_)));refine af ?_;refine ab (mN (aj ?_));refine af ?_;refine ab (aq rfl (fun h0=>?_) fun h0=>?_)
 .have h0:x.op=16:=by simpa using h0
  refine ws ?_;refine c8 ?_;refine gc eP ?_;refine aL ?_;refine bF ?_;refine af ?_;refine ab (aV (bx (aT (ay (d:=.s (.bool _)) rfl ?_))));simp[iM,h0,aQ,jj,ib,Bool.and_assoc]
 have h0:¬ x.op=16:=by simpa using h0
 refine ws ?_;refine af ?_;refine ab (aq rfl (fun h1=>?_) fun h1=>?_)
 .have h1:x.op=17:=by simpa using h1
  refine ws ?_;refine aL ?_;refine aL ?_;refine af ?_;refine gc Gc ?_;refine af ?_;refine ab (aV (bx (aT (ay (d:=.s (.bool _)) rfl ?_))));simp[iM,h1,aQ,jj,ib,Bool.and_assoc]
 have h1:¬ x.op=17:=by simpa using h1
 refine ws ?_;refine af ?_;refine ab (aq rfl (fun h2=>?_) fun h2=>?_)
 .have h2:x.op=18:=by simpa using h2
  refine ws ?_;refine aL ?_;refine aL ?_;refine af ?_;refine gc Gc ?_;refine af ?_;refine ab (aV (bx (aT (ay (d:=.s (.bool _)) rfl ?_))));simp[iM,h2,aQ,jj,ib,Bool.and_assoc]
 have h2:¬ x.op=18:=by simpa using h2
 refine ws ?_;refine af ?_;refine ab (aq rfl (fun h3=>?_) fun h3=>?_)
 .have h3:x.op=19:=by simpa using h3
  refine aw ?_;refine au ?_;refine cl eP ?_;refine af ?_;refine ab (aO (bw [(2,[U8 (bZ f.ag x.to)],5)] eH (l:=[(1,I b),(3,B phis),(4,I ahead),(5,.pt (bg P0 Q0 f)),(7,.pt (bl x)),(11,.pt [U8 (bZ f.ag x.to)])]) eH) (aj ?_));have Ax:=Ax (l:=x.args) (g:=240) (fs:=[]) (cs:=[.pt (bg P0 Q0 f),.pt [U8 (bZ f.ag x.to)]]) (p:=fun r=> !(aQ (bZ f.ag r) (bZ f.ag x.to))) (.fn oS (.cons (.pt (BG lL lM f)) (.cons (.pt (.cons (.s _) .nil)) .nil))) (fun r _=>amv lL lM rfl rfl);refine au ?_;refine cl Ax ?_;refine SS ?_;refine er ?_;by_cases hb:phis=true/\0<b
  .obtain⟨rfl,hb⟩:=hb;have uV:decide (0<b)=true:=by simpa using hb
   have gK:=gK (l:=[x.to]);have C:∀ {m:Mem},m 3=some (.cells [I x.to] 3)->Sns prog [3] m [rL f,.rs 3 0 1] [rL f,ax [x.to]]:=fun hm=>⟨cD (mh lL lM f),FI hm oS (by rw[c3];rfl) (.cons (.s _) .nil),trivial⟩
   refine bF ?_;refine af ?_;refine Fo gK rfl rfl rfl rfl (C rfl) ak ?_;refine aL ?_;refine aL ?_;refine bF ?_;refine af ?_;refine ab (aV (bx (aT (ay (d:=.s (.bool _)) rfl ?_))));simp[iM,h3,hb,aQ,jj,ib,Bool.and_assoc,fQ]
  .have hf:iM f b x phis ahead=false:=by
    cases phis with
    |false=>simp[iM,h3]
    |true=>simp[iM,h3,show ¬ 0<b by simpa using hb]
   have hf:D.s (.bool false)=B (iM f b x phis ahead):=by rw[hf]
   cases phis with
   |false=>
    refine af ?_;(iterate 2 refine z fun _ _=>?_);refine af ?_;(iterate 5 refine z fun _ _=>?_);refine af ?_;(iterate 3 refine z fun _ _=>?_);refine af ?_;(iterate 3 refine z fun _ _=>?_);refine af ?_;(iterate 3 refine z fun _ _=>?_);refine af ?_;(iterate 5 refine z fun _ _=>?_);refine af ?_;(iterate 2 refine z fun _ _=>?_);refine af ?_;exact ab (aV (bx (aT (ay (d:=.s (.bool _)) rfl hf))))
   |true=>
    have uV:decide (0<b)=false:=by simpa using hb
    refine bD ?_;(iterate 5 refine z fun _ _=>?_);refine af ?_;(iterate 3 refine z fun _ _=>?_);refine af ?_;(iterate 3 refine z fun _ _=>?_);refine af ?_;(iterate 3 refine z fun _ _=>?_);refine af ?_;(iterate 5 refine z fun _ _=>?_);refine af ?_;(iterate 2 refine z fun _ _=>?_);refine af ?_;exact ab (aV (bx (aT (ay (d:=.s (.bool _)) rfl hf))))
 have h3:¬ x.op=19:=by simpa using h3
 refine mn (aj ?_);have U:gotD prog 131 true (lookD (.int .u8 x.op) (qy nQ))=.tup [.agg (iZ ((fc nQ x.op).getD xS)),.s (.bool (fc nQ x.op).isSome)]:=Rw rfl _ _ (by rw[JP];unfold zeroD;rw[KE,KF];rfl);have J:=O8 (P:=prog) (kt:=5) u5 nQ;refine aP ?_;refine aH (M7 rfl rfl V.h U) ak ⟨V.h,by kernel_rfl,J⟩ ?_;refine SS ?_;refine aH (qT (v:=.agg (iZ _)) rfl rfl) ak (by first|decide|simp) ?_;refine af ?_;refine b9 (gR (cs':=iZ _) rfl rfl rfl rfl) ak (cP V.h V.h (by first|(simp;done)|exact⟨rfl,Nat.le_of_ble_eq_true rfl⟩|(simp;omega)) (by rfl)) ?_;refine SS ?_;refine er ?_;refine aP ?_;refine bG rfl rfl (dU (vs:=iZ _) rfl rfl V.h V.h rfl) (fun hc=>⟨ak,(dV V.h V.h (by first|(simp;done)|omega|exact Nat.le_of_ble_eq_true rfl))⟩) ?_;refine gc AD ?_;refine af ?_;refine ab (ay (d:=.s (.bool _)) rfl ?_);simp[iM,h0,h1,h2,h3]
def Uy(f:aF)(x:Argus.End)(s:St):Prop:=∃ cells n,Ghost prog s ⟨az [(2,.pt (bg P0 Q0 f)),(3,.pt (bc x)),(5,.rp 2 0),(6,B (fC f x).1)],up (fun _=>none) 2 (some (.cells cells 69)),n⟩/\cells.length=15/\∀ m,Sns prog [2] m cells (bc (fC f x).2)
theorem vR{l:List Int}{r:Int}:fQ l [r]=dO l r:=by simp[fQ]
theorem mD{f:aF}{x r:Argus.End}{env:Env}{m:Mem}{nx:Nat}{cells:List D}{ok:Bool}(hr:fC f x=(ok,r))(he:lz [(2,.pt (bg P0 Q0 f)),(3,.pt (bc x)),(5,.rp 2 0),(6,B ok)] env)(hm:m 2=some (.cells cells 69))(hl:cells.length=15)
 (C:∀ m,Sns prog [2] m cells (bc r)):Uy f x ⟨env,m,nx⟩:=by
 refine⟨cells,nx,?_,hl,?_⟩
 .rw[hr];exact Oi he (aaW hm)
 .rw[hr];exact C
set_option maxHeartbeats 4000000 in
theorem F8{f:aF}{x:Argus.End}:PCall prog 195 [rL f,.agg (bc x)] (B (jg f x)):=by
 have aW:∀ a∈[rL f,.agg (bc x)],Tr a:=.cons (mh lL lM f) (.cons (.agg (kH x)) .nil);have jq:= @jq P0 Q0 f lL lM rfl rfl;have eP:= @eP P0 Q0 f lL lM rfl rfl;have gK:= @gK P0 Q0 f lL lM rfl rfl;have AD:= @AD P0 Q0 f lL lM rfl rfl;have tL:= @tL P0 Q0 f lL lM rfl rfl;refine a9 mixed Uz (by rw[aiI];rfl) aW (Tr.s _) ?_;rw[aiJ,aiK];refine aw ?_;refine au ?_;refine ab (aO (bw [(0,bg P0 Q0 f,133),(1,bc x,69)] eH (l:=[(2,.pt (bg P0 Q0 f)),(3,.pt (bc x))]) eH) (aj ?_));refine af ?_;refine b9 (gR (cs':=bc _) rfl rfl rfl rfl) ak (cP V.h V.h (by first|(simp;done)|exact⟨rfl,Nat.le_of_ble_eq_true rfl⟩|(simp;omega)) (by rfl)) ?_;refine SS ?_;refine er ?_;refine af ?_;refine ab ?_;refine dE (Uy f x) (aj ?_) fun s hs=>?_
 .refine af ?_;refine ab (ja (aj ?_));refine af ?_;refine ab (aq rfl (fun h=>?_) fun h=>?_)
  .have h:x.kind=1:=by simpa using h
   refine nK ?_;refine au ?_;refine cl jq ?_;refine au ?_;refine ab ?_;exact mD (r:={ x with kind:=0,to:=0 }) (by simp[fC,h,aQ,ib,Bool.and_assoc,bU]) ⟨rfl,rfl,rfl,rfl,trivial⟩ rfl rfl (fun m=>by repeat' (first|exact trivial|exact cD (Tr.s _)|exact cD (cB _)|exact cD (jD _)|exact mE|refine And.intro ?_ ?_))
  have h1:¬ x.kind=1:=by simpa using h
  clear h;refine ws ?_;refine af ?_;refine ab (aq rfl (fun h=>?_) fun h=>?_)
  .have h:x.kind=2:=by simpa using h
   refine nK ?_;refine au ?_;refine cl eP ?_;refine aK ?_;refine gc jq ?_;refine aK ?_;refine gc jq ?_;refine bF ?_;refine ab ?_;exact mD (r:={ x with kind:=0,a:=0,to:=0,fm:=0 }) (by simp[fC,h,aQ,ib,Bool.and_assoc,bU]) ⟨rfl,rfl,rfl,rfl,trivial⟩ rfl rfl (fun m=>by repeat' (first|exact trivial|exact cD (Tr.s _)|exact cD (cB _)|exact cD (jD _)|exact mE|refine And.intro ?_ ?_))
  have h2:¬ x.kind=2:=by simpa using h
  clear h;refine ws ?_;refine af ?_;refine ab (aq rfl (fun h=>?_) fun h=>?_)
  .have h:x.kind=3:=by simpa using h
   refine ws ?_;refine bD ?_;refine er ?_;refine bF ?_;refine af ?_;refine ab (aq rfl (fun hr=>?_) fun hr=>?_)
   .have hr:f.result≠0/\f.iter=false:=by simpa[bne,ib] using hr
    refine Oc Zg ?_;refine au ?_;refine cl eP ?_;refine aK ?_;refine bk (by simp[apartT]) ?_;exact mD (r:={ x with kind:=0,a:=0 }) (by simp[fC,h,aQ,ib,Bool.and_assoc,hr.1,hr.2]) ⟨rfl,rfl,rfl,rfl,trivial⟩ rfl rfl (fun m=>by repeat' (first|exact trivial|exact cD (Tr.s _)|exact cD (cB _)|exact cD (jD _)|exact mE|refine And.intro ?_ ?_))
   .have hr:¬ (f.result≠0/\f.iter=false):=by simpa[bne,ib] using hr
    refine HY ?_;exact mD (r:={ x with kind:=0,a:=0 }) (by simp only[fC,h];simp only[if_neg hr];simp[aQ,ib]) ⟨rfl,rfl,rfl,rfl,trivial⟩ rfl rfl (fun m=>by repeat' (first|exact trivial|exact cD (Tr.s _)|exact cD (cB _)|exact cD (jD _)|exact mE|refine And.intro ?_ ?_))
  have h3:¬ x.kind=3:=by simpa using h
  clear h;refine ws ?_;refine af ?_;refine ab (aq rfl (fun h=>?_) fun h=>?_)
  .have h:x.kind=4:=by simpa using h
   refine nK ?_;refine af ?_;refine cl CU ?_;refine au ?_;refine ab ?_;exact mD (r:={ x with kind:=0,name:=.empty }) (by simp[fC,h,aQ,ib,Bool.and_assoc]) ⟨rfl,rfl,rfl,rfl,trivial⟩ rfl rfl (fun m=>by repeat' (first|exact trivial|exact cD (Tr.s _)|exact cD (cB _)|exact cD (jD _)|exact mE|refine And.intro ?_ ?_))
  have h4:¬ x.kind=4:=by simpa using h
  clear h;refine ws ?_;refine af ?_;refine ab (aq rfl (fun h=>?_) fun h=>?_)
  .have h:x.kind=5:=by simpa using h
   refine ws ?_;have kg:gotD prog 131 true (lookD (.int .u8 x.ins.op) (qy jh))=.tup [.agg (iZ ((fc jh x.ins.op).getD xS)),.s (.bool (fc jh x.ins.op).isSome)]:=Rw rfl _ _ (by rw[JP];unfold zeroD;rw[KE,KF];rfl);have LL:=O8 (P:=prog) (kt:=5) u5 jh;refine aK ?_;refine aH (M7 rfl rfl V.h kg) ak ⟨V.h,by kernel_rfl,LL⟩ ?_;refine SS ?_;refine aH (qT (v:=.agg (iZ _)) rfl rfl) ak (by first|decide|simp) ?_;refine af ?_;refine b9 (gR (cs':=iZ _) rfl rfl rfl rfl) ak (cP V.h V.h (by first|(simp;done)|exact⟨rfl,Nat.le_of_ble_eq_true rfl⟩|(simp;omega)) (by rfl)) ?_;refine SS ?_;refine er ?_;refine aK ?_;refine bG rfl rfl (dU (vs:=iZ _) rfl rfl V.h V.h rfl) (fun hc=>⟨ak,(dV V.h V.h (by first|(simp;done)|omega|exact Nat.le_of_ble_eq_true rfl))⟩) ?_;refine gc AD ?_;refine aK ?_;refine gc jq ?_;refine aP ?_;refine gc tL ?_;refine af ?_;refine ab (nK ?_);refine aL ?_;refine ab ?_;exact mD (r:={ x with kind:=0,ins:=dt,to:=0,aI:=[],cx:= -1 }) (by simp[fC,h,aQ,ib,Bool.and_assoc,bU]) ⟨rfl,rfl,rfl,rfl,trivial⟩ rfl rfl (fun m=>by repeat' (first|exact trivial|exact cD (Tr.s _)|exact cD (cB _)|exact cD (jD _)|exact mE|refine And.intro ?_ ?_))
  have h5:¬ x.kind=5:=by simpa using h
  clear h;refine ws ?_;refine af ?_;refine ab (aq rfl (fun h=>?_) fun h=>?_)
  .have h:x.kind=6:=by simpa using h
   refine ws ?_;have rW:=rW (s:=x.name);have aiL:=gK (l:=[x.a]);have gK:=gK (l:=x.args);have X:∀ {m:Mem},m 3=some (.cells [I x.a] 3)->Sns prog [3] m [rL f,.rs 3 0 1] [rL f,ax [x.a]]:=fun hm=>⟨cD (mh lL lM f),FI hm oS (by rw[c3];rfl) (.cons (.s _) .nil),trivial⟩
   cases C:kL x.name with
   |false=>
    rw[C] at rW;refine af ?_;refine cl rW ?_;refine bF ?_;refine af ?_;refine gc gK ?_;refine aL ?_;(iterate 3 refine z fun _ _=>?_);refine aK ?_;refine gc jq ?_;refine aP ?_;refine gc tL ?_;refine af ?_;refine ab (nK ?_);refine aL ?_;refine au ?_;refine ab ?_;exact mD (r:={ x with kind:=0,name:=.empty,args:=[],a:=0,to:=0,aI:=[],cx:= -1 }) (by simp[fC,h,aQ,ib,Bool.and_assoc,bU,C]) ⟨rfl,rfl,rfl,rfl,trivial⟩ rfl rfl (fun m=>by repeat' (first|exact trivial|exact cD (Tr.s _)|exact cD (cB _)|exact cD (jD _)|exact mE|refine And.intro ?_ ?_))
   |true=>
    rw[C] at rW;by_cases J:(x.args.length:Int)<=6
    rotate_left
    .have U':decide ((x.args.length:Int)<=6)=false:=by simpa using J
     refine af ?_;refine cl rW ?_;refine bF ?_;refine af ?_;refine gc gK ?_;refine aL ?_;(iterate 3 refine z fun _ _=>?_);refine aK ?_;refine gc jq ?_;refine aP ?_;refine gc tL ?_;refine af ?_;refine ab (nK ?_);refine aL ?_;refine au ?_;refine ab ?_;exact mD (r:={ x with kind:=0,name:=.empty,args:=[],a:=0,to:=0,aI:=[],cx:= -1 }) (by simp[fC,h,aQ,ib,Bool.and_assoc,bU,C,J]) ⟨rfl,rfl,rfl,rfl,trivial⟩ rfl rfl (fun m=>by repeat' (first|exact trivial|exact cD (Tr.s _)|exact cD (cB _)|exact cD (jD _)|exact mE|refine And.intro ?_ ?_))
    have U':decide ((x.args.length:Int)<=6)=true:=by simpa using J
    cases M:fQ f.ag x.args with
    |false=>
     rw[M] at gK;refine af ?_;refine cl rW ?_;refine bF ?_;refine af ?_;refine gc gK ?_;refine aL ?_;(iterate 3 refine z fun _ _=>?_);refine aK ?_;refine gc jq ?_;refine aP ?_;refine gc tL ?_;refine af ?_;refine ab (nK ?_);refine aL ?_;refine au ?_;refine ab ?_;exact mD (r:={ x with kind:=0,name:=.empty,args:=[],a:=0,to:=0,aI:=[],cx:= -1 }) (by simp[fC,h,aQ,ib,Bool.and_assoc,bU,C,J,M]) ⟨rfl,rfl,rfl,rfl,trivial⟩ rfl rfl (fun m=>by repeat' (first|exact trivial|exact cD (Tr.s _)|exact cD (cB _)|exact cD (jD _)|exact mE|refine And.intro ?_ ?_))
    |true=>
     rw[M] at gK;by_cases U:x.a= -1
     .have fh:(x.a== -1)=true:=by simpa using U
      refine af ?_;refine cl rW ?_;refine bF ?_;refine af ?_;refine gc gK ?_;refine aL ?_;(iterate 2 refine z fun _ _=>?_);refine bD ?_;refine gc jq ?_;refine aP ?_;refine gc tL ?_;refine af ?_;refine ab (nK ?_);refine aL ?_;refine au ?_;refine ab ?_;exact mD (r:={ x with kind:=0,name:=.empty,args:=[],a:=0,to:=0,aI:=[],cx:= -1 }) (by simp[fC,h,aQ,ib,Bool.and_assoc,bU,C,J,M,U]) ⟨rfl,rfl,rfl,rfl,trivial⟩ rfl rfl (fun m=>by repeat' (first|exact trivial|exact cD (Tr.s _)|exact cD (cB _)|exact cD (jD _)|exact mE|refine And.intro ?_ ?_))
     .have fh:(x.a== -1)=false:=by simpa using U
      refine af ?_;refine cl rW ?_;refine bF ?_;refine af ?_;refine gc gK ?_;refine bF ?_;refine af ?_;refine Fo aiL rfl rfl rfl rfl (X rfl) ak ?_;refine bD ?_;refine gc jq ?_;refine aP ?_;refine gc tL ?_;refine af ?_;refine ab (nK ?_);refine aL ?_;refine au ?_;refine ab ?_;exact mD (r:={ x with kind:=0,name:=.empty,args:=[],a:=0,to:=0,aI:=[],cx:= -1 }) (by simp[fC,h,aQ,ib,Bool.and_assoc,bU,C,J,M,U,vR]) ⟨rfl,rfl,rfl,rfl,trivial⟩ rfl rfl (fun m=>by repeat' (first|exact trivial|exact cD (Tr.s _)|exact cD (cB _)|exact cD (jD _)|exact mE|refine And.intro ?_ ?_))
  have h6:¬ x.kind=6:=by simpa using h
  clear h;refine ws ?_;refine af ?_;refine ab (aq rfl (fun h=>?_) fun h=>?_)
  .have h:x.kind=7:=by simpa using h
   refine ws ?_;refine af ?_;refine cl rW ?_;refine bF ?_;refine af ?_;refine gc gK ?_;refine aK ?_;refine gc eP ?_;refine bD ?_;refine gc jq ?_;refine af ?_;refine ab (nK ?_);refine bF ?_;refine ab ?_;exact mD (r:={ x with kind:=0,name:=.empty,args:=[],a:=0,to:=0 }) (by simp[fC,h,aQ,ib,Bool.and_assoc,bU]) ⟨rfl,rfl,rfl,rfl,trivial⟩ rfl rfl (fun m=>by repeat' (first|exact trivial|exact cD (Tr.s _)|exact cD (cB _)|exact cD (jD _)|exact mE|refine And.intro ?_ ?_))
  have h7:¬ x.kind=7:=by simpa using h
  clear h;refine ws ?_;refine af ?_;refine ab (aq rfl (fun h=>?_) fun h=>?_)
  .have h:x.kind=8:=by simpa using h
   refine ws ?_;have gK:=gK (l:=[x.b]);have JO:∀ {m:Mem},m 3=some (.cells [I x.b] 3)->Sns prog [3] m [rL f,.rs 3 0 1] [rL f,ax [x.b]]:=fun hm=>⟨cD (mh lL lM f),FI hm oS (by rw[c3];rfl) (.cons (.s _) .nil),trivial⟩
   by_cases C:bZ f.ag x.a=3
   .have fh:(bZ f.ag x.a==3)=true:=by simpa using C
    refine au ?_;refine cl eP ?_;refine bD ?_;refine Fo gK rfl rfl rfl rfl (JO rfl) ak ?_;refine aK ?_;refine gc jq ?_;refine aK ?_;refine gc jq ?_;refine aP ?_;refine gc tL ?_;refine af ?_;refine ab (nK ?_);refine aL ?_;refine au ?_;refine ab ?_;exact mD (r:={ x with kind:=0,a:=0,b:=0,to:=0,fm:=0,aI:=[],cx:= -1 }) (by simp[fC,h,aQ,ib,Bool.and_assoc,bU,C,vR]) ⟨rfl,rfl,rfl,rfl,trivial⟩ rfl rfl (fun m=>by repeat' (first|exact trivial|exact cD (Tr.s _)|exact cD (cB _)|exact cD (jD _)|exact mE|refine And.intro ?_ ?_))
   .have fh:(bZ f.ag x.a==3)=false:=by simpa using C
    refine au ?_;refine cl eP ?_;refine aK ?_;(iterate 2 refine z fun _ _=>?_);refine aK ?_;refine gc jq ?_;refine aK ?_;refine gc jq ?_;refine aP ?_;refine gc tL ?_;refine af ?_;refine ab (nK ?_);refine aL ?_;refine au ?_;refine ab ?_;exact mD (r:={ x with kind:=0,a:=0,b:=0,to:=0,fm:=0,aI:=[],cx:= -1 }) (by simp[fC,h,aQ,ib,Bool.and_assoc,bU,C]) ⟨rfl,rfl,rfl,rfl,trivial⟩ rfl rfl (fun m=>by repeat' (first|exact trivial|exact cD (Tr.s _)|exact cD (cB _)|exact cD (jD _)|exact mE|refine And.intro ?_ ?_))
  have h8:¬ x.kind=8:=by simpa using h
  clear h;refine ws ?_;refine af ?_;refine ab (aq rfl (fun h=>?_) fun h=>?_)
  .have h:x.kind=9:=by simpa using h
   refine Oc Zh ?_;refine c8 ?_;refine gc eP ?_;refine aL ?_;refine gc jq ?_;refine bD ?_;refine bk (by simp[apartT]) ?_;exact mD (r:={ x with kind:=0,a:=0,to:=0 }) (by simp[fC,h,aQ,ib,Bool.and_assoc,bU]) ⟨rfl,rfl,rfl,rfl,trivial⟩ rfl rfl (fun m=>by repeat' (first|exact trivial|exact cD (Tr.s _)|exact cD (cB _)|exact cD (jD _)|exact mE|refine And.intro ?_ ?_))
  .have h9:¬ x.kind=9:=by simpa using h
   refine HY ?_;exact mD (r:={ x with kind:=0 }) (by simp[fC,h1,h2,h3,h4,h5,h6,h7,h8,h9]) ⟨rfl,rfl,rfl,rfl,trivial⟩ rfl rfl (fun m=>by repeat' (first|exact trivial|exact cD (Tr.s _)|exact cD (cB _)|exact cD (jD _)|exact mE|refine And.intro ?_ ?_))
 .obtain⟨cells,n,hg,hl,hs⟩:=hs;refine⟨_,hg,aj ?_⟩;have ss:(cells.drop 0).take 15=cells:=by rw[List.drop_zero,List.take_of_length_le oG]
  have Kt:=Kt (x:=(fC f x).2);have aiM:∀ {m:Mem},m 2=m 2->Sns prog [2] m [.agg ((cells.drop 0).take 15)] [.agg (bc (fC f x).2)]:=fun {m} _=>⟨adI (by rw[ss];exact hs m),trivial⟩
  have he:jg f x=((fC f x).1&&yq (fC f x).2):=rfl;generalize (fC f x).1=ok at he;cases ok with
  |true=>
   refine au ?_;refine Fo Kt rfl rfl rfl rfl (aiM rfl) ak ?_;refine af ?_;refine ab (ay (d:=.s (.bool _)) rfl ?_);rw[he];simp
  |false=>
   refine af ?_;(iterate 2 refine z fun _ _=>?_);refine af ?_;refine ab (ay (d:=.s (.bool _)) rfl ?_);rw[he];simp
theorem uZ{n:Int}(hn: -1000000<=n/\n<=1000000):PCall prog 244 [I n] (I (jV n)):=by
 refine a9 mixed UE (by rw[ai0];rfl) (by simp[Tr.s]) (Tr.s _) ?_;rw[ai1,ai2];refine ws ?_;refine SS ?_;refine er ?_;refine au ?_;exact ab (ay rfl rfl)
theorem Ay{x:bt}:PCall prog 139 [.agg (bl x)] (I (cZ x)):=by
 have M:∀ a∈[D.agg (bl x)],Tr a:=.cons (.agg (p8 x)) .nil;refine a9 mixed UF (by rw[ai3];rfl) M (Tr.s _) ?_;rw[ai4,ai5];refine aw ?_;refine af ?_;refine ab (aO (bw [(0,bl x,66)] eH (l:=[(1,.pt (bl x))]) eH) (aC (aj ?_)));refine af ?_;refine ab (mN ?_);refine dE (fun s=>Ghost prog s ⟨az [(1,.pt (bl x)),(4,U8 x.op),(5,B (aN mb x.op))],fun _=>none,1⟩) (aj ?_) fun s hg=>⟨_,hg,?_⟩
 .refine af ?_;refine ab (aq rfl (fun h=>aZ ?_) fun e1=>aj ?_)
  .have h:x.op=1:=by simpa using h
   refine av ⟨rfl,rfl,?_,trivial⟩;show D.s (.bool (x.op==1))=_;rw[h];rfl
  refine af ?_;refine ab (aq rfl (fun h=>aZ ?_) fun e2=>aj ?_)
  .have h:x.op=2:=by simpa using h
   refine av ⟨rfl,rfl,?_,trivial⟩;show D.s (.bool (x.op==2))=_;rw[h];rfl
  refine af ?_;refine ab (aq rfl (fun h=>aZ ?_) fun e3=>aj ?_)
  .have h:x.op=3:=by simpa using h
   refine av ⟨rfl,rfl,?_,trivial⟩;show D.s (.bool (x.op==3))=_;rw[h];rfl
  refine af ?_;refine ab (aq rfl (fun h=>aZ ?_) fun e4=>aj ?_)
  .have h:x.op=4:=by simpa using h
   refine av ⟨rfl,rfl,?_,trivial⟩;show D.s (.bool (x.op==4))=_;rw[h];rfl
  refine af ?_;refine ab (aq rfl (fun h=>aZ ?_) fun e5=>aj ?_)
  .have h:x.op=5:=by simpa using h
   refine av ⟨rfl,rfl,?_,trivial⟩;show D.s (.bool (x.op==5))=_;rw[h];rfl
  refine af ?_;refine ab (aq rfl (fun h=>aZ ?_) fun e6=>aj ?_)
  .have h:x.op=6:=by simpa using h
   refine av ⟨rfl,rfl,?_,trivial⟩;show D.s (.bool (x.op==6))=_;rw[h];rfl
  refine af ?_;refine ab (aq rfl (fun h=>aZ ?_) fun e7=>aj ?_)
  .have h:x.op=7:=by simpa using h
   refine av ⟨rfl,rfl,?_,trivial⟩;show D.s (.bool (x.op==7))=_;rw[h];rfl
  refine af ?_;refine ab (aq rfl (fun h=>aZ ?_) fun e8=>aj ?_)
  .have h:x.op=8:=by simpa using h
   refine av ⟨rfl,rfl,?_,trivial⟩;show D.s (.bool (x.op==8))=_;rw[h];rfl
  refine af ?_;refine ab (aq rfl (fun h=>aZ ?_) fun e9=>aj ?_)
  .have h:x.op=9:=by simpa using h
   refine av ⟨rfl,rfl,?_,trivial⟩;show D.s (.bool (x.op==9))=_;rw[h];rfl
  refine af ?_;refine ab (aq rfl (fun h=>aZ ?_) fun C=>aj ?_)
  .have h:x.op=10:=by simpa using h
   refine av ⟨rfl,rfl,?_,trivial⟩;show D.s (.bool (x.op==10))=_;rw[h];rfl
  refine af ?_;refine ab (aq rfl (fun h=>aZ ?_) fun zn=>aj ?_)
  .have h:x.op=11:=by simpa using h
   refine av ⟨rfl,rfl,?_,trivial⟩;show D.s (.bool (x.op==11))=_;rw[h];rfl
  refine af ?_;refine ab (aq rfl (fun h=>aZ ?_) fun U=>aj ?_)
  .have h:x.op=13:=by simpa using h
   refine av ⟨rfl,rfl,?_,trivial⟩;show D.s (.bool (x.op==13))=_;rw[h];rfl
  refine af ?_;refine ab (aq rfl (fun h=>aZ ?_) fun zo=>aj ?_)
  .have h:x.op=14:=by simpa using h
   refine av ⟨rfl,rfl,?_,trivial⟩;show D.s (.bool (x.op==14))=_;rw[h];rfl
  refine af ?_;refine ab (aq rfl (fun h=>aZ ?_) fun D4=>kK ?_)
  .have h:x.op=17:=by simpa using h
   refine av ⟨rfl,rfl,?_,trivial⟩;show D.s (.bool (x.op==17))=_;rw[h];rfl
  refine af ?_;refine ab ?_;refine av ⟨rfl,rfl,?_,trivial⟩;show D.s (.bool (x.op==19))=_;simp[aN,mb,e1,e2,e3,e4,e5,e6,e7,e8,e9,C,zn,U,zo,D4]
 refine aq rfl (fun h1=>?_) fun h1=>?_
 .refine ws ?_;refine au ?_;refine ab (aV (bx (aT (ay (d:=I x.to) rfl ?_))));simp[cZ,h1]
 refine dE (fun s=>Ghost prog s ⟨az [(1,.pt (bl x)),(4,U8 x.op),(23,B (aN nJ x.op))],fun _=>none,1⟩) (aj ?_) fun s hg=>⟨_,hg,?_⟩
 .refine af ?_;refine ab (aq rfl (fun h=>aZ ?_) fun X=>aj ?_)
  .have h:x.op=30:=by simpa using h
   refine av ⟨rfl,rfl,?_,trivial⟩;show D.s (.bool (x.op==30))=_;rw[h];rfl
  refine af ?_;refine ab (aq rfl (fun h=>aZ ?_) fun vJ=>aj ?_)
  .have h:x.op=31:=by simpa using h
   refine av ⟨rfl,rfl,?_,trivial⟩;show D.s (.bool (x.op==31))=_;rw[h];rfl
  refine af ?_;refine ab (aq rfl (fun h=>aZ ?_) fun vK=>aj ?_)
  .have h:x.op=32:=by simpa using h
   refine av ⟨rfl,rfl,?_,trivial⟩;show D.s (.bool (x.op==32))=_;rw[h];rfl
  refine af ?_;refine ab (aq rfl (fun h=>aZ ?_) fun vL=>aj ?_)
  .have h:x.op=33:=by simpa using h
   refine av ⟨rfl,rfl,?_,trivial⟩;show D.s (.bool (x.op==33))=_;rw[h];rfl
  refine af ?_;refine ab (aq rfl (fun h=>aZ ?_) fun zp=>aj ?_)
  .have h:x.op=34:=by simpa using h
   refine av ⟨rfl,rfl,?_,trivial⟩;show D.s (.bool (x.op==34))=_;rw[h];rfl
  refine af ?_;refine ab (aq rfl (fun h=>aZ ?_) fun J=>kK ?_)
  .have h:x.op=36:=by simpa using h
   refine av ⟨rfl,rfl,?_,trivial⟩;show D.s (.bool (x.op==36))=_;rw[h];rfl
  refine af ?_;refine ab ?_;refine av ⟨rfl,rfl,?_,trivial⟩;show D.s (.bool (x.op==37))=_;simp[aN,nJ,X,vJ,vK,vL,zp,J]
 refine aq rfl (fun h2=>?_) fun h2=>?_
 .refine ws ?_;refine au ?_;refine ab (aV (bx (aT (ay (d:=I x.to) rfl ?_))));simp[cZ,h2]
 refine mn (aj ?_);refine SS ?_;refine ab (ay (d:=I (-1)) rfl ?_);simp[cZ,h1,h2]
theorem Kj{x:Argus.End}:PCall prog 175 [.agg (bc x)] (I (dJ x)):=by
 have C:∀ a∈[D.agg (bc x)],Tr a:=.cons (.agg (kH x)) .nil;have Ay:=Ay (x:=x.ins);refine a9 mixed UG (by rw[ai6];rfl) C (Tr.s _) ?_;rw[ai7,ai8];refine aw ?_;refine af ?_;refine ab (aO (bw [(0,bc x,69)] eH (l:=[(1,.pt (bc x))]) eH) (aC (aj ?_)));refine af ?_;refine ab (mN (aj ?_));refine af ?_;refine ab (aq rfl (fun h1=>?_) fun h1=>?_)
 .have h1:x.kind=5:=by simpa using h1
  refine ws ?_;refine af ?_;refine cl Ay ?_;refine SS ?_;refine ab (aV (bx (aT (ay (d:=I (cZ x.ins)) rfl ?_))));simp[dJ,h1]
 have h1:¬ x.kind=5:=by simpa using h1
 refine dE (fun s=>Ghost prog s ⟨az [(1,.pt (bc x)),(4,U8 x.kind),(10,B (aN [6,7] x.kind))],fun _=>none,1⟩) (aj ?_) fun s hg=>⟨_,hg,?_⟩
 .refine af ?_;refine ab (aq rfl (fun h=>aZ ?_) fun e6=>kK ?_)
  .have h:x.kind=6:=by simpa using h
   refine av ⟨rfl,rfl,?_,trivial⟩;show D.s (.bool (x.kind==6))=_;rw[h];rfl
  refine af ?_;refine ab ?_;refine av ⟨rfl,rfl,?_,trivial⟩;show D.s (.bool (x.kind==7))=_;simp[aN,e6]
 refine aq rfl (fun h2=>?_) fun h2=>?_
 .refine ws ?_;refine au ?_;refine ab (aV (bx (aT (ay (d:=I x.a) rfl ?_))));simp[dJ,h1,h2]
 refine ws ?_;refine af ?_;refine ab (aq rfl (fun h3=>?_) fun h3=>?_)
 .have h3:x.kind=8:=by simpa using h3
  refine ws ?_;refine au ?_;refine ab (aV (bx (aT (ay (d:=I x.b) rfl ?_))));simp[dJ,h2,h3];simp[aN]
 have h3:¬ x.kind=8:=by simpa using h3
 refine mn (aj ?_);refine SS ?_;refine ab (ay (d:=I (-1)) rfl ?_);simp[dJ,h1,h2,h3]
theorem AQ{l:List Int}(hl:l.length<=100000):PCall prog 105 [ax l] (ax l):=by
 have J:∀ a∈[ax l],Tr a:=.cons (cB _) .nil;refine a9 mixed UH (by rw[ai9];rfl) J (cB _) ?_;rw[ai',aja];have rT:(l.map I).take (l.length*1)=l.map I:=List.take_of_length_le oS
 have last:AW prog noY true (.seq (.region 3 (Z vW 3) false) .ret) (retQ prog [.tmp 2] fun d x=>d=ax l) ⟨az [(0,ax l)],fun _=>none,0⟩:=by
  refine aw ?_;refine aP ?_;refine ab (aO (bw [(1,l.map I,3)] eH (l:=[(2,ax l)]) ⟨?_,trivial⟩) (ay rfl rfl));show si _ [(1,l.map I,3)] (.rs 1 0 (0+l.length))=.sl (l.map I) l.length;rw[Nat.zero_add];exact j7 c3 (List.take_of_length_le oS)
 refine ws ?_;refine SS ?_;refine ab ?_;refine dE (fun s=>Ghost prog s ⟨az [(0,ax l)],fun _=>none,0⟩) (aj ?_) fun s hg=>⟨_,hg,last⟩
 cases l with
 |nil=>
  refine SS ?_;refine aH (adM rfl) ak V.h ?_;refine ab (aci rfl (aw ?_) (aZ (av eH)));refine SS ?_;exact ab (aO (xL (n0:=2) rfl) (aV (aT (ay rfl rfl))))
 |cons a l=>
  have C:(a::l).length≠0:=by simp
  refine SS ?_;refine aH (adN rfl C) ak V.h ?_;exact ab (aq rfl (fun h=>oH) fun h=>aZ (av eH))
theorem Az{x:bt}(hx:x.op=10\/x.op=38->x.args.length<=1000):PCall prog 140 [.agg (bl x)] (ax (cr x)):=by
 have U:∀ a∈[D.agg (bl x)],Tr a:=.cons (.agg (p8 x)) .nil;refine a9 mixed UI (by rw[ajb];rfl) U (cB _) ?_;rw[ajc,ajd];refine aw ?_;refine af ?_;refine ab (aO (bw [(0,bl x,66)] eH (l:=[(1,.pt (bl x))]) eH) (aC (aj ?_)));refine af ?_;refine ab (mN ?_);refine dE (fun s=>Ghost prog s ⟨az [(1,.pt (bl x)),(4,U8 x.op),(5,B (aN nN x.op))],fun _=>none,1⟩) (aj ?_) fun s hg=>⟨_,hg,?_⟩
 .refine af ?_;refine ab (aq rfl (fun h=>aZ ?_) fun e2=>aj ?_)
  .have h:x.op=2:=by simpa using h
   refine av ⟨rfl,rfl,?_,trivial⟩;show D.s (.bool (x.op==2))=_;rw[h];rfl
  refine af ?_;refine ab (aq rfl (fun h=>aZ ?_) fun e8=>aj ?_)
  .have h:x.op=8:=by simpa using h
   refine av ⟨rfl,rfl,?_,trivial⟩;show D.s (.bool (x.op==8))=_;rw[h];rfl
  refine af ?_;refine ab (aq rfl (fun h=>aZ ?_) fun zn=>aj ?_)
  .have h:x.op=11:=by simpa using h
   refine av ⟨rfl,rfl,?_,trivial⟩;show D.s (.bool (x.op==11))=_;rw[h];rfl
  refine af ?_;refine ab (aq rfl (fun h=>aZ ?_) fun X=>aj ?_)
  .have h:x.op=13:=by simpa using h
   refine av ⟨rfl,rfl,?_,trivial⟩;show D.s (.bool (x.op==13))=_;rw[h];rfl
  refine af ?_;refine ab (aq rfl (fun h=>aZ ?_) fun zo=>aj ?_)
  .have h:x.op=14:=by simpa using h
   refine av ⟨rfl,rfl,?_,trivial⟩;show D.s (.bool (x.op==14))=_;rw[h];rfl
  refine af ?_;refine ab (aq rfl (fun h=>aZ ?_) fun D5=>aj ?_)
  .have h:x.op=15:=by simpa using h
   refine av ⟨rfl,rfl,?_,trivial⟩;show D.s (.bool (x.op==15))=_;rw[h];rfl
  refine af ?_;refine ab (aq rfl (fun h=>aZ ?_) fun D6=>aj ?_)
  .have h:x.op=16:=by simpa using h
   refine av ⟨rfl,rfl,?_,trivial⟩;show D.s (.bool (x.op==16))=_;rw[h];rfl
  refine af ?_;refine ab (aq rfl (fun h=>aZ ?_) fun C=>kK ?_)
  .have h:x.op=18:=by simpa using h
   refine av ⟨rfl,rfl,?_,trivial⟩;show D.s (.bool (x.op==18))=_;rw[h];rfl
  refine af ?_;refine ab ?_;refine av ⟨rfl,rfl,?_,trivial⟩;show D.s (.bool (x.op==36))=_;simp[aN,nN,e2,e8,zn,X,zo,D5,D6,C]
 refine aq rfl (fun h1=>?_) fun h1=>?_
 .refine aw ?_;refine aP ?_;refine ab (aO (bw [(1,([x.a]).map I,3)] eH (l:=[(2,ax ([x.a]))]) ⟨j7 c3 rfl,trivial⟩) (aV (bx (aT (ay (d:=ax ([x.a])) rfl ?_)))));exact congrArg ax (by unfold cr;rw[if_pos h1])
 refine dE (fun s=>Ghost prog s ⟨az [(1,.pt (bl x)),(4,U8 x.op),(18,B (aN qX x.op))],fun _=>none,1⟩) (aj ?_) fun s hg=>⟨_,hg,?_⟩
 .refine af ?_;refine ab (aq rfl (fun h=>aZ ?_) fun e3=>aj ?_)
  .have h:x.op=3:=by simpa using h
   refine av ⟨rfl,rfl,?_,trivial⟩;show D.s (.bool (x.op==3))=_;rw[h];rfl
  refine af ?_;refine ab (aq rfl (fun h=>aZ ?_) fun e4=>aj ?_)
  .have h:x.op=4:=by simpa using h
   refine av ⟨rfl,rfl,?_,trivial⟩;show D.s (.bool (x.op==4))=_;rw[h];rfl
  refine af ?_;refine ab (aq rfl (fun h=>aZ ?_) fun e5=>aj ?_)
  .have h:x.op=5:=by simpa using h
   refine av ⟨rfl,rfl,?_,trivial⟩;show D.s (.bool (x.op==5))=_;rw[h];rfl
  refine af ?_;refine ab (aq rfl (fun h=>aZ ?_) fun e6=>aj ?_)
  .have h:x.op=6:=by simpa using h
   refine av ⟨rfl,rfl,?_,trivial⟩;show D.s (.bool (x.op==6))=_;rw[h];rfl
  refine af ?_;refine ab (aq rfl (fun h=>aZ ?_) fun e7=>aj ?_)
  .have h:x.op=7:=by simpa using h
   refine av ⟨rfl,rfl,?_,trivial⟩;show D.s (.bool (x.op==7))=_;rw[h];rfl
  refine af ?_;refine ab (aq rfl (fun h=>aZ ?_) fun J=>aj ?_)
  .have h:x.op=12:=by simpa using h
   refine av ⟨rfl,rfl,?_,trivial⟩;show D.s (.bool (x.op==12))=_;rw[h];rfl
  refine af ?_;refine ab (aq rfl (fun h=>aZ ?_) fun vI=>aj ?_)
  .have h:x.op=30:=by simpa using h
   refine av ⟨rfl,rfl,?_,trivial⟩;show D.s (.bool (x.op==30))=_;rw[h];rfl
  refine af ?_;refine ab (aq rfl (fun h=>aZ ?_) fun vJ=>aj ?_)
  .have h:x.op=31:=by simpa using h
   refine av ⟨rfl,rfl,?_,trivial⟩;show D.s (.bool (x.op==31))=_;rw[h];rfl
  refine af ?_;refine ab (aq rfl (fun h=>aZ ?_) fun vK=>aj ?_)
  .have h:x.op=32:=by simpa using h
   refine av ⟨rfl,rfl,?_,trivial⟩;show D.s (.bool (x.op==32))=_;rw[h];rfl
  refine af ?_;refine ab (aq rfl (fun h=>aZ ?_) fun vL=>aj ?_)
  .have h:x.op=33:=by simpa using h
   refine av ⟨rfl,rfl,?_,trivial⟩;show D.s (.bool (x.op==33))=_;rw[h];rfl
  refine af ?_;refine ab (aq rfl (fun h=>aZ ?_) fun zp=>aj ?_)
  .have h:x.op=34:=by simpa using h
   refine av ⟨rfl,rfl,?_,trivial⟩;show D.s (.bool (x.op==34))=_;rw[h];rfl
  refine af ?_;refine ab (aq rfl (fun h=>aZ ?_) fun M=>kK ?_)
  .have h:x.op=35:=by simpa using h
   refine av ⟨rfl,rfl,?_,trivial⟩;show D.s (.bool (x.op==35))=_;rw[h];rfl
  refine af ?_;refine ab ?_;refine av ⟨rfl,rfl,?_,trivial⟩;show D.s (.bool (x.op==37))=_;simp[aN,qX,e3,e4,e5,e6,e7,J,vI,vJ,vK,vL,zp,M]
 refine aq rfl (fun h2=>?_) fun h2=>?_
 .refine aw ?_;refine bD ?_;refine ab (aO (bw [(1,([x.a,x.b]).map I,3)] eH (l:=[(2,ax ([x.a,x.b]))]) ⟨j7 c3 rfl,trivial⟩) (aV (bx (aT (ay (d:=ax ([x.a,x.b])) rfl ?_)))));exact congrArg ax (by unfold cr;rw[if_neg (by simp[h1]),if_pos h2])
 refine ws ?_;refine af ?_;refine ab (aq rfl (fun h3=>?_) fun h3=>?_)
 .have h3:x.op=10:=by simpa using h3
  have AQ:=AQ (l:=x.args) (by have:=hx (.inl h3);omega);refine ws ?_;refine af ?_;refine cl AQ ?_;refine SS ?_;refine ab (aV (bx (aT (ay (d:=ax x.args) rfl ?_))));exact congrArg ax (by unfold cr;rw[if_neg (by simp[h1]),if_neg (by simp[h2]),if_pos h3])
 have h3:¬ x.op=10:=by simpa using h3
 refine ws ?_;refine af ?_;refine ab (aq rfl (fun h4=>?_) fun h4=>?_)
 .have h4:x.op=38:=by simpa using h4
  have hl:=hx (.inr h4);have rT:(x.args.map I).take (x.args.length*1)=x.args.map I:=List.take_of_length_le oS;refine aw ?_;refine aL ?_;refine ab (aO (bw [(2,(x.a::x.b::x.args).map I,3)] eH (l:=[(2,ax (x.a::x.b::x.args))]) ⟨?_,trivial⟩) (aV (bx (aT (ay (d:=ax (x.a::x.b::x.args)) rfl ?_)))))
  .show si _ [(2,_,3)] (.rs 2 0 (2+x.args.length))=_;refine(j7 c3 (es:=(x.a::x.b::x.args).map I) (List.take_of_length_le oP)).trans ?_;rw[Nat.add_comm];rfl
  .exact congrArg ax (by unfold cr;rw[if_neg (by simp[h1]),if_neg (by simp[h2]),if_neg h3,if_pos h4])
 have h4:¬ x.op=38:=by simpa using h4
 refine mn (aw ?_);refine SS ?_;refine ab (aO (xL (n0:=2) rfl) (ay (d:=ax []) rfl ?_));exact congrArg ax (by unfold cr;rw[if_neg (by simp[h1]),if_neg (by simp[h2]),if_neg h3,if_neg h4])
theorem Kk{x:Argus.End}(hx:x.kind=5->x.ins.op=10\/x.ins.op=38->x.ins.args.length<=1000)(hy:x.kind=6\/x.kind=7->x.args.length<=1000):PCall prog 137 [.agg (bc x)] (ax (cn x)):=by
 have C:∀ a∈[D.agg (bc x)],Tr a:=.cons (.agg (kH x)) .nil;refine a9 mixed UJ (by rw[aje];rfl) C (cB _) ?_;rw[ajf,ajg];refine aw ?_;refine af ?_;refine ab (aO (bw [(0,bc x,69)] eH (l:=[(1,.pt (bc x))]) eH) (aC (aj ?_)));refine af ?_;refine ab (mN ?_);refine dE (fun s=>Ghost prog s ⟨az [(1,.pt (bc x)),(4,U8 x.kind),(5,B (aN [2,8,9] x.kind))],fun _=>none,1⟩) (aj ?_) fun s hg=>⟨_,hg,?_⟩
 .refine af ?_;refine ab (aq rfl (fun h=>aZ ?_) fun e2=>aj ?_)
  .have h:x.kind=2:=by simpa using h
   refine av ⟨rfl,rfl,?_,trivial⟩;show D.s (.bool (x.kind==2))=_;rw[h];rfl
  refine af ?_;refine ab (aq rfl (fun h=>aZ ?_) fun e8=>kK ?_)
  .have h:x.kind=8:=by simpa using h
   refine av ⟨rfl,rfl,?_,trivial⟩;show D.s (.bool (x.kind==8))=_;rw[h];rfl
  refine af ?_;refine ab ?_;refine av ⟨rfl,rfl,?_,trivial⟩;show D.s (.bool (x.kind==9))=_;simp[aN,e2,e8]
 refine aq rfl (fun h1=>?_) fun h1=>?_
 .refine aw ?_;refine aP ?_;refine ab (aO (bw [(1,([x.a]).map I,3)] eH (l:=[(2,ax ([x.a]))]) ⟨j7 c3 rfl,trivial⟩) (aV (bx (aT (ay (d:=ax ([x.a])) rfl ?_)))));exact congrArg ax (by unfold cn;rw[if_pos h1])
 refine ws ?_;refine af ?_;refine ab (aq rfl (fun h2=>?_) fun h2=>?_)
 .have h2:x.kind=3:=by simpa using h2
  refine ws ?_;refine au ?_;refine ab (aq rfl (fun h3=>?_) fun h3=>?_)
  .have h3:¬ x.a= -1:=by simpa[bne,ib] using h3
   refine aw ?_;refine aP ?_;refine ab (aO (bw [(1,([x.a]).map I,3)] eH (l:=[(2,ax ([x.a]))]) ⟨j7 c3 rfl,trivial⟩) (aV (bx (aT (ay (d:=ax ([x.a])) rfl ?_)))));exact congrArg ax (by unfold cn;rw[if_neg (by simp[h1]),if_pos h2,if_pos h3])
  .have h3:x.a= -1:=by simpa[bne,ib] using h3
   refine mn (aw ?_);refine SS ?_;refine ab (aO (xL (n0:=2) rfl) (ay (d:=ax []) rfl ?_));exact congrArg ax (by unfold cn;rw[if_neg (by simp[h1]),if_pos h2,if_neg (by simp[h3])])
 have h2:¬ x.kind=3:=by simpa using h2
 refine ws ?_;refine af ?_;refine ab (aq rfl (fun h3=>?_) fun h3=>?_)
 .have h3:x.kind=5:=by simpa using h3
  have Az:=Az (x:=x.ins) (hx h3);refine ws ?_;refine af ?_;refine cl Az ?_;refine SS ?_;refine ab (aV (bx (aT (ay (d:=ax (cr x.ins)) rfl ?_))));exact congrArg ax (by unfold cn;rw[if_neg (by simp[h1]),if_neg h2,if_pos h3])
 have h3:¬ x.kind=5:=by simpa using h3
 refine dE (fun s=>Ghost prog s ⟨az [(1,.pt (bc x)),(4,U8 x.kind),(25,B (aN [6,7] x.kind))],fun _=>none,1⟩) (aj ?_) fun s hg=>⟨_,hg,?_⟩
 .refine af ?_;refine ab (aq rfl (fun h=>aZ ?_) fun e6=>kK ?_)
  .have h:x.kind=6:=by simpa using h
   refine av ⟨rfl,rfl,?_,trivial⟩;show D.s (.bool (x.kind==6))=_;rw[h];rfl
  refine af ?_;refine ab ?_;refine av ⟨rfl,rfl,?_,trivial⟩;show D.s (.bool (x.kind==7))=_;simp[aN,e6]
 refine aq rfl (fun h4=>?_) fun h4=>?_
 .have h5:x.kind=6\/x.kind=7:=by simpa[aN] using h4
  have AQ:=AQ (l:=x.args) (by have:=hy h5;omega);refine ws ?_;refine af ?_;refine cl AQ ?_;refine SS ?_;refine ab (aV (bx (aT (ay (d:=ax x.args) rfl ?_))));exact congrArg ax (by unfold cn;rw[if_neg (by simp[h1]),if_neg h2,if_neg h3,if_pos h4])
 refine mn (aw ?_);refine SS ?_;refine ab (aO (xL (n0:=2) rfl) (ay (d:=ax []) rfl ?_));exact congrArg ax (by unfold cn;rw[if_neg (by simp[h1]),if_neg h2,if_neg h3,if_neg (by simp[h4])])
noncomputable def Lf:Ctx:=⟨fun f=>CQ.get f,fun _ _ _=>none,fun _ _=>none⟩
theorem lA:Lf.Ok prog:=⟨mixed,I1,fun _ _ _ _ h=>oH,fun _ _ _ h=>oH⟩
theorem BE{off:Nat}{vs cs:List D}(hv:vs.length=20)(hl:off+20<=cs.length)(C:vs.all D.one=true):tyOk prog 231=true/\vs.length=prog.cellsOf 231/\off+prog.cellsOf 231<=cs.length/\vs.all D.one=true:=by
 rw[rU];exact⟨t231,hv,hl,C⟩
theorem kT{w:List Int}{m:Nat}(J:w.length=20)(hm:m<1280):PCall prog 200 [gk w,I m] (B (lR w m)):=by
 have C:∀ a∈[gk w,I m],Tr a:=.cons (qw _) (.cons (.s _) .nil);have hi:w[m / 64]? =some w[m / 64]:=List.getElem?_eq_getElem oG;have hg:w.getD (m / 64) 0=w[m / 64]:=by simp[List.getD_eq_getElem?_getD,hi]
 have F1:=Tb (m:=m) oG;have Va:=Tc m;have kd:=fu (f:=cz) hi;refine a9 mixed Td (by rw[aeM];rfl) C (Tr.s _) ?_;rw[aeN,aeO];refine ws ?_;refine af ?_;refine er ?_;refine aK ?_;refine Vb ?_;refine aH (ad' rfl rfl) ak oG ?_;refine Vc ?_;refine af ?_;refine ab (ay (d:=.s (.bool _)) rfl ?_);unfold lR;rw[hg];rfl
theorem qx{w:List Int}{n:Int}(J:w.length=20)(hn: -1000000<=n/\n<1280):PCall prog 242 [gk w,I n] (gk (gu w n)):=by
 have C:∀ a∈[gk w,I n],Tr a:=.cons (qw _) (.cons (.s _) .nil);refine a9 mixed Te (by rw[aeP];rfl) C (qw _) ?_;rw[aeQ,aeR];refine ws ?_;refine af ?_;refine ab (aC (aj ?_));by_cases h0:0<=n
 .obtain⟨m,rfl⟩:=Int.eq_ofNat_of_zero_le h0;have hm:m<1280:=by omega
  have hi:w[m / 64]? =some w[m / 64]:=List.getElem?_eq_getElem oG;have hg:w.getD (m / 64) 0=w[m / 64]:=by simp[List.getD_eq_getElem?_getD,hi]
  have F1:=Tb (m:=m) oG;have Va:=Tc m;have kd:=fu (f:=cz) hi;have wF:decide (0<=(m:Int))=true:=by simp
  refine af ?_;refine ab (bh rfl (fun _=>dm ZG ?_) fun h=>oH);refine aK ?_;refine Vb ?_;refine aln ?_;refine alo ?_;refine af ?_;refine bk (by simp[apartT]) (aj ?_);refine af ?_;refine ab (mj (mL rfl rfl uY rU (mw (by first|rfl|simp;omega)) t231 oP) ?_);simp only[gu,h0,if_true,Int.toNat_natCast,wo,hg,gk,List.map_set];rfl
 .have wF:decide (0<=n)=false:=by simpa using h0
  refine af ?_;refine ab (bh rfl (fun h=>oH) fun _=>bS (aj ?_));refine af ?_;refine ab (mj (mL rfl rfl uY rU (mw oP) t231 oP) ?_);simp only[gu,h0,if_false]
theorem F4{w v:List Int}(M:w.length=20)(hv:v.length=20):PCall prog 243 [gk w,gk v] (gk (gv w v)):=by
 have X:∀ a∈[gk w,gk v],Tr a:=.cons (qw _) (.cons (qw _) .nil);refine a9 mixed Tf (by rw[aeS];rfl) X (qw _) ?_;rw[aeT,aeU];refine ws ?_;refine au ?_;refine ab (aC (aw ?_));refine SS ?_
 refine ab (bO (fun s=>Ghost prog s ⟨az [(2,.rp 0 0),(3,.rp 1 0),(4,.rp 2 0)],aY [(0,.cells ((gv w v).map cz) 231),(1,.cells (v.map cz) 231),(2,.cells (List.replicate 20 (cz 0)) 231)],3⟩) (dK (α:=Nat)
  (fun k=>⟨az [(2,.rp 0 0),(3,.rp 1 0),(4,.rp 2 0),(6,I k)],aY [(0,.cells ((eJ w v k).map cz) 231),(1,.cells (v.map cz) 231),(2,.cells (List.replicate 20 (cz 0)) 231)],3⟩)
  (fun k=>k<=20) (fun k=>20 - k) 0 (aE eH eH) oG ?_) ?_)
 .intro k hk;refine SS ?_;refine ab ⟨_,rfl,fun h=>?_,fun h=>?_⟩
  .have ao:k<20:=by have h:(k:Int)<20:=by simpa using h
                    omega
   have r9:(eJ w v k).length=20:=by simp[M]
   have hi:(eJ w v k)[k]? =some (eJ w v k)[k]:=List.getElem?_eq_getElem oG;have hj:v[k]? =some v[k]:=List.getElem?_eq_getElem oG;have hg:(eJ w v k).getD k 0=(eJ w v k)[k]:=by simp[List.getD_eq_getElem?_getD,hi]
   have C:v.getD k 0=v[k]:=by simp[List.getD_eq_getElem?_getD,hj]
   have kd:=fu (f:=cz) hi;have U:=fu (f:=cz) hj;refine ws ?_;refine af ?_;refine ab (nL ZH ?_);refine aK ?_;refine aH (iI rfl rfl U V.h) ak (iJ V.h V.h U) ?_;refine Vc ?_;refine af ?_;refine bk (by simp[apartT]) ?_;refine af ?_;refine ab (aJ (k+1) (aE eH ⟨?_,rfl,rfl,trivial⟩) oG oG);rw[up_same];simp only[eJ,hg,C,List.map_set];rfl
  .have aX:¬ k<20:=by intro hh;simp at h;omega
   have:k=20:=by omega
   subst this;exact .forget _ _ _ _ fun t=>oB (l:=[(2,.rp 0 0),(3,.rp 1 0),(4,.rp 2 0)]) ⟨rfl,rfl,rfl,trivial⟩ t
 .intro s hg;have J:(gv w v).length=20:=by simp[M]
  generalize gv w v=u at hg J ⊢;refine⟨_,hg,aj ?_⟩;refine af ?_;refine ab (mj (mL rfl rfl uY rU (mw oP) t231 oP) ?_);rfl
def alp:Int:=18446744073709551615
theorem Kc:PCall prog 241 [] (gk (List.replicate 20 alp)):=by
 exact jW lA 100 rfl kr
theorem CR{w:List Int}{x:bt}(C:w.length=20)(hn:x.op=18->0<=x.n/\x.n<80)(ht:x.op≠18-> -1000000<=cZ x/\cZ x<1280):PCall prog 245 [gk w,.agg (bl x)] (gk (gu w (if x.op=18 then jV x.n else cZ x))):=by
 have J:∀ a∈[gk w,.agg (bl x)],Tr a:=.cons (qw _) (.cons (.agg (p8 x)) .nil);refine a9 mixed Tg (by rw[aeV];rfl) J (qw _) ?_;rw[aeW,aeX];refine ws ?_;refine au ?_;refine ab (aC (aj ?_));refine au ?_;refine ab (bh rfl (fun h=>?_) fun h=>bS (dm ZI ?_))
 .have h:x.op=18:=by simpa using h
  have hx:=hn h;have uZ:=uZ (n:=x.n) oG;have qx:=qx (w:=w) (n:=jV x.n) C (by unfold jV;omega);refine aC (dm ZJ ?_);refine au ?_;refine cl uZ ?_;refine cl qx ?_;refine SS ?_;refine bk (by simp[apartT]) (cU (mj (mL rfl rfl uY rU (mw oP) t231 oP) ?_));simp[h]
 .have h:x.op≠18:=by simpa using h
  have Ay:=Ay (x:=x);have qx:=qx (w:=w) (n:=cZ x) C (ht h);refine SS ?_;refine aH (dU (vs:=bl _) rfl rfl V.h V.h rfl) ak (dV V.h V.h (by first|(simp;done)|omega|exact Nat.le_of_ble_eq_true rfl)) ?_;refine cl Ay ?_;refine cl qx ?_;refine SS ?_;refine bk (by simp[apartT]) (mj (mL rfl rfl uY rU (mw oP) t231 oP) ?_);simp[h]
end Go.Proofs.Tryz.K
namespace Go.Argus
def gD(x:End):Bool:=decide (0<=x.cx)&&aN [5,6,8] x.kind
def cM(x:End):List Int:=if aN [3,4] x.kind then [] else x.to::((if aN [2,8] x.kind then [x.fm] else [])++(x.aI.map (·.to)++(if gD x then [x.cx] else [])))
def pJ(x:End):Nat:=if aN [2,8] x.kind then 2 else 1
theorem aa4{x:End}(h:aN [3,4] x.kind=false):(cM x)[0]? =some x.to/\(aN [2,8] x.kind=true->(cM x)[1]? =some x.fm)/\(∀ (j:Nat) w,x.aI[j]? =some w->(cM x)[pJ x+j]? =some w.to)/\
 (gD x=true->(cM x)[pJ x+x.aI.length]? =some x.cx)/\(cM x).length=pJ x+x.aI.length+(if gD x then 1 else 0):=by
 unfold cM pJ;generalize gD x=c;rw[if_neg (by simp[h])];cases h2:aN [2,8] x.kind with
 |true=>
  refine⟨rfl,fun _=>rfl,fun j w hj=>?_,fun hc=>?_,?_⟩
  .have:j<x.aI.length:=(List.getElem?_eq_some_iff.1 hj).1;simp only[if_true,List.singleton_append];rw[show 2+j=j+1+1 by omega,List.getElem?_cons_succ,List.getElem?_cons_succ,List.getElem?_append_left (by simpa using this)];simp[hj]
  .simp only[if_true,List.singleton_append];rw[show 2+x.aI.length=x.aI.length+1+1 by omega,List.getElem?_cons_succ,List.getElem?_cons_succ,List.getElem?_append_right oS];rw[if_pos hc];simp
  .cases c<;>simp<;>omega
 |false=>
  refine⟨rfl,fun h=>oH,fun j w hj=>?_,fun hc=>?_,?_⟩
  .have:j<x.aI.length:=(List.getElem?_eq_some_iff.1 hj).1;simp only[Bool.false_eq_true,if_false,List.nil_append];rw[show 1+j=j+1 by omega,List.getElem?_cons_succ,List.getElem?_append_left (by simpa using this)];simp[hj]
  .simp only[Bool.false_eq_true,if_false,List.nil_append];rw[show 1+x.aI.length=x.aI.length+1 by omega,List.getElem?_cons_succ,List.getElem?_append_right oS];rw[if_pos hc];simp
  .cases c<;>simp<;>omega
def z8(x:End)(b:Int):Bool:=aQ x.to b&&aQ ((cM x).count b:Nat) 1
theorem IB(x:End):(cM x).length<=x.aI.length+3:=by
 unfold cM;split
 .simp
 .simp only[List.length_cons,List.length_append,List.length_map];split<;>split<;>simp<;>omega
end Go.Argus
namespace Go.Abs
theorem fe{P:Program}{Y:YSpec}{rf:Bool}{Q:Exit->St->Prop}{st:St}[dG Y]{ops:Array Oper}{i:Nat}(h:AOps P Y ops false [] (fK (Q .normal)) ops.toList st []):AW P Y rf (.region i ops false) Q st:=sR (rf:=rf) (id:=i) (AOps.kQ h fun _ h=>h)
section
variable{P:Program}{env:Env}{m:Mem}{nx:Nat}{x y:Operand}{t p:TypeId}{k:IntKind}{n n':Int}
theorem Rc(hx:(opd env x).core=.s (.int .i64 n))(hy:(opd env y).core=.s (.int .i64 n')){r:Int}(hd:n - n'=r/\ -9223372036854775808<=r/\r<=9223372036854775807):Ef P (.binOp .sub t x y p) env m nx ⟨IntKind.i64=IntKind.i64,.s (.int .i64 r),[],[],0⟩:=by
 obtain⟨rfl,h⟩:=hd;exact Jr hx hy h
theorem nM{j i l:Nat}{e:TypeId}{r:Row}(hx:(opd env x).core=.rs j 0 l)(hy:(opd env y).core=.s (.int k (i:Int)))(hm:m j=some r)(he:elemP P t=e)(C:P.cellsOf e=1):
 Ef P (.indexAddr t x y) env m nx ⟨slT P t=true/\i<l,.rp j i,[],[j],0⟩:=by
 have h:=IV (P:=P) (env:=env) (m:=m) (nx:=nx) (t:=t) hx hy hm he C;have h1:0+((i:Int)).toNat*1=i:=by simp
 have h2:(slT P t=true/\(0:Int)<=(i:Int)/\(i:Int)<l)=(slT P t=true/\i<l):=by
  apply propext;constructor
  .rintro⟨a,_,b⟩;exact⟨a,by omega⟩
  .rintro⟨a,b⟩;exact⟨a,by omega,by omega⟩
 rw[h1,h2] at h;exact h
theorem lH{α:Type}(f:Nat->α)(i:Nat)(a b:α):up (up f i a) i b=up f i b:=by
 funext j;simp only[up];split<;>rfl
variable{Y:YSpec}{rf:Bool}{Q:Exit->St->Prop}{st:St}{id gm i1 i3:Nat}{rc ri:Array Oper}{body:Code}{α:Type}{cf:List (Nat×Nat)}{u:Nat}
theorem adp[dG Y](hi:drawInfo rc=some cf)(S:α->St)(J:α->Prop)(μ:α->Nat)(C:α)(hg:Ghost P st (S C))(M:J C)
 (h:∀ x,J x->AOps P Y rc true cf (fK fun s=>∃ g,opd s.env (.tmp u)=.s (.bool g)/\(g=true->AW P Y rf body (mv gm id (fun s=>AOps P Y ri false [] (fK (uL P S J μ x)) ri.toList s []) Q) s)/\(g=false->Q .normal s)) rc.toList (S x) []):
 ∃ st',Ghost P st st'/\AW P Y rf (.block id (.loop (.seq (.seq (.region i1 rc true) (.cond (.tmp u) .skip (.exit id))) (.seq (.block gm body) (.region i3 ri false))))) Q st':=by
 refine E1 (Q:=blockQ id Q) S J μ C hg M (fun x hx=>?_) (a:=.skip) fun _ h=>h;refine aC (z7 (rf:=rf) (id:=i1) hi (AOps.kQ (h x hx) fun s U=>?_));obtain⟨g,h1,h2,h3⟩:=U;refine⟨s,.refl s,bh h1 (fun X=>?_) fun vt=>?_⟩
 .exact bS (Ix (h2 X))
 .refine kF ?_;simp only[seqQ,blockQ,if_true];exact h3 vt
theorem jC{l:List (Nat×D)}{m':Mem}(h:lz l env)(hm:m=m'):Ghost P ⟨env,m,nx⟩ ⟨az l,m',nx⟩:=hm▸av h
end
end Go.Abs
namespace Go.Proofs.Tryz.K
set_option maxRecDepth 10000
theorem u6{x:Argus.End}:PCall prog 156 [.agg (bc x)] (.fn (.func 202) [] [.pt (bc x)]):=by
 have C:∀ a∈[D.agg (bc x)],Tr a:=.cons (.agg (kH x)) .nil;refine a9 mixed Th (by rw[ae1];rfl) C (.fn oS (.cons (.pt (kH x)) .nil)) ?_;rw[ae2,ae3];refine aw ?_;refine SS ?_;refine aH (mP (v:=.s .nilFunc) rfl) ak trivial ?_;refine ab (aO (bw [(0,bc x,69)] eH (l:=[(1,.pt (bc x))]) eH) (aj ?_));refine SS ?_;refine alu ?_;exact ab (ay rfl rfl)
def Lh(l:Nat)(x:Argus.End)(C:Nat->Mem->Nat->Prop)(n:Nat)(s:St):Prop:=∃ m nx,Ghost prog s ⟨az [(0,.fn (.yield l) [] []),(1,.pt (bc x))],m,nx⟩/\C n m nx
theorem Ve{x:Argus.End}(hlen:x.aI.length<=100000):SeqA prog 202 [] [.pt (bc x)] ((cM x).map fun n=>[I n]):=by
 refine IX mixed Ti (by rw[ae4];rfl) fun l U Stop m nx hI FC h0=>?_;rw[ae5,ae6];by_cases C:aN [3,4] x.kind=true
 .have jM:((cM x).map fun n=>[I n]).length=0:=by simp[cM,C]
  rw[jM];by_cases h3:x.kind=3
  .have fh:(x.kind==3)=true:=by simpa using h3
   refine aC (aj ?_);refine aP ?_;(iterate 3 refine z fun _ _=>?_);refine af ?_;(iterate 5 refine z fun _ _=>?_);refine SS ?_;refine ab (bh rfl (fun h=>Q4 (aV (aT (qf (.inl h0))))) fun h=>oH)
  .have h4:x.kind=4:=by simpa[aN,h3] using C
   have fh:(x.kind==3)=false:=by simpa using h3
   have FL:(x.kind==4)=true:=by simpa using h4
   refine aC (aj ?_);refine aL ?_;(iterate 5 refine z fun _ _=>?_);refine SS ?_;refine ab (bh rfl (fun h=>Q4 (aV (aT (qf (.inl h0))))) fun h=>oH)
 have C:aN [3,4] x.kind=false:=by simpa using C
 obtain⟨x0,x1,xw,xo,xl⟩:=aa4 C;have J:∀ {k:Nat} {n:Int},(cM x)[k]? =some n->((cM x).map fun n=>[I n])[k]? =some [I n]:=fun h=>by simp[h]
 have nU:((cM x).map fun n=>[I n]).length=pJ x+x.aI.length+(if gD x then 1 else 0):=by simpa using xl
 have qJ:x.kind≠3/\x.kind≠4:=by simpa[aN] using C
 refine dE (Lh l x U 1) ?_ fun s M=>?_
 .have fh:(x.kind==3)=false:=by simpa using qJ.1
  have FL:(x.kind==4)=false:=by simpa using qJ.2
  refine ws ?_;refine aL ?_;refine au ?_;refine FJ rfl rfl rfl rfl (by repeat' (first|exact trivial|exact rfl|refine And.intro ?_ ?_)) ⟨rfl,0,J x0,h0,fun d m' nx' hp=>?_⟩;rcases hp with⟨rfl,hp⟩|⟨rfl,hp⟩
  .refine af ?_;exact ab (aq rfl (fun h=>oH) fun h=>aZ ⟨m',nx',av eH,hp⟩)
  .refine af ?_;exact ab (aq rfl (fun h=>aV (aT (qf (.inr hp)))) fun h=>oH)
 obtain⟨m1,WM,hg,h1⟩:=M;refine⟨_,hg,?_⟩;clear hg h0;refine dE (Lh l x U (pJ x)) ?_ fun s M=>?_
 .have yes:aN [2,8] x.kind=true->(cM x)[1]? =some x.fm/\pJ x=2:=fun h=>⟨x1 h,by simp[pJ,h]⟩
  by_cases h2:x.kind=2
  .obtain⟨y1,y2⟩:=yes (by rw[h2];rfl);have fh:(x.kind==2)=true:=by simpa using h2
   refine ws ?_;refine aP ?_;(iterate 3 refine z fun _ _=>?_);refine aK ?_;refine FJ rfl rfl rfl rfl (by repeat' (first|exact trivial|exact rfl|refine And.intro ?_ ?_)) ⟨rfl,1,J y1,h1,fun d m' nx' hp=>?_⟩;rcases hp with⟨rfl,hp⟩|⟨rfl,hp⟩
   .refine af ?_;exact ab (aq rfl (fun h=>oH) fun h=>aZ ⟨m',nx',av eH,y2▸hp⟩)
   .refine af ?_;exact ab (aq rfl (fun h=>aV (aT (qf (.inr hp)))) fun h=>oH)
  .have fh:(x.kind==2)=false:=by simpa using h2
   by_cases X:x.kind=8
   .obtain⟨y1,y2⟩:=yes (by rw[X];rfl);have FL:(x.kind==8)=true:=by simpa using X
    refine ws ?_;refine aL ?_;refine au ?_;refine FJ rfl rfl rfl rfl (by repeat' (first|exact trivial|exact rfl|refine And.intro ?_ ?_)) ⟨rfl,1,J y1,h1,fun d m' nx' hp=>?_⟩;rcases hp with⟨rfl,hp⟩|⟨rfl,hp⟩
    .refine af ?_;exact ab (aq rfl (fun h=>oH) fun h=>aZ ⟨m',nx',av eH,y2▸hp⟩)
    .refine af ?_;exact ab (aq rfl (fun h=>aV (aT (qf (.inr hp)))) fun h=>oH)
   .have FL:(x.kind==8)=false:=by simpa using X
    have hb:pJ x=1:=by simp[pJ,aN,h2,X]
    refine ws ?_;refine aL ?_;(iterate 5 refine z fun _ _=>?_);refine SS ?_;exact ab (aq rfl (fun h=>oH) fun h=>aZ ⟨m1,WM,av eH,hb▸h1⟩)
 obtain⟨m2,jx,hg,h2⟩:=M;refine⟨_,hg,?_⟩;clear hg;refine dE (Lh l x U (pJ x+x.aI.length)) (aw ?_) fun s M=>?_
 .refine aP ?_
  refine ab (dK (α:=Nat×Mem×Nat) (fun k=>⟨az [(0,.fn (.yield l) [] []),(1,.pt (bc x)),(36,oA x.aI),(37,I x.aI.length),(38,I k.1)],k.2.1,k.2.2⟩)
   (fun k=>k.1<=x.aI.length/\U (pJ x+k.1) k.2.1 k.2.2) (fun k=>x.aI.length - k.1) (0,m2,jx) (av eH) ⟨by omega,h2⟩ ?_)
  rintro⟨k,m3,WY⟩ ⟨hk,pB⟩;refine SS ?_;refine ab ⟨_,rfl,fun h=>?_,fun h=>?_⟩
  .have ao:k<x.aI.length:=by simpa using h
   have hx:x.aI[k]? =some x.aI[k]:=by simp[ao]
   generalize x.aI[k]=w at hx;refine ws ?_;refine aP ?_;refine er ?_;refine af ?_;refine Vf ?_;refine J8 rfl rfl (by repeat' (first|exact trivial|exact rfl|refine And.intro ?_ ?_)) ⟨rfl,pJ x+k,J (xw k w hx),hI _ _ _ _ _ pB oG (fun i hi=>ap oG (ap oG rfl)),fun d m' nx' hp=>?_⟩;rcases hp with⟨rfl,hp⟩|⟨rfl,hp⟩
   .refine SS ?_;refine ab (aq rfl (fun h=>oH) fun h=>cg ?_);refine af ?_;exact ab (aJ (k+1,m',nx') (av eH) ⟨by simp only;omega,hp⟩ (by simp only;omega))
   .refine SS ?_;exact ab (aq rfl (fun h=>aV (cq (aT (qf (.inr hp))))) fun h=>oH)
  .have aX:¬ k<x.aI.length:=by simpa using h
   have:k=x.aI.length:=by simp only at hk;omega
   subst this;exact⟨m3,WY,.forget _ _ _ _ fun t=>oB (l:=[(0,.fn (.yield l) [] []),(1,.pt (bc x))]) ⟨rfl,rfl,trivial⟩ t,pB⟩
 obtain⟨m3,WY,hg,h3⟩:=M;refine⟨_,hg,aj ?_⟩;refine aL ?_;refine aL ?_;refine ab (aq rfl (fun h=>?_) fun h=>?_)
 .have hc:gD x=true:=by
   revert h;unfold gD aN;simp[ib,or_assoc]
  refine fe ?_;refine au ?_;refine J8 rfl rfl (by repeat' (first|exact trivial|exact rfl|refine And.intro ?_ ?_)) ⟨rfl,_,J (xo hc),h3,fun d m' nx' hp=>?_⟩;refine ab (qg ?_);rcases hp with⟨rfl,hp⟩|⟨rfl,hp⟩
  .left;rw[nU,if_pos hc];exact hp
  .exact .inr hp
 .have hc:gD x=false:=by
   revert h;unfold gD aN;simp[ib,and_assoc]
  refine cg (qg (.inl ?_));rw[nU,hc];exact h3
theorem Kd{x:Argus.End}{b:Int}(hlen:x.aI.length<=1000):PCall prog 246 [.agg (bc x),I b] (B (z8 x b)):=by
 have J:∀ a∈[D.agg (bc x),I b],Tr a:=.cons (.agg (kH x)) (.cons (.s _) .nil);have u6:=u6 (x:=x);have hl:=IB x;refine a9 mixed Tj (by rw[ae7];rfl) J (Tr.s _) ?_;rw[ae8,ae9];refine aw ?_;refine au ?_;refine ab (aO (bw [(0,bc x,69),(1,[I b],3)] eH (l:=[(2,.pt (bc x)),(3,.pt [I b])]) eH) (aj ?_));refine af ?_;refine ab ?_;refine dE (fun s=>∃ n',Ghost prog s ⟨az [(2,.pt (bc x)),(3,.pt [I b]),(5,.rp 2 0)],aY [(2,.cells [I ((cM x).count b:Nat)] 3)],n'⟩) (aj ?_) fun s U=>?_
 .refine SS ?_;refine cl u6 ?_;refine ab (ja ?_);refine⟨rfl,trivial,202,[],[.pt (bc x)],(cM x).map (fun n=>[I n]),fun k m nx=>m 2=some (.cells [I (((cM x).take k).count b:Nat)] 3)/\3<=nx,rfl,Ve oG,?_,⟨rfl,by simp⟩,?_,?_⟩
  .intro y hy;obtain⟨n,_,rfl⟩:=List.mem_map.1 hy;exact⟨rfl,.cons (.s _) .nil⟩
  .rintro k m nx y hy ⟨aA,M⟩;simp only[List.getElem?_map,Option.map_eq_some_iff] at hy;obtain⟨n,hn,rfl⟩:=hy;have hk:k<(cM x).length:=(List.getElem?_eq_some_iff.1 hn).1
   have hc:((cM x).take (k+1)).count b=((cM x).take k).count b+(if n=b then 1 else 0):=by
    rw[List.take_add_one,hn,List.count_append];by_cases e:n=b
    .subst e;simp
    .simp[e]
   have C:((cM x).take k).count b<=k:=Nat.le_trans List.count_le_length oP;generalize ((cM x).take k).count b=c at aA hc C;refine fe ?_;refine SS ?_;refine ab (show AW _ _ _ _ _ _ from ja (aj ?_));refine au ?_;refine ab (aq rfl (fun h=>?_) fun h=>?_)
   .have h:n=b:=by simpa using h
    refine fe ?_;refine af ?_;refine b9 (eS (d:=.s (.int _ _)) (cs':=[_]) rfl rfl aA rfl rfl) ak (cP V.h V.h (by first|(simp;done)|exact⟨rfl,Nat.le_of_ble_eq_true rfl⟩|(simp;omega)) rfl) ?_;refine ab ?_;refine⟨?_,by dsimp only;omega⟩;dsimp only;refine(up_same _ _ _).trans ?_;rw[hc,if_pos h];simp
   .have h:¬ n=b:=by simpa using h
    exact cg ⟨by rw[hc,if_neg h];exact aA,M⟩
  .rintro m nx ⟨h1,h2⟩;refine⟨nx,aE eH ⟨?_,trivial⟩⟩;rw[h1,List.length_map,List.take_length]
 obtain⟨n',hg⟩:=U;refine⟨_,hg,aj ?_⟩;refine aL ?_;refine ab (ay (d:=.s (.bool _)) rfl ?_);simp[z8,aQ,ib]
theorem Ke{f:FuncId}{cs:List D}{xs:List Int}(M:SeqA prog f [] cs (xs.map fun n=>[I n]))(ht:Tr (.fn (.func f) [] cs))(hlen:xs.length<=100000):OCall prog 258 [.z,.fn (.func f) [] cs] (xs.map I) xs.length 3:=by
 have aW:∀ a∈[D.z,.fn (.func f) [] cs],Tr a:=.cons .z (.cons ht .nil);refine uu mixed Tk (by rw[ae'];rfl) aW (.map fun _=>.s _) ?_;rw[afa,afb];refine ws ?_;refine fX (Fk (d:=.z) rfl rfl) ak rfl ?_;refine SS ?_;refine ab ?_;refine dE (fun s=>(xs=[]/\∃ n',Ghost prog s ⟨az [(2,.rp 0 0)],aY [(0,.cells [.z] 27)],n'⟩)\/∃ r n',0<r/\Ghost prog s ⟨az [(2,.rp 0 0)],aY [(0,.cells [.rs r 0 xs.length] 27),(r,.cells (xs.map I) 3)],n'⟩) (aj ?_) fun s M=>?_
 .refine SS ?_;refine ab (ja ?_);refine⟨rfl,trivial,f,[],cs,xs.map (fun n=>[I n]),fun k m nx=>1<=nx/\((k=0/\m 0=some (.cells [.z] 27))\/(0<k/\∃ r,0<r/\r<nx/\m 0=some (.cells [.rs r 0 k] 27)/\m r=some (.cells ((xs.take k).map I) 3))),rfl,M,?_,⟨by simp,.inl ⟨rfl,rfl⟩⟩,?_,?_⟩
  .intro y hy;obtain⟨n,_,rfl⟩:=List.mem_map.1 hy;exact⟨rfl,.cons (.s _) .nil⟩
  .rintro k m nx y hy ⟨dM,C⟩;simp only[List.getElem?_map,Option.map_eq_some_iff] at hy;obtain⟨n,hn,rfl⟩:=hy;have hk:k<xs.length:=(List.getElem?_eq_some_iff.1 hn).1
   have U:(xs.take (k+1)).map I=(xs.take k).map I++[I n]:=by
    rw[List.take_add_one,hn];simp
   refine fe ?_;refine SS ?_;refine ab (show AW _ _ _ _ _ _ from ja (fe ?_));rcases C with⟨rfl,aA⟩|⟨y0,r,X,J,aA,cW⟩
   .refine aK ?_;refine ab ?_;refine⟨by dsimp only;omega,.inr ⟨by omega,nx+1,by omega,by dsimp only;omega,?_,?_⟩⟩
    .dsimp only;exact(up_same _ _ _).trans rfl
    .dsimp only;exact(ap oG (up_same _ _ _)).trans (by rw[U];rfl)
   .have sw:((xs.take k).map I).length=k:=by simp;omega
    refine aK ?_;refine ab ?_;refine⟨by dsimp only;omega,.inr ⟨by omega,nx+1,by omega,by dsimp only;omega,?_,?_⟩⟩
    .dsimp only;exact(up_same _ _ _).trans rfl
    .dsimp only;exact(ap oG (up_same _ _ _)).trans (by rw[U];rfl)
  .rintro m nx ⟨dM,C⟩;rw[List.length_map] at C;rcases C with⟨h0,aA⟩|⟨y0,r,X,J,aA,cW⟩
   .exact .inl ⟨List.length_eq_zero_iff.1 h0,nx,aE eH ⟨aA,trivial⟩⟩
   .refine .inr ⟨r,nx,X,aE eH ⟨aA,?_,trivial⟩⟩;rw[cW,List.take_length]
 rcases M with⟨rfl,n',hg⟩|⟨r,n',hr,hg⟩
 .refine⟨_,hg,aw ?_⟩;refine af ?_;refine ab ⟨_,.nilrow _ _ _ 4 3 rfl,ay rfl ⟨n',?_,up_same _ _ _⟩⟩;rfl
 .refine⟨_,hg,aj ?_⟩;refine af ?_;refine ab (ay rfl ⟨r,rfl,?_⟩);simp[aY];omega
theorem Kf{f:FuncId}{cs:List D}{xs:List Int}(J:SeqA prog f [] cs (xs.map fun n=>[I n]))(ht:Tr (.fn (.func f) [] cs))(hlen:xs.length<=100000):OCall prog 247 [.fn (.func f) [] cs] (xs.map I) xs.length 3:=by
 have C:∀ a∈[.fn (.func f) [] cs],Tr a:=.cons ht .nil;refine uu mixed Tl (by rw[afc];rfl) C (.map fun _=>.s _) ?_;rw[afd,afe];have Ke:=Ke J ht hlen;refine ws ?_;refine SS ?_;refine er ?_;refine SS ?_;refine uM Ke rfl (by repeat' (first|exact trivial|exact rfl|refine And.intro ?_ ?_)) ?_;refine SS ?_;exact ab (ay rfl ⟨0,rfl,rfl⟩)
end Go.Proofs.Tryz.K
namespace Go.Argus
def swapAt(l:List Int)(j:Nat):List Int:=(l.set (j+1) (l.getD j 0)).set j (l.getD (j+1) 0)
def mB(l:List Int):Nat->List Int
 |0=>l
 |j+1=>if l.getD (j+1) 0<l.getD j 0 then mB (swapAt l j) j else l
def kN(l:List Int):Nat->List Int
 |0=>l
 |k+1=>mB (kN l k) (k+1)
def eN(l:List Int):List Int:=kN l (l.length - 1)
@[simp] theorem aqs (l : List Int) (j : Nat) : (swapAt l j).length = l.length := by simp [swapAt]
@[simp] theorem aa5 : ∀ (j : Nat) (l : List Int), (mB l j).length = l.length
 |0,l=>rfl
 |j+1,l=>by simp only[mB];split<;>simp[aa5 j]
@[simp] theorem Nc (l : List Int) : ∀ k, (kN l k).length = l.length
 |0=>rfl
 |k+1=>by simp[kN,Nc l k]
@[simp] theorem HA (l : List Int) : (eN l).length = l.length := Nc l _
def eM(d:List Int):Nat->List Int
 |0=>[]
 |t+1=>eM d t++(if t≠0/\d.getD t 0=d.getD (t - 1) 0 then [] else [d.getD t 0])
def eD(d:List Int):List Int:=eM d d.length
theorem BQ{d:List Int}{x:Int}:∀ {t:Nat},t<=d.length->(x∈eM d t↔x∈d.take t)
 |0,_=>by simp[eM]
 |t+1,ht=>by
  have ih:=BQ (d:=d) (x:=x) (t:=t) oG;have hg:d.getD t 0=d[t]:=by simp[List.getD_eq_getElem?_getD,List.getElem?_eq_getElem (show t<d.length by omega)]
  rw[eM,List.mem_append,ih,List.take_succ_eq_append_getElem oG,List.mem_append];split
  .rename_i h;have h1:d[t - 1]? =some d[t - 1]:=List.getElem?_eq_getElem oG
   have C:d[t]∈d.take t:=by
    rw[<- hg,h.2];have:d.getD (t - 1) 0=d[t - 1]:=by simp[List.getD_eq_getElem?_getD,h1]
    rw[this];exact List.mem_of_getElem? (i:=t - 1) (by rw[List.getElem?_take,if_pos oG,h1])
   constructor
   .rintro(h|h)
    .exact .inl h
    .simp at h
   .rintro(h|h)
    .exact .inl h
    .simp at h;subst h;exact .inl C
  .rw[hg]
theorem IC{d:List Int}:∀ t,(eM d t).length<=t
 |0=>by simp[eM]
 |t+1=>by
  have:=IC (d:=d) t;rw[eM,List.length_append];split<;>simp<;>omega
theorem Re{d:List Int}{t:Nat}(ht:t<d.length)(h0:t≠0)(h:d.getD t 0=d.getD (t - 1) 0):eM d (t+1)=eM d t:=by
 rw[eM,if_pos ⟨h0,h⟩,List.append_nil]
theorem Rf{d:List Int}{t:Nat}(h:d.getD t 0≠d.getD (t - 1) 0):eM d (t+1)=eM d t++[d.getD t 0]:=by
 rw[eM,if_neg fun C=>h C.2]
end Go.Argus
namespace Go.Proofs.Tryz.K
set_option maxRecDepth 10000
theorem alv{a:Int}:PCall prog 227 [I a] (B false):=by
 refine a9 mixed Tm (by rw[aff];rfl) (by simp[Tr.s]) (Tr.s _) ?_;rw[afg,afh];refine ws ?_;refine SS ?_;refine er ?_;refine aP ?_;refine ab (ay (d:=.s (.bool _)) rfl ?_);simp[bne]
theorem u7{a b:Int}:PCall prog 184 [I a,I b] (B (decide (a<b))):=by
 refine a9 mixed Tn (by rw[afi];rfl) (by simp[Tr.s]) (Tr.s _) ?_;rw[afj,afk];refine ws ?_;refine SS ?_;refine er ?_;refine SS ?_;refine cl alv ?_;refine SS ?_;(iterate 3 refine z fun _ _=>?_);refine c8 ?_;exact ab (ay (d:=.s (.bool _)) rfl rfl)
theorem alw{m:Mem}{nx i n:Nat}{l:List Int}(hi:i<nx)(hm:m i=some (.cells (l.map I) 3))(hl:l.length=n)(hn:n<=12):
 ACalls prog 178 [.rs i 0 n,I 0,I n] m nx (fun r m' nx'=>r=.tup []/\nx'=nx/\m'=up m i (some (.cells ((eN l).map I) 3))):=by
 refine pX mixed To (by rw[afl];rfl) ?_;rw[afm,afn]
 have xj:up m i (some (.cells (l.map I) 3))=m:=by
  funext j;simp only[up];split
  .rename_i e;rw[e,hm]
  .rfl
 refine aw ?_;refine au ?_;refine ab (b8 (α:=Nat) (fun k=>⟨az [(0,.rs i 0 n),(1,I 0),(2,I n),(6,I (k+1:Nat))],up m i (some (.cells ((kN l k).map I) 3)),nx⟩) (fun k=>k<=n - 1) (fun k=>n - k) 0 (jC eH xj.symm) oG ?_);intro k hk;refine au ?_;refine ab ⟨_,rfl,fun h=>?_,fun h=>?_⟩
 .have ao:k+1<n:=by have:((k+1:Nat):Int)<n:=by simpa using h
                    omega
  refine aw ?_;refine af ?_;refine ab (adp ZL (α:=List Int×Nat) (fun s=>⟨az [(0,.rs i 0 n),(1,I 0),(2,I n),(6,I (k+1:Nat)),(7,I s.2)],up m i (some (.cells (s.1.map I) 3)),nx⟩) (fun s=>s.1.length=n/\s.2<=k+1/\mB s.1 s.2=kN l (k+1)) (fun s=>s.2) (kN l k,k+1) (av eH) ⟨by simp[hl],by simp,rfl⟩ ?_);rintro⟨d,j⟩ ⟨hd,hj,C⟩;simp only at hd hj C;cases j with
  |zero=>
   have uV:decide ((0:Int)<((0:Nat):Int))=false:=rfl;refine af ?_;refine Vg ?_;refine SS ?_;(iterate 10 refine z fun _ _=>?_);refine SS ?_;refine bk (by simp[apartT]) ⟨_,rfl,fun h=>oH,fun h=>?_⟩;have C:d=kN l (k+1):=C;subst C;show AOps _ _ _ _ _ _ _ _ _;refine au ?_;exact ab (aJ (k+1) (av eH) oG oG)
  |succ j=>
   have ha:d[j+1]? =some d[j+1]:=List.getElem?_eq_getElem oG;have hb:d[j]? =some d[j]:=List.getElem?_eq_getElem oG;have M:d.getD (j+1) 0=d[j+1]:=by simp[List.getD_eq_getElem?_getD,ha]
   have U:d.getD j 0=d[j]:=by simp[List.getD_eq_getElem?_getD,hb]
   have kd:=fu (f:=I) ha;have J:=fu (f:=I) hb;generalize X:d[j+1]=a at ha M kd;generalize hB:d[j]=b at hb U J;clear X hB;have uV:decide ((0:Int)<((j+1:Nat):Int))=true:=by simp
   have uW:((j+1:Nat):Int) - 1=(j:Int)/\ -9223372036854775808<=(j:Int)/\(j:Int)<=9223372036854775807:=by omega
   refine af ?_;refine Vg ?_;refine au ?_;refine bG rfl rfl (nM rfl rfl (up_same _ _ _) V.h V.h) (fun hc=>⟨ak,⟨V.h,by omega⟩⟩) ?_;refine bG rfl rfl (iI rfl (up_same _ _ _) kd V.h) (fun hc=>⟨ak,(iJ V.h V.h kd)⟩) ?_;refine au ?_;refine bG rfl rfl (nM rfl rfl (up_same _ _ _) V.h V.h) (fun hc=>⟨ak,⟨V.h,by omega⟩⟩) ?_;refine bG rfl rfl (iI rfl (up_same _ _ _) J V.h) (fun hc=>⟨ak,(iJ V.h V.h J)⟩) ?_;refine gc u7 ?_;refine SS ?_;refine bk (by simp[apartT]) ⟨_,rfl,fun h=>?_,fun h=>?_⟩
   .have h:a<b:=by simpa using h
    refine nL ZM ?_;refine aL ?_;refine aH (iI rfl (up_same _ _ _) J V.h) ak (iJ V.h V.h J) ?_;refine bF ?_;refine bk (by simp[apartT]) ?_;refine au ?_;refine ab (aJ (swapAt d j,j) (jC eH ?_) ⟨by simp[hd],by simp only;omega,?_⟩ (by simp only;omega))
    .rw[lH,lH];simp only[swapAt,M,U,List.map_set]
    .rw[<- C];simp only[mB,M,U,if_pos h]
   .have h:¬ a<b:=by simpa using h
    have C:d=kN l (k+1):=by rw[<- C];simp only[mB,M,U,if_neg h]
    subst C;show AOps _ _ _ _ _ _ _ _ _;refine au ?_;exact ab (aJ (k+1) (av eH) oG oG)
 .have aX:¬ k+1<n:=by have h:¬ ((k+1:Nat):Int)<n:=by simpa using h
                      omega
  refine qg ⟨rfl,rfl,?_⟩;have:k=n - 1:=by omega
  subst this;simp only[eN,hl]
theorem alx{m:Mem}{nx i n:Nat}{l:List Int}{gO:Int}(hi:i<nx)(hm:m i=some (.cells (l.map I) 3))(hl:l.length=n)(hn:n<=12):
 ACalls prog 151 [.rs i 0 n,I 0,I n,I gO] m nx (fun r m' nx'=>r=.tup []/\nx'=nx/\m'=up m i (some (.cells ((eN l).map I) 3))):=by
 refine pX mixed JD (by rw[Tp];rfl) ?_;rw[Tq,Ts];refine ws ?_;refine SS ?_;refine ab (aw ?_);refine SS ?_;refine ab ⟨_,av (l:=[(0,.rs i 0 n),(1,I 0),(2,I n)]) eH,ja (Iw (fun s=>s=⟨az [(0,.rs i 0 n),(1,I 0),(2,I n)],m,nx⟩) (fun _=>0) rfl fun s C=>?_)⟩;subst C;refine ja (aj ?_);refine aP ?_;refine ab (aC (aj ?_));refine af ?_;refine ab (bh rfl (fun h=>?_) fun h=>?_)
 .refine aC (aj ?_);refine au ?_;refine m7 (alw hi hm hl hn) rfl (by repeat' (first|exact trivial|exact rfl|refine And.intro ?_ ?_)) fun r m' nx' hp=>?_;obtain⟨rfl,rfl,rfl⟩:=hp;exact ab (cU (bx (aT (bx (qf ⟨rfl,rfl,rfl⟩)))))
 .have:¬ ((n:Int) - 0<=12):=by simpa using h
  omega
theorem CT{n:Nat}(hn:n<=12):∃ r,PCall prog 152 [.s (.int .u64 (IntKind.u64.wrap (n:Int)))] (I r):=by
 match n,hn with
 |0,_=>exact⟨0,jW lA 100 rfl kr⟩
 |1,_=>exact⟨1,jW lA 100 rfl kr⟩
 |2,_=>exact⟨2,jW lA 100 rfl kr⟩
 |3,_=>exact⟨2,jW lA 100 rfl kr⟩
 |4,_=>exact⟨3,jW lA 100 rfl kr⟩
 |5,_=>exact⟨3,jW lA 100 rfl kr⟩
 |6,_=>exact⟨3,jW lA 100 rfl kr⟩
 |7,_=>exact⟨3,jW lA 100 rfl kr⟩
 |8,_=>exact⟨4,jW lA 100 rfl kr⟩
 |9,_=>exact⟨4,jW lA 100 rfl kr⟩
 |10,_=>exact⟨4,jW lA 100 rfl kr⟩
 |11,_=>exact⟨4,jW lA 100 rfl kr⟩
 |12,_=>exact⟨4,jW lA 100 rfl kr⟩
theorem DE{m:Mem}{nx i n:Nat}{l:List Int}(hi:i<nx)(hm:m i=some (.cells (l.map I) 3))(hl:l.length=n)(hn:n<=12):
 ACalls prog 89 [.rs i 0 n] m nx (fun r m' nx'=>r=.tup []/\nx'=nx/\m'=up m i (some (.cells ((eN l).map I) 3))):=by
 refine pX mixed Kg (by rw[Vh];rfl) ?_;rw[Vi,Vj];obtain⟨gO,CT⟩:=CT hn;have aA:=hm;refine ws ?_;refine au ?_;refine ab (fe ?_);refine au ?_;refine aH (QY rfl V.h) ak V.h ?_;refine cl CT ?_;refine m7 (alx hi hm hl hn) rfl (by repeat' (first|exact trivial|exact rfl|refine And.intro ?_ ?_)) fun r m' nx' hp=>?_;obtain⟨rfl,rfl,rfl⟩:=hp;exact ab (qg ⟨rfl,rfl,rfl⟩)
end Go.Proofs.Tryz.K
namespace Go.Abs
section
variable{P:Program}{env:Env}{m:Mem}{nx:Nat}{x y:Operand}{t p:TypeId}{k:IntKind}{n n':Int}
theorem ack{j i l off:Nat}{e:TypeId}{r:Row}(hx:(opd env x).core=.rs j off l)(hy:(opd env y).core=.s (.int k (i:Int)))(hm:m j=some r)(he:elemP P t=e)(C:P.cellsOf e=1):
 Ef P (.indexAddr t x y) env m nx ⟨slT P t=true/\i<l,.rp j (off+i),[],[j],0⟩:=by
 have h:=IV (P:=P) (env:=env) (m:=m) (nx:=nx) (t:=t) hx hy hm he C;have h1:off+((i:Int)).toNat*1=off+i:=by simp
 have h2:(slT P t=true/\(0:Int)<=(i:Int)/\(i:Int)<l)=(slT P t=true/\i<l):=by
  apply propext;constructor
  .rintro⟨a,_,b⟩;exact⟨a,by omega⟩
  .rintro⟨a,b⟩;exact⟨a,by omega,by omega⟩
 rw[h1,h2] at h;exact h
theorem Nd{i l a:Nat}{cs:List D}{e:TypeId}(hx:(opd env x).core=.rs i 0 l)(hm:m i=some (.cells cs e))(he:elemP P t=e)(C:P.cellsOf e=1)(ha:(opd env y).core=.s (.int .i64 (a:Int))):
 Ef P (.slice t x (some y) none none) env m nx ⟨slT P t=true/\a<=l,.rs i a (l - a),[],[i],0⟩:=by
 have h:=NY (P:=P) (env:=env) (m:=m) (nx:=nx) (t:=t) (lo:=some y) (hi:=none) (a:=(a:Int)) (b:=(l:Int)) hx hm he C (by simp[bndD,ha,D.int?]) (by simp[bndD]);have h1:0+((a:Int)).toNat*1=a:=by simp
 have h3:((l:Int) - (a:Int)).toNat=l - a:=by omega
 have h2:((slT P t=true/\1=1)/\(0:Int)<=(a:Int)/\(a:Int)<=(l:Int)/\(l:Int)<=(l:Int))=(slT P t=true/\a<=l):=by
  apply propext;constructor
  .rintro⟨⟨a,_⟩,_,b,_⟩;exact⟨a,by omega⟩
  .rintro⟨a,b⟩;exact⟨⟨a,rfl⟩,by omega,by omega,by omega⟩
 rw[h1,h2,h3] at h;exact h
theorem ZN{i l b:Nat}{cs:List D}{e:TypeId}(hx:(opd env x).core=.rs i 0 l)(hm:m i=some (.cells cs e))(he:elemP P t=e)(C:P.cellsOf e=1)(hb:(opd env y).core=.s (.int .i64 (b:Int))):
 Ef P (.slice t x none (some y) none) env m nx ⟨slT P t=true/\b<=l,.rs i 0 b,[],[i],0⟩:=by
 have h:=NY (P:=P) (env:=env) (m:=m) (nx:=nx) (t:=t) (lo:=none) (hi:=some y) (a:=0) (b:=(b:Int)) hx hm he C (by simp[bndD]) (by simp[bndD,hb,D.int?]);have h1:0+((0:Int)).toNat*1=0:=by simp
 have h3:((b:Int) - 0).toNat=b:=by omega
 have h2:((slT P t=true/\1=1)/\(0:Int)<=0/\(0:Int)<=(b:Int)/\(b:Int)<=(l:Int))=(slT P t=true/\b<=l):=by
  apply propext;constructor
  .rintro⟨⟨a,_⟩,_,_,b⟩;exact⟨a,by omega⟩
  .rintro⟨a,b⟩;exact⟨⟨a,rfl⟩,by omega,by omega,by omega⟩
 rw[h1,h2,h3] at h;exact h
theorem acm{i off l:Nat}{cs z:List D}{e:TypeId}(hx:(opd env x).core=.rs i off l)(hm:m i=some (.cells cs e))(he:elemP P t=e)(C:zeroP P e=z):
 Ef P (.call { callee:=.builtin .clear,args:= #[x],argTypes:= #[t] }) env m nx ⟨slT P t=true/\off+l*P.cellsOf e<=cs.length/\e=e,.tup [],[(i,some (.cells (splice cs off (replD l z)) e))],[i],0⟩:=by
 refine wj («aS»:=[.rs i off l]) rfl (by simp[hx]) ?_;simp only[builtinD,hm,C,Array.getD_eq_getD_getElem?,List.getElem?_toArray,List.getElem?_cons_zero,Option.getD_some,he]
theorem YU{cs:List D}{n k:Nat}{x:D}(hn:cs.length=n)(hk:k<=n):splice cs k (replD (n - k) [x])=cs.take k++List.replicate (n - k) x:=by
 have hr:replD (n - k) [x]=List.replicate (n - k) x:=by
  unfold replD;generalize n - k=j
  induction j with
  |zero=>rfl
  |succ j ih=>simp[List.replicate_succ,ih]
 rw[hr];unfold splice;split
 .rename_i y e;have h1:n - k=1:=by have:=congrArg List.length e;simpa using this
  rw[h1] at e ⊢;simp at e;subst e;rw[List.set_eq_take_append_cons_drop,if_pos oG,List.drop_eq_nil_of_le oG];rfl
 .rw[List.length_replicate,List.drop_eq_nil_of_le oG,List.append_nil]
end
end Go.Abs
namespace Go.Proofs.Tryz.K
set_option maxRecDepth 10000
def nV(d:List Int)(n:Nat):List D:=(eD d).map I++List.replicate (n - (eD d).length) (I 0)
def OW(d:List Int)(n:Nat)(m:Mem)(nx i:Nat)(r:D)(m':Mem)(nx':Nat):Prop:=nx'=nx/\r=.rs i 0 (eD d).length/\m'=up m i (some (.cells (nV d n) 3))
def adq(d:List Int)(m:Mem)(nx i:Nat)(r:D)(m':Mem)(nx':Nat):Prop:=nx'=nx/\r=.rs i 0 (eD d).length/\∃ c,m'=up m i (some (.cells c 3))/\c.take (eD d).length=(eD d).map I
theorem Kh{m:Mem}{nx i n:Nat}{d:List Int}(hi:i<nx)(hm:m i=some (.cells (d.map I) 3))(hl:d.length=n)(hn:n<=100000):ACalls prog 90 [.rs i 0 n] m nx (OW d n m nx i):=by
 refine pX mixed F5 (by rw[aly];rfl) ?_;rw[alz,alA];have aA:=hm
 have xj:up m i (some (.cells (d.map I) 3))=m:=by
  funext j;simp only[up];split
  .rename_i e;rw[e,hm]
  .rfl
 have whole:eM d n=d->OW d n m nx i (.rs i 0 n) m nx:=fun h=>by
  have h:eD d=d:=by unfold eD;rw[hl];exact h
  refine⟨rfl,by rw[h,hl],?_⟩;rw[nV,h,hl,Nat.sub_self,List.replicate_zero,List.append_nil,xj]
 refine ws ?_;refine SS ?_;refine ab (aC (aj ?_));refine au ?_;refine ab (bh rfl (fun h=>?_) fun h=>bS (aC (aw ?_)))
 .have h:n<2:=by have h:(n:Int)<2:=by simpa using h
                 omega
  refine aC (aj ?_);refine af ?_;refine ab (cU (ay rfl (whole ?_)))
  match d,n,hl,h with
  |[],_,rfl,_=>rfl
  |[a],_,rfl,_=>rfl
 have h2:2<=n:=by have h:¬ (n:Int)<2:=by simpa using h
                  omega
 refine SS ?_;refine ab (bO (fun s=>Ghost prog s ⟨az [(0,.rs i 0 n)],m,nx⟩/\eM d n=d) (b8 (α:=Nat) (fun k=>⟨az [(0,.rs i 0 n),(3,I k)],m,nx⟩) (fun k=>1<=k/\k<=n/\eM d k=d.take k) (fun k=>n - k) 1 (av eH) ⟨by omega,by omega,?_⟩ ?_) ?_)
 .match d,hl with
  |a::t,_=>rfl
  |[],hl=>simp at hl;omega
 .rintro k ⟨A2,hk,M⟩;refine aP ?_;refine ab ⟨_,rfl,fun h=>?_,fun h=>?_⟩
  .have ao:k<n:=by have h:(k:Int)<n:=by simpa using h
                   omega
   obtain⟨j,rfl⟩:∃ j,k=j+1:=⟨k - 1,by omega⟩
   have ha:d[j+1]? =some d[j+1]:=List.getElem?_eq_getElem oG;have hb:d[j]? =some d[j]:=List.getElem?_eq_getElem oG;have ga:d.getD (j+1) 0=d[j+1]:=by simp[List.getD_eq_getElem?_getD,ha]
   have gb:d.getD j 0=d[j]:=by simp[List.getD_eq_getElem?_getD,hb]
   have kd:=fu (f:=I) ha;have C:=fu (f:=I) hb;have uW:((j+1:Nat):Int) - 1=(j:Int)/\ -9223372036854775808<=(j:Int)/\(j:Int)<=9223372036854775807:=by omega
   refine dm aa6 ?_;refine bF ?_;refine aH (iI rfl aA C V.h) ak (iJ V.h V.h C) ?_;refine SS ?_;refine bk (by simp[apartT]) (aq rfl (fun h=>?_) fun h=>?_)
   .have pH:d[j+1]=d[j]:=by simpa using h
    refine ws ?_;refine af ?_;refine aH (Nd rfl aA V.h V.h rfl) ak ⟨V.h,by omega⟩ ?_;refine SS ?_;refine ab (aC (aw ?_));refine SS ?_;have alB:eM d (j+1+1)=eM d (j+1):=Re oG oG (by rw[ga,show j+1 - 1=j by omega,gb];exact pH);have y0:(eM d (j+1)).length=j+1:=by rw[M];simp;omega
    clear kd C uW
    refine ab (bO (fun s=>∃ (c:List Int) (k:Nat),Ghost prog s ⟨az [(0,.rs i 0 n),(3,I (k:Nat))],up m i (some (.cells (c.map I) 3)),nx⟩/\c.length=n/\k<=n/\c.take k=eM d n) (b8 (α:=List Int×Nat×Nat) (fun s=>⟨az [(0,.rs i 0 n),(3,I s.2.1),(4,.rs i (j+1) (n - (j+1))),(5,I (s.2.2+1:Nat))],up m i (some (.cells (s.1.map I) 3)),nx⟩)
     (fun s=>s.1.length=n/\j+1+(s.2.2+1)<=n/\s.2.1<=j+1+s.2.2/\s.1.take s.2.1=eM d (j+1+(s.2.2+1))/\∀ p,j+1+s.2.2<=p->s.1[p]? =d[p]?) (fun s=>n - s.2.2) (d,j+1,0) (jC eH xj.symm) ⟨hl,by simp only;omega,by simp only;omega,?_,fun _ _=>rfl⟩ ?_) ?_)
    .show d.take (j+1)=eM d (j+1+1);rw[alB,M]
    .rintro⟨c,k,q⟩ ⟨J,X,w3,w4,U⟩;simp only at J X w3 w4 U;dsimp only;refine af ?_;refine aH (Fl rfl (up_same _ _ _)) ak V.h ?_;refine SS ?_;refine ab ⟨_,rfl,fun h=>?_,fun h=>?_⟩
     .have ao:q+1<n - (j+1):=by have h:((q+1:Nat):Int)<((n - (j+1):Nat):Int):=by simpa using h
                                omega
      have xa:c[j+1+(q+1)]? =some c[j+1+(q+1)]:=List.getElem?_eq_getElem oG;have xb:c[j+1+q]? =some c[j+1+q]:=List.getElem?_eq_getElem oG;have ya:d.getD (j+1+(q+1)) 0=c[j+1+(q+1)]:=by rw[List.getD_eq_getElem?_getD, <- U _ oG,xa];rfl
      have yb:d.getD (j+1+q) 0=c[j+1+q]:=by rw[List.getD_eq_getElem?_getD, <- U _ oG,xb];rfl
      have kd:=fu (f:=I) xa;have C:=fu (f:=I) xb;generalize hA:c[j+1+(q+1)]=a at xa ya kd;generalize hB:c[j+1+q]=b at xb yb C;clear hA hB;have uW:((q+1:Nat):Int) - 1=(q:Int)/\ -9223372036854775808<=(q:Int)/\(q:Int)<=9223372036854775807:=by omega
      refine dm ZO ?_;refine bF ?_;refine aH (iI rfl (up_same _ _ _) C V.h) ak (iJ V.h V.h C) ?_;refine SS ?_;refine bk (by simp[apartT]) (aq rfl (fun h=>?_) fun h=>?_)
      .have aB:a≠b:=by simpa using h
       have hn:=Rf (d:=d) (t:=j+1+(q+1)) (by rw[ya,show j+1+(q+1) - 1=j+1+q by omega,yb];exact aB);refine ws ?_;refine bF ?_;refine ab (dz ?_);refine au ?_;refine ab ?_;refine au ?_;refine ab (aJ (c.set k a,k+1,q+1) (jC eH ?_) ⟨by simp[J],by simp only;omega,by simp only;omega,?_,fun p hp=>?_⟩ (by simp only;omega))
       .rw[lH,List.map_set]
       .show(c.set k a).take (k+1)=eM d (j+1+(q+1)+1);rw[hn,ya, <- w4,List.take_succ_eq_append_getElem oP];simp;exact List.take_set_of_le (Nat.le_refl k)
       .simp only at hp;show(c.set k a)[p]? =_;rw[List.getElem?_set_ne oG];exact U p oG
      .have alC:a=b:=by simpa using h
       have hn:=Re (d:=d) (t:=j+1+(q+1)) oG oG (by rw[ya,show j+1+(q+1) - 1=j+1+q by omega,yb];exact alC);refine cg ?_;refine au ?_;refine ab (aJ (c,k,q+1) (av eH) ⟨J,by simp only;omega,by simp only;omega,?_,fun p hp=>U p (by simp only at hp;omega)⟩ (by simp only;omega));show c.take k=eM d (j+1+(q+1)+1);rw[hn,w4]
     .have aX:¬ q+1<n - (j+1):=by have h:¬ ((q+1:Nat):Int)<((n - (j+1):Nat):Int):=by simpa using h
                                  omega
      refine⟨c,k,.forget _ _ _ _ fun t=>oB (l:=[(0,.rs i 0 n),(3,I k)]) ⟨rfl,rfl,trivial⟩ t,J,by omega,?_⟩;rw[w4];exact congrArg (eM d) oG
    .rintro s ⟨c,k,hg,J,ck,X⟩;refine⟨_,hg,aj ?_⟩;refine af ?_;refine aH (Nd rfl (up_same _ _ _) V.h V.h rfl) ak ⟨V.h,by omega⟩ ?_;refine b9 (acm rfl (up_same _ _ _) V.h V.h) ak ⟨V.h,(by rw[c3];first|(simp;done)|(simp;omega)|omega),rfl⟩ ?_;refine er ?_;refine af ?_;refine aH (ZN rfl (up_same _ _ _) V.h V.h rfl) ak ⟨V.h,by omega⟩ ?_;refine SS ?_;have cH:(eD d).length=k:=by unfold eD;rw[hl, <- X];simp;omega
     refine ab (aV (cq (aT (ay (d:=.rs i 0 k) rfl ⟨rfl,by rw[cH],(lH _ _ _ _).trans ?_⟩))));rw[YU (by rw[List.length_map,J]) ck, <- List.map_take,X,nV,cH];unfold eD;rw[hl]
   .have aB:d[j+1]≠d[j]:=by simpa using h
    refine cg ?_;refine au ?_;refine ab (aJ (j+1+1) (av eH) ⟨by omega,by omega,?_⟩ oG);rw[Rf (by rw[ga,show j+1 - 1=j by omega,gb];exact aB),M,ga];exact(List.take_succ_eq_append_getElem oG).symm
  .have aX:¬ k<n:=by have h:¬ (k:Int)<n:=by simpa using h
                     omega
   have:k=n:=by omega
   refine⟨.forget _ _ _ _ fun t=>oB (l:=[(0,.rs i 0 n)]) ⟨rfl,trivial⟩ t,?_⟩;rw[<- this,M,List.take_of_length_le oG]
 .rintro s ⟨hg,M⟩;refine⟨_,hg,aj ?_⟩;refine af ?_;exact ab (ay rfl (whole M))
theorem Li{m:Mem}{nx i n:Nat}{d:List Int}(hi:i<nx)(hm:m i=some (.cells (d.map I) 3))(hl:d.length=n)(hn:n<=100000):ACalls prog 90 [.rs i 0 n] m nx (adq d m nx i):=by
 refine(Kh hi hm hl hn).mono ?_;rintro r m' nx' ⟨h1,h2,h3⟩;refine⟨h1,h2,nV d n,h3,?_⟩;rw[nV,List.take_append_of_le_length oS,List.take_of_length_le oS]
end Go.Proofs.Tryz.K
namespace Go.Argus
def fT(x:End)(b:Int)(w:List Int):List Int:=if z8 x b then gu w (dJ x) else w
@[simp] theorem Nf (x : End) (b : Int) (w : List Int) : (fT x b w).length = w.length := by unfold fT; split <;> simp
def zR(l:List Int):List Int:=eD (eN l)
structure oV(x:bt):Prop where
 rd:∀ r∈cr x,0<=r/\r<1200
 sl:x.op=17\/x.op=18->0<=x.n/\x.n<80
 wr: -1000000<=cZ x/\cZ x<1200
 ar:x.op=10\/x.op=38->x.args.length<=1000
structure Ak(x:End):Prop where
 rd:∀ r∈cn x,0<=r/\r<1200
 wr: -1000000<=dJ x/\dJ x<1200
 wh:x.aI.length<=9
 a1:x.kind=5->x.ins.op=10\/x.ins.op=38->x.ins.args.length<=1000
 a2:x.kind=6\/x.kind=7->x.args.length<=1000
def iK(w:List Int)(ok:Bool)(rs:List Int):Bool:=rs.foldl (fun ok r=>ok&&lR w r.toNat) ok
def wc(w:List Int)(x:bt):List Int:=gu w (if x.op=18 then jV x.n else cZ x)
def m8(s:List Int×Bool)(x:bt):List Int×Bool:=(wc s.1 x,iK s.1 s.2 (cr x)&&(x.op !=17||lR s.1 (jV x.n).toNat))
def ke(l:List bt)(w:List Int):List Int×Bool:=l.foldl m8 (w,true)
def iH(b:bP)(w:List Int):List Int×Bool:=((ke b.ins w).1,iK (ke b.ins w).1 (ke b.ins w).2 (cn b.fin))
theorem iG{α β:Type}{f:β->α->β}{z:β}{l:List α}{k:Nat}{x:α}(h:l[k]? =some x):(l.take (k+1)).foldl f z=f ((l.take k).foldl f z) x:=by
 rw[List.take_add_one,h,List.foldl_append];rfl
theorem H4(l:List bt)(w:List Int):(ke l w).1.length=w.length:=by
 unfold ke;generalize true=b
 induction l generalizing w b with
 |nil=>rfl
 |cons x l ih=>rw[List.foldl_cons];exact(ih _ _).trans (by simp[wc])
theorem Hf(b:bP)(w:List Int):(iH b w).1.length=w.length:=H4 _ _
def cy(l:List (List Int)):List D:=l.flatMap fun w=>w.map cz
theorem ID{sz:Nat}:∀ {l:List (List Int)} {i:Nat} {w:List Int},(∀ w∈l,w.length=sz)->l[i]? =some w->(cy l).drop (i*sz)=w.map cz++(cy (l.drop (i+1)))
 |[],i,w,_,h=>by simp at h
 |a::l,0,w,_,h=>by simp at h;subst h;simp[cy]
 |a::l,i+1,w,hs,h=>by
  have ha:(a.map cz).length=sz:=by simpa using hs a oS
  have h1:(i+1)*sz=(a.map cz).length+i*sz:=by rw[ha,Nat.add_mul];omega
  have ih:=ID (l:=l) (i:=i) (w:=w) (fun w C=>hs w (by simp[C])) (by simpa using h);unfold cy at ih ⊢;rw[List.flatMap_cons,h1, <- List.drop_drop,List.drop_left,ih,List.drop_succ_cons]
theorem FN{sz:Nat}{l:List (List Int)}{i:Nat}{w:List Int}(h:∀ w∈l,w.length=sz)(hi:l[i]? =some w):((cy l).drop (i*sz)).take sz=w.map cz:=by
 rw[ID h hi,List.take_append_of_le_length (by simp[h w (List.mem_of_getElem? hi)]),List.take_of_length_le (by simp[h w (List.mem_of_getElem? hi)])]
theorem HB{sz:Nat}:∀ {l:List (List Int)},(∀ w∈l,w.length=sz)->(cy l).length=l.length*sz
 |[],_=>by simp[cy]
 |a::l,h=>by
  have:=HB (l:=l) fun w C=>h w (by simp[C]);unfold cy at this ⊢;rw[List.flatMap_cons,List.length_append,this,List.length_map,h a oS,List.length_cons,Nat.add_mul];omega
theorem yp{sz:Nat}{l:List (List Int)}{i:Nat}{w:List Int}(h:∀ w∈l,w.length=sz)(hi:l[i]? =some w):i*sz+sz<=(cy l).length:=by
 rw[HB h];have:=(List.getElem?_eq_some_iff.1 hi).1;rw[<- Nat.succ_mul];exact Nat.mul_le_mul_right _ this
theorem S7{sz:Nat}(J:2<=sz):∀ {l:List (List Int)} {i:Nat} {w v:List Int},(∀ w∈l,w.length=sz)->l[i]? =some v->w.length=sz->splice (cy l) (i*sz) (w.map cz)=cy (l.set i w):=by
 intro l i w v h hi C
 have key:splice (cy l) (i*sz) (w.map cz)=(cy l).take (i*sz)++w.map cz++(cy l).drop (i*sz+(w.map cz).length):=by
  unfold splice;split
  .rename_i x hx;have:(w.map cz).length=1:=by rw[hx];rfl
   simp at this;omega
  .rfl
 rw[key,List.length_map,C];clear key
 induction l generalizing i with
 |nil=>simp at hi
 |cons a l ih=>
  have ha:(a.map cz).length=sz:=by simpa using h a oS
  cases i with
  |zero=>
   simp only[Nat.zero_mul,List.take_zero,List.nil_append,Nat.zero_add,List.set_cons_zero];unfold cy;rw[List.flatMap_cons,List.flatMap_cons, <- ha,List.drop_left]
  |succ i=>
   have ih:=ih (i:=i) (fun w C=>h w (by simp[C])) (by simpa using hi);simp only[List.set_cons_succ];unfold cy at ih ⊢;rw[List.flatMap_cons,List.flatMap_cons, <- ih,show(i+1)*sz=(a.map cz).length+i*sz by rw[ha,Nat.add_mul];omega,List.take_length_add_append,Nat.add_assoc,List.drop_length_add_append];simp
theorem aa7(n:Nat)(w:List Int):replD n (w.map cz)=cy (List.replicate n w):=by
 unfold replD cy
 induction n with
 |zero=>rfl
 |succ n ih=>rw[List.replicate_succ,List.replicate_succ,List.flatten_cons,List.flatMap_cons,ih]
theorem uB(n:Nat)(b:Bool):replD n [B b]=(List.replicate n b).map B:=by
 unfold replD
 induction n with
 |zero=>rfl
 |succ n ih=>rw[List.replicate_succ,List.replicate_succ,List.flatten_cons,List.map_cons,ih];rfl
theorem adr(l:List (List Int)):∀ a∈cy l,Tr a:=.flat fun w=>.map fun _=>.s _
theorem IE{sz:Nat}{l:List (List Int)}{i:Nat}{w:List Int}(h:∀ w∈l,w.length=sz)(J:w.length=sz):∀ u∈l.set i w,u.length=sz:=fun u C=>by
 rcases List.mem_or_eq_of_mem_set C with h1|h1
 .exact h u h1
 .rw[h1];exact J
theorem Of:∀ {w v:List Int},w.length=v.length->zipV (w.map cz) (v.map cz)=some (w.map (Value.int .u64),v.map (Value.int .u64))
 |[],[],_=>rfl
 |a::w,b::v,h=>by
  have:=Of (w:=w) (v:=v) (by simpa using h);simp[zipV,sameK,this]
theorem Og:∀ {w v:List Int},w.length=v.length->veqs (w.map (Value.int .u64)) (v.map (Value.int .u64))=(w==v)
 |[],[],_=>rfl
 |a::w,b::v,h=>by
  have:=Og (w:=w) (v:=v) (by simpa using h);simp[veqs,veq1,this]
theorem ZQ(w:List Int):(w.map (Value.int .u64)).map kindV=List.replicate w.length 0:=by
 induction w with
 |nil=>rfl
 |cons a w ih=>simpa[kindV,List.replicate_succ] using ih
end Go.Argus
namespace Go.Proofs.Tryz.K
set_option maxRecDepth 10000
theorem Ki{f:FuncId}{cs:List D}{xs:List Int}(J:SeqA prog f [] cs (xs.map fun n=>[I n]))(ht:Tr (.fn (.func f) [] cs))(hlen:xs.length<=12):OCall prog 201 [.fn (.func f) [] cs] ((eN xs).map I) xs.length 3:=by
 have C:∀ a∈[.fn (.func f) [] cs],Tr a:=.cons ht .nil;refine uu mixed Tt (by rw[afo];rfl) C (.map fun _=>.s _) ?_;rw[afp,afq];have Kf:=Kf J ht oG;refine ws ?_;refine SS ?_;refine er ?_;refine SS ?_;refine uM Kf rfl (by repeat' (first|exact trivial|exact rfl|refine And.intro ?_ ?_)) ?_;refine SS ?_;refine er ?_;refine SS ?_;refine m7 (DE (i:=0) (l:=xs) oG rfl rfl hlen) rfl (by repeat' (first|exact trivial|exact rfl|refine And.intro ?_ ?_)) fun r m' nx' hp=>?_;obtain⟨rfl,rfl,rfl⟩:=hp;refine er ?_;refine af ?_;exact ab (ay rfl ⟨0,rfl,rfl⟩)
theorem u9{f:FuncId}{cs:List D}{xs:List Int}(J:SeqA prog f [] cs (xs.map fun n=>[I n]))(ht:Tr (.fn (.func f) [] cs))(hlen:xs.length<=12):PCall prog 155 [.fn (.func f) [] cs] (ax (zR xs)):=by
 have C:∀ a∈[.fn (.func f) [] cs],Tr a:=.cons ht .nil;refine a9 mixed Tu (by rw[afr];rfl) C (cB _) ?_;rw[afs,aft];have Ki:=Ki J ht hlen;refine ws ?_;refine SS ?_;refine ab (aw ?_);refine SS ?_;refine uM Ki rfl (by repeat' (first|exact trivial|exact rfl|refine And.intro ?_ ?_)) ?_;refine m7 (Li (i:=0) (d:=eN xs) (n:=xs.length) oG rfl oS oG) rfl (by repeat' (first|exact trivial|exact rfl|refine And.intro ?_ ?_)) fun r m' nx' hp=>?_;obtain⟨rfl,rfl,c,rfl,hc⟩:=hp;refine SS ?_;refine ab (aO (bw [(0,c,3)] ⟨up_same _ _ _,trivial⟩ (l:=[(2,ax (zR xs))]) ⟨?_,trivial⟩) (ay rfl rfl));exact j7 c3 (by rw[List.drop_zero,Nat.mul_one];exact hc)
def nextR(x:Argus.End):List Int:=zR (cM x)
theorem Rg{x:Argus.End}(hlen:x.aI.length<=9):PCall prog 155 [.fn (.func 202) [] [.pt (bc x)]] (ax (nextR x)):=
 u9 (Ve oG) (.fn oS (.cons (.pt (kH x)) .nil)) (by have:=IB x;omega)
theorem wI{x:Argus.End}{b:Int}{w:List Int}(J:w.length=20)(hlen:x.aI.length<=1000)(hn: -1000000<=dJ x/\dJ x<1280):PCall prog 199 [.agg (bc x),I b,gk w] (gk (fT x b w)):=by
 have C:∀ a∈[D.agg (bc x),I b,gk w],Tr a:=.cons (.agg (kH x)) (.cons (.s _) (.cons (qw _) .nil));refine a9 mixed Tv (by rw[afu];rfl) C (qw _) ?_;rw[afv,afw];have Kd:=Kd (x:=x) (b:=b) hlen;refine ws ?_;refine au ?_;refine ab (aC (aj ?_));refine af ?_;refine cl Kd ?_;refine ab (bh rfl (fun h=>?_) fun h=>bS (aj ?_))
 .have Kj:=Kj (x:=x);have qx:=qx (w:=w) (n:=dJ x) J hn;refine aC (dm ZP ?_);refine af ?_;refine cl Kj ?_;refine cl qx ?_;refine SS ?_;refine bk (by simp[apartT]) (cU (mj (mL rfl rfl uY rU (mw oP) t231 oP) ?_));simp[fT,h]
 .refine af ?_;refine ab (mj (mL rfl rfl uY rU (mw oP) t231 oP) ?_);simp[fT,h]
set_option maxHeartbeats 1000000 in
theorem nj{b:bP}{w:List Int}(hw:w.length=20)(hl:b.ins.length<=100000)(hi:∀ x∈b.ins,oV x)(hf:Ak b.fin)(fM:∀ x∈b.ins,(cr x).length<=100000)(hD:(cn b.fin).length<=100000):PCall prog 198 [.agg (eC b),gk w] (.tup [gk (iH b w).1,B (iH b w).2]):=by
 have aW:∀ a∈[D.agg (eC b),gk w],Tr a:=.cons (.agg (Ng b)) (.cons (qw _) .nil);refine a9 mixed Tw (by rw[afx];rfl) aW (.tup (.cons (qw _) (.cons (.s _) .nil))) ?_;rw[afy,afz];refine ws ?_;refine fX (tk (cs:=eC _) rfl) ak (by first|rfl|exact uw eL fk|exact kS _|exact uN c7) ?_;refine au ?_;refine ab (aw ?_);refine SS ?_;refine ab (aO (aE (l:=[(2,.rp 0 0),(3,.rp 1 0),(4,.rp 2 0),(6,B true)]) (ml:=[(0,.cells (eC b) 72),(1,.cells (w.map cz) 231),(2,.cells (List.replicate 20 (cz 0)) 231)]) eH eH) (aC (aw ?_)));refine aP ?_
 refine ab (bO (fun s=>∃ n',3<=n'/\Ghost prog s ⟨az [(2,.rp 0 0),(3,.rp 1 0),(4,.rp 2 0),(6,B (ke b.ins w).2)],aY [(0,.cells (eC b) 72),(1,.cells ((ke b.ins w).1.map cz) 231),(2,.cells (List.replicate 20 (cz 0)) 231)],n'⟩) (dK (α:=Nat×Nat)
  (fun k=>⟨az [(2,.rp 0 0),(3,.rp 1 0),(4,.rp 2 0),(6,B (ke (b.ins.take k.1) w).2),(14,gp b.ins),(15,I b.ins.length),(16,I k.1)],aY [(0,.cells (eC b) 72),(1,.cells ((ke (b.ins.take k.1) w).1.map cz) 231),(2,.cells (List.replicate 20 (cz 0)) 231)],k.2⟩)
  (fun k=>k.1<=b.ins.length/\3<=k.2) (fun k=>b.ins.length - k.1) (0,3) (aE eH eH) ⟨by simp,by simp⟩ ?_) ?_)
 .rintro⟨k,N⟩ ⟨hk,hN⟩;dsimp only at hk hN ⊢;refine SS ?_;refine ab ⟨_,rfl,fun h=>?_,fun h=>?_⟩
  .have ao:k<b.ins.length:=by simpa using h
   have hx:b.ins[k]? =some b.ins[k]:=by simp[ao]
   have iB:b.ins[k]∈b.ins:=List.getElem_mem ao;generalize b.ins[k]=x at hx iB;obtain⟨ird,WZ,iwr,iar⟩:=hi x iB;have C:ke (b.ins.take (k+1)) w=m8 (ke (b.ins.take k) w) x:=iG hx;have hlen:(ke (b.ins.take k) w).1.length=20:=by rw[H4,hw]
   generalize ke (b.ins.take k) w=u at C hlen;obtain⟨v,ok⟩:=u;dsimp only at hlen ⊢;refine ws ?_;refine aP ?_;refine ab (aC (aw ?_));have Az:=Az (x:=x) iar;refine SS ?_;refine cl Az ?_;refine af ?_;have aqK:=fM x iB
   refine ab (bO (fun s=>Ghost prog s ⟨az [(2,.rp 0 0),(3,.rp 1 0),(4,.rp 2 0),(6,B (iK v ok (cr x))),(8,.rp N 0),(14,gp b.ins),(15,I b.ins.length),(16,I k)],up (aY [(0,.cells (eC b) 72),(1,.cells (v.map cz) 231),(2,.cells (List.replicate 20 (cz 0)) 231)]) N (some (.cells (bl x) 66)),N+1⟩) (dK (α:=Nat)
    (fun j=>⟨az [(2,.rp 0 0),(3,.rp 1 0),(4,.rp 2 0),(6,B (iK v ok ((cr x).take j))),(8,.rp N 0),(14,gp b.ins),(15,I b.ins.length),(16,I k),(21,ax (cr x)),(22,I (cr x).length),(23,I j)],up (aY [(0,.cells (eC b) 72),(1,.cells (v.map cz) 231),(2,.cells (List.replicate 20 (cz 0)) 231)]) N (some (.cells (bl x) 66)),N+1⟩)
    (fun j=>j<=(cr x).length) (fun j=>(cr x).length - j) 0 (jC eH (lH _ _ _ _)) oG ?_) ?_)
   .intro j hj;refine SS ?_;refine ab ⟨_,rfl,fun h=>?_,fun h=>?_⟩
    .have J:j<(cr x).length:=by simpa using h
     have hr:(cr x)[j]? =some (cr x)[j]:=by simp[J]
     have U:(cr x)[j]∈cr x:=List.getElem_mem J;generalize (cr x)[j]=r at hr U;have X:=ird r U;obtain⟨M,rfl⟩:=Int.eq_ofNat_of_zero_le X.1;have kT:=kT (w:=v) (m:=M) hlen oG;refine ws ?_;refine au ?_;refine ab (dz ?_);refine aP ?_;refine gc kT ?_;refine af ?_;refine ab ?_;refine af ?_;refine ab (aJ (j+1) (av ⟨rfl,rfl,rfl,?_,rfl,rfl,rfl,rfl,rfl,rfl,rfl,trivial⟩) oG oG)
     have e:iK v ok ((cr x).take (j+1))=(iK v ok ((cr x).take j)&&lR v M):=by
      unfold iK;rw[iG hr,Int.toNat_natCast]
     rw[e];generalize iK v ok ((cr x).take j)=g;cases g<;>rfl
    .have aX:¬ j<(cr x).length:=by simpa using h
     refine av ⟨rfl,rfl,rfl,?_,rfl,rfl,rfl,rfl,trivial⟩;show B _=B _;rw[List.take_of_length_le oG]
   .intro s hg;have C:ke (b.ins.take (k+1)) w=(wc v x,iK v ok (cr x)&&(x.op !=17||lR v (jV x.n).toNat)):=C;generalize iK v ok (cr x)=Lj at hg C;have CR:=CR (w:=v) (x:=x) hlen (fun h=>WZ (.inr h)) (fun _=>by omega);have fin:∀ (d:Bool) env,d=(Lj&&(x.op !=17||lR v (jV x.n).toNat))->lz [(2,.rp 0 0),(3,.rp 1 0),(4,.rp 2 0),(6,B d),(8,.rp N 0),(14,gp b.ins),(15,I b.ins.length),(16,I k)] env->True:=fun _ _ _ _=>trivial;refine⟨_,hg,?_⟩;cases Lj with
    |false=>
     have uZ:false=true->PCall prog 244 [I x.n] (I (jV x.n)):=fun h=>by cases h
     have kT:false=true->PCall prog 200 [gk v,I (jV x.n)] (B true):=fun h=>by cases h
     refine dm Ht ?_;refine aL ?_;refine Cq rfl rfl rfl (fun hc=>⟨ak,uZ hc⟩) ?_;refine Cq rfl rfl rfl (fun hc=>⟨ak,kT hc⟩) ?_;refine au ?_;refine bk (by simp[apartT]) (dz ?_);refine af ?_;refine cl CR ?_;refine SS ?_;refine ab ?_;refine af ?_;refine ab (aJ (k+1,N+1) (aE ⟨rfl,rfl,rfl,?_,rfl,rfl,rfl,trivial⟩ ⟨ap oG (ap oG rfl),?_,ap oG (ap oG rfl),trivial⟩) ⟨by dsimp only;omega,by dsimp only;omega⟩ oM)
     .dsimp only;rw[C];rfl
     .dsimp only;rw[C];exact up_same _ _ _
    |true=>
     by_cases gE:x.op=17
     .have gZ:(x.op !=17)=false:=by simp[gE]
      have aqQ:=WZ (.inl gE);have uZ:=uZ (n:=x.n) oG;obtain⟨sn,ju⟩:=Int.eq_ofNat_of_zero_le (show 0<=jV x.n by unfold jV;omega);have kT:=kT (w:=v) (m:=sn) hlen (by unfold jV at ju;omega);rw[<- ju] at kT;refine dm Ht ?_;refine aP ?_;refine Vk ?_;refine aP ?_;refine gc uZ ?_;refine gc kT ?_;refine au ?_;refine bk (by simp[apartT]) (dz ?_);refine af ?_;refine cl CR ?_;refine SS ?_;refine ab ?_;refine af ?_;refine ab (aJ (k+1,N+1) (aE ⟨rfl,rfl,rfl,?_,rfl,rfl,rfl,trivial⟩ ⟨ap oG (ap oG rfl),?_,ap oG (ap oG rfl),trivial⟩) ⟨by dsimp only;omega,by dsimp only;omega⟩ oM)
      .dsimp only;rw[C,gZ,ju];rfl
      .dsimp only;rw[C];exact up_same _ _ _
     .have gZ:(x.op !=17)=true:=by simp[gE]
      have uZ:false=true->PCall prog 244 [I x.n] (I (jV x.n)):=fun h=>by cases h
      have kT:false=true->PCall prog 200 [gk v,I (jV x.n)] (B true):=fun h=>by cases h
      refine dm Ht ?_;refine aP ?_;refine Vk ?_;refine SS ?_;(iterate 5 refine z fun _ _=>?_);refine au ?_;refine bk (by simp[apartT]) (dz ?_);refine af ?_;refine cl CR ?_;refine SS ?_;refine ab ?_;refine af ?_;refine ab (aJ (k+1,N+1) (aE ⟨rfl,rfl,rfl,?_,rfl,rfl,rfl,trivial⟩ ⟨ap oG (ap oG rfl),?_,ap oG (ap oG rfl),trivial⟩) ⟨by dsimp only;omega,by dsimp only;omega⟩ oM)
      .dsimp only;rw[C,gZ];rfl
      .dsimp only;rw[C];exact up_same _ _ _
  .have aX:¬ k<b.ins.length:=by simpa using h
   have sf:b.ins.take k=b.ins:=List.take_of_length_le oG;refine⟨N,hN,?_⟩;rw[sf];exact av eH
 .rintro s ⟨n',cE,hg⟩;have hlen:(ke b.ins w).1.length=20:=by rw[H4,hw]
  have DF:iH b w=((ke b.ins w).1,iK (ke b.ins w).1 (ke b.ins w).2 (cn b.fin)):=rfl;rw[DF];generalize ke b.ins w=u at hg hlen ⊢;obtain⟨v,ok⟩:=u;dsimp only at hlen hg ⊢;have Kk:=Kk (x:=b.fin) hf.a1 hf.a2;refine⟨_,hg,aC (aw ?_)⟩;refine af ?_;refine cl Kk ?_;refine af ?_
  refine ab (bO (fun s=>Ghost prog s ⟨az [(3,.rp 1 0),(4,.rp 2 0),(6,B (iK v ok (cn b.fin)))],aY [(1,.cells (v.map cz) 231),(2,.cells (List.replicate 20 (cz 0)) 231)],n'⟩) (dK (α:=Nat)
   (fun j=>⟨az [(3,.rp 1 0),(4,.rp 2 0),(6,B (iK v ok ((cn b.fin).take j))),(53,ax (cn b.fin)),(54,I (cn b.fin).length),(55,I j)],aY [(1,.cells (v.map cz) 231),(2,.cells (List.replicate 20 (cz 0)) 231)],n'⟩)
   (fun j=>j<=(cn b.fin).length) (fun j=>(cn b.fin).length - j) 0 (aE eH eH) oG ?_) ?_)
  .intro j hj;refine SS ?_;refine ab ⟨_,rfl,fun h=>?_,fun h=>?_⟩
   .have J:j<(cn b.fin).length:=by simpa using h
    have hr:(cn b.fin)[j]? =some (cn b.fin)[j]:=by simp[J]
    have U:(cn b.fin)[j]∈cn b.fin:=List.getElem_mem J;generalize (cn b.fin)[j]=r at hr U;have X:=hf.rd r U;obtain⟨M,rfl⟩:=Int.eq_ofNat_of_zero_le X.1;have kT:=kT (w:=v) (m:=M) hlen oG;refine ws ?_;refine au ?_;refine ab (dz ?_);refine af ?_;refine bG rfl rfl (dU rfl rfl V.h V.h (mw (by first|rfl|exact Nat.le_of_ble_eq_true rfl|(simp;done)|(simp;omega)|omega))) (fun hc=>⟨ak,(dV V.h V.h (by first|rfl|exact Nat.le_of_ble_eq_true rfl|(simp;done)|(simp;omega)|omega))⟩) ?_;refine SS ?_;refine gc kT ?_;refine af ?_;refine ab ?_;refine af ?_;refine ab (aJ (j+1) (av ⟨rfl,rfl,?_,rfl,rfl,rfl,trivial⟩) oG oG)
    have e:iK v ok ((cn b.fin).take (j+1))=(iK v ok ((cn b.fin).take j)&&lR v M):=by
     unfold iK;rw[iG hr,Int.toNat_natCast]
    rw[e];generalize iK v ok ((cn b.fin).take j)=g;cases g<;>rfl
   .have aX:¬ j<(cn b.fin).length:=by simpa using h
    refine av ⟨rfl,rfl,?_,trivial⟩;show B _=B _;rw[List.take_of_length_le oG]
  .intro s hg;refine⟨_,hg,aj ?_⟩;refine aP ?_;exact ab (YI (mL rfl rfl uY rU (mw oP) t231 oP) rfl rfl)
end Go.Proofs.Tryz.K
end
namespace Go.Argus
open Go.Abs
theorem Zs{l:List Int}{j:Nat}(hj:j+1<l.length){x:Int}:x∈swapAt l j↔x∈l:=by
 have ha:l.getD j 0=l[j]:=by simp[List.getD_eq_getElem?_getD,List.getElem?_eq_getElem (show j<l.length by omega)]
 have hb:l.getD (j+1) 0=l[j+1]:=by simp[List.getD_eq_getElem?_getD,List.getElem?_eq_getElem hj]
 unfold swapAt;rw[ha,hb];exact(List.set_set_perm (show j+1<l.length from hj) (show j<l.length by omega)).mem_iff
theorem Oy{x:Int}:∀ (j:Nat) {l:List Int},j<l.length->(x∈mB l j↔x∈l)
 |0,l,_=>Iff.rfl
 |j+1,l,hj=>by
  simp only[mB];split
  .exact(Oy j oP).trans (Zs hj)
  .exact Iff.rfl
theorem NF{l:List Int}{x:Int}:∀ k,k<l.length->(x∈kN l k↔x∈l)
 |0,_=>Iff.rfl
 |k+1,h=>by
  simp only[kN];exact(Oy (k+1) (by simpa using h)).trans (NF k oG)
theorem aaA{l:List Int}{x:Int}:x∈eN l↔x∈l:=by
 unfold eN;cases l with
 |nil=>simp[kN]
 |cons a l=>exact NF _ oS
theorem El{l:List Int}{x:Int}:x∈zR l↔x∈l:=by
 unfold zR eD;rw[BQ (Nat.le_refl _),List.take_length];exact aaA
theorem wrap_u64{n:Nat}(h:n<2 ^ 64):IntKind.u64.wrap (n:Int)=n:=by
 unfold IntKind.wrap;simp[IntKind.signed,IntKind.bits];omega
theorem acn{a b:Int}(ha:0<=a/\a<18446744073709551616):0<=pg a b/\pg a b<=a:=by
 unfold pg intBitsV;simp only;rw[wrap_u64 (n:=(BitVec.ofInt IntKind.u64.bits a&&& BitVec.ofInt IntKind.u64.bits b).toNat) (BitVec.isLt (w:=64) _)];obtain⟨n,rfl⟩:=Int.eq_ofNat_of_zero_le ha.1
 have h1:(BitVec.ofInt IntKind.u64.bits (n:Int)).toNat=n:=by
  rw[BitVec.toNat_ofInt];show((n:Int) % ((2 ^ 64:Nat):Int)).toNat=n;omega
 have h2:(BitVec.ofInt IntKind.u64.bits (n:Int)&&& BitVec.ofInt IntKind.u64.bits b).toNat<=n:=by
  rw[BitVec.toNat_and,h1];exact Nat.and_le_left
 omega
end Go.Argus
section
open Go Go.Abs Go.Proofs Go.Argus
namespace Go.Abs
section
variable{P:Program}{env:Env}{m:Mem}{nx:Nat}{x y:Operand}{t p:TypeId}{k:IntKind}{n n':Int}
theorem BO{j i l sz:Nat}{e:TypeId}{r:Row}(hx:(opd env x).core=.rs j 0 l)(hy:(opd env y).core=.s (.int k (i:Int)))(hm:m j=some r)(he:elemP P t=e)(C:P.cellsOf e=sz):
 Ef P (.indexAddr t x y) env m nx ⟨slT P t=true/\i<l,.rp j (i*sz),[],[j],0⟩:=by
 have h:=IV (P:=P) (env:=env) (m:=m) (nx:=nx) (t:=t) hx hy hm he C;have h1:0+((i:Int)).toNat*sz=i*sz:=by simp
 have h2:(slT P t=true/\(0:Int)<=(i:Int)/\(i:Int)<l)=(slT P t=true/\i<l):=by
  apply propext;constructor
  .rintro⟨a,_,b⟩;exact⟨a,by omega⟩
  .rintro⟨a,b⟩;exact⟨a,by omega,by omega⟩
 rw[h1,h2] at h;exact h
theorem aa8{ps:Array (Nat×Operand)}{e:TypeId}{l:Nat}{z:List D}(C:P.underlying t=some (.array l e))(hp:ps.toList=[])(J:zeroP P t=z):Ef P (.build t ps) env m nx ⟨tyOk P t=true/\tyOk P e=true,.agg z,[],[],0⟩:=by
 refine⟨?_,rfl,rfl⟩;simp only[aop,C,hp,J,List.map_nil,fillD,Option.map_some]
theorem afA{xs ys:List D}{us vs:List Value}{C:List Nat}(hx:(opd env x).core=.agg xs)(hy:(opd env y).core=.agg ys)(hf:flatT P t=some C)(J:zipV xs ys=some (us,vs)){c:Bool}(hc:(!veqs us vs)=c):
 Ef P (.binOp .neq t x y p) env m nx ⟨us.map kindV=C/\P.eqGuardType P.depth t=false,.s (.bool c),[],[],0⟩:=by
 refine⟨?_,rfl,rfl⟩
 have hn:nilD P m .neq t (.agg xs) y=none:=by
  unfold nilD;split<;>first|rfl|(rename_i h;cases h)
 simp only[aop,rho,hx,hy,hn,binD,aggEqD,hf,J,hc,Option.map_some]
end
def vd(cs:List D):Prop:=∀ d∈cs,∃ v,d=.s v
theorem vd.map{α:Type}{f:α->Value}{l:List α}:vd (l.map fun x=>.s (f x)):=fun d hd=>by
 obtain⟨x,_,rfl⟩:=List.mem_map.1 hd;exact⟨_,rfl⟩
theorem afB{i sz:Nat}{cs0 cs:List D}(h:vd cs):cs.map (sub (fz0 i cs0 sz))=cs:=by
 induction cs with
 |nil=>rfl
 |cons d cs ih=>
  obtain⟨v,rfl⟩:=h d oS;rw[List.map_cons,ih fun d hd=>h d (by simp[hd])];rfl
theorem IF{m:Mem}{i j sz:Nat}{cs0 cs:List D}{e:TypeId}(C:j≠i)(hm:m j=some (.cells cs e))(h:vd cs):(if j=i then none else(m j).map (Row.sub (fz0 i cs0 sz)))=some (.cells cs e):=by
 rw[if_neg C,hm];show some (Row.cells (cs.map _) e)=_;rw[afB h]
theorem ads{i sz n:Nat}{cs0 es:List D}:sub (fz0 i cs0 sz) (.sl es n)=.sl es n:=rfl
theorem zF{i j sz off n:Nat}{cs0:List D}(h:j≠i):sub (fz0 i cs0 sz) (.rs j off n)=.rs j off n:=by
 show(if j=i then _ else D.rs j off n)=_;rw[if_neg h]
theorem iY{i sz n:Nat}{cs0:List D}(h:cs0.length=n*sz):sub (fz0 i cs0 sz) (.rs i 0 n)=.sl cs0 n:=by
 show(if i=i then D.sl ((cs0.drop 0).take (n*sz)) n else _)=_;rw[if_pos rfl,List.drop_zero,List.take_of_length_le oG]
end Go.Abs
namespace Go.Proofs.Tryz.K
set_option maxRecDepth 10000
theorem afC:flatT prog 231=some (List.replicate 20 0):=kr
theorem afD:prog.eqGuardType prog.depth 231=false:=kr
theorem afE:zeroP prog 231=(List.replicate 20 (0:Int)).map cz:=Vl
theorem alD:prog.underlying 231=some (.array 20 98):=kr
section
variable{env:Env}{m:Mem}{nx:Nat}{x y:Operand}{p:TypeId}
theorem afF{w v:List Int}(hx:(opd env x).core=gk w)(hy:(opd env y).core=gk v)(h:w.length=v.length):Ef prog (.binOp .neq 231 x y p) env m nx ⟨(w.map (Value.int .u64)).map kindV=List.replicate 20 0/\prog.eqGuardType prog.depth 231=false,B (w !=v),[],[],0⟩:=
 afA hx hy afC (Of h) (by rw[Og h];rfl)
theorem afG{w:List Int}(h:w.length=20):(w.map (Value.int .u64)).map kindV=List.replicate 20 0/\prog.eqGuardType prog.depth 231=false:=⟨by rw[ZQ,h],afD⟩
end
end Go.Proofs.Tryz.K
namespace Go.Argus
open Go.Proofs.Tryz.K (nextR)
structure CS where
 ws:List (List Int)
 re:List Bool
 ch:Bool
def cw(x:End)(w:List Int)(s:CS)(n:Int):CS:=
 if s.re.getD n.toNat false=false\/gv (s.ws.getD n.toNat []) (fT x n w)≠s.ws.getD n.toNat [] then⟨s.ws.set n.toNat (gv (s.ws.getD n.toNat []) (fT x n w)),s.re.set n.toNat true,true⟩ else s
def df(bs:List bP)(s:CS)(k:Nat):CS:=match bs[k]? with
 |none=>s
 |some x=>if s.re.getD k false=true then(nextR x.fin).foldl (cw x.fin (iH x (s.ws.getD k [])).1) s else s
def jE(bs:List bP)(s:CS):CS:=(List.range bs.length).foldl (df bs) ⟨s.ws,s.re,false⟩
def l9(bs:List bP):Nat->CS->CS
 |0,s=>s
 |k+1,s=>if(jE bs s).ch=true then l9 bs k (jE bs s) else jE bs s
def kf:Int:=18446744073709551615
def gW:Nat->List Int
 |0=>List.replicate 20 0
 |k+1=>gu (gW k) k
@[simp] theorem Nh : ∀ k, (gW k).length = 20
 |0=>rfl
 |k+1=>by simp[gW,Nh k]
def jF(n args:Nat):CS:=⟨(List.replicate n (List.replicate 20 kf)).set 0 (gW args),(List.replicate n false).set 0 true,true⟩
def dC(u:Int):Prop:=0<=u/\u<18446744073709551616
structure fj(n:Nat)(s:CS):Prop where
 lw:s.ws.length=n
 lr:s.re.length=n
 jA:∀ w∈s.ws,w.length=20
 rg:∀ w∈s.ws,∀ u∈w,dC u
def mC(w:List Int):Nat:=(w.map Int.toNat).sum
def pK(s:CS):Nat:=(s.ws.map mC).sum+s.re.count false
def nA(s:CS):Nat:=pK s+if s.ch=true then 1 else 0
theorem OX{l:List Nat}{k x y:Nat}(h:l[k]? =some x):(l.set k y).sum+x=l.sum+y:=by
 induction l generalizing k with
 |nil=>simp at h
 |cons a l ih=>cases k with
  |zero=>simp at h;subst h;simp;omega
  |succ k=>have:=ih (k:=k) (by simpa using h);simp;omega
theorem aa9{l:List Int}{k:Nat}{x y:Int}(h:l[k]? =some x):mC (l.set k y)+x.toNat=mC l+y.toNat:=by
 unfold mC;rw[List.map_set];exact OX (by simp[h])
theorem Ni{a b:Int}(h:dC a):dC (pg a b)/\pg a b<=a:=by
 have:=acn (b:=b) h;exact⟨⟨this.1,by unfold dC at h;omega⟩,this.2⟩
theorem aa'{α:Type}{l:List α}{k:Nat}{x:α}(h:l[k]? =some x):l.set k x=l:=by
 apply List.ext_getElem?;intro i;rw[List.getElem?_set];split
 .rename_i e;subst e;rw[if_pos (List.getElem?_eq_some_iff.1 h).1,h]
 .rfl
theorem Oh{w v:List Int}(M:∀ u∈w,dC u):∀ k,k<=w.length->(∀ u∈eJ w v k,dC u)/\mC (eJ w v k)<=mC w/\(eJ w v k≠w->mC (eJ w v k)<mC w)
 |0,_=>⟨M,Nat.le_refl _,fun h=>absurd rfl h⟩
 |k+1,hk=>by
  obtain⟨h1,h2,h3⟩:=Oh (v:=v) M k oG;have hl:k<(eJ w v k).length:=by simp;omega
  have hx:(eJ w v k)[k]? =some (eJ w v k)[k]:=List.getElem?_eq_getElem hl;have hg:(eJ w v k).getD k 0=(eJ w v k)[k]:=by simp[List.getD_eq_getElem?_getD,hx]
  have hm:=h1 _ (List.getElem_mem hl);simp only[eJ,hg];generalize (eJ w v k)[k]=a at hx hm;obtain⟨C,X⟩:=Ni (b:=v.getD k 0) hm;generalize pg a (v.getD k 0)=y at C X;have hs:=aa9 (y:=y) hx;unfold dC at C hm;refine⟨fun u U=>?_,by omega,fun J=>?_⟩
  .rcases List.mem_or_eq_of_mem_set U with h|h
   .exact h1 u h
   .subst h;exact C
  .by_cases e:y=a
   .subst e;have:(eJ w v k).set k y=eJ w v k:=aa' hx;rw[this] at J ⊢;exact h3 J
   .omega
theorem aba{l:List (List Int)}{k:Nat}{w v:List Int}(h:l[k]? =some w):((l.set k v).map mC).sum+mC w=(l.map mC).sum+mC v:=by
 rw[List.map_set];exact OX (by simp[h])
theorem count_set{l:List Bool}{k:Nat}{b:Bool}(h:l[k]? =some b):(l.set k true).count false+(if b=true then 0 else 1)=l.count false:=by
 induction l generalizing k with
 |nil=>simp at h
 |cons a l ih=>cases k with
  |zero=>simp at h;subst h;cases a<;>simp
  |succ k=>have:=ih (k:=k) (by simpa using h);simp only[List.set_cons_succ,List.count_cons];omega
theorem En{x:End}{w:List Int}{s:CS}{n:Nat}{t:Int}(U:fj n s)(ht:0<=t/\t<n):fj n (cw x w s t)/\nA (cw x w s t)<=nA s:=by
 obtain⟨lw,lr,jA,rg⟩:=U;obtain⟨k,rfl⟩:=Int.eq_ofNat_of_zero_le ht.1;have hk:k<n:=by omega
 have hx:s.ws[k]? =some s.ws[k]:=List.getElem?_eq_getElem oG;have hb:s.re[k]? =some s.re[k]:=List.getElem?_eq_getElem oG;have M:s.ws.getD k []=s.ws[k]:=by simp[List.getD_eq_getElem?_getD,hx]
 have J:s.re.getD k false=s.re[k]:=by simp[List.getD_eq_getElem?_getD,hb]
 have hm:s.ws[k]∈s.ws:=List.getElem_mem _;unfold cw;simp only[Int.toNat_natCast,M,J];generalize s.ws[k]=v at hx hm;generalize s.re[k]=b at hb;have X:=jA v hm;obtain⟨m1,C,m3⟩:=Oh (v:=fT x k w) (rg v hm) 20 oG;have hl:=Nj v (fT x k w)
 change (∀ u∈gv v (fT x k w),dC u) at m1
 change mC (gv v (fT x k w))<=mC v at C
 change gv v (fT x k w)≠v->mC (gv v (fT x k w))<mC v at m3
 generalize gv v (fT x k w)=u at m1 C m3 hl;split
 .rename_i hc;refine⟨⟨by simp[lw],by simp[lr],IE jA oG,fun y hy=>?_⟩,?_⟩
  .rcases List.mem_or_eq_of_mem_set hy with h|h
   .exact rg y h
   .subst h;exact m1
  .have h1:=aba (v:=u) hx;have h2:=count_set hb;unfold nA pK;simp only[if_true];rcases hc with hc|hc
   .subst hc;simp only[Bool.false_eq_true,if_false] at h2;omega
   .have:=m3 hc;omega
 .exact⟨⟨lw,lr,jA,rg⟩,Nat.le_refl _⟩
theorem EA{α β:Type}{f:β->α->β}{J:β->Prop}{φ:β->Nat}{l:List α}(h:∀ x∈l,∀ s,J s->J (f s x)/\φ (f s x)<=φ s){s:β}(C:J s):J (l.foldl f s)/\φ (l.foldl f s)<=φ s:=by
 induction l generalizing s with
 |nil=>exact⟨C,Nat.le_refl _⟩
 |cons x l ih=>
  obtain⟨h1,h2⟩:=h x oS s C;obtain⟨h3,h4⟩:=ih (fun y hy=>h y (by simp[hy])) h1;exact⟨h3,Nat.le_trans h4 h2⟩
theorem vP(x:End):(nextR x).length<=x.aI.length+3:=by
 have h1:=IC (d:=eN (cM x)) (eN (cM x)).length;have h2:=IB x;rw[HA] at h1;exact Nat.le_trans (by simpa[nextR,zR,eD] using h1) h2
structure rK(n:Nat)(b:bP):Prop where
 len:b.ins.length<=100000
 ins:∀ x∈b.ins,oV x
 fin:Ak b.fin
 rl:∀ x∈b.ins,(cr x).length<=100000
 rf:(cn b.fin).length<=100000
 to:∀ t∈nextR b.fin,0<=t/\t<n
theorem H5{bs:List bP}{s:CS}{n k:Nat}(hb:∀ b∈bs,rK n b)(C:fj n s):fj n (df bs s k)/\nA (df bs s k)<=nA s:=by
 unfold df;split
 .exact⟨C,Nat.le_refl _⟩
 .rename_i x hx;split
  .exact EA (J:=fj n) (φ:=nA) (fun t ht s C=>En C ((hb x (List.mem_of_getElem? hx)).to t ht)) C
  .exact⟨C,Nat.le_refl _⟩
theorem Br{bs:List bP}{s:CS}{n:Nat}(hb:∀ b∈bs,rK n b)(C:fj n s):fj n (jE bs s)/\nA (jE bs s)<=pK s:=by
 have:=EA (J:=fj n) (φ:=nA) (f:=df bs) (l:=List.range bs.length) (fun k _ s C=>H5 hb C) (s:=⟨s.ws,s.re,false⟩) ⟨C.lw,C.lr,C.jA,C.rg⟩;exact this
def gI(bs:List bP)(args:Nat):CS:=l9 bs (pK (jF bs.length args)+1) (jF bs.length args)
theorem getD_some{α:Type}{l:List α}{k:Nat}{x d:α}(h:l[k]? =some x):l.getD k d=x:=by simp[List.getD_eq_getElem?_getD,h]
theorem E3{α:Type}{n k:Nat}{x y:α}(hk:k<n):(List.replicate k x++List.replicate (n - k) y).set k x=List.replicate (k+1) x++List.replicate (n - (k+1)) y:=by
 rw[show n - k=n - (k+1)+1 by omega,List.replicate_succ,List.replicate_succ',List.append_assoc,List.singleton_append];rw[List.set_append];simp
theorem abb{α:Type}{a b:Nat}{x y z:α}(h:z∈List.replicate a x++List.replicate b y):z=x\/z=y:=by
 rcases List.mem_append.1 h with h|h
 .exact .inl (List.eq_of_mem_replicate h)
 .exact .inr (List.eq_of_mem_replicate h)
theorem YC{x:End}{w v:List Int}{s:CS}{k:Nat}{b:Bool}(hx:s.ws[k]? =some v)(hb:s.re[k]? =some b)(h:b=false\/gv v (fT x k w)≠v):cw x w s k=⟨s.ws.set k (gv v (fT x k w)),s.re.set k true,true⟩:=by
 unfold cw;rw[Int.toNat_natCast,getD_some hx,getD_some hb,if_pos h]
theorem YV{x:End}{w v:List Int}{s:CS}{k:Nat}{b:Bool}(hx:s.ws[k]? =some v)(hb:s.re[k]? =some b)(h:¬ (b=false\/gv v (fT x k w)≠v)):cw x w s k=s:=by
 unfold cw;rw[Int.toNat_natCast,getD_some hx,getD_some hb,if_neg h]
theorem Hj{n args:Nat}(ha:∀ u∈gW args,dC u):fj n (jF n args):=by
 refine⟨by simp[jF],by simp[jF],IE (fun w J=>by rw[List.eq_of_mem_replicate J];simp) oS,fun w J u C=>?_⟩;rcases List.mem_or_eq_of_mem_set J with h|h
 .rw[List.eq_of_mem_replicate h] at C;rw[List.eq_of_mem_replicate C];simp[dC,kf]
 .rw[h] at C;exact ha u C
end Go.Argus
namespace Go.Proofs.Tryz.K
set_option maxRecDepth 10000
set_option maxHeartbeats 2000000 in
theorem AA{p q:D}{f:aF}{n args:Nat}(hp:Tr p)(hq:Tr q)(eL:p.one=true)(fk:q.one=true)(hn:f.blocks.length=n)(lY:0<n)(jR:n<=100000)(ha:f.args=args)(sj:args<=1000)(A9:∀ u∈gW args,dC u)(hb:∀ b∈f.blocks,rK n b):
 PCall prog 197 [.agg (bg p q f)] (.tup [.sl (cy (gI f.blocks args).ws) n,.sl ((gI f.blocks args).re.map B) n]):=by
 have aW:∀ a∈[D.agg (bg p q f)],Tr a:=.cons (mh hp hq f) .nil;refine a9 mixed Tx (by rw[afH];rfl) aW (.tup (.cons (.sl (adr _)) (.cons (.sl (.map fun _=>.s _)) .nil))) ?_;rw[afI,afJ];refine aw ?_;refine au ?_;refine ab (aO (bw [(0,bg p q f,133)] eH (l:=[(1,.pt (bg p q f))]) eH) (qS ZR ?_));refine aP ?_;refine fX (zH rfl rfl V.h V.h) ak ⟨by omega,rfl,by omega,by rw[Vm];omega,V.h⟩ ?_;refine c8 ?_;have cE:((f.blocks.length:Nat):Int).toNat=n:=hn;refine bk (by simp[apartT]) (aO (aE (l:=[(1,.pt (bg p q f)),(4,.rs 1 0 n),(5,.rs 2 0 n)]) (ml:=[(1,.cells (cy (List.replicate n (List.replicate 20 0))) 231),(2,.cells ((List.replicate n false).map B) 4)]) ⟨rfl,?_,?_,trivial⟩ ⟨?_,?_,trivial⟩) (aC (aw ?_)))
 .exact congrArg (fun k=>D.rs 1 0 k) cE
 .exact congrArg (fun k=>D.rs 2 0 k) cE
 .exact congrArg (fun c=>some (Row.cells c 231)) ((congrArg (fun k=>replD k ((List.replicate 20 (0:Int)).map cz)) cE).trans (aa7 n (List.replicate 20 0)))
 .exact congrArg (fun c=>some (Row.cells c 4)) ((congrArg (fun k=>replD k [B false]) cE).trans (uB n false))
 refine au ?_
 refine ab (bO (fun s=>Ghost prog s ⟨az [(1,.pt (bg p q f)),(4,.rs 1 0 n),(5,.rs 2 0 n)],aY [(1,.cells (cy (List.replicate n (List.replicate 20 kf))) 231),(2,.cells ((List.replicate n false).map B) 4)],3⟩) (dK (α:=Nat)
  (fun k=>⟨az [(1,.pt (bg p q f)),(4,.rs 1 0 n),(5,.rs 2 0 n),(27,I n),(28,I k)],aY [(1,.cells (cy (List.replicate k (List.replicate 20 kf)++List.replicate (n - k) (List.replicate 20 0))) 231),(2,.cells ((List.replicate n false).map B) 4)],3⟩)
  (fun k=>k<=n) (fun k=>n - k) 0 (aE eH eH) oG ?_) ?_)
 .intro k hk;refine SS ?_;refine ab ⟨_,rfl,fun h=>?_,fun h=>?_⟩
  .have ao:k<n:=by simpa using h
   have ni:=E3 (x:=List.replicate 20 kf) (y:=List.replicate 20 (0:Int)) ao
   have hi:(List.replicate k (List.replicate 20 kf)++List.replicate (n - k) (List.replicate 20 (0:Int)))[k]? =some (List.replicate 20 0):=by
    rw[List.getElem?_append_right oS,List.length_replicate,Nat.sub_self,show n - k=n - (k+1)+1 by omega,List.replicate_succ];rfl
   have A':∀ w∈List.replicate k (List.replicate 20 kf)++List.replicate (n - k) (List.replicate 20 (0:Int)),w.length=20:=fun w X=>by
    rcases abb X with h|h<;>(rw[h];simp)
   have Kc:PCall prog 241 [] (gk (List.replicate 20 kf)):=Kc;refine ws ?_;refine af ?_;refine ab (dz ?_);refine af ?_;refine cl Kc ?_;refine af ?_;refine ab ?_;refine af ?_;refine ab (aJ (k+1) (aE eH ⟨?_,rfl,trivial⟩) oG oG);rw[<- ni];rfl
  .have aX:¬ k<n:=by simpa using h
   have:k=n:=by omega
   subst this;refine aE eH ⟨?_,rfl,trivial⟩;show some (Row.cells (cy (_++List.replicate (k - k) _)) _)=_;rw[Nat.sub_self,List.replicate_zero,List.append_nil]
 rintro s hg;refine⟨_,hg,aw ?_⟩;have hi:(List.replicate n (List.replicate 20 kf))[0]? =some (List.replicate 20 kf):=by simp[lY]
 have A':∀ w∈List.replicate n (List.replicate 20 kf),w.length=20:=fun w X=>by rw[List.eq_of_mem_replicate X];simp
 refine af ?_;refine aH (aa8 alD rfl afE) ak ⟨V.h,V.h⟩ ?_;refine aP ?_;refine ab (aO (aE (l:=[(1,.pt (bg p q f)),(4,.rs 1 0 n),(5,.rs 2 0 n)]) (ml:=[(1,.cells (cy ((List.replicate n (List.replicate 20 kf)).set 0 (gW 0))) 231),(2,.cells (((List.replicate n false).set 0 true).map B) 4)]) eH ⟨rfl,?_,trivial⟩) (aC (aw ?_)))
 .rw[List.map_set];rfl
 clear hi;refine aP ?_
 refine ab (bO (fun s=>Ghost prog s ⟨az [(1,.pt (bg p q f)),(4,.rs 1 0 n),(5,.rs 2 0 n)],aY [(1,.cells (cy ((List.replicate n (List.replicate 20 kf)).set 0 (gW args))) 231),(2,.cells (((List.replicate n false).set 0 true).map B) 4)],3⟩) (dK (α:=Nat)
  (fun k=>⟨az [(1,.pt (bg p q f)),(4,.rs 1 0 n),(5,.rs 2 0 n),(43,I args),(44,I k)],aY [(1,.cells (cy ((List.replicate n (List.replicate 20 kf)).set 0 (gW k))) 231),(2,.cells (((List.replicate n false).set 0 true).map B) 4)],3⟩)
  (fun k=>k<=args) (fun k=>args - k) 0 (aE ⟨rfl,rfl,rfl,congrArg I ha,rfl,trivial⟩ eH) oG ?_) ?_)
 .intro k hk;refine SS ?_;refine ab ⟨_,rfl,fun h=>?_,fun h=>?_⟩
  .have ao:k<args:=by simpa using h
   have hi:((List.replicate n (List.replicate 20 kf)).set 0 (gW k))[0]? =some (gW k):=by simp[lY]
   have A':=IE (i:=0) A' (Nh k);have qx:=qx (w:=gW k) (n:=(k:Int)) oS oG;refine ws ?_;refine af ?_;refine ab (dz ?_);refine au ?_;refine aH (dU rfl rfl V.h V.h (FN oN oN)) ak (dV V.h V.h (yp oN oN)) ?_;refine SS ?_;refine cl qx ?_;refine af ?_;refine ab ?_;refine af ?_;refine ab (aJ (k+1) (aE eH ⟨?_,rfl,trivial⟩) oG oG);show some (Row.cells (cy ((List.set _ 0 (gW k)).set 0 (gW (k+1)))) _)=_;rw[List.set_set]
  .have aX:¬ k<args:=by simpa using h
   have:k=args:=by omega
   subst this;exact av eH
 clear A';rintro s hg;refine⟨_,hg,aC (aw ?_)⟩;refine SS ?_;have DG:=Hj (n:=n) A9;have hR:gI f.blocks args=l9 f.blocks (pK (jF n args)+1) (jF n args):=by rw[gI,hn]
 generalize gI f.blocks args=R at hR ⊢
 refine ab (bO (fun s=>∃ n',Ghost prog s ⟨az [(4,.rs 1 0 n),(5,.rs 2 0 n)],aY [(1,.cells (cy R.ws) 231),(2,.cells (R.re.map B) 4)],n'⟩/\fj n R) (uA (α:=CS×Nat)
  (fun s=>⟨az [(1,.pt (bg p q f)),(4,.rs 1 0 n),(5,.rs 2 0 n),(8,B s.1.ch)],aY [(1,.cells (cy s.1.ws) 231),(2,.cells (s.1.re.map B) 4)],s.2⟩)
  (fun s=>fj n s.1/\3<=s.2/\(s.1.ch=true->∃ k,pK s.1<k/\l9 f.blocks k s.1=R)/\(s.1.ch=false->s.1=R)) (fun s=>2*pK s.1+if s.1.ch=true then 1 else 0) (jF n args,3)
  (aE eH eH) ⟨DG,Nat.le_refl _,fun _=>⟨_,Nat.lt_succ_self _,hR.symm⟩,fun h=>by cases h⟩ ?_) ?_)
 .rintro⟨C,N0⟩ ⟨yD,lh,xq,wJ⟩;dsimp only at yD lh xq wJ ⊢;refine SS ?_;refine ab ⟨_,rfl,fun h0=>?_,fun h=>?_⟩
  .obtain⟨iA,afK,CC⟩:=xq h0;obtain⟨iA,rfl⟩:∃ j,iA=j+1:=⟨iA - 1,by omega⟩
   have CD:=Br hb yD;refine ws ?_;refine SS ?_;refine ab (aw ?_);refine aK ?_
   refine ab (dK (α:=Nat×Nat)
    (fun k=>⟨az [(1,.pt (bg p q f)),(4,.rs 1 0 n),(5,.rs 2 0 n),(8,B ((List.range k.1).foldl (df f.blocks) ⟨C.ws,C.re,false⟩).ch),(58,eZ f.blocks),(59,I n),(60,I k.1)],aY [(1,.cells (cy ((List.range k.1).foldl (df f.blocks) ⟨C.ws,C.re,false⟩).ws) 231),(2,.cells (((List.range k.1).foldl (df f.blocks) ⟨C.ws,C.re,false⟩).re.map B) 4)],k.2⟩)
    (fun k=>k.1<=n/\3<=k.2) (fun k=>n - k.1) (0,N0) (aE ⟨rfl,rfl,rfl,rfl,rfl,congrArg (fun k:Nat=>I k) hn,rfl,trivial⟩ eH) ⟨Nat.zero_le _,lh⟩ ?_)
   rintro⟨k,N⟩ ⟨hk,hN⟩;dsimp only at hk hN ⊢;have bB:=(EA (J:=fj n) (φ:=nA) (f:=df f.blocks) (l:=List.range k) (fun k _ s hs=>H5 hb hs) (s:=⟨C.ws,C.re,false⟩) ⟨yD.lw,yD.lr,yD.jA,yD.rg⟩).1;have bC:(List.range (k+1)).foldl (df f.blocks) ⟨C.ws,C.re,false⟩=df f.blocks ((List.range k).foldl (df f.blocks) ⟨C.ws,C.re,false⟩) k:=by rw[List.range_succ,List.foldl_append];rfl
   have fB:k=n->(List.range k).foldl (df f.blocks) ⟨C.ws,C.re,false⟩=jE f.blocks C:=fun e=>by rw[e,jE,hn]
   generalize (List.range k).foldl (df f.blocks) ⟨C.ws,C.re,false⟩=u at bB bC fB;refine SS ?_;refine ab ⟨_,rfl,fun h=>?_,fun h=>?_⟩
   .have ao:k<n:=by simpa using h
    have hx:f.blocks[k]? =some f.blocks[k]:=List.getElem?_eq_getElem oG;have bQ:f.blocks[k]∈f.blocks:=List.getElem_mem _;generalize f.blocks[k]=x at hx bQ;have iE:=hb x bQ;have M:df f.blocks u k=if u.re.getD k false=true then(nextR x.fin).foldl (cw x.fin (iH x (u.ws.getD k [])).1) u else u:=by rw[df,hx]
    have lw:=bB.lw;have lr:=bB.lr;have jA:=bB.jA;have X:u.ws[k]? =some u.ws[k]:=List.getElem?_eq_getElem oG;have iD:u.re[k]? =some u.re[k]:=List.getElem?_eq_getElem oG;rw[getD_some X,getD_some iD] at M;have lZ:=jA _ (List.getElem_mem (h:=by omega):u.ws[k]∈u.ws);generalize u.ws[k]=w at X M lZ;generalize u.re[k]=b at iD M;have kd:=fu (f:=B) iD;refine ws ?_;refine bD ?_;refine ab (aC (aj ?_));refine af ?_;refine aH (nM rfl rfl (ap oG (ap oG rfl)) V.h V.h) ak ⟨V.h,by omega⟩ ?_;refine aH (iI rfl (ap oG (ap oG rfl)) kd V.h) ak (iJ V.h V.h kd) ?_;refine SS ?_;refine ab (bh rfl (fun h=>kF (qj ?_)) fun h=>bS (qS YW ?_))
    .have DH:b=false:=by simpa using h
     subst DH;have M:df f.blocks u k=u:=M;refine af ?_;refine ab (aJ (k+1,N+1) (aE ⟨rfl,rfl,rfl,?_,rfl,rfl,rfl,trivial⟩ ⟨?_,?_,trivial⟩) ⟨by dsimp only;omega,by dsimp only;omega⟩ oM)
     .dsimp only;rw[bC,M];rfl
     .dsimp only;rw[bC,M];exact ap oG (ap oG rfl)
     .dsimp only;rw[bC,M];exact ap oG (ap oG rfl)
    have Ba:b=true:=by simpa using h
    subst Ba;have M:df f.blocks u k=(nextR x.fin).foldl (cw x.fin (iH x w).1) u:=M;have nj:=nj lZ iE.len iE.ins iE.fin iE.rl iE.rf;have ve:=Hf x w;rw[lZ] at ve;generalize DF:iH x w=th at nj ve M;obtain⟨w',Lj⟩:=th;dsimp only at ve nj M;clear kd;refine aH (dU (vs:=eC _) rfl (up_same _ _ _) V.h V.h rfl) ak (dV V.h V.h (by first|(simp;done)|omega|exact Nat.le_of_ble_eq_true rfl)) ?_;refine af ?_;refine aH (BO rfl rfl (ap oG (ap oG (up_same _ _ _))) V.h V.h) ak ⟨V.h,by omega⟩ ?_;refine aH (dU rfl (ap oG (ap oG (up_same _ _ _))) V.h V.h (FN oN oN)) ak (dV V.h V.h (yp oN oN)) ?_;refine cl nj ?_;refine bD ?_;refine bk (by simp[apartT]) (aO (jC (l:=[(1,.pt (bg p q f)),(4,.rs 1 0 n),(5,.rs 2 0 n),(8,B u.ch),(10,.rp N 0),(11,.rp (N+1) 0),(58,eZ f.blocks),(59,I n),(60,I k)]) (m':=up (up (aY [(1,.cells (cy u.ws) 231),(2,.cells (u.re.map B) 4)]) N (some (.cells (eC x) 72))) (N+1) (some (.cells (w'.map cz) 231))) eH (by rw[lH,lH])) (aw ?_));have u6:=u6 (x:=x.fin);have u9:=Rg (x:=x.fin) iE.fin.wh
    change PCall _ _ _ (ax (nextR x.fin)) at u9
    have cS:=iE.to;have ic:=vP x.fin;have GJ:=iE.fin.wh;generalize nextR x.fin=l at u9 M cS ic;refine aH (sP rfl (ap oG (up_same _ _ _)) V.h) ak (qn V.h) ?_;refine aH (dU (vs:=bc _) rfl (ap oG (up_same _ _ _)) V.h V.h rfl) ak (dV V.h V.h (by first|(simp;done)|omega|exact Nat.le_of_ble_eq_true rfl)) ?_;refine cl u6 ?_;refine cl u9 ?_;refine af ?_;have lS:df f.blocks u k=l.foldl (cw x.fin w') u:=M
    refine ab (dK (α:=Nat×Nat)
     (fun j=>⟨az [(1,.pt (bg p q f)),(4,.rs 1 0 n),(5,.rs 2 0 n),(8,B ((l.take j.1).foldl (cw x.fin w') u).ch),(10,.rp N 0),(11,.rp (N+1) 0),(58,eZ f.blocks),(59,I n),(60,I k),(82,ax l),(83,I l.length),(84,I j.1)],up (up (aY [(1,.cells (cy ((l.take j.1).foldl (cw x.fin w') u).ws) 231),(2,.cells (((l.take j.1).foldl (cw x.fin w') u).re.map B) 4)]) N (some (.cells (eC x) 72))) (N+1) (some (.cells (w'.map cz) 231)),j.2⟩)
     (fun j=>j.1<=l.length/\N+2<=j.2) (fun j=>l.length - j.1) (0,N+2) (jC eH rfl) ⟨Nat.zero_le _,Nat.le_refl _⟩ ?_)
    rintro⟨j,N'⟩ ⟨hj,GK⟩;dsimp only at hj GK ⊢;have GL:=(EA (J:=fj n) (φ:=nA) (f:=cw x.fin w') (l:=l.take j) (fun t ht s hs=>En hs (cS t (List.mem_of_mem_take ht))) bB).1;have U:∀ t,l[j]? =some t->(l.take (j+1)).foldl (cw x.fin w') u=cw x.fin w' ((l.take j).foldl (cw x.fin w') u) t:=fun t ht=>iG ht;have jL:j=l.length->(l.take j).foldl (cw x.fin w') u=df f.blocks u k:=fun e=>by rw[lS,List.take_of_length_le oG]
    generalize (l.take j).foldl (cw x.fin w') u=v at GL U jL;clear lw lr jA X iD;have lw:=GL.lw;have lr:=GL.lr;have jA:=GL.jA;refine SS ?_;refine ab ⟨_,rfl,fun h=>?_,fun h=>?_⟩
    .have ct:j<l.length:=by simpa using h
     have ht:l[j]? =some l[j]:=List.getElem?_eq_getElem ct;have nB:=cS _ (List.getElem_mem ct);generalize l[j]=t at ht nB;obtain⟨i,rfl⟩:=Int.eq_ofNat_of_zero_le nB.1;have bd:i<n:=by omega
     have X:v.ws[i]? =some v.ws[i]:=List.getElem?_eq_getElem oG;have iD:v.re[i]? =some v.re[i]:=List.getElem?_eq_getElem oG;have Lk:=jA _ (List.getElem_mem (h:=by omega):v.ws[i]∈v.ws);generalize v.ws[i]=y at X Lk;generalize v.re[i]=b at iD;have kd:=fu (f:=B) iD;have wI:=wI (x:=x.fin) (b:=(i:Int)) (w:=w') ve (by have:=iE.fin.wh;omega) (by have:=iE.fin.wr;omega);have l5:=Nf x.fin i w';rw[ve] at l5;have F4:=F4 Lk l5;have r9:=Nj y (fT x.fin i w');rw[Lk] at r9;have yes:=YC (x:=x.fin) (w:=w') X iD;have no:=YV (x:=x.fin) (w:=w') X iD;generalize gv y (fT x.fin i w')=z at F4 r9 yes no;refine ws ?_;refine au ?_;refine ab (qS YX ?_);refine af ?_;refine aH (BO rfl rfl (ap oG (ap oG (up_same _ _ _))) V.h V.h) ak ⟨V.h,by omega⟩ ?_;refine aH (dU rfl (ap oG (ap oG (up_same _ _ _))) V.h V.h (FN oN oN)) ak (dV V.h V.h (yp oN oN)) ?_;refine aH (sP rfl (ap oG (up_same _ _ _)) V.h) ak (qn V.h) ?_;refine aH (dU (vs:=bc _) rfl (ap oG (up_same _ _ _)) V.h V.h rfl) ak (dV V.h V.h (by first|(simp;done)|omega|exact Nat.le_of_ble_eq_true rfl)) ?_;refine SS ?_;refine aH (dU rfl (up_same _ _ _) V.h V.h (mw (by first|rfl|exact Nat.le_of_ble_eq_true rfl|(simp;done)|(simp;omega)|omega))) ak (dV V.h V.h (by first|rfl|exact Nat.le_of_ble_eq_true rfl|(simp;done)|(simp;omega)|omega)) ?_;refine cl wI ?_;refine cl F4 ?_;refine af ?_;refine bk (by simp[apartT]) (aO (jC (l:=[(1,.pt (bg p q f)),(4,.rs 1 0 n),(5,.rs 2 0 n),(8,B v.ch),(10,.rp N 0),(11,.rp (N+1) 0),(14,I i),(15,.rp N' 0),(58,eZ f.blocks),(59,I n),(60,I k),(82,ax l),(83,I l.length),(84,I j)]) (m':=up (up (up (aY [(1,.cells (cy v.ws) 231),(2,.cells (v.re.map B) 4)]) N (some (.cells (eC x) 72))) (N+1) (some (.cells (w'.map cz) 231))) N' (some (.cells (z.map cz) 231))) eH (lH _ _ _ _)) (dm YY ?_));refine af ?_;refine aH (nM rfl rfl (ap oG (ap oG (ap oG rfl))) V.h V.h) ak ⟨V.h,by omega⟩ ?_;refine aH (iI rfl (ap oG (ap oG (ap oG rfl))) kd V.h) ak (iJ V.h V.h kd) ?_;refine af ?_;refine bG rfl rfl (dU rfl (up_same _ _ _) V.h V.h (mw (by first|rfl|exact Nat.le_of_ble_eq_true rfl|(simp;done)|(simp;omega)|omega))) (fun hc=>⟨ak,(dV V.h V.h (by first|rfl|exact Nat.le_of_ble_eq_true rfl|(simp;done)|(simp;omega)|omega))⟩) ?_;refine af ?_;refine bG rfl rfl (BO rfl rfl (ap oG (ap oG (ap oG (up_same _ _ _)))) V.h V.h) (fun hc=>⟨ak,⟨V.h,by omega⟩⟩) ?_;refine bG rfl rfl (dU rfl (ap oG (ap oG (ap oG (up_same _ _ _)))) V.h V.h (FN oN oN)) (fun hc=>⟨ak,(dV V.h V.h (yp oN oN))⟩) ?_;refine bG rfl rfl (afF rfl rfl (by first|assumption|(simp;omega)|omega)) (fun hc=>⟨ak,(afG (by first|assumption|(simp;omega)|omega))⟩) ?_;refine SS ?_;refine bk (by simp[apartT]) (aq rfl (fun h=>?_) fun h=>?_)
     .have yes:=yes (by
       cases b with
       |false=>exact .inl rfl
       |true=>exact .inr (by simpa using h))
      have U:=(U _ ht).trans yes;clear yes no;refine dz ?_;refine aP ?_;refine aH (dU rfl (up_same _ _ _) V.h V.h (mw (by first|rfl|exact Nat.le_of_ble_eq_true rfl|(simp;done)|(simp;omega)|omega))) ak (dV V.h V.h (by first|rfl|exact Nat.le_of_ble_eq_true rfl|(simp;done)|(simp;omega)|omega)) ?_;refine aH (BO rfl rfl (ap oG (ap oG (ap oG (up_same _ _ _)))) V.h V.h) ak ⟨V.h,by omega⟩ ?_;refine b9 (gR rfl rfl (ap oG (ap oG (ap oG (up_same _ _ _)))) (S7 oC oN oN (by first|assumption|(simp;omega)|(simp;done)))) ak (BE (by first|(simp;omega)|(simp;done)) (yp oN oN) (kS _)) ?_;refine aH (nM rfl rfl (ap oG (ap oG (ap oG (ap oG rfl)))) V.h V.h) ak ⟨V.h,by omega⟩ ?_;refine b9 (eS (d:=.s (.bool _)) (cs':=_) rfl rfl (ap oG (ap oG (ap oG (ap oG rfl)))) rfl rfl) ak (cP V.h V.h (by first|(simp;done)|exact⟨rfl,Nat.le_of_ble_eq_true rfl⟩|(simp;omega)) rfl) ?_;refine SS ?_;refine ab ?_;refine af ?_
      refine ab (aJ (j+1,N'+1) (aE (ml:=[(N+1,.cells (w'.map cz) 231),(N,.cells (eC x) 72),(1,.cells (cy ((l.take (j+1)).foldl (cw x.fin w') u).ws) 231),(2,.cells (((l.take (j+1)).foldl (cw x.fin w') u).re.map B) 4)]) ⟨rfl,rfl,rfl,?_,rfl,rfl,rfl,rfl,rfl,rfl,rfl,rfl,trivial⟩
       ⟨ap oG (ap oG (ap oG (up_same _ _ _))),ap oG (ap oG (ap oG (ap oG (up_same _ _ _)))),ap oG ?_,?_,trivial⟩) ⟨by dsimp only;omega,by dsimp only;omega⟩ oM)
      .dsimp only;rw[U];rfl
      .rw[U];exact up_same _ _ _
      .rw[U];dsimp only;rw[List.map_set];exact up_same _ _ _
     .have no:=no (by
       cases b with
       |false=>simp at h
       |true=>simpa using h)
      have U:=(U _ ht).trans no;refine cg ?_;refine af ?_
      refine ab (aJ (j+1,N'+1) (aE (ml:=[(N+1,.cells (w'.map cz) 231),(N,.cells (eC x) 72),(1,.cells (cy ((l.take (j+1)).foldl (cw x.fin w') u).ws) 231),(2,.cells (((l.take (j+1)).foldl (cw x.fin w') u).re.map B) 4)]) ⟨rfl,rfl,rfl,?_,rfl,rfl,rfl,rfl,rfl,rfl,rfl,rfl,trivial⟩
       ⟨ap oG (up_same _ _ _),ap oG (ap oG (up_same _ _ _)),?_,?_,trivial⟩) ⟨by dsimp only;omega,by dsimp only;omega⟩ oM)
      .dsimp only;rw[U];rfl
      .rw[U];exact ap oG (ap oG (ap oG rfl))
      .rw[U];exact ap oG (ap oG (ap oG rfl))
    .have aX:¬ j<l.length:=by simpa using h
     have vl:=jL oG;subst vl;show AOps _ _ _ _ _ _ _ _ _;refine af ?_;refine ab (aJ (k+1,N') (aE ⟨rfl,rfl,rfl,?_,rfl,rfl,rfl,trivial⟩ ⟨?_,?_,trivial⟩) ⟨by dsimp only;omega,by dsimp only;omega⟩ oM)
     .dsimp only;rw[bC];rfl
     .dsimp only;rw[bC];exact ap oG (ap oG rfl)
     .dsimp only;rw[bC];exact ap oG (ap oG rfl)
   .have aX:¬ k<n:=by simpa using h
    have hl:=fB oG;subst hl;refine aJ (jE f.blocks C,N) (aE eH eH) ⟨bB,hN,fun hc=>?_,fun hc=>?_⟩ ?_
    .refine⟨iA,?_,?_⟩
     .have:=CD.2;unfold nA at this;show pK (jE f.blocks C)<iA;rw[if_pos hc] at this;omega
     .dsimp only at hc ⊢;rw[<- CC,l9,if_pos hc]
    .dsimp only at hc ⊢;rw[<- CC,l9,if_neg (by simp[hc])]
    .have:=CD.2;unfold nA at this;dsimp only;rw[if_pos h0];split at this<;>rename_i hc
     .rw[if_pos hc];omega
     .rw[if_neg hc];omega
  .have y8:=wJ h;subst y8;exact⟨N0,aE eH eH,yD⟩
 .rintro s ⟨n',hg,Kl⟩;refine⟨_,hg,aw ?_⟩;refine aP ?_;refine ab (aO (bw [(1,cy R.ws,231),(2,R.re.map B,4)] ⟨rfl,IF oG rfl .map,trivial⟩ (l:=[(2,.sl (cy R.ws) n),(3,.sl (R.re.map B) n)]) ⟨?_,?_,trivial⟩) (j6 rfl rfl rfl))
  .show sub (fz0 2 (R.re.map B) (prog.cellsOf 4)) (sub (fz0 1 (cy R.ws) (prog.cellsOf 231)) (D.rs 1 0 n))=_;rw[iY (by rw[rU,HB Kl.jA,Kl.lw]),ads]
  .show sub (fz0 2 (R.re.map B) (prog.cellsOf 4)) (sub (fz0 1 (cy R.ws) (prog.cellsOf 231)) (D.rs 2 0 n))=_;rw[zF oG,iY (by rw[c4,List.length_map,Kl.lr,Nat.mul_one])]
end Go.Proofs.Tryz.K
namespace Go.Abs
def jc(r:Nat)(l:List D):D:=match l with
 |[]=>.z
 |_=>.rs r 0 l.length
theorem lI{r:Nat}{l:List D}(h:l≠[]):jc r l=.rs r 0 l.length:=by cases l with
 |nil=>exact absurd rfl h
 |cons=>rfl
def gA(ρ:Nat->Nat)(L:Nat->List D)(n:Nat):List D:=(List.range n).map fun i=>jc (ρ i) (L i)
@[simp] theorem aqB (ρ : Nat -> Nat) (L : Nat -> List D) (n : Nat) : (gA ρ L n).length = n := by simp [gA]
theorem BF{ρ:Nat->Nat}{L:Nat->List D}{n i:Nat}(hi:i<n):∃ cs,(gA ρ L n).drop i=jc (ρ i) (L i)::cs:=
 ⟨_,fu (f:=fun i=>jc (ρ i) (L i)) (by simp[hi])⟩
theorem Ez{α:Type}{F:Nat->α}{n i:Nat}{x:α}:((List.range n).map F).set i x=(List.range n).map (up F i x):=by
 apply List.ext_getElem?;intro k;rw[List.getElem?_set];simp only[List.length_map,List.length_range,List.getElem?_map];split
 .rename_i e;subst e;split
  .rename_i h;simp[h,up_same]
  .rename_i h;simp[h]
 .rename_i e;by_cases hk:k<n
  .simp[hk,up_ne F x (Ne.symm e)]
  .simp[hk]
theorem aco{ρ:Nat->Nat}{L:Nat->List D}{n i r:Nat}{l:List D}(hl:l≠[]):(gA ρ L n).set i (.rs r 0 l.length)=gA (up ρ i r) (up L i l) n:=by
 unfold gA;rw[Ez];refine congrArg (fun F=>(List.range n).map F) (funext fun k=>?_);simp only[up];split
 .rw[lI hl]
 .rfl
structure dx(m:Mem)(nx j n:Nat)(e et:TypeId)(ρ:Nat->Nat)(L:Nat->List D):Prop where
 row:m j=some (.cells (gA ρ L n) e)
 nC:j<nx
 n3:∀ i,i<n->L i≠[]->m (ρ i)=some (.cells (L i) et)
 lt:∀ i,i<n->L i≠[]->ρ i<nx
 ne:∀ i,i<n->L i≠[]->ρ i≠j
 inj:∀ i k,i<n->k<n->L i≠[]->L k≠[]->ρ i=ρ k->i=k
theorem dx.ext{m m':Mem}{nx nx' j n:Nat}{e et:TypeId}{ρ:Nat->Nat}{L:Nat->List D}(h:dx m nx j n e et ρ L)(hm:∀ q,q<nx->m' q=m q)(hn:nx<=nx'):dx m' nx' j n e et ρ L:=
 ⟨(hm j h.nC).trans h.row,Nat.lt_of_lt_of_le h.nC hn,fun i hi hl=>(hm _ (h.lt i hi hl)).trans (h.n3 i hi hl),fun i hi hl=>Nat.lt_of_lt_of_le (h.lt i hi hl) hn,h.ne,h.inj⟩
theorem dx.iF{m m':Mem}{nx nx' j n i r:Nat}{e et:TypeId}{ρ:Nat->Nat}{L:Nat->List D}{l:List D}(h:dx m nx j n e et ρ L)(hi:i<n)(hl:l≠[])(hr:nx<=r)(g9:r<nx')
 (hj:m' j=some (.cells ((gA ρ L n).set i (.rs r 0 l.length)) e)) (aA:m' r=some (.cells l et)) (hk:∀ q,q<nx->q≠j->(L i≠[]->q≠ρ i)->m' q=m q):dx m' nx' j n e et (up ρ i r) (up L i l):=by
 have ct:=h.nC
 have mG:∀ k,k<n->k≠i->L k≠[]->m' (ρ k)=some (.cells (L k) et):=fun k M J C=>
  (hk _ (h.lt k M C) (h.ne k M C) fun wC e=>J (h.inj k i M hi C wC e)).trans (h.n3 k M C)
 refine⟨by rw[hj,aco hl],by omega,fun k M C=>?_,fun k M C=>?_,fun k M C=>?_,fun a b ha hb oh pL U=>?_⟩
 .by_cases J:k=i
  .subst J;rw[up_same,up_same];exact aA
  .rw[up_ne _ _ J] at C ⊢;rw[up_ne _ _ J];exact mG k M J C
 .by_cases J:k=i
  .subst J;rw[up_same];exact g9
  .rw[up_ne _ _ J] at C ⊢;have:=h.lt k M C;omega
 .by_cases J:k=i
  .subst J;rw[up_same];omega
  .rw[up_ne _ _ J] at C ⊢;exact h.ne k M C
 .by_cases ua:a=i
  .by_cases X:b=i
   .omega
   .subst ua;rw[up_same,up_ne _ _ X] at U;rw[up_ne _ _ X] at pL;have:=h.lt b hb pL;omega
  .by_cases X:b=i
   .subst X;rw[up_same,up_ne _ _ ua] at U;rw[up_ne _ _ ua] at oh;have:=h.lt a ha oh;omega
   .rw[up_ne _ _ ua] at oh U;rw[up_ne _ _ X] at pL U;exact h.inj a b ha hb oh pL U
theorem EO{m:Mem}{nx j n:Nat}{e et:TypeId}{ρ:Nat->Nat}(hj:j<nx)(hm:m j=some (.cells (List.replicate n .z) e)):dx m nx j n e et ρ (fun _=>[]):=by
 refine⟨?_,hj,fun _ _ h=>absurd rfl h,fun _ _ h=>absurd rfl h,fun _ _ h=>absurd rfl h,fun _ _ _ _ h=>absurd rfl h⟩;rw[hm];congr 2;unfold gA jc;rw[List.map_const',List.length_range]
theorem zP(n:Nat):replD n [.z]=List.replicate n D.z:=by
 unfold replD
 induction n with
 |zero=>rfl
 |succ n ih=>rw[List.replicate_succ,List.replicate_succ,List.flatten_cons,ih];rfl
def lJ(X:Nat->Prop)(d:D):Prop:=∀ i cs sz,X i->sub (fz0 i cs sz) d=d
def jf(X:Nat->Prop)(r:Row):Prop:=∀ i cs sz,X i->Row.sub (fz0 i cs sz) r=r
theorem lJ.s{X:Nat->Prop}(v:Value):lJ X (.s v):=fun _ _ _ _=>rfl
theorem lJ.sl{X:Nat->Prop}(es:List D)(n:Nat):lJ X (.sl es n):=fun _ _ _ _=>rfl
theorem lJ.z{X:Nat->Prop}:lJ X .z:=fun _ _ _ _=>rfl
theorem lJ.u{X:Nat->Prop}:lJ X .u:=fun _ _ _ _=>rfl
theorem lJ.rs{X:Nat->Prop}{j off n:Nat}(h:¬ X j):lJ X (.rs j off n):=fun i cs sz hi=>zF fun e=>h (e▸hi)
theorem lJ.rp{X:Nat->Prop}{j off:Nat}(h:¬ X j):lJ X (.rp j off):=fun i cs sz hi=>by
 show(if j=i then _ else D.rp j off)=_;exact if_neg fun(e:j=i)=>h (e▸hi)
theorem jf.cells{X:Nat->Prop}{cs:List D}{e:TypeId}(h:∀ d∈cs,lJ X d):jf X (.cells cs e):=fun i cs0 sz hi=>by
 show Row.cells (cs.map _) e=_;congr 1
 induction cs with
 |nil=>rfl
 |cons d cs ih=>rw[List.map_cons,h d oS i cs0 sz hi,ih fun d hd=>h d (by simp[hd])]
theorem jf.F6{X:Nat->Prop}{cs:List D}{e:TypeId}(h:vd cs):jf X (.cells cs e):=jf.cells fun d hd=>by obtain⟨v,rfl⟩:=h d hd;exact .s v
theorem vU(d:D):Wk d d:=fun _ _ _ _ h=>h
theorem wG:Wk .z (.sl [] 0):=fun F β w v hv=>by
 obtain⟨x,rfl⟩:=hv.z_inv;exact .sln x 0
theorem YZ{X:Nat->Prop}{l:List (Nat×D)}(h:∀ x∈l,lJ X x.2)(t:Nat):lJ X (az l t):=by
 induction l with
 |nil=>exact .u
 |cons x l ih=>
  obtain⟨k,d⟩:=x;simp only[az];split
  .exact h (k,d) oS
  .exact ih fun y hy=>h y (by simp[hy])
theorem Y0{X:Nat->Prop}{l:List (Nat×Row)}(h:∀ x∈l,jf X x.2){q:Nat}{r:Row}(hq:aY l q=some r):jf X r:=by
 induction l with
 |nil=>simp[aY] at hq
 |cons x l ih=>
  obtain⟨k,d⟩:=x;simp only[aY] at hq;split at hq
  .cases hq;exact h (k,r) oS
  .exact ih (fun y hy=>h y (by simp[hy])) hq
theorem ZS{l:List (Nat×Row)}{q:Nat}(h:∀ x∈l,x.1≠q):aY l q=none:=by
 induction l with
 |nil=>rfl
 |cons x l ih=>
  obtain⟨k,d⟩:=x;simp only[aY];rw[if_neg fun e=>h (k,d) oS e.symm];exact ih fun y hy=>h y (by simp[hy])
section
variable{P:Program}
open Classical in
noncomputable def jO(ml:List (Nat×Row))(j n k:Nat)(e et:TypeId)(ρ:Nat->Nat)(L:Nat->List D):Mem:=fun q=>
 if q=j then some (.cells ((List.range n).map fun i=>if i<k then .sl (L i) (L i).length else jc (ρ i) (L i)) e)
 else if h:∃ i,k<=i/\i<n/\L i≠[]/\ρ i=q then some (.cells (L (Classical.choose h)) et)
 else aY ml q
theorem abc{m:Mem}{nx j n k:Nat}{e et:TypeId}{ρ:Nat->Nat}{L:Nat->List D}{l:List (Nat×D)}{ml:List (Nat×Row)}{X:Nat->Prop}(h:dx m nx j n e et ρ L)(hs:∀ i,vd (L i))(M:P.cellsOf et=1)
 (J:∀ i,i<n->L i≠[]->X (ρ i)) (om:¬ X j) (hl:∀ x∈l,lJ X x.2) (sm:∀ x∈ml,jf X x.2/\¬ X x.1) (hk:k<n):
 Ghost P ⟨az l,jO ml j n k e et ρ L,nx⟩ ⟨az l,jO ml j n (k+1) e et ρ L,nx⟩:=by
 by_cases C:L k=[]
 .refine .weak _ _ _ _ _ (fun t=>vU _) fun q=>?_;by_cases hq:q=j
  .subst hq;right;refine⟨_,_,e,by simp only[jO,if_true];rfl,by simp only[jO,if_true];rfl,by simp,fun i d d' hd dL=>?_⟩;simp only[List.getElem?_map,Option.map_eq_some_iff] at hd dL;obtain⟨a,ha,rfl⟩:=hd;obtain⟨b,hb,rfl⟩:=dL;rw[ha] at hb;cases hb;by_cases h1:a<k
   .rw[if_pos h1,if_pos oG];exact vU _
   .rw[if_neg h1];by_cases h2:a=k
    .subst h2;rw[if_pos oG,C];exact wG
    .rw[if_neg oG];exact vU _
  .left;simp only[jO,if_neg hq]
   have:(∃ i,k+1<=i/\i<n/\L i≠[]/\ρ i=q)↔(∃ i,k<=i/\i<n/\L i≠[]/\ρ i=q):=by
    constructor
    .rintro⟨i,h1,h2⟩;exact⟨i,by omega,h2⟩
    .rintro⟨i,h1,h2,h3,h4⟩
     exact⟨i,by
      rcases Nat.lt_or_ge k i with g|g
      .exact g
      .have:i=k:=by omega
       subst this;exact absurd C h3,h2,h3,h4⟩
   by_cases hc:∃ i,k<=i/\i<n/\L i≠[]/\ρ i=q
   .rw[dif_pos (this.2 hc),dif_pos hc];have e1:=Classical.choose_spec hc;have e2:=Classical.choose_spec (this.2 hc);have:Classical.choose (this.2 hc)=Classical.choose hc:=h.inj _ _ e2.2.1 e1.2.1 e2.2.2.1 e1.2.2.1 (e2.2.2.2.trans e1.2.2.2.symm);rw[this]
   .rw[dif_neg (fun h=>hc (this.1 h)),dif_neg hc]
 .have W0:ρ k≠j:=h.ne k hk C
  have aA:jO ml j n k e et ρ L (ρ k)=some (.cells (L k) et):=by
   have hc:∃ i,k<=i/\i<n/\L i≠[]/\ρ i=ρ k:=⟨k,Nat.le_refl _,hk,C,rfl⟩
   simp only[jO,if_neg W0,dif_pos hc];have e1:=Classical.choose_spec hc;have:Classical.choose hc=k:=h.inj _ _ e1.2.1 hk e1.2.2.1 C e1.2.2.2;rw[this]
  have hg:=Ghost.freeze (P:=P) (az l) (jO ml j n k e et ρ L) nx (ρ k) (L k) et aA;have e1:(fun t=>sub (fz0 (ρ k) (L k) (P.cellsOf et)) (az l t))=az l:=funext fun t=>YZ hl t _ _ _ (J k hk C)
  have e2:(fun q=>if q=ρ k then none else(jO ml j n k e et ρ L q).map (Row.sub (fz0 (ρ k) (L k) (P.cellsOf et))))=jO ml j n (k+1) e et ρ L:=by
   funext q;by_cases U:q=ρ k
   .subst U;rw[if_pos rfl]
    have hc:¬ ∃ i,k+1<=i/\i<n/\L i≠[]/\ρ i=ρ k:=by
     rintro⟨i,g1,g2,g3,g4⟩;have:=h.inj _ _ g2 hk g3 C g4;omega
    simp only[jO,if_neg W0,dif_neg hc];exact(ZS fun x hx e=>(sm x hx).2 (e▸J k hk C)).symm
   .rw[if_neg U];by_cases oq:q=j
    .subst oq;simp only[jO,if_true,Option.map_some];congr 1;show Row.cells (List.map _ (List.map _ _)) e=_;rw[List.map_map];congr 1;refine List.map_congr_left fun i hi=>?_;have bd:i<n:=by simpa using hi
     simp only[Function.comp_apply];by_cases h1:i<k
     .rw[if_pos h1,if_pos oG];rfl
     .rw[if_neg h1];by_cases h2:i=k
      .subst h2;rw[if_pos oG,lI C,M];exact iY oG
      .rw[if_neg oG];by_cases h3:L i=[]
       .rw[h3];rfl
       .rw[lI h3];exact zF fun e=>h2 (h.inj _ _ bd hk h3 C e)
    .simp only[jO,if_neg oq]
     have this:(∃ i,k+1<=i/\i<n/\L i≠[]/\ρ i=q)↔(∃ i,k<=i/\i<n/\L i≠[]/\ρ i=q):=by
      constructor
      .rintro⟨i,h1,h2⟩;exact⟨i,by omega,h2⟩
      .rintro⟨i,h1,h2,h3,h4⟩
       exact⟨i,by
        rcases Nat.lt_or_ge k i with g|g
        .exact g
        .have:i=k:=by omega
         subst this;exact absurd h4.symm U,h2,h3,h4⟩
     by_cases hc:∃ i,k<=i/\i<n/\L i≠[]/\ρ i=q
     .rw[dif_pos (this.2 hc),dif_pos hc];have e1:=Classical.choose_spec hc;have e2:=Classical.choose_spec (this.2 hc);have:Classical.choose (this.2 hc)=Classical.choose hc:=h.inj _ _ e2.2.1 e1.2.1 e2.2.2.1 e1.2.2.1 (e2.2.2.2.trans e1.2.2.2.symm);rw[this];exact congrArg some (jf.F6 (X:=X) (hs _) _ _ _ (J k hk C))
     .rw[dif_neg (fun h=>hc (this.1 h)),dif_neg hc];cases hm:aY ml q with
      |none=>rfl
      |some r=>exact congrArg some (Y0 (fun x hx=>(sm x hx).1) hm _ _ _ (J k hk C))
  rw[e1,e2] at hg;exact hg
theorem EB{env:Env}{m:Mem}{nx j n:Nat}{e et:TypeId}{ρ:Nat->Nat}{L:Nat->List D}{l:List (Nat×D)}{ml:List (Nat×Row)}(X:Nat->Prop)(h:dx m nx j n e et ρ L)(M:∀ i,vd (L i))(C:P.cellsOf et=1)
 (J:∀ i,i<n->L i≠[]->X (ρ i)) (U:¬ X j) (he:lz l env) (hl:∀ x∈l,lJ X x.2) (hm:Cp ml m) (sm:∀ x∈ml,jf X x.2/\¬ X x.1):
 Ghost P ⟨env,m,nx⟩ ⟨az l,aY ((j,.cells ((List.range n).map fun i=>.sl (L i) (L i).length) e)::ml),nx⟩:=by
 have key:∀ k,k<=n->Ghost P ⟨az l,jO ml j n 0 e et ρ L,nx⟩ ⟨az l,jO ml j n k e et ρ L,nx⟩:=fun k=>by
  induction k with
  |zero=>exact fun _=>.refl _
  |succ k ih=>exact fun hk=>(ih oG).trans (abc h M C J U hl sm oG)
 have h0:Ghost P ⟨env,m,nx⟩ ⟨az l,jO ml j n 0 e et ρ L,nx⟩:=by
  refine(Ghost.forget env _ m nx (oB he)).trans (.drop _ _ _ _ fun q=>?_);by_cases hq:q=j
  .subst hq;left;simp only[jO,if_true,Nat.not_lt_zero,if_false];exact h.row.symm
  .simp only[jO,if_neg hq];by_cases hc:∃ i,0<=i/\i<n/\L i≠[]/\ρ i=q
   .rw[dif_pos hc];have e1:=Classical.choose_spec hc;left;have:=h.n3 _ e1.2.1 e1.2.2.1;rw[e1.2.2.2] at this;exact this.symm
   .rw[dif_neg hc];exact Iz hm q
 refine h0.trans ((key n (Nat.le_refl _)).trans (.drop _ _ _ _ fun q=>.inl ?_));by_cases hq:q=j
 .subst hq;simp only[aY,jO,if_true];congr 2;exact List.map_congr_left fun i hi=>by rw[if_pos (by simpa using hi)]
 .simp only[aY,if_neg hq,jO];rw[dif_neg];rintro⟨i,g1,g2,_⟩;omega
end
section
variable{P:Program}{env:Env}{m:Mem}{nx:Nat}{x y:Operand}{t e:TypeId}{k:IntKind}
theorem abd{w:List Int}{rest:List D}{sz:Nat}(h:w.length=sz):(w.map cz++rest).take sz=w.map cz:=by
 rw[List.take_append_of_le_length (by simp[h]),List.take_of_length_le (by simp[h])]
theorem adt{sz n i:Nat}{l:List (List Int)}{w:List Int}(hx:(opd env x).core=.sl (cy l) n)(hy:(opd env y).core=.s (.int k i))(he:elemP P t=e)(C:P.cellsOf e=sz)(hl:∀ w∈l,w.length=sz)(J:l[i]? =some w):
 Ef P (.indexAddr t x y) env m nx ⟨slT P t=true/\0<=(i:Int)/\(i:Int)<n/\((i:Int).toNat+1)*sz<=(cy l).length,.pt (w.map cz++cy (l.drop (i+1))),[],[],0⟩:=
 Js hx hy he C (by rw[Int.toNat_natCast];exact ID hl J)
theorem adu{sz n i:Nat}{l:List (List Int)}{w:List Int}(ht:slT P t=true)(hl:∀ w∈l,w.length=sz)(C:l[i]? =some w)(hn:i<n):slT P t=true/\0<=(i:Int)/\(i:Int)<n/\((i:Int).toNat+1)*sz<=(cy l).length:=by
 have:=yp hl C;refine⟨ht,by omega,by omega,?_⟩;rw[Int.toNat_natCast,Nat.add_mul,Nat.one_mul];exact this
theorem sW{i:Nat}{cs:List D}{l:List (Nat×D)}(hm:m i=some (.cells cs e))(hl:lz l fun t=>sub (fz0 i cs (P.cellsOf e)) (env t)):Ghost P ⟨env,m,nx⟩ ⟨az l,fun _=>none,nx⟩:=
 bw [(i,cs,e)] ⟨hm,trivial⟩ hl
theorem fw{l:List (Nat×D)}(hl:lz l env):Ghost P ⟨env,m,nx⟩ ⟨az l,fun _=>none,nx⟩:=Oi hl fun _=>.inr rfl
end
section
variable{P:Program}{env:Env}{m:Mem}{nx:Nat}{x y:Operand}{t e:TypeId}{k:IntKind}
theorem abf{α:Type}{f:α->D}{l:List α}{b:Int}(hx:(opd env x).core=.sl (l.map f) l.length)(he:elemP P t=e)(J:P.cellsOf e=1)(hb:(opd env y).core=.s (.int .i64 b))(hc:slT P t=true)(C:0<=b/\b<=l.length):
 Ef P (.slice t x none (some y) none) env m nx ⟨True,.sl ((l.take b.toNat).map f) (l.take b.toNat).length,[],[],0⟩:=by
 have h:=xQ (P:=P) (env:=env) (m:=m) (nx:=nx) (t:=t) (lo:=none) (hi:=some y) (a:=0) (b:=b) (es':=(l.take b.toNat).map f) hx he J (by simp[bndD]) (by simp[bndD,hb,D.int?]) (by simp[List.map_take])
 have h2:(slT P t=true/\(0:Int)<=0/\(0:Int)<=b/\b<=(l.length:Int))=True:=by
  apply propext;constructor
  .exact fun _=>trivial
  .exact fun _=>⟨hc,by omega,C.1,C.2⟩
 have h3:(b - 0).toNat=(l.take b.toNat).length:=by rw[List.length_take];omega
 rw[h2,h3] at h;exact h
theorem vS{i j sz:Nat}{cs0:List D}{r:Row}(C:j≠i)(hm:m j=some r)(h:Row.sub (fz0 i cs0 sz) r=r):(if j=i then none else(m j).map (Row.sub (fz0 i cs0 sz)))=some r:=by
 rw[if_neg C,hm];exact congrArg some h
theorem gQ{i:Nat}{cs:List D}{l:List (Nat×D)}{ml:List (Nat×Row)}(hm:m i=some (.cells cs e))(hl:lz l fun t=>sub (fz0 i cs (P.cellsOf e)) (env t))(C:Cp ml fun j=>if j=i then none else(m j).map (Row.sub (fz0 i cs (P.cellsOf e)))):Ghost P ⟨env,m,nx⟩ ⟨az l,aY ml,nx⟩:=
 (Ghost.freeze env m nx i cs e hm).trans (aE hl C)
end
end Go.Abs
namespace Go.Argus
open Go.Proofs.Tryz.K (nextR)
def c6(b:Nat)(L:Nat->List Int)(t:Int):Nat->List Int:=up L t.toNat (L t.toNat++[(b:Int)])
def oJ(bs:List bP)(L:Nat->List Int)(b:Nat):Nat->List Int:=match bs[b]? with
 |none=>L
 |some x=>(nextR x.fin).foldl (c6 b) L
def bA(bs:List bP)(k:Nat):Nat->List Int:=(List.range k).foldl (oJ bs) fun _=>[]
def cC(bs:List bP):List (List Int):=(List.range bs.length).map (bA bs bs.length)
def bp(L:List (List Int)):D:=.sl (L.map ax) L.length
theorem sT(L:List (List Int)):Tr (bp L):=.sl (.map fun _=>cB _)
theorem H6{F:Nat->List Int}{n:Nat}:(D.sl ((List.range n).map fun i=>.sl ((F i).map I) ((F i).map I).length) n)=bp ((List.range n).map F):=by
 unfold bp;rw[List.map_map,List.length_map,List.length_range];congr 1;exact List.map_congr_left fun i _=>by simp[ax]
theorem Eo{b:Nat}{L:Nat->List Int}{t:Int}{c:Nat}(h:∀ i,(L i).length<=c):∀ i,(c6 b L t i).length<=c+1:=fun i=>by
 unfold c6;simp only[up];split
 .have:=h t.toNat;simp;omega
 .have:=h i;omega
theorem Fp{L:Nat->List Int}{k:Nat}{l:List Int}:(fun i=>(up L k l i).map I)=up (fun i=>(L i).map I) k (l.map I):=by
 funext i;simp only[up];split<;>rfl
theorem nH{P:Nat->Bool}{n k:Nat}(hk:k<n)(h:P k=false):(List.range n).all P=false:=by
 refine Bool.eq_false_iff.2 fun ht=>?_;have:=List.all_eq_true.1 ht k (by simpa using hk);rw[h] at this;cases this
theorem kE{P:Nat->Bool}{k:Nat}(h:(List.range k).all P=true)(hk:P k=true):(List.range (k+1)).all P=true:=by
 rw[List.range_succ,List.all_append,h];simp[hk]
abbrev bq(l:List Bool):D:=.sl (l.map B) l.length
def jn:bP:=⟨[],⟨0,0,0,0,0,.empty,dt,[],[],0⟩⟩
def s5(bs:List bP)(s:CS)(b:Nat)(y:bt)(i:Nat):Bool:=
 let p:=((bA bs bs.length b).getD i 0).toNat
 !(s.re.getD p false)||lR (fT (bs.getD p jn).fin b (iH (bs.getD p jn) (s.ws.getD p [])).1) (y.args.getD i 0).toNat
def uP(bs:List bP)(s:CS)(b:Nat)(y:bt):Bool:=(List.range (bA bs bs.length b).length).all (s5 bs s b y)
def bT(y:bt):Bool:=y.op==19
def qV(bs:List bP)(s:CS)(b:Nat):Bool:=
 !(s.re.getD b false)||((iH (bs.getD b jn) (s.ws.getD b [])).2&&((bs.getD b jn).ins.takeWhile bT).all (uP bs s b))
def vQ(bs:List bP)(args:Nat):Bool:=(List.range bs.length).all (qV bs (gI bs args))
theorem takeWhile_eq{α:Type}{p:α->Bool}{l:List α}{j:Nat}(h:∀ y∈l.take j,p y=true)(h':∀ y,l[j]? =some y->p y=false):l.takeWhile p=l.take j:=by
 induction l generalizing j with
 |nil=>simp
 |cons a l ih=>cases j with
  |zero=>have:=h' a rfl;simp[this]
  |succ j=>
   have ha:=h a oS;rw[List.takeWhile_cons,if_pos ha,List.take_succ_cons,ih (j:=j) (fun y hy=>h y (by simp[hy])) (fun y hy=>h' y (by simpa using hy))]
theorem MT{b:Nat}{p:Int}:∀ {l:List Int} {L:Nat->List Int} {i:Nat},p∈(l.foldl (c6 b) L) i↔p∈L i\/(p=b/\∃ t∈l,t.toNat=i)
 |[],L,i=>by simp
 |t::l,L,i=>by
  rw[List.foldl_cons,MT (l:=l)];unfold c6;simp only[up];by_cases h:i=t.toNat
  .subst h;simp only[if_true,List.mem_append,List.mem_singleton];constructor
   .rintro((h|h)|⟨h,u,h1,h2⟩)
    .exact .inl h
    .exact .inr ⟨h,t,by simp,rfl⟩
    .exact .inr ⟨h,u,by simp[h1],h2⟩
   .rintro(h|⟨h,u,h1,h2⟩)
    .exact .inl (.inl h)
    .exact .inl (.inr h)
  .rw[if_neg h];constructor
   .rintro(h'|⟨h',u,h1,h2⟩)
    .exact .inl h'
    .exact .inr ⟨h',u,by simp[h1],h2⟩
   .rintro(h'|⟨h',u,h1,h2⟩)
    .exact .inl h'
    .rcases List.mem_cons.1 h1 with e|e
     .subst e;exact absurd h2.symm h
     .exact .inr ⟨h',u,e,h2⟩
theorem Bt{bs:List bP}{p:Int}{i:Nat}:∀ {k:Nat},p∈bA bs k i↔∃ b:Nat,p=b/\b<k/\∃ x,bs[b]? =some x/\∃ t∈nextR x.fin,t.toNat=i
 |0=>by simp[bA]
 |k+1=>by
  have ih:=Bt (bs:=bs) (p:=p) (i:=i) (k:=k);have e:bA bs (k+1)=oJ bs (bA bs k) k:=by rw[bA,List.range_succ,List.foldl_append];rfl
  rw[e,oJ];cases hx:bs[k]? with
  |none=>
   simp only;rw[ih];constructor
   .rintro⟨b,h1,h2,h3⟩;exact⟨b,h1,by omega,h3⟩
   .rintro⟨b,h1,h2,x,h3,h4⟩;refine⟨b,h1,?_,x,h3,h4⟩;rcases Nat.lt_or_ge b k with g|g
    .exact g
    .have:b=k:=by omega
     subst this;rw[hx] at h3;cases h3
  |some x=>
   simp only;rw[MT,ih];constructor
   .rintro(⟨b,h1,h2,h3⟩|⟨h1,h2⟩)
    .exact⟨b,h1,by omega,h3⟩
    .exact⟨k,h1,by omega,x,hx,h2⟩
   .rintro⟨b,h1,h2,C,h3,h4⟩;rcases Nat.lt_or_ge b k with g|g
    .exact .inl ⟨b,h1,g,C,h3,h4⟩
    .have:b=k:=by omega
     subst this;rw[hx] at h3;cases h3;exact .inr ⟨h1,h4⟩
theorem Mz{bs:List bP}{n:Nat}(hb:∀ b∈bs,rK n b):∀ (k:Nat) {s:CS},fj n s->fj n (l9 bs k s)
 |0,_,h=>h
 |k+1,s,h=>by
  rw[l9];split
  .exact Mz hb k (Br hb h).1
  .exact(Br hb h).1
theorem abe{bs:List bP}{args:Nat}(hb:∀ b∈bs,rK bs.length b)(C:∀ u∈gW args,dC u):fj bs.length (gI bs args):=Mz hb _ (Hj C)
theorem Nk{b:Nat}:∀ {l:List Int} {L:Nat->List Int} {c:Nat},(∀ i,(L i).length<=c)->∀ i,((l.foldl (c6 b) L) i).length<=c+l.length
 |[],_,_,h,i=>h i
 |t::l,L,c,h,i=>by
  have:=Nk (b:=b) (l:=l) (Eo (t:=t) (b:=b) h) i;rw[List.foldl_cons,List.length_cons];omega
theorem Ep{bs:List bP}(C:∀ b∈bs,b.fin.aI.length<=9):∀ (k i:Nat),(bA bs k i).length<=12*k
 |0,_=>by simp[bA]
 |k+1,i=>by
  have ih:=Ep C k;have e:bA bs (k+1)=oJ bs (bA bs k) k:=by rw[bA,List.range_succ,List.foldl_append];rfl
  rw[e,oJ];cases hx:bs[k]? with
  |none=>have:=ih i;simp only;omega
  |some x=>
   have h1:=Nk (l:=nextR x.fin) (b:=k) ih i;have h2:=vP x.fin;have h3:=C x (List.mem_of_getElem? hx);simp only;omega
theorem Hu{bs:List bP}{n k:Nat}(hn:bs.length=n)(hk:k<n):(cC bs)[k]? =some (bA bs n k):=by
 subst hn;simp[cC,hk]
def pZ(f:aF):Bool:=decide (f.result=1)||(decide (f.result=2)||(decide (f.result=0)&& !f.iter))
def mR(f:aF):Bool:=
 kL f.name&&(cJ f.args 0 (if(f.ag.length:Int)<6 then(f.ag.length:Int) else 6)&&(pZ f&&(!decide ((1200:Int)<f.ag.length)&&(!decide ((60:Int)<f.aR.length)&&cJ f.blocks.length 1 1200))))
def p9(f:aF):Bool:=
 dY f.ag 3&&(dY (f.ag.take f.args.toNat) 2&&(dY f.aR 2&&(!decide ((6:Int)<f.signals.length)&& !f.signals.any fun s=> !isName s)))
def s6(l:List ByteArray)(i:Nat):Bool:=Op.bytesLess (l.getD i .empty).toList (l.getD (i+1) .empty).toList
def mS(f:aF):Bool:=(List.range (f.signals.length - 1)).all (s6 f.signals)
def kI(bs:List bP)(k:Nat):List Int:=((bs.take k).filter fun x=>x.fin.kind==7).map fun x=>x.fin.a
def jb(f:aF)(k:Nat):Bool:=
 let x:=f.blocks.getD k jn
 jg f x.fin&&(!decide ((200:Int)<x.ins.length)&& !(x.fin.kind==7&&(kI f.blocks k).any (·==x.fin.a)))
def uy(f:aF)(b:Nat)(l:List bt)(j:Nat):Bool:=iM f b (l.getD j dt) ((l.take (j+1)).all bT) (bA f.blocks f.blocks.length b).length
def qW(f:aF)(b:Nat):Bool:=(List.range (f.blocks.getD b jn).ins.length).all (uy f b (f.blocks.getD b jn).ins)
def ik(f:aF):Bool:=
 mR f&&(p9 f&&(mS f&&((List.range f.blocks.length).all (jb f)&&(List.range f.blocks.length).all (qW f))))
def cR(f:aF):Int:=if ik f=true then(if vQ f.blocks f.args.toNat=true then 0 else 81) else 80
def iy(l:List Int)(r:Int):Prop:=0<=r/\r<l.length
theorem jZ{l:List Int}{r:Int}(h:bZ l r≠0):iy l r:=Classical.byContradiction fun hn=>h (HC hn)
theorem nI{l:List Int}{r:Int}(h:dO l r=true):iy l r:=by
 refine jZ fun e=>?_;simp[dO,e] at h
theorem xK{l rs:List Int}(h:fQ l rs=true):∀ r∈rs,iy l r:=fun r hr=>nI (List.all_eq_true.1 h r hr)
theorem H7{l:List Int}{r want of:Int}(h:lC l r want of=true)(C:want≠0):iy l r:=by
 unfold lC at h;rw[if_neg C] at h;split at h
 .refine jZ fun e=>?_;simp[e] at h
 .split at h
  .refine jZ fun e=>?_;simp[e] at h
  .split at h
   .exact nI h
   .refine jZ fun e=>?_;simp[e] at h
structure Vs(l:List Int)(x:bt)(s:Shape):Prop where
 to:s.to≠0->iy l x.to
 a:s.a≠0->iy l x.a
 b:s.b≠0->iy l x.b
 args:s.args=5\/s.args=6->x.args.length<=6/\∀ r∈x.args,iy l r
theorem HD{l:List Int}{x:bt}{s:Shape}(h:oD l x s=true):Vs l x s:=by
 unfold oD at h;simp only[Bool.and_eq_true] at h;obtain⟨h1,h2,h3,h4,_⟩:=h;refine⟨H7 h1,H7 h2,H7 h3,fun C=>?_⟩;unfold pV at h4;rcases C with C|C
 .rw[if_pos C,Bool.and_eq_true] at h4;have:=jY.1 h4.1;exact⟨by omega,xK h4.2⟩
 .rw[if_neg oG,if_pos C,Bool.and_eq_true] at h4;have:(x.args.length:Int)=1:=by simpa using h4.1
  exact⟨by omega,xK h4.2⟩
theorem Hk{l:List (Int×Shape)}{op:Int}{s:Shape}(h:fc l op=some s):(op,s)∈l:=by
 unfold fc at h;rw[Option.map_eq_some_iff] at h;obtain⟨⟨o,s'⟩,h1,rfl⟩:=h;have h2:=List.find?_some h1;have h3:=List.mem_of_find?_eq_some h1;have:o=op:=by simpa using h2
 subst this;exact h3
theorem Hl{l:List Int}{x:bt}{s:Shape}(hl:l.length<=1200)(hm:(x.op,s)∈nQ\/(x.op,s)∈jh)(h:Vs l x s):oV x:=by
 obtain⟨h1,h2,h3,h4⟩:=h;unfold iy at h1 h2 h3 h4;have hr:∀ {r:Int},0<=r/\r<l.length->0<=r/\r<1200:=fun h=>by omega
 have J:∀ {r:Int},0<=r/\r<l.length-> -1000000<=r/\r<1200:=fun h=>by omega
 obtain⟨op,to,a,b,n,args⟩:=x;dsimp only at h1 h2 h3 h4 hm;simp only[nQ,jh,List.mem_cons,Prod.mk.injEq,List.not_mem_nil,or_false] at hm;rcases hm with hm|hm
 .rcases hm with hm|hm|hm|hm|hm|hm|hm|hm|hm|hm|hm|hm|hm|hm|hm<;>obtain⟨rfl,rfl⟩:=hm<;>refine⟨fun r C=>?_,fun h=>?_,?_,fun h=>?_⟩<;>
   simp_all[cr,cZ,aN,nN,qX,mb,nJ]<;>first|omega|(rcases C with rfl|rfl<;>omega)|(have:=h4.2 r C;omega)
 .rcases hm with hm|hm|hm|hm|hm|hm|hm|hm|hm<;>obtain⟨rfl,rfl⟩:=hm<;>refine⟨fun r C=>?_,fun h=>?_,?_,fun h=>?_⟩<;>
   simp_all[cr,cZ,aN,nN,qX,mb,nJ]<;>first|omega|(rcases C with rfl|rfl<;>omega)|(rcases C with rfl|rfl|C<;>first|omega|(have:=h4.2 r C;omega))
theorem mQ{a b:Int}:aQ a b=true↔a=b:=by simp[aQ]
theorem IG{l aR:List Int}{r n:Int}(C:∀ k∈aR,k≠0)(h:lK l aR r n=true):iy l r/\0<=n/\n<aR.length:=by
 unfold lK at h;rw[Bool.and_eq_true,jY] at h;obtain⟨⟨h1,h2⟩,h3⟩:=h
 have h4:bZ aR n≠0:=by
  obtain⟨k,rfl⟩:=Int.eq_ofNat_of_zero_le h1;have hk:k<aR.length:=by omega
  rw[sX (List.getElem?_eq_getElem hk)];exact C _ (List.getElem_mem hk)
 refine⟨jZ ?_,h1,by omega⟩;rw[show bZ l r=bZ aR n by simpa using h3];exact h4
theorem Hm{f:aF}{b ahead:Int}{x:bt}{phis:Bool}(hl:f.ag.length<=1200)(C:∀ k∈f.aR,k≠0)(fq:f.aR.length<=60)(h:iM f b x phis ahead=true):
 oV x/\(x.op=19->(x.args.length:Int)=ahead/\phis=true/\0<b/\iy f.ag x.to/\∀ r∈x.args,bZ f.ag r=bZ f.ag x.to/\iy f.ag r):=by
 unfold iM at h;split at h
 .rename_i X;simp only[Bool.and_eq_true,mQ] at h;have hr:=jZ (l:=f.ag) (r:=x.a) oG;unfold iy at hr;refine⟨⟨fun r h'=>?_,fun h'=>by omega,?_,fun h'=>by omega⟩,fun h'=>by omega⟩
  .simp[cr,aN,nN,X] at h';omega
  .simp[cZ,aN,mb,nJ,X]
 .rename_i X;split at h
  .rename_i U;simp only[Bool.and_eq_true,mQ] at h;obtain⟨h1,h2,h3⟩:=IG C h.2.2.2;unfold iy at h1;refine⟨⟨fun r h'=>?_,fun h'=>by omega,?_,fun h'=>by omega⟩,fun h'=>by omega⟩
   .simp[cr,aN,nN,qX,U] at h'
   .simp[cZ,aN,mb,U];omega
  .rename_i U;split at h
   .rename_i M;simp only[Bool.and_eq_true,mQ] at h;obtain⟨h1,h2,h3⟩:=IG C h.2.2.2;unfold iy at h1;refine⟨⟨fun r h'=>?_,fun h'=>by omega,?_,fun h'=>by omega⟩,fun h'=>by omega⟩
    .simp[cr,aN,nN,M] at h';omega
    .simp[cZ,aN,mb,nJ,M]
   .rename_i M;split at h
    .rename_i J;simp only[Bool.and_eq_true,mQ,decide_eq_true_eq] at h;obtain⟨g1,g2,g3,g4,g5,g6,g7,g8⟩:=h;have hr:=nI g3;have hk:bZ f.ag x.to≠0:=fun e=>by simp[dO,e] at g3
     refine⟨⟨fun r h'=>?_,fun h'=>by omega,?_,fun h'=>by omega⟩,fun _=>⟨g7,g1,g2,hr,fun r g9=>?_⟩⟩
     .simp[cr,aN,nN,qX,J] at h'
     .unfold iy at hr;simp[cZ,aN,mb,J];omega
     .have:aQ (bZ f.ag r) (bZ f.ag x.to)=true:=by
       simp only[Bool.not_eq_true',List.any_eq_false] at g8;simpa using g8 r g9
      rw[mQ] at this;exact⟨this,jZ (by rw[this];exact hk)⟩
    .rename_i J;rw[Bool.and_eq_true] at h;cases C:fc nQ x.op with
     |none=>rw[C] at h;simp at h
     |some s=>
      rw[C] at h;exact⟨Hl hl (.inl (Hk C)) (HD h.2),fun h'=>absurd h' J⟩
structure FP(f:aF)(x:End):Prop where
 fin:Ak x
 wh:x.aI.length<=7
 to:∀ t∈cM x,0<=t/\t<f.blocks.length
theorem Hv{f:aF}{x:End}(h:me f x=true):x.aI.length<=7/\(∀ w∈x.aI,0<=w.to/\w.to<f.blocks.length)/\(0<=x.cx->x.cx<f.blocks.length):=by
 unfold me at h;rw[Bool.and_eq_true,Bool.and_eq_true] at h;obtain⟨h1,h2,h3⟩:=h;have h2:(x.aI.length:Int)<=7:=by simpa using h2
 refine⟨by omega,fun w C=>?_,fun h0=>?_⟩
 .obtain⟨i,hi⟩:=List.getElem?_of_mem C;have hm:(w,i)∈x.aI.zipIdx:=List.mem_zipIdx_iff_getElem?.2 hi;have:=List.all_eq_true.1 h1 _ hm;simp only[nW,Bool.and_eq_true,bU,jY] at this;omega
 .rw[Bool.or_eq_true] at h3;rcases h3 with h3|h3
  .have:x.cx= -1:=by simpa using h3
   omega
  .rw[bU,jY] at h3;omega
theorem OY{x:End}(h:yq x=true):x.kind=0/\x.a=0/\x.b=0/\x.to=0/\x.fm=0/\x.cx= -1/\x.args.length=0/\x.aI.length=0:=by
 simp only[yq,Bool.and_eq_true,decide_eq_true_eq] at h;omega
theorem H8{f:aF}{x:End}(hl:f.ag.length<=1200)(hr:pZ f=true)(h:jg f x=true):FP f x:=by
 have ki:∀ {r:Int},iy f.ag r->0<=r/\r<1200:=fun h=>by unfold iy at h;omega
 unfold jg at h;rw[Bool.and_eq_true] at h;obtain⟨h,hb⟩:=h;have hb:=OY hb;have U:∀ {t:Int},bU f t=true->0<=t/\t<f.blocks.length:=fun h=>by rw[bU,jY] at h;omega
 obtain⟨kind,a,b,to,fm,name,ins,args,aI,cx⟩:=x;simp only[fC] at h hb;by_cases h1:kind=1
 .subst h1;simp only[if_true] at h hb;have J:=U h;have C:aI=[]:=List.length_eq_zero_iff.1 hb.2.2.2.2.2.2.2;subst C;refine⟨⟨fun r h'=>?_,?_,by simp,by simp,by simp⟩,by simp,fun t ht=>?_⟩
  .simp[cn,aN] at h'
  .simp[dJ,aN]
  .simp[cM,gD,aN] at ht;subst ht;exact J
 by_cases h2:kind=2
 .subst h2;simp only[Int.reduceEq,if_false,if_true,Bool.and_eq_true,mQ] at h hb;have C:aI=[]:=List.length_eq_zero_iff.1 hb.2.2.2.2.2.2.2;subst C;have Bc:=ki (jZ (l:=f.ag) (r:=a) oG);have J:=U h.2.1;have DK:=U h.2.2;refine⟨⟨fun r h'=>?_,?_,by simp,by simp,by simp⟩,by simp,fun t ht=>?_⟩
  .simp[cn,aN] at h';subst h';exact Bc
  .simp[dJ,aN]
  .simp[cM,gD,aN] at ht;rcases ht with rfl|rfl
   .exact J
   .exact DK
 by_cases h3:kind=3
 .subst h3;simp only[Int.reduceEq,if_false,if_true] at h hb;have C:aI=[]:=List.length_eq_zero_iff.1 hb.2.2.2.2.2.2.2;subst C;refine⟨⟨fun r h'=>?_,?_,by simp,by simp,by simp⟩,by simp,fun t ht=>?_⟩
  .simp[cn,aN] at h';obtain⟨h1,rfl⟩:=h';split at h
   .rename_i hc;rw[mQ] at h;exact ki (jZ (by rw[h];exact hc.1))
   .rw[mQ] at h;exact absurd h h1
  .simp[dJ,aN]
  .simp[cM,aN] at ht
 by_cases h4:kind=4
 .subst h4;simp only[Int.reduceEq,if_false,if_true] at h hb;have C:aI=[]:=List.length_eq_zero_iff.1 hb.2.2.2.2.2.2.2;subst C;refine⟨⟨fun r h'=>?_,?_,by simp,by simp,by simp⟩,by simp,fun t ht=>?_⟩
  .simp[cn,aN] at h'
  .simp[dJ,aN]
  .simp[cM,aN] at ht
 by_cases h5:kind=5
 .subst h5;simp only[Int.reduceEq,if_false,if_true,Bool.and_eq_true] at h hb;obtain⟨g1,g2,X,M⟩:=h;obtain⟨ue,DL,DM⟩:=Hv M;have J:=U X
  have hi:oV ins:=by
   cases hs:fc jh ins.op with
   |none=>rw[hs] at g1;simp at g1
   |some s=>rw[hs] at g2;exact Hl hl (.inr (Hk hs)) (HD g2)
  refine⟨⟨fun r h'=>?_,?_,?_,fun _=>hi.ar,by simp⟩,ue,fun t ht=>?_⟩
  .simp[cn,aN] at h';exact hi.rd r h'
  .simp only[dJ,if_true];exact hi.wr
  .dsimp only at ue ⊢;omega
  .simp[cM,gD,aN] at ht;rcases ht with rfl|⟨w,C,rfl⟩|⟨h0,rfl⟩
   .exact J
   .exact DL w C
   .exact⟨h0,DM h0⟩
 by_cases h6:kind=6
 .subst h6;simp only[Int.reduceEq,if_false,if_true,Bool.and_eq_true,Bool.or_eq_true,mQ,decide_eq_true_eq] at h hb;obtain⟨g1,g2,X,M,g5,g6⟩:=h;obtain⟨ue,DL,DM⟩:=Hv g6;have J:=U g5;have hv:=xK X;refine⟨⟨fun r h'=>?_,?_,?_,by simp,fun _=>?_⟩,ue,fun t ht=>?_⟩
  .simp[cn,aN] at h';exact ki (hv r h')
  .simp only[dJ,aN];rcases M with M|M
   .simp[M]
   .have:=ki (nI M);simp;omega
  .dsimp only at ue ⊢;omega
  .dsimp only;omega
  .simp[cM,gD,aN] at ht;rcases ht with rfl|⟨w,C,rfl⟩|⟨h0,rfl⟩
   .exact J
   .exact DL w C
   .exact⟨h0,DM h0⟩
 by_cases h7:kind=7
 .subst h7;simp only[Int.reduceEq,if_false,if_true,Bool.and_eq_true,mQ,decide_eq_true_eq] at h hb;obtain⟨g1,g2,X,M,g5⟩:=h;have C:aI=[]:=List.length_eq_zero_iff.1 hb.2.2.2.2.2.2.2;subst C;have J:=U g5;have hv:=xK X;have Bc:=ki (jZ (l:=f.ag) (r:=a) oG);refine⟨⟨fun r h'=>?_,?_,by simp,by simp,fun _=>?_⟩,by simp,fun t ht=>?_⟩
  .simp[cn,aN] at h';exact ki (hv r h')
  .simp only[dJ,aN];simp;omega
  .dsimp only;omega
  .simp[cM,gD,aN] at ht;subst ht;exact J
 by_cases h8:kind=8
 .subst h8;simp only[Int.reduceEq,if_false,if_true,Bool.and_eq_true,mQ] at h hb;obtain⟨g1,g2,X,M,g5⟩:=h;obtain⟨ue,DL,DM⟩:=Hv g5;have J:=U X;have DK:=U M;have Bc:=ki (jZ (l:=f.ag) (r:=a) oG);have hrb:=ki (nI g2);refine⟨⟨fun r h'=>?_,?_,?_,by simp,by simp⟩,ue,fun t ht=>?_⟩
  .simp[cn,aN] at h';subst h';exact Bc
  .simp[dJ,aN];omega
  .dsimp only at ue ⊢;omega
  .simp[cM,gD,aN] at ht;rcases ht with rfl|rfl|⟨w,C,rfl⟩|⟨h0,rfl⟩
   .exact J
   .exact DK
   .exact DL w C
   .exact⟨h0,DM h0⟩
 by_cases h9:kind=9
 .subst h9;simp only[Int.reduceEq,if_false,if_true,Bool.and_eq_true,mQ] at h hb;obtain⟨g1,g2,X⟩:=h;have C:aI=[]:=List.length_eq_zero_iff.1 hb.2.2.2.2.2.2.2;subst C;have J:=U X
  have Bc:=ki (jZ (l:=f.ag) (r:=a) (by
   rw[g2];intro e
   simp[pZ,e,g1] at hr))
  refine⟨⟨fun r h'=>?_,?_,by simp,by simp,by simp⟩,by simp,fun t ht=>?_⟩
  .simp[cn,aN] at h';subst h';exact Bc
  .simp[dJ,aN]
  .simp[cM,gD,aN] at ht;subst ht;exact J
 .simp[h1,h2,h3,h4,h5,h6,h7,h8,h9] at h
theorem abg(a b:Int):dC (zb a b):=by
 unfold zb intBitsV dC;simp only;rw[wrap_u64 (n:=(BitVec.ofInt IntKind.u64.bits a||| BitVec.ofInt IntKind.u64.bits b).toNat) (BitVec.isLt (w:=64) _)];have h:(BitVec.ofInt IntKind.u64.bits a||| BitVec.ofInt IntKind.u64.bits b).toNat<18446744073709551616:=BitVec.isLt (w:=64) _;exact⟨Int.natCast_nonneg _,Int.ofNat_lt.2 h⟩
theorem MU{w:List Int}{n:Int}(h:∀ u∈w,dC u):∀ u∈gu w n,dC u:=fun u C=>by
 unfold gu at C;split at C
 .unfold wo at C;rcases List.mem_or_eq_of_mem_set C with h1|h1
  .exact h u h1
  .rw[h1];exact abg _ _
 .exact h u C
theorem Er:∀ k,∀ u∈gW k,dC u
 |0,u,hu=>by
  rw[List.eq_of_mem_replicate hu];simp[dC]
 |k+1,u,hu=>MU (Er k) u hu
theorem oV.rl{x:bt}(h:oV x):(cr x).length<=100000:=by
 unfold cr;split
 .simp
 .split
  .simp
  .split
   .rename_i J;have:=h.ar (.inl J);omega
   .split
    .rename_i C;have:=h.ar (.inr C);simp;omega
    .simp
theorem Ak.rf{x:End}(h:Ak x)(hi:x.kind=5->oV x.ins):(cn x).length<=100000:=by
 unfold cn;split
 .simp
 .split
  .split<;>simp
  .split
   .rename_i h5;exact(hi h5).rl
   .split
    .rename_i C;have:=h.a2 (by simpa[aN] using C);omega
    .simp
structure lD(f:aF):Prop where
 pos:0<f.blocks.length
 gO:f.blocks.length<=1200
 ag:f.ag.length<=1200
 args:0<=f.args/\f.args<=6
 blk:∀ b∈f.blocks,rK f.blocks.length b
 ends:∀ b∈f.blocks,FP f b.fin
 right:∀ (b:Nat) x,f.blocks[b]? =some x->∀ (j:Nat) y,x.ins[j]? =some y->iM f b y ((x.ins.take (j+1)).all bT) (bA f.blocks f.blocks.length b).length=true
 aR:(∀ k∈f.aR,k≠0)/\f.aR.length<=60
 alQ:∀ b∈f.blocks,b.fin.kind=5->oV b.fin.ins
theorem Oj{l:List Int}{m:Int}(h:dY l m=true):∀ k∈l,k≠0:=fun k hk e=>by
 subst e;simp only[dY,Bool.not_eq_true',List.any_eq_false] at h;have:=h 0 hk;simp[ma] at this
theorem acq{f:aF}{x:End}(hl:f.ag.length<=1200)(h:jg f x=true)(h5:x.kind=5):oV x.ins:=by
 unfold jg at h;rw[Bool.and_eq_true] at h;have h:=h.1;unfold fC at h;simp only[h5,Int.reduceEq,if_false,if_true,Bool.and_eq_true] at h;obtain⟨J,M,_⟩:=h;cases C:fc jh x.ins.op with
 |none=>rw[C] at J;simp at J
 |some s=>rw[C] at M;exact Hl hl (.inr (Hk C)) (HD M)
theorem uG{f:aF}(h:ik f=true):lD f:=by
 unfold ik at h;simp only[Bool.and_eq_true] at h;obtain⟨U,X,_,hE,hR⟩:=h;unfold mR at U;simp only[Bool.and_eq_true,jY,Bool.not_eq_true',decide_eq_false_iff_not] at U;obtain⟨_,ha,hr,fM,fq,cI⟩:=U;unfold p9 at X;simp only[Bool.and_eq_true,Bool.not_eq_true',decide_eq_false_iff_not] at X;obtain⟨_,_,pD,_,_⟩:=X;have J:f.ag.length<=1200:=by omega
 have M:∀ x∈f.blocks,jg f x.fin=true/\x.ins.length<=200:=fun x hx=>by
  obtain⟨k,hk⟩:=List.getElem?_of_mem hx;have ao:k<f.blocks.length:=(List.getElem?_eq_some_iff.1 hk).1;have:=List.all_eq_true.1 hE k (by simpa using ao);rw[jb,getD_some hk] at this;simp only[Bool.and_eq_true,Bool.not_eq_true',decide_eq_false_iff_not] at this;exact⟨this.1,by omega⟩
 have C:∀ x∈f.blocks,FP f x.fin:=fun x hx=>H8 J hr (M x hx).1
 have W8:∀ (b:Nat) x,f.blocks[b]? =some x->∀ (j:Nat) y,x.ins[j]? =some y->iM f b y ((x.ins.take (j+1)).all bT) (bA f.blocks f.blocks.length b).length=true:=fun b x hx j y hy=>by
  have ao:b<f.blocks.length:=(List.getElem?_eq_some_iff.1 hx).1;have:=List.all_eq_true.1 hR b (by simpa using ao);rw[qW,getD_some hx] at this;have:=List.all_eq_true.1 this j (by simpa using(List.getElem?_eq_some_iff.1 hy).1);rw[uy,getD_some hy] at this;exact this
 have h5:∀ b∈f.blocks,b.fin.kind=5->oV b.fin.ins:=fun b hb h5=>acq J (M b hb).1 h5
 have wL:∀ b∈f.blocks,∀ x∈b.ins,oV x:=fun b hb x hx=>by
  obtain⟨k,hk⟩:=List.getElem?_of_mem hb;obtain⟨j,hj⟩:=List.getElem?_of_mem hx;exact(Hm J (Oj pD) oG (W8 k b hk j x hj)).1
 refine⟨by omega,by omega,J,⟨ha.1,by have:=ha.2;split at this<;>omega⟩,fun b hb=>⟨by have:=(M b hb).2;omega,wL b hb,(C b hb).fin,fun x hx=>(wL b hb x hx).rl,(C b hb).fin.rf (h5 b hb),fun t ht=>(C b hb).to t (El.1 ht)⟩,C,W8,⟨Oj pD,by omega⟩,h5⟩
theorem lD.GO{f:aF}(h:lD f){b:Nat}{x:bP}(hx:f.blocks[b]? =some x){y:bt}(hy:y∈x.ins)(C:y.op=19):y.args.length=(bA f.blocks f.blocks.length b).length/\∀ r∈y.args,0<=r/\r<1280:=by
 obtain⟨j,hj⟩:=List.getElem?_of_mem hy;obtain⟨h1,_,_,_,h2⟩:=(Hm h.ag h.aR.1 h.aR.2 (h.right b x hx j y hj)).2 C;refine⟨by omega,fun r hr=>?_⟩;have:=(h2 r hr).2;unfold iy at this;have:=h.ag;omega
end Go.Argus
namespace Go.Proofs.Tryz.K
set_option maxRecDepth 10000
set_option maxHeartbeats 1000000 in
theorem Bb{p q:D}{f:aF}{n:Nat}(hp:Tr p)(hq:Tr q)(eL:p.one=true)(fk:q.one=true)(hn:f.blocks.length=n)(jR:n<=100000)(hw:∀ b∈f.blocks,b.fin.aI.length<=9)(ht:∀ b∈f.blocks,∀ t∈nextR b.fin,0<=t/\t<n):
 PCall prog 97 [.agg (bg p q f)] (bp (cC f.blocks)):=by
 have aW:∀ a∈[D.agg (bg p q f)],Tr a:=.cons (mh hp hq f) .nil;refine a9 mixed Vn (by rw[alE];rfl) aW (sT _) ?_;rw[alF,alG];refine aw ?_;refine af ?_;refine ab (aO (bw [(0,bg p q f,133)] eH (l:=[(1,.pt (bg p q f))]) eH) (aw ?_));refine bD ?_;have cE:((f.blocks.length:Nat):Int).toNat=n:=hn;refine ab (aO (aE (l:=[(1,.pt (bg p q f)),(3,.rs 1 0 n)]) (ml:=[(1,.cells (List.replicate n .z) 27)]) ⟨rfl,congrArg (fun k=>D.rs 1 0 k) cE,trivial⟩ ⟨?_,trivial⟩) (aC (aw ?_)))
 .exact congrArg (fun c=>some (Row.cells c 27)) ((congrArg (fun k=>replD k [D.z]) cE).trans (zP n))
 refine aK ?_
 refine ab (bO (fun s=>∃ m nx ρ,Ghost prog s ⟨az [(3,.rs 1 0 n)],m,nx⟩/\dx m nx 1 n 27 3 ρ (fun i=>(bA f.blocks n i).map I)) (dK (α:=Nat×Mem×Nat)
  (fun k=>⟨az [(1,.pt (bg p q f)),(3,.rs 1 0 n),(15,eZ f.blocks),(16,I n),(17,I k.1)],k.2.1,k.2.2⟩)
  (fun k=>k.1<=n/\(∃ ρ,dx k.2.1 k.2.2 1 n 27 3 ρ (fun i=>(bA f.blocks k.1 i).map I))/\∀ i,(bA f.blocks k.1 i).length<=12*k.1) (fun k=>n - k.1) (0,aY [(1,.cells (List.replicate n .z) 27)],2)
  (av ⟨rfl,rfl,rfl,congrArg (fun k:Nat=>I k) hn,rfl,trivial⟩) ⟨Nat.zero_le _,⟨fun _=>0,EO (show 1<2 by decide) rfl⟩,fun _=>Nat.le_refl _⟩ ?_) ?_)
 .rintro⟨k,m,nx⟩ ⟨hk,⟨ρ,C⟩,hlen⟩;dsimp only at hk C hlen ⊢;have aA:=C.row;have ct:=C.nC;refine SS ?_;refine ab ⟨_,rfl,fun h=>?_,fun h=>?_⟩
  .have ao:k<n:=by simpa using h
   have hx:f.blocks[k]? =some f.blocks[k]:=List.getElem?_eq_getElem oG;have X:f.blocks[k]∈f.blocks:=List.getElem_mem _;generalize f.blocks[k]=x at hx X
   have bC:bA f.blocks (k+1)=(nextR x.fin).foldl (c6 k) (bA f.blocks k):=by
    rw[bA,List.range_succ,List.foldl_append];show oJ f.blocks _ k=_;rw[oJ,hx];rfl
   generalize bA f.blocks k=L0 at C hlen aA bC;refine ws ?_;refine bD ?_;have u6:=u6 (x:=x.fin);have u9:=Rg (x:=x.fin) (hw x X)
   change PCall _ _ _ (ax (nextR x.fin)) at u9
   have cS:=ht x X;have ic:=vP x.fin;have GJ:=hw x X;generalize nextR x.fin=l at u9 cS ic bC;refine ab (aw ?_);refine SS ?_;refine aH (dU (vs:=bc _) rfl (up_same _ _ _) V.h V.h rfl) ak (dV V.h V.h (by first|(simp;done)|omega|exact Nat.le_of_ble_eq_true rfl)) ?_;refine cl u6 ?_;refine cl u9 ?_;refine af ?_
   refine ab (dK (α:=Nat×Mem×Nat)
    (fun j=>⟨az [(1,.pt (bg p q f)),(3,.rs 1 0 n),(4,I k),(15,eZ f.blocks),(16,I n),(17,I k),(25,ax l),(26,I l.length),(27,I j.1)],j.2.1,j.2.2⟩)
    (fun j=>j.1<=l.length/\(∃ ρ,dx j.2.1 j.2.2 1 n 27 3 ρ (fun i=>((l.take j.1).foldl (c6 k) L0 i).map I))/\∀ i,((l.take j.1).foldl (c6 k) L0 i).length<=12*k+j.1) (fun j=>l.length - j.1) (0,up m nx (some (.cells (eC x) 72)),nx+1)
    (jC eH (lH _ _ _ _)) ⟨Nat.zero_le _,⟨ρ,C.ext (fun q hq=>ap oG rfl) oM⟩,hlen⟩ ?_)
   clear C aA hlen;rintro⟨j,m,nx⟩ ⟨hj,⟨ρ,C⟩,hlen⟩;dsimp only at hj C hlen ⊢;have aA:=C.row;have ct:=C.nC;have U:∀ t,l[j]? =some t->(l.take (j+1)).foldl (c6 k) L0=c6 k ((l.take j).foldl (c6 k) L0) t:=fun t ht=>iG ht;have jL:j=l.length->(l.take j).foldl (c6 k) L0=bA f.blocks (k+1):=fun e=>by rw[bC,List.take_of_length_le oG]
   generalize (l.take j).foldl (c6 k) L0=L at C hlen aA U jL;refine SS ?_;refine ab ⟨_,rfl,fun h=>?_,fun h=>?_⟩
   .have wK:j<l.length:=by simpa using h
    have xr:l[j]? =some l[j]:=List.getElem?_eq_getElem wK;have nB:=cS _ (List.getElem_mem wK);generalize l[j]=t at xr nB;obtain⟨i,rfl⟩:=Int.eq_ofNat_of_zero_le nB.1;have J:i<n:=by omega
    have hL:=hlen i;have U:(l.take (j+1)).foldl (c6 k) L0=up L i (L i++[(k:Int)]):=U _ xr
    have nU:∀ i,((l.take (j+1)).foldl (c6 k) L0 i).length<=12*k+(j+1):=fun a=>by
     rw[U];exact Eo (t:=(i:Int)) hlen a
    have sy:(fun a=>((l.take (j+1)).foldl (c6 k) L0 a).map I)=up (fun a=>(L a).map I) i ((L i++[(k:Int)]).map I):=by rw[U];exact Fp
    obtain⟨cs,kd⟩:=BF (ρ:=ρ) (L:=fun i=>(L i).map I) J;refine ws ?_;refine au ?_;refine ab (dz ?_);by_cases hz:L i=[]
    .have kA:jc (ρ i) ((L i).map I)=.z:=by rw[hz];rfl
     rw[kA] at kd;refine aL ?_;refine af ?_;refine ab ?_;refine af ?_;refine ab (aJ (j+1,up (up (up m nx (some (.cells [I k] 3))) (nx+1) (some (.cells [I k] 3))) 1 (some (.cells ((gA ρ (fun i=>(L i).map I) n).set i (.rs (nx+1) 0 1)) 27)),nx+2) (av eH) ⟨by dsimp only;omega,⟨up ρ i (nx+1),?_⟩,nU⟩ oM);dsimp only;rw[sy];refine C.iF J oS oG oG ?_ ?_ (fun q hq oq _=>?_)
     .rw[hz];exact up_same _ _ _
     .rw[hz];exact ap oG (up_same _ _ _)
     .exact ap oG (ap oG (ap oG rfl))
    .have M:(L i).map I≠[]:=by simpa using hz
     have kA:jc (ρ i) ((L i).map I)=.rs (ρ i) 0 (L i).length:=by rw[lI M,List.length_map]
     rw[kA] at kd;have cW:=C.n3 i J M;have uc:=C.lt i J M;have Ll:=C.ne i J M;refine aL ?_;refine af ?_;refine ab ?_;refine af ?_;refine ab (aJ (j+1,up (up (up (up m nx (some (.cells [I k] 3))) (ρ i) none) (nx+1) (some (.cells ((L i).map I++[I k]) 3))) 1 (some (.cells ((gA ρ (fun i=>(L i).map I) n).set i (.rs (nx+1) 0 ((L i).length+1))) 27)),nx+2) (av eH) ⟨by dsimp only;omega,⟨up ρ i (nx+1),?_⟩,nU⟩ oM);dsimp only;rw[sy];refine C.iF J oS oG oG ?_ ?_ (fun q hq oq lX=>?_)
     .rw[List.length_map,List.length_append];exact up_same _ _ _
     .rw[List.map_append];exact ap oG (up_same _ _ _)
     .have:=lX M;exact ap oG (ap oG (ap oG (ap oG rfl)))
   .have aX:¬ j<l.length:=by simpa using h
    have vl:=jL oG;subst vl;show AOps _ _ _ _ _ _ _ _ _;refine af ?_;refine ab (aJ (k+1,m,nx) (av eH) ⟨by dsimp only;omega,⟨ρ,C⟩,fun i=>by have:=hlen i;dsimp only at this ⊢;omega⟩ oM)
  .have aX:¬ k<n:=by simpa using h
   have:k=n:=by omega
   subst this;exact⟨m,nx,ρ,av eH,C⟩
 .rintro s ⟨m,nx,ρ,hg,C⟩;have om:¬ ∃ i,i<n/\(bA f.blocks n i).map I≠[]/\ρ i=1:=fun⟨i,h1,h2,h3⟩=>C.ne i h1 h2 h3;refine⟨_,hg.trans (EB (l:=[(3,.rs 1 0 n)]) (ml:=[]) (fun r=>∃ i,i<n/\(bA f.blocks n i).map I≠[]/\ρ i=r) C (fun _=>.map) c3 (fun i h1 h2=>⟨i,h1,h2,rfl⟩) om ⟨rfl,trivial⟩ (fun x hx=>?_) trivial (fun x hx=>by cases hx)),aw ?_⟩
  .simp at hx;subst hx;exact .rs om
  refine af ?_;refine ab (aO (bw [(1,_,27)] eH (l:=[(2,bp (cC f.blocks))]) ⟨?_,trivial⟩) (ay rfl rfl));show sub (fz0 1 _ (prog.cellsOf 27)) (D.rs 1 0 n)=_;rw[iY (by rw[y6];simp),H6,cC,hn]
set_option maxHeartbeats 1000000 in
theorem F7{p q:D}{f:aF}{n args:Nat}(hp:Tr p)(hq:Tr q)(eL:p.one=true)(fk:q.one=true)(hn:f.blocks.length=n)(lY:0<n)(jR:n<=100000)(ha:f.args=args)(sj:args<=1000)(A9:∀ u∈gW args,dC u)(hb:∀ b∈f.blocks,rK n b)
 (yE:∀ b x,f.blocks[b]? =some x->∀ y∈x.ins,y.op=19->y.args.length=(bA f.blocks n b).length/\∀ r∈y.args,0<=r/\r<1280):
 PCall prog 154 [.agg (bg p q f)] (B (vQ f.blocks args)):=by
 have aW:∀ a∈[D.agg (bg p q f)],Tr a:=.cons (mh hp hq f) .nil;have AA:=AA hp hq eL fk hn lY jR ha sj A9 hb;have Bb:=Bb hp hq eL fk hn jR (fun b h=>(hb b h).fin.wh) (fun b h=>(hb b h).to);have Vp:fj n (gI f.blocks args):=by subst hn;exact abe hb A9
 refine a9 mixed TF (by rw[af6];rfl) aW (.s _) ?_;rw[af7,af8];refine aw ?_;refine af ?_;refine ab (aO (bw [(0,bg p q f,133)] eH (l:=[(1,.pt (bg p q f))]) eH) ?_);have fV:vQ f.blocks args=(List.range n).all (qV f.blocks (gI f.blocks args)):=by rw[vQ,hn]
 rw[fV];clear fV;generalize gI f.blocks args=R at AA Vp ⊢;obtain⟨lw,lr,jA,rg⟩:=Vp;have AA:PCall prog 197 [.agg (bg p q f)] (.tup [.sl (cy R.ws) n,bq R.re]):=by unfold bq;rw[lr];exact AA
 show AW _ _ _ _ (scopeQ _) _;refine ws ?_;refine SS ?_;refine cl AA ?_;refine aK ?_;refine ab (aw ?_);refine SS ?_;refine cl Bb ?_;refine SS ?_;refine ab (aO (fw (l:=[(1,.pt (bg p q f)),(3,.sl (cy R.ws) n),(4,bq R.re),(5,bp (cC f.blocks))]) eH) (YA (aC (aw ?_))));refine aK ?_
 refine ab (bO (fun s=>(List.range n).all (qV f.blocks R)=true) (dK (α:=Nat×Nat)
  (fun k=>⟨az [(1,.pt (bg p q f)),(3,.sl (cy R.ws) n),(4,bq R.re),(5,bp (cC f.blocks)),(25,eZ f.blocks),(26,I n),(27,I k.1)],fun _=>none,k.2⟩)
  (fun k=>k.1<=n/\(List.range k.1).all (qV f.blocks R)=true) (fun k=>n - k.1) (0,1) (fw ⟨rfl,rfl,rfl,rfl,rfl,congrArg (fun k:Nat=>I k) hn,rfl,trivial⟩) ⟨Nat.zero_le _,rfl⟩ ?_) ?_)
 .rintro⟨k,N⟩ ⟨hk,X⟩;dsimp only at hk X ⊢;refine SS ?_;refine ab ⟨_,rfl,fun h=>?_,fun h=>?_⟩
  .have ao:k<n:=by simpa using h
   have hx:f.blocks[k]? =some f.blocks[k]:=List.getElem?_eq_getElem oG;have bQ:f.blocks[k]∈f.blocks:=List.getElem_mem _;generalize f.blocks[k]=x at hx bQ;have iE:=hb x bQ;have sA:=yE k x hx;have hw:R.ws[k]? =some R.ws[k]:=List.getElem?_eq_getElem oG;have iD:R.re[k]? =some R.re[k]:=List.getElem?_eq_getElem oG;have lZ:=jA _ (List.getElem_mem (h:=by omega):R.ws[k]∈R.ws)
   have M:qV f.blocks R k=(!R.re[k]||((iH x R.ws[k]).2&&(x.ins.takeWhile bT).all (uP f.blocks R k))):=by
    rw[qV,getD_some hw,getD_some iD,getD_some hx]
   generalize R.ws[k]=w at hw lZ M;generalize R.re[k]=b at iD M;refine aw ?_;refine bD ?_;refine ab (aO (sW (i:=N) (l:=[(1,.pt (bg p q f)),(3,.sl (cy R.ws) n),(4,bq R.re),(5,bp (cC f.blocks)),(6,I k),(7,.pt (eC x)),(25,eZ f.blocks),(26,I n),(27,I k)]) (up_same _ _ _) ⟨rfl,rfl,rfl,rfl,rfl,m9,rfl,rfl,rfl,trivial⟩) (aC (aj ?_)));refine aK ?_;refine ab (bh rfl (fun h=>kF (qj ?_)) fun h=>bS (aC (qS ZT ?_)))
   .have DH:b=false:=by simpa using h
    subst DH;refine af ?_;refine ab (aJ (k+1,N+1) (fw eH) ⟨by dsimp only;omega,kE X (by rw[M];rfl)⟩ oM)
   have Ba:b=true:=by simpa using h
   subst Ba;have nj:=nj lZ iE.len iE.ins iE.fin iE.rl iE.rf;have ve:=Hf x w;rw[lZ] at ve;generalize iH x w=th at nj M ve;obtain⟨w1,ok⟩:=th;dsimp only at nj M ve;refine au ?_;refine Vq ?_;refine Vr ?_;refine cl nj ?_;refine bD ?_;refine bk (by simp[apartT]) (aO (fw (l:=[(1,.pt (bg p q f)),(3,.sl (cy R.ws) n),(4,bq R.re),(5,bp (cC f.blocks)),(6,I k),(7,.pt (eC x)),(9,B ok),(25,eZ f.blocks),(26,I n),(27,I k)]) eH) (aC (aj ?_)));refine af ?_;refine ab (bh rfl (fun h=>?_) fun h=>bS (aw ?_))
   .have bB:ok=false:=by simpa using h
    subst bB;refine aC (aj ?_);refine SS ?_;refine ab (cU (cq (aT (Iy (ay (d:=B false) rfl ?_)))));rw[nH ao (by rw[M];rfl)]
   have bB:ok=true:=by simpa using h
   subst bB;have M:qV f.blocks R k=(x.ins.takeWhile bT).all (uP f.blocks R k):=M;refine aP ?_;have ic:=iE.len
   refine ab (dK (α:=Nat×Nat)
    (fun j=>⟨az [(1,.pt (bg p q f)),(3,.sl (cy R.ws) n),(4,bq R.re),(5,bp (cC f.blocks)),(6,I k),(25,eZ f.blocks),(26,I n),(27,I k),(49,gp x.ins),(50,I x.ins.length),(51,I j.1)],fun _=>none,j.2⟩)
    (fun j=>j.1<=x.ins.length/\(∀ y∈x.ins.take j.1,bT y=true)/\(x.ins.take j.1).all (uP f.blocks R k)=true) (fun j=>x.ins.length - j.1) (0,_) (fw eH) ⟨Nat.zero_le _,by simp,by simp⟩ ?_)
   rintro⟨j,N⟩ ⟨hj,AB,CV⟩;dsimp only at hj AB CV ⊢;refine SS ?_;refine ab ⟨_,rfl,fun h=>?_,fun h=>?_⟩
   .have ct:j<x.ins.length:=by simpa using h
    have hy:x.ins[j]? =some x.ins[j]:=List.getElem?_eq_getElem ct;have fN:x.ins[j]∈x.ins:=List.getElem_mem ct;generalize x.ins[j]=y at hy fN;refine aw ?_;refine aP ?_;refine ab (aO (sW (i:=N) (l:=[(1,.pt (bg p q f)),(3,.sl (cy R.ws) n),(4,bq R.re),(5,bp (cC f.blocks)),(6,I k),(11,.pt (bl y)),(25,eZ f.blocks),(26,I n),(27,I k),(49,gp x.ins),(50,I x.ins.length),(51,I j)]) (up_same _ _ _) ⟨rfl,rfl,rfl,rfl,rfl,m9,rfl,rfl,rfl,rfl,rfl,rfl,trivial⟩) (aC (aj ?_)));refine au ?_;refine ab (bh rfl (fun h=>kF (aef oC oC (qj ?_))) fun h=>bS (aw ?_))
    .have aB:y.op≠19:=by simpa using h
     refine af ?_;refine ab (aJ (k+1,_) (fw eH) ⟨by dsimp only;omega,kE X ?_⟩ oM);rw[M,takeWhile_eq AB (fun y' h'=>by rw[hy] at h';cases h';simpa[bT] using aB)];exact CV
    have eB:y.op=19:=by simpa using h
    obtain⟨dT,di⟩:=sA y fN eB;have hA:=Hu hn ao
    have DI:∀ p∈bA f.blocks n k,∃ C:Nat,p=C/\C<n:=fun p hp=>by
     obtain⟨b,h1,h2,_⟩:=Bt.1 hp;exact⟨b,h1,h2⟩
    have Lm:uP f.blocks R k y=(List.range (bA f.blocks n k).length).all (s5 f.blocks R k y):=by rw[uP,hn]
    have J:∀ i,s5 f.blocks R k y i=(!(R.re.getD ((bA f.blocks n k).getD i 0).toNat false)||lR (fT (f.blocks.getD ((bA f.blocks n k).getD i 0).toNat jn).fin k (iH (f.blocks.getD ((bA f.blocks n k).getD i 0).toNat jn) (R.ws.getD ((bA f.blocks n k).getD i 0).toNat [])).1) (y.args.getD i 0).toNat):=fun i=>by rw[s5,hn]
    have za:=Ep (fun b h=>(hb b h).fin.wh) n k;generalize bA f.blocks n k=A at dT hA DI Lm J za
    have I2:∀ i,i<A.length->s5 f.blocks R k y i=false->(List.range n).all (qV f.blocks R)=false:=fun i hi he=>by
     refine nH ao ?_;rw[M];refine Bool.eq_false_iff.2 fun ht=>?_
     have alO:y∈x.ins.takeWhile bT:=by
      have:x.ins.take (j+1)=x.ins.take j++[y]:=by rw[List.take_add_one,hy];rfl
      have h2:x.ins=x.ins.take (j+1)++x.ins.drop (j+1):=(List.take_append_drop _ _).symm;rw[h2,this,List.takeWhile_append_of_pos]
      .simp
      .intro z hz;rcases List.mem_append.1 hz with h|h
       .exact AB z h
       .rw[List.mem_singleton.1 h];simp[bT,eB]
     have:=List.all_eq_true.1 ht y alO;rw[Lm,nH hi he] at this;cases this
    refine bD ?_
    refine ab (dK (α:=Nat×Nat)
     (fun i=>⟨az [(1,.pt (bg p q f)),(3,.sl (cy R.ws) n),(4,bq R.re),(5,bp (cC f.blocks)),(6,I k),(11,.pt (bl y)),(25,eZ f.blocks),(26,I n),(27,I k),(49,gp x.ins),(50,I x.ins.length),(51,I j),(61,ax A),(62,I A.length),(63,I i.1)],fun _=>none,i.2⟩)
     (fun i=>i.1<=A.length/\(List.range i.1).all (s5 f.blocks R k y)=true) (fun i=>A.length - i.1) (0,_) (fw eH) ⟨Nat.zero_le _,rfl⟩ ?_)
    rintro⟨i,N⟩ ⟨hi,JE⟩;dsimp only at hi JE ⊢;refine SS ?_;refine ab ⟨_,rfl,fun h=>?_,fun h=>?_⟩
    .have hZ:i<A.length:=by simpa using h
     have W2:A[i]? =some A[i]:=List.getElem?_eq_getElem hZ;obtain⟨C,DJ,iC⟩:=DI _ (List.getElem_mem hZ);rw[DJ] at W2;clear DJ;have ud:f.blocks[C]? =some f.blocks[C]:=List.getElem?_eq_getElem oG;have pk:f.blocks[C]∈f.blocks:=List.getElem_mem _;have W3:R.ws[C]? =some R.ws[C]:=List.getElem?_eq_getElem oG;have GM:R.re[C]? =some R.re[C]:=List.getElem?_eq_getElem oG;have Kn:=jA _ (List.getElem_mem (h:=by omega):R.ws[C]∈R.ws);have Ln:y.args[i]? =some y.args[i]:=List.getElem?_eq_getElem oG;have xm:=di _ (List.getElem_mem (h:=by omega):y.args[i]∈y.args);have J:=J i;rw[getD_some W2,Int.toNat_natCast,getD_some ud,getD_some W3,getD_some GM,getD_some Ln] at J;generalize f.blocks[C]=xp at ud pk J;generalize R.ws[C]=wp at W3 Kn J;generalize R.re[C]=rb at GM J;generalize y.args[i]=r at Ln xm J;obtain⟨rn,rfl⟩:=Int.eq_ofNat_of_zero_le xm.1;rw[Int.toNat_natCast] at J;have yF:=hb xp pk;have nj:=Go.Proofs.Tryz.K.nj Kn yF.len yF.ins yF.fin yF.rl yF.rf;have CW:=Hf xp wp;rw[Kn] at CW;generalize iH xp wp=tp at nj J CW;obtain⟨w2,ok2⟩:=tp;dsimp only at nj J CW;have wI:=wI (x:=xp.fin) (b:=(k:Int)) (w:=w2) CW (by have:=yF.fin.wh;omega) (by have:=yF.fin.wr;omega);have oc:=Nf xp.fin k w2;rw[CW] at oc;generalize fT xp.fin k w2=w3 at wI oc J;have kT:=kT (w:=w3) (m:=rn) oc oG;refine ws ?_;refine aK ?_;refine ab (qS Y1 ?_);refine bF ?_;refine Vq ?_;refine Vr ?_;refine cl nj ?_;refine bD ?_;refine bk (by simp[apartT]) (aO (sW (i:=N) (l:=[(1,.pt (bg p q f)),(3,.sl (cy R.ws) n),(4,bq R.re),(5,bp (cC f.blocks)),(6,I k),(11,.pt (bl y)),(12,I i),(13,I C),(14,.pt (w2.map cz)),(25,eZ f.blocks),(26,I n),(27,I k),(49,gp x.ins),(50,I x.ins.length),(51,I j),(61,ax A),(62,I A.length),(63,I i)]) (up_same _ _ _) ⟨rfl,rfl,rfl,rfl,rfl,rfl,rfl,rfl,m9,rfl,rfl,rfl,rfl,rfl,rfl,rfl,rfl,rfl,trivial⟩) (dm Y2 ?_))
     have qo:∀ v:Bool,v=s5 f.blocks R k y i->(v=false->(List.range n).all (qV f.blocks R)=false)/\(v=true->(List.range (i+1)).all (s5 f.blocks R k y)=true):=fun v hv=>by
      subst hv;exact⟨I2 i hZ,fun h=>kE JE h⟩
     cases rb with
     |false=>
      obtain⟨_,U⟩:=qo true J.symm;have U:=U rfl;refine aL ?_;refine bG rfl rfl (rz rfl rfl V.h V.h (zD) oN) (fun hc=>⟨ak,(rA V.h (zD) oN)⟩) ?_;refine au ?_;refine bG rfl rfl (mf rfl V.h V.h (Rh (by first|rfl|exact Nat.le_of_ble_eq_true rfl|(simp;done)|(simp;omega)|omega))) (fun hc=>⟨ak,(mg V.h V.h (by first|rfl|exact Nat.le_of_ble_eq_true rfl|(simp;done)|(simp;omega)|omega))⟩) ?_;refine gc wI ?_;refine aK ?_;refine gc kT ?_;refine af ?_;refine bk (by simp[apartT]) (aq rfl (fun h=>oH) fun h=>cg ?_);refine af ?_;refine ab (aJ (i+1,_) (fw eH) ⟨by dsimp only;omega,U⟩ oM)
     |true=>
      obtain⟨fF,U⟩:=qo (lR w3 rn) J.symm;generalize lR w3 rn=hv at kT fF U;refine aL ?_;refine bG rfl rfl (rz rfl rfl V.h V.h (zD) oN) (fun hc=>⟨ak,(rA V.h (zD) oN)⟩) ?_;refine au ?_;refine bG rfl rfl (mf rfl V.h V.h (Rh (by first|rfl|exact Nat.le_of_ble_eq_true rfl|(simp;done)|(simp;omega)|omega))) (fun hc=>⟨ak,(mg V.h V.h (by first|rfl|exact Nat.le_of_ble_eq_true rfl|(simp;done)|(simp;omega)|omega))⟩) ?_;refine gc wI ?_;refine aK ?_;refine gc kT ?_;refine af ?_;refine bk (by simp[apartT]) (aq rfl (fun h=>?_) fun h=>cg ?_)
      .have hf:hv=false:=by simpa using h
       refine ws ?_;refine SS ?_;refine ab (aV (cq (cq (cq (aT (Iy (ay (d:=B false) rfl ?_)))))));rw[fF hf]
      .have ht:hv=true:=by simpa using h
       have U:=U ht;refine af ?_;refine ab (aJ (i+1,_) (fw eH) ⟨by dsimp only;omega,U⟩ oM)
    .have aX:¬ i<A.length:=by simpa using h
     have hiA:i=A.length:=by omega
     subst hiA;show AOps _ _ _ _ _ _ _ _ _;refine af ?_;refine ab (aJ (j+1,_) (fw eH) ⟨by dsimp only;omega,fun z hz=>?_,?_⟩ oM)
     .dsimp only at hz;rw[List.take_add_one,hy] at hz;rcases List.mem_append.1 hz with h|h
      .exact AB z h
      .rw[List.mem_singleton.1 h];simp[bT,eB]
     .dsimp only;rw[List.take_add_one,hy,List.all_append,CV];simpa[Lm] using JE
   .have aX:¬ j<x.ins.length:=by simpa using h
    have Dt:j=x.ins.length:=by omega
    subst Dt;show AOps _ _ _ _ _ _ _ _ _;refine af ?_;refine ab (aJ (k+1,_) (fw eH) ⟨by dsimp only;omega,kE X ?_⟩ oM);rw[List.take_length] at AB CV;rw[M,takeWhile_eq (j:=x.ins.length) (by rw[List.take_length];exact AB) (fun y h=>by simp at h),List.take_length];exact CV
  .have aX:¬ k<n:=by simpa using h
   have:k=n:=by omega
   subst this;exact X
 .rintro⟨env,m,nx⟩ X;refine⟨_,.refl _,aj ?_⟩;refine SS ?_;refine ab (Iy (ay (d:=B true) rfl ?_));rw[X]
end Go.Proofs.Tryz.K
namespace Go.Argus
theorem W4:∀ b1 b2 b3 b4 b5 b6:Bool,(if(if(if(if(if(!b1)=true then true else !b2)=true then true else !b3)=true then true else b4)=true then true else b5)=true then true else !b6)= !(b1&&(b2&&(b3&&(!b4&&(!b5&&b6))))):=by decide
theorem W5:∀ b1 b2 b3 b4 b5:Bool,(if(if(if(if(!b1)=true then true else !b2)=true then true else !b3)=true then true else b4)=true then true else b5)= !(b1&&(b2&&(b3&&(!b4&& !b5)))):=by decide
theorem hd3:∀ b1 b2 b3 b4:Bool,(if(if b1=true then true else b2)=true then true else if b3=true then !b4 else false)=(b1||(b2||(b3&& !b4))):=by decide
def mH(l:List Int):List (Value×D):=l.map fun a=>(.int .i64 a,B true)
theorem II(a:Int):∀ l:List Int,(lookD (.int .i64 a) (mH l)).map (·.2)=if(l.any (·==a))=true then some (B true) else none
 |[]=>rfl
 |b::l=>by
  have ih:=II a l;unfold mH at ih ⊢;simp only[List.map_cons,lookD,veq,veq1,List.any_cons,beq_self_eq_true,Bool.true_and] at ih ⊢;by_cases h:b=a
  .subst h;simp
  .have hb:(b==a)=false:=by simpa using h
   simp only[hb,Bool.false_eq_true,if_false,Option.map_map,Bool.false_or];exact ih
theorem adv{P:Program}{t:TypeId}(C:zeroD P (melP P t)=B false)(a:Int)(l:List Int):gotD P t false (lookD (.int .i64 a) (mH l))=B (l.any (·==a)):=by
 have h:=II a l;cases h1:lookD (.int .i64 a) (mH l) with
 |none=>
  rw[h1] at h;cases h2:l.any (·==a) with
  |true=>rw[h2] at h;simp at h
  |false=>simp[gotD,C]
 |some x=>
  rw[h1] at h;cases h2:l.any (·==a) with
  |false=>rw[h2] at h;simp at h
  |true=>rw[h2] at h;simp at h;simp[gotD,h]
theorem adw{a:Int}{l:List Int}(h:l.any (·==a)=false):putD (.int .i64 a) (B true) (mH l)=mH (l++[a]):=by
 have h1:=II a l;rw[h] at h1;unfold putD;cases h2:lookD (.int .i64 a) (mH l) with
 |none=>simp[mH]
 |some x=>rw[h2] at h1;simp at h1
theorem OZ{P:Program}{kt:TypeId}(hk:P.underlying kt=some (.int .i64))(l:List Int):(mH l).all (fun e=>keyP P kt e.1)=true:=by
 refine List.all_eq_true.2 fun x hx=>?_;obtain⟨y,_,rfl⟩:=List.mem_map.1 hx;simp[keyP,hk]
theorem z9{P:Program}{kt:TypeId}(hk:P.underlying kt=some (.int .i64))(a:Int):keyP P kt (.int .i64 a)=true:=by simp[keyP,hk]
theorem acp{i sz:Nat}{cs0:List D}(l:List Int):Row.sub (fz0 i cs0 sz) (.map (mH l))=.map (mH l):=by
 show Row.map ((mH l).map _)=_;unfold mH;rw[List.map_map];rfl
theorem Yl{bs:List bP}{k:Nat}{x:bP}(hx:bs[k]? =some x):kI bs (k+1)=if(x.fin.kind==7)=true then kI bs k++[x.fin.a] else kI bs k:=by
 unfold kI;rw[List.take_add_one,hx];by_cases h:(x.fin.kind==7)=true
 .simp[h]
 .simp[h]
end Go.Argus
namespace Go.Proofs.Tryz.K
set_option maxRecDepth 10000
theorem qM:prog.underlying 3=some (.int .i64):=kr
theorem af9:zeroD prog (melP prog 127)=B false:=kr
set_option maxHeartbeats 1000000 in
theorem Ko{f:aF}:PCall prog 153 [.agg (aG f)] (B (ik f)):=by
 have aW:∀ a∈[D.agg (aG f)],Tr a:=.cons (.agg (gn f)) .nil;refine a9 mixed TG (by rw[af'];rfl) aW (.s _) ?_;rw[aga,agb];refine aw ?_;refine af ?_;refine ab (aO (sW (i:=0) (l:=[(1,.pt (aG f))]) rfl eH) (aw ?_));have Kp:=Kp (f:=f);refine SS ?_;refine cl Kp ?_;refine SS ?_;refine b9 (gR (cs':=bg _ _ _) rfl rfl rfl rfl) ak (cP V.h V.h (by first|(simp;done)|exact⟨rfl,Nat.le_of_ble_eq_true rfl⟩|(simp;omega)) (by rfl)) ?_;refine ab (aO (sW (i:=1) (l:=[(1,.pt (aG f)),(3,.pt (bg P0 Q0 f))]) rfl eH) (aw ?_));refine aL ?_;refine bF ?_;refine af ?_;refine ab (aO (fw (l:=[(1,.pt (aG f)),(3,.pt (bg P0 Q0 f)),(4,B (pZ f))]) ⟨rfl,rfl,congrArg B (hd3 (f.result==1) (f.result==2) (f.result==0) f.iter),trivial⟩) (aC (aj ?_)));have alP:ik f=(mR f&&(p9 f&&(mS f&&((List.range f.blocks.length).all (jb f)&&(List.range f.blocks.length).all (qW f))))):=rfl;rw[alP];have X:mR f=(kL f.name&&(cJ f.args 0 (if(f.ag.length:Int)<6 then(f.ag.length:Int) else 6)&&(pZ f&&(!decide ((1200:Int)<f.ag.length)&&(!decide ((60:Int)<f.aR.length)&&cJ f.blocks.length 1 1200))))):=rfl;generalize fV:pZ f=W6 at X ⊢;refine af ?_;refine cl rW ?_;refine c8 ?_;refine bG rfl rfl (SW rfl rfl) (fun hc=>⟨ak,rfl⟩) ?_;refine gc l6 ?_;refine aL ?_;refine aL ?_;refine aP ?_;refine gc l6 ?_;refine af ?_;refine ab (bh rfl (fun h=>?_) fun h=>bS (aC (aj ?_)))
 .have h:=(W4 _ _ _ _ _ _).symm.trans h;rw[<- X] at h;have h:mR f=false:=by simpa using h
  refine aC (aj ?_);refine SS ?_;refine ab (cU (ay (d:=B false) rfl ?_));rw[h];rfl
 have h:=(W4 _ _ _ _ _ _).symm.trans h;rw[<- X] at h;have J:mR f=true:=by simpa using h
 rw[J,Bool.true_and];rw[X] at J;simp only[Bool.and_eq_true,jY,Bool.not_eq_true',decide_eq_false_iff_not] at J;obtain⟨_,ha,hr,fM,U,cI⟩:=J;subst hr;clear h X
 have sj:0<=f.args/\f.args<=f.ag.length/\f.args<=6:=by
  split at ha<;>omega
 have hK:p9 f=(dY f.ag 3&&(dY (f.ag.take f.args.toNat) 2&&(dY f.aR 2&&(!decide ((6:Int)<f.signals.length)&& !f.signals.any fun s=> !isName s)))):=rfl;have F3:=F3 (l:=f.signals) (g:=193) (fs:=[]) (cs:=[]) (p:=fun s=> !isName s) (.fn oS oS) (fun x _=>alM);have ha2:0<=f.args/\f.args<=f.ag.length:=⟨sj.1,sj.2.1⟩
 refine af ?_;refine cl Km ?_;refine bD ?_;refine bG rfl rfl (abf rfl W7 c5 rfl Vt ha2) (fun hc=>⟨(by repeat' (first|exact trivial|exact hc|exact rfl|refine And.intro ?_ ?_)),trivial⟩) ?_;refine gc Km ?_;refine aK ?_;refine gc Km ?_;refine aL ?_;refine af ?_;refine gc F3 ?_;refine SS ?_;refine ab (bh rfl (fun h=>?_) fun h=>bS (aC (aw ?_)))
 .have h:=(W5 _ _ _ _ _).symm.trans h;rw[<- hK] at h;have h:p9 f=false:=by simpa using h
  refine aC (aj ?_);refine SS ?_;refine ab (cU (ay (d:=B false) rfl ?_));rw[h];rfl
 have h:=(W5 _ _ _ _ _).symm.trans h;rw[<- hK] at h;have J:p9 f=true:=by simpa using h
 rw[J,Bool.true_and];rw[hK] at J;simp only[Bool.and_eq_true,Bool.not_eq_true',decide_eq_false_iff_not] at J;obtain⟨_,_,pD,hsg,_⟩:=J;clear h hK F3;have hS:mS f=(List.range (f.signals.length - 1)).all (s6 f.signals):=rfl;rw[hS];have ju:f.signals.length<=6:=by omega
 refine SS ?_;refine ab (bO (fun s=>Ghost prog s ⟨az [(1,.pt (aG f)),(3,.pt (bg P0 Q0 f))],fun _=>none,2⟩/\(List.range (f.signals.length - 1)).all (s6 f.signals)=true) (b8 (α:=Nat) (fun k=>⟨az [(1,.pt (aG f)),(3,.pt (bg P0 Q0 f)),(5,I (k+1:Nat))],fun _=>none,2⟩) (fun k=>k<=f.signals.length - 1/\(List.range k).all (s6 f.signals)=true) (fun k=>f.signals.length - k) 0 (fw eH) ⟨Nat.zero_le _,rfl⟩ ?_) ?_)
 .rintro k ⟨hk,C⟩;refine aK ?_;refine ab ⟨_,rfl,fun h=>?_,fun h=>?_⟩
  .have ao:k+1<f.signals.length:=by have:((k+1:Nat):Int)<f.signals.length:=by simpa using h
                                    omega
   have h1:f.signals[k]? =some f.signals[k]:=List.getElem?_eq_getElem oG;have h2:f.signals[k+1]? =some f.signals[k+1]:=List.getElem?_eq_getElem oG;have U:s6 f.signals k=Op.bytesLess f.signals[k].toList f.signals[k+1].toList:=by rw[s6,getD_some h1,getD_some h2]
   generalize f.signals[k]=s1 at h1 U;generalize f.signals[k+1]=s2 at h2 U;have uW:((k+1:Nat):Int) - 1=(k:Int)/\ -9223372036854775808<=(k:Int)/\(k:Int)<=9223372036854775807:=by omega
   refine dm Y3 ?_;refine aL ?_;refine af ?_;refine aH (QO rfl rfl) ak trivial ?_;refine bk (by simp[apartT]) (aq rfl (fun h=>?_) fun h=>cg ?_)
   .have hf:s6 f.signals k=false:=by rw[U];simpa using h
    refine ws ?_;refine SS ?_;refine ab (aV (cq (aT (ay (d:=B false) rfl ?_))));rw[nH oG hf];rfl
   .have ht:s6 f.signals k=true:=by rw[U];simpa using h
    refine au ?_;exact ab (aJ (k+1) (fw eH) ⟨by omega,kE C ht⟩ oG)
  .have aX:¬ k+1<f.signals.length:=by intro J;simp at h;omega
   have:k=f.signals.length - 1:=by omega
   subst this;exact⟨fw eH,C⟩
 rintro s ⟨hg,C⟩;rw[C,Bool.true_and];clear C hS;refine⟨_,hg,aw ?_⟩;refine af ?_;refine ab (aO (aE (l:=[(1,.pt (aG f)),(3,.pt (bg P0 Q0 f)),(6,.mp 2)]) (ml:=[(2,.map (mH []))]) eH eH) (aC (aw ?_)));refine aP ?_;generalize hn:f.blocks.length=n at cI ⊢;refine ab (bO (fun s=>∃ N,Ghost prog s ⟨az [(1,.pt (aG f)),(3,.pt (bg P0 Q0 f))],fun _=>none,N⟩/\(List.range n).all (jb f)=true) (dK (α:=Nat×Nat) (fun k=>⟨az [(1,.pt (aG f)),(3,.pt (bg P0 Q0 f)),(6,.mp 2),(123,eZ f.blocks),(124,I n),(125,I k.1)],aY [(2,.map (mH (kI f.blocks k.1)))],k.2⟩) (fun k=>k.1<=n/\(List.range k.1).all (jb f)=true/\3<=k.2) (fun k=>n - k.1) (0,3) (aE eH eH) ⟨Nat.zero_le _,rfl,Nat.le_refl _⟩ ?_) ?_)
 .rintro⟨k,N⟩ ⟨hk,C,hN⟩;dsimp only at hk C hN ⊢;refine SS ?_;refine ab ⟨_,rfl,fun h=>?_,fun h=>?_⟩
  .have ao:k<n:=by simpa using h
   have hx:f.blocks[k]? =some f.blocks[k]:=List.getElem?_eq_getElem oG;generalize f.blocks[k]=x at hx;have M:jb f k=(jg f x.fin&&(!decide ((200:Int)<x.ins.length)&& !(x.fin.kind==7&&(kI f.blocks k).any (·==x.fin.a)))):=by rw[jb,getD_some hx]
   have ot:=Yl hx;have F8:=F8 (f:=f) (x:=x.fin);generalize kI f.blocks k=l at M ot;refine aw ?_;refine aP ?_;refine ab (aO (gQ (i:=N) (l:=[(1,.pt (aG f)),(3,.pt (bg P0 Q0 f)),(6,.mp 2),(8,.pt (eC x)),(123,eZ f.blocks),(124,I n),(125,I k)]) (ml:=[(2,.map (mH l))]) (up_same _ _ _) ⟨rfl,rfl,rfl,m9,rfl,rfl,rfl,trivial⟩ ⟨vS oG (ap oG (ap oG rfl)) (acp l),trivial⟩) (aC (aj ?_)));generalize jg f x.fin=e at F8 M;refine au ?_;refine cl F8 ?_;refine c8 ?_;refine ab (bh rfl (fun h=>?_) fun h=>bS (aj ?_))
   .have hf:jb f k=false:=by
     rw[M];cases e with
     |false=>rfl
     |true=>have:decide ((200:Int)<x.ins.length)=true:=by simpa using h
            rw[this];rfl
    refine aC (aj ?_);refine SS ?_;refine ab (cU (cq (aT (ay (d:=B false) rfl ?_))));rw[nH ao hf];rfl
   have M:jb f k= !(x.fin.kind==7&&l.any (·==x.fin.a)):=by
    rw[M];cases e with
    |false=>simp at h
    |true=>have:decide ((200:Int)<x.ins.length)=false:=by simpa using h
           rw[this];rfl
   refine aP ?_;refine ab (aq rfl (fun h7=>?_) fun h7=>cg ?_)
   .rw[h7] at M ot;refine aC (aj ?_);refine aP ?_;refine aH (EJ rfl rfl rfl wq (adv af9 _ _)) (by repeat' (first|exact trivial|exact rfl|refine And.intro ?_ ?_)) ⟨wu,z9 qM _,OZ qM _⟩ ?_;refine ab (bh rfl (fun h=>?_) fun h=>bS (dz ?_))
    .have hf:jb f k=false:=by rw[M,h];rfl
     refine aC (aj ?_);refine SS ?_;refine ab (cU (cq (aT (ay (d:=B false) rfl ?_))));rw[nH ao hf];rfl
    .have ht:jb f k=true:=by rw[M,h];rfl
     refine aP ?_;refine b9 (QZ rfl rfl rfl rfl wq) (by repeat' (first|exact trivial|exact rfl|refine And.intro ?_ ?_)) ⟨wu,z9 qM _,OZ qM _⟩ ?_;refine ab ?_;refine af ?_;refine ab (aJ (k+1,_) (aE eH ⟨?_,trivial⟩) ⟨by dsimp only;omega,kE C ht,by dsimp only;omega⟩ oM);dsimp only;rw[ot,if_pos rfl, <- adw h];exact up_same _ _ _
   .rw[h7] at M ot;refine af ?_;refine ab (aJ (k+1,_) (aE eH ⟨?_,trivial⟩) ⟨by dsimp only;omega,kE C M,by dsimp only;omega⟩ oM);dsimp only;rw[ot,if_neg oS];rfl
  .have aX:¬ k<n:=by simpa using h
   have:k=n:=by omega
   subst this;exact⟨N,fw eH,C⟩
 rintro s ⟨N,hg,C⟩;rw[C,Bool.true_and]
 have hE:∀ x∈f.blocks,FP f x.fin:=fun x hx=>by
  obtain⟨k,hk⟩:=List.getElem?_of_mem hx;have ao:k<n:=by rw[<- hn];exact(List.getElem?_eq_some_iff.1 hk).1
  have:=List.all_eq_true.1 C k (by simpa using ao);rw[jb,getD_some hk] at this;simp only[Bool.and_eq_true] at this;exact H8 oG fV this.1
 have Bb:=Bb (f:=f) lL lM rfl rfl hn oG (fun b h=>by have:=(hE b h).wh;omega) (fun b h t ht=>hn▸(hE b h).to t (El.1 ht));refine⟨_,hg,aj ?_⟩;refine SS ?_;refine cl Bb ?_;refine SS ?_;refine ab (aC (aw ?_));refine aP ?_;refine ab (bO (fun s=>(List.range n).all (qW f)=true) (dK (α:=Nat×Nat) (fun k=>⟨az [(1,.pt (aG f)),(3,.pt (bg P0 Q0 f)),(9,bp (cC f.blocks)),(157,eZ f.blocks),(158,I n),(159,I k.1)],fun _=>none,k.2⟩) (fun k=>k.1<=n/\(List.range k.1).all (qW f)=true) (fun k=>n - k.1) (0,N) (fw ⟨rfl,rfl,rfl,rfl,congrArg (fun k:Nat=>I k) hn,rfl,trivial⟩) ⟨Nat.zero_le _,rfl⟩ ?_) ?_)
 .rintro⟨k,N⟩ ⟨hk,C⟩;dsimp only at hk C ⊢;refine SS ?_;refine ab ⟨_,rfl,fun h=>?_,fun h=>?_⟩
  .have ao:k<n:=by simpa using h
   have hx:f.blocks[k]? =some f.blocks[k]:=List.getElem?_eq_getElem oG;have bQ:f.blocks[k]∈f.blocks:=List.getElem_mem _;generalize f.blocks[k]=x at hx bQ;have hA:=Hu hn ao;have jU:qW f k=(List.range x.ins.length).all (uy f k x.ins):=by rw[qW,getD_some hx]
   have od:∀ j,uy f k x.ins j=iM f k (x.ins.getD j dt) ((x.ins.take (j+1)).all bT) (bA f.blocks n k).length:=fun j=>by rw[uy,hn]
   generalize bA f.blocks n k=A at hA od;refine aw ?_;refine bD ?_;refine ab (aO (sW (i:=N) (l:=[(1,.pt (aG f)),(3,.pt (bg P0 Q0 f)),(9,bp (cC f.blocks)),(10,I k),(11,.pt (eC x)),(157,eZ f.blocks),(158,I n),(159,I k)]) (up_same _ _ _) ⟨rfl,rfl,rfl,rfl,m9,rfl,rfl,rfl,trivial⟩) (aj ?_));refine SS ?_;refine ab (aw ?_);refine aP ?_
   have fA:x.ins.length<=200:=by
    have:=List.all_eq_true.1 ‹(List.range n).all (jb f)=true› k (by simpa using ao);rw[jb,getD_some hx] at this;simp only[Bool.and_eq_true,Bool.not_eq_true',decide_eq_false_iff_not] at this;omega
   refine ab (dK (α:=Nat×Nat) (fun j=>⟨az [(1,.pt (aG f)),(3,.pt (bg P0 Q0 f)),(9,bp (cC f.blocks)),(10,I k),(12,B ((x.ins.take j.1).all bT)),(157,eZ f.blocks),(158,I n),(159,I k),(165,gp x.ins),(166,I x.ins.length),(167,I j.1)],fun _=>none,j.2⟩) (fun j=>j.1<=x.ins.length/\(List.range j.1).all (uy f k x.ins)=true) (fun j=>x.ins.length - j.1) (0,N+1) (fw eH) ⟨Nat.zero_le _,rfl⟩ ?_);rintro⟨j,N⟩ ⟨hj,JF⟩;dsimp only at hj JF ⊢;refine SS ?_;refine ab ⟨_,rfl,fun h=>?_,fun h=>?_⟩
   .have ct:j<x.ins.length:=by simpa using h
    have hy:x.ins[j]? =some x.ins[j]:=List.getElem?_eq_getElem ct;generalize x.ins[j]=y at hy;have qK:(x.ins.take (j+1)).all bT=((x.ins.take j).all bT&&bT y):=by rw[List.take_add_one,hy,List.all_append];simp
    have od:=od j;rw[getD_some hy] at od;generalize (x.ins.take j).all bT=ph at qK;refine aw ?_;refine aP ?_;refine ab (aO (sW (i:=N) (l:=[(1,.pt (aG f)),(3,.pt (bg P0 Q0 f)),(9,bp (cC f.blocks)),(10,I k),(12,B ph),(14,.pt (bl y)),(157,eZ f.blocks),(158,I n),(159,I k),(165,gp x.ins),(166,I x.ins.length),(167,I j)]) (up_same _ _ _) ⟨rfl,rfl,rfl,rfl,rfl,m9,rfl,rfl,rfl,rfl,rfl,rfl,trivial⟩) (aw ?_));refine c8 ?_;refine ab (aO (fw (l:=[(1,.pt (aG f)),(3,.pt (bg P0 Q0 f)),(9,bp (cC f.blocks)),(10,I k),(12,B ((x.ins.take (j+1)).all bT)),(14,.pt (bl y)),(157,eZ f.blocks),(158,I n),(159,I k),(165,gp x.ins),(166,I x.ins.length),(167,I j)]) ⟨rfl,rfl,rfl,rfl,?_,rfl,rfl,rfl,rfl,rfl,rfl,rfl,trivial⟩) (dm Y4 ?_))
    .rw[qK];cases ph<;>rfl
    have F9:=F9 (f:=f) (b:=(k:Int)) (ahead:=(A.length:Int)) (x:=y) (phis:=(x.ins.take (j+1)).all bT);rw[<- od] at F9;refine aL ?_;refine cl F9 ?_;refine SS ?_;refine bk (by simp[apartT]) (aq rfl (fun h=>?_) fun h=>cg ?_)
    .have hf:uy f k x.ins j=false:=by simpa using h
     refine ws ?_;refine SS ?_;refine ab (aV (cq (cq (aT (ay (d:=B false) rfl ?_)))));rw[nH ao (by rw[jU];exact nH ct hf)]
    .have ht:uy f k x.ins j=true:=by simpa using h
     refine af ?_;exact ab (aJ (j+1,_) (fw eH) ⟨by dsimp only;omega,kE JF ht⟩ oM)
   .have aX:¬ j<x.ins.length:=by simpa using h
    have Dt:j=x.ins.length:=by omega
    subst Dt;show AOps _ _ _ _ _ _ _ _ _;refine af ?_;exact ab (aJ (k+1,_) (fw eH) ⟨by dsimp only;omega,kE oN (jU.trans JF)⟩ oM)
  .have aX:¬ k<n:=by simpa using h
   have:k=n:=by omega
   subst this;show(List.range k).all (qW f)=true
   assumption
 .rintro⟨env,m,nx⟩ C;refine⟨_,.refl _,aj ?_⟩;refine SS ?_;refine ab (ay (d:=B true) rfl ?_);rw[C]
theorem xu{f:aF}:PCall prog 95 [.agg (aG f)] (I (cR f)):=by
 have M:∀ a∈[D.agg (aG f)],Tr a:=.cons (.agg (gn f)) .nil;refine a9 mixed Vu (by rw[alR];rfl) M (.s _) ?_;rw[alS,alT];have Ko:=Ko (f:=f);refine aw ?_;refine af ?_;refine ab (aO (sW (i:=0) (l:=[(1,.pt (aG f))]) rfl eH) (mN (aj ?_)));refine SS ?_;refine cl Ko ?_;refine af ?_;refine ab (aq rfl (fun h=>aj ?_) fun h=>aj ?_)
 .have hf:ik f=false:=by simpa using h
  refine SS ?_;refine ab (aV (bx (aT (ay (d:=I 80) rfl ?_))));rw[cR,if_neg (by simp[hf])]
 .have hf:ik f=true:=by simpa using h
  have C:=uG hf;obtain⟨args,ha⟩:=Int.eq_ofNat_of_zero_le C.args.1;have X:=C.args.2;have F7:=F7 (p:=.s (.map none)) (q:=.s (.map none)) (f:=f) (.s _) (.s _) rfl rfl rfl C.pos (by have:=C.gO;omega) ha oG (Er args) C.blk (fun b x hx y hy U=>C.GO hx hy U);have J:cR f=if vQ f.blocks args=true then 0 else 81:=by rw[cR,if_pos hf,ha,Int.toNat_natCast]
  generalize vQ f.blocks args=r at F7 J;refine SS ?_;refine Vv ?_;refine cl F7 ?_;refine af ?_;refine ab (aq rfl (fun h=>aj ?_) fun h=>mn (aj ?_))
  .have hr:r=false:=by simpa using h
   refine SS ?_;refine ab (aV (bx (aT (ay (d:=I 81) rfl ?_))));rw[J,hr];rfl
  .have hr:r=true:=by simpa using h
   refine SS ?_;refine ab (aV (ay (d:=I 0) rfl ?_));rw[J,hr];rfl
end Go.Proofs.Tryz.K
namespace Go.Argus
def TH(a b:Int):Int:=intBitsV .andNot .u64 a b
def FQ(w:List Int)(m:Nat):List Int:=w.set (m / 64) (TH (w.getD (m / 64) 0) (IntKind.u64.wrap (1*2 ^ (min (m % 64) 64))))
def CE(w:List Int)(n:Int):List Int:=if 0<=n then FQ w n.toNat else w
def wv(w v:List Int):Nat->List Int
 |0=>w
 |k+1=>(wv w v k).set k (zb ((wv w v k).getD k 0) (v.getD k 0))
def agc(w v:List Int):List Int:=wv w v 19
@[simp] theorem aqv (w : List Int) (m : Nat) : (FQ w m).length = w.length := by simp [FQ]
@[simp] theorem aqw (w : List Int) (n : Int) : (CE w n).length = w.length := by unfold CE; split <;> simp
@[simp] theorem Nl (w v : List Int) : ∀ k, (wv w v k).length = w.length
 |0=>rfl
 |k+1=>by simp[wv,Nl w v k]
@[simp] theorem aqx (w v : List Int) : (agc w v).length = w.length := Nl w v 19
end Go.Argus
end
