/- Part 18. -/
import Derived.Test.YtnagfmlifobdiaaGreatDoorShareShapes2
import Derived.Test.YtnagfmlifobdiaaGreatDoorShareShapes4
import Derived.Test.YtnagfmlifobdiaaGreatDoorShareShapes7
import Derived.Test.YtnagfmlifobdiaaGreatDoorShareShapes17
import Derived.Below
import Derived.Carry
import Derived.ChangeOld
import Derived.Handed
import Derived.KernelRfl
import Derived.LaidLaws
import Derived.MakeChecks
import Derived.OpenShut
import Derived.Stop.Joined
import Derived.Test.YtnagfmlifobdiaaGreatDoorRows
set_option linter.all false
set_option maxHeartbeats 4000000
set_option maxRecDepth 10000
namespace Go.Abs
open Go.ChangeShapes Go.WideShapes
inductive BW:List Sh->List D->Prop
 |nil:BW [] []
 |cons {s:Sh} {l:List Sh} {ds:List D} (x:s.val) (hx:s.ok x) (h:BW l ds):BW (s::l) (s.arg x::ds)
def yR(P:Program)(n:Nat):List TypeId->Option (List Sh)
 |[]=>some []
 |t::ts=>match vD P n t,yR P n ts with
  |some s,some l=>some (s::l)
  |_,_=>none
theorem adN{P:Program}{n:Nat}{t:TypeId}{ts:List TypeId}{l:List Sh}(h:yR P n (t::ts)=some l):∃ s C,vD P n t=some s/\yR P n ts=some C/\l=s::C:=by
 simp only[yR] at h;split at h
 .rename_i s C h1 h2;simp only[aV] at h;exact⟨s,C,h1,h2,h.symm⟩
 .cases h
section
variable{P:Program}{H:Type}{ec:TypeId×Value->H}{w w':World}{base b0:Nat}{r:Reach}{F:Nat->Prop}
theorem Wj(J:EU F w){n:Nat}:∀ {ts:List TypeId} {C:List Sh} {vs:List Value} {ds:List (DataW H)} {ps:List MemPlace},yR P n ts=some C->C.all Sh.tY=true->
 (∀ (j:Nat) t v,ts[j]? =some t->vs[j]? =some v->Value.okWide P w r b0 t v)->DataW.TrodAll ec P w base (fun _=>true) true ts vs ds ps->
 ∃ aS,BW C aS/\aS.length=vs.length/\∀ (k:Nat) (d:D) (v:Value),aS[k]? =some d->vs[k]? =some v->R F iN w d v
 |[],C,[],[],_,hs,_,_,_=>by
  simp only[yR,aV] at hs;subst hs;exact⟨[],.nil,rfl,oS⟩
 |t::ts,C,v::vs,d::ds,ps,hs,tZ,cE,h=>by
  obtain⟨p,q,h1,h2,_⟩:=h;obtain⟨s,X,M,O,rfl⟩:=adN hs;simp only[List.all_cons,aB] at tZ;obtain⟨x,U,hx⟩:=al1 J M tZ.1 (cE 0 t v rfl rfl) h1;obtain⟨aS,a1,a2,a3⟩:=Wj J O tZ.2 (fun j t v hj hv=>cE (j+1) t v (by simpa using hj) (by simpa using hv)) h2;refine⟨s.arg x::aS,.cons x U a1,by simp[a2],fun k d v hd hv=>?_⟩;cases k with
  |zero=>
   simp only[List.getElem?_cons_zero,aV] at hd hv;subst hd hv;exact hx
  |succ k=>exact a3 k d v (by simpa using hd) (by simpa using hv)
 |[],_,_::_,_,_,_,_,_,h=>by simp[DataW.TrodAll] at h
 |[],_,[],_::_,_,_,_,_,h=>by simp[DataW.TrodAll] at h
 |_::_,_,[],_,_,_,_,_,h=>by simp[DataW.TrodAll] at h
 |_::_,_,_::_,[],_,_,_,_,h=>by simp[DataW.TrodAll] at h
theorem Kept.same(h:Kept w w'){p:MemPlace}(hp:p.block<w.heap.size):w.sameAt w' p:=by
 cases p with
 |cell b o=>exact Go.World.cell?_of_block (w:=w) (h.2.1 b hp)
 |map b=>exact h.2.1 b hp
theorem Kept.frame(h:Kept w w')(C:MemPlace->Prop):w.keptBut w' C:=by
 refine⟨h.2.2.1,h.2.2.2,fun i hi=>?_⟩;rw[h.2.1 i hi];split<;>simp_all
theorem Rf(hl:laidOutB P=true)(h:Kept w w'):∀ {ts:List TypeId} {vs:List Value} {ds:List (DataW H)} {ps:List MemPlace},(ts.all fun t=>P.readableRec t&&decide (t<P.types.size))=true->
 DataW.TrodAll ec P w 0 (fun _=>true) true ts vs ds ps->DataW.TrodAll ec P w' 0 (fun b=>decide (b<w.heap.size)) true ts vs ds ps
 |[],[],[],_,_,h0=>h0
 |t::ts,v::vs,d::ds,ps,ht,h0=>by
  obtain⟨p,q,h1,h2,rfl⟩:=h0;simp only[List.all_cons,aB,decide_eq_true_eq] at ht;have al:∀ x∈p,x.block<w.heap.size:=by obtain⟨m,hm⟩:=h1;exact DataW.trod_lt m _ _ _ hm
  exact⟨p,q,WideElems.Trod_stays hl ht.1.1 ht.1.2 h1 (fun x hx=>h.same (al x hx)) (fun x hx=>by simpa using al x hx),Rf hl h (by simpa using ht.2) h2,rfl⟩
 |[],_::_,_,_,_,h0=>by simp[DataW.TrodAll] at h0
 |[],[],_::_,_,_,h0=>by simp[DataW.TrodAll] at h0
 |_::_,[],_,_,_,h0=>by simp[DataW.TrodAll] at h0
 |_::_,_::_,[],_,_,h0=>by simp[DataW.TrodAll] at h0
theorem RF:∀ {ts:List TypeId} {vs:List Value} {ds:List (DataW H)} {ps:List MemPlace},DataW.TrodAll ec P w 0 (fun _=>true) true ts vs ds ps->ds.length=ts.length
 |[],[],[],_,_=>rfl
 |t::ts,v::vs,d::ds,ps,h0=>by
  obtain⟨p,q,h1,h2,rfl⟩:=h0;simp[RF h2]
 |[],_::_,_,_,h0=>by simp[DataW.TrodAll] at h0
 |[],[],_::_,_,h0=>by simp[DataW.TrodAll] at h0
 |_::_,[],_,_,h0=>by simp[DataW.TrodAll] at h0
 |_::_,_::_,[],_,h0=>by simp[DataW.TrodAll] at h0
theorem T7{nm:String}{d:DataW Unit}:∀ {l:List (String×DataW Unit)} {ps:List MemPlace},DataW.LaidVars P w l ps->(nm,d)∈l->
 ∃ g t cs gQ p,P.globalNamed nm=some g/\(P.globals[g]?).map (·.type)=some t/\w.var? P nm=some cs/\DataW.trod (fun _=>()) P w 0 (fun _=>true) false gQ t cs.toList=some (d,p)/\∀ x∈MemPlace.row ⟨g,0,none⟩ cs.size,x∈ps
 |[],_,_,h=>by simp at h
 |(n,e)::r,ps,hv,h=>by
  obtain⟨g,t,cs,gQ,p,q,h1,h2,M,O,U,rfl⟩:=hv;rcases List.mem_cons.1 h with h|h
  .cases h;exact⟨g,t,cs,gQ,p,h1,h2,M,O,fun x hx=>List.mem_append_left _ (List.mem_append_left _ hx)⟩
  .obtain⟨J,t',cs',C,p',k1,X,k3,k4,k5⟩:=T7 U h;exact⟨J,t',cs',C,p',k1,X,k3,k4,fun x hx=>List.mem_append_right _ (k5 x hx)⟩
theorem Td{e:TypeId}{m:Nat}{spare:Nat->Bool}{held:Bool}(he:P.underlying e=some (.int .u64))(hc:P.cellsOf e=1):∀ {cs:List Value} {l:List Int} {xs:List (DataW H×List MemPlace)},cs.length=l.length->xs.map (·.1)=l.map (fun n=>DataW.lit (.int .u64 n))->
 (∀ i,i<l.length->DataW.trod ec P w base spare held m e ((cs.drop i).take 1)=xs[i]?)->cs=l.map (Value.int .u64 ·)
 |[],[],_,_,_,_=>rfl
 |c::cs,n::l,[],_,hx,_=>by simp at hx
 |c::cs,n::l,x::xs,hl,hx,h=>by
  have h0:=h 0 oS;simp only[List.drop_zero,List.take_succ_cons,List.take_zero,List.getElem?_cons_zero] at h0;obtain⟨b,hb,J,_⟩:=DataW.trod_int he h0;simp only[List.map_cons,List.cons.injEq] at hx;have C:x.1=DataW.lit (.int .u64 b):=by rw[J]
  rw[hx.1] at C;simp only[DataW.lit.injEq,Lit.int.injEq,true_and] at C;subst C;simp only[List.cons.injEq,and_true] at hb;subst hb;rw[List.map_cons,Td he hc (cs:=cs) (l:=l) (xs:=xs) (by simpa using hl) hx.2 fun i hi=>by simpa using h (i+1) (by simpa using hi)]
 |[],_::_,_,hl,_,_=>by simp at hl
 |_::_,[],_,hl,_,_=>by simp at hl
theorem abZ{laid:List (String×DataW Unit)}{nm:String}{g t e:Nat}{l:List Int}(h:laidMet P laid w)(hm:(nm,DataW.agg (l.map fun n=>DataW.lit (.int .u64 n)))∈laid)(hg:P.globalNamed nm=some g)
 (ht:(P.globals[g]?).map (·.type)=some t) (hu:P.underlying t=some (.array l.length e)) (hs:P.cellsOf t=l.length) (he:P.underlying e=some (.int .u64)) (hc:P.cellsOf e=1) (bf:0<l.length):
 ∃ ty,w.heap[g]? =some (.cells (l.map (Value.int .u64 ·)).toArray ty (0,0)):=by
 obtain⟨ps,hv,_,hp⟩:=h;obtain⟨M,X,cs,gQ,p,h1,h2,J,O,U⟩:=T7 hv hm;obtain rfl:g=M:=Option.some.inj (hg.symm.trans h1);obtain rfl:t=X:=Option.some.inj (ht.symm.trans h2);obtain⟨xs,m,_,e2,e3,e4,e5⟩:=DataW.trod_array hu O
 have C:cs.toList=l.map (Value.int .u64 ·):=by
  refine Td (ec:=fun _=>()) (w:=w) (base:=0) (spare:=fun _=>true) (held:=false) (m:=m) (xs:=xs) he hc (by rw[e3,hs]) ?_ fun i hi=>?_
  .simp only[cN,DataW.agg.injEq] at e2;exact e2.1.symm
  .have:=e5 i hi
   rwa[hc,Nat.mul_one] at this
 have bS:0<cs.size:=by
  have:cs.toList.length=l.length:=by rw[C];simp
  simp at this;omega
 obtain⟨⟨c,ty,hh⟩,_⟩:=hp g 0 (U _ (by
  unfold MemPlace.row;refine List.mem_map.2 ⟨0,by simpa using bS,?_⟩
  simp[Addr.add]))
 refine⟨ty,?_⟩;simp only[World.var?,hg,Option.bind_some,hh,aV] at J;subst J;rw[hh, <- C]
end
theorem aav{C:Checked}{f:FuncId}{fn:Func}{s:ChangeSpec}{H:Type}{ec:TypeId×Value->H}{n:Nat}{xD:List Sh}{tb:TypeId}{F:Nat->Prop}
 (XB:s.vars=[]) (hs:∀ ds:List (DataW H),ds.length=fn.params.size->s.fn H ds={ results:=[.lit (.bool true)],args:=ds })
 (J:laidOutB C.prog=true) (M:(fn.params.toList.all fun t=>C.prog.readableRec t&&decide (t<C.prog.types.size))=true) (n1:fn.resultTypes= #[tb]) (hb:C.prog.underlying tb=some .bool)
 (p8:yR C.prog n fn.params.toList=some xD) (tZ:xD.all Sh.tY=true) (h:∀ aS,BW xD aS->az C.prog f aS (.s (.bool true)))
 (W:World) (base:Nat) (args:Array Value) (ds gs:List (DataW H)) (before:List MemPlace) (U:FB F W) (hU:EU F W)
 (Fx:∀ (j:Nat) t v,fn.params[j]? =some t->args[j]? =some v->Value.okWide C.prog W .any base t v)
 (hW:DataW.Whole ec C.prog fn.params.toList s.vars false W args.toList ds gs before):
 Calls C.prog f args W fun e W'=>∃ v,e=.returned v/\s.post ec C.prog fn false true false false W args v W':=by
 have hW':=hW;obtain⟨p,q,O,X,rfl,hfz,eN⟩:=hW;rw[XB] at X
 have hg:gs=[]/\q=[]:=by
  cases gs with
  |nil=>exact⟨rfl,X⟩
  |cons g gs=>exact X.elim
 obtain⟨rfl,rfl⟩:=hg;obtain⟨aS,a1,a2,a3⟩:=Wj hU p8 tZ (fun j t v hj hv=>Fx j t v (by simpa using hj) (by simpa using hv)) O;refine((h aS a1).2.2 F W args U ⟨by simpa using a2.symm,fun k d v hd hv=>a3 k d v hd (by simpa using hv)⟩).mono ?_;rintro e W' ⟨v,rfl,hv,hk⟩;obtain⟨rfl,_⟩:=hv.cI;have hlen:ds.length=fn.params.size:=by simpa using RF O
 refine⟨_,rfl,ds,[],_,[],p,[],hW',?_,?_,?_,hk.frame _,fun h=>by cases h⟩
 .rw[List.append_nil,hs ds hlen,n1];exact⟨[],[],⟨1,by simp[DataW.trod,Value.cells,hb]⟩,rfl,rfl⟩
 .rw[List.append_nil,hs ds hlen];exact Rf J hk M O
 .rw[List.append_nil,hs ds hlen,XB];rfl
end Go.Abs
namespace Go.Argus
open Go.Abs
abbrev qM:Sh:=.int .i64
abbrev FA:Sh:=.int .u8
abbrev EV:Sh:=.pair FA (.pair qM (.pair qM (.pair qM (.pair qM (.pair (.sl qM) .unit)))))
abbrev IP:Sh:=.pair .str (.pair qM .unit)
abbrev Jh:Sh:=.pair FA (.pair qM (.pair qM (.pair qM (.pair qM (.pair .str (.pair EV (.pair (.sl qM) (.pair (.sl IP) (.pair qM .unit)))))))))
abbrev Il:Sh:=.pair (.sl EV) (.pair Jh .unit)
abbrev xZ:Sh:=.pair .str (.pair .bool (.pair qM (.pair FA (.pair (.sl FA) (.pair (.sl FA) (.pair (.sl .str) (.pair (.sl Il) .unit)))))))
def Oq(x:EV.val):bK:=⟨x.1,x.2.1,x.2.2.1,x.2.2.2.1,x.2.2.2.2.1,x.2.2.2.2.2.1⟩
def Wg(x:IP.val):jM:=⟨x.1,x.2.1⟩
def XA(x:Jh.val):End:=⟨x.1,x.2.1,x.2.2.1,x.2.2.2.1,x.2.2.2.2.1,x.2.2.2.2.2.1,Oq x.2.2.2.2.2.2.1,x.2.2.2.2.2.2.2.1,List.map Wg x.2.2.2.2.2.2.2.2.1,x.2.2.2.2.2.2.2.2.2.1⟩
def Vf(x:Il.val):bB:=⟨List.map Oq x.1,XA x.2.1⟩
def Wh(x:xZ.val):aK:=⟨x.1,x.2.1,x.2.2.1,x.2.2.2.1,x.2.2.2.2.1,x.2.2.2.2.2.1,x.2.2.2.2.2.2.1,List.map Vf x.2.2.2.2.2.2.2.1⟩
theorem IQ{k:IntKind}(l:List Int):D.sl (List.flatMap (Sh.enc (.int k)) l) l.length=.sl (l.map fun n=>.s (.int k n)) l.length:=congrArg (D.sl · l.length) (Mh (fun n=>D.s (.int k n)) l)
theorem ahX(l:List ByteArray):D.sl (List.flatMap (Sh.enc .str) l) l.length=ez l:=congrArg (D.sl · l.length) (Mh S l)
theorem Ot{s:Sh}{β:Type}{g:β->List D}{h:s.val->β}(he:∀ x,s.enc x=g (h x))(l:List s.val):D.sl (List.flatMap s.enc l) l.length=.sl ((l.map h).flatMap g) (l.map h).length:=by
 rw[R9 he l,List.length_map]
theorem c1'{α β:Type}(f:α->β){a a':α}(h:a=a'):f a=f a':=by rw[h]
theorem c2'{α β γ:Type}(f:α->β->γ){a a':α}{b C:β}(h:a=a')(h2:b=C):f a b=f a' C:=by rw[h,h2]
theorem c3'{α β γ δ:Type}(f:α->β->γ->δ){a a':α}{b C:β}{c c':γ}(h:a=a')(h2:b=C)(J:c=c'):f a b c=f a' C c':=by rw[h,h2,J]
theorem c4'{α β γ δ ε:Type}(f:α->β->γ->δ->ε){a a':α}{b C:β}{c c':γ}{d d':δ}(h:a=a')(h2:b=C)(J:c=c')(M:d=d'):f a b c d=f a' C c' d':=by rw[h,h2,J,M]
theorem Vg(x:EV.val):EV.enc x=bA (Oq x):=
 c1' (fun q=>[U8 x.1,I x.2.1,I x.2.2.1,I x.2.2.2.1,I x.2.2.2.2.1,q]) (IQ (k:=.i64) x.2.2.2.2.2.1)
theorem afA(x:IP.val):IP.enc x=jo (Wg x):=rfl
theorem agX(x:Jh.val):Jh.enc x=a8 (XA x):=
 c3' (fun a b c=>[U8 x.1,I x.2.1,I x.2.2.1,I x.2.2.2.1,I x.2.2.2.2.1,S x.2.2.2.2.2.1]++(a++[b,c,I x.2.2.2.2.2.2.2.2.2.1])) (Vg x.2.2.2.2.2.2.1) (IQ (k:=.i64) x.2.2.2.2.2.2.2.1) (Ot afA x.2.2.2.2.2.2.2.2.1)
theorem adM(x:Il.val):Il.enc x=cg (Vf x):=by
 have:=c2' (fun a b=>a::(b++[])) (Ot Vg x.1) (agX x.2.1);refine Eq.trans this ?_;rw[List.append_nil];rfl
theorem afe(x:xZ.val):xZ.arg x=.agg (aH (Wh x)):=
 c4' (fun a b c d=>D.agg [S x.1,B x.2.1,I x.2.2.1,U8 x.2.2.2.1,a,b,c,d]) (IQ (k:=.u8) x.2.2.2.2.1) (IQ (k:=.u8) x.2.2.2.2.2.1) (ahX x.2.2.2.2.2.2.1) (Ot adM x.2.2.2.2.2.2.2.1)
structure s4(f:aK):Prop where
 Gd:0<=f.result
 nm:f.name.size<=maxLen
 sg:∀ s∈f.signals,s.size<=maxLen
 en:∀ b∈f.blocks,b.fin.name.size<=maxLen/\∀ w∈b.fin.aC,w.name.size<=maxLen
end Go.Argus
namespace Go.Proofs.YtnagfmlifobdiaaGreatDoor
open Go.Abs Go.Argus
set_option maxRecDepth 100000
theorem aon:ownKnob Tryz.prog.godebug=none:=kr
theorem laidOut:laidOutB Tryz.prog=true:=kr
theorem alX: Tryz.prog.underlying 4=some .bool:=kr
noncomputable abbrev yu:List (String×DataW Unit):=Rows.shareShapesRow.laid
def Wi:List Int:=[1,10,100,1000,10000,100000,1000000,10000000,100000000,1000000000,10000000000,100000000000,1000000000000,10000000000000,100000000000000,1000000000000000,10000000000000000,100000000000000000,1000000000000000000,10000000000000000000]
theorem abY:∃ nm,(nm,DataW.agg (Wi.map fun n=>DataW.lit (.int .u64 n)))∈yu/\ Tryz.prog.globalNamed nm=some 0:=⟨_,.tail _ (.tail _ (.head _)),by kernel_rfl⟩
theorem R'(w:World):laidMetH Tryz.prog yu w=laidMet Tryz.prog yu w:=MakeChecks.laidMetH_plain _ _ _ kr
theorem agK{W:World}(h:laidMetH Tryz.prog yu W):FB (fun b=>b=0) W/\EU (fun b=>b=0) W:=by
 rw[R'] at h;obtain⟨nm,hm,hg⟩:=abY;obtain⟨ty,ht⟩:=abZ (t:=200) (e:=199) h hm hg kr kr kr kr kr oC;refine⟨⟨fun b hb=>?_,fun t C=>?_⟩,fun b o u hb hu=>?_⟩
 .subst hb;exact(Array.getElem?_eq_some_iff.1 ht).1
 .simp only[yx,List.mem_singleton] at C;subst C;exact⟨rfl,ty,_,ht⟩
 .subst hb;unfold World.cell? at hu;rw[ht] at hu;simp only at hu;have hu:((Wi.map (Value.int .u64 ·)).toArray)[o]? =some u:=hu;rw[List.getElem?_toArray,List.getElem?_map] at hu;obtain⟨n,_,rfl⟩:=dI.1 hu;exact⟨n,rfl⟩
def aot:DataW Unit->Value
 | .lit (.int k n)=>.int k n
 |_=>undef
def aou:DataW Unit->Array Value
 | .agg ps=>(ps.map aot).toArray
 |_=> #[]
noncomputable def S3(os:Os):World:=
 let C:=World.holding Tryz.prog os ⟨#[], #[],[]⟩
 let f (d:DataW Unit):Obj->Obj:=fun
     | .cells _ t frozen=>.cells (aou d) t frozen
     |o=>o
 { C with heap:=((C.heap.modify 0 (f Rows.laid_internal_strconv_uint64pow10)).modify 2 (f Rows.laid_math_bits_deBruijn32tab)).modify 3 (f Rows.laid_math_bits_deBruijn64tab) }
theorem aap(os:Os)(args:Array Value):laidMetH Tryz.prog yu ((S3 os).forCall (fun _ _=>0) ⟨#[],args,[]⟩).memory:=by
 rw[R'];exact laidMet_of_run' 8 kr kr
end Go.Proofs.YtnagfmlifobdiaaGreatDoor
namespace Go.Argus
open Go Go.Abs Go.Argus
theorem ahO(x:xZ.val)(h:xZ.ok x):s4 (Wh x):=by
 obtain⟨h1,_,_,J,_,_,M,O,_⟩:=h;refine⟨?_,h1,fun s hs=>?_,fun b hb=>?_⟩
 .have:(Lit.int .u8 x.2.2.2.1).wf=true:=J;simp only[Lit.wf,aB] at this;exact of_decide_eq_true this.1
 .exact M s hs
 .obtain⟨y,hy,rfl⟩:=List.mem_map.1 hb;obtain⟨_,C,_⟩:=O y hy;obtain⟨_,_,_,_,_,e6,_,_,e9,_,_⟩:=C;refine⟨e6,fun w U=>?_⟩;obtain⟨z,hz,rfl⟩:=List.mem_map.1 U;exact(e9 z hz).1
end Go.Argus
namespace Go.Proofs.Tryz.K
open Go.Abs
noncomputable def bo(f:Func):Code:=(f.body).getD .skip
abbrev FO(n:FuncId)(f:Func)(c:Code):=wH prog n f c
theorem fo{n:FuncId}{f:Func}{c:Code}(h1:prog.funcs[n]? =some f:=by kernel_rfl)(h2:f.body=some c:=by kernel_rfl)(C:iO f.ntmps c=true:=by kernel_rfl)(J:na prog n=true:=by kernel_rfl):FO n f c:=⟨h1,h2,C,J⟩
noncomputable def uM:=bo Tryz.f9
theorem ok9:FO 9 Tryz.f9 uM:=fo
noncomputable def gC:=bo Tryz.f13
theorem Yk:FO 13 Tryz.f13 gC:=fo
noncomputable def rV:=bo Tryz.f27
theorem Yj:FO 27 Tryz.f27 rV:=fo
noncomputable def zN:=bo Tryz.f31
theorem anD:FO 31 Tryz.f31 zN:=fo
noncomputable def zO:=bo Tryz.f32
theorem anF:FO 32 Tryz.f32 zO:=fo
noncomputable def zP:=bo Tryz.f33
theorem anH:FO 33 Tryz.f33 zP:=fo
noncomputable def zR:=bo Tryz.f34
theorem anJ:FO 34 Tryz.f34 zR:=fo
noncomputable def uC:=bo Tryz.f53
theorem anq:FO 53 Tryz.f53 uC:=fo
noncomputable def jd:=bo Tryz.f57
theorem ani:FO 57 Tryz.f57 jd:=fo
noncomputable def pL:=bo Tryz.f61
theorem ans:FO 61 Tryz.f61 pL:=fo
noncomputable def yc:=bo Tryz.f63
theorem an8:FO 63 Tryz.f63 yc:=fo
noncomputable def qA:=bo Tryz.f65
theorem am7:FO 65 Tryz.f65 qA:=fo
noncomputable def eV:=bo Tryz.f66
theorem aof:FO 66 Tryz.f66 eV:=fo
noncomputable def ED:=bo Tryz.f67
theorem anm:FO 67 Tryz.f67 ED:=fo
noncomputable def zS:=bo Tryz.f68
theorem anB:FO 68 Tryz.f68 zS:=fo
noncomputable def wm:=bo Tryz.f69
theorem anv:FO 69 Tryz.f69 wm:=fo
noncomputable def IL:=bo Tryz.f73
theorem anW:FO 73 Tryz.f73 IL:=fo
noncomputable def IM:=bo Tryz.f76
theorem am0:FO 76 Tryz.f76 IM:=fo
noncomputable def IN:=bo Tryz.f85
theorem ano:FO 85 Tryz.f85 IN:=fo
noncomputable def uD:=bo Tryz.f89
theorem X7:FO 89 Tryz.f89 uD:=fo
noncomputable def BX:=bo Tryz.f91
theorem anb:FO 91 Tryz.f91 BX:=fo
noncomputable def BY:=bo Tryz.f92
theorem ane:FO 92 Tryz.f92 BY:=fo
noncomputable def zM:=bo Tryz.f93
theorem aol:FO 93 Tryz.f93 zM:=fo
noncomputable def BZ:=bo Tryz.f94
theorem ang:FO 94 Tryz.f94 BZ:=fo
noncomputable def wo:=bo Tryz.f95
theorem am9:FO 95 Tryz.f95 wo:=fo
noncomputable def eD:=bo Tryz.f97
theorem an5:FO 97 Tryz.f97 eD:=fo
noncomputable def gY:=bo Tryz.f98
theorem an2:FO 98 Tryz.f98 gY:=fo
noncomputable def eA:=bo Tryz.f101
theorem alx:FO 101 Tryz.f101 eA:=fo
noncomputable def eB:=bo Tryz.f102
theorem alJ:FO 102 Tryz.f102 eB:=fo
noncomputable def pB:=bo Tryz.f103
theorem alv:FO 103 Tryz.f103 pB:=fo
noncomputable def ui:=bo Tryz.f104
theorem Xl:FO 104 Tryz.f104 ui:=fo
noncomputable def fU:=bo Tryz.f105
theorem ala:FO 105 Tryz.f105 fU:=fo
noncomputable def vP:=bo Tryz.f106
theorem ak5:FO 106 Tryz.f106 vP:=fo
noncomputable def ig:=bo Tryz.f107
theorem ak7:FO 107 Tryz.f107 ig:=fo
noncomputable def pC:=bo Tryz.f108
theorem alH:FO 108 Tryz.f108 pC:=fo
noncomputable def qw:=bo Tryz.f109
theorem alF:FO 109 Tryz.f109 qw:=fo
noncomputable def mv:=bo Tryz.f110
theorem alc:FO 110 Tryz.f110 mv:=fo
noncomputable def ek:=bo Tryz.f111
theorem Xb:FO 111 Tryz.f111 ek:=fo
noncomputable def HN:=bo Tryz.f112
theorem ajg:FO 112 Tryz.f112 HN:=fo
noncomputable def fV:=bo Tryz.f113
theorem ajd:FO 113 Tryz.f113 fV:=fo
noncomputable def BE:=bo Tryz.f119
theorem aiR:FO 119 Tryz.f119 BE:=fo
noncomputable def Ej:=bo Tryz.f120
theorem ai6:FO 120 Tryz.f120 Ej:=fo
noncomputable def Ek:=bo Tryz.f123
theorem akA:FO 123 Tryz.f123 Ek:=fo
noncomputable def HO:=bo Tryz.f124
theorem aj5:FO 124 Tryz.f124 HO:=fo
noncomputable def HP:=bo Tryz.f125
theorem akc:FO 125 Tryz.f125 HP:=fo
noncomputable def HQ:=bo Tryz.f126
theorem aiC:FO 126 Tryz.f126 HQ:=fo
noncomputable def HR:=bo Tryz.f127
theorem aj9:FO 127 Tryz.f127 HR:=fo
noncomputable def HS:=bo Tryz.f128
theorem aj7:FO 128 Tryz.f128 HS:=fo
noncomputable def fO:=bo Tryz.f129
theorem alz:FO 129 Tryz.f129 fO:=fo
noncomputable def pD:=bo Tryz.f130
theorem ajZ:FO 130 Tryz.f130 pD:=fo
noncomputable def nR:=bo Tryz.f131
theorem akT:FO 131 Tryz.f131 nR:=fo
noncomputable def fu:=bo Tryz.f132
theorem ajW:FO 132 Tryz.f132 fu:=fo
noncomputable def kC:=bo Tryz.f133
theorem ajN:FO 133 Tryz.f133 kC:=fo
noncomputable def zC:=bo Tryz.f134
theorem ajL:FO 134 Tryz.f134 zC:=fo
noncomputable def HT:=bo Tryz.f135
theorem aiH:FO 135 Tryz.f135 HT:=fo
noncomputable def kD:=bo Tryz.f136
theorem ale:FO 136 Tryz.f136 kD:=fo
noncomputable def oL:=bo Tryz.f137
theorem akZ:FO 137 Tryz.f137 oL:=fo
noncomputable def HU:=bo Tryz.f138
theorem akI:FO 138 Tryz.f138 HU:=fo
noncomputable def dL:=bo Tryz.f139
theorem Xq:FO 139 Tryz.f139 dL:=fo
noncomputable def ij:=bo Tryz.f140
theorem alq:FO 140 Tryz.f140 ij:=fo
noncomputable def uj:=bo Tryz.f141
theorem als:FO 141 Tryz.f141 uj:=fo
noncomputable def pE:=bo Tryz.f142
theorem alD:FO 142 Tryz.f142 pE:=fo
noncomputable def rS:=bo Tryz.f143
theorem ak9:FO 143 Tryz.f143 rS:=fo
noncomputable def HV:=bo Tryz.f144
theorem ai0:FO 144 Tryz.f144 HV:=fo
noncomputable def MJ:=bo Tryz.f146
theorem ai2:FO 146 Tryz.f146 MJ:=fo
noncomputable def HW:=bo Tryz.f147
theorem aiX:FO 147 Tryz.f147 HW:=fo
noncomputable def HX:=bo Tryz.f148
theorem ai4:FO 148 Tryz.f148 HX:=fo
noncomputable def vQ:=bo Tryz.f149
theorem ai':FO 149 Tryz.f149 vQ:=fo
noncomputable def HY:=bo Tryz.f150
theorem ajb:FO 150 Tryz.f150 HY:=fo
noncomputable def BF:=bo Tryz.f162
theorem aky:FO 162 Tryz.f162 BF:=fo
noncomputable def HZ:=bo Tryz.f163
theorem aiz:FO 163 Tryz.f163 HZ:=fo
noncomputable def H0:=bo Tryz.f164
theorem aj1:FO 164 Tryz.f164 H0:=fo
noncomputable def H2:=bo Tryz.f165
theorem aka:FO 165 Tryz.f165 H2:=fo
noncomputable def uk:=bo Tryz.f166
theorem W0:FO 166 Tryz.f166 uk:=fo
noncomputable def H3:=bo Tryz.f167
theorem aj3:FO 167 Tryz.f167 H3:=fo
noncomputable def H4:=bo Tryz.f168
theorem Xd:FO 168 Tryz.f168 H4:=fo
noncomputable def BG:=bo Tryz.f169
theorem Xe:FO 169 Tryz.f169 BG:=fo
noncomputable def qz:=bo Tryz.f170
theorem ako:FO 170 Tryz.f170 qz:=fo
noncomputable def um:=bo Tryz.f171
theorem Xg:FO 171 Tryz.f171 um:=fo
noncomputable def H5:=bo Tryz.f172
theorem akj:FO 172 Tryz.f172 H5:=fo
noncomputable def H6:=bo Tryz.f173
theorem akt:FO 173 Tryz.f173 H6:=fo
noncomputable def H7:=bo Tryz.f174
theorem ajJ:FO 174 Tryz.f174 H7:=fo
noncomputable def H8:=bo Tryz.f175
theorem aji:FO 175 Tryz.f175 H8:=fo
noncomputable def El:=bo Tryz.f176
theorem Xf:FO 176 Tryz.f176 El:=fo
noncomputable def Em:=bo Tryz.f177
theorem akR:FO 177 Tryz.f177 Em:=fo
noncomputable def zD:=bo Tryz.f179
theorem aiJ:FO 179 Tryz.f179 zD:=fo
noncomputable def uo:=bo Tryz.f180
theorem aiL:FO 180 Tryz.f180 uo:=fo
noncomputable def fW:=bo Tryz.f181
theorem alS:FO 181 Tryz.f181 fW:=fo
noncomputable def H9:=bo Tryz.f182
theorem alM:FO 182 Tryz.f182 H9:=fo
noncomputable def xP:=bo Tryz.f183
theorem aiN:FO 183 Tryz.f183 xP:=fo
noncomputable def nd:=bo Tryz.f184
theorem alU:FO 184 Tryz.f184 nd:=fo
noncomputable def vS:=bo Tryz.f185
theorem ajn:FO 185 Tryz.f185 vS:=fo
noncomputable def rT:=bo Tryz.f186
theorem alQ:FO 186 Tryz.f186 rT:=fo
noncomputable def vT:=bo Tryz.f187
theorem akE:FO 187 Tryz.f187 vT:=fo
noncomputable def H':=bo Tryz.f188
theorem akC:FO 188 Tryz.f188 H':=fo
noncomputable def vU:=bo Tryz.f189
theorem akG:FO 189 Tryz.f189 vU:=fo
noncomputable def mw:=bo Tryz.f190
theorem akV:FO 190 Tryz.f190 mw:=fo
noncomputable def pF:=bo Tryz.f191
theorem akK:FO 191 Tryz.f191 pF:=fo
noncomputable def En:=bo Tryz.f192
theorem akM:FO 192 Tryz.f192 En:=fo
noncomputable def sQ:=bo Tryz.f193
theorem Xh:FO 193 Tryz.f193 sQ:=fo
noncomputable def Eo:=bo Tryz.f194
theorem akP:FO 194 Tryz.f194 Eo:=fo
noncomputable def iM:=bo Tryz.f195
theorem akX:FO 195 Tryz.f195 iM:=fo
noncomputable def lN:=bo Tryz.f196
theorem ali:FO 196 Tryz.f196 lN:=fo
noncomputable def my:=bo Tryz.f197
theorem aln:FO 197 Tryz.f197 my:=fo
noncomputable def uq:=bo Tryz.f198
theorem ak2:FO 198 Tryz.f198 uq:=fo
noncomputable def ur:=bo Tryz.f201
theorem W5:FO 201 Tryz.f201 ur:=fo
noncomputable def uu:=bo Tryz.f202
theorem W6:FO 202 Tryz.f202 uu:=fo
noncomputable def Ia:=bo Tryz.f203
theorem aiV:FO 203 Tryz.f203 Ia:=fo
noncomputable def vV:=bo Tryz.f204
theorem W9:FO 204 Tryz.f204 vV:=fo
noncomputable def uv:=bo Tryz.f223
theorem W2:FO 223 Tryz.f223 uv:=fo
noncomputable def uw:=bo Tryz.f226
theorem WZ:FO 226 Tryz.f226 uw:=fo
noncomputable def pG:=bo Tryz.f227
theorem akm:FO 227 Tryz.f227 pG:=fo
noncomputable def Ib:=bo Tryz.f228
theorem aiF:FO 228 Tryz.f228 Ib:=fo
noncomputable def Ic:=bo Tryz.f229
theorem akv:FO 229 Tryz.f229 Ic:=fo
noncomputable def Ie:=bo Tryz.f230
theorem akh:FO 230 Tryz.f230 Ie:=fo
noncomputable def Ig:=bo Tryz.f231
theorem akr:FO 231 Tryz.f231 Ig:=fo
noncomputable def k8:=bo Tryz.f232
theorem ajF:FO 232 Tryz.f232 k8:=fo
noncomputable def BH:=bo Tryz.f233
theorem ajH:FO 233 Tryz.f233 BH:=fo
noncomputable def sR:=bo Tryz.f234
theorem ajk:FO 234 Tryz.f234 sR:=fo
noncomputable def gV:=bo Tryz.f235
theorem alO:FO 235 Tryz.f235 gV:=fo
noncomputable def Ih:=bo Tryz.f244
theorem ajr:FO 244 Tryz.f244 Ih:=fo
noncomputable def Ii:=bo Tryz.f245
theorem ajC:FO 245 Tryz.f245 Ii:=fo
noncomputable def zE:=bo Tryz.f251
theorem ajp:FO 251 Tryz.f251 zE:=fo
noncomputable def fX:=bo Tryz.f252
theorem ajA:FO 252 Tryz.f252 fX:=fo
noncomputable def sS:=bo Tryz.f260
theorem ajy:FO 260 Tryz.f260 sS:=fo
noncomputable def Ij:=bo Tryz.f266
theorem ajw:FO 266 Tryz.f266 Ij:=fo
noncomputable def Ik:=bo Tryz.f277
theorem aju:FO 277 Tryz.f277 Ik:=fo
theorem bu{f:FuncId}{fn:Func}{c:Code}(hf:wH Tryz.prog f fn c){args:List D}(ht:∀ a∈args,Tr a){r:D}(hr:Tr r)(h:AW Tryz.prog kT true c (mK Tryz.prog fn.results.toList fun d _=>d=r) ⟨nn args,fun _=>none,0⟩)(hn:Nat.ble args.length fn.ntmps=true:=by kernel_rfl):az Tryz.prog f args r:=ad3 mixed hf hn ht hr h
theorem Kf{f:FuncId}{fn:Func}{c:Code}(hf:wH Tryz.prog f fn c){args:List D}(ht:∀ a∈args,Tr a){es:List D}(C:∀ a∈es,Tr a){k:Nat}{t:TypeId}(h:AW Tryz.prog kT true c (mK Tryz.prog fn.results.toList fun d st=>∃ i,d=.rs i 0 k∧st.mem i=some (.cells es t)) ⟨nn args,fun _=>none,0⟩)(hn:Nat.ble args.length fn.ntmps=true:=by kernel_rfl):nj Tryz.prog f args es k t:=ad4 mixed hf hn ht C h
theorem xj{f:FuncId}{fn:Func}{c:Code}(hf:wH Tryz.prog f fn c){args:List D}{m:Mem}{nx:Nat}{ep:D->Mem->Nat->Prop}(h:AW Tryz.prog kT true c (mK Tryz.prog fn.results.toList fun d st=>ep d st.mem st.nx) ⟨nn args,m,nx⟩)(hn:Nat.ble args.length fn.ntmps=true:=by kernel_rfl):gW Tryz.prog f args m nx ep:=ad2 mixed hf hn h
def iQ(P:Program)(t:TypeId):Array Field:=match P.underlying t with|some (.struct fs)=>fs|_=> #[]
theorem u5:prog.underlying 5=some (.int .u8):=kr
theorem u8:prog.underlying 8=some (.struct (iQ prog 8)):=kr
theorem Y':prog.underlying 70=some (.struct (iQ prog 70)):=kr
theorem Y9:prog.underlying 72=some (.struct (iQ prog 72)):=kr
theorem Od:uV prog 111=237:=kr
theorem Yt:prog.underlying 163=some (.struct (iQ prog 163)):=kr
theorem Xm:((iQ prog 163).toList.map fun f=>(f.offset,prog.cellsOf f.type))=[(0,1),(1,1)]:=kr
theorem Xn:((iQ prog 163).toList.all fun f=>(prog.info? f.type).isSome)=true:=kr
theorem N9:ik prog 194=3:=kr
theorem Oa:kM prog 194=true:=kr
def zf(i:Nat):Code->Option (Array Oper)
 | .region j o _=>bif Nat.beq i j then some o else none
 | .seq a b=>match zf i a with
  |some x=>some x
  |none=>zf i b
 | .cond _ a b=>match zf i a with
  |some x=>some x
  |none=>zf i b
 | .block _ b=>zf i b
 | .loop b=>zf i b
 | .scope b=>zf i b
 | .rangeFunc _ _ a b=>match zf i a with
  |some x=>some x
  |none=>zf i b
 |_=>none
def Z(b:Code)(i:Nat):Array Oper:=(zf i b).getD #[]
abbrev G(i:Nat)(o:Array Oper):Code:=.region i o false
abbrev G1(b:Code)(i:Nat):Code:=.region i (Z b i) false
abbrev G2(b:Code)(i:Nat):Code:=.region i (Z b i) true
abbrev S1(a b:Code):Code:=.seq a b
abbrev C1(n:Nat)(a b:Code):Code:=.cond (.tmp n) a b
abbrev B1(n:Nat)(a:Code):Code:=.block n a
abbrev X1(n:Nat):Code:=.exit n
abbrev K1:Code:=.skip
theorem anz:gC=(S1 (G1 gC 0) (S1 (S1 (G1 gC 1) (B1 0 (.loop (S1 (S1 (G1 gC 2) (C1 13 K1 (X1 0))) (S1 (B1 1 (S1 (G1 gC 4) (S1 (S1 (G1 gC 5) (C1 47 (S1 (G1 gC 6) .ret) K1)) (S1 (S1 (G1 gC 7) (B1 2 (.loop (S1 (S1 (G1 gC 8) (C1 52 K1 (X1 2))) (S1 (B1 3 (S1 (G1 gC 10) (C1 61 (S1 (G1 gC 11) .ret) K1))) (G1 gC 9)))))) (S1 (G1 gC 12) (B1 4 (.loop (S1 (S1 (G1 gC 13) (C1 66 K1 (X1 4))) (S1 (B1 5 (S1 (G1 gC 15) (S1 (S1 (G1 gC 16) (C1 106 (S1 (G1 gC 17) .ret) K1)) (S1 (S1 (G1 gC 18) (B1 6 (.loop (S1 (S1 (G1 gC 19) (C1 111 K1 (X1 6))) (S1 (B1 7 (S1 (G1 gC 21) (C1 121 (S1 (G1 gC 22) .ret) K1))) (G1 gC 20)))))) (S1 (G1 gC 23) (B1 8 (.loop (S1 (S1 (G1 gC 24) (C1 127 K1 (X1 8))) (S1 (B1 9 (S1 (G1 gC 26) (C1 138 (S1 (G1 gC 27) .ret) K1))) (G1 gC 25)))))))))) (G1 gC 14)))))))))) (G1 gC 3)))))) (S1 (G1 gC 28) .ret))):=kr
theorem aeS:bV (Z rV 6)=some []:=kr
theorem anx:rV=(S1 (G1 rV 0) (S1 (S1 (G1 rV 1) (C1 10 (S1 (G1 rV 2) .ret) K1)) (S1 (S1 (G1 rV 3) (B1 0 (.loop (S1 (S1 (G1 rV 4) (C1 14 K1 (X1 0))) (S1 (B1 1 (S1 (G2 rV 6) (C1 25 (S1 (G1 rV 7) .ret) K1))) (G1 rV 5)))))) (S1 (G1 rV 8) .ret)))):=kr
theorem anE:zN=(S1 (G1 zN 0) (S1 (S1 (G1 zN 1) (S1 (G1 zN 2) (C1 8 (S1 (G1 zN 3) .ret) K1))) (S1 (G1 zN 4) .ret))):=kr
theorem anG:zO=(S1 (G1 zO 0) (S1 (G1 zO 1) (S1 (S1 (G1 zO 2) (C1 8 (S1 (G1 zO 3) .ret) K1)) (S1 (G1 zO 4) .ret)))):=kr
theorem anI:zP=(S1 (G1 zP 0) (S1 (S1 (G1 zP 1) (S1 (G1 zP 2) (C1 8 (S1 (G1 zP 3) .ret) K1))) (S1 (G1 zP 4) .ret))):=kr
theorem anK:zR=(S1 (G1 zR 0) (S1 (G1 zR 1) (S1 (S1 (G1 zR 2) (C1 8 (S1 (G1 zR 3) .ret) K1)) (S1 (G1 zR 4) .ret)))):=kr
theorem anr:uC=(S1 (G1 uC 0) (S1 (G1 uC 1) (S1 (S1 (G1 uC 2) (B1 0 (.loop (S1 (S1 (G1 uC 3) (C1 9 K1 (X1 0))) (S1 (B1 1 (S1 (G1 uC 5) (C1 18 (G1 uC 6) K1))) (G1 uC 4)))))) (S1 (G1 uC 7) .ret)))):=kr
theorem aeO:bV (Z jd 3)=some [(2,3),(2,4),(2,6),(5,6),(2,7),(5,7),(5,9),(8,9)]:=kr
theorem acX:bV (Z jd 16)=some [(3,4),(3,5),(3,6),(3,8),(7,8),(3,9),(7,9),(3,10),(7,10),(3,11),(7,11),(7,13),(12,13),(7,14),(12,14)]:=kr
theorem anj:jd=(S1 (G1 jd 0) (S1 (G1 jd 1) (S1 (G1 jd 2) (S1 (G2 jd 3) (S1 (G1 jd 4) (S1 (S1 (G1 jd 5) (B1 0 (.loop (S1 (G1 jd 6) (S1 (C1 33 K1 (X1 0)) (S1 (B1 1 (S1 (G1 jd 7) (S1 (G1 jd 8) (S1 (G1 jd 9) (S1 (S1 (G1 jd 10) (B1 2 (.loop (S1 (G1 jd 11) (S1 (C1 42 K1 (X1 2)) (S1 (B1 3 (S1 (G1 jd 12) (S1 (G1 jd 13) (G1 jd 14)))) (G1 jd 15))))))) (S1 (G2 jd 16) (S1 (S1 (G1 jd 17) (C1 85 (G1 jd 18) K1)) (G1 jd 19)))))))) (G1 jd 20))))))) (S1 (G1 jd 21) .ret))))))):=kr
theorem aeR:bV (Z pL 8)=some []:=kr
theorem ant:pL=(S1 (G1 pL 0) (S1 (G1 pL 1) (S1 (G1 pL 2) (S1 (G1 pL 3) (S1 (S1 (G1 pL 4) (B1 0 (.loop (S1 (S1 (G1 pL 5) (C1 20 K1 (X1 0))) (S1 (B1 1 (S1 (G1 pL 7) (C1 29 (S1 (G2 pL 8) (G1 pL 9)) K1))) (G1 pL 6)))))) (S1 (G1 pL 10) .ret)))))):=kr
theorem an9:yc=(S1 (G1 yc 0) (S1 (B1 0 (S1 (G1 yc 1) (C1 3 (S1 (G1 yc 2) .ret) (S1 (G1 yc 3) (C1 7 (S1 (G1 yc 4) .ret) K1))))) (S1 (G1 yc 5) .ret))):=kr
theorem am8:qA=(S1 (G1 qA 0) (S1 (G1 qA 1) (S1 (S1 (G1 qA 2) (B1 0 (.loop (S1 (G1 qA 3) (S1 (C1 10 K1 (X1 0)) (S1 (B1 1 (S1 (G1 qA 4) (S1 (G1 qA 5) (C1 22 (G1 qA 6) K1)))) (G1 qA 7))))))) (S1 (G1 qA 8) .ret)))):=kr
theorem adw:bV (Z eV 16)=some [(17,19)]:=kr
theorem adx:bV (Z eV 18)=some [(0,2)]:=kr
theorem ady:bV (Z eV 26)=some [(0,9)]:=kr
theorem adz:bV (Z eV 27)=some []:=kr
theorem adA:bV (Z eV 29)=some [(0,7)]:=kr
theorem aog:eV=(S1 (G1 eV 0) (S1 (G1 eV 1) (S1 (S1 (G1 eV 2) (C1 17 (S1 (G1 eV 3) .ret) K1)) (S1 (G1 eV 4) (S1 (G1 eV 5) (S1 (S1 (G1 eV 6) (B1 0 (.loop (S1 (S1 (G1 eV 7) (C1 26 K1 (X1 0))) (S1 (B1 1 (S1 (S1 (G1 eV 9) (C1 33 (X1 1) K1)) (S1 (G1 eV 10) (S1 (G1 eV 11) (S1 (S1 (G1 eV 12) (B1 2 (.loop (S1 (S1 (G1 eV 13) (C1 47 K1 (X1 2))) (S1 (B1 3 (S1 (G1 eV 15) (S1 (S1 (G2 eV 16) (C1 76 (S1 (G1 eV 17) .ret) K1)) (S1 (G2 eV 18) (S1 (S1 (G1 eV 19) (C1 83 (G1 eV 20) K1)) (S1 (G1 eV 21) (B1 4 (.loop (S1 (S1 (G1 eV 22) (C1 101 K1 (X1 4))) (S1 (B1 5 (S1 (G1 eV 24) (S1 (S1 (G1 eV 25) (C1 115 (X1 5) K1)) (S1 (G2 eV 26) (S1 (G2 eV 27) (C1 136 (S1 (G1 eV 28) .ret) K1)))))) (G1 eV 23))))))))))) (G1 eV 14)))))) (S1 (G2 eV 29) (C1 146 (S1 (G1 eV 30) .ret) K1))))))) (G1 eV 8)))))) (S1 (G1 eV 31) .ret))))))):=kr
theorem ann:ED=(S1 (G1 ED 0) (S1 (G1 ED 1) (S1 (G1 ED 2) .ret))):=kr
theorem anC:zS=(S1 (G1 zS 0) (S1 (G1 zS 1) (S1 (S1 (G1 zS 2) (C1 8 (S1 (G1 zS 3) .ret) K1)) (S1 (G1 zS 4) .ret)))):=kr
theorem anw:wm=(S1 (G1 wm 0) (S1 (G1 wm 1) (S1 (S1 (G1 wm 2) (B1 0 (.loop (S1 (S1 (G1 wm 3) (C1 9 K1 (X1 0))) (S1 (B1 1 (G1 wm 5)) (G1 wm 4)))))) (S1 (G1 wm 6) .ret)))):=kr
theorem anX:IL=(S1 (G1 IL 0) (S1 (G1 IL 1) .ret)):=kr
theorem am1:IM=(S1 (G1 IM 0) (S1 (G1 IM 1) .ret)):=kr
theorem anp:IN=(S1 (G1 IN 0) (S1 (G1 IN 1) .ret)):=kr
theorem amZ:uD=(S1 (G1 uD 0) (S1 (S1 (G1 uD 1) (B1 0 (.loop (S1 (G1 uD 2) (S1 (C1 9 K1 (X1 0)) (S1 (B1 1 (S1 (G1 uD 3) (S1 (G1 uD 4) (C1 16 (S1 (G1 uD 5) .ret) K1)))) (G1 uD 6))))))) (S1 (G1 uD 7) .ret))):=kr
theorem anc:BX=(S1 (G1 BX 0) (S1 (S1 (G1 BX 1) (C1 4 (S1 (G1 BX 2) .ret) K1)) (S1 (G1 BX 3) .ret))):=kr
theorem anf:BY=(S1 (G1 BY 0) (S1 (S1 (G1 BY 1) (C1 4 (S1 (G1 BY 2) .ret) K1)) (S1 (G1 BY 3) .ret))):=kr
theorem aom:zM=(S1 (G1 zM 0) (S1 (S1 (G1 zM 1) (C1 4 (S1 (G1 zM 2) .ret) K1)) (S1 (G1 zM 3) .ret))):=kr
theorem anh:BZ=(S1 (G1 BZ 0) (S1 (S1 (G1 BZ 1) (C1 4 (S1 (G1 BZ 2) .ret) K1)) (S1 (G1 BZ 3) .ret))):=kr
theorem am':wo=(S1 (G1 wo 0) (S1 (G1 wo 1) (S1 (S1 (G1 wo 2) (B1 0 (.loop (S1 (S1 (G1 wo 3) (C1 8 K1 (X1 0))) (S1 (B1 1 (G1 wo 5)) (G1 wo 4)))))) (S1 (G1 wo 6) .ret)))):=kr
theorem ade:bV (Z eD 10)=some []:=kr
theorem adf:bV (Z eD 32)=some []:=kr
theorem an6:eD=(S1 (G1 eD 0) (S1 (G1 eD 1) (S1 (G1 eD 2) (S1 (S1 (G1 eD 3) (C1 71 (S1 (G1 eD 4) .ret) K1)) (S1 (S1 (G1 eD 5) (C1 101 (S1 (G1 eD 6) .ret) K1)) (S1 (S1 (G1 eD 7) (B1 0 (.loop (S1 (S1 (G1 eD 8) (C1 106 K1 (X1 0))) (S1 (B1 1 (S1 (G2 eD 10) (C1 120 (S1 (G1 eD 11) .ret) K1))) (G1 eD 9)))))) (S1 (G1 eD 12) (S1 (S1 (G1 eD 13) (B1 2 (.loop (S1 (G1 eD 14) (S1 (C1 126 K1 (X1 2)) (S1 (B1 3 (S1 (G1 eD 15) (S1 (S1 (G1 eD 16) (C1 139 (S1 (G1 eD 17) .ret) K1)) (S1 (G1 eD 18) (C1 143 (S1 (S1 (G1 eD 19) (C1 148 (S1 (G1 eD 20) .ret) K1)) (G1 eD 21)) K1))))) (G1 eD 22))))))) (S1 (G1 eD 23) (S1 (S1 (G1 eD 24) (B1 4 (.loop (S1 (G1 eD 25) (S1 (C1 160 K1 (X1 4)) (S1 (B1 5 (S1 (G1 eD 26) (S1 (G1 eD 27) (S1 (G1 eD 28) (B1 6 (.loop (S1 (G1 eD 29) (S1 (C1 168 K1 (X1 6)) (S1 (B1 7 (S1 (G1 eD 30) (S1 (G1 eD 31) (S1 (G2 eD 32) (C1 187 (S1 (G1 eD 33) .ret) K1))))) (G1 eD 34)))))))))) (G1 eD 35))))))) (S1 (G1 eD 36) .ret))))))))))):=kr
theorem ae4:bV (Z gY 7)=some []:=kr
theorem ada:bV (Z gY 17)=some []:=kr
theorem adb:bV (Z gY 18)=some [(14,15),(14,16),(14,18),(14,19)]:=kr
theorem an3:gY=(S1 (G1 gY 0) (.scope (S1 (G1 gY 1) (S1 (G1 gY 2) (S1 (.label 0) (S1 (S1 (G1 gY 3) (B1 0 (.loop (S1 (G1 gY 4) (S1 (C1 28 K1 (X1 0)) (S1 (B1 1 (S1 (G1 gY 5) (S1 (S1 (G1 gY 6) (C1 36 (X1 1) K1)) (S1 (S1 (G2 gY 7) (S1 (G1 gY 8) (C1 47 (S1 (G1 gY 9) .ret) K1))) (S1 (G1 gY 10) (B1 2 (.loop (S1 (G1 gY 11) (S1 (C1 52 K1 (X1 2)) (S1 (B1 3 (S1 (G1 gY 12) (S1 (S1 (G1 gY 13) (C1 57 (X1 1) K1)) (S1 (G1 gY 14) (B1 4 (.loop (S1 (G1 gY 15) (S1 (C1 64 K1 (X1 4)) (S1 (B1 5 (S1 (G1 gY 16) (S1 (G2 gY 17) (S1 (G2 gY 18) (C1 104 (S1 (G1 gY 19) .ret) K1))))) (G1 gY 20)))))))))) (G1 gY 21))))))))))) (G1 gY 22))))))) (S1 (G1 gY 23) .ret))))))):=kr
theorem abI:bV (Z eA 12)=some []:=kr
theorem abJ:bV (Z eA 26)=some []:=kr
theorem aly:eA=(S1 (G1 eA 0) (S1 (G1 eA 1) (S1 (S1 (G1 eA 2) (C1 18 (S1 (G1 eA 3) .ret) K1)) (S1 (G1 eA 4) (S1 (S1 (G1 eA 5) (B1 0 (.loop (S1 (S1 (G1 eA 6) (C1 25 K1 (X1 0))) (S1 (B1 1 (S1 (G1 eA 8) (S1 (G1 eA 9) (B1 2 (.loop (S1 (S1 (G1 eA 10) (C1 38 K1 (X1 2))) (S1 (B1 3 (S1 (G2 eA 12) (S1 (G1 eA 13) (C1 48 (S1 (G1 eA 14) .ret) K1)))) (G1 eA 11)))))))) (G1 eA 7)))))) (S1 (G1 eA 15) (S1 (G1 eA 16) (S1 (S1 (G1 eA 17) (B1 4 (.loop (S1 (S1 (G1 eA 18) (C1 60 K1 (X1 4))) (S1 (B1 5 (S1 (G1 eA 20) (S1 (S1 (G1 eA 21) (C1 71 (S1 (G1 eA 22) .ret) K1)) (S1 (S1 (G1 eA 23) (B1 6 (.loop (S1 (S1 (G1 eA 24) (C1 75 K1 (X1 6))) (S1 (B1 7 (S1 (G2 eA 26) (C1 106 (S1 (G1 eA 27) .ret) K1))) (G1 eA 25)))))) (S1 (G1 eA 28) (S1 (G1 eA 29) (S1 (S1 (G1 eA 30) (C1 117 (S1 (G1 eA 31) .ret) K1)) (S1 (G1 eA 32) (C1 120 (S1 (S1 (G1 eA 33) (C1 125 (S1 (G1 eA 34) .ret) K1)) (G1 eA 35)) K1))))))))) (G1 eA 19)))))) (S1 (G1 eA 36) .ret))))))))):=kr
theorem abP:bV (Z eB 19)=some []:=kr
theorem abQ:bV (Z eB 25)=some [(0,8)]:=kr
theorem abR:bV (Z eB 30)=some []:=kr
theorem abS:bV (Z eB 32)=some []:=kr
theorem alK:eB=(S1 (G1 eB 0) (S1 (G1 eB 1) (S1 (G1 eB 2) (S1 (S1 (G1 eB 3) (B1 0 (.loop (S1 (S1 (G1 eB 4) (C1 30 K1 (X1 0))) (S1 (B1 1 (G1 eB 6)) (G1 eB 5)))))) (S1 (G1 eB 7) (S1 (S1 (G1 eB 8) (B1 2 (.loop (S1 (S1 (G1 eB 9) (C1 45 K1 (X1 2))) (S1 (B1 3 (G1 eB 11)) (G1 eB 10)))))) (S1 (S1 (G1 eB 12) (B1 4 (.loop (S1 (S1 (G1 eB 13) (C1 54 K1 (X1 4))) (B1 5 (S1 (G1 eB 14) (S1 (G1 eB 15) (B1 6 (.loop (S1 (S1 (G1 eB 16) (C1 58 K1 (X1 6))) (S1 (B1 7 (S1 (S1 (G1 eB 18) (C1 65 (X1 7) K1)) (S1 (G2 eB 19) (S1 (G1 eB 20) (S1 (G1 eB 21) (B1 8 (.loop (S1 (S1 (G1 eB 22) (C1 79 K1 (X1 8))) (S1 (B1 9 (S1 (G1 eB 24) (S1 (G2 eB 25) (S1 (G1 eB 26) (S1 (S1 (G1 eB 27) (B1 10 (.loop (S1 (S1 (G1 eB 28) (C1 106 K1 (X1 10))) (S1 (B1 11 (G2 eB 30)) (G1 eB 29)))))) (S1 (G1 eB 31) (C1 124 (S1 (G2 eB 32) (G1 eB 33)) K1))))))) (G1 eB 23)))))))))) (G1 eB 17)))))))))))) (S1 (G1 eB 34) .ret)))))))):=kr
theorem adp:bV (Z pB 9)=some [(3,14),(4,14)]:=kr
theorem alw:pB=(S1 (G1 pB 0) (S1 (G1 pB 1) (S1 (S1 (G1 pB 2) (B1 0 (.loop (S1 (S1 (G1 pB 3) (C1 15 K1 (X1 0))) (S1 (B1 1 (S1 (G1 pB 5) (S1 (G1 pB 6) (B1 2 (.loop (S1 (S1 (G1 pB 7) (C1 24 K1 (X1 2))) (S1 (B1 3 (G2 pB 9)) (G1 pB 8)))))))) (G1 pB 4)))))) (S1 (G1 pB 10) .ret)))):=kr
theorem adl:bV (Z ui 4)=some []:=kr
theorem ak4:ui=(S1 (G1 ui 0) (S1 (S1 (G1 ui 1) (B1 0 (.loop (S1 (S1 (G1 ui 2) (C1 9 K1 (X1 0))) (S1 (B1 1 (S1 (G2 ui 4) (C1 20 (S1 (G1 ui 5) .ret) K1))) (G1 ui 3)))))) (S1 (G1 ui 6) .ret))):=kr
theorem alb:fU=(S1 (G1 fU 0) (S1 (S1 (G1 fU 1) (B1 0 (S1 (S1 (G1 fU 2) (C1 5 K1 (S1 (G1 fU 3) (C1 5 K1 (S1 (G1 fU 4) (C1 5 K1 (S1 (G1 fU 5) (C1 5 K1 (S1 (G1 fU 6) (C1 5 K1 (S1 (G1 fU 7) (C1 5 K1 (S1 (G1 fU 8) (C1 5 K1 (S1 (G1 fU 9) (C1 5 K1 (G1 fU 10))))))))))))))))) (C1 5 (S1 (G1 fU 11) .ret) (S1 (S1 (G1 fU 12) (C1 18 K1 (S1 (G1 fU 13) (C1 18 K1 (S1 (G1 fU 14) (C1 18 K1 (S1 (G1 fU 15) (C1 18 K1 (S1 (G1 fU 16) (C1 18 K1 (S1 (G1 fU 17) (C1 18 K1 (S1 (G1 fU 18) (C1 18 K1 (S1 (G1 fU 19) (C1 18 K1 (S1 (G1 fU 20) (C1 18 K1 (S1 (G1 fU 21) (C1 18 K1 (S1 (G1 fU 22) (C1 18 K1 (S1 (G1 fU 23) (C1 18 K1 (G1 fU 24))))))))))))))))))))))))) (C1 18 (S1 (G1 fU 25) .ret) (S1 (G1 fU 26) (C1 37 (S1 (G1 fU 27) .ret) (S1 (G1 fU 28) (C1 43 (S1 (G1 fU 29) .ret) K1)))))))))) (S1 (G1 fU 30) .ret))):=kr
theorem adm:bV (Z vP 3)=some [(2,3),(2,4),(0,5),(1,5)]:=kr
theorem ak6:vP=(S1 (G1 vP 0) (S1 (S1 (G1 vP 1) (C1 7 (S1 (G1 vP 2) .ret) K1)) (S1 (G2 vP 3) (S1 (G1 vP 4) (S1 (G1 vP 5) .ret))))):=kr
theorem ak8:ig=(S1 (G1 ig 0) (S1 (S1 (G1 ig 1) (B1 0 (S1 (S1 (G1 ig 2) (C1 5 K1 (S1 (G1 ig 3) (C1 5 K1 (S1 (G1 ig 4) (C1 5 K1 (S1 (G1 ig 5) (C1 5 K1 (S1 (G1 ig 6) (C1 5 K1 (S1 (G1 ig 7) (C1 5 K1 (S1 (G1 ig 8) (C1 5 K1 (S1 (G1 ig 9) (C1 5 K1 (S1 (G1 ig 10) (C1 5 K1 (S1 (G1 ig 11) (C1 5 K1 (S1 (G1 ig 12) (C1 5 K1 (S1 (G1 ig 13) (C1 5 K1 (S1 (G1 ig 14) (C1 5 K1 (S1 (G1 ig 15) (C1 5 K1 (S1 (G1 ig 16) (C1 5 K1 (S1 (G1 ig 17) (C1 5 K1 (S1 (G1 ig 18) (C1 5 K1 (S1 (G1 ig 19) (C1 5 K1 (S1 (G1 ig 20) (C1 5 K1 (S1 (G1 ig 21) (C1 5 K1 (S1 (G1 ig 22) (C1 5 K1 (G1 ig 23))))))))))))))))))))))))))))))))))))))))))) (C1 5 (S1 (G1 ig 24) .ret) K1)))) (S1 (G1 ig 25) .ret))):=kr
theorem abM:bV (Z pC 10)=some [(0,2)]:=kr
theorem alI:pC=(S1 (G1 pC 0) (S1 (G1 pC 1) (S1 (G1 pC 2) (S1 (G1 pC 3) (S1 (S1 (G1 pC 4) (B1 0 (.loop (S1 (S1 (G1 pC 5) (C1 24 K1 (X1 0))) (S1 (B1 1 (G1 pC 7)) (G1 pC 6)))))) (S1 (S1 (G1 pC 8) (C1 52 (S1 (G1 pC 9) .ret) K1)) (S1 (G2 pC 10) .ret))))))):=kr
theorem ads:bV (Z qw 5)=some [(0,5)]:=kr
theorem adt:bV (Z qw 7)=some []:=kr
theorem alG:qw=(S1 (G1 qw 0) (S1 (G1 qw 1) (S1 (S1 (G1 qw 2) (B1 0 (.loop (S1 (S1 (G1 qw 3) (C1 18 K1 (X1 0))) (S1 (B1 1 (S1 (G2 qw 5) (S1 (G1 qw 6) (C1 33 (G2 qw 7) K1)))) (G1 qw 4)))))) (S1 (G1 qw 8) .ret)))):=kr
theorem ald:mv=(S1 (G1 mv 0) (S1 (S1 (G1 mv 1) (B1 0 (S1 (S1 (G1 mv 2) (C1 5 K1 (S1 (G1 mv 3) (C1 5 K1 (G1 mv 4))))) (C1 5 (S1 (G1 mv 5) .ret) (S1 (G1 mv 6) (C1 12 (S1 (S1 (G1 mv 7) (C1 16 (S1 (G1 mv 8) .ret) K1)) (S1 (G1 mv 9) .ret)) (S1 (G1 mv 10) (C1 20 (S1 (G1 mv 11) .ret) (S1 (S1 (G1 mv 12) (C1 25 K1 (G1 mv 13))) (C1 25 (S1 (G1 mv 14) .ret) K1)))))))))) (S1 (G1 mv 15) .ret))):=kr
theorem acY:bV (Z ek 8)=some [(1,6),(2,6),(6,7),(6,8),(6,9),(1,10),(2,10)]:=kr
theorem abp:bV (Z ek 30)=some [(1,5),(2,5)]:=kr
theorem Xc:ek=(S1 (G1 ek 0) (S1 (S1 (G1 ek 1) (S1 (G1 ek 2) (C1 17 (S1 (G1 ek 3) .ret) K1))) (S1 (G1 ek 4) (S1 (G1 ek 5) (S1 (S1 (G1 ek 6) (C1 22 (G1 ek 7) K1)) (S1 (G2 ek 8) (S1 (G1 ek 9) (S1 (G1 ek 10) (S1 (G1 ek 11) (S1 (S1 (G1 ek 12) (B1 0 (.loop (S1 (G1 ek 13) (S1 (C1 56 K1 (X1 0)) (S1 (B1 1 (S1 (G1 ek 14) (S1 (G1 ek 15) (S1 (S1 (G1 ek 16) (B1 2 (.loop (S1 (G1 ek 17) (S1 (C1 66 K1 (X1 2)) (S1 (B1 3 (S1 (G1 ek 18) (G1 ek 19))) (G1 ek 20))))))) (S1 (G1 ek 21) (S1 (G1 ek 22) (S1 (S1 (G1 ek 23) (C1 96 (G1 ek 24) K1)) (S1 (S1 (G1 ek 25) (C1 104 (G1 ek 26) K1)) (S1 (G1 ek 27) (B1 4 (.loop (S1 (G1 ek 28) (S1 (C1 113 K1 (X1 4)) (S1 (B1 5 (S1 (G1 ek 29) (G2 ek 30))) (G1 ek 31))))))))))))))) (G1 ek 32))))))) (S1 (G1 ek 33) .ret))))))))))):=kr
theorem ajh:HN=(S1 (G1 HN 0) (S1 (G1 HN 1) .ret)):=kr
theorem acV:bV (Z fV 4)=some [(11,13),(12,13),(11,14),(12,14),(11,18),(12,18),(15,18),(16,18),(11,19),(12,19),(15,19),(16,19)]:=kr
theorem abm:bV (Z fV 27)=some []:=kr
theorem aje:fV=(S1 (G1 fV 0) (S1 (G1 fV 1) (S1 (S1 (G1 fV 2) (C1 11 (G1 fV 3) K1)) (S1 (G2 fV 4) (S1 (S1 (G1 fV 5) (B1 0 (.loop (S1 (S1 (G1 fV 6) (C1 40 K1 (X1 0))) (S1 (B1 1 (G1 fV 8)) (G1 fV 7)))))) (S1 (G1 fV 9) (S1 (S1 (G1 fV 10) (B1 2 (.loop (S1 (S1 (G1 fV 11) (C1 57 K1 (X1 2))) (S1 (B1 3 (S1 (G1 fV 13) (S1 (S1 (G1 fV 14) (B1 4 (.loop (S1 (S1 (G1 fV 15) (C1 70 K1 (X1 4))) (S1 (B1 5 (G1 fV 17)) (G1 fV 16)))))) (S1 (G1 fV 18) (S1 (G1 fV 19) (S1 (S1 (G1 fV 20) (C1 113 (G1 fV 21) K1)) (S1 (S1 (G1 fV 22) (C1 122 (G1 fV 23) K1)) (S1 (G1 fV 24) (B1 6 (.loop (S1 (S1 (G1 fV 25) (C1 132 K1 (X1 6))) (S1 (B1 7 (G2 fV 27)) (G1 fV 26))))))))))))) (G1 fV 12)))))) (S1 (G1 fV 28) .ret)))))))):=kr
theorem aiS:BE=(S1 (G1 BE 0) (S1 (G1 BE 1) (S1 (G1 BE 2) (S1 (G1 BE 3) .ret)))):=kr
theorem acR:bV (Z Ej 1)=some [(4,6),(4,7),(4,8),(4,9)]:=kr
theorem ai7:Ej=(S1 (G1 Ej 0) (S1 (G2 Ej 1) .ret)):=kr
theorem akB:Ek=(S1 (G1 Ek 0) (S1 (G1 Ek 1) (S1 (G1 Ek 2) .ret))):=kr
theorem aj6:HO=(S1 (G1 HO 0) (S1 (G1 HO 1) .ret)):=kr
theorem akd:HP=(S1 (G1 HP 0) (S1 (G1 HP 1) .ret)):=kr
theorem aiD:HQ=(S1 (G1 HQ 0) (S1 (G1 HQ 1) .ret)):=kr
theorem aj':HR=(S1 (G1 HR 0) (S1 (G1 HR 1) .ret)):=kr
theorem aj8:HS=(S1 (G1 HS 0) (S1 (G1 HS 1) .ret)):=kr
theorem abK:bV (Z fO 11)=some [(3,4),(3,5),(3,6)]:=kr
theorem abL:bV (Z fO 28)=some [(7,8),(7,9),(7,10)]:=kr
theorem alA:fO=(S1 (G1 fO 0) (S1 (G1 fO 1) (S1 (G1 fO 2) (S1 (S1 (G1 fO 3) (B1 0 (S1 (G1 fO 4) (C1 13 (G1 fO 5) (S1 (G1 fO 6) (C1 20 (G1 fO 7) (S1 (G1 fO 8) (C1 42 (S1 (G1 fO 9) (S1 (G1 fO 10) (C1 57 (G2 fO 11) K1))) (S1 (G1 fO 12) (C1 66 (G1 fO 13) (S1 (G1 fO 14) (C1 72 (S1 (G1 fO 15) (S1 (G1 fO 16) (G1 fO 17))) (S1 (G1 fO 18) (C1 107 (S1 (G1 fO 19) (G1 fO 20)) (S1 (G1 fO 21) (C1 153 (S1 (G1 fO 22) (G1 fO 23)) (S1 (G1 fO 24) (C1 187 (S1 (G1 fO 25) (G1 fO 26)) (S1 (G1 fO 27) (C1 224 (G2 fO 28) K1)))))))))))))))))))) (S1 (G1 fO 29) .ret))))):=kr
theorem aj0:pD=(S1 (G1 pD 0) (S1 (G1 pD 1) (S1 (S1 (G1 pD 2) (B1 0 (.loop (S1 (G1 pD 3) (S1 (C1 18 K1 (X1 0)) (S1 (B1 1 (S1 (G1 pD 4) (S1 (G1 pD 5) (B1 2 (.loop (S1 (G1 pD 6) (S1 (C1 28 K1 (X1 2)) (S1 (B1 3 (S1 (G1 pD 7) (G1 pD 8))) (G1 pD 9))))))))) (G1 pD 10))))))) (S1 (G1 pD 11) .ret)))):=kr
theorem akU:nR=(S1 (G1 nR 0) (S1 (S1 (G1 nR 1) (B1 0 (S1 (G1 nR 2) (C1 17 (S1 (G1 nR 3) .ret) (S1 (G1 nR 4) (C1 45 (S1 (G1 nR 5) .ret) (S1 (G1 nR 6) (C1 69 (S1 (G1 nR 7) .ret) (S1 (G1 nR 8) (C1 93 (S1 (G1 nR 9) (S1 (G1 nR 10) (S1 (G1 nR 11) .ret))) K1)))))))))) (S1 (G1 nR 12) (S1 (G1 nR 13) .ret)))):=kr
theorem ac8:bV (Z fu 1)=some [(4,5),(4,6),(4,7),(4,8)]:=kr
theorem abw:bV (Z fu 20)=some []:=kr
theorem abx:bV (Z fu 24)=some [(2,8),(3,8)]:=kr
theorem aby:bV (Z fu 25)=some []:=kr
theorem ajX:fu=(S1 (G1 fu 0) (S1 (G2 fu 1) (S1 (S1 (G1 fu 2) (B1 0 (.loop (S1 (G1 fu 3) (S1 (C1 29 K1 (X1 0)) (S1 (B1 1 (S1 (G1 fu 4) (G1 fu 5))) (G1 fu 6))))))) (S1 (G1 fu 7) (S1 (S1 (G1 fu 8) (B1 2 (.loop (S1 (G1 fu 9) (S1 (C1 45 K1 (X1 2)) (S1 (B1 3 (S1 (G1 fu 10) (G1 fu 11))) (G1 fu 12))))))) (S1 (S1 (G1 fu 13) (B1 4 (.loop (S1 (S1 (G1 fu 14) (C1 55 K1 (X1 4))) (B1 5 (S1 (G1 fu 15) (S1 (G1 fu 16) (B1 6 (.loop (S1 (G1 fu 17) (S1 (C1 61 K1 (X1 6)) (S1 (B1 7 (S1 (G1 fu 18) (S1 (S1 (G1 fu 19) (C1 69 (X1 7) K1)) (S1 (G2 fu 20) (S1 (G1 fu 21) (B1 8 (.loop (S1 (G1 fu 22) (S1 (C1 85 K1 (X1 8)) (S1 (B1 9 (S1 (G1 fu 23) (S1 (G2 fu 24) (S1 (G2 fu 25) (C1 110 (G1 fu 26) K1))))) (G1 fu 27))))))))))) (G1 fu 28))))))))))))) (S1 (G1 fu 29) .ret))))))):=kr
theorem Le:bV (Z kC 10)=some [(6,9)]:=kr
theorem ajO:kC=(S1 (G1 kC 0) (S1 (G1 kC 1) (S1 (S1 (G1 kC 2) (B1 0 (.loop (S1 (G1 kC 3) (S1 (C1 17 K1 (X1 0)) (S1 (B1 1 (S1 (G1 kC 4) (S1 (S1 (G1 kC 5) (B1 2 (.loop (S1 (G1 kC 6) (S1 (C1 24 K1 (X1 2)) (S1 (B1 3 (S1 (G1 kC 7) (G1 kC 8))) (G1 kC 9))))))) (S1 (G2 kC 10) (G1 kC 11))))) (G1 kC 12))))))) (S1 (S1 (G1 kC 13) (B1 4 (.loop (S1 (G1 kC 14) (S1 (C1 56 K1 (X1 4)) (S1 (B1 5 (S1 (G1 kC 15) (G1 kC 16))) (G1 kC 17))))))) (S1 (G1 kC 18) .ret))))):=kr
theorem ac6:bV (Z zC 2)=some [(0,2)]:=kr
theorem ajM:zC=(S1 (G1 zC 0) (S1 (S1 (G1 zC 1) (C1 9 (S1 (G2 zC 2) .ret) K1)) (S1 (G1 zC 3) .ret))):=kr
theorem aiI:HT=(S1 (G1 HT 0) (S1 (G1 HT 1) .ret)):=kr
theorem abC:bV (Z kD 16)=some []:=kr
theorem alf:kD=(S1 (G1 kD 0) (S1 (S1 (G1 kD 1) (C1 58 (S1 (G1 kD 2) .ret) K1)) (S1 (S1 (G1 kD 3) (B1 0 (.loop (S1 (S1 (G1 kD 4) (C1 63 K1 (X1 0))) (S1 (B1 1 (S1 (G1 kD 6) (C1 93 (S1 (G1 kD 7) .ret) K1))) (G1 kD 5)))))) (S1 (S1 (G1 kD 8) (B1 2 (.loop (S1 (S1 (G1 kD 9) (C1 98 K1 (X1 2))) (S1 (B1 3 (S1 (G1 kD 11) (C1 114 (S1 (G1 kD 12) .ret) K1))) (G1 kD 10)))))) (S1 (S1 (G1 kD 13) (B1 4 (.loop (S1 (S1 (G1 kD 14) (C1 119 K1 (X1 4))) (S1 (B1 5 (S1 (G2 kD 16) (C1 146 (S1 (G1 kD 17) .ret) K1))) (G1 kD 15)))))) (S1 (G1 kD 18) .ret)))))):=kr
theorem ak0:oL=(S1 (G1 oL 0) (S1 (G1 oL 1) (S1 (S1 (G1 oL 2) (C1 12 (G1 oL 3) K1)) (S1 (S1 (G1 oL 4) (C1 25 (G1 oL 5) K1)) (S1 (S1 (G1 oL 6) (B1 0 (.loop (S1 (S1 (G1 oL 7) (C1 35 K1 (X1 0))) (S1 (B1 1 (G1 oL 9)) (G1 oL 8)))))) (S1 (S1 (G1 oL 10) (C1 49 (G1 oL 11) K1)) (S1 (G1 oL 12) .ret))))))):=kr
theorem akJ:HU=(S1 (G1 HU 0) (S1 (G1 HU 1) .ret)):=kr
theorem abD:bV (Z dL 35)=some []:=kr
theorem abE:bV (Z dL 40)=some []:=kr
theorem alk:dL=(S1 (G1 dL 0) (S1 (S1 (G1 dL 1) (B1 0 (S1 (G1 dL 2) (C1 10 (S1 (G1 dL 3) .ret) (S1 (G1 dL 4) (C1 25 (S1 (G1 dL 5) .ret) (S1 (S1 (G1 dL 6) (C1 37 K1 (S1 (G1 dL 7) (C1 37 K1 (S1 (G1 dL 8) (C1 37 K1 (G1 dL 9))))))) (C1 37 (S1 (G1 dL 10) .ret) (S1 (G1 dL 11) (C1 62 (S1 (G1 dL 12) .ret) (S1 (G1 dL 13) (C1 80 (S1 (G1 dL 14) .ret) (S1 (G1 dL 15) (C1 96 (S1 (G1 dL 16) .ret) (S1 (G1 dL 17) (C1 111 (S1 (G1 dL 18) .ret) (S1 (G1 dL 19) (C1 138 (S1 (G1 dL 20) .ret) (S1 (G1 dL 21) (C1 159 (S1 (G1 dL 22) .ret) (S1 (S1 (G1 dL 23) (C1 180 K1 (G1 dL 24))) (C1 180 (S1 (G1 dL 25) .ret) (S1 (G1 dL 26) (C1 197 (S1 (G1 dL 27) .ret) (S1 (G1 dL 28) (C1 207 (S1 (G1 dL 29) .ret) (S1 (G1 dL 30) (C1 217 (S1 (G1 dL 31) .ret) (S1 (G1 dL 32) (C1 229 (S1 (G1 dL 33) .ret) (S1 (G1 dL 34) (C1 241 (S1 (S1 (G2 dL 35) (C1 268 (S1 (G1 dL 36) .ret) K1)) (S1 (S1 (G1 dL 37) (B1 1 (.loop (S1 (S1 (G1 dL 38) (C1 273 K1 (X1 1))) (S1 (B1 2 (S1 (G2 dL 40) (C1 285 (S1 (G1 dL 41) .ret) K1))) (G1 dL 39)))))) (S1 (G1 dL 42) .ret))) K1)))))))))))))))))))))))))))))))) (S1 (G1 dL 43) .ret))):=kr
theorem abG:bV (Z ij 10)=some []:=kr
theorem abH:bV (Z ij 22)=some []:=kr
theorem alr:ij=(S1 (G1 ij 0) (S1 (G1 ij 1) (S1 (S1 (G1 ij 2) (B1 0 (S1 (G1 ij 3) (C1 10 (S1 (G1 ij 4) .ret) (S1 (G1 ij 5) (C1 20 (S1 (G1 ij 6) .ret) (S1 (G1 ij 7) (C1 42 (S1 (S1 (G1 ij 8) (C1 50 (S1 (G1 ij 9) .ret) K1)) (S1 (G2 ij 10) .ret)) (S1 (G1 ij 11) (C1 77 (S1 (G1 ij 12) .ret) (S1 (G1 ij 13) (C1 86 (S1 (G1 ij 14) .ret) (S1 (G1 ij 15) (C1 107 (S1 (G1 ij 16) .ret) (S1 (G1 ij 17) (C1 150 (S1 (G1 ij 18) .ret) (S1 (G1 ij 19) (C1 183 (S1 (G1 ij 20) .ret) (S1 (G1 ij 21) (C1 216 (S1 (G2 ij 22) .ret) K1)))))))))))))))))))) (S1 (G1 ij 23) .ret)))):=kr
theorem alu:uj=(S1 (G1 uj 0) (S1 (G1 uj 1) (S1 (G1 uj 2) (S1 (S1 (G1 uj 3) (B1 0 (.loop (S1 (S1 (G1 uj 4) (C1 18 K1 (X1 0))) (S1 (B1 1 (G1 uj 6)) (G1 uj 5)))))) (S1 (G1 uj 7) .ret))))):=kr
theorem adr:bV (Z pE 9)=some []:=kr
theorem alE:pE=(S1 (G1 pE 0) (S1 (S1 (G1 pE 1) (C1 8 (S1 (G1 pE 2) .ret) K1)) (S1 (S1 (G1 pE 3) (C1 11 (S1 (G1 pE 4) .ret) K1)) (S1 (G1 pE 5) (S1 (S1 (G1 pE 6) (B1 0 (.loop (S1 (S1 (G1 pE 7) (C1 22 K1 (X1 0))) (S1 (B1 1 (G2 pE 9)) (G1 pE 8)))))) (S1 (G1 pE 10) .ret)))))):=kr
theorem ak':rS=(S1 (G1 rS 0) (S1 (S1 (G1 rS 1) (B1 0 (S1 (G1 rS 2) (C1 5 (S1 (G1 rS 3) .ret) (S1 (S1 (G1 rS 4) (C1 10 K1 (G1 rS 5))) (C1 10 (S1 (G1 rS 6) .ret) (S1 (G1 rS 7) (C1 15 (S1 (G1 rS 8) .ret) K1)))))))) (S1 (G1 rS 9) .ret))):=kr
theorem acQ:bV (Z HV 0)=some [(1,4),(2,4)]:=kr
theorem ai1:HV=(G2 HV 0):=kr
theorem ai3:MJ=(G1 MJ 0):=kr
theorem aiY:HW=(S1 (G1 HW 0) (S1 (G1 HW 1) .ret)):=kr
theorem ai5:HX=(S1 (G1 HX 0) (G1 HX 1)):=kr
theorem aja:vQ=(S1 (G1 vQ 0) (S1 (G1 vQ 1) (S1 (S1 (G1 vQ 2) (B1 0 (.loop (S1 (S1 (G1 vQ 3) (C1 11 K1 (X1 0))) (S1 (B1 1 (G1 vQ 5)) (G1 vQ 4)))))) (S1 (G1 vQ 6) .ret)))):=kr
theorem ajc:HY=(S1 (G1 HY 0) (S1 (G1 HY 1) .ret)):=kr
theorem akz:BF=(S1 (G1 BF 0) (S1 (G1 BF 1) (S1 (G1 BF 2) (S1 (G1 BF 3) .ret)))):=kr
theorem aiA:HZ=(S1 (G1 HZ 0) (S1 (G1 HZ 1) .ret)):=kr
theorem aj2:H0=(S1 (G1 H0 0) (S1 (G1 H0 1) .ret)):=kr
theorem akb:H2=(S1 (G1 H2 0) (S1 (G1 H2 1) .ret)):=kr
theorem aiB:uk=(S1 (G1 uk 0) (S1 (S1 (G1 uk 1) (B1 0 (.loop (S1 (G1 uk 2) (S1 (C1 9 K1 (X1 0)) (S1 (B1 1 (S1 (G1 uk 3) (S1 (G1 uk 4) (C1 16 (S1 (G1 uk 5) .ret) K1)))) (G1 uk 6))))))) (S1 (G1 uk 7) .ret))):=kr
theorem aj4:H3=(S1 (G1 H3 0) (S1 (G1 H3 1) .ret)):=kr
theorem akf:H4=(S1 (G1 H4 0) (S1 (G1 H4 1) .ret)):=kr
theorem akg:BG=(S1 (G1 BG 0) (S1 (S1 (G1 BG 1) (C1 12 (S1 (G1 BG 2) .ret) K1)) (S1 (G1 BG 3) .ret))):=kr
theorem akp:qz=(S1 (G1 qz 0) (S1 (G1 qz 1) (S1 (S1 (G1 qz 2) (C1 20 (G1 qz 3) K1)) (S1 (G1 qz 4) (S1 (S1 (G1 qz 5) (B1 0 (S1 (G1 qz 6) (C1 31 (G1 qz 7) (S1 (G1 qz 8) (C1 43 (G1 qz 9) K1)))))) (S1 (G1 qz 10) .ret)))))):=kr
theorem akx:um=(S1 (G1 um 0) (S1 (S1 (G1 um 1) (B1 0 (.loop (S1 (G1 um 2) (S1 (C1 11 K1 (X1 0)) (S1 (B1 1 (S1 (G1 um 3) (S1 (G1 um 4) (C1 33 (S1 (G1 um 5) .ret) K1)))) (G1 um 6))))))) (S1 (G1 um 7) .ret))):=kr
theorem akk:H5=(S1 (G1 H5 0) (S1 (G1 H5 1) .ret)):=kr
theorem aku:H6=(S1 (G1 H6 0) (S1 (G1 H6 1) .ret)):=kr
theorem ajK:H7=(S1 (G1 H7 0) (S1 (G1 H7 1) .ret)):=kr
theorem ajj:H8=(S1 (G1 H8 0) (S1 (G1 H8 1) .ret)):=kr
theorem SQ:bV (Z El 1)=some [(10,11),(10,12),(10,13),(10,15),(10,16)]:=kr
theorem akl:El=(S1 (G1 El 0) (S1 (G2 El 1) .ret)):=kr
theorem adk:bV (Z Em 1)=some [(2,3)]:=kr
theorem akS:Em=(S1 (G1 Em 0) (S1 (G2 Em 1) .ret)):=kr
theorem acL:bV (Z zD 2)=some []:=kr
theorem aiK:zD=(S1 (G1 zD 0) (S1 (S1 (G1 zD 1) (C1 6 (G2 zD 2) K1)) (S1 (G1 zD 3) .ret))):=kr
theorem acN:bV (Z uo 4)=some []:=kr
theorem aiM:uo=(S1 (G1 uo 0) (S1 (S1 (G1 uo 1) (B1 0 (.loop (S1 (G1 uo 2) (S1 (C1 7 K1 (X1 0)) (S1 (B1 1 (S1 (G1 uo 3) (G2 uo 4))) (G1 uo 5))))))) (S1 (G1 uo 6) .ret))):=kr
theorem alT:fW=(S1 (G1 fW 0) (S1 (S1 (G1 fW 1) (B1 0 (S1 (S1 (G1 fW 2) (C1 5 K1 (S1 (G1 fW 3) (C1 5 K1 (S1 (G1 fW 4) (C1 5 K1 (S1 (G1 fW 5) (C1 5 K1 (S1 (G1 fW 6) (C1 5 K1 (S1 (G1 fW 7) (C1 5 K1 (S1 (G1 fW 8) (C1 5 K1 (S1 (G1 fW 9) (C1 5 K1 (G1 fW 10))))))))))))))))) (C1 5 (S1 (G1 fW 11) .ret) (S1 (S1 (G1 fW 12) (C1 18 K1 (S1 (G1 fW 13) (C1 18 K1 (S1 (G1 fW 14) (C1 18 K1 (S1 (G1 fW 15) (C1 18 K1 (S1 (G1 fW 16) (C1 18 K1 (S1 (G1 fW 17) (C1 18 K1 (S1 (G1 fW 18) (C1 18 K1 (S1 (G1 fW 19) (C1 18 K1 (S1 (G1 fW 20) (C1 18 K1 (S1 (G1 fW 21) (C1 18 K1 (S1 (G1 fW 22) (C1 18 K1 (S1 (G1 fW 23) (C1 18 K1 (G1 fW 24))))))))))))))))))))))))) (C1 18 (S1 (G1 fW 25) .ret) (S1 (G1 fW 26) (C1 37 (S1 (G1 fW 27) .ret) (S1 (G1 fW 28) (C1 42 (S1 (G1 fW 29) .ret) K1)))))))))) (S1 (G1 fW 30) .ret))):=kr
theorem alN:H9=(S1 (G1 H9 0) (S1 (G1 H9 1) .ret)):=kr
theorem acP:bV (Z xP 2)=some [(0,3)]:=kr
theorem acO:bV (Z xP 3)=some [(0,2)]:=kr
theorem aiO:xP=(S1 (G1 xP 0) (S1 (S1 (G1 xP 1) (C1 7 (S1 (G2 xP 2) .ret) K1)) (S1 (G2 xP 3) .ret))):=kr
theorem alV:nd=(S1 (G1 nd 0) (S1 (S1 (G1 nd 1) (B1 0 (S1 (S1 (G1 nd 2) (C1 5 K1 (S1 (G1 nd 3) (C1 5 K1 (G1 nd 4))))) (C1 5 (S1 (G1 nd 5) .ret) (S1 (G1 nd 6) (C1 12 (S1 (G1 nd 7) (C1 16 (S1 (G1 nd 8) .ret) K1)) (S1 (G1 nd 9) (C1 20 (S1 (G1 nd 10) .ret) (S1 (S1 (G1 nd 11) (C1 25 K1 (G1 nd 12))) (C1 25 (S1 (G1 nd 13) .ret) K1)))))))))) (S1 (G1 nd 14) .ret))):=kr
theorem ajo:vS=(S1 (G1 vS 0) (S1 (G1 vS 1) (S1 (S1 (G1 vS 2) (B1 0 (.rangeFunc (.tmp 8) #[9] (G1 vS 3) (B1 1 (S1 (G1 vS 4) (C1 12 (G1 vS 5) K1)))))) (S1 (G1 vS 6) .ret)))):=kr
theorem alR:rT=(S1 (G1 rT 0) (S1 (S1 (G1 rT 1) (B1 0 (S1 (G1 rT 2) (C1 5 (S1 (G1 rT 3) .ret) (S1 (S1 (G1 rT 4) (C1 10 K1 (G1 rT 5))) (C1 10 (S1 (G1 rT 6) .ret) (S1 (G1 rT 7) (C1 15 (S1 (G1 rT 8) .ret) K1)))))))) (S1 (G1 rT 9) .ret))):=kr
theorem akF:vT=(S1 (G1 vT 0) (S1 (S1 (G1 vT 1) (B1 0 (.loop (S1 (S1 (G1 vT 2) (C1 7 K1 (X1 0))) (S1 (B1 1 (S1 (G1 vT 4) (C1 19 (S1 (G1 vT 5) .ret) K1))) (G1 vT 3)))))) (S1 (G1 vT 6) .ret))):=kr
theorem akD:H'=(S1 (G1 H' 0) (S1 (G1 H' 1) .ret)):=kr
theorem akH:vU=(S1 (G1 vU 0) (S1 (S1 (G1 vU 1) (B1 0 (.loop (S1 (S1 (G1 vU 2) (C1 7 K1 (X1 0))) (S1 (B1 1 (S1 (G1 vU 4) (C1 31 (S1 (G1 vU 5) .ret) K1))) (G1 vU 3)))))) (S1 (G1 vU 6) .ret))):=kr
theorem akW:mw=(S1 (G1 mw 0) (S1 (S1 (G1 mw 1) (B1 0 (.loop (S1 (S1 (G1 mw 2) (C1 9 K1 (X1 0))) (S1 (B1 1 (S1 (G1 mw 4) (B1 2 (S1 (G1 mw 5) (C1 15 (G1 mw 6) (S1 (G1 mw 7) (C1 18 (G1 mw 8) (S1 (G1 mw 9) (C1 21 (G1 mw 10) (S1 (G1 mw 11) (C1 24 (G1 mw 12) (S1 (G1 mw 13) (C1 27 (G1 mw 14) K1))))))))))))) (G1 mw 3)))))) (S1 (G1 mw 15) .ret))):=kr
theorem akL:pF=(S1 (G1 pF 0) (S1 (S1 (G1 pF 1) (C1 17 (S1 (G1 pF 2) .ret) K1)) (S1 (G1 pF 3) (S1 (S1 (G1 pF 4) (B1 0 (S1 (G1 pF 5) (C1 25 (S1 (G1 pF 6) .ret) (S1 (G1 pF 7) (C1 29 (S1 (G1 pF 8) .ret) (S1 (G1 pF 9) (C1 33 (S1 (G1 pF 10) .ret) K1)))))))) (S1 (G1 pF 11) .ret))))):=kr
theorem adh:bV (Z En 1)=some []:=kr
theorem akN:En=(S1 (G1 En 0) (S1 (G2 En 1) .ret)):=kr
theorem adi:bV (Z sQ 4)=some []:=kr
theorem akO:sQ=(S1 (G1 sQ 0) (S1 (S1 (G1 sQ 1) (B1 0 (.loop (S1 (S1 (G1 sQ 2) (C1 10 K1 (X1 0))) (S1 (B1 1 (S1 (G2 sQ 4) (S1 (G1 sQ 5) (C1 20 (S1 (G1 sQ 6) .ret) K1)))) (G1 sQ 3)))))) (S1 (G1 sQ 7) .ret))):=kr
theorem adj:bV (Z Eo 1)=some []:=kr
theorem akQ:Eo=(S1 (G1 Eo 0) (S1 (G2 Eo 1) .ret)):=kr
theorem akY:iM=(S1 (G1 iM 0) (S1 (G1 iM 1) (S1 (S1 (G1 iM 2) (B1 0 (.loop (S1 (S1 (G1 iM 3) (C1 10 K1 (X1 0))) (S1 (B1 1 (S1 (G1 iM 5) (B1 2 (S1 (G1 iM 6) (C1 16 (G1 iM 7) (S1 (G1 iM 8) (C1 19 (G1 iM 9) (S1 (G1 iM 10) (C1 22 (G1 iM 11) (S1 (G1 iM 12) (C1 25 (G1 iM 13) (S1 (G1 iM 14) (C1 28 (G1 iM 15) (S1 (G1 iM 16) (C1 31 (G1 iM 17) (S1 (G1 iM 18) (C1 35 (G1 iM 19) (S1 (G1 iM 20) (C1 38 (G1 iM 21) K1))))))))))))))))))) (G1 iM 4)))))) (S1 (S1 (G1 iM 22) (C1 52 (S1 (G1 iM 23) .ret) K1)) (S1 (G1 iM 24) .ret))))):=kr
theorem alj:lN=(S1 (G1 lN 0) (S1 (S1 (G1 lN 1) (B1 0 (S1 (S1 (G1 lN 2) (C1 7 K1 (S1 (G1 lN 3) (C1 7 K1 (S1 (G1 lN 4) (C1 7 K1 (S1 (G1 lN 5) (C1 7 K1 (G1 lN 6))))))))) (C1 7 (S1 (G1 lN 7) .ret) (S1 (G1 lN 8) (C1 33 (S1 (G1 lN 9) .ret) (S1 (G1 lN 10) (C1 49 (S1 (G1 lN 11) .ret) (S1 (G1 lN 12) (C1 65 (S1 (G1 lN 13) .ret) (S1 (G1 lN 14) (C1 87 (S1 (G1 lN 15) .ret) K1)))))))))))) (S1 (G1 lN 16) .ret))):=kr
theorem adn:bV (Z my 6)=some []:=kr
theorem abF:bV (Z my 11)=some []:=kr
theorem alo:my=(S1 (G1 my 0) (S1 (S1 (G1 my 1) (C1 22 (S1 (G1 my 2) .ret) K1)) (S1 (S1 (G1 my 3) (B1 0 (.loop (S1 (S1 (G1 my 4) (C1 27 K1 (X1 0))) (S1 (B1 1 (S1 (S1 (G2 my 6) (C1 48 (S1 (G1 my 7) .ret) K1)) (S1 (G1 my 8) (B1 2 (.loop (S1 (S1 (G1 my 9) (C1 51 K1 (X1 2))) (S1 (B1 3 (S1 (G2 my 11) (C1 66 (S1 (G1 my 12) .ret) K1))) (G1 my 10)))))))) (G1 my 5)))))) (S1 (G1 my 13) .ret)))):=kr
theorem ak3:uq=(S1 (G1 uq 0) (S1 (G1 uq 1) (S1 (B1 0 (.loop (S1 (S1 (G1 uq 2) (C1 18 K1 (X1 0))) (B1 1 (G1 uq 3))))) (S1 (S1 (G1 uq 4) (C1 32 (S1 (G1 uq 5) .ret) K1)) (S1 (G1 uq 6) (S1 (G1 uq 7) .ret)))))):=kr
theorem aiT:ur=(S1 (G1 ur 0) (S1 (G1 ur 1) (S1 (S1 (G1 ur 2) (B1 0 (.loop (S1 (G1 ur 3) (S1 (C1 11 K1 (X1 0)) (S1 (B1 1 (S1 (G1 ur 4) (G1 ur 5))) (G1 ur 6))))))) (S1 (G1 ur 7) .ret)))):=kr
theorem aiU:uu=(S1 (G1 uu 0) (S1 (G1 uu 1) (S1 (S1 (G1 uu 2) (B1 0 (.loop (S1 (G1 uu 3) (S1 (C1 11 K1 (X1 0)) (S1 (B1 1 (S1 (G1 uu 4) (G1 uu 5))) (G1 uu 6))))))) (S1 (G1 uu 7) .ret)))):=kr
theorem aiW:Ia=(S1 (G1 Ia 0) (S1 (G1 Ia 1) .ret)):=kr
theorem acT:bV (Z vV 5)=some [(2,6),(2,8)]:=kr
theorem Xa:vV=(S1 (G1 vV 0) (S1 (S1 (G1 vV 1) (C1 4 (S1 (G1 vV 2) .ret) K1)) (S1 (S1 (G1 vV 3) (C1 10 (S1 (G1 vV 4) .ret) K1)) (S1 (G2 vV 5) .ret)))):=kr
theorem aiE:uv=(S1 (G1 uv 0) (S1 (S1 (G1 uv 1) (B1 0 (.loop (S1 (G1 uv 2) (S1 (C1 9 K1 (X1 0)) (S1 (B1 1 (S1 (G1 uv 3) (S1 (G1 uv 4) (C1 16 (S1 (G1 uv 5) .ret) K1)))) (G1 uv 6))))))) (S1 (G1 uv 7) .ret))):=kr
theorem aiy:uw=(S1 (G1 uw 0) (S1 (S1 (G1 uw 1) (B1 0 (.loop (S1 (G1 uw 2) (S1 (C1 9 K1 (X1 0)) (S1 (B1 1 (S1 (G1 uw 3) (S1 (G1 uw 4) (C1 16 (S1 (G1 uw 5) .ret) K1)))) (G1 uw 6))))))) (S1 (G1 uw 7) .ret))):=kr
theorem akn:pG=(S1 (G1 pG 0) (S1 (G1 pG 1) (S1 (S1 (G1 pG 2) (B1 0 (S1 (G1 pG 3) (C1 14 (S1 (G1 pG 4) .ret) (S1 (G1 pG 5) (C1 18 (S1 (G1 pG 6) .ret) (S1 (G1 pG 7) (C1 22 (S1 (G1 pG 8) .ret) (S1 (G1 pG 9) (C1 26 (S1 (G1 pG 10) .ret) K1)))))))))) (S1 (G1 pG 11) .ret)))):=kr
theorem aiG:Ib=(S1 (G1 Ib 0) (S1 (G1 Ib 1) .ret)):=kr
theorem akw:Ic=(S1 (G1 Ic 0) (S1 (G1 Ic 1) .ret)):=kr
theorem aki:Ie=(S1 (G1 Ie 0) (S1 (G1 Ie 1) .ret)):=kr
theorem aks:Ig=(S1 (G1 Ig 0) (S1 (G1 Ig 1) .ret)):=kr
theorem ac5:bV (Z k8 6)=some []:=kr
theorem abu:bV (Z k8 11)=some []:=kr
theorem ajG:k8=(S1 (G1 k8 0) (S1 (S1 (G1 k8 1) (C1 8 (S1 (G1 k8 2) .ret) K1)) (S1 (S1 (G1 k8 3) (B1 0 (.loop (S1 (S1 (G1 k8 4) (C1 13 K1 (X1 0))) (S1 (B1 1 (S1 (G2 k8 6) (C1 25 (S1 (G1 k8 7) (S1 (S1 (G1 k8 8) (B1 2 (.loop (S1 (S1 (G1 k8 9) (C1 32 K1 (X1 2))) (S1 (B1 3 (S1 (G2 k8 11) (C1 44 (S1 (G1 k8 12) (G1 k8 13)) K1))) (G1 k8 10)))))) (S1 (G1 k8 14) (S1 (G1 k8 15) .ret)))) K1))) (G1 k8 5)))))) (S1 (G1 k8 16) .ret)))):=kr
theorem ajI:BH=(S1 (G1 BH 0) (S1 (G1 BH 1) (S1 (G1 BH 2) (S1 (G1 BH 3) .ret)))):=kr
theorem ajl:sR=(S1 (S1 (G1 sR 0) (C1 19 .ret K1)) (S1 (S1 (G1 sR 1) (C1 34 .ret K1)) (S1 (S1 (G1 sR 2) (B1 0 (.loop (S1 (G1 sR 3) (S1 (C1 39 K1 (X1 0)) (S1 (B1 1 (S1 (G1 sR 4) (S1 (G1 sR 5) (C1 46 .ret K1)))) (G1 sR 6))))))) (S1 (G1 sR 7) (C1 65 (G1 sR 8) K1))))):=kr
theorem alP:gV=(S1 (G1 gV 0) (S1 (S1 (G1 gV 1) (B1 0 (S1 (S1 (G1 gV 2) (C1 5 K1 (S1 (G1 gV 3) (C1 5 K1 (S1 (G1 gV 4) (C1 5 K1 (S1 (G1 gV 5) (C1 5 K1 (S1 (G1 gV 6) (C1 5 K1 (S1 (G1 gV 7) (C1 5 K1 (S1 (G1 gV 8) (C1 5 K1 (S1 (G1 gV 9) (C1 5 K1 (S1 (G1 gV 10) (C1 5 K1 (S1 (G1 gV 11) (C1 5 K1 (S1 (G1 gV 12) (C1 5 K1 (S1 (G1 gV 13) (C1 5 K1 (S1 (G1 gV 14) (C1 5 K1 (S1 (G1 gV 15) (C1 5 K1 (G1 gV 16))))))))))))))))))))))))))))) (C1 5 (S1 (G1 gV 17) .ret) (S1 (S1 (G1 gV 18) (C1 23 K1 (S1 (G1 gV 19) (C1 23 K1 (S1 (G1 gV 20) (C1 23 K1 (S1 (G1 gV 21) (C1 23 K1 (S1 (G1 gV 22) (C1 23 K1 (S1 (G1 gV 23) (C1 23 K1 (G1 gV 24))))))))))))) (C1 23 (S1 (G1 gV 25) .ret) K1)))))) (S1 (G1 gV 26) .ret))):=kr
theorem ajs:Ih=(S1 (G1 Ih 0) (S1 (G1 Ih 1) .ret)):=kr
theorem ajD:Ii=(S1 (G1 Ii 0) (G1 Ii 1)):=kr
theorem ajq:zE=(S1 (G1 zE 0) (S1 (S1 (G1 zE 1) (B1 0 (.rangeFunc (.tmp 6) #[7] (G1 zE 2) (B1 1 (G1 zE 3))))) (S1 (G1 zE 4) .ret))):=kr
theorem ajB:fX=(S1 (G1 fX 0) (S1 (G1 fX 1) (B1 0 (.loop (B1 1 (S1 (G1 fX 2) (S1 (S1 (G1 fX 3) (C1 23 (S1 (G1 fX 4) .ret) K1)) (S1 (S1 (G1 fX 5) (C1 29 (S1 (G1 fX 6) .ret) K1)) (S1 (S1 (G1 fX 7) (C1 35 (S1 (G1 fX 8) (G1 fX 9)) K1)) (S1 (G1 fX 10) (S1 (S1 (G1 fX 11) (C1 50 (S1 (G1 fX 12) (S1 (G1 fX 13) (G1 fX 14))) K1)) (S1 (S1 (G1 fX 15) (C1 68 (S1 (G1 fX 16) (C1 72 .ret K1)) K1)) (S1 (S1 (G2 fX 17) (C1 87 (S1 (G1 fX 18) (S1 (G1 fX 19) (X1 1))) K1)) (S1 (G1 fX 20) (S1 (G1 fX 21) (S1 (G1 fX 22) (S1 (G1 fX 23) (S1 (G1 fX 24) (C1 113 (S1 (G1 fX 25) (S1 (G1 fX 26) (G1 fX 27))) (S1 (G1 fX 28) (S1 (G1 fX 29) (G1 fX 30)))))))))))))))))))))):=kr
theorem ac2:bV (Z sS 4)=some []:=kr
theorem ac3:bV (Z sS 6)=some []:=kr
theorem ajz:sS=(S1 (G1 sS 0) (B1 0 (.loop (S1 (S1 (G1 sS 1) (C1 12 K1 (X1 0))) (S1 (B1 1 (S1 (G1 sS 3) (B1 2 (.loop (S1 (S1 (G2 sS 4) (C1 30 K1 (X1 2))) (S1 (B1 3 (G2 sS 6)) (G1 sS 5))))))) (G1 sS 2)))))):=kr
theorem ajx:Ij=(S1 (G1 Ij 0) (S1 (G1 Ij 1) .ret)):=kr
theorem ajv:Ik=(S1 (G1 Ik 0) (S1 (G1 Ik 1) .ret)):=kr
end Go.Proofs.Tryz.K
namespace Go.Abs
open Go.Argus
class V{α:Type}(x:α)(y:outParam α):Prop where h:x=y
section
variable{P:Program}{Y:gn}{ops:Array Oper}{dr:Bool}{cf:List (Nat×Nat)}{Q:Exit->St->Prop}{r:List Oper}{v:Env}{m:Mem}{n:Nat}{q:mP}{x:Oper}{s:St}{e:List Nat×List Nat}
variable{t:Option Nat}{u:Nat}{ty:TypeId}{pos:String}{after:Array Edge}{j:Nat}{b c:Bool}{op:Op}
def SO(P:Program)(Y:gn)(ops:Array Oper)(dr:Bool)(o:Oper)(v:Env)(m:Mem)(n:Nat)(s:St)(e:List Nat×List Nat):Prop:=
 ∀ cf Q r q,ax P Y ops dr cf Q r s (q++[e])->ax P Y ops dr cf Q (o::r) ⟨v,m,n⟩ q
theorem ak{l:List Operand}(h:gR v l:=by repeat' (first|exact trivial|exact hc|exact rfl|refine And.intro ?_ ?_)):gR v l:=h
theorem z(K:∀ (x:D) rd,ax P Y ops dr cf Q r (St.put ⟨v,m,n⟩ t (.cS false x)) (q++[(rd,[])]))(hj:(ops[j]?).bind (·.dst)=some u:=by exact rfl)(hg:lA (v u) b=some false:=by exact rfl):
 ax P Y ops dr cf Q (⟨t,op,ty,pos,after,some (j,b)⟩::r) ⟨v,m,n⟩ q:=WX hj hg K
theorem cl{f:FuncId}{gs:List D}{d:D}{t:Nat}(h:az P f gs d)(K:ax P Y ops dr cf Q r ⟨up v t d,m,n⟩ (q++[([],[])]))(hc:ea (bn v op) op=some (f,gs):=by exact rfl)(ha:gR v op.operands.toList:=by exact ak):
 ax P Y ops dr cf Q (⟨some t,op,ty,pos,after,none⟩::r) ⟨v,m,n⟩ q:=uI h hc ha K
theorem gc{f:FuncId}{gs:List D}{d:D}{t:Nat}(h:az P f gs d)(K:ax P Y ops dr cf Q r ⟨up v t (.cS c d),m,n⟩ (q++[([],[])]))(hj:(ops[j]?).bind (·.dst)=some u:=by exact rfl)(hg:lA (v u) b=some c:=by exact rfl)(hl:ea (bn v op) op=some (f,gs):=by exact rfl)(ha:c=true->gR v op.operands.toList:=by exact fun hc=>ak):
 ax P Y ops dr cf Q (⟨some t,op,ty,pos,after,some (j,b)⟩::r) ⟨v,m,n⟩ q:=Nc hj hg hl (fun hc=>⟨ha hc,h⟩) K
theorem Yq(K:ax P Y ops dr cf Q r s (q++[e]))(h:SO P Y ops dr x v m n s e:=by intro _ _ _ _ k;exact aq (Vn rfl rfl) ak trivial k):ax P Y ops dr cf Q (x::r) ⟨v,m,n⟩ q:=h _ _ _ _ K
theorem anA(K:ax P Y ops dr cf Q r s (q++[e]))(h:SO P Y ops dr x v m n s e:=by intro _ _ _ _ k;exact aq (vZ rfl rfl V.h V.h (S0) (by assumption)) ak (v8 V.h (S0) (by assumption)) k):ax P Y ops dr cf Q (x::r) ⟨v,m,n⟩ q:=h _ _ _ _ K
variable{rf:Bool}{W:Exit->St->Prop}{o:Array Oper}{B:Code}{i:Nat}{k:St}
theorem ws[eK Y](h:ax P Y o false [] (gq fun k=>AW P Y rf B W k) o.toList k []):AW P Y rf (.seq (.region i o false) B) W k:=aj h
theorem er[eK Y](h:ax P Y o false [] (gq fun k=>AW P Y rf B W k) o.toList k []):ax P Y ops dr [] (gq fun k=>AW P Y rf (.seq (.region i o false) B) W k) [] k q:=ab (aj h)
end
end Go.Abs
theorem eH{p:Prop}(h:p:=by repeat' (first|exact trivial|exact rfl|refine And.intro ?_ ?_)):p:=h
namespace Go.Proofs.Tryz.K
open Go.Abs
theorem kR{α:Sort _}{a b:α}(h:a=b:=by kernel_rfl):a=b:=h
instance:V (prog.cellsOf 1) 1:=⟨kR⟩
instance:V (bI prog 1) false:=⟨a1⟩
instance:V (aO prog 1) true:=⟨kR⟩
instance:V (prog.bytesOf 1) 8:=⟨b1⟩
instance:V (prog.cellsOf 2) 1:=⟨kR⟩
instance:V (prog.bytesOf 2) 8:=⟨b2⟩
instance:V (bI prog 2) false:=⟨a2⟩
instance:V (aO prog 2) true:=⟨t2⟩
instance:V (bq prog 2) [.s (.int .i64 0)]:=⟨z2⟩
instance:V (prog.cellsOf 3) 1:=⟨c3⟩
instance:V (prog.bytesOf 3) 8:=⟨b3⟩
instance:V (bI prog 3) false:=⟨a3⟩
instance:V (aO prog 3) true:=⟨t3⟩
instance:V (bq prog 3) [.s (.int .i64 0)]:=⟨z3⟩
instance:V (prog.cellsOf 4) 1:=⟨c4⟩
instance:V (prog.bytesOf 4) 1:=⟨b4⟩
instance:V (bI prog 4) false:=⟨a4⟩
instance:V (aO prog 4) true:=⟨t4⟩
instance:V (bq prog 4) [.s (.bool false)]:=⟨z4⟩
instance:V (vr prog 4) true:=⟨kR⟩
instance:V (prog.cellsOf 5) 1:=⟨c5⟩
instance:V (prog.bytesOf 5) 1:=⟨b5⟩
instance:V (bI prog 5) false:=⟨a5⟩
instance:V (aO prog 5) true:=⟨t5⟩
instance:V (bq prog 5) [.s (.int .u8 0)]:=⟨z5⟩
instance:V (prog.bytesOf 6) 1:=⟨b6⟩
instance:V (prog.bytesOf 7) 24:=⟨b7⟩
instance:V (prog.bytesOf 8) 24:=⟨b8⟩
instance:V (prog.cellsOf 9) 1:=⟨c9⟩
instance:V (prog.bytesOf 9) 16:=⟨b9⟩
instance:V (bI prog 9) false:=⟨a9⟩
instance:V (aO prog 9) true:=⟨t9⟩
instance:V (bq prog 9) [.s (.string "".toUTF8)]:=⟨z9⟩
instance:V (fA prog 9) true:=⟨kR⟩
instance:V (prog.bytesOf 10) 16:=⟨mU⟩
instance:V (aE prog 15) 321:=⟨Gw⟩
instance:V (aE prog 16) 324:=⟨Gx⟩
instance:V (aE prog 17) 331:=⟨Gv⟩
instance:V (aE prog 22) 48:=⟨kR⟩
instance:V (bh prog 22) true:=⟨kR⟩
instance:V (prog.cellsOf 23) 1:=⟨kR⟩
instance:V (bI prog 23) false:=⟨kR⟩
instance:V (aO prog 23) true:=⟨kR⟩
instance:V (aE prog 23) 43:=⟨kR⟩
instance:V (bh prog 23) true:=⟨kR⟩
instance:V (bI prog 31) false:=⟨a31⟩
instance:V (aO prog 31) true:=⟨t31⟩
instance:V (bq prog 31) [.s .nilFunc]:=⟨z31⟩
instance:V (prog.cellsOf 34) 1:=⟨kR⟩
instance:V (bI prog 34) false:=⟨kR⟩
instance:V (aO prog 34) true:=⟨kR⟩
instance:V (aE prog 34) 9:=⟨sy⟩
instance:V (bh prog 34) true:=⟨Cy⟩
instance:V (bI prog 37) false:=⟨a37⟩
instance:V (aO prog 37) true:=⟨t37⟩
instance:V (bq prog 37) [.s .nilFunc]:=⟨z37⟩
instance:V (prog.cellsOf 43) 1:=⟨ly⟩
instance:V (prog.bytesOf 43) 24:=⟨QD⟩
instance:V (bI prog 43) false:=⟨rC⟩
instance:V (aO prog 43) true:=⟨t43⟩
instance:V (bq prog 43) [.z]:=⟨kR⟩
instance:V (aE prog 43) 3:=⟨dm⟩
instance:V (bh prog 43) true:=⟨df⟩
instance:V (prog.cellsOf 45) 1:=⟨kR⟩
instance:V (bI prog 45) false:=⟨kR⟩
instance:V (aO prog 45) true:=⟨kR⟩
instance:V (aE prog 45) 5:=⟨Kh⟩
instance:V (bh prog 45) true:=⟨Cx⟩
instance:V (prog.cellsOf 46) 1:=⟨kR⟩
instance:V (bI prog 46) false:=⟨a46⟩
instance:V (aO prog 46) true:=⟨t46⟩
instance:V (bq prog 46) [.z]:=⟨z46⟩
instance:V (aE prog 46) 59:=⟨Zk⟩
instance:V (bh prog 46) true:=⟨Yh⟩
instance:V (prog.cellsOf 48) 8:=⟨Dn⟩
instance:V (bI prog 48) true:=⟨Kn⟩
instance:V (aO prog 48) true:=⟨t48⟩
instance:V (bq prog 48) [.s (.string "".toUTF8),.s (.bool false),.s (.int .i64 0),.s (.int .u8 0),.z,.z,.z,.z]:=⟨kR⟩
instance:V (cL prog 48 0) (some (0,9)):=⟨kR⟩
instance:V (cL prog 48 1) (some (1,4)):=⟨kR⟩
instance:V (cL prog 48 2) (some (2,3)):=⟨kR⟩
instance:V (cL prog 48 3) (some (3,5)):=⟨kR⟩
instance:V (cL prog 48 4) (some (4,45)):=⟨kR⟩
instance:V (cL prog 48 5) (some (5,45)):=⟨kR⟩
instance:V (cL prog 48 6) (some (6,34)):=⟨kR⟩
instance:V (cL prog 48 7) (some (7,46)):=⟨kR⟩
instance:V (bI prog 51) false:=⟨a51⟩
instance:V (aO prog 51) true:=⟨t51⟩
instance:V (bq prog 51) [.s .nilFunc]:=⟨z51⟩
instance:V (prog.cellsOf 52) 1:=⟨kR⟩
instance:V (bI prog 52) false:=⟨kR⟩
instance:V (aO prog 52) true:=⟨kR⟩
instance:V (aE prog 52) 54:=⟨Zj⟩
instance:V (bh prog 52) true:=⟨Yg⟩
instance:V (bI prog 53) true:=⟨a53⟩
instance:V (aO prog 53) true:=⟨t53⟩
instance:V (bq prog 53) [.s (.int .u8 0),.s (.int .i64 0),.s (.int .i64 0),.s (.int .i64 0),.s (.int .i64 0),.z]:=⟨z53⟩
instance:V (prog.cellsOf 54) 6:=⟨Qr⟩
instance:V (prog.bytesOf 54) 64:=⟨Qq⟩
instance:V (bI prog 54) true:=⟨kR⟩
instance:V (aO prog 54) true:=⟨kR⟩
instance:V (bq prog 54) [.s (.int .u8 0),.s (.int .i64 0),.s (.int .i64 0),.s (.int .i64 0),.s (.int .i64 0),.z]:=⟨kR⟩
instance:V (cL prog 54 0) (some (0,5)):=⟨kR⟩
instance:V (cL prog 54 1) (some (1,3)):=⟨kR⟩
instance:V (cL prog 54 2) (some (2,3)):=⟨Oe⟩
instance:V (cL prog 54 3) (some (3,3)):=⟨Of⟩
instance:V (cL prog 54 4) (some (4,3)):=⟨kR⟩
instance:V (cL prog 54 5) (some (5,43)):=⟨EP⟩
instance:V (prog.cellsOf 55) 1:=⟨kR⟩
instance:V (bI prog 55) false:=⟨kR⟩
instance:V (aO prog 55) true:=⟨kR⟩
instance:V (aE prog 55) 79:=⟨Qn⟩
instance:V (bh prog 55) true:=⟨Fh⟩
instance:V (prog.cellsOf 57) 15:=⟨Qv⟩
instance:V (bI prog 57) true:=⟨Zm⟩
instance:V (aO prog 57) true:=⟨t57⟩
instance:V (bq prog 57) [.s (.int .u8 0),.s (.int .i64 0),.s (.int .i64 0),.s (.int .i64 0),.s (.int .i64 0),.s (.string "".toUTF8),.s (.int .u8 0),.s (.int .i64 0),.s (.int .i64 0),.s (.int .i64 0),.s (.int .i64 0),.z,.z,.z,.s (.int .i64 0)]:=⟨kR⟩
instance:V (cL prog 57 0) (some (0,5)):=⟨kR⟩
instance:V (cL prog 57 1) (some (1,3)):=⟨kR⟩
instance:V (cL prog 57 2) (some (2,3)):=⟨kR⟩
instance:V (cL prog 57 3) (some (3,3)):=⟨kR⟩
instance:V (cL prog 57 4) (some (4,3)):=⟨kR⟩
instance:V (cL prog 57 5) (some (5,9)):=⟨kR⟩
instance:V (cL prog 57 6) (some (6,54)):=⟨kR⟩
instance:V (cL prog 57 7) (some (12,43)):=⟨Og⟩
instance:V (cL prog 57 8) (some (13,55)):=⟨kR⟩
instance:V (cL prog 57 9) (some (14,3)):=⟨kR⟩
instance:V (prog.cellsOf 59) 16:=⟨Km⟩
instance:V (prog.bytesOf 59) 200:=⟨Kl⟩
instance:V (bI prog 59) true:=⟨kR⟩
instance:V (aO prog 59) true:=⟨kR⟩
instance:V (bq prog 59) [.z,.s (.int .u8 0),.s (.int .i64 0),.s (.int .i64 0),.s (.int .i64 0),.s (.int .i64 0),.s (.string "".toUTF8),.s (.int .u8 0),.s (.int .i64 0),.s (.int .i64 0),.s (.int .i64 0),.s (.int .i64 0),.z,.z,.z,.s (.int .i64 0)]:=⟨z59⟩
instance:V (cL prog 59 0) (some (0,52)):=⟨kR⟩
instance:V (cL prog 59 1) (some (1,57)):=⟨kR⟩
instance:V (bI prog 70) true:=⟨a70⟩
instance:V (aO prog 70) true:=⟨t70⟩
instance:V (bq prog 70) [.s (.int .u8 0),.s (.int .i64 0)]:=⟨z70⟩
instance:V (bI prog 72) true:=⟨a72⟩
instance:V (aO prog 72) true:=⟨t72⟩
instance:V (bq prog 72) [.s (.int .u8 0),.s (.string "".toUTF8),.s (.int .u8 0),.s (.int .i64 0),.z,.s (.int .i64 0)]:=⟨z72⟩
instance:V (bI prog 75) false:=⟨a75⟩
instance:V (aO prog 75) true:=⟨t75⟩
instance:V (bq prog 75) [.s .nilFunc]:=⟨z75⟩
instance:V (bI prog 76) false:=⟨a76⟩
instance:V (aO prog 76) true:=⟨t76⟩
instance:V (bq prog 76) [.s .nilFunc]:=⟨z76⟩
instance:V (prog.cellsOf 79) 2:=⟨Ki⟩
instance:V (prog.bytesOf 79) 24:=⟨Zi⟩
instance:V (bI prog 79) true:=⟨kR⟩
instance:V (aO prog 79) true:=⟨kR⟩
instance:V (bq prog 79) [.s (.string "".toUTF8),.s (.int .i64 0)]:=⟨kR⟩
instance:V (cL prog 79 0) (some (0,9)):=⟨kR⟩
instance:V (cL prog 79 1) (some (1,3)):=⟨kR⟩
instance:V (prog.cellsOf 92) 1:=⟨A1⟩
instance:V (bI prog 92) false:=⟨Gu⟩
instance:V (aO prog 92) true:=⟨t92⟩
instance:V (aE prog 92) 4:=⟨A0⟩
instance:V (bh prog 92) true:=⟨At⟩
instance:V (prog.cellsOf 111) 1:=⟨kR⟩
instance:V (bI prog 111) false:=⟨kR⟩
instance:V (aO prog 111) true:=⟨kR⟩
instance:V (prog.cellsOf 113) 10:=⟨Ys⟩
instance:V (bI prog 113) true:=⟨Yr⟩
instance:V (aO prog 113) true:=⟨t113⟩
instance:V (bq prog 113) [.s (.string "".toUTF8),.s (.bool false),.s (.int .i64 0),.s (.int .u8 0),.z,.z,.z,.z,.s (.map none),.s (.map none)]:=⟨kR⟩
instance:V (cL prog 113 0) (some (0,48)):=⟨kR⟩
instance:V (cL prog 113 1) (some (8,111)):=⟨kR⟩
instance:V (cL prog 113 2) (some (9,111)):=⟨kR⟩
instance:V (bI prog 127) false:=⟨a127⟩
instance:V (aO prog 127) true:=⟨t127⟩
instance:V (bq prog 127) [.s .nilFunc]:=⟨z127⟩
instance:V (aE prog 159) 163:=⟨kR⟩
instance:V (bh prog 159) true:=⟨kR⟩
instance:V (prog.cellsOf 163) 2:=⟨mO⟩
instance:V (prog.bytesOf 163) 32:=⟨Yu⟩
instance:V (bI prog 163) true:=⟨tu⟩
instance:V (aO prog 163) true:=⟨t163⟩
instance:V (bq prog 163) [.s (.bool false),.z]:=⟨Pu⟩
instance:V (cL prog 163 0) (some (0,4)):=⟨Nk⟩
instance:V (cL prog 163 1) (some (1,92)):=⟨Nl⟩
instance:V (bI prog 164) false:=⟨a164⟩
instance:V (aO prog 164) true:=⟨t164⟩
instance:V (bq prog 164) [.s .nilFunc]:=⟨z164⟩
instance:V (bI prog 171) false:=⟨a171⟩
instance:V (aO prog 171) true:=⟨t171⟩
instance:V (bq prog 171) [.s .nilFunc]:=⟨z171⟩
instance:V (bI prog 173) true:=⟨a173⟩
instance:V (aO prog 173) true:=⟨t173⟩
instance:V (bq prog 173) [.s (.int .i64 0),.s (.int .i64 0),.z]:=⟨z173⟩
instance:V (prog.cellsOf 183) 2:=⟨kR⟩
instance:V (cL prog 183 1) (some (1,45)):=⟨kR⟩
instance:V (aE prog 196) 201:=⟨kR⟩
instance:V (bh prog 196) true:=⟨kR⟩
instance:V (prog.cellsOf 199) 1:=⟨kR⟩
instance:V (bI prog 199) false:=⟨kR⟩
instance:V (aO prog 199) true:=⟨kR⟩
instance:V (prog.cellsOf 201) 20:=⟨tf⟩
instance:V (prog.bytesOf 201) 160:=⟨Yn⟩
instance:V (bI prog 201) true:=⟨a201⟩
instance:V (aO prog 201) true:=⟨t201⟩
instance:V (bq prog 201) [.s (.int .u64 0),.s (.int .u64 0),.s (.int .u64 0),.s (.int .u64 0),.s (.int .u64 0),.s (.int .u64 0),.s (.int .u64 0),.s (.int .u64 0),.s (.int .u64 0),.s (.int .u64 0),.s (.int .u64 0),.s (.int .u64 0),.s (.int .u64 0),.s (.int .u64 0),.s (.int .u64 0),.s (.int .u64 0),.s (.int .u64 0),.s (.int .u64 0),.s (.int .u64 0),.s (.int .u64 0)]:=⟨z201⟩
instance:V (aE prog 201) 199:=⟨kR⟩
instance:V (o9 prog 201) true:=⟨kR⟩
instance:V (pU prog 201) 20:=⟨kR⟩
instance:V (prog.cellsOf 206) 9:=⟨kR⟩
instance:V (bI prog 206) true:=⟨kR⟩
instance:V (aO prog 206) true:=⟨kR⟩
instance:V (bq prog 206) [.s (.string "".toUTF8),.s (.bool false),.s (.int .i64 0),.s (.int .u8 0),.z,.z,.z,.z,.z]:=⟨kR⟩
instance:V (cL prog 206 0) (some (0,48)):=⟨kR⟩
instance:V (cL prog 206 1) (some (8,23)):=⟨kR⟩
instance:V (bI prog 212) true:=⟨a212⟩
instance:V (aO prog 212) true:=⟨t212⟩
instance:V (bq prog 212) [.s (.pointer none),.z]:=⟨z212⟩
instance:V (prog.cellsOf 213) 2:=⟨kR⟩
instance:V (bI prog 213) true:=⟨a213⟩
instance:V (aO prog 213) true:=⟨t213⟩
instance:V (bq prog 213) [.s (.pointer none),.z]:=⟨z213⟩
instance:V (cL prog 213 0) (some (0,183)):=⟨kR⟩
instance:V (bI prog 232) false:=⟨a232⟩
instance:V (aO prog 232) true:=⟨t232⟩
instance:V (bq prog 232) [.s .nilFunc]:=⟨z232⟩
instance:V (bI prog 233) false:=⟨a233⟩
instance:V (aO prog 233) true:=⟨t233⟩
instance:V (bq prog 233) [.s .nilFunc]:=⟨z233⟩
instance:V (prog.cellsOf 237) 6:=⟨kR⟩
instance:V (bI prog 237) true:=⟨Pr⟩
instance:V (aO prog 237) true:=⟨kR⟩
instance:V (bq prog 237) [.s (.int .i64 0),.s (.int .i64 0),.s (.int .i64 0),.s (.int .i64 0),.s (.int .i64 0),.s (.int .i64 0)]:=⟨Ps⟩
instance:V (cL prog 237 0) (some (0,3)):=⟨kR⟩
instance:V (cL prog 237 1) (some (1,3)):=⟨kR⟩
instance:V (cL prog 237 2) (some (2,3)):=⟨kR⟩
instance:V (cL prog 237 3) (some (3,3)):=⟨kR⟩
instance:V (cL prog 237 4) (some (4,3)):=⟨kR⟩
instance:V (cL prog 237 5) (some (5,3)):=⟨kR⟩
instance:V (prog.underlying 2) (some (.int .i64)):=⟨kR⟩
instance:V (prog.underlying 3) (some (.int .i64)):=⟨kR⟩
instance:V (prog.underlying 5) (some (.int .u8)):=⟨u5⟩
instance:V (prog.underlying 8) (some (.struct (iQ prog 8))):=⟨u8⟩
instance:V (prog.underlying 45) (some (.slice 5)):=⟨kR⟩
instance:V (prog.underlying 54) (some (.struct (iQ prog 54))):=⟨kR⟩
instance:V (((iQ prog 54).toList.map fun f=>(f.offset,prog.cellsOf f.type))) [(0,1),(1,1),(2,1),(3,1),(4,1),(5,1)]:=⟨kR⟩
instance:V (((iQ prog 54).toList.all fun f=>(prog.info? f.type).isSome)) true:=⟨kR⟩
instance:V (prog.underlying 69) (some (.int .u64)):=⟨kR⟩
instance:V (prog.underlying 70) (some (.struct (iQ prog 70))):=⟨Y'⟩
instance:V (prog.underlying 72) (some (.struct (iQ prog 72))):=⟨Y9⟩
instance:V (ik prog 111) 5:=⟨kR⟩
instance:V (kM prog 111) true:=⟨kR⟩
instance:V (uV prog 111) 237:=⟨Od⟩
instance:V (prog.underlying 113) (some (.struct (iQ prog 113))):=⟨kR⟩
instance:V (((iQ prog 113).toList.map fun f=>(f.offset,prog.cellsOf f.type))) [(0,8),(8,1),(9,1)]:=⟨kR⟩
instance:V (((iQ prog 113).toList.all fun f=>(prog.info? f.type).isSome)) true:=⟨kR⟩
instance:V (prog.underlying 163) (some (.struct (iQ prog 163))):=⟨Yt⟩
instance:V (((iQ prog 163).toList.map fun f=>(f.offset,prog.cellsOf f.type))) [(0,1),(1,1)]:=⟨Xm⟩
instance:V (((iQ prog 163).toList.all fun f=>(prog.info? f.type).isSome)) true:=⟨Xn⟩
instance:V (ik prog 194) 3:=⟨N9⟩
instance:V (kM prog 194) true:=⟨Oa⟩
instance:V (prog.underlying 206) (some (.struct (iQ prog 206))):=⟨kR⟩
instance:V (((iQ prog 206).toList.map fun f=>(f.offset,prog.cellsOf f.type))) [(0,8),(8,1)]:=⟨kR⟩
instance:V (((iQ prog 206).toList.all fun f=>(prog.info? f.type).isSome)) true:=⟨kR⟩
instance:V (prog.underlying 213) (some (.struct (iQ prog 213))):=⟨kR⟩
instance:V (((iQ prog 213).toList.map fun f=>(f.offset,prog.cellsOf f.type))) [(0,2)]:=⟨kR⟩
instance:V (((iQ prog 213).toList.all fun f=>(prog.info? f.type).isSome)) true:=⟨kR⟩
instance:V (prog.underlying 237) (some (.struct (iQ prog 237))):=⟨kR⟩
instance:V (((iQ prog 237).toList.map fun f=>(f.offset,prog.cellsOf f.type))) [(0,1),(1,1),(2,1),(3,1),(4,1),(5,1)]:=⟨kR⟩
instance:V (((iQ prog 237).toList.all fun f=>(prog.info? f.type).isSome)) true:=⟨kR⟩
end Go.Proofs.Tryz.K
namespace Go.Abs
open Go.Argus
section
variable{P:Program}{Y:gn}{ops:Array Oper}{dr:Bool}{cf:List (Nat×Nat)}{Q:Exit->St->Prop}{r:List Oper}{v:Env}{m:Mem}{n:Nat}{q:mP}{x:Oper}{s:St}{e:List Nat×List Nat}
theorem mS{p:Prop}(h:p:=by first|rfl|exact bt rfl|(simp;done)|(simp;omega)|omega):p:=h
theorem Kc{p:Prop}(h:p:=by first|omega|exact bt rfl|(simp;done)|(simp;omega)):p:=h
theorem pf{p:Prop}(h:p:=by first|(simp;done)|exact⟨rfl,bt rfl⟩|(simp;omega)):p:=h
theorem P'{p:Prop}(h:p:=by first|rfl|exact pW _|(simp[pW];done)|exact aeH):p:=h
theorem Dh{p:Prop}(h:p:=by first|(simp;done)|omega|exact bt rfl):p:=h
theorem Kd{p:Prop}(h:p:=by unfold maxLen;first|omega|(simp;omega)):p:=h
theorem Qa{p:Prop}(h:p:=by first|rfl|(simp;done)|(simp;omega)):p:=h
theorem Qb{p:Prop}(h:p:=by first|(simp;done)|(simp;omega)):p:=h
theorem sw{p:Prop}(h:p:=by first|(simp;done)|fail):p:=h
theorem F9{p:Prop}(h:p:=by first|decide|simp):p:=h
def oT(x:Oper):Nat:=2*(match x.op with
 | .move ..=>1
 | .assign ..=>2
 | .pick ..=>3
 | .alloc ..=>4
 | .box ..=>5
 | .build ..=>6
 | .buildSlice ..=>7
 | .insert ..=>8
 | .load ..=>9
 | .store ..=>10
 | .nilCheck ..=>11
 | .unOp ..=>12
 | .convert ..=>13
 | .makeFunc ..=>14
 | .makeMap ..=>15
 | .makeSlice ..=>16
 | .slice ..=>17
 | .fieldAddr ..=>18
 | .field ..=>19
 | .indexAddr ..=>20
 | .index ..=>21
 | .lookup ..=>22
 | .mapUpdate ..=>23
 | .extract ..=>24
 | .call ..=>25
 | .binOp .add ..=>26
 | .binOp .sub ..=>27
 | .binOp .mul ..=>28
 | .binOp .quo ..=>29
 | .binOp .rem ..=>30
 | .binOp .and ..=>31
 | .binOp .or ..=>32
 | .binOp .xor ..=>33
 | .binOp .shl ..=>34
 | .binOp .shr ..=>35
 | .binOp .andNot ..=>36
 | .binOp .eql ..=>37
 | .binOp .neq ..=>38
 | .binOp .lss ..=>39
 | .binOp .leq ..=>40
 | .binOp .gtr ..=>41
 | .binOp .geq ..=>42
 |_=>0)+(match x.guard with
 |none=>0
 |_=>1)
theorem SS2(ht:oT x=2:=by exact rfl)(h:SO P Y ops dr x v m n s e:=by intro _ _ _ _ k;first|exact aq (gX (v:=.s (.int _ _)) rfl) ak trivial k|exact aq (gX (v:=.s (.bool _)) rfl) ak trivial k|exact aq (gX (v:=.sl _ _) rfl) ak trivial k|exact aq (gX (v:=.rs _ _ _) rfl) ak trivial k|exact aq (gX (v:=.s (.string _)) rfl) ak trivial k|exact aq (gX (v:=.rp _ _) rfl) ak trivial k|exact aq (gX (v:=.fn _ _ _) rfl) ak trivial k|exact aq (gX (v:=_) rfl) ak trivial k|exact aq (gX (v:=.mp _) rfl) ak trivial k|fail):SO P Y ops dr x v m n s e:=h
theorem SS4(ht:oT x=4:=by exact rfl)(h:SO P Y ops dr x v m n s e:=by intro _ _ _ _ k;first|exact aq (eQ (v:=.s (.bool _)) rfl) ak trivial k|exact aq (eQ (v:=.s (.int _ _)) rfl) ak trivial k|exact aq (eQ (v:=.s (.string _)) rfl) ak trivial k|exact aq (eQ (v:=.sl _ _) rfl) ak trivial k|exact aq (eQ (v:=.rs _ _ _) rfl) ak trivial k|exact aq (eQ (v:=.z) rfl) ak trivial k|exact aq (eQ (v:=.mp _) rfl) ak trivial k|exact aq (eQ (v:=_) rfl) ak trivial k|fail):SO P Y ops dr x v m n s e:=h
theorem aml(ht:oT x=18:=by exact rfl)(h:SO P Y ops dr x v m n s e:=by intro _ _ _ _ k;first|exact aq (nO (vs:=aH _) rfl V.h V.h rfl) ak (nP V.h V.h sw) k|exact aq (nO (vs:=bA _) rfl V.h V.h rfl) ak (nP V.h V.h sw) k|exact aq (nO (vs:=a8 _) rfl V.h V.h rfl) ak (nP V.h V.h sw) k|exact aq (nO (vs:=bC _ _ _) rfl V.h V.h rfl) ak (nP V.h V.h sw) k|exact aq (nO (vs:=cg _) rfl V.h V.h rfl) ak (nP V.h V.h sw) k|exact aq (nO (vs:=cu _ _) rfl V.h V.h rfl) ak (nP V.h V.h sw) k|exact aq (fD rfl rfl V.h V.h (oR mS)) ak (fE V.h V.h mS) k|exact aq (fD (vs:=a8 _) rfl rfl V.h V.h rfl) ak (fE V.h V.h Dh) k|exact aq (fD (vs:=bA _) rfl (an _ _ _) V.h V.h rfl) ak (fE V.h V.h Dh) k|exact aq (nO rfl V.h V.h rfl) ak (nP V.h V.h sw) k|exact aq (nO (vs:=jo _) rfl V.h V.h rfl) ak (nP V.h V.h sw) k|exact aq (fD (vs:=aH _) rfl rfl V.h V.h rfl) ak (fE V.h V.h Dh) k|exact aq (fD rfl rfl V.h V.h rfl) ak (fE V.h V.h Dh) k|exact aq (fD rfl (au oG rfl) V.h V.h (oR mS)) ak (fE V.h V.h mS) k|exact aq (fD rfl (an _ _ _) V.h V.h rfl) ak (fE V.h V.h Dh) k|exact aq (vY rfl V.h) ak (wa V.h V.h) k|exact aq (eR rfl rfl kd V.h) ak (eS V.h V.h kd) k|exact aq (eR rfl aA kd V.h) ak (eS V.h V.h kd) k|exact aq (eR rfl (an _ _ _) kd V.h) ak (eS V.h V.h kd) k|exact aq (eR rfl rfl rfl V.h) ak (eS V.h V.h rfl) k|exact aq (eR rfl aA rfl V.h) ak (eS V.h V.h rfl) k|fail):SO P Y ops dr x v m n s e:=h
theorem amm(ht:oT x=36:=by exact rfl)(h:SO P Y ops dr x v m n s e:=by intro _ _ _ _ k;first|exact aq (vM rfl V.h) ak (je V.h) k|exact aq (mX rfl rfl V.h) ak (je V.h) k|exact aq (mX rfl aA V.h) ak (je V.h) k|exact aq (mX rfl (an _ _ _) V.h) ak (je V.h) k|fail):SO P Y ops dr x v m n s e:=h
theorem amn(ht:oT x=19:=by exact rfl)(h:SO P Y ops dr x v m n s e:=by intro _ _ _ _ k;first|exact cq rfl rfl (vY rfl V.h) (fun hc=>⟨ak,(wa V.h V.h)⟩) k|exact cq rfl rfl (nO (vs:=cu _ _) rfl V.h V.h rfl) (fun hc=>⟨ak,(nP V.h V.h sw)⟩) k|exact cq rfl rfl (nO (vs:=bC _ _ _) rfl V.h V.h rfl) (fun hc=>⟨ak,(nP V.h V.h sw)⟩) k|exact cq rfl rfl (eR rfl rfl rfl V.h) (fun hc=>⟨ak,(eS V.h V.h rfl)⟩) k|exact cq rfl rfl (nO (vs:=a8 _) rfl V.h V.h rfl) (fun hc=>⟨ak,(nP V.h V.h sw)⟩) k|exact cq rfl rfl (nO (vs:=bA _) rfl V.h V.h rfl) (fun hc=>⟨ak,(nP V.h V.h sw)⟩) k|exact cq rfl rfl (eR rfl (an _ _ _) rfl V.h) (fun hc=>⟨ak,(eS V.h V.h rfl)⟩) k|exact cq rfl rfl (fD rfl rfl V.h V.h rfl) (fun hc=>⟨ak,(fE V.h V.h Dh)⟩) k|exact cq rfl rfl (fD rfl (au oG rfl) V.h V.h (oR mS)) (fun hc=>⟨ak,(fE V.h V.h mS)⟩) k|fail):SO P Y ops dr x v m n s e:=h
theorem SS6(ht:oT x=6:=by exact rfl)(h:SO P Y ops dr x v m n s e:=by intro _ _ _ _ k;first|exact aeC rfl rfl (by first|exact trivial|exact rfl) k|exact aeD rfl rfl (by first|exact trivial|exact rfl) k|exact agh rfl rfl rfl (fun h=>by first|exact trivial|exact rfl|exact h|(show Eq _ _;rw[h];rfl)|(show Eq _ _;simp[h];done)|(show Eq _ _;simp_all;done)|fail) (fun h=>by first|exact trivial|exact rfl|exact h|(show Eq _ _;rw[h];rfl)|(show Eq _ _;simp[h];done)|(show Eq _ _;simp_all;done)|fail) k|fail):SO P Y ops dr x v m n s e:=h
theorem amo(ht:oT x=37:=by exact rfl)(h:SO P Y ops dr x v m n s e:=by intro _ _ _ _ k;first|exact cq rfl rfl (vM rfl V.h) (fun hc=>⟨ak,(je V.h)⟩) k|exact cq rfl rfl (mX rfl rfl V.h) (fun hc=>⟨ak,(je V.h)⟩) k|exact cq rfl rfl (mX rfl (an _ _ _) V.h) (fun hc=>⟨ak,(je V.h)⟩) k|fail):SO P Y ops dr x v m n s e:=h
theorem amp(ht:oT x=74:=by exact rfl)(h:SO P Y ops dr x v m n s e:=by intro _ _ _ _ k;first|exact aq (Nd rfl rfl ki) ak rfl k|exact aq (NF rfl rfl) ak rfl k|fail):SO P Y ops dr x v m n s e:=h
theorem SS3(ht:oT x=3:=by exact rfl)(h:SO P Y ops dr x v m n s e:=by intro _ _ _ _ k;first|exact cq rfl rfl (gX (v:=.s (.int _ _)) rfl) (fun hc=>⟨ak,trivial⟩) k|exact cq rfl rfl (gX (v:=.s (.bool _)) rfl) (fun hc=>⟨ak,trivial⟩) k|exact cq rfl rfl (gX (v:=.sl _ _) rfl) (fun hc=>⟨ak,trivial⟩) k|exact cq rfl rfl (gX (v:=.s (.string _)) rfl) (fun hc=>⟨ak,trivial⟩) k|exact cq rfl rfl (gX (v:=.fn _ _ _) rfl) (fun hc=>⟨ak,trivial⟩) k|exact cq rfl rfl (gX (v:=.rs _ _ _) rfl) (fun hc=>⟨ak,trivial⟩) k|fail):SO P Y ops dr x v m n s e:=h
theorem amq(ht:oT x=20:=by exact rfl)(h:SO P Y ops dr x v m n s e:=by intro _ _ _ _ k;first|exact dA (jR (d:=.s (.int _ _)) (cs':=_) rfl rfl rfl rfl rfl) ak (ef V.h V.h pf rfl) k|exact dA (jR (d:=.s (.string _)) (cs':=_) rfl rfl rfl rfl rfl) ak (ef V.h V.h pf rfl) k|exact dA (jm (cs':=cg _) rfl rfl (an _ _ _) rfl) ak (ef V.h V.h pf (by rfl)) k|exact dA (jm rfl rfl rfl (Mx mS mS)) ak (D4 mS mS P') k|exact dA (jR (d:=.s (.bool _)) (cs':=_) rfl rfl rfl rfl rfl) ak (ef V.h V.h pf rfl) k|exact dA (jm (cs':=bA _) rfl rfl (an _ _ _) rfl) ak (ef V.h V.h pf (by rfl)) k|exact dA (jm rfl rfl (an _ _ _) (Mx mS mS)) ak (D4 mS mS P') k|exact dA (jm (cs':=aH _) rfl rfl rfl rfl) ak (ef V.h V.h pf (by rfl)) k|exact dA (jR (d:=.sl _ _) (cs':=_) rfl rfl rfl rfl rfl) ak (ef V.h V.h pf rfl) k|exact dA (jm (cs':=jo _) rfl rfl (an _ _ _) rfl) ak (ef V.h V.h pf (by rfl)) k|exact dA (jR (d:=.s (.int _ _)) (cs':=_) rfl rfl (an _ _ _) rfl rfl) ak (ef V.h V.h pf rfl) k|exact dA (jm rfl rfl (au oG rfl) (Mx mS mS)) ak (D4 mS mS P') k|exact dA (jm rfl rfl rfl (WY (by decide) (by assumption) (by assumption) (by first|assumption|(simp;omega)|(simp;done)|fail))) ak (D4 (by first|(simp;omega)|(simp;done)|fail) (z8 (by assumption) (by assumption)) (pW _)) k|exact dA (jm (cs':=a8 _) rfl rfl (an _ _ _) rfl) ak (ef V.h V.h pf (by rfl)) k|exact dA (jm rfl rfl rfl rfl) ak (ef V.h V.h pf (by rfl)) k|exact dA (jm rfl rfl (an _ _ _) rfl) ak (ef V.h V.h pf (by rfl)) k|exact dA (jR (d:=.sl _ _) (cs':=_) rfl rfl aA rfl rfl) ak (ef V.h V.h pf rfl) k|exact dA (jR (d:=.rs _ _ _) (cs':=_) rfl rfl aA rfl rfl) ak (ef V.h V.h pf rfl) k|exact dA (jR (d:=.z) (cs':=_) rfl rfl rfl rfl rfl) ak (ef V.h V.h pf rfl) k|fail):SO P Y ops dr x v m n s e:=h
theorem amr(ht:oT x=40:=by exact rfl)(h:SO P Y ops dr x v m n s e:=by intro _ _ _ _ k;first|exact aq (Vt rfl rfl V.h V.h (by assumption)) ak (Vu V.h (by assumption)) k|exact aq (vZ rfl rfl V.h V.h (Bh) (by assumption)) ak (v8 V.h (Bh) (by assumption)) k|exact aq (vZ rfl rfl V.h V.h (G5) (by assumption)) ak (v8 V.h (G5) (by assumption)) k|exact aq (vZ rfl rfl V.h V.h (DQ) (by assumption)) ak (v8 V.h (DQ) (by assumption)) k|exact aq (agi rfl rfl rfl V.h V.h V.h) ak ⟨V.h,by omega⟩ k|exact aq (vZ rfl rfl V.h V.h (RY) (by assumption)) ak (v8 V.h (RY) (by assumption)) k|exact aq (rP rfl rfl rfl V.h V.h) ak ⟨V.h,by omega⟩ k|exact aq (rP rfl rfl aA V.h V.h) ak ⟨V.h,by omega⟩ k|exact aq (rP rfl rfl (an _ _ _) V.h V.h) ak ⟨V.h,by omega⟩ k|exact aq (Ed rfl rfl rfl V.h V.h) ak ⟨V.h,by omega⟩ k|exact aq (agj rfl rfl (an _ _ _) V.h V.h) ak ⟨V.h,by omega⟩ k|fail):SO P Y ops dr x v m n s e:=h
theorem ams(ht:oT x=52:=by exact rfl)(h:SO P Y ops dr x v m n s e:=by intro _ _ _ _ k;first|exact aq (Wp rfl rfl oG) ak rfl k|fail):SO P Y ops dr x v m n s e:=h
theorem amt(ht:oT x=50:=by exact rfl)(h:SO P Y ops dr x v m n s e:=by intro _ _ _ _ k;first|exact aq (Ws rfl) ak V.h k|exact aq (MT rfl) ak V.h k|exact aq (Iu rfl rfl) ak V.h k|exact eE (eC rfl (au oG aA) rfl V.h V.h (gL (an _ _ _) rfl) rfl) ak ⟨V.h,rfl,Kc,(by decide),Qa,Kd,(by rw[b3];first|omega|(simp;omega)),Qb⟩ k|exact eE (eC rfl (au oG aA) rfl V.h V.h (gL (an _ _ _) rfl) rfl) ak ⟨V.h,rfl,Kc,(by decide),Qa,Kd,(by rw[b9];first|omega|(simp;omega)),Qb⟩ k|exact eE (eC rfl (au oG mF) rfl V.h V.h (gL (an _ _ _) rfl) rfl) ak ⟨V.h,rfl,Kc,(by decide),Qa,Kd,(by rw[b3];first|omega|(simp;omega)),Qb⟩ k|exact cR (jV rfl rfl V.h V.h (gL (an _ _ _) rfl)) ak ⟨V.h,Kc,(by decide),Kd,(by rw[b3];first|omega|(simp;omega))⟩ k|exact aq (Iu rfl aA) ak V.h k|fail):SO P Y ops dr x v m n s e:=h
theorem amu(ht:oT x=75:=by exact rfl)(h:SO P Y ops dr x v m n s e:=by intro _ _ _ _ k;first|exact cq rfl rfl (Nd rfl rfl ki) (fun hc=>⟨ak,rfl⟩) k|exact cq rfl rfl (Vn rfl rfl) (fun hc=>⟨ak,trivial⟩) k|exact cq rfl rfl (Nd rfl rfl I9) (fun hc=>⟨ak,rfl⟩) k|exact cq rfl rfl (NF rfl rfl) (fun hc=>⟨ak,rfl⟩) k|fail):SO P Y ops dr x v m n s e:=h
theorem amv(ht:oT x=78:=by exact rfl)(h:SO P Y ops dr x v m n s e:=by intro _ _ _ _ k;first|exact aq (Nf rfl rfl qS) ak rfl k|exact aq (NB rfl rfl) ak rfl k|fail):SO P Y ops dr x v m n s e:=h
theorem amw(ht:oT x=10:=by exact rfl)(h:SO P Y ops dr x v m n s e:=by intro _ _ _ _ k;first|exact cR (uy (cs:=aH _) rfl) ak (by first|rfl|exact vJ gS cb|exact pW _|exact wx dc) k|exact cR (uy (cs:=a8 _) rfl) ak (by first|rfl|exact vJ gS cb|exact pW _|exact wx dc) k|exact cR (uy (cs:=bC _ _ _) rfl) ak (by first|rfl|exact vJ gS cb|exact pW _|exact wx dc) k|exact cR (uy rfl) ak (by first|rfl|exact vJ gS cb|exact pW _|exact wx dc) k|exact cR (uy (cs:=bA _) rfl) ak (by first|rfl|exact vJ gS cb|exact pW _|exact wx dc) k|exact cR (uy (cs:=cu _ _) rfl) ak (by first|rfl|exact vJ gS cb|exact pW _|exact wx dc) k|fail):SO P Y ops dr x v m n s e:=h
theorem SS8(ht:oT x=8:=by exact rfl)(h:SO P Y ops dr x v m n s e:=by intro _ _ _ _ k;first|exact cR (Uc V.h) ak V.h k|fail):SO P Y ops dr x v m n s e:=h
theorem amx(ht:oT x=14:=by exact rfl)(h:SO P Y ops dr x v m n s e:=by intro _ _ _ _ k;first|exact cR (mV (cs:=[_]) V.h V.h V.h rfl rfl) ak ⟨rfl,by decide,V.h,by decide⟩ k|exact cR (mV (cs:=[]) V.h V.h V.h rfl rfl) ak ⟨rfl,by decide,V.h,by decide⟩ k|exact cR (mV (cs:=[_,_]) V.h V.h V.h rfl rfl) ak ⟨rfl,by decide,V.h,by decide⟩ k|exact cR (mV V.h V.h V.h rfl rfl) ak ⟨rfl,by decide,V.h,by decide⟩ k|fail):SO P Y ops dr x v m n s e:=h
theorem amy(ht:oT x=51:=by exact rfl)(h:SO P Y ops dr x v m n s e:=by intro _ _ _ _ k;first|exact cq rfl rfl (Ws rfl) (fun hc=>⟨ak,V.h⟩) k|fail):SO P Y ops dr x v m n s e:=h
theorem amz(ht:oT x=24:=by exact rfl)(h:SO P Y ops dr x v m n s e:=by intro _ _ _ _ k;first|exact aq (Wq rfl) ak trivial k|fail):SO P Y ops dr x v m n s e:=h
theorem amA(ht:oT x=83:=by exact rfl)(h:SO P Y ops dr x v m n s e:=by intro _ _ _ _ k;first|exact cq rfl rfl (Ng rfl rfl u6) (fun hc=>⟨ak,rfl⟩) k|exact cq rfl rfl (ND rfl rfl) (fun hc=>⟨ak,rfl⟩) k|fail):SO P Y ops dr x v m n s e:=h
theorem amB(ht:oT x=41:=by exact rfl)(h:SO P Y ops dr x v m n s e:=by intro _ _ _ _ k;first|exact cq rfl rfl (Vt rfl rfl V.h V.h (by assumption)) (fun hc=>⟨ak,(Vu V.h (by assumption))⟩) k|exact cq rfl rfl (vZ rfl rfl V.h V.h (G5) (by assumption)) (fun hc=>⟨ak,(v8 V.h (G5) (by assumption))⟩) k|fail):SO P Y ops dr x v m n s e:=h
theorem amC(ht:oT x=25:=by exact rfl)(h:SO P Y ops dr x v m n s e:=by intro _ _ _ _ k;first|exact cq rfl rfl (Wq rfl) (fun hc=>⟨ak,trivial⟩) k|fail):SO P Y ops dr x v m n s e:=h
theorem amD(ht:oT x=12:=by exact rfl)(h:SO P Y ops dr x v m n s e:=by intro _ _ _ _ k;first|exact aq (DZ V.h V.h V.h rfl rfl) ak ⟨V.h,V.h⟩ k|fail):SO P Y ops dr x v m n s e:=h
theorem amE(ht:oT x=48:=by exact rfl)(h:SO P Y ops dr x v m n s e:=by intro _ _ _ _ k;first|exact aq (sF (v:=.s (.int _ _)) rfl rfl) ak F9 k|exact aq (sF (v:=.s (.string _)) rfl rfl) ak F9 k|exact aq (sF (v:=.s (.bool _)) rfl rfl) ak F9 k|exact aq (sF (v:=.sl _ _) rfl rfl) ak F9 k|exact aq (sF (v:=.agg _) rfl rfl) ak F9 k|fail):SO P Y ops dr x v m n s e:=h
theorem amF(ht:oT x=76:=by exact rfl)(h:SO P Y ops dr x v m n s e:=by intro _ _ _ _ k;first|exact aq (Nh rfl rfl pX) ak rfl k|exact aq (NG rfl rfl) ak rfl k|exact aq (ahd rfl rfl) ak trivial k|fail):SO P Y ops dr x v m n s e:=h
theorem SS7(ht:oT x=7:=by exact rfl)(h:SO P Y ops dr x v m n s e:=by intro _ _ _ _ k;first|exact acJ rfl rfl rfl rfl (by first|exact fun _=>trivial|exact fun _=>rfl|exact fun hc=>hc) (by first|exact fun _=>trivial|exact fun _=>rfl|exact fun hc=>hc) k|exact acK rfl rfl rfl rfl (by first|exact fun _=>trivial|exact fun _=>rfl|exact fun hc=>hc) (by first|exact fun _=>trivial|exact fun _=>rfl|exact fun hc=>hc) k|exact aeE rfl rfl rfl rfl rfl (by first|exact fun _=>trivial|exact fun _=>rfl|exact fun hc=>hc) (fun hc h=>by first|exact trivial|exact rfl|exact hc|(show Eq _ _;rw[hc,h];rfl)|(show Eq _ _;rw[h,hc];rfl)|(show Eq _ _;simp[hc,h];done)|(show Eq _ _;simp_all;done)|fail) (fun hc h=>by first|exact trivial|exact rfl|exact hc|(show Eq _ _;rw[hc,h];rfl)|(show Eq _ _;rw[h,hc];rfl)|(show Eq _ _;simp[hc,h];done)|(show Eq _ _;simp_all;done)|fail) k|fail):SO P Y ops dr x v m n s e:=h
theorem amG(ht:oT x=16:=by exact rfl)(h:SO P Y ops dr x v m n s e:=by intro _ _ _ _ k;first|exact dA (aeI rfl rfl rfl rfl V.h) ak ⟨V.h,by kernel_rfl,by kernel_rfl⟩ k|fail):SO P Y ops dr x v m n s e:=h
theorem amH(ht:oT x=54:=by exact rfl)(h:SO P Y ops dr x v m n s e:=by intro _ _ _ _ k;first|exact aq (VU rfl rfl yI) ak rfl k|exact aq (NH rfl rfl oG) ak rfl k|fail):SO P Y ops dr x v m n s e:=h
theorem amI(ht:oT x=26:=by exact rfl)(h:SO P Y ops dr x v m n s e:=by intro _ _ _ _ k;first|exact aq (ahf rfl V.h) ak V.h k|fail):SO P Y ops dr x v m n s e:=h
theorem amJ(ht:oT x=81:=by exact rfl)(h:SO P Y ops dr x v m n s e:=by intro _ _ _ _ k;first|exact cq rfl rfl (ahu rfl rfl X5) (fun hc=>⟨ak,rfl⟩) k|exact cq rfl rfl (NC rfl rfl) (fun hc=>⟨ak,rfl⟩) k|fail):SO P Y ops dr x v m n s e:=h
theorem amK(ht:oT x=77:=by exact rfl)(h:SO P Y ops dr x v m n s e:=by intro _ _ _ _ k;first|exact cq rfl rfl (NG rfl rfl) (fun hc=>⟨ak,rfl⟩) k|fail):SO P Y ops dr x v m n s e:=h
theorem amL(ht:oT x=84:=by exact rfl)(h:SO P Y ops dr x v m n s e:=by intro _ _ _ _ k;first|exact aq (NE rfl rfl) ak rfl k|fail):SO P Y ops dr x v m n s e:=h
theorem amM(ht:oT x=82:=by exact rfl)(h:SO P Y ops dr x v m n s e:=by intro _ _ _ _ k;first|exact aq (ND rfl rfl) ak rfl k|fail):SO P Y ops dr x v m n s e:=h
theorem amN(ht:oT x=55:=by exact rfl)(h:SO P Y ops dr x v m n s e:=by intro _ _ _ _ k;first|exact cq rfl rfl (VU rfl rfl yI) (fun hc=>⟨ak,rfl⟩) k|exact cq rfl rfl (NH rfl rfl oG) (fun hc=>⟨ak,rfl⟩) k|fail):SO P Y ops dr x v m n s e:=h
theorem amO(ht:oT x=79:=by exact rfl)(h:SO P Y ops dr x v m n s e:=by intro _ _ _ _ k;first|exact cq rfl rfl (NB rfl rfl) (fun hc=>⟨ak,rfl⟩) k|fail):SO P Y ops dr x v m n s e:=h
theorem amP(ht:oT x=32:=by exact rfl)(h:SO P Y ops dr x v m n s e:=by intro _ _ _ _ k;first|exact cR (D0 rfl rfl V.h V.h) ak ⟨by omega,rfl,by omega,by rw[b4];omega,V.h⟩ k|fail):SO P Y ops dr x v m n s e:=h
theorem amQ(ht:oT x=22:=by exact rfl)(h:SO P Y ops dr x v m n s e:=by intro _ _ _ _ k;first|exact aq (It rfl aA) ak trivial k|fail):SO P Y ops dr x v m n s e:=h
theorem amR(ht:oT x=28:=by exact rfl)(h:SO P Y ops dr x v m n s e:=by intro _ _ _ _ k;first|exact aq (Vs rfl rfl) ak trivial k|fail):SO P Y ops dr x v m n s e:=h
theorem amS(ht:oT x=42:=by exact rfl)(h:SO P Y ops dr x v m n s e:=by intro _ _ _ _ k;first|exact aq (Vr rfl rfl) ak ⟨V.h,by omega,by omega⟩ k|fail):SO P Y ops dr x v m n s e:=h
theorem amT(ht:oT x=43:=by exact rfl)(h:SO P Y ops dr x v m n s e:=by intro _ _ _ _ k;first|exact cq rfl rfl (Vr rfl rfl) (fun hc=>⟨ak,⟨V.h,by omega,by omega⟩⟩) k|fail):SO P Y ops dr x v m n s e:=h
theorem amU(ht:oT x=80:=by exact rfl)(h:SO P Y ops dr x v m n s e:=by intro _ _ _ _ k;first|exact aq (NC rfl rfl) ak rfl k|fail):SO P Y ops dr x v m n s e:=h
theorem amV(ht:oT x=30:=by exact rfl)(h:SO P Y ops dr x v m n s e:=by intro _ _ _ _ k;first|exact cR aia ak trivial k|fail):SO P Y ops dr x v m n s e:=h
theorem amW(ht:oT x=15:=by exact rfl)(h:SO P Y ops dr x v m n s e:=by intro _ _ _ _ k;first|exact aht rfl rfl (mV (cs:=[_]) V.h V.h V.h rfl rfl) ak ⟨rfl,by decide,V.h,by decide⟩ k|fail):SO P Y ops dr x v m n s e:=h
theorem amX(ht:oT x=58:=by exact rfl)(h:SO P Y ops dr x v m n s e:=by intro _ _ _ _ k;first|exact aq (ahv rfl rfl O0) ak ⟨rfl,by omega⟩ k|fail):SO P Y ops dr x v m n s e:=h
theorem amY(ht:oT x=60:=by exact rfl)(h:SO P Y ops dr x v m n s e:=by intro _ _ _ _ k;first|exact aq (ahw rfl rfl O1) ak ⟨rfl,by omega⟩ k|fail):SO P Y ops dr x v m n s e:=h
theorem SS(K:ax P Y ops dr cf Q r s (q++[e]))(h:SO P Y ops dr x v m n s e:=by first|exact SS2|exact SS4|exact aml|exact amm|exact amn|exact SS6|exact amo|exact amp|exact SS3|exact amq|exact amr|exact ams|exact amt|exact amu|exact amv|exact amw|exact SS8|exact amx|exact amy|exact amz|exact amA|exact amB|exact amC|exact amD|exact amE|exact amF|exact SS7|exact amG|exact amH|exact amI|exact amJ|exact amK|exact amL|exact amM|exact amN|exact amO|exact amP|exact amQ|exact amR|exact amS|exact amT|exact amU|exact amV|exact amW|exact amX|exact amY):ax P Y ops dr cf Q (x::r) ⟨v,m,n⟩ q:=h _ _ _ _ K
variable{x2 x3 x4 x5 x6 x7 x8 x9:Oper}{e2 e3 e4 e5 e6 e7 e8 e9:List Nat×List Nat}
theorem af(K:ax P Y ops dr cf Q r s (q++[e]++[e2]))(h:∀ cf Q r q,ax P Y ops dr cf Q r s (q++[e]++[e2])->ax P Y ops dr cf Q (x::x2::r) ⟨v,m,n⟩ q:=by intro _ _ _ _ k;(iterate 2 refine SS ?_);exact k):ax P Y ops dr cf Q (x::x2::r) ⟨v,m,n⟩ q:=h _ _ _ _ K
theorem av(K:ax P Y ops dr cf Q r s (q++[e]++[e2]++[e3]))(h:∀ cf Q r q,ax P Y ops dr cf Q r s (q++[e]++[e2]++[e3])->ax P Y ops dr cf Q (x::x2::x3::r) ⟨v,m,n⟩ q:=by intro _ _ _ _ k;(iterate 3 refine SS ?_);exact k):ax P Y ops dr cf Q (x::x2::x3::r) ⟨v,m,n⟩ q:=h _ _ _ _ K
theorem aR(K:ax P Y ops dr cf Q r s (q++[e]++[e2]++[e3]++[e4]))(h:∀ cf Q r q,ax P Y ops dr cf Q r s (q++[e]++[e2]++[e3]++[e4])->ax P Y ops dr cf Q (x::x2::x3::x4::r) ⟨v,m,n⟩ q:=by intro _ _ _ _ k;(iterate 4 refine SS ?_);exact k):ax P Y ops dr cf Q (x::x2::x3::x4::r) ⟨v,m,n⟩ q:=h _ _ _ _ K
theorem bm(K:ax P Y ops dr cf Q r s (q++[e]++[e2]++[e3]++[e4]++[e5]))(h:∀ cf Q r q,ax P Y ops dr cf Q r s (q++[e]++[e2]++[e3]++[e4]++[e5])->ax P Y ops dr cf Q (x::x2::x3::x4::x5::r) ⟨v,m,n⟩ q:=by intro _ _ _ _ k;(iterate 5 refine SS ?_);exact k):ax P Y ops dr cf Q (x::x2::x3::x4::x5::r) ⟨v,m,n⟩ q:=h _ _ _ _ K
theorem cG(K:ax P Y ops dr cf Q r s (q++[e]++[e2]++[e3]++[e4]++[e5]++[e6]))(h:∀ cf Q r q,ax P Y ops dr cf Q r s (q++[e]++[e2]++[e3]++[e4]++[e5]++[e6])->ax P Y ops dr cf Q (x::x2::x3::x4::x5::x6::r) ⟨v,m,n⟩ q:=by intro _ _ _ _ k;(iterate 6 refine SS ?_);exact k):ax P Y ops dr cf Q (x::x2::x3::x4::x5::x6::r) ⟨v,m,n⟩ q:=h _ _ _ _ K
theorem fB(K:ax P Y ops dr cf Q r s (q++[e]++[e2]++[e3]++[e4]++[e5]++[e6]++[e7]))(h:∀ cf Q r q,ax P Y ops dr cf Q r s (q++[e]++[e2]++[e3]++[e4]++[e5]++[e6]++[e7])->ax P Y ops dr cf Q (x::x2::x3::x4::x5::x6::x7::r) ⟨v,m,n⟩ q:=by intro _ _ _ _ k;(iterate 7 refine SS ?_);exact k):ax P Y ops dr cf Q (x::x2::x3::x4::x5::x6::x7::r) ⟨v,m,n⟩ q:=h _ _ _ _ K
theorem cP(K:ax P Y ops dr cf Q r s (q++[e]++[e2]++[e3]++[e4]++[e5]++[e6]++[e7]++[e8]))(h:∀ cf Q r q,ax P Y ops dr cf Q r s (q++[e]++[e2]++[e3]++[e4]++[e5]++[e6]++[e7]++[e8])->ax P Y ops dr cf Q (x::x2::x3::x4::x5::x6::x7::x8::r) ⟨v,m,n⟩ q:=by intro _ _ _ _ k;(iterate 8 refine SS ?_);exact k):ax P Y ops dr cf Q (x::x2::x3::x4::x5::x6::x7::x8::r) ⟨v,m,n⟩ q:=h _ _ _ _ K
theorem bj(K:ax P Y ops dr cf Q r s (q++[e]++[e2]++[e3]++[e4]++[e5]++[e6]++[e7]++[e8]++[e9]))(h:∀ cf Q r q,ax P Y ops dr cf Q r s (q++[e]++[e2]++[e3]++[e4]++[e5]++[e6]++[e7]++[e8]++[e9])->ax P Y ops dr cf Q (x::x2::x3::x4::x5::x6::x7::x8::x9::r) ⟨v,m,n⟩ q:=by intro _ _ _ _ k;(iterate 9 refine SS ?_);exact k):ax P Y ops dr cf Q (x::x2::x3::x4::x5::x6::x7::x8::x9::r) ⟨v,m,n⟩ q:=h _ _ _ _ K
end
end Go.Abs
section
open Go Go.Abs Go.Proofs Go.Argus
namespace Go.Proofs.Tryz.K
theorem O2{l:List Int}{g:FuncId}{fs cs:List D}{p:Int->Bool}(ht:Tr (.fn (.func g) fs cs))(hg:∀ x∈l,az prog g (fs++[U8 x]++cs) (B (p x))):az prog 226 [iI l,.fn (.func g) fs cs] (I (u7 p l)):=by
 refine pr WZ.he (.cons (nM _) (.cons ht .nil)) fun C=>?_;have hlen:=(C (iI l) oS).sl.1;unfold maxLen at hlen;refine bu WZ (.cons (nM _) (.cons ht .nil)) (Tr.s _) ?_;rw[aiy];refine ws ?_;refine SS ?_;refine ab (aI (ay ?_));refine av ?_
 refine ab (cD (fun s=>aM prog s ⟨aF [],fun _=>none,0⟩/\∀ (j:Nat) y,l[j]? =some y->p y=false) (gM (α:=Nat) (fun k=>⟨aF [(0,iI l),(1,.fn (.func g) fs cs),(7,I l.length),(8,I k)],fun _=>none,0⟩)
  (fun k=>k<=l.length/\∀ j y,j<k->l[j]? =some y->p y=false) (fun k=>l.length - k) 0 (ao eH) ⟨oG,fun j y hj=>by omega⟩ ?_) ?_)
 .rintro k ⟨hk,hinv⟩;refine SS ?_;refine ab ⟨_,rfl,fun h=>?_,fun h=>?_⟩
  .have al:k<l.length:=by simpa using h
   have hx:l[k]? =some l[k]:=by simp[al]
   generalize l[k]=x at hx;have J:=hg x (cx hx);refine ws ?_;refine af ?_;refine er ?_;refine bm ?_;refine cl J ?_;refine ab (ap rfl (fun hp=>?_) fun hp=>?_)
   .refine ws ?_;refine af ?_;refine ab (bp (cZ (a6 (aw rfl ?_))));rw[G6 hx hp hinv];rfl
   .refine dE ?_;refine af ?_;refine ab (bg (k+1) (ao eH) ⟨oG,fun j y hj hy=>?_⟩ oG);by_cases e:j=k
    .subst e;rw[hx] at hy;cases hy;exact hp
    .exact hinv j y oG hy
  .have O:¬ k<l.length:=by simpa using h
   exact⟨.forget _ _ _ _ fun _=>.inr rfl,fun j y hy=>hinv j y (by have:=(bX.1 hy).1;omega) hy⟩
 .rintro s ⟨hg,M⟩;refine⟨_,hg,aj ?_⟩;refine SS ?_;refine ab (aw rfl ?_);rw[G7 M];rfl
theorem wK{l:List Int}{g:FuncId}{fs cs:List D}{p:Int->Bool}(ht:Tr (.fn (.func g) fs cs))(hg:∀ x∈l,az prog g (fs++[U8 x]++cs) (B (p x))):az prog 163 [iI l,.fn (.func g) fs cs] (B (l.any p)):=by
 have O2:=O2 ht hg;refine bu aiz (.cons (nM _) (.cons ht .nil)) (Tr.s _) ?_;rw[aiA];refine ws ?_;refine SS ?_;refine er ?_;refine af ?_;refine cl O2 ?_;refine af ?_;refine ab (aw rfl ?_);rw[<- Hm];rfl
theorem O3{l:List ByteArray}{g:FuncId}{fs cs:List D}{p:ByteArray->Bool}(ht:Tr (.fn (.func g) fs cs))(hg:∀ x∈l,az prog g (fs++[S x]++cs) (B (p x))):az prog 166 [ez l,.fn (.func g) fs cs] (I (u7 p l)):=by
 refine pr W0.he (.cons (oI _) (.cons ht .nil)) fun C=>?_;have hlen:=(C (ez l) oS).sl.1;unfold maxLen at hlen;refine bu W0 (.cons (oI _) (.cons ht .nil)) (Tr.s _) ?_;rw[aiB];refine ws ?_;refine SS ?_;refine ab (aI (ay ?_));refine av ?_
 refine ab (cD (fun s=>aM prog s ⟨aF [],fun _=>none,0⟩/\∀ (j:Nat) y,l[j]? =some y->p y=false) (gM (α:=Nat) (fun k=>⟨aF [(0,ez l),(1,.fn (.func g) fs cs),(7,I l.length),(8,I k)],fun _=>none,0⟩)
  (fun k=>k<=l.length/\∀ j y,j<k->l[j]? =some y->p y=false) (fun k=>l.length - k) 0 (ao eH) ⟨oG,fun j y hj=>by omega⟩ ?_) ?_)
 .rintro k ⟨hk,hinv⟩;refine SS ?_;refine ab ⟨_,rfl,fun h=>?_,fun h=>?_⟩
  .have al:k<l.length:=by simpa using h
   have hx:l[k]? =some l[k]:=by simp[al]
   generalize l[k]=x at hx;have J:=hg x (cx hx);refine ws ?_;refine af ?_;refine er ?_;refine bm ?_;refine cl J ?_;refine ab (ap rfl (fun hp=>?_) fun hp=>?_)
   .refine ws ?_;refine af ?_;refine ab (bp (cZ (a6 (aw rfl ?_))));rw[G6 hx hp hinv];rfl
   .refine dE ?_;refine af ?_;refine ab (bg (k+1) (ao eH) ⟨oG,fun j y hj hy=>?_⟩ oG);by_cases e:j=k
    .subst e;rw[hx] at hy;cases hy;exact hp
    .exact hinv j y oG hy
  .have O:¬ k<l.length:=by simpa using h
   exact⟨.forget _ _ _ _ fun _=>.inr rfl,fun j y hy=>hinv j y (by have:=(bX.1 hy).1;omega) hy⟩
 .rintro s ⟨hg,M⟩;refine⟨_,hg,aj ?_⟩;refine SS ?_;refine ab (aw rfl ?_);rw[G7 M];rfl
theorem Js{l:List ByteArray}{g:FuncId}{fs cs:List D}{p:ByteArray->Bool}(ht:Tr (.fn (.func g) fs cs))(hg:∀ x∈l,az prog g (fs++[S x]++cs) (B (p x))):az prog 126 [ez l,.fn (.func g) fs cs] (B (l.any p)):=by
 have O3:=O3 ht hg;refine bu aiC (.cons (oI _) (.cons ht .nil)) (Tr.s _) ?_;rw[aiD];refine ws ?_;refine SS ?_;refine er ?_;refine af ?_;refine cl O3 ?_;refine af ?_;refine ab (aw rfl ?_);rw[<- Hm];rfl
theorem O4{l:List jM}{g:FuncId}{fs cs:List D}{p:jM->Bool}(ht:Tr (.fn (.func g) fs cs))(hg:∀ x∈l,az prog g (fs++[.agg (jo x)]++cs) (B (p x))):az prog 223 [mo l,.fn (.func g) fs cs] (I (u7 p l)):=by
 refine pr W2.he (.cons (ky _) (.cons ht .nil)) fun C=>?_;have hlen:=(C (mo l) oS).sl.1;unfold maxLen at hlen;refine bu W2 (.cons (ky _) (.cons ht .nil)) (Tr.s _) ?_;rw[aiE];refine ws ?_;refine SS ?_;refine ab (aI (ay ?_));refine av ?_
 refine ab (cD (fun s=>aM prog s ⟨aF [],fun _=>none,0⟩/\∀ (j:Nat) y,l[j]? =some y->p y=false) (gM (α:=Nat) (fun k=>⟨aF [(0,mo l),(1,.fn (.func g) fs cs),(7,I l.length),(8,I k)],fun _=>none,0⟩)
  (fun k=>k<=l.length/\∀ j y,j<k->l[j]? =some y->p y=false) (fun k=>l.length - k) 0 (ao eH) ⟨oG,fun j y hj=>by omega⟩ ?_) ?_)
 .rintro k ⟨hk,hinv⟩;refine SS ?_;refine ab ⟨_,rfl,fun h=>?_,fun h=>?_⟩
  .have al:k<l.length:=by simpa using h
   have hx:l[k]? =some l[k]:=by simp[al]
   generalize l[k]=x at hx;have J:=hg x (cx hx);refine ws ?_;refine af ?_;refine er ?_;refine bm ?_;refine cl J ?_;refine ab (ap rfl (fun hp=>?_) fun hp=>?_)
   .refine ws ?_;refine af ?_;refine ab (bp (cZ (a6 (aw rfl ?_))));rw[G6 hx hp hinv];rfl
   .refine dE ?_;refine af ?_;refine ab (bg (k+1) (ao eH) ⟨oG,fun j y hj hy=>?_⟩ oG);by_cases e:j=k
    .subst e;rw[hx] at hy;cases hy;exact hp
    .exact hinv j y oG hy
  .have O:¬ k<l.length:=by simpa using h
   exact⟨.forget _ _ _ _ fun _=>.inr rfl,fun j y hy=>hinv j y (by have:=(bX.1 hy).1;omega) hy⟩
 .rintro s ⟨hg,M⟩;refine⟨_,hg,aj ?_⟩;refine SS ?_;refine ab (aw rfl ?_);rw[G7 M];rfl
theorem Ff{l:List jM}{g:FuncId}{fs cs:List D}{p:jM->Bool}(ht:Tr (.fn (.func g) fs cs))(hg:∀ x∈l,az prog g (fs++[.agg (jo x)]++cs) (B (p x))):az prog 228 [mo l,.fn (.func g) fs cs] (B (l.any p)):=by
 have O4:=O4 ht hg;refine bu aiF (.cons (ky _) (.cons ht .nil)) (Tr.s _) ?_;rw[aiG];refine ws ?_;refine SS ?_;refine er ?_;refine af ?_;refine cl O4 ?_;refine af ?_;refine ab (aw rfl ?_);rw[<- Hm];rfl
theorem Qc{l:List Int}{g:FuncId}{fs cs:List D}{p:Int->Bool}(ht:Tr (.fn (.func g) fs cs))(hg:∀ x∈l,az prog g (fs++[I x]++cs) (B (p x))):az prog 89 [aT l,.fn (.func g) fs cs] (I (u7 p l)):=by
 refine pr X7.he (.cons (dU _) (.cons ht .nil)) fun C=>?_;have hlen:=(C (aT l) oS).sl.1;unfold maxLen at hlen;refine bu X7 (.cons (dU _) (.cons ht .nil)) (Tr.s _) ?_;rw[amZ];refine ws ?_;refine SS ?_;refine ab (aI (ay ?_));refine av ?_
 refine ab (cD (fun s=>aM prog s ⟨aF [],fun _=>none,0⟩/\∀ (j:Nat) y,l[j]? =some y->p y=false) (gM (α:=Nat) (fun k=>⟨aF [(0,aT l),(1,.fn (.func g) fs cs),(7,I l.length),(8,I k)],fun _=>none,0⟩)
  (fun k=>k<=l.length/\∀ j y,j<k->l[j]? =some y->p y=false) (fun k=>l.length - k) 0 (ao eH) ⟨oG,fun j y hj=>by omega⟩ ?_) ?_)
 .rintro k ⟨hk,hinv⟩;refine SS ?_;refine ab ⟨_,rfl,fun h=>?_,fun h=>?_⟩
  .have al:k<l.length:=by simpa using h
   have hx:l[k]? =some l[k]:=by simp[al]
   generalize l[k]=x at hx;have J:=hg x (cx hx);refine ws ?_;refine af ?_;refine er ?_;refine bm ?_;refine cl J ?_;refine ab (ap rfl (fun hp=>?_) fun hp=>?_)
   .refine ws ?_;refine af ?_;refine ab (bp (cZ (a6 (aw rfl ?_))));rw[G6 hx hp hinv];rfl
   .refine dE ?_;refine af ?_;refine ab (bg (k+1) (ao eH) ⟨oG,fun j y hj hy=>?_⟩ oG);by_cases e:j=k
    .subst e;rw[hx] at hy;cases hy;exact hp
    .exact hinv j y oG hy
  .have O:¬ k<l.length:=by simpa using h
   exact⟨.forget _ _ _ _ fun _=>.inr rfl,fun j y hy=>hinv j y (by have:=(bX.1 hy).1;omega) hy⟩
 .rintro s ⟨hg,M⟩;refine⟨_,hg,aj ?_⟩;refine SS ?_;refine ab (aw rfl ?_);rw[G7 M];rfl
theorem Di{l:List Int}{g:FuncId}{fs cs:List D}{p:Int->Bool}(ht:Tr (.fn (.func g) fs cs))(hg:∀ x∈l,az prog g (fs++[I x]++cs) (B (p x))):az prog 76 [aT l,.fn (.func g) fs cs] (B (l.any p)):=by
 have Qc:=Qc ht hg;refine bu am0 (.cons (dU _) (.cons ht .nil)) (Tr.s _) ?_;rw[am1];refine ws ?_;refine SS ?_;refine er ?_;refine af ?_;refine cl Qc ?_;refine af ?_;refine ab (aw rfl ?_);rw[<- Hm];rfl
theorem nI{n a b:Int}:az prog 73 [I n,I a,I b] (B (dx n a b)):=by
 refine bu anW (by simp[Tr.s]) (Tr.s _) ?_;rw[anX];refine ws ?_;refine SS ?_;refine er ?_;refine bj ?_;refine ab (aw (d:=.s (.bool _)) rfl ?_);simp[dx]
theorem anY{b:Int}:az prog 164 [U8 b] (B (ue b)):=by
 refine bu aj1 (by simp[Tr.s]) (Tr.s _) ?_;rw[aj2];refine ws ?_;refine SS ?_;refine er ?_;refine fB ?_;refine ab (aw (d:=.s (.bool _)) rfl ?_);simp[ue]
theorem anZ{b:Int}:az prog 167 [U8 b] (B (uf b)):=by
 refine bu aj3 (by simp[Tr.s]) (Tr.s _) ?_;rw[aj4];refine ws ?_;refine SS ?_;refine er ?_;refine bj ?_;refine cG ?_;refine ab (aw (d:=.s (.bool _)) rfl ?_);simp[uf]
theorem tm{s:ByteArray}:az prog 124 [S s] (B (jr s)):=by
 refine bu aj5 (by simp[Tr.s]) (Tr.s _) ?_;have wK:=wK (l:=dd s) (g:=164) (fs:=[]) (cs:=[]) (p:=ue) (.fn oS oS) (fun x _=>anY);rw[aj6];refine ws ?_;refine SS ?_;refine er ?_;refine af ?_;refine cl nI ?_;refine af ?_;refine cq rfl rfl (Ti rfl V.h V.h) (fun hc=>⟨ak,⟨V.h,by have:=iW.1 (by simpa using hc);unfold maxLen;omega⟩⟩) ?_;refine gc wK ?_;refine av ?_;refine ab (aw (d:=.s (.bool _)) rfl ?_);simp[jr]
theorem Fp{s:ByteArray}:az prog 128 [S s] (B (isName s)):=by
 refine bu aj7 (by simp[Tr.s]) (Tr.s _) ?_;have wK:=wK (l:=dd s) (g:=167) (fs:=[]) (cs:=[]) (p:=uf) (.fn oS oS) (fun x _=>anZ);rw[aj8];refine ws ?_;refine SS ?_;refine er ?_;refine af ?_;refine cl nI ?_;refine af ?_;refine cq rfl rfl (Ti rfl V.h V.h) (fun hc=>⟨ak,⟨V.h,by have:=iW.1 (by simpa using hc);unfold maxLen;omega⟩⟩) ?_;refine gc wK ?_;refine av ?_;refine ab (aw (d:=.s (.bool _)) rfl ?_);simp[isName]
theorem an0{s:ByteArray}:az prog 127 [S s] (B !(isName s)):=by
 refine bu aj9 (by simp[Tr.s]) (Tr.s _) ?_;rw[aj'];refine ws ?_;refine SS ?_;refine er ?_;refine SS ?_;refine cl Fp ?_;refine af ?_;refine ab (aw rfl rfl)
theorem an1{b m:Int}:az prog 165 [U8 b,.pt [U8 m]] (B (mY m b)):=by
 refine bu aka (.cons (.s _) (.cons (.pt (by simp[Tr.s])) .nil)) (Tr.s _) ?_;rw[akb];refine ws ?_;refine SS ?_;refine er ?_;refine cP ?_;refine ab (aw (d:=.s (.bool _)) rfl ?_);simp[mY]
theorem Pm{l:List Int}{m:Int}:az prog 125 [iI l,U8 m] (B (fj l m)):=by
 refine bu akc (.cons (nM _) (.cons (.s _) .nil)) (Tr.s _) ?_;have wK:=wK (l:=l) (g:=165) (fs:=[]) (cs:=[.pt [U8 m]]) (p:=mY m) (.fn oS (.cons (.pt (by simp[Tr.s])) .nil)) (fun x _=>an1);rw[akd];refine ay ?_;refine cR (MR (d:=.s (.int _ _)) rfl rfl) ak rfl ?_;refine SS ?_;refine ab (aX (bZ [(0,[U8 m],5)] eH (l:=[(0,iI l),(3,.pt [U8 m])]) eH) (aj ?_));refine af ?_;refine cl wK ?_;refine af ?_;refine ab (aw rfl rfl)
theorem LH{p q:D}{f:aK}(h:Real (.agg (bC p q f))):f.ag.length<=maxLen/\f.aN.length<=maxLen/\f.signals.length<=maxLen/\f.blocks.length<=maxLen:=
 ⟨(h.agg (iI f.ag) (by simp[bC])).sl.1,(h.agg (iI f.aN) (by simp[bC])).sl.1,(h.agg (ez f.signals) (by simp[bC])).sl.1,(h.agg (dQ f.blocks) (by simp[bC])).sl.1⟩
section
variable{p q:D}{f:aK}(hp:Tr p)(hq:Tr q)(gS:p.one=true)(cb:q.one=true)
include hp hq gS cb
theorem lh{n:Int}:az prog 168 [.agg (bC p q f),I n] (B (dx n 0 (f.blocks.length - 1))):=by
 have C:∀ a∈[D.agg (bC p q f),I n],Tr a:=.cons (nQ hp hq f) (.cons (.s _) .nil);refine pr Xd.he C fun J=>?_;obtain⟨M,O,U,X⟩:=LH (J _ (List.mem_cons_self ..));unfold maxLen at*
 refine bu Xd C (Tr.s _) ?_;rw[akf];refine ws ?_;refine af ?_;refine er ?_;refine cG ?_;refine cl nI ?_;refine SS ?_;refine ab (aw rfl rfl)
theorem gg{r:Int}:az prog 169 [.agg (bC p q f),I r] (U8 (cB f.ag r)):=by
 have C:∀ a∈[D.agg (bC p q f),I r],Tr a:=.cons (nQ hp hq f) (.cons (.s _) .nil);refine pr Xe.he C fun J=>?_;obtain⟨M,O,U,X⟩:=LH (J _ (List.mem_cons_self ..));unfold maxLen at*
 refine bu Xe C (Tr.s _) ?_;rw[akg];refine ws ?_;refine af ?_;refine ab (aI (aj ?_));refine cG ?_;refine cl nI ?_;refine SS ?_;refine ab (dZ rfl (fun h=>?_) fun h=>?_)
 .refine aI (aj ?_);refine SS ?_;refine ab (eb (aw rfl ?_));rw[LF (fun hh=>by simp[dx] at h;omega)];rfl
 .have hh:0<=r/\r<f.ag.length:=by simp[dx] at h;omega
  obtain⟨i,rfl⟩:=iG hh.1;have al:i<f.ag.length:=by omega
  have hx:f.ag[i]? =some f.ag[i]:=by simp[al]
  generalize f.ag[i]=x at hx;refine cX (aj ?_);refine fB ?_;refine ab (aw rfl ?_);rw[ug hx];rfl
theorem an'{r:Int}:az prog 230 [I r,.pt (bC p q f)] (B !(eU f.ag r)):=by
 have C:∀ a∈[I r,D.pt (bC p q f)],Tr a:=.cons (.s _) (.cons (.pt (D6 hp hq f)) .nil);have gg:=gg (f:=f) (r:=r) hp hq gS cb;refine bu akh C (Tr.s _) ?_;rw[aki];refine ws ?_;refine SS ?_;refine er ?_;refine af ?_;refine cl gg ?_;refine aR ?_;refine gc gg ?_;refine av ?_;refine ab (aw (d:=.s (.bool _)) rfl ?_);unfold eU;generalize cB f.ag r=k;show D.s (.bool _)=D.s (.bool _);simp only[bne];cases (k==1)<;>cases (k==2)<;>rfl
theorem jw{l:List Int}:az prog 172 [.agg (bC p q f),aT l] (B (ie f.ag l)):=by
 have C:∀ a∈[D.agg (bC p q f),aT l],Tr a:=.cons (nQ hp hq f) (.cons (dU _) .nil);have Di:=Di (l:=l) (g:=230) (fs:=[]) (cs:=[.pt (bC p q f)]) (p:=fun r=> !(eU f.ag r)) (.fn oS (.cons (.pt (D6 hp hq f)) .nil)) (fun x _=>an' hp hq gS cb);refine bu akj C (Tr.s _) ?_;rw[akk];refine ay ?_;refine af ?_;refine ab (aX (bZ [(0,bC p q f,113)] eH (l:=[(1,aT l),(2,.pt (bC p q f))]) eH) (aj ?_));refine af ?_;refine cl Di ?_;refine af ?_;refine ab (aw (d:=.s (.bool _)) rfl ?_);simp[ie,List.all_eq_not_any_not]
theorem JC{r n:Int}:az prog 176 [.agg (bC p q f),I r,I n] (B (nr f.ag f.aN r n)):=by
 have J:∀ a∈[D.agg (bC p q f),I r,I n],Tr a:=.cons (nQ hp hq f) (.cons (.s _) (.cons (.s _) .nil));refine pr Xf.he J fun M=>?_;obtain⟨O,U,X,l4⟩:=LH (M _ (List.mem_cons_self ..));unfold maxLen at*
 have gg:=gg (f:=f) (r:=r) hp hq gS cb;refine bu Xf J (Tr.s _) ?_;rw[akl];have nI:=nI (n:=n) (a:=0) (b:=f.aN.length - 1);by_cases hh:0<=n/\n<f.aN.length
 .obtain⟨i,rfl⟩:=iG hh.1;have al:i<f.aN.length:=by omega
  have hx:f.aN[i]? =some f.aN[i]:=by simp[al]
  generalize f.aN[i]=x at hx;have C:dx (i:Int) 0 (f.aN.length - 1)=true:=iW.2 oG;rw[C] at nI;refine ws ?_;refine af ?_;refine ab (ej SQ ?_);refine cG ?_;refine cl nI ?_;refine SS ?_;refine cq rfl rfl (fD (vs:=bC _ _ _) rfl rfl V.h V.h rfl) (fun hc=>⟨ak,(fE V.h V.h (by first|(simp;done)|omega|exact bt rfl))⟩) ?_;refine SS ?_;refine gc gg ?_;refine bj ?_;refine bN bO ?_;refine aw (d:=.s (.bool _)) rfl ?_;simp[nr,C,ug hx]
 .have C:dx n 0 (f.aN.length - 1)=false:=adg.2 oG;rw[C] at nI;refine ws ?_;refine af ?_;refine ab (ej SQ ?_);refine cG ?_;refine cl nI ?_;refine SS ?_;(iterate 10 refine z fun _ _=>?_);refine af ?_;refine bN bO ?_;refine aw (d:=.s (.bool _)) rfl ?_;simp[nr,C]
end
section
variable{p q:D}{f:aK}(hp:Tr p)(hq:Tr q)(gS:p.one=true)(cb:q.one=true)
include hp hq gS cb
theorem Ft{r want kd:Int}:az prog 227 [.agg (bC p q f),I r,I want,U8 kd] (B (lQ f.ag r want kd)):=by
 have J:∀ a∈[D.agg (bC p q f),I r,I want,U8 kd],Tr a:=.cons (nQ hp hq f) (.cons (.s _) (.cons (.s _) (.cons (.s _) .nil)));have gg:=gg (f:=f) (r:=r) hp hq gS cb;refine bu akm J (Tr.s _) ?_;rw[akn];refine ws ?_;refine af ?_;refine er ?_;refine aq (fD (vs:=bC _ _ _) rfl rfl V.h V.h rfl) ak (fE V.h V.h (by first|(simp;done)|omega|exact bt rfl)) ?_;refine SS ?_;refine cl gg ?_;refine SS ?_;refine ab (aI (aj ?_));refine SS ?_;refine ab (ou (aj ?_));refine af ?_;refine ab (ap rfl (fun h0=>?_) fun h0=>?_)
 .have h0:want=0:=by simpa using h0
  refine ws ?_;refine av ?_;refine ab (bp (bU (a6 (aw (d:=.s (.bool _)) rfl ?_))));simp[lQ,h0]
 have h0:¬ want=0:=by simpa using h0
 refine ws ?_;refine af ?_;refine ab (ap rfl (fun h1=>?_) fun h1=>?_)
 .have h1:want=1:=by simpa using h1
  refine ws ?_;refine av ?_;refine ab (bp (bU (a6 (aw (d:=.s (.bool _)) rfl ?_))));simp[lQ,h1]
 have h1:¬ want=1:=by simpa using h1
 refine ws ?_;refine af ?_;refine ab (ap rfl (fun h2=>?_) fun h2=>?_)
 .have h2:want=2:=by simpa using h2
  refine ws ?_;refine av ?_;refine ab (bp (bU (a6 (aw (d:=.s (.bool _)) rfl ?_))));simp[lQ,h2]
 have h2:¬ want=2:=by simpa using h2
 refine ws ?_;refine af ?_;refine ab (ap rfl (fun C=>?_) fun C=>?_)
 .have C:want=3:=by simpa using C
  refine ws ?_;refine fB ?_;refine ab (bp (bU (a6 (aw (d:=.s (.bool _)) rfl ?_))));simp[lQ,C,eU,ib]
 have C:¬ want=3:=by simpa using C
 refine nS (aj ?_);refine cP ?_;refine ab (aw (d:=.s (.bool _)) rfl ?_);simp[lQ,h0,h1,h2,C,ib,bne]
theorem CG{x:bK}{s:Shape}:az prog 170 [.agg (bC p q f),.agg (bA x),.agg (kZ s)] (B (oK f.ag x s)):=by
 have M:∀ a∈[D.agg (bC p q f),.agg (bA x),.agg (kZ s)],Tr a:=.cons (nQ hp hq f) (.cons (.agg (rQ x)) (.cons (.agg (SR s)) .nil));have gg:=fun r=>gg (f:=f) (r:=r) hp hq gS cb;have Ft:= @Ft p q f hp hq gS cb;have jw:=jw (f:=f) hp hq gS cb (l:=x.args);have J:=nI (n:=x.n) (a:=s.low) (b:=s.high);refine bu ako M (Tr.s _) ?_;rw[akp];refine ay ?_;refine af ?_;refine cR (uy (cs:=kZ _) rfl) ak (by first|rfl|exact vJ gS cb|exact pW _|exact wx dc) ?_;refine SS ?_;refine ab (aX (bZ [(0,bC p q f,113),(1,bA x,54),(2,kZ s,237)] eH (l:=[(3,.pt (bC p q f)),(4,.pt (bA x)),(5,.pt (kZ s))]) eH) (aj ?_));have C:=gg;have gg:=gg x.to;refine av ?_;refine cl gg ?_;refine SS ?_;refine ab ?_;refine eT (fun s'=>aM prog s' ⟨aF [(3,.pt (bC p q f)),(4,.pt (bA x)),(5,.pt (kZ s)),(7,U8 (rM f.ag x s))],fun _=>none,3⟩) (aj ?_) fun s' hg=>⟨_,hg,?_⟩
 .refine cP ?_;refine ab (ap rfl (fun h=>lP ?_) fun h=>bw ?_)
  .have h:s.to=0\/s.to=1:=by simpa[ib] using h
   have gg:=C x.a;refine av ?_;refine cl gg ?_;refine SS ?_;refine ab ?_;show aM _ _ _;refine ao (l:=[(3,_),(4,_),(5,_),(7,_)]) ⟨rfl,rfl,rfl,?_,trivial⟩;simp only[rM,if_pos h];rfl
  .have h:¬ (s.to=0\/s.to=1):=by simpa[ib] using h
   show aM _ _ _;refine ao (l:=[(3,_),(4,_),(5,_),(7,_)]) ⟨rfl,rfl,rfl,?_,trivial⟩;simp only[rM,if_neg h];rfl
 refine ws ?_;refine bm ?_;refine ab ?_;refine eT (fun s'=>aM prog s' ⟨aF [(3,.pt (bC p q f)),(4,.pt (bA x)),(5,.pt (kZ s)),(7,U8 (rM f.ag x s)),(8,B (ql f.ag x s))],fun _=>none,3⟩) (aj ?_) fun s' hg=>⟨_,hg,?_⟩
 .refine af ?_;refine ab (sN (aj ?_));refine af ?_;refine ab (ap rfl (fun h=>py ?_) fun h=>aj ?_)
  .have h:s.args=5:=by simpa using h
   have nI:=nI (n:=x.args.length) (a:=1) (b:=6);refine av ?_;refine cl nI ?_;refine aR ?_;refine gc jw ?_;refine af ?_;refine ab ?_;refine ao ⟨rfl,rfl,rfl,rfl,?_,trivial⟩;show D.s (.bool _)=_;simp[ql,h]
  .have O:¬ s.args=5:=by simpa using h
   refine af ?_;refine ab (ap rfl (fun h=>py ?_) fun h=>LP ?_)
   .have h:s.args=6:=by simpa using h
    refine cP ?_;refine gc jw ?_;refine af ?_;refine ab ?_;refine ao ⟨rfl,rfl,rfl,rfl,?_,trivial⟩;show D.s (.bool _)=_;simp[ql,h,ib]
   .have U:¬ s.args=6:=by simpa using h
    refine ao ⟨rfl,rfl,rfl,rfl,?_,trivial⟩;show D.s (.bool _)=_;simp[ql,O,U,ib]
 refine ws ?_;refine bm ?_;refine cl Ft ?_;refine fB ?_;refine gc Ft ?_;refine cP ?_;refine gc Ft ?_;refine bj ?_;refine af ?_;refine gc nI ?_;refine af ?_;refine ab (aw (d:=.s (.bool _)) rfl ?_);simp[oK,Bool.and_assoc]
end
theorem Pp{x:bK}:az prog 231 [.agg (bA x)] (B (xY x)):=by
 have C:∀ a∈[D.agg (bA x)],Tr a:=.cons (.agg (rQ x)) .nil;refine bu akr C (Tr.s _) ?_;rw[aks];refine ws ?_;refine af ?_;refine er ?_;refine bj ?_;refine bj ?_;refine bj ?_;refine av ?_;refine ab (aw (d:=.s (.bool _)) rfl ?_);simp only[xY,ib];cases decide (x.op=0)<;>cases decide (x.to=0)<;>cases decide (x.a=0)<;>cases decide (x.b=0)<;>cases decide (x.n=0)<;>rfl
theorem Pq{x:Argus.End}:az prog 173 [.agg (a8 x)] (B (s7 x)):=by
 have C:∀ a∈[D.agg (a8 x)],Tr a:=.cons (.agg (mr x)) .nil;have Pp:=Pp (x:=x.ins);refine bu akt C (Tr.s _) ?_;rw[aku];refine ws ?_;refine af ?_;refine er ?_;refine bj ?_;refine bj ?_;refine bj ?_;refine bj ?_;refine bj ?_;refine af ?_;refine cq rfl rfl (fD (vs:=bA _) rfl rfl V.h V.h rfl) (fun hc=>⟨ak,(fE V.h V.h (by first|(simp;done)|omega|exact bt rfl))⟩) ?_;refine gc Pp ?_;refine af ?_;refine ab (aw (d:=.s (.bool _)) rfl ?_);have:decide (x.name.toList=[])=x.name.toList.isEmpty:=by cases x.name.toList<;>rfl
 simp[s7,ib,Bool.and_assoc,this]
theorem aoa{w v:jM}:az prog 229 [.agg (jo v),.pt (jo w)] (B (v.name.toList==w.name.toList)):=by
 have C:∀ a∈[D.agg (jo v),.pt (jo w)],Tr a:=.cons (.agg (Hp v)) (.cons (.pt (Hp w)) .nil);refine bu akv C (Tr.s _) ?_;rw[akw];refine ws ?_;refine cR (uy (cs:=jo _) rfl) ak (by first|rfl|exact vJ gS cb|exact pW _|exact wx dc) ?_;refine SS ?_;refine er ?_;refine aR ?_;refine Yq ?_;refine SS ?_;exact ab (aw rfl rfl)
section
variable{p q:D}{f:aK}(hp:Tr p)(hq:Tr q)(gS:p.one=true)(cb:q.one=true)
include hp hq gS cb
theorem ve{x:Argus.End}:az prog 171 [.agg (bC p q f),.agg (a8 x)] (B (kz f x)):=by
 have J:∀ a∈[D.agg (bC p q f),.agg (a8 x)],Tr a:=.cons (nQ hp hq f) (.cons (.agg (mr x)) .nil);refine pr Xg.he J fun U=>?_;have hlen:x.aC.length<=maxLen:=((U _ (List.mem_cons_of_mem _ (List.mem_cons_self ..))).agg (mo x.aC) (by simp[a8])).sl.1;unfold maxLen at hlen;have lh:= @lh p q f hp hq gS cb;refine bu Xg J (Tr.s _) ?_;rw[akx];refine ay ?_;refine av ?_;refine ab (aX (bZ [(0,bC p q f,113),(1,a8 x,57)] eH (l:=[(2,.pt (bC p q f)),(3,.pt (a8 x))]) eH) (aI (ay ?_)));refine aR ?_
 refine ab (cD (fun s=>∃ n,aM prog s ⟨aF [(2,.pt (bC p q f)),(3,.pt (a8 x))],fun _=>none,n⟩/\∀ (j:Nat) y,x.aC[j]? =some y->nX f x.aC j y=true) (gM (α:=Nat) (fun k=>⟨aF [(2,.pt (bC p q f)),(3,.pt (a8 x)),(8,mo x.aC),(9,I x.aC.length),(10,I k)],fun _=>none,2+k⟩)
  (fun k=>k<=x.aC.length/\∀ j y,j<k->x.aC[j]? =some y->nX f x.aC j y=true) (fun k=>x.aC.length - k) 0 (ao eH) ⟨oG,fun j y hj=>by omega⟩ ?_) ?_)
 .rintro k ⟨hk,hinv⟩;refine SS ?_;refine ab ⟨_,rfl,fun h=>?_,fun h=>?_⟩
  .have al:k<x.aC.length:=by simpa using h
   have hx:x.aC[k]? =some x.aC[k]:=by simp[al]
   generalize x.aC[k]=w at hx;refine ay ?_;refine cG ?_;refine ab (aX (bZ [(2+k,jo w,79)] ⟨an _ _ _,trivial⟩ (l:=[(2,.pt (bC p q f)),(3,.pt (a8 x)),(5,I k),(6,.pt (jo w)),(8,mo x.aC),(9,I x.aC.length),(10,I k)]) ⟨rfl,rfl,rfl,mG (sz:=prog.cellsOf 79),rfl,rfl,rfl,trivial⟩) (aj ?_));have Fp:=Fp (s:=w.name);have Ff:=Ff (l:=x.aC.take k) (g:=229) (fs:=[]) (cs:=[.pt (jo w)]) (p:=fun v=>v.name.toList==w.name.toList) (.fn oS (.cons (.pt (Hp w)) .nil)) (fun v _=>aoa);unfold mo at Ff;rw[<- agz DQ hk] at Ff;refine af ?_;refine cl Fp ?_;refine bm ?_;refine gc lh ?_;refine cG ?_;refine cq rfl rfl (Bu rfl V.h V.h rfl rfl rfl) (fun hc=>⟨ak,⟨V.h,oG,oG,oG⟩⟩) ?_;refine cq rfl rfl (Vs rfl rfl) (fun hc=>⟨ak,trivial⟩) ?_;refine gc Ff ?_;refine SS ?_;have hb:((isName w.name&&(cv f w.to&& !(x.aC.take k).any fun v=>v.name.toList==w.name.toList)))=nX f x.aC k w:=rfl;refine ab (ap rfl (fun hp=>?_) fun hp=>?_)
   .refine ws ?_;refine SS ?_;refine ab (bp (cZ (a6 (aw (d:=.s (.bool _)) rfl ?_))))
    have C:nX f x.aC k w=false:=by
     rw[<- hb];simp only[cv];revert hp;generalize isName w.name=a;generalize dx w.to 0 (f.blocks.length - 1)=b;generalize (List.any _ _)=c;cases a<;>cases b<;>cases c<;>simp
    simp[kz,KR hx C]
   .refine dE ?_
    have C:nX f x.aC k w=true:=by
     rw[<- hb];simp only[cv];revert hp;generalize isName w.name=a;generalize dx w.to 0 (f.blocks.length - 1)=b;generalize (List.any _ _)=c;cases a<;>cases b<;>cases c<;>simp
    refine af ?_;refine ab (bg (k+1) (ao eH) ⟨oG,fun j y hj hy=>?_⟩ oG);by_cases e:j=k
    .subst e;rw[hx] at hy;cases hy;exact C
    .exact hinv j y oG hy
  .have X:¬ k<x.aC.length:=by simpa using h
   exact⟨2+k,.forget _ _ _ _ fun t=>rO (l:=[(2,.pt (bC p q f)),(3,.pt (a8 x))]) ⟨rfl,rfl,trivial⟩ t,fun j y hy=>hinv j y (by have:=(bX.1 hy).1;omega) hy⟩
 .rintro s ⟨n,hg,O⟩;refine⟨_,hg,aj ?_⟩;refine bj ?_;refine av ?_;refine gc lh ?_;refine av ?_;refine ab (aw (d:=.s (.bool _)) rfl ?_);have M:=RD O;simp[kz,cv,M,ib]
end
abbrev P0:D:=.im (sd lB)
abbrev Q0:D:=.im (sd iP)
theorem aob:az prog 162 [] (.bd [P0,Q0]):=by
 refine bu aky Tr.nil (.bd (.cons (Ci _) (.cons (Ci _) .nil))) ?_;rw[akz];refine ws ?_;refine aq (eQ (v:=.s (.map none)) rfl) ak trivial ?_;refine aq (eQ (v:=.s (.map none)) rfl) ak trivial ?_;refine er ?_;refine bj ?_;refine bj ?_;refine bj ?_;refine cG ?_;refine er ?_;refine bj ?_;refine bj ?_;refine av ?_;refine ab (ay ?_);refine aR ?_;refine ab (aX (ae7 [(0,sd lB),(1,sd iP)] eH (l:=[(0,P0),(1,Q0)]) eH) ?_);exact oO rfl rfl rfl
abbrev s8(f:aK):D:=.agg (bC P0 Q0 f)
theorem Po{f:aK}:az prog 123 [.agg (aH f)] (s8 f):=by
 have C:∀ a∈[D.agg (aH f)],Tr a:=.cons (.agg (gA f)) .nil;refine bu akA C (nQ (Ci _) (Ci _) f) ?_;rw[akB];refine ws ?_;refine af ?_;refine er ?_;refine cl aob ?_;refine SS ?_;refine aq (sF (v:=.im _) rfl rfl) ak (by first|decide|simp) ?_;refine aq (sF (v:=.im _) rfl rfl) ak (by first|decide|simp) ?_;refine aq (eQ (v:=.im _) rfl) ak trivial ?_;refine aq (eQ (v:=.im _) rfl) ak trivial ?_;refine er ?_;refine SS ?_;refine aq (gX (v:=.im _) rfl) ak trivial ?_;refine aq (gX (v:=.im _) rfl) ak trivial ?_;refine aq (DZ (cs:=bC _ _ _) V.h V.h V.h rfl rfl) ak ⟨V.h,V.h⟩ ?_;refine dA (jm (cs':=bC _ _ _) rfl rfl rfl rfl) ak (ef V.h V.h (by first|(simp;done)|exact⟨rfl,bt rfl⟩|(simp;omega)) (by rfl)) ?_;refine ab (lO (mi rfl rfl Yr Ys rfl t113 oS) ?_);rfl
theorem ns:Tr P0:=Ci _
theorem nt:Tr Q0:=Ci _
section
variable{p q:D}{f:aK}(hp:Tr p)(hq:Tr q)(gS:p.one=true)(cb:q.one=true)
include hp hq gS cb
theorem aoc{r kd:Int}:az prog 177 [I r,.pt (bC p q f),.pt [U8 kd]] (B !(aQ (cB f.ag r) kd)):=by
 have C:∀ a∈[I r,.pt (bC p q f),.pt [U8 kd]],Tr a:=.cons (.s _) (.cons (.pt (D6 hp hq f)) (.cons (.pt (.cons (.s _) .nil)) .nil));have gg:=gg (f:=f) (r:=r) hp hq gS cb;refine bu akR C (Tr.s _) ?_;rw[akS];refine ws ?_;refine SS ?_;refine ab (ej adk ?_);refine af ?_;refine cl gg ?_;refine av ?_;refine bN bO ?_;refine aw (d:=.s (.bool _)) rfl ?_;rfl
end
theorem JA{f:aK}{b ahead:Int}{x:bK}{phis:Bool}:az prog 131 [s8 f,I b,.agg (bA x),B phis,I ahead] (B (jb f b x phis ahead)):=by
 have O:∀ a∈[s8 f,I b,.agg (bA x),B phis,I ahead],Tr a:=.cons (nQ ns nt f) (.cons (.s _) (.cons (.agg (rQ x)) (.cons (.s _) (.cons (.s _) .nil))));have gg:= @gg P0 Q0 f ns nt rfl rfl;have JC:= @JC P0 Q0 f ns nt rfl rfl;have jw:= @jw P0 Q0 f ns nt rfl rfl;have CG:= @CG P0 Q0 f ns nt rfl rfl;refine bu akT O (Tr.s _) ?_;rw[akU];refine ay ?_;refine av ?_;refine ab (aX (bZ [(0,bC P0 Q0 f,113),(1,bA x,54)] eH (l:=[(1,I b),(3,B phis),(4,I ahead),(5,.pt (bC P0 Q0 f)),(7,.pt (bA x))]) eH) (aI (aj ?_)));refine af ?_;refine ab (ou (aj ?_));refine af ?_;refine ab (ap rfl (fun h0=>?_) fun h0=>?_)
 .have h0:x.op=16:=by simpa using h0
  refine ws ?_;refine fB ?_;refine gc gg ?_;refine bj ?_;refine cP ?_;refine af ?_;refine ab (bp (bU (a6 (aw (d:=.s (.bool _)) rfl ?_))));simp[jb,h0,aQ,jW,ib,Bool.and_assoc]
 have h0:¬ x.op=16:=by simpa using h0
 refine ws ?_;refine af ?_;refine ab (ap rfl (fun h1=>?_) fun h1=>?_)
 .have h1:x.op=17:=by simpa using h1
  refine ws ?_;refine bj ?_;refine bj ?_;refine af ?_;refine gc JC ?_;refine af ?_;refine ab (bp (bU (a6 (aw (d:=.s (.bool _)) rfl ?_))));simp[jb,h1,aQ,jW,ib,Bool.and_assoc]
 have h1:¬ x.op=17:=by simpa using h1
 refine ws ?_;refine af ?_;refine ab (ap rfl (fun h2=>?_) fun h2=>?_)
 .have h2:x.op=18:=by simpa using h2
  refine ws ?_;refine bj ?_;refine bj ?_;refine af ?_;refine gc JC ?_;refine af ?_;refine ab (bp (bU (a6 (aw (d:=.s (.bool _)) rfl ?_))));simp[jb,h2,aQ,jW,ib,Bool.and_assoc]
 have h2:¬ x.op=18:=by simpa using h2
 refine ws ?_;refine af ?_;refine ab (ap rfl (fun C=>?_) fun C=>?_)
 .have C:x.op=19:=by simpa using C
  refine ay ?_;refine av ?_;refine cl gg ?_;refine SS ?_;refine dA (jR (d:=.s (.int _ _)) (cs':=[_]) rfl rfl rfl rfl rfl) ak (ef V.h V.h (by first|(simp;done)|exact⟨rfl,bt rfl⟩|(simp;omega)) rfl) ?_;refine ab (aX (bZ [(2,[U8 (cB f.ag x.to)],5)] eH (l:=[(1,I b),(3,B phis),(4,I ahead),(5,.pt (bC P0 Q0 f)),(7,.pt (bA x)),(11,.pt [U8 (cB f.ag x.to)])]) eH) (aj ?_));have Di:=Di (l:=x.args) (g:=177) (fs:=[]) (cs:=[.pt (bC P0 Q0 f),.pt [U8 (cB f.ag x.to)]]) (p:=fun r=> !(aQ (cB f.ag r) (cB f.ag x.to))) (.fn oS (.cons (.pt (D6 ns nt f)) (.cons (.pt (.cons (.s _) .nil)) .nil))) (fun r _=>aoc ns nt rfl rfl);refine av ?_;refine cl Di ?_;refine SS ?_;refine er ?_;by_cases hb:phis=true/\0<b
  .obtain⟨rfl,hb⟩:=hb;have u6:decide (0<b)=true:=by simpa using hb
   have jw:=jw (l:=[x.to]);have J:∀ {m:Mem},m 3=some (.cells [I x.to] 3)->jx prog [3] m [s8 f,.rs 3 0 1] [s8 f,aT [x.to]]:=fun hm=>⟨cT (nQ ns nt f),uH hm oS (by rw[c3];rfl) (.cons (.s _) .nil),trivial⟩
   refine cP ?_;refine af ?_;refine IF jw rfl rfl rfl rfl (J rfl) ak ?_;refine bj ?_;refine bj ?_;refine cP ?_;refine af ?_;refine ab (bp (bU (a6 (aw (d:=.s (.bool _)) rfl ?_))));simp[jb,C,hb,aQ,jW,ib,Bool.and_assoc,ie]
  .have hf:jb f b x phis ahead=false:=by
    cases phis with
    |false=>simp[jb,C]
    |true=>simp[jb,C,show ¬ 0<b by simpa using hb]
   have hf:D.s (.bool false)=B (jb f b x phis ahead):=by rw[hf]
   cases phis with
   |false=>
    refine af ?_;(iterate 2 refine z fun _ _=>?_);refine af ?_;(iterate 5 refine z fun _ _=>?_);refine af ?_;(iterate 3 refine z fun _ _=>?_);refine af ?_;(iterate 3 refine z fun _ _=>?_);refine af ?_;(iterate 3 refine z fun _ _=>?_);refine af ?_;(iterate 5 refine z fun _ _=>?_);refine af ?_;(iterate 2 refine z fun _ _=>?_);refine af ?_;exact ab (bp (bU (a6 (aw (d:=.s (.bool _)) rfl hf))))
   |true=>
    have u6:decide (0<b)=false:=by simpa using hb
    refine cG ?_;(iterate 5 refine z fun _ _=>?_);refine af ?_;(iterate 3 refine z fun _ _=>?_);refine af ?_;(iterate 3 refine z fun _ _=>?_);refine af ?_;(iterate 3 refine z fun _ _=>?_);refine af ?_;(iterate 5 refine z fun _ _=>?_);refine af ?_;(iterate 2 refine z fun _ _=>?_);refine af ?_;exact ab (bp (bU (a6 (aw (d:=.s (.bool _)) rfl hf))))
 have C:¬ x.op=19:=by simpa using C
 refine nS (aj ?_);have U:lf prog 111 true (gZ (.int .u8 x.op) (sd lB))=.bd [.agg (kZ ((fk lB x.op).getD zB)),.s (.bool (fk lB x.op).isSome)]:=V' rfl _ _ (by rw[Od];unfold sX;rw[Pr,Ps];rfl);have M:=UZ (P:=prog) (kt:=5) u5 lB;refine aR ?_;refine aq (Si rfl rfl V.h U) ak ⟨V.h,by kernel_rfl,M⟩ ?_;refine SS ?_;refine aq (sF (v:=.agg (kZ _)) rfl rfl) ak (by first|decide|simp) ?_;refine af ?_;refine dA (jm (cs':=kZ _) rfl rfl rfl rfl) ak (ef V.h V.h (by first|(simp;done)|exact⟨rfl,bt rfl⟩|(simp;omega)) (by rfl)) ?_;refine SS ?_;refine er ?_;refine aR ?_;refine cq rfl rfl (fD (vs:=kZ _) rfl rfl V.h V.h rfl) (fun hc=>⟨ak,(fE V.h V.h (by first|(simp;done)|omega|exact bt rfl))⟩) ?_;refine gc CG ?_;refine af ?_;refine ab (aw (d:=.s (.bool _)) rfl ?_);simp[jb,h0,h1,h2,C]
def Xt(f:aK)(x:Argus.End)(s:St):Prop:=∃ cells n,aM prog s ⟨aF [(2,.pt (bC P0 Q0 f)),(3,.pt (a8 x)),(5,.rp 2 0),(6,B (fw f x).1)],up (fun _=>none) 2 (some (.cells cells 57)),n⟩/\cells.length=15/\∀ m,jx prog [2] m cells (a8 (fw f x).2)
theorem vR{l:List Int}{r:Int}:ie l [r]=eU l r:=by simp[ie]
theorem n9{f:aK}{x r:Argus.End}{env:Env}{m:Mem}{nx:Nat}{cells:List D}{ok:Bool}(hr:fw f x=(ok,r))(he:nh [(2,.pt (bC P0 Q0 f)),(3,.pt (a8 x)),(5,.rp 2 0),(6,B ok)] env)(hm:m 2=some (.cells cells 57))(hl:cells.length=15)
 (hs:∀ m,jx prog [2] m cells (a8 r)):Xt f x ⟨env,m,nx⟩:=by
 refine⟨cells,nx,?_,hl,?_⟩
 .rw[hr];exact TP he (aeA hm)
 .rw[hr];exact hs
theorem Jz{f:aK}{x:Argus.End}:az prog 129 [s8 f,.agg (a8 x)] (B (gB f x)):=by
 have bx:∀ a∈[s8 f,.agg (a8 x)],Tr a:=.cons (nQ ns nt f) (.cons (.agg (mr x)) .nil);have lh:= @lh P0 Q0 f ns nt rfl rfl;have gg:= @gg P0 Q0 f ns nt rfl rfl;have jw:= @jw P0 Q0 f ns nt rfl rfl;have CG:= @CG P0 Q0 f ns nt rfl rfl;have ve:= @ve P0 Q0 f ns nt rfl rfl;refine bu alz bx (Tr.s _) ?_;rw[alA];refine ay ?_;refine av ?_;refine ab (aX (bZ [(0,bC P0 Q0 f,113),(1,a8 x,57)] eH (l:=[(2,.pt (bC P0 Q0 f)),(3,.pt (a8 x))]) eH) (aj ?_));refine af ?_;refine dA (jm (cs':=a8 _) rfl rfl rfl rfl) ak (ef V.h V.h (by first|(simp;done)|exact⟨rfl,bt rfl⟩|(simp;omega)) (by rfl)) ?_;refine SS ?_;refine er ?_;refine af ?_;refine ab ?_;refine eT (Xt f x) (aj ?_) fun s hs=>?_
 .refine af ?_;refine ab (sN (aj ?_));refine af ?_;refine ab (ap rfl (fun h=>?_) fun h=>?_)
  .have h:x.kind=1:=by simpa using h
   refine py ?_;refine av ?_;refine cl lh ?_;refine av ?_;refine ab ?_;exact n9 (r:={ x with kind:=0,to:=0 }) (by simp[fw,h,aQ,ib,Bool.and_assoc,cv]) ⟨rfl,rfl,rfl,rfl,trivial⟩ rfl rfl (fun m=>by repeat' (first|exact trivial|exact cT (Tr.s _)|exact cT (dU _)|exact cT (ky _)|exact oa|refine And.intro ?_ ?_))
  have h1:¬ x.kind=1:=by simpa using h
  clear h;refine ws ?_;refine af ?_;refine ab (ap rfl (fun h=>?_) fun h=>?_)
  .have h:x.kind=2:=by simpa using h
   refine py ?_;refine av ?_;refine cl gg ?_;refine bm ?_;refine gc lh ?_;refine bm ?_;refine gc lh ?_;refine cP ?_;refine ab ?_;exact n9 (r:={ x with kind:=0,a:=0,to:=0,fL:=0 }) (by simp[fw,h,aQ,ib,Bool.and_assoc,cv]) ⟨rfl,rfl,rfl,rfl,trivial⟩ rfl rfl (fun m=>by repeat' (first|exact trivial|exact cT (Tr.s _)|exact cT (dU _)|exact cT (ky _)|exact oa|refine And.intro ?_ ?_))
  have h2:¬ x.kind=2:=by simpa using h
  clear h;refine ws ?_;refine af ?_;refine ab (ap rfl (fun h=>?_) fun h=>?_)
  .have h:x.kind=3:=by simpa using h
   refine ws ?_;refine cG ?_;refine er ?_;refine cP ?_;refine af ?_;refine ab (ap rfl (fun hr=>?_) fun hr=>?_)
   .have hr:f.result≠0/\f.iter=false:=by simpa[bne,ib] using hr
    refine TD abK ?_;refine av ?_;refine cl gg ?_;refine bm ?_;refine bN bO ?_;exact n9 (r:={ x with kind:=0,a:=0 }) (by simp[fw,h,aQ,ib,Bool.and_assoc,hr.1,hr.2]) ⟨rfl,rfl,rfl,rfl,trivial⟩ rfl rfl (fun m=>by repeat' (first|exact trivial|exact cT (Tr.s _)|exact cT (dU _)|exact cT (ky _)|exact oa|refine And.intro ?_ ?_))
   .have hr:¬ (f.result≠0/\f.iter=false):=by simpa[bne,ib] using hr
    refine LP ?_;exact n9 (r:={ x with kind:=0,a:=0 }) (by simp only[fw,h];simp only[if_neg hr];simp[aQ,ib]) ⟨rfl,rfl,rfl,rfl,trivial⟩ rfl rfl (fun m=>by repeat' (first|exact trivial|exact cT (Tr.s _)|exact cT (dU _)|exact cT (ky _)|exact oa|refine And.intro ?_ ?_))
  have h3:¬ x.kind=3:=by simpa using h
  clear h;refine ws ?_;refine af ?_;refine ab (ap rfl (fun h=>?_) fun h=>?_)
  .have h:x.kind=4:=by simpa using h
   refine py ?_;refine af ?_;refine cl Fp ?_;refine av ?_;refine ab ?_;exact n9 (r:={ x with kind:=0,name:=.empty }) (by simp[fw,h,aQ,ib,Bool.and_assoc]) ⟨rfl,rfl,rfl,rfl,trivial⟩ rfl rfl (fun m=>by repeat' (first|exact trivial|exact cT (Tr.s _)|exact cT (dU _)|exact cT (ky _)|exact oa|refine And.intro ?_ ?_))
  have h4:¬ x.kind=4:=by simpa using h
  clear h;refine ws ?_;refine af ?_;refine ab (ap rfl (fun h=>?_) fun h=>?_)
  .have h:x.kind=5:=by simpa using h
   refine ws ?_;have kg:lf prog 111 true (gZ (.int .u8 x.ins.op) (sd iP))=.bd [.agg (kZ ((fk iP x.ins.op).getD zB)),.s (.bool (fk iP x.ins.op).isSome)]:=V' rfl _ _ (by rw[Od];unfold sX;rw[Pr,Ps];rfl);have QN:=UZ (P:=prog) (kt:=5) u5 iP;refine bm ?_;refine aq (Si rfl rfl V.h kg) ak ⟨V.h,by kernel_rfl,QN⟩ ?_;refine SS ?_;refine aq (sF (v:=.agg (kZ _)) rfl rfl) ak (by first|decide|simp) ?_;refine af ?_;refine dA (jm (cs':=kZ _) rfl rfl rfl rfl) ak (ef V.h V.h (by first|(simp;done)|exact⟨rfl,bt rfl⟩|(simp;omega)) (by rfl)) ?_;refine SS ?_;refine er ?_;refine bm ?_;refine cq rfl rfl (fD (vs:=kZ _) rfl rfl V.h V.h rfl) (fun hc=>⟨ak,(fE V.h V.h (by first|(simp;done)|omega|exact bt rfl))⟩) ?_;refine gc CG ?_;refine bm ?_;refine gc lh ?_;refine aR ?_;refine gc ve ?_;refine af ?_;refine ab (py ?_);refine bj ?_;refine ab ?_;exact n9 (r:={ x with kind:=0,ins:=dW,to:=0,aC:=[],others:= -1 }) (by simp[fw,h,aQ,ib,Bool.and_assoc,cv]) ⟨rfl,rfl,rfl,rfl,trivial⟩ rfl rfl (fun m=>by repeat' (first|exact trivial|exact cT (Tr.s _)|exact cT (dU _)|exact cT (ky _)|exact oa|refine And.intro ?_ ?_))
  have h5:¬ x.kind=5:=by simpa using h
  clear h;refine ws ?_;refine af ?_;refine ab (ap rfl (fun h=>?_) fun h=>?_)
  .have h:x.kind=6:=by simpa using h
   refine ws ?_;have tm:=tm (s:=x.name);have X:=jw (l:=[x.a]);have jw:=jw (l:=x.args);have U:∀ {m:Mem},m 3=some (.cells [I x.a] 3)->jx prog [3] m [s8 f,.rs 3 0 1] [s8 f,aT [x.a]]:=fun hm=>⟨cT (nQ ns nt f),uH hm oS (by rw[c3];rfl) (.cons (.s _) .nil),trivial⟩
   cases C:jr x.name with
   |false=>
    rw[C] at tm;refine af ?_;refine cl tm ?_;refine cP ?_;refine af ?_;refine gc jw ?_;refine bj ?_;(iterate 3 refine z fun _ _=>?_);refine bm ?_;refine gc lh ?_;refine aR ?_;refine gc ve ?_;refine af ?_;refine ab (py ?_);refine bj ?_;refine av ?_;refine ab ?_;exact n9 (r:={ x with kind:=0,name:=.empty,args:=[],a:=0,to:=0,aC:=[],others:= -1 }) (by simp[fw,h,aQ,ib,Bool.and_assoc,cv,C]) ⟨rfl,rfl,rfl,rfl,trivial⟩ rfl rfl (fun m=>by repeat' (first|exact trivial|exact cT (Tr.s _)|exact cT (dU _)|exact cT (ky _)|exact oa|refine And.intro ?_ ?_))
   |true=>
    rw[C] at tm;by_cases J:(x.args.length:Int)<=6
    rotate_left
    .have X5:decide ((x.args.length:Int)<=6)=false:=by simpa using J
     refine af ?_;refine cl tm ?_;refine cP ?_;refine af ?_;refine gc jw ?_;refine bj ?_;(iterate 3 refine z fun _ _=>?_);refine bm ?_;refine gc lh ?_;refine aR ?_;refine gc ve ?_;refine af ?_;refine ab (py ?_);refine bj ?_;refine av ?_;refine ab ?_;exact n9 (r:={ x with kind:=0,name:=.empty,args:=[],a:=0,to:=0,aC:=[],others:= -1 }) (by simp[fw,h,aQ,ib,Bool.and_assoc,cv,C,J]) ⟨rfl,rfl,rfl,rfl,trivial⟩ rfl rfl (fun m=>by repeat' (first|exact trivial|exact cT (Tr.s _)|exact cT (dU _)|exact cT (ky _)|exact oa|refine And.intro ?_ ?_))
    have X5:decide ((x.args.length:Int)<=6)=true:=by simpa using J
    cases M:ie f.ag x.args with
    |false=>
     rw[M] at jw;refine af ?_;refine cl tm ?_;refine cP ?_;refine af ?_;refine gc jw ?_;refine bj ?_;(iterate 3 refine z fun _ _=>?_);refine bm ?_;refine gc lh ?_;refine aR ?_;refine gc ve ?_;refine af ?_;refine ab (py ?_);refine bj ?_;refine av ?_;refine ab ?_;exact n9 (r:={ x with kind:=0,name:=.empty,args:=[],a:=0,to:=0,aC:=[],others:= -1 }) (by simp[fw,h,aQ,ib,Bool.and_assoc,cv,C,J,M]) ⟨rfl,rfl,rfl,rfl,trivial⟩ rfl rfl (fun m=>by repeat' (first|exact trivial|exact cT (Tr.s _)|exact cT (dU _)|exact cT (ky _)|exact oa|refine And.intro ?_ ?_))
    |true=>
     rw[M] at jw;by_cases O:x.a= -1
     .have ki:(x.a== -1)=true:=by simpa using O
      refine af ?_;refine cl tm ?_;refine cP ?_;refine af ?_;refine gc jw ?_;refine bj ?_;(iterate 2 refine z fun _ _=>?_);refine cG ?_;refine gc lh ?_;refine aR ?_;refine gc ve ?_;refine af ?_;refine ab (py ?_);refine bj ?_;refine av ?_;refine ab ?_;exact n9 (r:={ x with kind:=0,name:=.empty,args:=[],a:=0,to:=0,aC:=[],others:= -1 }) (by simp[fw,h,aQ,ib,Bool.and_assoc,cv,C,J,M,O]) ⟨rfl,rfl,rfl,rfl,trivial⟩ rfl rfl (fun m=>by repeat' (first|exact trivial|exact cT (Tr.s _)|exact cT (dU _)|exact cT (ky _)|exact oa|refine And.intro ?_ ?_))
     .have ki:(x.a== -1)=false:=by simpa using O
      refine af ?_;refine cl tm ?_;refine cP ?_;refine af ?_;refine gc jw ?_;refine cP ?_;refine af ?_;refine IF X rfl rfl rfl rfl (U rfl) ak ?_;refine cG ?_;refine gc lh ?_;refine aR ?_;refine gc ve ?_;refine af ?_;refine ab (py ?_);refine bj ?_;refine av ?_;refine ab ?_;exact n9 (r:={ x with kind:=0,name:=.empty,args:=[],a:=0,to:=0,aC:=[],others:= -1 }) (by simp[fw,h,aQ,ib,Bool.and_assoc,cv,C,J,M,O,vR]) ⟨rfl,rfl,rfl,rfl,trivial⟩ rfl rfl (fun m=>by repeat' (first|exact trivial|exact cT (Tr.s _)|exact cT (dU _)|exact cT (ky _)|exact oa|refine And.intro ?_ ?_))
  have h6:¬ x.kind=6:=by simpa using h
  clear h;refine ws ?_;refine af ?_;refine ab (ap rfl (fun h=>?_) fun h=>?_)
  .have h:x.kind=7:=by simpa using h
   refine ws ?_;refine af ?_;refine cl tm ?_;refine cP ?_;refine af ?_;refine gc jw ?_;refine bm ?_;refine gc gg ?_;refine cG ?_;refine gc lh ?_;refine af ?_;refine ab (py ?_);refine cP ?_;refine ab ?_;exact n9 (r:={ x with kind:=0,name:=.empty,args:=[],a:=0,to:=0 }) (by simp[fw,h,aQ,ib,Bool.and_assoc,cv]) ⟨rfl,rfl,rfl,rfl,trivial⟩ rfl rfl (fun m=>by repeat' (first|exact trivial|exact cT (Tr.s _)|exact cT (dU _)|exact cT (ky _)|exact oa|refine And.intro ?_ ?_))
  have h7:¬ x.kind=7:=by simpa using h
  clear h;refine ws ?_;refine af ?_;refine ab (ap rfl (fun h=>?_) fun h=>?_)
  .have h:x.kind=8:=by simpa using h
   refine ws ?_;have jw:=jw (l:=[x.b]);have Oc:∀ {m:Mem},m 3=some (.cells [I x.b] 3)->jx prog [3] m [s8 f,.rs 3 0 1] [s8 f,aT [x.b]]:=fun hm=>⟨cT (nQ ns nt f),uH hm oS (by rw[c3];rfl) (.cons (.s _) .nil),trivial⟩
   by_cases C:cB f.ag x.a=3
   .have ki:(cB f.ag x.a==3)=true:=by simpa using C
    refine av ?_;refine cl gg ?_;refine cG ?_;refine IF jw rfl rfl rfl rfl (Oc rfl) ak ?_;refine bm ?_;refine gc lh ?_;refine bm ?_;refine gc lh ?_;refine aR ?_;refine gc ve ?_;refine af ?_;refine ab (py ?_);refine bj ?_;refine av ?_;refine ab ?_;exact n9 (r:={ x with kind:=0,a:=0,b:=0,to:=0,fL:=0,aC:=[],others:= -1 }) (by simp[fw,h,aQ,ib,Bool.and_assoc,cv,C,vR]) ⟨rfl,rfl,rfl,rfl,trivial⟩ rfl rfl (fun m=>by repeat' (first|exact trivial|exact cT (Tr.s _)|exact cT (dU _)|exact cT (ky _)|exact oa|refine And.intro ?_ ?_))
   .have ki:(cB f.ag x.a==3)=false:=by simpa using C
    refine av ?_;refine cl gg ?_;refine bm ?_;(iterate 2 refine z fun _ _=>?_);refine bm ?_;refine gc lh ?_;refine bm ?_;refine gc lh ?_;refine aR ?_;refine gc ve ?_;refine af ?_;refine ab (py ?_);refine bj ?_;refine av ?_;refine ab ?_;exact n9 (r:={ x with kind:=0,a:=0,b:=0,to:=0,fL:=0,aC:=[],others:= -1 }) (by simp[fw,h,aQ,ib,Bool.and_assoc,cv,C]) ⟨rfl,rfl,rfl,rfl,trivial⟩ rfl rfl (fun m=>by repeat' (first|exact trivial|exact cT (Tr.s _)|exact cT (dU _)|exact cT (ky _)|exact oa|refine And.intro ?_ ?_))
  have h8:¬ x.kind=8:=by simpa using h
  clear h;refine ws ?_;refine af ?_;refine ab (ap rfl (fun h=>?_) fun h=>?_)
  .have h:x.kind=9:=by simpa using h
   refine TD abL ?_;refine fB ?_;refine gc gg ?_;refine bj ?_;refine gc lh ?_;refine cG ?_;refine bN bO ?_;exact n9 (r:={ x with kind:=0,a:=0,to:=0 }) (by simp[fw,h,aQ,ib,Bool.and_assoc,cv]) ⟨rfl,rfl,rfl,rfl,trivial⟩ rfl rfl (fun m=>by repeat' (first|exact trivial|exact cT (Tr.s _)|exact cT (dU _)|exact cT (ky _)|exact oa|refine And.intro ?_ ?_))
  .have h9:¬ x.kind=9:=by simpa using h
   refine LP ?_;exact n9 (r:={ x with kind:=0 }) (by simp[fw,h1,h2,h3,h4,h5,h6,h7,h8,h9]) ⟨rfl,rfl,rfl,rfl,trivial⟩ rfl rfl (fun m=>by repeat' (first|exact trivial|exact cT (Tr.s _)|exact cT (dU _)|exact cT (ky _)|exact oa|refine And.intro ?_ ?_))
 .obtain⟨cells,n,hg,hl,hs⟩:=hs;refine⟨_,hg,aj ?_⟩;have tP:(cells.drop 0).take 15=cells:=by rw[List.drop_zero,cO oG]
  have Pq:=Pq (x:=(fw f x).2);have alC:∀ {m:Mem},m 2=m 2->jx prog [2] m [.agg ((cells.drop 0).take 15)] [.agg (a8 (fw f x).2)]:=fun {m} _=>⟨ahK (by rw[tP];exact hs m),trivial⟩
  have he:gB f x=((fw f x).1&&s7 (fw f x).2):=rfl;generalize (fw f x).1=ok at he;cases ok with
  |true=>
   refine av ?_;refine IF Pq rfl rfl rfl rfl (alC rfl) ak ?_;refine af ?_;refine ab (aw (d:=.s (.bool _)) rfl ?_);rw[he];simp
  |false=>
   refine af ?_;(iterate 2 refine z fun _ _=>?_);refine af ?_;refine ab (aw (d:=.s (.bool _)) rfl ?_);rw[he];simp
end Go.Proofs.Tryz.K
end
