/- Part 19. -/
import Derived.Test.YtkogeiacmmckkaaGreatDoorFlowLists2
import Derived.Test.YtkogeiacmmckkaaGreatDoorFlowLists4
import Derived.Test.YtkogeiacmmckkaaGreatDoorFlowLists18
import Derived.Below
import Derived.Carry
import Derived.ChangeOld
import Derived.Handed
import Derived.KernelRfl
import Derived.LaidLaws
import Derived.MakeChecks
import Derived.OpenShut
import Derived.Stop.Joined
import Derived.Test.YtkogeiacmmckkaaGreatDoorProg
import Derived.Test.YtkogeiacmmckkaaGreatDoorRows
set_option linter.all false
set_option maxRecDepth 10000
namespace Go.Abs
open Go.ChangeShapes Go.WideShapes
inductive AD:List Sh->List D->Prop
 |nil:AD [] []
 |cons {s:Sh} {l:List Sh} {ds:List D} (x:s.val) (hx:s.ok x) (h:AD l ds):AD (s::l) (s.arg x::ds)
def wE(P:Program)(n:Nat):List TypeId->Option (List Sh)
 |[]=>some []
 |t::ts=>match tG P n t,wE P n ts with
  |some s,some l=>some (s::l)
  |_,_=>none
theorem Zj{P:Program}{n:Nat}{t:TypeId}{ts:List TypeId}{l:List Sh}(h:wE P n (t::ts)=some l):∃ s C,tG P n t=some s/\wE P n ts=some C/\l=s::C:=by
 simp only[wE] at h;split at h
 .rename_i s C h1 h2;simp only[aK] at h;exact⟨s,C,h1,h2,h.symm⟩
 .cases h
section
variable{P:Program}{H:Type}{ec:TypeId×Value->H}{w w':World}{base b0:Nat}{r:Reach}{F:Nat->Prop}
theorem S6(J:Di F w){n:Nat}:∀ {ts:List TypeId} {C:List Sh} {vs:List Value} {ds:List (DataW H)} {ps:List MemPlace},wE P n ts=some C->C.all Sh.r8=true->
 (∀ (j:Nat) t v,ts[j]? =some t->vs[j]? =some v->Value.okWide P w r b0 t v)->DataW.TrodAll ec P w base (fun _=>true) true ts vs ds ps->
 ∃ aS,AD C aS/\aS.length=vs.length/\∀ (k:Nat) (d:D) (v:Value),aS[k]? =some d->vs[k]? =some v->R F gU w d v
 |[],C,[],[],_,hs,_,_,_=>by
  simp only[wE,aK] at hs;subst hs;exact⟨[],.nil,rfl,oS⟩
 |t::ts,C,v::vs,d::ds,ps,hs,r9,c7,h=>by
  obtain⟨p,q,h1,h2,_⟩:=h;obtain⟨s,X,M,O,rfl⟩:=Zj hs;simp only[List.all_cons,ay] at r9;obtain⟨x,U,hx⟩:=afN J M r9.1 (c7 0 t v rfl rfl) h1;obtain⟨aS,a1,a2,a3⟩:=S6 J O r9.2 (fun j t v hj hv=>c7 (j+1) t v (by simpa using hj) (by simpa using hv)) h2;refine⟨s.arg x::aS,.cons x U a1,by simp[a2],fun k d v hd hv=>?_⟩;cases k with
  |zero=>
   simp only[List.getElem?_cons_zero,aK] at hd hv;subst hd hv;exact hx
  |succ k=>exact a3 k d v (by simpa using hd) (by simpa using hv)
 |[],_,_::_,_,_,_,_,_,h=>by simp[DataW.TrodAll] at h
 |[],_,[],_::_,_,_,_,_,h=>by simp[DataW.TrodAll] at h
 |_::_,_,[],_,_,_,_,_,h=>by simp[DataW.TrodAll] at h
 |_::_,_,_::_,[],_,_,_,_,h=>by simp[DataW.TrodAll] at h
theorem Kept.same(h:Kept w w'){p:MemPlace}(hp:p.block<w.heap.size):w.sameAt w' p:=by
 cases p with
 |cell b o=>exact Go.World.cell?_of_block (w:=w) (h.2.1 b hp)
 |map b=>exact h.2.1 b hp
theorem Kept.frame(h:Kept w w')(C:MemPlace->Prop):w.keptBut w' C:=by
 refine⟨h.2.2.1,h.2.2.2,fun i hi=>?_⟩;rw[h.2.1 i hi];split<;>simp_all
theorem Of(hl:laidOutB P=true)(h:Kept w w'):∀ {ts:List TypeId} {vs:List Value} {ds:List (DataW H)} {ps:List MemPlace},(ts.all fun t=>P.readableRec t&&decide (t<P.types.size))=true->
 DataW.TrodAll ec P w 0 (fun _=>true) true ts vs ds ps->DataW.TrodAll ec P w' 0 (fun b=>decide (b<w.heap.size)) true ts vs ds ps
 |[],[],[],_,_,h0=>h0
 |t::ts,v::vs,d::ds,ps,ht,h0=>by
  obtain⟨p,q,h1,h2,rfl⟩:=h0;simp only[List.all_cons,ay,decide_eq_true_eq] at ht;have aj:∀ x∈p,x.block<w.heap.size:=by obtain⟨m,hm⟩:=h1;exact DataW.trod_lt m _ _ _ hm
  exact⟨p,q,WideElems.Trod_stays hl ht.1.1 ht.1.2 h1 (fun x hx=>h.same (aj x hx)) (fun x hx=>by simpa using aj x hx),Of hl h (by simpa using ht.2) h2,rfl⟩
 |[],_::_,_,_,_,h0=>by simp[DataW.TrodAll] at h0
 |[],[],_::_,_,_,h0=>by simp[DataW.TrodAll] at h0
 |_::_,[],_,_,_,h0=>by simp[DataW.TrodAll] at h0
 |_::_,_::_,[],_,_,h0=>by simp[DataW.TrodAll] at h0
theorem OH:∀ {ts:List TypeId} {vs:List Value} {ds:List (DataW H)} {ps:List MemPlace},DataW.TrodAll ec P w 0 (fun _=>true) true ts vs ds ps->ds.length=ts.length
 |[],[],[],_,_=>rfl
 |t::ts,v::vs,d::ds,ps,h0=>by
  obtain⟨p,q,h1,h2,rfl⟩:=h0;simp[OH h2]
 |[],_::_,_,_,h0=>by simp[DataW.TrodAll] at h0
 |[],[],_::_,_,h0=>by simp[DataW.TrodAll] at h0
 |_::_,[],_,_,h0=>by simp[DataW.TrodAll] at h0
 |_::_,_::_,[],_,h0=>by simp[DataW.TrodAll] at h0
theorem QU{nm:String}{d:DataW Unit}:∀ {l:List (String×DataW Unit)} {ps:List MemPlace},DataW.LaidVars P w l ps->(nm,d)∈l->
 ∃ g t cs dV p,P.globalNamed nm=some g/\(P.globals[g]?).map (·.type)=some t/\w.var? P nm=some cs/\DataW.trod (fun _=>()) P w 0 (fun _=>true) false dV t cs.toList=some (d,p)/\∀ x∈MemPlace.row ⟨g,0,none⟩ cs.size,x∈ps
 |[],_,_,h=>by simp at h
 |(n,e)::r,ps,hv,h=>by
  obtain⟨g,t,cs,dV,p,q,h1,h2,M,O,U,rfl⟩:=hv;rcases List.mem_cons.1 h with h|h
  .cases h;exact⟨g,t,cs,dV,p,h1,h2,M,O,fun x hx=>List.mem_append_left _ (List.mem_append_left _ hx)⟩
  .obtain⟨J,t',cs',C,p',k1,X,k3,k4,k5⟩:=QU U h;exact⟨J,t',cs',C,p',k1,X,k3,k4,fun x hx=>List.mem_append_right _ (k5 x hx)⟩
theorem P5{e:TypeId}{m:Nat}{spare:Nat->Bool}{held:Bool}(he:P.underlying e=some (.int .u64))(hc:P.cellsOf e=1):∀ {cs:List Value} {l:List Int} {xs:List (DataW H×List MemPlace)},cs.length=l.length->xs.map (·.1)=l.map (fun n=>DataW.lit (.int .u64 n))->
 (∀ i,i<l.length->DataW.trod ec P w base spare held m e ((cs.drop i).take 1)=xs[i]?)->cs=l.map (Value.int .u64 ·)
 |[],[],_,_,_,_=>rfl
 |c::cs,n::l,[],_,hx,_=>by simp at hx
 |c::cs,n::l,x::xs,hl,hx,h=>by
  have h0:=h 0 oS;simp only[List.drop_zero,List.take_succ_cons,List.take_zero,List.getElem?_cons_zero] at h0;obtain⟨b,hb,J,_⟩:=DataW.trod_int he h0;simp only[List.map_cons,List.cons.injEq] at hx;have C:x.1=DataW.lit (.int .u64 b):=by rw[J]
  rw[hx.1] at C;simp only[DataW.lit.injEq,Lit.int.injEq,true_and] at C;subst C;simp only[List.cons.injEq,and_true] at hb;subst hb;rw[List.map_cons,P5 he hc (cs:=cs) (l:=l) (xs:=xs) (by simpa using hl) hx.2 fun i hi=>by simpa using h (i+1) (by simpa using hi)]
 |[],_::_,_,hl,_,_=>by simp at hl
 |_::_,[],_,hl,_,_=>by simp at hl
theorem XX{laid:List (String×DataW Unit)}{nm:String}{g t e:Nat}{l:List Int}(h:laidMet P laid w)(hm:(nm,DataW.agg (l.map fun n=>DataW.lit (.int .u64 n)))∈laid)(hg:P.globalNamed nm=some g)
 (ht:(P.globals[g]?).map (·.type)=some t) (hu:P.underlying t=some (.array l.length e)) (hs:P.cellsOf t=l.length) (he:P.underlying e=some (.int .u64)) (hc:P.cellsOf e=1) (a8:0<l.length):
 ∃ ty,w.heap[g]? =some (.cells (l.map (Value.int .u64 ·)).toArray ty (0,0)):=by
 obtain⟨ps,hv,_,hp⟩:=h;obtain⟨M,X,cs,dV,p,h1,h2,J,O,U⟩:=QU hv hm;obtain rfl:g=M:=Option.some.inj (hg.symm.trans h1);obtain rfl:t=X:=Option.some.inj (ht.symm.trans h2);obtain⟨xs,m,_,e2,e3,e4,e5⟩:=DataW.trod_array hu O
 have C:cs.toList=l.map (Value.int .u64 ·):=by
  refine P5 (ec:=fun _=>()) (w:=w) (base:=0) (spare:=fun _=>true) (held:=false) (m:=m) (xs:=xs) he hc (by rw[e3,hs]) ?_ fun i hi=>?_
  .simp only[cq,DataW.agg.injEq] at e2;exact e2.1.symm
  .have:=e5 i hi
   rwa[hc,Nat.mul_one] at this
 have bK:0<cs.size:=by
  have:cs.toList.length=l.length:=by rw[C];simp
  simp at this;omega
 obtain⟨⟨c,ty,hh⟩,_⟩:=hp g 0 (U _ (by
  unfold MemPlace.row;refine List.mem_map.2 ⟨0,by simpa using bK,?_⟩
  simp[Addr.add]))
 refine⟨ty,?_⟩;simp only[World.var?,hg,Option.bind_some,hh,aK] at J;subst J;rw[hh, <- C]
end
theorem WK{C:Checked}{f:FuncId}{fn:Func}{s:ChangeSpec}{H:Type}{ec:TypeId×Value->H}{n:Nat}{vz:List Sh}{tb:TypeId}{F:Nat->Prop}
 (Uc:s.vars=[]) (hs:∀ ds:List (DataW H),ds.length=fn.params.size->s.fn H ds={ results:=[.lit (.bool true)],args:=ds })
 (J:laidOutB C.prog=true) (M:(fn.params.toList.all fun t=>C.prog.readableRec t&&decide (t<C.prog.types.size))=true) (mI:fn.resultTypes= #[tb]) (hb:C.prog.underlying tb=some .bool)
 (Br:wE C.prog n fn.params.toList=some vz) (r9:vz.all Sh.r8=true) (h:∀ aS,AD vz aS->ax C.prog f aS (.s (.bool true)))
 (W:World) (base:Nat) (args:Array Value) (ds gs:List (DataW H)) (before:List MemPlace) (HY:FB F W) (hU:Di F W)
 (DL:∀ (j:Nat) t v,fn.params[j]? =some t->args[j]? =some v->Value.okWide C.prog W .any base t v)
 (hW:DataW.Whole ec C.prog fn.params.toList s.vars false W args.toList ds gs before):
 Calls C.prog f args W fun e W'=>∃ v,e=.returned v/\s.post ec C.prog fn false true false false W args v W':=by
 have X:=hW;obtain⟨p,q,O,U,rfl,hfz,ef⟩:=hW;rw[Uc] at U
 have hg:gs=[]/\q=[]:=by
  cases gs with
  |nil=>exact⟨rfl,U⟩
  |cons g gs=>exact U.elim
 obtain⟨rfl,rfl⟩:=hg;obtain⟨aS,a1,a2,a3⟩:=S6 hU Br r9 (fun j t v hj hv=>DL j t v (by simpa using hj) (by simpa using hv)) O;refine((h aS a1).2.2 F W args HY ⟨by simpa using a2.symm,fun k d v hd hv=>a3 k d v hd (by simpa using hv)⟩).mono ?_;rintro e W' ⟨v,rfl,hv,hk⟩;obtain⟨rfl,_⟩:=hv.cJ;have hlen:ds.length=fn.params.size:=by simpa using OH O
 refine⟨_,rfl,ds,[],_,[],p,[],X,?_,?_,?_,hk.frame _,fun h=>by cases h⟩
 .rw[List.append_nil,hs ds hlen,mI];exact⟨[],[],⟨1,by simp[DataW.trod,Value.cells,hb]⟩,rfl,rfl⟩
 .rw[List.append_nil,hs ds hlen];exact Of J hk M O
 .rw[List.append_nil,hs ds hlen,Uc];rfl
end Go.Abs
namespace Go.Argus
open Go.Abs
abbrev pk:Sh:=.int .i64
abbrev DN:Sh:=.int .u8
abbrev Dj:Sh:=.pair DN (.pair pk (.pair pk (.pair pk (.pair pk (.pair (.sl pk) .unit)))))
abbrev GC:Sh:=.pair .str (.pair pk .unit)
abbrev G9:Sh:=.pair DN (.pair pk (.pair pk (.pair pk (.pair pk (.pair .str (.pair Dj (.pair (.sl pk) (.pair (.sl GC) (.pair pk .unit)))))))))
abbrev Ge:Sh:=.pair (.sl Dj) (.pair G9 .unit)
abbrev vW:Sh:=.pair .str (.pair .bool (.pair pk (.pair DN (.pair (.sl DN) (.pair (.sl DN) (.pair (.sl .str) (.pair (.sl Ge) .unit)))))))
def LS(x:Dj.val):bS:=⟨x.1,x.2.1,x.2.2.1,x.2.2.2.1,x.2.2.2.2.1,x.2.2.2.2.2.1⟩
def S3(x:GC.val):kC:=⟨x.1,x.2.1⟩
def Ub(x:G9.val):End:=⟨x.1,x.2.1,x.2.2.1,x.2.2.2.1,x.2.2.2.2.1,x.2.2.2.2.2.1,LS x.2.2.2.2.2.2.1,x.2.2.2.2.2.2.2.1,List.map S3 x.2.2.2.2.2.2.2.2.1,x.2.2.2.2.2.2.2.2.2.1⟩
def RX(x:Ge.val):cE:=⟨List.map LS x.1,Ub x.2.1⟩
def S4(x:vW.val):bd:=⟨x.1,x.2.1,x.2.2.1,x.2.2.2.1,x.2.2.2.2.1,x.2.2.2.2.2.1,x.2.2.2.2.2.2.1,List.map RX x.2.2.2.2.2.2.2.1⟩
theorem GD{k:IntKind}(l:List Int):D.sl (List.flatMap (Sh.enc (.int k)) l) l.length=.sl (l.map fun n=>.s (.int k n)) l.length:=congrArg (D.sl · l.length) (JQ (fun n=>D.s (.int k n)) l)
theorem acK(l:List ByteArray):D.sl (List.flatMap (Sh.enc .str) l) l.length=qO l:=congrArg (D.sl · l.length) (JQ S l)
theorem LU{s:Sh}{β:Type}{g:β->List D}{h:s.val->β}(he:∀ x,s.enc x=g (h x))(l:List s.val):D.sl (List.flatMap s.enc l) l.length=.sl ((l.map h).flatMap g) (l.map h).length:=by
 rw[O3 he l,List.length_map]
theorem c1'{α β:Type}(f:α->β){a a':α}(h:a=a'):f a=f a':=by rw[h]
theorem c2'{α β γ:Type}(f:α->β->γ){a a':α}{b C:β}(h:a=a')(h2:b=C):f a b=f a' C:=by rw[h,h2]
theorem c3'{α β γ δ:Type}(f:α->β->γ->δ){a a':α}{b C:β}{c c':γ}(h:a=a')(h2:b=C)(J:c=c'):f a b c=f a' C c':=by rw[h,h2,J]
theorem c4'{α β γ δ ε:Type}(f:α->β->γ->δ->ε){a a':α}{b C:β}{c c':γ}{d d':δ}(h:a=a')(h2:b=C)(J:c=c')(M:d=d'):f a b c d=f a' C c' d':=by rw[h,h2,J,M]
theorem RY(x:Dj.val):Dj.enc x=bF (LS x):=
 c1' (fun q=>[U8 x.1,I x.2.1,I x.2.2.1,I x.2.2.2.1,I x.2.2.2.2.1,q]) (GD (k:=.i64) x.2.2.2.2.2.1)
theorem aaV(x:GC.val):GC.enc x=lg (S3 x):=rfl
theorem ab0(x:G9.val):G9.enc x=bA (Ub x):=
 c3' (fun a b c=>[U8 x.1,I x.2.1,I x.2.2.1,I x.2.2.2.1,I x.2.2.2.2.1,S x.2.2.2.2.2.1]++(a++[b,c,I x.2.2.2.2.2.2.2.2.2.1])) (RY x.2.2.2.2.2.2.1) (GD (k:=.i64) x.2.2.2.2.2.2.2.1) (LU aaV x.2.2.2.2.2.2.2.2.1)
theorem Zi(x:Ge.val):Ge.enc x=gR (RX x):=by
 have:=c2' (fun a b=>a::(b++[])) (LU RY x.1) (ab0 x.2.1);refine Eq.trans this ?_;rw[List.append_nil];rfl
theorem aj3(x:vW.val):vW.enc x=a6 (S4 x):=
 c4' (fun a b c d=>[S x.1,B x.2.1,I x.2.2.1,U8 x.2.2.2.1,a,b,c,d]) (GD (k:=.u8) x.2.2.2.2.1) (GD (k:=.u8) x.2.2.2.2.2.1) (acK x.2.2.2.2.2.2.1) (LU Zi x.2.2.2.2.2.2.2.1)
structure CY(f:bd):Prop where
 VO:0<=f.result
 nm:f.name.size<=maxLen
 sg:∀ s∈f.signals,s.size<=maxLen
 en:∀ b∈f.blocks,b.fin.name.size<=maxLen/\∀ w∈b.fin.aJ,w.name.size<=maxLen
end Go.Argus
namespace Go.Proofs.YtkogeiacmmckkaaGreatDoor
open Go.Abs Go.Argus
set_option maxRecDepth 100000
theorem aic:ownKnob Tryz.prog.godebug=none:=kr
theorem laidOut:laidOutB Tryz.prog=true:=kr
theorem afJ: Tryz.prog.underlying 4=some .bool:=kr
noncomputable abbrev wj:List (String×DataW Unit):=Rows.flowReadsRow.laid
def S5:List Int:=[1,10,100,1000,10000,100000,1000000,10000000,100000000,1000000000,10000000000,100000000000,1000000000000,10000000000000,100000000000000,1000000000000000,10000000000000000,100000000000000000,1000000000000000000,10000000000000000000]
theorem XW:∃ nm,(nm,DataW.agg (S5.map fun n=>DataW.lit (.int .u64 n)))∈wj/\ Tryz.prog.globalNamed nm=some 0:=⟨_,.tail _ (.tail _ (.head _)),by kernel_rfl⟩
theorem O4(w:World):laidMetH Tryz.prog wj w=laidMet Tryz.prog wj w:=MakeChecks.laidMetH_plain _ _ _ kr
theorem abP{W:World}(h:laidMetH Tryz.prog wj W):FB (fun b=>b=0) W/\Di (fun b=>b=0) W:=by
 rw[O4] at h;obtain⟨nm,hm,hg⟩:=XW;obtain⟨ty,ht⟩:=XX (t:=200) (e:=199) h hm hg kr kr kr kr kr oC;refine⟨⟨fun b hb=>?_,fun t C=>?_⟩,fun b o u hb hu=>?_⟩
 .subst hb;exact(Array.getElem?_eq_some_iff.1 ht).1
 .simp only[wl,List.mem_singleton] at C;subst C;exact⟨rfl,ty,_,ht⟩
 .subst hb;unfold World.cell? at hu;rw[ht] at hu;simp only at hu;have hu:((S5.map (Value.int .u64 ·)).toArray)[o]? =some u:=hu;rw[List.getElem?_toArray,List.getElem?_map] at hu;obtain⟨n,_,rfl⟩:=dm.1 hu;exact⟨n,rfl⟩
def ain:DataW Unit->Value
 | .lit (.int k n)=>.int k n
 |_=>undef
def aio:DataW Unit->Array Value
 | .agg ps=>(ps.map ain).toArray
 |_=> #[]
noncomputable def PO(os:Os):World:=
 let C:=World.holding Tryz.prog os ⟨#[], #[],[]⟩
 let f (d:DataW Unit):Obj->Obj:=fun
     | .cells _ t frozen=>.cells (aio d) t frozen
     |o=>o
 { C with heap:=((C.heap.modify 0 (f Rows.laid_internal_strconv_uint64pow10)).modify 6 (f Rows.laid_math_bits_deBruijn32tab)).modify 7 (f Rows.laid_math_bits_deBruijn64tab) }
theorem WD(os:Os)(args:Array Value):laidMetH Tryz.prog wj ((PO os).forCall (fun _ _=>0) ⟨#[],args,[]⟩).memory:=by
 rw[O4];exact laidMet_of_run' 8 kr kr
end Go.Proofs.YtkogeiacmmckkaaGreatDoor
namespace Go.Argus
open Go Go.Abs Go.Argus
theorem acE(x:vW.val)(h:vW.ok x):CY (S4 x):=by
 obtain⟨h1,_,_,J,_,_,M,O,_⟩:=h;refine⟨?_,h1,fun s hs=>?_,fun b hb=>?_⟩
 .have:(Lit.int .u8 x.2.2.2.1).wf=true:=J;simp only[Lit.wf,ay] at this;exact of_decide_eq_true this.1
 .exact M s hs
 .obtain⟨y,hy,rfl⟩:=List.mem_map.1 hb;obtain⟨_,C,_⟩:=O y hy;obtain⟨_,_,_,_,_,e6,_,_,e9,_,_⟩:=C;refine⟨e6,fun w U=>?_⟩;obtain⟨z,hz,rfl⟩:=List.mem_map.1 U;exact(e9 z hz).1
theorem aj'{x:(Sh.sl vW).val}(h:(Sh.sl vW).ok x):∀ f∈List.map S4 x,CY f:=fun f hf=>by
 obtain⟨y,hy,rfl⟩:=List.mem_map.1 hf;exact acE y (h y hy)
end Go.Argus
namespace Go.Proofs.Tryz.K
open Go.Abs
theorem a1:bG prog 1=false:=kr
theorem b1:prog.bytesOf 1=8:=kr
theorem b2:prog.bytesOf 2=8:=kr
theorem a2:bG prog 2=false:=kr
theorem t2:aG prog 2=true:=kr
theorem z2:aZ prog 2=[.s (.int .i64 0)]:=kr
theorem c3:prog.cellsOf 3=1:=kr
theorem b3:prog.bytesOf 3=8:=kr
theorem a3:bG prog 3=false:=kr
theorem t3:aG prog 3=true:=kr
theorem z3:aZ prog 3=[.s (.int .i64 0)]:=kr
theorem c4:prog.cellsOf 4=1:=kr
theorem b4:prog.bytesOf 4=1:=kr
theorem a4:bG prog 4=false:=kr
theorem t4:aG prog 4=true:=kr
theorem z4:aZ prog 4=[.s (.bool false)]:=kr
theorem c5:prog.cellsOf 5=1:=kr
theorem b5:prog.bytesOf 5=1:=kr
theorem a5:bG prog 5=false:=kr
theorem t5:aG prog 5=true:=kr
theorem z5:aZ prog 5=[.s (.int .u8 0)]:=kr
theorem b6:prog.bytesOf 6=1:=kr
theorem a9:bG prog 9=false:=kr
theorem t9:aG prog 9=true:=kr
theorem z9:aZ prog 9=[.s (.string "".toUTF8)]:=kr
theorem EA:av prog 15=381:=kr
theorem EB:av prog 16=384:=kr
theorem Ez:av prog 17=392:=kr
theorem VP:av prog 22=5:=kr
theorem UP:bm prog 22=true:=kr
theorem vr:av prog 23=9:=kr
theorem c26:prog.cellsOf 26=8:=kr
theorem a26:bG prog 26=true:=kr
theorem t26:aG prog 26=true:=kr
theorem a31:bG prog 31=false:=kr
theorem t31:aG prog 31=true:=kr
theorem z31:aZ prog 31=[.z]:=kr
theorem r6:av prog 31=26:=kr
theorem jY:prog.cellsOf 35=1:=kr
theorem NH:prog.bytesOf 35=24:=kr
theorem pO:bG prog 35=false:=kr
theorem t35:aG prog 35=true:=kr
theorem cV:av prog 35=3:=kr
theorem de:bm prog 35=true:=kr
theorem a37:bG prog 37=true:=kr
theorem t37:aG prog 37=true:=kr
theorem z37:aZ prog 37=[.s (.int .u8 0),.s (.int .i64 0)]:=kr
theorem LJ:cH prog 45 2=some (2,3):=kr
theorem LK:cH prog 45 3=some (3,3):=kr
theorem Dd:cH prog 45 5=some (5,35):=kr
theorem a46:bG prog 46=false:=kr
theorem t46:aG prog 46=true:=kr
theorem z46:aZ prog 46=[.z]:=kr
theorem LL:cH prog 48 7=some (12,35):=kr
theorem a51:bG prog 51=false:=kr
theorem t51:aG prog 51=true:=kr
theorem z51:aZ prog 51=[.s .nilFunc]:=kr
theorem a53:bG prog 53=false:=kr
theorem t53:aG prog 53=true:=kr
theorem z53:aZ prog 53=[.s .nilFunc]:=kr
theorem zB:prog.cellsOf 63=1:=kr
theorem Ey:bG prog 63=false:=kr
theorem t63:aG prog 63=true:=kr
theorem zA:av prog 63=4:=kr
theorem yV:bm prog 63=true:=kr
theorem a70:bG prog 70=false:=kr
theorem t70:aG prog 70=true:=kr
theorem z70:aZ prog 70=[.s .nilFunc]:=kr
theorem a72:bG prog 72=false:=kr
theorem t72:aG prog 72=true:=kr
theorem z72:aZ prog 72=[.s .nilFunc]:=kr
theorem a75:bG prog 75=false:=kr
theorem t75:aG prog 75=true:=kr
theorem z75:aZ prog 75=[.s .nilFunc]:=kr
theorem a76:bG prog 76=false:=kr
theorem t76:aG prog 76=true:=kr
theorem z76:aZ prog 76=[.s .nilFunc]:=kr
theorem VR:prog.cellsOf 93=10:=kr
theorem a93:bG prog 93=true:=kr
theorem t93:aG prog 93=true:=kr
theorem lM:prog.cellsOf 99=2:=kr
theorem V0:prog.bytesOf 99=32:=kr
theorem r5:bG prog 99=true:=kr
theorem t99:aG prog 99=true:=kr
theorem NT:aZ prog 99=[.s (.bool false),.z]:=kr
theorem LH:cH prog 99 0=some (0,4):=kr
theorem LI:cH prog 99 1=some (1,63):=kr
theorem a127:bG prog 127=false:=kr
theorem t127:aG prog 127=true:=kr
theorem z127:aZ prog 127=[.z]:=kr
theorem a164:bG prog 164=false:=kr
theorem t164:aG prog 164=true:=kr
theorem z164:aZ prog 164=[.s .nilFunc]:=kr
theorem a171:bG prog 171=false:=kr
theorem t171:aG prog 171=true:=kr
theorem z171:aZ prog 171=[.s .nilFunc]:=kr
theorem a173:bG prog 173=true:=kr
theorem t173:aG prog 173=true:=kr
theorem z173:aZ prog 173=[]:=kr
theorem rB:prog.cellsOf 201=20:=kr
theorem UM:prog.bytesOf 201=160:=kr
theorem a201:bG prog 201=true:=kr
theorem t201:aG prog 201=true:=kr
theorem z201:aZ prog 201=[.s (.int .u64 0),.s (.int .u64 0),.s (.int .u64 0),.s (.int .u64 0),.s (.int .u64 0),.s (.int .u64 0),.s (.int .u64 0),.s (.int .u64 0),.s (.int .u64 0),.s (.int .u64 0),.s (.int .u64 0),.s (.int .u64 0),.s (.int .u64 0),.s (.int .u64 0),.s (.int .u64 0),.s (.int .u64 0),.s (.int .u64 0),.s (.int .u64 0),.s (.int .u64 0),.s (.int .u64 0)]:=kr
theorem a212:bG prog 212=false:=kr
theorem t212:aG prog 212=true:=kr
theorem z212:aZ prog 212=[.s .nilFunc]:=kr
theorem a213:bG prog 213=false:=kr
theorem t213:aG prog 213=true:=kr
theorem z213:aZ prog 213=[.s (.map none)]:=kr
theorem a233:bG prog 233=false:=kr
theorem t233:aG prog 233=true:=kr
theorem z233:aZ prog 233=[.s .nilFunc]:=kr
theorem MR:bG prog 235=true:=kr
theorem MS:aZ prog 235=[.s (.int .i64 0),.s (.int .i64 0),.s (.int .i64 0),.s (.int .i64 0),.s (.int .i64 0),.s (.int .i64 0)]:=kr
theorem mixed:prog.follows .mixedOrders=true:=kr
noncomputable def bo(f:Func):Code:=(f.body).getD .skip
abbrev FO(n:FuncId)(f:Func)(c:Code):=uB prog n f c
theorem fo{n:FuncId}{f:Func}{c:Code}(h1:prog.funcs[n]? =some f:=by kernel_rfl)(h2:f.body=some c:=by kernel_rfl)(C:fv f.ntmps c=true:=by kernel_rfl)(J:lf prog n=true:=by kernel_rfl):FO n f c:=⟨h1,h2,C,J⟩
noncomputable def aiP:=bo Tryz.f4
theorem ok4:FO 4 Tryz.f4 aiP:=fo
noncomputable def ly:=bo Tryz.f14
theorem agS:FO 14 Tryz.f14 ly:=fo
noncomputable def vX:=bo Tryz.f16
theorem ahq:FO 16 Tryz.f16 vX:=fo
noncomputable def ei:=bo Tryz.f17
theorem ahX:FO 17 Tryz.f17 ei:=fo
noncomputable def ajq:=bo Tryz.f18
theorem akW:FO 18 Tryz.f18 ajq:=fo
noncomputable def aiw:=bo Tryz.f19
theorem ak9:FO 19 Tryz.f19 aiw:=fo
noncomputable def aiy:=bo Tryz.f20
theorem ald:FO 20 Tryz.f20 aiy:=fo
noncomputable def fx:=bo Tryz.f25
theorem ah9:FO 25 Tryz.f25 fx:=fo
noncomputable def fy:=bo Tryz.f26
theorem ahF:FO 26 Tryz.f26 fy:=fo
noncomputable def gm:=bo Tryz.f27
theorem ah3:FO 27 Tryz.f27 gm:=fo
noncomputable def gB:=bo Tryz.f28
theorem ahB:FO 28 Tryz.f28 gB:=fo
noncomputable def lR:=bo Tryz.f29
theorem aia:FO 29 Tryz.f29 lR:=fo
noncomputable def lz:=bo Tryz.f30
theorem ahH:FO 30 Tryz.f30 lz:=fo
noncomputable def qd:=bo Tryz.f31
theorem ah5:FO 31 Tryz.f31 qd:=fo
noncomputable def qe:=bo Tryz.f32
theorem ahD:FO 32 Tryz.f32 qe:=fo
noncomputable def dS:=bo Tryz.f61
theorem ahn:FO 61 Tryz.f61 dS:=fo
noncomputable def gn:=bo Tryz.f62
theorem ahk:FO 62 Tryz.f62 gn:=fo
noncomputable def dT:=bo Tryz.f63
theorem ahN:FO 63 Tryz.f63 dT:=fo
noncomputable def dU:=bo Tryz.f64
theorem ahU:FO 64 Tryz.f64 dU:=fo
noncomputable def oe:=bo Tryz.f65
theorem ahL:FO 65 Tryz.f65 oe:=fo
noncomputable def sL:=bo Tryz.f66
theorem UQ:FO 66 Tryz.f66 sL:=fo
noncomputable def uj:=bo Tryz.f67
theorem ahz:FO 67 Tryz.f67 uj:=fo
noncomputable def og:=bo Tryz.f68
theorem ahR:FO 68 Tryz.f68 og:=fo
noncomputable def o5:=bo Tryz.f69
theorem ahP:FO 69 Tryz.f69 o5:=fo
noncomputable def ajr:=bo Tryz.f70
theorem akl:FO 70 Tryz.f70 ajr:=fo
noncomputable def ajs:=bo Tryz.f71
theorem akJ:FO 71 Tryz.f71 ajs:=fo
noncomputable def agW:=bo Tryz.f72
theorem ak7:FO 72 Tryz.f72 agW:=fo
noncomputable def aiq:=bo Tryz.f73
theorem alb:FO 73 Tryz.f73 aiq:=fo
noncomputable def Gx:=bo Tryz.f74
theorem ahe:FO 74 Tryz.f74 Gx:=fo
noncomputable def ai5:=bo Tryz.f75
theorem ak5:FO 75 Tryz.f75 ai5:=fo
noncomputable def Gy:=bo Tryz.f77
theorem agQ:FO 77 Tryz.f77 Gy:=fo
noncomputable def Gz:=bo Tryz.f82
theorem ahv:FO 82 Tryz.f82 Gz:=fo
noncomputable def aiV:=bo Tryz.f83
theorem ajO:FO 83 Tryz.f83 aiV:=fo
noncomputable def yh:=bo Tryz.f88
theorem ah7:FO 88 Tryz.f88 yh:=fo
noncomputable def GA:=bo Tryz.f89
theorem ag8:FO 89 Tryz.f89 GA:=fo
noncomputable def GB:=bo Tryz.f90
theorem agY:FO 90 Tryz.f90 GB:=fo
noncomputable def sM:=bo Tryz.f92
theorem ahJ:FO 92 Tryz.f92 sM:=fo
noncomputable def oh:=bo Tryz.f93
theorem ahc:FO 93 Tryz.f93 oh:=fo
noncomputable def Ct:=bo Tryz.f136
theorem aeX:FO 136 Tryz.f136 Ct:=fo
noncomputable def FP:=bo Tryz.f137
theorem aer:FO 137 Tryz.f137 FP:=fo
noncomputable def FQ:=bo Tryz.f138
theorem aez:FO 138 Tryz.f138 FQ:=fo
noncomputable def FR:=bo Tryz.f139
theorem adx:FO 139 Tryz.f139 FR:=fo
noncomputable def FT:=bo Tryz.f140
theorem aev:FO 140 Tryz.f140 FT:=fo
noncomputable def FU:=bo Tryz.f141
theorem aet:FO 141 Tryz.f141 FU:=fo
noncomputable def fh:=bo Tryz.f142
theorem afB:FO 142 Tryz.f142 fh:=fo
noncomputable def mz:=bo Tryz.f143
theorem afd:FO 143 Tryz.f143 mz:=fo
noncomputable def eN:=bo Tryz.f144
theorem aek:FO 144 Tryz.f144 eN:=fo
noncomputable def jg:=bo Tryz.f145
theorem aeb:FO 145 Tryz.f145 jg:=fo
noncomputable def xR:=bo Tryz.f146
theorem ad':FO 146 Tryz.f146 xR:=fo
noncomputable def FV:=bo Tryz.f147
theorem adF:FO 147 Tryz.f147 FV:=fo
noncomputable def jh:=bo Tryz.f148
theorem afo:FO 148 Tryz.f148 jh:=fo
noncomputable def nk:=bo Tryz.f149
theorem afj:FO 149 Tryz.f149 nk:=fo
noncomputable def FW:=bo Tryz.f150
theorem ae3:FO 150 Tryz.f150 FW:=fo
noncomputable def dn:=bo Tryz.f151
theorem T3:FO 151 Tryz.f151 dn:=fo
noncomputable def gA:=bo Tryz.f152
theorem afz:FO 152 Tryz.f152 gA:=fo
noncomputable def n2:=bo Tryz.f153
theorem afF:FO 153 Tryz.f153 n2:=fo
noncomputable def aiR:=bo Tryz.f154
theorem akd:FO 154 Tryz.f154 aiR:=fo
noncomputable def aiF:=bo Tryz.f155
theorem akf:FO 155 Tryz.f155 aiF:=fo
noncomputable def aiS:=bo Tryz.f156
theorem akh:FO 156 Tryz.f156 aiS:=fo
noncomputable def ajp:=bo Tryz.f157
theorem akb:FO 157 Tryz.f157 ajp:=fo
noncomputable def sw:=bo Tryz.f159
theorem TP:FO 159 Tryz.f159 sw:=fo
noncomputable def jE:=bo Tryz.f169
theorem ad6:FO 169 Tryz.f169 jE:=fo
noncomputable def Aq:=bo Tryz.f170
theorem ad8:FO 170 Tryz.f170 Aq:=fo
noncomputable def qR:=bo Tryz.f171
theorem adN:FO 171 Tryz.f171 qR:=fo
noncomputable def sx:=bo Tryz.f172
theorem afm:FO 172 Tryz.f172 sx:=fo
noncomputable def Ar:=bo Tryz.f180
theorem aeV:FO 180 Tryz.f180 Ar:=fo
noncomputable def FX:=bo Tryz.f204
theorem adu:FO 204 Tryz.f204 FX:=fo
noncomputable def FY:=bo Tryz.f205
theorem aen:FO 205 Tryz.f205 FY:=fo
noncomputable def FZ:=bo Tryz.f206
theorem aex:FO 206 Tryz.f206 FZ:=fo
noncomputable def sy:=bo Tryz.f207
theorem TN:FO 207 Tryz.f207 sy:=fo
noncomputable def F0:=bo Tryz.f208
theorem aep:FO 208 Tryz.f208 F0:=fo
noncomputable def F1:=bo Tryz.f209
theorem TT:FO 209 Tryz.f209 F1:=fo
noncomputable def As:=bo Tryz.f210
theorem TU:FO 210 Tryz.f210 As:=fo
noncomputable def o4:=bo Tryz.f211
theorem aeL:FO 211 Tryz.f211 o4:=fo
noncomputable def sA:=bo Tryz.f212
theorem TW:FO 212 Tryz.f212 sA:=fo
noncomputable def F3:=bo Tryz.f213
theorem aeG:FO 213 Tryz.f213 F3:=fo
noncomputable def F4:=bo Tryz.f214
theorem aeQ:FO 214 Tryz.f214 F4:=fo
noncomputable def Cu:=bo Tryz.f215
theorem TV:FO 215 Tryz.f215 Cu:=fo
noncomputable def Cv:=bo Tryz.f216
theorem afb:FO 216 Tryz.f216 Cv:=fo
noncomputable def xS:=bo Tryz.f218
theorem adH:FO 218 Tryz.f218 xS:=fo
noncomputable def sC:=bo Tryz.f219
theorem adJ:FO 219 Tryz.f219 sC:=fo
noncomputable def F5:=bo Tryz.f220
theorem adD:FO 220 Tryz.f220 F5:=fo
noncomputable def vM:=bo Tryz.f221
theorem adL:FO 221 Tryz.f221 vM:=fo
noncomputable def tW:=bo Tryz.f222
theorem adP:FO 222 Tryz.f222 tW:=fo
noncomputable def tX:=bo Tryz.f223
theorem aeZ:FO 223 Tryz.f223 tX:=fo
noncomputable def tY:=bo Tryz.f224
theorem ae1:FO 224 Tryz.f224 tY:=fo
noncomputable def lj:=bo Tryz.f225
theorem aff:FO 225 Tryz.f225 lj:=fo
noncomputable def n3:=bo Tryz.f226
theorem ae5:FO 226 Tryz.f226 n3:=fo
noncomputable def Cw:=bo Tryz.f227
theorem ae7:FO 227 Tryz.f227 Cw:=fo
noncomputable def qS:=bo Tryz.f228
theorem TX:FO 228 Tryz.f228 qS:=fo
noncomputable def Cx:=bo Tryz.f229
theorem ae':FO 229 Tryz.f229 Cx:=fo
noncomputable def gT:=bo Tryz.f230
theorem afh:FO 230 Tryz.f230 gT:=fo
noncomputable def kJ:=bo Tryz.f231
theorem afs:FO 231 Tryz.f231 kJ:=fo
noncomputable def lk:=bo Tryz.f232
theorem afw:FO 232 Tryz.f232 lk:=fo
noncomputable def F6:=bo Tryz.f247
theorem adT:FO 247 Tryz.f247 F6:=fo
noncomputable def F7:=bo Tryz.f248
theorem ad3:FO 248 Tryz.f248 F7:=fo
noncomputable def sD:=bo Tryz.f270
theorem TM:FO 270 Tryz.f270 sD:=fo
noncomputable def n4:=bo Tryz.f271
theorem aeJ:FO 271 Tryz.f271 n4:=fo
noncomputable def F8:=bo Tryz.f272
theorem adA:FO 272 Tryz.f272 F8:=fo
noncomputable def F9:=bo Tryz.f273
theorem aeS:FO 273 Tryz.f273 F9:=fo
noncomputable def Ga:=bo Tryz.f274
theorem aeE:FO 274 Tryz.f274 Ga:=fo
noncomputable def Gb:=bo Tryz.f275
theorem aeO:FO 275 Tryz.f275 Gb:=fo
noncomputable def sE:=bo Tryz.f294
theorem TO:FO 294 Tryz.f294 sE:=fo
noncomputable def xT:=bo Tryz.f297
theorem adR:FO 297 Tryz.f297 xT:=fo
noncomputable def fu:=bo Tryz.f298
theorem ad1:FO 298 Tryz.f298 fu:=fo
noncomputable def qT:=bo Tryz.f324
theorem adZ:FO 324 Tryz.f324 qT:=fo
noncomputable def Gc:=bo Tryz.f330
theorem adX:FO 330 Tryz.f330 Gc:=fo
noncomputable def Gd:=bo Tryz.f351
theorem adV:FO 351 Tryz.f351 Gd:=fo
theorem bP{f:FuncId}{fn:Func}{c:Code}(hf:uB Tryz.prog f fn c){args:List D}(ht:∀ a∈args,Tr a){r:D}(hr:Tr r)(h:AW Tryz.prog nL true c (lE Tryz.prog fn.results.toList fun d _=>d=r) ⟨kK args,fun _=>none,0⟩)(hn:Nat.ble args.length fn.ntmps=true:=by kernel_rfl):ax Tryz.prog f args r:=Zt mixed hf hn ht hr h
theorem NA{f:FuncId}{fn:Func}{c:Code}(hf:uB Tryz.prog f fn c){args:List D}(ht:∀ a∈args,Tr a){es:List D}(C:∀ a∈es,Tr a){k:Nat}{t:TypeId}(h:AW Tryz.prog nL true c (lE Tryz.prog fn.results.toList fun d st=>∃ i,d=.rs i 0 k∧st.mem i=some (.cells es t)) ⟨kK args,fun _=>none,0⟩)(hn:Nat.ble args.length fn.ntmps=true:=by kernel_rfl):qY Tryz.prog f args es k t:=Zu mixed hf hn ht C h
theorem H3{f:FuncId}{fn:Func}{c:Code}(hf:uB Tryz.prog f fn c){args:List D}{m:Mem}{nx:Nat}{dd:D->Mem->Nat->Prop}(h:AW Tryz.prog nL true c (lE Tryz.prog fn.results.toList fun d st=>dd d st.mem st.nx) ⟨kK args,m,nx⟩)(hn:Nat.ble args.length fn.ntmps=true:=by kernel_rfl):ji Tryz.prog f args m nx dd:=Zs mixed hf hn h
def ky(P:Program)(t:TypeId):Array Field:=match P.underlying t with|some (.struct fs)=>fs|_=> #[]
theorem u5:prog.underlying 5=some (.int .u8):=kr
theorem u8:prog.underlying 8=some (.struct (ky prog 8)):=kr
theorem MQ:sW prog 91=235:=kr
theorem VT:prog.underlying 99=some (.struct (ky prog 99)):=kr
theorem UR:((ky prog 99).toList.map fun f=>(f.offset,prog.cellsOf f.type))=[(0,1),(1,1)]:=kr
theorem US:((ky prog 99).toList.all fun f=>(prog.info? f.type).isSome)=true:=kr
theorem LC:gC prog 193=3:=kr
theorem LD:jv prog 193=true:=kr
def zf(i:Nat):Code->Option (Array Oper)
 | .region j o _=>bif Nat.beq i j then some o else none
 | .seq a b=>match zf i a with
  |some x=>some x
  |none=>zf i b
 | .cond _ a b=>match zf i a with
  |some x=>some x
  |none=>zf i b
 | .block _ b=>zf i b
 | .loop b=>zf i b
 | .scope b=>zf i b
 | .rangeFunc _ _ a b=>match zf i a with
  |some x=>some x
  |none=>zf i b
 |_=>none
def Z(b:Code)(i:Nat):Array Oper:=(zf i b).getD #[]
abbrev G(i:Nat)(o:Array Oper):Code:=.region i o false
abbrev G1(b:Code)(i:Nat):Code:=.region i (Z b i) false
abbrev G2(b:Code)(i:Nat):Code:=.region i (Z b i) true
abbrev S1(a b:Code):Code:=.seq a b
abbrev C1(n:Nat)(a b:Code):Code:=.cond (.tmp n) a b
abbrev B1(n:Nat)(a:Code):Code:=.block n a
abbrev X1(n:Nat):Code:=.exit n
abbrev K1:Code:=.skip
theorem ah':fx=(S1 (G1 fx 0) (S1 (S1 (G1 fx 1) (B1 0 (S1 (S1 (G1 fx 2) (C1 5 K1 (S1 (G1 fx 3) (C1 5 K1 (S1 (G1 fx 4) (C1 5 K1 (S1 (G1 fx 5) (C1 5 K1 (S1 (G1 fx 6) (C1 5 K1 (S1 (G1 fx 7) (C1 5 K1 (S1 (G1 fx 8) (C1 5 K1 (S1 (G1 fx 9) (C1 5 K1 (G1 fx 10))))))))))))))))) (C1 5 (S1 (G1 fx 11) .ret) (S1 (S1 (G1 fx 12) (C1 18 K1 (S1 (G1 fx 13) (C1 18 K1 (S1 (G1 fx 14) (C1 18 K1 (S1 (G1 fx 15) (C1 18 K1 (S1 (G1 fx 16) (C1 18 K1 (S1 (G1 fx 17) (C1 18 K1 (S1 (G1 fx 18) (C1 18 K1 (S1 (G1 fx 19) (C1 18 K1 (S1 (G1 fx 20) (C1 18 K1 (S1 (G1 fx 21) (C1 18 K1 (S1 (G1 fx 22) (C1 18 K1 (S1 (G1 fx 23) (C1 18 K1 (G1 fx 24))))))))))))))))))))))))) (C1 18 (S1 (G1 fx 25) .ret) (S1 (G1 fx 26) (C1 37 (S1 (G1 fx 27) .ret) (S1 (G1 fx 28) (C1 42 (S1 (G1 fx 29) .ret) K1)))))))))) (S1 (G1 fx 30) .ret))):=kr
theorem ahG:fy=(S1 (G1 fy 0) (S1 (S1 (G1 fy 1) (B1 0 (S1 (S1 (G1 fy 2) (C1 5 K1 (S1 (G1 fy 3) (C1 5 K1 (S1 (G1 fy 4) (C1 5 K1 (S1 (G1 fy 5) (C1 5 K1 (S1 (G1 fy 6) (C1 5 K1 (S1 (G1 fy 7) (C1 5 K1 (S1 (G1 fy 8) (C1 5 K1 (S1 (G1 fy 9) (C1 5 K1 (G1 fy 10))))))))))))))))) (C1 5 (S1 (G1 fy 11) .ret) (S1 (S1 (G1 fy 12) (C1 18 K1 (S1 (G1 fy 13) (C1 18 K1 (S1 (G1 fy 14) (C1 18 K1 (S1 (G1 fy 15) (C1 18 K1 (S1 (G1 fy 16) (C1 18 K1 (S1 (G1 fy 17) (C1 18 K1 (S1 (G1 fy 18) (C1 18 K1 (S1 (G1 fy 19) (C1 18 K1 (S1 (G1 fy 20) (C1 18 K1 (S1 (G1 fy 21) (C1 18 K1 (S1 (G1 fy 22) (C1 18 K1 (S1 (G1 fy 23) (C1 18 K1 (G1 fy 24))))))))))))))))))))))))) (C1 18 (S1 (G1 fy 25) .ret) (S1 (G1 fy 26) (C1 37 (S1 (G1 fy 27) .ret) (S1 (G1 fy 28) (C1 43 (S1 (G1 fy 29) .ret) K1)))))))))) (S1 (G1 fy 30) .ret))):=kr
theorem ah4:gm=(S1 (G1 gm 0) (S1 (S1 (G1 gm 1) (B1 0 (S1 (S1 (G1 gm 2) (C1 5 K1 (S1 (G1 gm 3) (C1 5 K1 (S1 (G1 gm 4) (C1 5 K1 (S1 (G1 gm 5) (C1 5 K1 (S1 (G1 gm 6) (C1 5 K1 (S1 (G1 gm 7) (C1 5 K1 (S1 (G1 gm 8) (C1 5 K1 (S1 (G1 gm 9) (C1 5 K1 (S1 (G1 gm 10) (C1 5 K1 (S1 (G1 gm 11) (C1 5 K1 (S1 (G1 gm 12) (C1 5 K1 (S1 (G1 gm 13) (C1 5 K1 (S1 (G1 gm 14) (C1 5 K1 (S1 (G1 gm 15) (C1 5 K1 (G1 gm 16))))))))))))))))))))))))))))) (C1 5 (S1 (G1 gm 17) .ret) (S1 (S1 (G1 gm 18) (C1 23 K1 (S1 (G1 gm 19) (C1 23 K1 (S1 (G1 gm 20) (C1 23 K1 (S1 (G1 gm 21) (C1 23 K1 (S1 (G1 gm 22) (C1 23 K1 (S1 (G1 gm 23) (C1 23 K1 (G1 gm 24))))))))))))) (C1 23 (S1 (G1 gm 25) .ret) K1)))))) (S1 (G1 gm 26) .ret))):=kr
theorem ahC:gB=(S1 (G1 gB 0) (S1 (S1 (G1 gB 1) (B1 0 (S1 (S1 (G1 gB 2) (C1 5 K1 (S1 (G1 gB 3) (C1 5 K1 (S1 (G1 gB 4) (C1 5 K1 (S1 (G1 gB 5) (C1 5 K1 (S1 (G1 gB 6) (C1 5 K1 (S1 (G1 gB 7) (C1 5 K1 (S1 (G1 gB 8) (C1 5 K1 (S1 (G1 gB 9) (C1 5 K1 (S1 (G1 gB 10) (C1 5 K1 (S1 (G1 gB 11) (C1 5 K1 (S1 (G1 gB 12) (C1 5 K1 (S1 (G1 gB 13) (C1 5 K1 (S1 (G1 gB 14) (C1 5 K1 (S1 (G1 gB 15) (C1 5 K1 (S1 (G1 gB 16) (C1 5 K1 (S1 (G1 gB 17) (C1 5 K1 (S1 (G1 gB 18) (C1 5 K1 (S1 (G1 gB 19) (C1 5 K1 (S1 (G1 gB 20) (C1 5 K1 (S1 (G1 gB 21) (C1 5 K1 (S1 (G1 gB 22) (C1 5 K1 (G1 gB 23))))))))))))))))))))))))))))))))))))))))))) (C1 5 (S1 (G1 gB 24) .ret) K1)))) (S1 (G1 gB 25) .ret))):=kr
theorem aib:lR=(S1 (G1 lR 0) (S1 (S1 (G1 lR 1) (B1 0 (S1 (S1 (G1 lR 2) (C1 5 K1 (S1 (G1 lR 3) (C1 5 K1 (G1 lR 4))))) (C1 5 (S1 (G1 lR 5) .ret) (S1 (G1 lR 6) (C1 12 (S1 (G1 lR 7) (C1 16 (S1 (G1 lR 8) .ret) K1)) (S1 (G1 lR 9) (C1 20 (S1 (G1 lR 10) .ret) (S1 (S1 (G1 lR 11) (C1 25 K1 (G1 lR 12))) (C1 25 (S1 (G1 lR 13) .ret) K1)))))))))) (S1 (G1 lR 14) .ret))):=kr
theorem ahI:lz=(S1 (G1 lz 0) (S1 (S1 (G1 lz 1) (B1 0 (S1 (S1 (G1 lz 2) (C1 5 K1 (S1 (G1 lz 3) (C1 5 K1 (G1 lz 4))))) (C1 5 (S1 (G1 lz 5) .ret) (S1 (G1 lz 6) (C1 12 (S1 (S1 (G1 lz 7) (C1 16 (S1 (G1 lz 8) .ret) K1)) (S1 (G1 lz 9) .ret)) (S1 (G1 lz 10) (C1 20 (S1 (G1 lz 11) .ret) (S1 (S1 (G1 lz 12) (C1 25 K1 (G1 lz 13))) (C1 25 (S1 (G1 lz 14) .ret) K1)))))))))) (S1 (G1 lz 15) .ret))):=kr
theorem ah6:qd=(S1 (G1 qd 0) (S1 (S1 (G1 qd 1) (B1 0 (S1 (G1 qd 2) (C1 5 (S1 (G1 qd 3) .ret) (S1 (S1 (G1 qd 4) (C1 10 K1 (G1 qd 5))) (C1 10 (S1 (G1 qd 6) .ret) (S1 (G1 qd 7) (C1 15 (S1 (G1 qd 8) .ret) K1)))))))) (S1 (G1 qd 9) .ret))):=kr
theorem ahE:qe=(S1 (G1 qe 0) (S1 (S1 (G1 qe 1) (B1 0 (S1 (G1 qe 2) (C1 5 (S1 (G1 qe 3) .ret) (S1 (S1 (G1 qe 4) (C1 10 K1 (G1 qe 5))) (C1 10 (S1 (G1 qe 6) .ret) (S1 (G1 qe 7) (C1 15 (S1 (G1 qe 8) .ret) K1)))))))) (S1 (G1 qe 9) .ret))):=kr
theorem ah8:yh=(S1 (G1 yh 0) (S1 (S1 (G1 yh 1) (C1 4 (S1 (G1 yh 2) .ret) K1)) (S1 (G1 yh 3) .ret))):=kr
end Go.Proofs.Tryz.K
namespace Go.Abs
open Go.Argus
class V{α:Type}(x:α)(y:outParam α):Prop where h:x=y
section
variable{P:Program}{Y:gd}{ops:Array Oper}{dr:Bool}{cf:List (Nat×Nat)}{Q:Exit->St->Prop}{r:List Oper}{v:Env}{m:Mem}{n:Nat}{q:ma}{x:Oper}{s:St}{e:List Nat×List Nat}
variable{t:Option Nat}{u:Nat}{ty:TypeId}{pos:String}{after:Array Edge}{j:Nat}{b c:Bool}{op:Op}
def SO(P:Program)(Y:gd)(ops:Array Oper)(dr:Bool)(o:Oper)(v:Env)(m:Mem)(n:Nat)(s:St)(e:List Nat×List Nat):Prop:=
 ∀ cf Q r q,aw P Y ops dr cf Q r s (q++[e])->aw P Y ops dr cf Q (o::r) ⟨v,m,n⟩ q
theorem ak{l:List Operand}(h:iY v l:=by repeat' (first|exact trivial|exact hc|exact rfl|refine And.intro ?_ ?_)):iY v l:=h
theorem z(K:∀ (x:D) rd,aw P Y ops dr cf Q r (St.put ⟨v,m,n⟩ t (.cG false x)) (q++[(rd,[])]))(hj:(ops[j]?).bind (·.dst)=some u:=by exact rfl)(hg:ku (v u) b=some false:=by exact rfl):
 aw P Y ops dr cf Q (⟨t,op,ty,pos,after,some (j,b)⟩::r) ⟨v,m,n⟩ q:=TK hj hg K
theorem cl{f:FuncId}{gs:List D}{d:D}{t:Nat}(h:ax P f gs d)(K:aw P Y ops dr cf Q r ⟨up v t d,m,n⟩ (q++[([],[])]))(hc:dx (bC v op) op=some (f,gs):=by exact rfl)(ha:iY v op.operands.toList:=by exact ak):
 aw P Y ops dr cf Q (⟨some t,op,ty,pos,after,none⟩::r) ⟨v,m,n⟩ q:=CV h hc ha K
theorem gc{f:FuncId}{gs:List D}{d:D}{t:Nat}(h:ax P f gs d)(K:aw P Y ops dr cf Q r ⟨up v t (.cG c d),m,n⟩ (q++[([],[])]))(hj:(ops[j]?).bind (·.dst)=some u:=by exact rfl)(hg:ku (v u) b=some c:=by exact rfl)(hl:dx (bC v op) op=some (f,gs):=by exact rfl)(ha:c=true->iY v op.operands.toList:=by exact fun hc=>ak):
 aw P Y ops dr cf Q (⟨some t,op,ty,pos,after,some (j,b)⟩::r) ⟨v,m,n⟩ q:=uh hj hg hl (fun hc=>⟨ha hc,h⟩) K
variable{rf:Bool}{W:Exit->St->Prop}{o:Array Oper}{B:Code}{i:Nat}{k:St}
theorem ws[eB Y](h:aw P Y o false [] (gF fun k=>AW P Y rf B W k) o.toList k []):AW P Y rf (.seq (.region i o false) B) W k:=al h
theorem er[eB Y](h:aw P Y o false [] (gF fun k=>AW P Y rf B W k) o.toList k []):aw P Y ops dr [] (gF fun k=>AW P Y rf (.seq (.region i o false) B) W k) [] k q:=ab (al h)
end
end Go.Abs
theorem eH{p:Prop}(h:p:=by repeat' (first|exact trivial|exact rfl|refine And.intro ?_ ?_)):p:=h
namespace Go.Proofs.Tryz.K
open Go.Abs
theorem kR{α:Sort _}{a b:α}(h:a=b:=by kernel_rfl):a=b:=h
instance:V (prog.cellsOf 1) 1:=⟨kR⟩
instance:V (bG prog 1) false:=⟨a1⟩
instance:V (aG prog 1) true:=⟨kR⟩
instance:V (prog.bytesOf 1) 8:=⟨b1⟩
instance:V (prog.cellsOf 2) 1:=⟨kR⟩
instance:V (prog.bytesOf 2) 8:=⟨b2⟩
instance:V (bG prog 2) false:=⟨a2⟩
instance:V (aG prog 2) true:=⟨t2⟩
instance:V (aZ prog 2) [.s (.int .i64 0)]:=⟨z2⟩
instance:V (prog.cellsOf 3) 1:=⟨c3⟩
instance:V (prog.bytesOf 3) 8:=⟨b3⟩
instance:V (bG prog 3) false:=⟨a3⟩
instance:V (aG prog 3) true:=⟨t3⟩
instance:V (aZ prog 3) [.s (.int .i64 0)]:=⟨z3⟩
instance:V (prog.cellsOf 4) 1:=⟨c4⟩
instance:V (prog.bytesOf 4) 1:=⟨b4⟩
instance:V (bG prog 4) false:=⟨a4⟩
instance:V (aG prog 4) true:=⟨t4⟩
instance:V (aZ prog 4) [.s (.bool false)]:=⟨z4⟩
instance:V (tm prog 4) true:=⟨kR⟩
instance:V (prog.cellsOf 5) 1:=⟨c5⟩
instance:V (prog.bytesOf 5) 1:=⟨b5⟩
instance:V (bG prog 5) false:=⟨a5⟩
instance:V (aG prog 5) true:=⟨t5⟩
instance:V (aZ prog 5) [.s (.int .u8 0)]:=⟨z5⟩
instance:V (prog.bytesOf 6) 1:=⟨b6⟩
instance:V (prog.cellsOf 9) 1:=⟨kR⟩
instance:V (bG prog 9) false:=⟨a9⟩
instance:V (aG prog 9) true:=⟨t9⟩
instance:V (aZ prog 9) [.s (.string "".toUTF8)]:=⟨z9⟩
instance:V (fG prog 9) true:=⟨kR⟩
instance:V (av prog 15) 381:=⟨EA⟩
instance:V (av prog 16) 384:=⟨EB⟩
instance:V (av prog 17) 392:=⟨Ez⟩
instance:V (prog.cellsOf 22) 1:=⟨kR⟩
instance:V (bG prog 22) false:=⟨kR⟩
instance:V (aG prog 22) true:=⟨kR⟩
instance:V (av prog 22) 5:=⟨VP⟩
instance:V (bm prog 22) true:=⟨UP⟩
instance:V (prog.cellsOf 23) 1:=⟨kR⟩
instance:V (bG prog 23) false:=⟨kR⟩
instance:V (aG prog 23) true:=⟨kR⟩
instance:V (av prog 23) 9:=⟨vr⟩
instance:V (bm prog 23) true:=⟨kR⟩
instance:V (prog.cellsOf 24) 1:=⟨kR⟩
instance:V (bG prog 24) false:=⟨kR⟩
instance:V (aG prog 24) true:=⟨kR⟩
instance:V (av prog 24) 69:=⟨kR⟩
instance:V (bm prog 24) true:=⟨kR⟩
instance:V (prog.cellsOf 26) 8:=⟨c26⟩
instance:V (bG prog 26) true:=⟨a26⟩
instance:V (aG prog 26) true:=⟨t26⟩
instance:V (aZ prog 26) [.s (.string "".toUTF8),.s (.bool false),.s (.int .i64 0),.s (.int .u8 0),.z,.z,.z,.z]:=⟨kR⟩
instance:V (cH prog 26 0) (some (0,9)):=⟨kR⟩
instance:V (cH prog 26 1) (some (1,4)):=⟨kR⟩
instance:V (cH prog 26 2) (some (2,3)):=⟨kR⟩
instance:V (cH prog 26 3) (some (3,5)):=⟨kR⟩
instance:V (cH prog 26 4) (some (4,22)):=⟨kR⟩
instance:V (cH prog 26 5) (some (5,22)):=⟨kR⟩
instance:V (cH prog 26 6) (some (6,23)):=⟨kR⟩
instance:V (cH prog 26 7) (some (7,24)):=⟨kR⟩
instance:V (bG prog 31) false:=⟨a31⟩
instance:V (aG prog 31) true:=⟨t31⟩
instance:V (aZ prog 31) [.z]:=⟨z31⟩
instance:V (av prog 31) 26:=⟨r6⟩
instance:V (bm prog 31) true:=⟨kR⟩
instance:V (prog.cellsOf 35) 1:=⟨jY⟩
instance:V (prog.bytesOf 35) 24:=⟨NH⟩
instance:V (bG prog 35) false:=⟨pO⟩
instance:V (aG prog 35) true:=⟨t35⟩
instance:V (aZ prog 35) [.z]:=⟨kR⟩
instance:V (av prog 35) 3:=⟨cV⟩
instance:V (bm prog 35) true:=⟨de⟩
instance:V (bG prog 37) true:=⟨a37⟩
instance:V (aG prog 37) true:=⟨t37⟩
instance:V (aZ prog 37) [.s (.int .u8 0),.s (.int .i64 0)]:=⟨z37⟩
instance:V (prog.cellsOf 45) 6:=⟨kR⟩
instance:V (bG prog 45) true:=⟨kR⟩
instance:V (aG prog 45) true:=⟨kR⟩
instance:V (aZ prog 45) [.s (.int .u8 0),.s (.int .i64 0),.s (.int .i64 0),.s (.int .i64 0),.s (.int .i64 0),.z]:=⟨kR⟩
instance:V (cH prog 45 0) (some (0,5)):=⟨kR⟩
instance:V (cH prog 45 1) (some (1,3)):=⟨kR⟩
instance:V (cH prog 45 2) (some (2,3)):=⟨LJ⟩
instance:V (cH prog 45 3) (some (3,3)):=⟨LK⟩
instance:V (cH prog 45 4) (some (4,3)):=⟨kR⟩
instance:V (cH prog 45 5) (some (5,35)):=⟨Dd⟩
instance:V (prog.cellsOf 46) 1:=⟨kR⟩
instance:V (bG prog 46) false:=⟨a46⟩
instance:V (aG prog 46) true:=⟨t46⟩
instance:V (aZ prog 46) [.z]:=⟨z46⟩
instance:V (av prog 46) 82:=⟨kR⟩
instance:V (bm prog 46) true:=⟨kR⟩
instance:V (prog.cellsOf 48) 15:=⟨kR⟩
instance:V (bG prog 48) true:=⟨kR⟩
instance:V (aG prog 48) true:=⟨kR⟩
instance:V (aZ prog 48) [.s (.int .u8 0),.s (.int .i64 0),.s (.int .i64 0),.s (.int .i64 0),.s (.int .i64 0),.s (.string "".toUTF8),.s (.int .u8 0),.s (.int .i64 0),.s (.int .i64 0),.s (.int .i64 0),.s (.int .i64 0),.z,.z,.z,.s (.int .i64 0)]:=⟨kR⟩
instance:V (cH prog 48 0) (some (0,5)):=⟨kR⟩
instance:V (cH prog 48 1) (some (1,3)):=⟨kR⟩
instance:V (cH prog 48 2) (some (2,3)):=⟨kR⟩
instance:V (cH prog 48 3) (some (3,3)):=⟨kR⟩
instance:V (cH prog 48 4) (some (4,3)):=⟨kR⟩
instance:V (cH prog 48 5) (some (5,9)):=⟨kR⟩
instance:V (cH prog 48 6) (some (6,45)):=⟨kR⟩
instance:V (cH prog 48 7) (some (12,35)):=⟨LL⟩
instance:V (cH prog 48 8) (some (13,46)):=⟨kR⟩
instance:V (cH prog 48 9) (some (14,3)):=⟨kR⟩
instance:V (bG prog 51) false:=⟨a51⟩
instance:V (aG prog 51) true:=⟨t51⟩
instance:V (aZ prog 51) [.s .nilFunc]:=⟨z51⟩
instance:V (bG prog 53) false:=⟨a53⟩
instance:V (aG prog 53) true:=⟨t53⟩
instance:V (aZ prog 53) [.s .nilFunc]:=⟨z53⟩
instance:V (prog.cellsOf 63) 1:=⟨zB⟩
instance:V (bG prog 63) false:=⟨Ey⟩
instance:V (aG prog 63) true:=⟨t63⟩
instance:V (av prog 63) 4:=⟨zA⟩
instance:V (bm prog 63) true:=⟨yV⟩
instance:V (prog.cellsOf 67) 1:=⟨kR⟩
instance:V (bG prog 67) false:=⟨kR⟩
instance:V (aG prog 67) true:=⟨kR⟩
instance:V (av prog 67) 45:=⟨kR⟩
instance:V (bm prog 67) true:=⟨kR⟩
instance:V (prog.cellsOf 69) 16:=⟨kR⟩
instance:V (bG prog 69) true:=⟨kR⟩
instance:V (aG prog 69) true:=⟨kR⟩
instance:V (aZ prog 69) [.z,.s (.int .u8 0),.s (.int .i64 0),.s (.int .i64 0),.s (.int .i64 0),.s (.int .i64 0),.s (.string "".toUTF8),.s (.int .u8 0),.s (.int .i64 0),.s (.int .i64 0),.s (.int .i64 0),.s (.int .i64 0),.z,.z,.z,.s (.int .i64 0)]:=⟨kR⟩
instance:V (cH prog 69 0) (some (0,67)):=⟨kR⟩
instance:V (cH prog 69 1) (some (1,48)):=⟨kR⟩
instance:V (bG prog 70) false:=⟨a70⟩
instance:V (aG prog 70) true:=⟨t70⟩
instance:V (aZ prog 70) [.s .nilFunc]:=⟨z70⟩
instance:V (bG prog 72) false:=⟨a72⟩
instance:V (aG prog 72) true:=⟨t72⟩
instance:V (aZ prog 72) [.s .nilFunc]:=⟨z72⟩
instance:V (bG prog 75) false:=⟨a75⟩
instance:V (aG prog 75) true:=⟨t75⟩
instance:V (aZ prog 75) [.s .nilFunc]:=⟨z75⟩
instance:V (bG prog 76) false:=⟨a76⟩
instance:V (aG prog 76) true:=⟨t76⟩
instance:V (aZ prog 76) [.s .nilFunc]:=⟨z76⟩
instance:V (prog.cellsOf 82) 2:=⟨kR⟩
instance:V (bG prog 82) true:=⟨kR⟩
instance:V (aG prog 82) true:=⟨kR⟩
instance:V (aZ prog 82) [.s (.string "".toUTF8),.s (.int .i64 0)]:=⟨kR⟩
instance:V (cH prog 82 0) (some (0,9)):=⟨kR⟩
instance:V (cH prog 82 1) (some (1,3)):=⟨kR⟩
instance:V (prog.cellsOf 91) 1:=⟨kR⟩
instance:V (bG prog 91) false:=⟨kR⟩
instance:V (aG prog 91) true:=⟨kR⟩
instance:V (prog.cellsOf 93) 10:=⟨VR⟩
instance:V (bG prog 93) true:=⟨a93⟩
instance:V (aG prog 93) true:=⟨t93⟩
instance:V (aZ prog 93) [.s (.string "".toUTF8),.s (.bool false),.s (.int .i64 0),.s (.int .u8 0),.z,.z,.z,.z,.s (.map none),.s (.map none)]:=⟨kR⟩
instance:V (cH prog 93 0) (some (0,26)):=⟨kR⟩
instance:V (cH prog 93 1) (some (8,91)):=⟨kR⟩
instance:V (cH prog 93 2) (some (9,91)):=⟨kR⟩
instance:V (av prog 94) 99:=⟨kR⟩
instance:V (bm prog 94) true:=⟨kR⟩
instance:V (prog.cellsOf 96) 1:=⟨kR⟩
instance:V (bG prog 96) false:=⟨kR⟩
instance:V (aG prog 96) true:=⟨kR⟩
instance:V (av prog 96) 35:=⟨kR⟩
instance:V (bm prog 96) true:=⟨kR⟩
instance:V (prog.cellsOf 99) 2:=⟨lM⟩
instance:V (prog.bytesOf 99) 32:=⟨V0⟩
instance:V (bG prog 99) true:=⟨r5⟩
instance:V (aG prog 99) true:=⟨t99⟩
instance:V (aZ prog 99) [.s (.bool false),.z]:=⟨NT⟩
instance:V (cH prog 99 0) (some (0,4)):=⟨LH⟩
instance:V (cH prog 99 1) (some (1,63)):=⟨LI⟩
instance:V (bG prog 127) false:=⟨a127⟩
instance:V (aG prog 127) true:=⟨t127⟩
instance:V (aZ prog 127) [.z]:=⟨z127⟩
instance:V (bG prog 164) false:=⟨a164⟩
instance:V (aG prog 164) true:=⟨t164⟩
instance:V (aZ prog 164) [.s .nilFunc]:=⟨z164⟩
instance:V (bG prog 171) false:=⟨a171⟩
instance:V (aG prog 171) true:=⟨t171⟩
instance:V (aZ prog 171) [.s .nilFunc]:=⟨z171⟩
instance:V (bG prog 173) true:=⟨a173⟩
instance:V (aG prog 173) true:=⟨t173⟩
instance:V (aZ prog 173) []:=⟨z173⟩
instance:V (av prog 196) 201:=⟨kR⟩
instance:V (bm prog 196) true:=⟨kR⟩
instance:V (prog.cellsOf 199) 1:=⟨kR⟩
instance:V (bG prog 199) false:=⟨kR⟩
instance:V (aG prog 199) true:=⟨kR⟩
instance:V (prog.cellsOf 201) 20:=⟨rB⟩
instance:V (prog.bytesOf 201) 160:=⟨UM⟩
instance:V (bG prog 201) true:=⟨a201⟩
instance:V (aG prog 201) true:=⟨t201⟩
instance:V (aZ prog 201) [.s (.int .u64 0),.s (.int .u64 0),.s (.int .u64 0),.s (.int .u64 0),.s (.int .u64 0),.s (.int .u64 0),.s (.int .u64 0),.s (.int .u64 0),.s (.int .u64 0),.s (.int .u64 0),.s (.int .u64 0),.s (.int .u64 0),.s (.int .u64 0),.s (.int .u64 0),.s (.int .u64 0),.s (.int .u64 0),.s (.int .u64 0),.s (.int .u64 0),.s (.int .u64 0),.s (.int .u64 0)]:=⟨z201⟩
instance:V (av prog 201) 199:=⟨kR⟩
instance:V (nM prog 201) true:=⟨kR⟩
instance:V (oz prog 201) 20:=⟨kR⟩
instance:V (prog.cellsOf 206) 9:=⟨kR⟩
instance:V (bG prog 206) true:=⟨kR⟩
instance:V (aG prog 206) true:=⟨kR⟩
instance:V (aZ prog 206) [.s (.string "".toUTF8),.s (.bool false),.s (.int .i64 0),.s (.int .u8 0),.z,.z,.z,.z,.z]:=⟨kR⟩
instance:V (cH prog 206 0) (some (0,26)):=⟨kR⟩
instance:V (cH prog 206 1) (some (8,96)):=⟨kR⟩
instance:V (bG prog 212) false:=⟨a212⟩
instance:V (aG prog 212) true:=⟨t212⟩
instance:V (aZ prog 212) [.s .nilFunc]:=⟨z212⟩
instance:V (bG prog 213) false:=⟨a213⟩
instance:V (aG prog 213) true:=⟨t213⟩
instance:V (aZ prog 213) [.s (.map none)]:=⟨z213⟩
instance:V (bG prog 233) false:=⟨a233⟩
instance:V (aG prog 233) true:=⟨t233⟩
instance:V (aZ prog 233) [.s .nilFunc]:=⟨z233⟩
instance:V (prog.cellsOf 235) 6:=⟨kR⟩
instance:V (bG prog 235) true:=⟨MR⟩
instance:V (aG prog 235) true:=⟨kR⟩
instance:V (aZ prog 235) [.s (.int .i64 0),.s (.int .i64 0),.s (.int .i64 0),.s (.int .i64 0),.s (.int .i64 0),.s (.int .i64 0)]:=⟨MS⟩
instance:V (cH prog 235 0) (some (0,3)):=⟨kR⟩
instance:V (cH prog 235 1) (some (1,3)):=⟨kR⟩
instance:V (cH prog 235 2) (some (2,3)):=⟨kR⟩
instance:V (cH prog 235 3) (some (3,3)):=⟨kR⟩
instance:V (cH prog 235 4) (some (4,3)):=⟨kR⟩
instance:V (cH prog 235 5) (some (5,3)):=⟨kR⟩
instance:V (prog.underlying 2) (some (.int .i64)):=⟨kR⟩
instance:V (prog.underlying 3) (some (.int .i64)):=⟨kR⟩
instance:V (prog.underlying 5) (some (.int .u8)):=⟨u5⟩
instance:V (prog.underlying 8) (some (.struct (ky prog 8))):=⟨u8⟩
instance:V (prog.underlying 22) (some (.slice 5)):=⟨kR⟩
instance:V (prog.underlying 26) (some (.struct (ky prog 26))):=⟨kR⟩
instance:V (((ky prog 26).toList.map fun f=>(f.offset,prog.cellsOf f.type))) [(0,1),(1,1),(2,1),(3,1),(4,1),(5,1),(6,1),(7,1)]:=⟨kR⟩
instance:V (((ky prog 26).toList.all fun f=>(prog.info? f.type).isSome)) true:=⟨kR⟩
instance:V (prog.underlying 45) (some (.struct (ky prog 45))):=⟨kR⟩
instance:V (((ky prog 45).toList.map fun f=>(f.offset,prog.cellsOf f.type))) [(0,1),(1,1),(2,1),(3,1),(4,1),(5,1)]:=⟨kR⟩
instance:V (((ky prog 45).toList.all fun f=>(prog.info? f.type).isSome)) true:=⟨kR⟩
instance:V (prog.underlying 62) (some (.int .u64)):=⟨kR⟩
instance:V (gC prog 91) 5:=⟨kR⟩
instance:V (jv prog 91) true:=⟨kR⟩
instance:V (sW prog 91) 235:=⟨MQ⟩
instance:V (prog.underlying 93) (some (.struct (ky prog 93))):=⟨kR⟩
instance:V (((ky prog 93).toList.map fun f=>(f.offset,prog.cellsOf f.type))) [(0,8),(8,1),(9,1)]:=⟨kR⟩
instance:V (((ky prog 93).toList.all fun f=>(prog.info? f.type).isSome)) true:=⟨kR⟩
instance:V (prog.underlying 99) (some (.struct (ky prog 99))):=⟨VT⟩
instance:V (((ky prog 99).toList.map fun f=>(f.offset,prog.cellsOf f.type))) [(0,1),(1,1)]:=⟨UR⟩
instance:V (((ky prog 99).toList.all fun f=>(prog.info? f.type).isSome)) true:=⟨US⟩
instance:V (gC prog 193) 3:=⟨LC⟩
instance:V (jv prog 193) true:=⟨LD⟩
instance:V (prog.underlying 206) (some (.struct (ky prog 206))):=⟨kR⟩
instance:V (((ky prog 206).toList.map fun f=>(f.offset,prog.cellsOf f.type))) [(0,8),(8,1)]:=⟨kR⟩
instance:V (((ky prog 206).toList.all fun f=>(prog.info? f.type).isSome)) true:=⟨kR⟩
instance:V (prog.underlying 235) (some (.struct (ky prog 235))):=⟨kR⟩
instance:V (((ky prog 235).toList.map fun f=>(f.offset,prog.cellsOf f.type))) [(0,1),(1,1),(2,1),(3,1),(4,1),(5,1)]:=⟨kR⟩
instance:V (((ky prog 235).toList.all fun f=>(prog.info? f.type).isSome)) true:=⟨kR⟩
theorem sk4:aiP=(S1 (G1 aiP 0) (S1 (S1 (G1 aiP 1) (C1 21 (S1 (G1 aiP 2) .ret) K1)) (S1 (S1 (G1 aiP 3) (C1 25 (S1 (G1 aiP 4) (S1 (G1 aiP 5) .ret)) K1)) (S1 (G1 aiP 6) (S1 (G1 aiP 7) (S1 (G1 aiP 8) .ret)))))):=kr
theorem agT:ly=(S1 (G1 ly 0) (S1 (S1 (G1 ly 1) (C1 34 (S1 (G1 ly 2) .ret) K1)) (S1 (S1 (G1 ly 3) (B1 0 (.loop (S1 (G1 ly 4) (S1 (C1 39 K1 (X1 0)) (S1 (B1 1 (S1 (G1 ly 5) (S1 (S1 (G1 ly 6) (C1 86 (S1 (G1 ly 7) .ret) K1)) (S1 (G1 ly 8) (B1 2 (.loop (S1 (G1 ly 9) (S1 (C1 91 K1 (X1 2)) (S1 (B1 3 (S1 (G1 ly 10) (S1 (G1 ly 11) (C1 97 (S1 (G1 ly 12) .ret) K1)))) (G1 ly 13)))))))))) (G1 ly 14))))))) (S1 (G1 ly 15) .ret)))):=kr
theorem ahr:vX=(S1 (G1 vX 0) (S1 (B1 0 (S1 (G1 vX 1) (C1 3 (S1 (G1 vX 2) .ret) (S1 (G1 vX 3) (C1 7 (S1 (G1 vX 4) .ret) K1))))) (S1 (G1 vX 5) .ret))):=kr
theorem Y5:cg (Z ei 16)=some [(17,19)]:=kr
theorem Y6:cg (Z ei 18)=some [(0,2)]:=kr
theorem Y7:cg (Z ei 26)=some [(0,9)]:=kr
theorem Y8:cg (Z ei 27)=some []:=kr
theorem Y9:cg (Z ei 29)=some [(0,7)]:=kr
theorem ahY:ei=(S1 (G1 ei 0) (S1 (G1 ei 1) (S1 (S1 (G1 ei 2) (C1 17 (S1 (G1 ei 3) .ret) K1)) (S1 (G1 ei 4) (S1 (G1 ei 5) (S1 (S1 (G1 ei 6) (B1 0 (.loop (S1 (S1 (G1 ei 7) (C1 26 K1 (X1 0))) (S1 (B1 1 (S1 (S1 (G1 ei 9) (C1 33 (X1 1) K1)) (S1 (G1 ei 10) (S1 (G1 ei 11) (S1 (S1 (G1 ei 12) (B1 2 (.loop (S1 (S1 (G1 ei 13) (C1 47 K1 (X1 2))) (S1 (B1 3 (S1 (G1 ei 15) (S1 (S1 (G2 ei 16) (C1 76 (S1 (G1 ei 17) .ret) K1)) (S1 (G2 ei 18) (S1 (S1 (G1 ei 19) (C1 83 (G1 ei 20) K1)) (S1 (G1 ei 21) (B1 4 (.loop (S1 (S1 (G1 ei 22) (C1 101 K1 (X1 4))) (S1 (B1 5 (S1 (G1 ei 24) (S1 (S1 (G1 ei 25) (C1 115 (X1 5) K1)) (S1 (G2 ei 26) (S1 (G2 ei 27) (C1 136 (S1 (G1 ei 28) .ret) K1)))))) (G1 ei 23))))))))))) (G1 ei 14)))))) (S1 (G2 ei 29) (C1 146 (S1 (G1 ei 30) .ret) K1))))))) (G1 ei 8)))))) (S1 (G1 ei 31) .ret))))))):=kr
theorem akX:ajq=(S1 (G1 ajq 0) (S1 (G1 ajq 1) .ret)):=kr
theorem aj5:cg (Z aiw 9)=some []:=kr
theorem ak':aiw=(S1 (G1 aiw 0) (S1 (S1 (G1 aiw 1) (C1 11 (S1 (G1 aiw 2) .ret) K1)) (S1 (S1 (G1 aiw 3) (B1 0 (.loop (S1 (G1 aiw 4) (S1 (C1 15 K1 (X1 0)) (S1 (B1 1 (S1 (G1 aiw 5) (S1 (S1 (G1 aiw 6) (S1 (G1 aiw 7) (C1 22 (S1 (G1 aiw 8) .ret) K1))) (S1 (G2 aiw 9) (C1 37 (S1 (G1 aiw 10) .ret) K1))))) (G1 aiw 11))))))) (S1 (S1 (G1 aiw 12) (B1 2 (.loop (S1 (G1 aiw 13) (S1 (C1 43 K1 (X1 2)) (S1 (B1 3 (S1 (G1 aiw 14) (S1 (G1 aiw 15) (C1 51 (S1 (G1 aiw 16) .ret) K1)))) (G1 aiw 17))))))) (S1 (G1 aiw 18) .ret))))):=kr
theorem aj6:cg (Z aiy 9)=some []:=kr
theorem ale:aiy=(S1 (G1 aiy 0) (S1 (S1 (G1 aiy 1) (C1 10 (S1 (G1 aiy 2) .ret) K1)) (S1 (S1 (G1 aiy 3) (B1 0 (.loop (S1 (S1 (G1 aiy 4) (C1 14 K1 (X1 0))) (S1 (B1 1 (S1 (G1 aiy 6) (S1 (S1 (G1 aiy 7) (C1 23 (S1 (G1 aiy 8) .ret) K1)) (S1 (G2 aiy 9) (C1 41 (S1 (G1 aiy 10) .ret) K1))))) (G1 aiy 5)))))) (S1 (S1 (G1 aiy 11) (B1 2 (.loop (S1 (S1 (G1 aiy 12) (C1 46 K1 (X1 2))) (S1 (B1 3 (S1 (G1 aiy 14) (S1 (G1 aiy 15) (C1 56 (S1 (G1 aiy 16) .ret) K1)))) (G1 aiy 13)))))) (S1 (G1 aiy 17) .ret))))):=kr
theorem YL:cg (Z dS 10)=some []:=kr
theorem YM:cg (Z dS 32)=some []:=kr
theorem aho:dS=(S1 (G1 dS 0) (S1 (G1 dS 1) (S1 (G1 dS 2) (S1 (S1 (G1 dS 3) (C1 71 (S1 (G1 dS 4) .ret) K1)) (S1 (S1 (G1 dS 5) (C1 101 (S1 (G1 dS 6) .ret) K1)) (S1 (S1 (G1 dS 7) (B1 0 (.loop (S1 (S1 (G1 dS 8) (C1 106 K1 (X1 0))) (S1 (B1 1 (S1 (G2 dS 10) (C1 120 (S1 (G1 dS 11) .ret) K1))) (G1 dS 9)))))) (S1 (G1 dS 12) (S1 (S1 (G1 dS 13) (B1 2 (.loop (S1 (G1 dS 14) (S1 (C1 126 K1 (X1 2)) (S1 (B1 3 (S1 (G1 dS 15) (S1 (S1 (G1 dS 16) (C1 139 (S1 (G1 dS 17) .ret) K1)) (S1 (G1 dS 18) (C1 143 (S1 (S1 (G1 dS 19) (C1 148 (S1 (G1 dS 20) .ret) K1)) (G1 dS 21)) K1))))) (G1 dS 22))))))) (S1 (G1 dS 23) (S1 (S1 (G1 dS 24) (B1 4 (.loop (S1 (G1 dS 25) (S1 (C1 160 K1 (X1 4)) (S1 (B1 5 (S1 (G1 dS 26) (S1 (G1 dS 27) (S1 (G1 dS 28) (B1 6 (.loop (S1 (G1 dS 29) (S1 (C1 168 K1 (X1 6)) (S1 (B1 7 (S1 (G1 dS 30) (S1 (G1 dS 31) (S1 (G2 dS 32) (C1 187 (S1 (G1 dS 33) .ret) K1))))) (G1 dS 34)))))))))) (G1 dS 35))))))) (S1 (G1 dS 36) .ret))))))))))):=kr
theorem aai:cg (Z gn 7)=some []:=kr
theorem YJ:cg (Z gn 17)=some []:=kr
theorem YK:cg (Z gn 18)=some [(14,15),(14,16),(14,18),(14,19)]:=kr
theorem ahl:gn=(S1 (G1 gn 0) (.scope (S1 (G1 gn 1) (S1 (G1 gn 2) (S1 (.label 0) (S1 (S1 (G1 gn 3) (B1 0 (.loop (S1 (G1 gn 4) (S1 (C1 28 K1 (X1 0)) (S1 (B1 1 (S1 (G1 gn 5) (S1 (S1 (G1 gn 6) (C1 36 (X1 1) K1)) (S1 (S1 (G2 gn 7) (S1 (G1 gn 8) (C1 47 (S1 (G1 gn 9) .ret) K1))) (S1 (G1 gn 10) (B1 2 (.loop (S1 (G1 gn 11) (S1 (C1 52 K1 (X1 2)) (S1 (B1 3 (S1 (G1 gn 12) (S1 (S1 (G1 gn 13) (C1 57 (X1 1) K1)) (S1 (G1 gn 14) (B1 4 (.loop (S1 (G1 gn 15) (S1 (C1 64 K1 (X1 4)) (S1 (B1 5 (S1 (G1 gn 16) (S1 (G2 gn 17) (S1 (G2 gn 18) (C1 104 (S1 (G1 gn 19) .ret) K1))))) (G1 gn 20)))))))))) (G1 gn 21))))))))))) (G1 gn 22))))))) (S1 (G1 gn 23) .ret))))))):=kr
theorem YV:cg (Z dT 12)=some []:=kr
theorem YW:cg (Z dT 26)=some []:=kr
theorem ahO:dT=(S1 (G1 dT 0) (S1 (G1 dT 1) (S1 (S1 (G1 dT 2) (C1 18 (S1 (G1 dT 3) .ret) K1)) (S1 (G1 dT 4) (S1 (S1 (G1 dT 5) (B1 0 (.loop (S1 (S1 (G1 dT 6) (C1 25 K1 (X1 0))) (S1 (B1 1 (S1 (G1 dT 8) (S1 (G1 dT 9) (B1 2 (.loop (S1 (S1 (G1 dT 10) (C1 38 K1 (X1 2))) (S1 (B1 3 (S1 (G2 dT 12) (S1 (G1 dT 13) (C1 48 (S1 (G1 dT 14) .ret) K1)))) (G1 dT 11)))))))) (G1 dT 7)))))) (S1 (G1 dT 15) (S1 (G1 dT 16) (S1 (S1 (G1 dT 17) (B1 4 (.loop (S1 (S1 (G1 dT 18) (C1 60 K1 (X1 4))) (S1 (B1 5 (S1 (G1 dT 20) (S1 (S1 (G1 dT 21) (C1 71 (S1 (G1 dT 22) .ret) K1)) (S1 (S1 (G1 dT 23) (B1 6 (.loop (S1 (S1 (G1 dT 24) (C1 75 K1 (X1 6))) (S1 (B1 7 (S1 (G2 dT 26) (C1 106 (S1 (G1 dT 27) .ret) K1))) (G1 dT 25)))))) (S1 (G1 dT 28) (S1 (G1 dT 29) (S1 (S1 (G1 dT 30) (C1 117 (S1 (G1 dT 31) .ret) K1)) (S1 (G1 dT 32) (C1 120 (S1 (S1 (G1 dT 33) (C1 125 (S1 (G1 dT 34) .ret) K1)) (G1 dT 35)) K1))))))))) (G1 dT 19)))))) (S1 (G1 dT 36) .ret))))))))):=kr
theorem Y0:cg (Z dU 19)=some []:=kr
theorem Y1:cg (Z dU 25)=some [(0,8)]:=kr
theorem Y2:cg (Z dU 30)=some []:=kr
theorem Y3:cg (Z dU 32)=some []:=kr
theorem ahV:dU=(S1 (G1 dU 0) (S1 (G1 dU 1) (S1 (G1 dU 2) (S1 (S1 (G1 dU 3) (B1 0 (.loop (S1 (S1 (G1 dU 4) (C1 30 K1 (X1 0))) (S1 (B1 1 (G1 dU 6)) (G1 dU 5)))))) (S1 (G1 dU 7) (S1 (S1 (G1 dU 8) (B1 2 (.loop (S1 (S1 (G1 dU 9) (C1 45 K1 (X1 2))) (S1 (B1 3 (G1 dU 11)) (G1 dU 10)))))) (S1 (S1 (G1 dU 12) (B1 4 (.loop (S1 (S1 (G1 dU 13) (C1 54 K1 (X1 4))) (B1 5 (S1 (G1 dU 14) (S1 (G1 dU 15) (B1 6 (.loop (S1 (S1 (G1 dU 16) (C1 58 K1 (X1 6))) (S1 (B1 7 (S1 (S1 (G1 dU 18) (C1 65 (X1 7) K1)) (S1 (G2 dU 19) (S1 (G1 dU 20) (S1 (G1 dU 21) (B1 8 (.loop (S1 (S1 (G1 dU 22) (C1 79 K1 (X1 8))) (S1 (B1 9 (S1 (G1 dU 24) (S1 (G2 dU 25) (S1 (G1 dU 26) (S1 (S1 (G1 dU 27) (B1 10 (.loop (S1 (S1 (G1 dU 28) (C1 106 K1 (X1 10))) (S1 (B1 11 (G2 dU 30)) (G1 dU 29)))))) (S1 (G1 dU 31) (C1 124 (S1 (G2 dU 32) (G1 dU 33)) K1))))))) (G1 dU 23)))))))))) (G1 dU 17)))))))))))) (S1 (G1 dU 34) .ret)))))))):=kr
theorem aas:cg (Z oe 9)=some [(3,14),(4,14)]:=kr
theorem ahM:oe=(S1 (G1 oe 0) (S1 (G1 oe 1) (S1 (S1 (G1 oe 2) (B1 0 (.loop (S1 (S1 (G1 oe 3) (C1 15 K1 (X1 0))) (S1 (B1 1 (S1 (G1 oe 5) (S1 (G1 oe 6) (B1 2 (.loop (S1 (S1 (G1 oe 7) (C1 24 K1 (X1 2))) (S1 (B1 3 (G2 oe 9)) (G1 oe 8)))))))) (G1 oe 4)))))) (S1 (G1 oe 10) .ret)))):=kr
theorem aaq:cg (Z sL 4)=some []:=kr
theorem ahy:sL=(S1 (G1 sL 0) (S1 (S1 (G1 sL 1) (B1 0 (.loop (S1 (S1 (G1 sL 2) (C1 9 K1 (X1 0))) (S1 (B1 1 (S1 (G2 sL 4) (C1 20 (S1 (G1 sL 5) .ret) K1))) (G1 sL 3)))))) (S1 (G1 sL 6) .ret))):=kr
theorem aar:cg (Z uj 3)=some [(2,3),(2,4),(0,5),(1,5)]:=kr
theorem ahA:uj=(S1 (G1 uj 0) (S1 (S1 (G1 uj 1) (C1 7 (S1 (G1 uj 2) .ret) K1)) (S1 (G2 uj 3) (S1 (G1 uj 4) (S1 (G1 uj 5) .ret))))):=kr
theorem YY:cg (Z og 10)=some [(0,2)]:=kr
theorem ahS:og=(S1 (G1 og 0) (S1 (G1 og 1) (S1 (G1 og 2) (S1 (G1 og 3) (S1 (S1 (G1 og 4) (B1 0 (.loop (S1 (S1 (G1 og 5) (C1 24 K1 (X1 0))) (S1 (B1 1 (G1 og 7)) (G1 og 6)))))) (S1 (S1 (G1 og 8) (C1 52 (S1 (G1 og 9) .ret) K1)) (S1 (G2 og 10) .ret))))))):=kr
theorem aau:cg (Z o5 5)=some [(0,5)]:=kr
theorem aav:cg (Z o5 7)=some []:=kr
theorem ahQ:o5=(S1 (G1 o5 0) (S1 (G1 o5 1) (S1 (S1 (G1 o5 2) (B1 0 (.loop (S1 (S1 (G1 o5 3) (C1 18 K1 (X1 0))) (S1 (B1 1 (S1 (G2 o5 5) (S1 (G1 o5 6) (C1 33 (G2 o5 7) K1)))) (G1 o5 4)))))) (S1 (G1 o5 8) .ret)))):=kr
theorem akm:ajr=(S1 (G1 ajr 0) (S1 (G1 ajr 1) .ret)):=kr
theorem akK:ajs=(S1 (G1 ajs 0) (S1 (G1 ajs 1) .ret)):=kr
theorem ajy:cg (Z agW 8)=some []:=kr
theorem ajn:cg (Z agW 15)=some []:=kr
theorem ak8:agW=(S1 (G1 agW 0) (S1 (S1 (G1 agW 1) (B1 0 (.loop (S1 (G1 agW 2) (S1 (C1 17 K1 (X1 0)) (S1 (B1 1 (S1 (G1 agW 3) (S1 (G1 agW 4) (S1 (G1 agW 5) (S1 (G1 agW 6) (B1 2 (S1 (G1 agW 7) (C1 31 (S1 (G2 agW 8) (C1 63 (S1 (G1 agW 9) .ret) K1)) (S1 (G1 agW 10) (C1 64 (S1 (G1 agW 11) (C1 80 (S1 (G1 agW 12) .ret) K1)) (S1 (G1 agW 13) (C1 81 (S1 (G1 agW 14) (S1 (G2 agW 15) (C1 103 (S1 (G1 agW 16) .ret) K1))) K1)))))))))))) (G1 agW 17))))))) (S1 (G1 agW 18) .ret))):=kr
theorem ajH:cg (Z aiq 7)=some []:=kr
theorem ajZ:cg (Z aiq 12)=some []:=kr
theorem aj0:cg (Z aiq 14)=some []:=kr
theorem aj1:cg (Z aiq 21)=some []:=kr
theorem alc:aiq=(S1 (G1 aiq 0) (S1 (S1 (G1 aiq 1) (B1 0 (.loop (S1 (S1 (G1 aiq 2) (C1 15 K1 (X1 0))) (S1 (B1 1 (S1 (G1 aiq 4) (S1 (S1 (G1 aiq 5) (C1 31 (X1 1) K1)) (S1 (G1 aiq 6) (S1 (S1 (G2 aiq 7) (C1 59 (S1 (G1 aiq 8) .ret) K1)) (S1 (S1 (G1 aiq 9) (B1 2 (.loop (S1 (S1 (G1 aiq 10) (C1 64 K1 (X1 2))) (S1 (B1 3 (S1 (G2 aiq 12) (C1 84 (S1 (G1 aiq 13) .ret) K1))) (G1 aiq 11)))))) (S1 (S1 (G2 aiq 14) (C1 106 (S1 (G1 aiq 15) .ret) K1)) (S1 (S1 (G1 aiq 16) (C1 109 (X1 1) K1)) (S1 (G1 aiq 17) (B1 4 (.loop (S1 (S1 (G1 aiq 18) (C1 114 K1 (X1 4))) (S1 (B1 5 (S1 (G1 aiq 20) (S1 (G2 aiq 21) (C1 146 (S1 (G1 aiq 22) .ret) K1)))) (G1 aiq 19)))))))))))))) (G1 aiq 3)))))) (S1 (G1 aiq 23) .ret))):=kr
theorem ahf:Gx=(S1 (G1 Gx 0) (S1 (G1 Gx 1) .ret)):=kr
theorem ak6:ai5=(S1 (G1 ai5 0) (S1 (G1 ai5 1) (S1 (S1 (G1 ai5 2) (C1 11 (S1 (G1 ai5 3) .ret) K1)) (S1 (G1 ai5 4) .ret)))):=kr
theorem agR:Gy=(S1 (G1 Gy 0) (S1 (G1 Gy 1) .ret)):=kr
theorem ahw:Gz=(S1 (G1 Gz 0) (S1 (G1 Gz 1) .ret)):=kr
theorem ala:aiV=(S1 (G1 aiV 0) (S1 (S1 (G1 aiV 1) (B1 0 (.loop (S1 (S1 (G1 aiV 2) (C1 9 K1 (X1 0))) (S1 (B1 1 (S1 (G1 aiV 4) (C1 18 (S1 (G1 aiV 5) .ret) K1))) (G1 aiV 3)))))) (S1 (G1 aiV 6) .ret))):=kr
theorem ag9:GA=(S1 (G1 GA 0) (S1 (G1 GA 1) .ret)):=kr
theorem agZ:GB=(S1 (G1 GB 0) (S1 (G1 GB 1) .ret)):=kr
theorem ahK:sM=(S1 (G1 sM 0) (S1 (G1 sM 1) (S1 (G1 sM 2) (S1 (S1 (G1 sM 3) (B1 0 (.loop (S1 (S1 (G1 sM 4) (C1 18 K1 (X1 0))) (S1 (B1 1 (G1 sM 6)) (G1 sM 5)))))) (S1 (G1 sM 7) .ret))))):=kr
theorem ahd:oh=(S1 (G1 oh 0) (S1 (G1 oh 1) (S1 (S1 (G1 oh 2) (B1 0 (.loop (S1 (G1 oh 3) (S1 (C1 18 K1 (X1 0)) (S1 (B1 1 (S1 (G1 oh 4) (S1 (G1 oh 5) (B1 2 (.loop (S1 (G1 oh 6) (S1 (C1 28 K1 (X1 2)) (S1 (B1 3 (S1 (G1 oh 7) (G1 oh 8))) (G1 oh 9))))))))) (G1 oh 10))))))) (S1 (G1 oh 11) .ret)))):=kr
theorem aeY:Ct=(S1 (G1 Ct 0) (S1 (G1 Ct 1) (S1 (G1 Ct 2) .ret))):=kr
theorem aes:FP=(S1 (G1 FP 0) (S1 (G1 FP 1) .ret)):=kr
theorem aeA:FQ=(S1 (G1 FQ 0) (S1 (G1 FQ 1) .ret)):=kr
theorem ady:FR=(S1 (G1 FR 0) (S1 (G1 FR 1) .ret)):=kr
theorem aew:FT=(S1 (G1 FT 0) (S1 (G1 FT 1) .ret)):=kr
theorem aeu:FU=(S1 (G1 FU 0) (S1 (G1 FU 1) .ret)):=kr
theorem XN:cg (Z fh 11)=some [(3,4),(3,5),(3,6)]:=kr
theorem XO:cg (Z fh 28)=some [(7,8),(7,9),(7,10)]:=kr
theorem afC:fh=(S1 (G1 fh 0) (S1 (G1 fh 1) (S1 (G1 fh 2) (S1 (S1 (G1 fh 3) (B1 0 (S1 (G1 fh 4) (C1 13 (G1 fh 5) (S1 (G1 fh 6) (C1 20 (G1 fh 7) (S1 (G1 fh 8) (C1 42 (S1 (G1 fh 9) (S1 (G1 fh 10) (C1 57 (G2 fh 11) K1))) (S1 (G1 fh 12) (C1 66 (G1 fh 13) (S1 (G1 fh 14) (C1 72 (S1 (G1 fh 15) (S1 (G1 fh 16) (G1 fh 17))) (S1 (G1 fh 18) (C1 107 (S1 (G1 fh 19) (G1 fh 20)) (S1 (G1 fh 21) (C1 153 (S1 (G1 fh 22) (G1 fh 23)) (S1 (G1 fh 24) (C1 187 (S1 (G1 fh 25) (G1 fh 26)) (S1 (G1 fh 27) (C1 224 (G2 fh 28) K1)))))))))))))))))))) (S1 (G1 fh 29) .ret))))):=kr
theorem afe:mz=(S1 (G1 mz 0) (S1 (S1 (G1 mz 1) (B1 0 (S1 (G1 mz 2) (C1 17 (S1 (G1 mz 3) .ret) (S1 (G1 mz 4) (C1 45 (S1 (G1 mz 5) .ret) (S1 (G1 mz 6) (C1 69 (S1 (G1 mz 7) .ret) (S1 (G1 mz 8) (C1 93 (S1 (G1 mz 9) (S1 (G1 mz 10) (S1 (G1 mz 11) .ret))) K1)))))))))) (S1 (G1 mz 12) (S1 (G1 mz 13) .ret)))):=kr
theorem YG:cg (Z eN 1)=some [(4,5),(4,6),(4,7),(4,8)]:=kr
theorem XB:cg (Z eN 20)=some []:=kr
theorem XC:cg (Z eN 24)=some [(2,8),(3,8)]:=kr
theorem XD:cg (Z eN 25)=some []:=kr
theorem ael:eN=(S1 (G1 eN 0) (S1 (G2 eN 1) (S1 (S1 (G1 eN 2) (B1 0 (.loop (S1 (G1 eN 3) (S1 (C1 29 K1 (X1 0)) (S1 (B1 1 (S1 (G1 eN 4) (G1 eN 5))) (G1 eN 6))))))) (S1 (G1 eN 7) (S1 (S1 (G1 eN 8) (B1 2 (.loop (S1 (G1 eN 9) (S1 (C1 45 K1 (X1 2)) (S1 (B1 3 (S1 (G1 eN 10) (G1 eN 11))) (G1 eN 12))))))) (S1 (S1 (G1 eN 13) (B1 4 (.loop (S1 (S1 (G1 eN 14) (C1 55 K1 (X1 4))) (B1 5 (S1 (G1 eN 15) (S1 (G1 eN 16) (B1 6 (.loop (S1 (G1 eN 17) (S1 (C1 61 K1 (X1 6)) (S1 (B1 7 (S1 (G1 eN 18) (S1 (S1 (G1 eN 19) (C1 69 (X1 7) K1)) (S1 (G2 eN 20) (S1 (G1 eN 21) (B1 8 (.loop (S1 (G1 eN 22) (S1 (C1 85 K1 (X1 8)) (S1 (B1 9 (S1 (G1 eN 23) (S1 (G2 eN 24) (S1 (G2 eN 25) (C1 110 (G1 eN 26) K1))))) (G1 eN 27))))))))))) (G1 eN 28))))))))))))) (S1 (G1 eN 29) .ret))))))):=kr
theorem IS:cg (Z jg 10)=some [(6,9)]:=kr
theorem aec:jg=(S1 (G1 jg 0) (S1 (G1 jg 1) (S1 (S1 (G1 jg 2) (B1 0 (.loop (S1 (G1 jg 3) (S1 (C1 17 K1 (X1 0)) (S1 (B1 1 (S1 (G1 jg 4) (S1 (S1 (G1 jg 5) (B1 2 (.loop (S1 (G1 jg 6) (S1 (C1 24 K1 (X1 2)) (S1 (B1 3 (S1 (G1 jg 7) (G1 jg 8))) (G1 jg 9))))))) (S1 (G2 jg 10) (G1 jg 11))))) (G1 jg 12))))))) (S1 (S1 (G1 jg 13) (B1 4 (.loop (S1 (G1 jg 14) (S1 (C1 56 K1 (X1 4)) (S1 (B1 5 (S1 (G1 jg 15) (G1 jg 16))) (G1 jg 17))))))) (S1 (G1 jg 18) .ret))))):=kr
theorem YE:cg (Z xR 2)=some [(0,2)]:=kr
theorem aea:xR=(S1 (G1 xR 0) (S1 (S1 (G1 xR 1) (C1 9 (S1 (G2 xR 2) .ret) K1)) (S1 (G1 xR 3) .ret))):=kr
theorem adG:FV=(S1 (G1 FV 0) (S1 (G1 FV 1) .ret)):=kr
theorem XH:cg (Z jh 16)=some []:=kr
theorem afp:jh=(S1 (G1 jh 0) (S1 (S1 (G1 jh 1) (C1 58 (S1 (G1 jh 2) .ret) K1)) (S1 (S1 (G1 jh 3) (B1 0 (.loop (S1 (S1 (G1 jh 4) (C1 63 K1 (X1 0))) (S1 (B1 1 (S1 (G1 jh 6) (C1 93 (S1 (G1 jh 7) .ret) K1))) (G1 jh 5)))))) (S1 (S1 (G1 jh 8) (B1 2 (.loop (S1 (S1 (G1 jh 9) (C1 98 K1 (X1 2))) (S1 (B1 3 (S1 (G1 jh 11) (C1 114 (S1 (G1 jh 12) .ret) K1))) (G1 jh 10)))))) (S1 (S1 (G1 jh 13) (B1 4 (.loop (S1 (S1 (G1 jh 14) (C1 119 K1 (X1 4))) (S1 (B1 5 (S1 (G2 jh 16) (C1 146 (S1 (G1 jh 17) .ret) K1))) (G1 jh 15)))))) (S1 (G1 jh 18) .ret)))))):=kr
theorem afk:nk=(S1 (G1 nk 0) (S1 (G1 nk 1) (S1 (S1 (G1 nk 2) (C1 12 (G1 nk 3) K1)) (S1 (S1 (G1 nk 4) (C1 25 (G1 nk 5) K1)) (S1 (S1 (G1 nk 6) (B1 0 (.loop (S1 (S1 (G1 nk 7) (C1 35 K1 (X1 0))) (S1 (B1 1 (G1 nk 9)) (G1 nk 8)))))) (S1 (S1 (G1 nk 10) (C1 49 (G1 nk 11) K1)) (S1 (G1 nk 12) .ret))))))):=kr
theorem ae4:FW=(S1 (G1 FW 0) (S1 (G1 FW 1) .ret)):=kr
theorem XI:cg (Z dn 35)=some []:=kr
theorem XJ:cg (Z dn 40)=some []:=kr
theorem afu:dn=(S1 (G1 dn 0) (S1 (S1 (G1 dn 1) (B1 0 (S1 (G1 dn 2) (C1 10 (S1 (G1 dn 3) .ret) (S1 (G1 dn 4) (C1 25 (S1 (G1 dn 5) .ret) (S1 (S1 (G1 dn 6) (C1 37 K1 (S1 (G1 dn 7) (C1 37 K1 (S1 (G1 dn 8) (C1 37 K1 (G1 dn 9))))))) (C1 37 (S1 (G1 dn 10) .ret) (S1 (G1 dn 11) (C1 62 (S1 (G1 dn 12) .ret) (S1 (G1 dn 13) (C1 80 (S1 (G1 dn 14) .ret) (S1 (G1 dn 15) (C1 96 (S1 (G1 dn 16) .ret) (S1 (G1 dn 17) (C1 111 (S1 (G1 dn 18) .ret) (S1 (G1 dn 19) (C1 138 (S1 (G1 dn 20) .ret) (S1 (G1 dn 21) (C1 159 (S1 (G1 dn 22) .ret) (S1 (S1 (G1 dn 23) (C1 180 K1 (G1 dn 24))) (C1 180 (S1 (G1 dn 25) .ret) (S1 (G1 dn 26) (C1 197 (S1 (G1 dn 27) .ret) (S1 (G1 dn 28) (C1 207 (S1 (G1 dn 29) .ret) (S1 (G1 dn 30) (C1 217 (S1 (G1 dn 31) .ret) (S1 (G1 dn 32) (C1 229 (S1 (G1 dn 33) .ret) (S1 (G1 dn 34) (C1 241 (S1 (S1 (G2 dn 35) (C1 268 (S1 (G1 dn 36) .ret) K1)) (S1 (S1 (G1 dn 37) (B1 1 (.loop (S1 (S1 (G1 dn 38) (C1 273 K1 (X1 1))) (S1 (B1 2 (S1 (G2 dn 40) (C1 285 (S1 (G1 dn 41) .ret) K1))) (G1 dn 39)))))) (S1 (G1 dn 42) .ret))) K1)))))))))))))))))))))))))))))))) (S1 (G1 dn 43) .ret))):=kr
theorem XL:cg (Z gA 10)=some []:=kr
theorem XM:cg (Z gA 22)=some []:=kr
theorem afA:gA=(S1 (G1 gA 0) (S1 (G1 gA 1) (S1 (S1 (G1 gA 2) (B1 0 (S1 (G1 gA 3) (C1 10 (S1 (G1 gA 4) .ret) (S1 (G1 gA 5) (C1 20 (S1 (G1 gA 6) .ret) (S1 (G1 gA 7) (C1 42 (S1 (S1 (G1 gA 8) (C1 50 (S1 (G1 gA 9) .ret) K1)) (S1 (G2 gA 10) .ret)) (S1 (G1 gA 11) (C1 77 (S1 (G1 gA 12) .ret) (S1 (G1 gA 13) (C1 86 (S1 (G1 gA 14) .ret) (S1 (G1 gA 15) (C1 107 (S1 (G1 gA 16) .ret) (S1 (G1 gA 17) (C1 150 (S1 (G1 gA 18) .ret) (S1 (G1 gA 19) (C1 183 (S1 (G1 gA 20) .ret) (S1 (G1 gA 21) (C1 216 (S1 (G2 gA 22) .ret) K1)))))))))))))))))))) (S1 (G1 gA 23) .ret)))):=kr
theorem YX:cg (Z n2 9)=some []:=kr
theorem afG:n2=(S1 (G1 n2 0) (S1 (S1 (G1 n2 1) (C1 8 (S1 (G1 n2 2) .ret) K1)) (S1 (S1 (G1 n2 3) (C1 11 (S1 (G1 n2 4) .ret) K1)) (S1 (G1 n2 5) (S1 (S1 (G1 n2 6) (B1 0 (.loop (S1 (S1 (G1 n2 7) (C1 22 K1 (X1 0))) (S1 (B1 1 (G2 n2 9)) (G1 n2 8)))))) (S1 (G1 n2 10) .ret)))))):=kr
theorem ake:aiR=(S1 (G1 aiR 0) (S1 (S1 (G1 aiR 1) (B1 0 (.loop (S1 (G1 aiR 2) (S1 (C1 9 K1 (X1 0)) (S1 (B1 1 (S1 (G1 aiR 3) (S1 (G1 aiR 4) (C1 16 (S1 (G1 aiR 5) .ret) K1)))) (G1 aiR 6))))))) (S1 (G1 aiR 7) .ret))):=kr
theorem ajX:cg (Z aiF 6)=some []:=kr
theorem akg:aiF=(S1 (G1 aiF 0) (S1 (S1 (G1 aiF 1) (C1 13 (S1 (G1 aiF 2) .ret) K1)) (S1 (S1 (G1 aiF 3) (B1 0 (.loop (S1 (G1 aiF 4) (S1 (C1 17 K1 (X1 0)) (S1 (B1 1 (S1 (G1 aiF 5) (S1 (G2 aiF 6) (C1 32 (S1 (G1 aiF 7) .ret) K1)))) (G1 aiF 8))))))) (S1 (G1 aiF 9) .ret)))):=kr
theorem aki:aiS=(S1 (G1 aiS 0) (S1 (S1 (G1 aiS 1) (B1 0 (.loop (S1 (G1 aiS 2) (S1 (C1 15 K1 (X1 0)) (S1 (B1 1 (S1 (G1 aiS 3) (S1 (G1 aiS 4) (C1 28 (S1 (G1 aiS 5) .ret) K1)))) (G1 aiS 6))))))) (S1 (G1 aiS 7) .ret))):=kr
theorem akc:ajp=(S1 (G1 ajp 0) (S1 (G1 ajp 1) .ret)):=kr
theorem adC:sw=(S1 (G1 sw 0) (S1 (S1 (G1 sw 1) (B1 0 (.loop (S1 (G1 sw 2) (S1 (C1 9 K1 (X1 0)) (S1 (B1 1 (S1 (G1 sw 3) (S1 (G1 sw 4) (C1 16 (S1 (G1 sw 5) .ret) K1)))) (G1 sw 6))))))) (S1 (G1 sw 7) .ret))):=kr
theorem YD:cg (Z jE 6)=some []:=kr
theorem Xz:cg (Z jE 11)=some []:=kr
theorem ad7:jE=(S1 (G1 jE 0) (S1 (S1 (G1 jE 1) (C1 8 (S1 (G1 jE 2) .ret) K1)) (S1 (S1 (G1 jE 3) (B1 0 (.loop (S1 (S1 (G1 jE 4) (C1 13 K1 (X1 0))) (S1 (B1 1 (S1 (G2 jE 6) (C1 25 (S1 (G1 jE 7) (S1 (S1 (G1 jE 8) (B1 2 (.loop (S1 (S1 (G1 jE 9) (C1 32 K1 (X1 2))) (S1 (B1 3 (S1 (G2 jE 11) (C1 44 (S1 (G1 jE 12) (G1 jE 13)) K1))) (G1 jE 10)))))) (S1 (G1 jE 14) (S1 (G1 jE 15) .ret)))) K1))) (G1 jE 5)))))) (S1 (G1 jE 16) .ret)))):=kr
theorem ad9:Aq=(S1 (G1 Aq 0) (S1 (G1 Aq 1) (S1 (G1 Aq 2) (S1 (G1 Aq 3) .ret)))):=kr
theorem adO:qR=(S1 (S1 (G1 qR 0) (C1 19 .ret K1)) (S1 (S1 (G1 qR 1) (C1 34 .ret K1)) (S1 (S1 (G1 qR 2) (B1 0 (.loop (S1 (G1 qR 3) (S1 (C1 39 K1 (X1 0)) (S1 (B1 1 (S1 (G1 qR 4) (S1 (G1 qR 5) (C1 46 .ret K1)))) (G1 qR 6))))))) (S1 (G1 qR 7) (C1 65 (G1 qR 8) K1))))):=kr
theorem afn:sx=(S1 (G1 sx 0) (S1 (G1 sx 1) (S1 (B1 0 (.loop (S1 (S1 (G1 sx 2) (C1 18 K1 (X1 0))) (B1 1 (G1 sx 3))))) (S1 (S1 (G1 sx 4) (C1 32 (S1 (G1 sx 5) .ret) K1)) (S1 (G1 sx 6) (S1 (G1 sx 7) .ret)))))):=kr
theorem aeW:Ar=(S1 (G1 Ar 0) (S1 (G1 Ar 1) (S1 (G1 Ar 2) (S1 (G1 Ar 3) .ret)))):=kr
theorem adv:FX=(S1 (G1 FX 0) (S1 (G1 FX 1) .ret)):=kr
theorem aeo:FY=(S1 (G1 FY 0) (S1 (G1 FY 1) .ret)):=kr
theorem aey:FZ=(S1 (G1 FZ 0) (S1 (G1 FZ 1) .ret)):=kr
theorem adw:sy=(S1 (G1 sy 0) (S1 (S1 (G1 sy 1) (B1 0 (.loop (S1 (G1 sy 2) (S1 (C1 9 K1 (X1 0)) (S1 (B1 1 (S1 (G1 sy 3) (S1 (G1 sy 4) (C1 16 (S1 (G1 sy 5) .ret) K1)))) (G1 sy 6))))))) (S1 (G1 sy 7) .ret))):=kr
theorem aeq:F0=(S1 (G1 F0 0) (S1 (G1 F0 1) .ret)):=kr
theorem aeC:F1=(S1 (G1 F1 0) (S1 (G1 F1 1) .ret)):=kr
theorem aeD:As=(S1 (G1 As 0) (S1 (S1 (G1 As 1) (C1 12 (S1 (G1 As 2) .ret) K1)) (S1 (G1 As 3) .ret))):=kr
theorem aeM:o4=(S1 (G1 o4 0) (S1 (G1 o4 1) (S1 (S1 (G1 o4 2) (C1 20 (G1 o4 3) K1)) (S1 (G1 o4 4) (S1 (S1 (G1 o4 5) (B1 0 (S1 (G1 o4 6) (C1 31 (G1 o4 7) (S1 (G1 o4 8) (C1 43 (G1 o4 9) K1)))))) (S1 (G1 o4 10) .ret)))))):=kr
theorem aeU:sA=(S1 (G1 sA 0) (S1 (S1 (G1 sA 1) (B1 0 (.loop (S1 (G1 sA 2) (S1 (C1 11 K1 (X1 0)) (S1 (B1 1 (S1 (G1 sA 3) (S1 (G1 sA 4) (C1 33 (S1 (G1 sA 5) .ret) K1)))) (G1 sA 6))))))) (S1 (G1 sA 7) .ret))):=kr
theorem aeH:F3=(S1 (G1 F3 0) (S1 (G1 F3 1) .ret)):=kr
theorem aeR:F4=(S1 (G1 F4 0) (S1 (G1 F4 1) .ret)):=kr
theorem PE:cg (Z Cu 1)=some [(10,11),(10,12),(10,13),(10,15),(10,16)]:=kr
theorem aeI:Cu=(S1 (G1 Cu 0) (S1 (G2 Cu 1) .ret)):=kr
theorem YR:cg (Z Cv 1)=some [(2,3)]:=kr
theorem afc:Cv=(S1 (G1 Cv 0) (S1 (G2 Cv 1) .ret)):=kr
theorem Yw:cg (Z xS 2)=some []:=kr
theorem adI:xS=(S1 (G1 xS 0) (S1 (S1 (G1 xS 1) (C1 6 (G2 xS 2) K1)) (S1 (G1 xS 3) .ret))):=kr
theorem Yx:cg (Z sC 4)=some []:=kr
theorem adK:sC=(S1 (G1 sC 0) (S1 (S1 (G1 sC 1) (B1 0 (.loop (S1 (G1 sC 2) (S1 (C1 7 K1 (X1 0)) (S1 (B1 1 (S1 (G1 sC 3) (G2 sC 4))) (G1 sC 5))))))) (S1 (G1 sC 6) .ret))):=kr
theorem Yz:cg (Z vM 2)=some [(0,3)]:=kr
theorem Yy:cg (Z vM 3)=some [(0,2)]:=kr
theorem adM:vM=(S1 (G1 vM 0) (S1 (S1 (G1 vM 1) (C1 7 (S1 (G2 vM 2) .ret) K1)) (S1 (G2 vM 3) .ret))):=kr
theorem adQ:tW=(S1 (G1 tW 0) (S1 (G1 tW 1) (S1 (S1 (G1 tW 2) (B1 0 (.rangeFunc (.tmp 8) #[9] (G1 tW 3) (B1 1 (S1 (G1 tW 4) (C1 12 (G1 tW 5) K1)))))) (S1 (G1 tW 6) .ret)))):=kr
theorem ae0:tX=(S1 (G1 tX 0) (S1 (S1 (G1 tX 1) (B1 0 (.loop (S1 (S1 (G1 tX 2) (C1 7 K1 (X1 0))) (S1 (B1 1 (S1 (G1 tX 4) (C1 19 (S1 (G1 tX 5) .ret) K1))) (G1 tX 3)))))) (S1 (G1 tX 6) .ret))):=kr
theorem ae2:tY=(S1 (G1 tY 0) (S1 (S1 (G1 tY 1) (B1 0 (.loop (S1 (S1 (G1 tY 2) (C1 7 K1 (X1 0))) (S1 (B1 1 (S1 (G1 tY 4) (C1 31 (S1 (G1 tY 5) .ret) K1))) (G1 tY 3)))))) (S1 (G1 tY 6) .ret))):=kr
theorem afg:lj=(S1 (G1 lj 0) (S1 (S1 (G1 lj 1) (B1 0 (.loop (S1 (S1 (G1 lj 2) (C1 9 K1 (X1 0))) (S1 (B1 1 (S1 (G1 lj 4) (B1 2 (S1 (G1 lj 5) (C1 15 (G1 lj 6) (S1 (G1 lj 7) (C1 18 (G1 lj 8) (S1 (G1 lj 9) (C1 21 (G1 lj 10) (S1 (G1 lj 11) (C1 24 (G1 lj 12) (S1 (G1 lj 13) (C1 27 (G1 lj 14) K1))))))))))))) (G1 lj 3)))))) (S1 (G1 lj 15) .ret))):=kr
theorem ae6:n3=(S1 (G1 n3 0) (S1 (S1 (G1 n3 1) (C1 17 (S1 (G1 n3 2) .ret) K1)) (S1 (G1 n3 3) (S1 (S1 (G1 n3 4) (B1 0 (S1 (G1 n3 5) (C1 25 (S1 (G1 n3 6) .ret) (S1 (G1 n3 7) (C1 29 (S1 (G1 n3 8) .ret) (S1 (G1 n3 9) (C1 33 (S1 (G1 n3 10) .ret) K1)))))))) (S1 (G1 n3 11) .ret))))):=kr
theorem YO:cg (Z Cw 1)=some []:=kr
theorem ae8:Cw=(S1 (G1 Cw 0) (S1 (G2 Cw 1) .ret)):=kr
theorem YP:cg (Z qS 4)=some []:=kr
theorem ae9:qS=(S1 (G1 qS 0) (S1 (S1 (G1 qS 1) (B1 0 (.loop (S1 (S1 (G1 qS 2) (C1 10 K1 (X1 0))) (S1 (B1 1 (S1 (G2 qS 4) (S1 (G1 qS 5) (C1 20 (S1 (G1 qS 6) .ret) K1)))) (G1 qS 3)))))) (S1 (G1 qS 7) .ret))):=kr
theorem YQ:cg (Z Cx 1)=some []:=kr
theorem afa:Cx=(S1 (G1 Cx 0) (S1 (G2 Cx 1) .ret)):=kr
theorem afi:gT=(S1 (G1 gT 0) (S1 (G1 gT 1) (S1 (S1 (G1 gT 2) (B1 0 (.loop (S1 (S1 (G1 gT 3) (C1 10 K1 (X1 0))) (S1 (B1 1 (S1 (G1 gT 5) (B1 2 (S1 (G1 gT 6) (C1 16 (G1 gT 7) (S1 (G1 gT 8) (C1 19 (G1 gT 9) (S1 (G1 gT 10) (C1 22 (G1 gT 11) (S1 (G1 gT 12) (C1 25 (G1 gT 13) (S1 (G1 gT 14) (C1 28 (G1 gT 15) (S1 (G1 gT 16) (C1 31 (G1 gT 17) (S1 (G1 gT 18) (C1 35 (G1 gT 19) (S1 (G1 gT 20) (C1 38 (G1 gT 21) K1))))))))))))))))))) (G1 gT 4)))))) (S1 (S1 (G1 gT 22) (C1 52 (S1 (G1 gT 23) .ret) K1)) (S1 (G1 gT 24) .ret))))):=kr
theorem aft:kJ=(S1 (G1 kJ 0) (S1 (S1 (G1 kJ 1) (B1 0 (S1 (S1 (G1 kJ 2) (C1 7 K1 (S1 (G1 kJ 3) (C1 7 K1 (S1 (G1 kJ 4) (C1 7 K1 (S1 (G1 kJ 5) (C1 7 K1 (G1 kJ 6))))))))) (C1 7 (S1 (G1 kJ 7) .ret) (S1 (G1 kJ 8) (C1 33 (S1 (G1 kJ 9) .ret) (S1 (G1 kJ 10) (C1 49 (S1 (G1 kJ 11) .ret) (S1 (G1 kJ 12) (C1 65 (S1 (G1 kJ 13) .ret) (S1 (G1 kJ 14) (C1 87 (S1 (G1 kJ 15) .ret) K1)))))))))))) (S1 (G1 kJ 16) .ret))):=kr
theorem YS:cg (Z lk 6)=some []:=kr
theorem XK:cg (Z lk 11)=some []:=kr
theorem afx:lk=(S1 (G1 lk 0) (S1 (S1 (G1 lk 1) (C1 22 (S1 (G1 lk 2) .ret) K1)) (S1 (S1 (G1 lk 3) (B1 0 (.loop (S1 (S1 (G1 lk 4) (C1 27 K1 (X1 0))) (S1 (B1 1 (S1 (S1 (G2 lk 6) (C1 48 (S1 (G1 lk 7) .ret) K1)) (S1 (G1 lk 8) (B1 2 (.loop (S1 (S1 (G1 lk 9) (C1 51 K1 (X1 2))) (S1 (B1 3 (S1 (G2 lk 11) (C1 66 (S1 (G1 lk 12) .ret) K1))) (G1 lk 10)))))))) (G1 lk 5)))))) (S1 (G1 lk 13) .ret)))):=kr
theorem adU:F6=(S1 (G1 F6 0) (S1 (G1 F6 1) .ret)):=kr
theorem ad4:F7=(S1 (G1 F7 0) (G1 F7 1)):=kr
theorem adt:sD=(S1 (G1 sD 0) (S1 (S1 (G1 sD 1) (B1 0 (.loop (S1 (G1 sD 2) (S1 (C1 9 K1 (X1 0)) (S1 (B1 1 (S1 (G1 sD 3) (S1 (G1 sD 4) (C1 16 (S1 (G1 sD 5) .ret) K1)))) (G1 sD 6))))))) (S1 (G1 sD 7) .ret))):=kr
theorem aeK:n4=(S1 (G1 n4 0) (S1 (G1 n4 1) (S1 (S1 (G1 n4 2) (B1 0 (S1 (G1 n4 3) (C1 14 (S1 (G1 n4 4) .ret) (S1 (G1 n4 5) (C1 18 (S1 (G1 n4 6) .ret) (S1 (G1 n4 7) (C1 22 (S1 (G1 n4 8) .ret) (S1 (G1 n4 9) (C1 26 (S1 (G1 n4 10) .ret) K1)))))))))) (S1 (G1 n4 11) .ret)))):=kr
theorem adB:F8=(S1 (G1 F8 0) (S1 (G1 F8 1) .ret)):=kr
theorem aeT:F9=(S1 (G1 F9 0) (S1 (G1 F9 1) .ret)):=kr
theorem aeF:Ga=(S1 (G1 Ga 0) (S1 (G1 Ga 1) .ret)):=kr
theorem aeP:Gb=(S1 (G1 Gb 0) (S1 (G1 Gb 1) .ret)):=kr
theorem adz:sE=(S1 (G1 sE 0) (S1 (S1 (G1 sE 1) (B1 0 (.loop (S1 (G1 sE 2) (S1 (C1 9 K1 (X1 0)) (S1 (B1 1 (S1 (G1 sE 3) (S1 (G1 sE 4) (C1 16 (S1 (G1 sE 5) .ret) K1)))) (G1 sE 6))))))) (S1 (G1 sE 7) .ret))):=kr
theorem adS:xT=(S1 (G1 xT 0) (S1 (S1 (G1 xT 1) (B1 0 (.rangeFunc (.tmp 6) #[7] (G1 xT 2) (B1 1 (G1 xT 3))))) (S1 (G1 xT 4) .ret))):=kr
theorem ad2:fu=(S1 (G1 fu 0) (S1 (G1 fu 1) (B1 0 (.loop (B1 1 (S1 (G1 fu 2) (S1 (S1 (G1 fu 3) (C1 23 (S1 (G1 fu 4) .ret) K1)) (S1 (S1 (G1 fu 5) (C1 29 (S1 (G1 fu 6) .ret) K1)) (S1 (S1 (G1 fu 7) (C1 35 (S1 (G1 fu 8) (G1 fu 9)) K1)) (S1 (G1 fu 10) (S1 (S1 (G1 fu 11) (C1 50 (S1 (G1 fu 12) (S1 (G1 fu 13) (G1 fu 14))) K1)) (S1 (S1 (G1 fu 15) (C1 68 (S1 (G1 fu 16) (C1 72 .ret K1)) K1)) (S1 (S1 (G2 fu 17) (C1 87 (S1 (G1 fu 18) (S1 (G1 fu 19) (X1 1))) K1)) (S1 (G1 fu 20) (S1 (G1 fu 21) (S1 (G1 fu 22) (S1 (G1 fu 23) (S1 (G1 fu 24) (C1 113 (S1 (G1 fu 25) (S1 (G1 fu 26) (G1 fu 27))) (S1 (G1 fu 28) (S1 (G1 fu 29) (G1 fu 30)))))))))))))))))))))):=kr
theorem YA:cg (Z qT 4)=some []:=kr
theorem YB:cg (Z qT 6)=some []:=kr
theorem ad0:qT=(S1 (G1 qT 0) (B1 0 (.loop (S1 (S1 (G1 qT 1) (C1 12 K1 (X1 0))) (S1 (B1 1 (S1 (G1 qT 3) (B1 2 (.loop (S1 (S1 (G2 qT 4) (C1 30 K1 (X1 2))) (S1 (B1 3 (G2 qT 6)) (G1 qT 5))))))) (G1 qT 2)))))):=kr
theorem adY:Gc=(S1 (G1 Gc 0) (S1 (G1 Gc 1) .ret)):=kr
theorem adW:Gd=(S1 (G1 Gd 0) (S1 (G1 Gd 1) .ret)):=kr
theorem adE:F5=(S1 (G1 F5 0) (S1 (G1 F5 1) .ret)):=kr
end Go.Proofs.Tryz.K
namespace Go.Abs
open Go.Argus
section
variable{P:Program}{Y:gd}{ops:Array Oper}{dr:Bool}{cf:List (Nat×Nat)}{Q:Exit->St->Prop}{r:List Oper}{v:Env}{m:Mem}{n:Nat}{q:ma}{x:Oper}{s:St}{e:List Nat×List Nat}
theorem lL{p:Prop}(h:p:=by first|rfl|exact bg rfl|(simp;done)|(simp;omega)|omega):p:=h
theorem Nv{p:Prop}(h:p:=by first|omega|exact bg rfl|(simp;done)|(simp;omega)):p:=h
theorem vd{p:Prop}(h:p:=by first|(simp;done)|exact⟨rfl,bg rfl⟩|(simp;omega)):p:=h
theorem Nw{p:Prop}(h:p:=by first|rfl|exact oB _|(simp[oB];done)|exact Z6):p:=h
theorem Eh{p:Prop}(h:p:=by first|(simp;done)|omega|exact bg rfl):p:=h
theorem Nx{p:Prop}(h:p:=by unfold maxLen;first|omega|(simp;omega)):p:=h
theorem qD{p:Prop}(h:p:=by first|(simp;done)|fail):p:=h
theorem aT7{p:Prop}(h:p:=by first|decide|simp):p:=h
def oT(x:Oper):Nat:=2*(match x.op with
 | .move ..=>1
 | .assign ..=>2
 | .pick ..=>3
 | .alloc ..=>4
 | .box ..=>5
 | .build ..=>6
 | .buildSlice ..=>7
 | .insert ..=>8
 | .load ..=>9
 | .store ..=>10
 | .nilCheck ..=>11
 | .unOp ..=>12
 | .convert ..=>13
 | .makeFunc ..=>14
 | .makeMap ..=>15
 | .makeSlice ..=>16
 | .slice ..=>17
 | .fieldAddr ..=>18
 | .field ..=>19
 | .indexAddr ..=>20
 | .index ..=>21
 | .lookup ..=>22
 | .mapUpdate ..=>23
 | .extract ..=>24
 | .call ..=>25
 | .binOp .add ..=>26
 | .binOp .sub ..=>27
 | .binOp .mul ..=>28
 | .binOp .quo ..=>29
 | .binOp .rem ..=>30
 | .binOp .and ..=>31
 | .binOp .or ..=>32
 | .binOp .xor ..=>33
 | .binOp .shl ..=>34
 | .binOp .shr ..=>35
 | .binOp .andNot ..=>36
 | .binOp .eql ..=>37
 | .binOp .neq ..=>38
 | .binOp .lss ..=>39
 | .binOp .leq ..=>40
 | .binOp .gtr ..=>41
 | .binOp .geq ..=>42
 |_=>0)+(match x.guard with
 |none=>0
 |_=>1)
theorem SS2(ht:oT x=2:=by exact rfl)(h:SO P Y ops dr x v m n s e:=by intro _ _ _ _ k;first|exact ao (lm (v:=.s (.int _ _)) rfl) ak trivial k|exact ao (lm (v:=.s (.bool _)) rfl) ak trivial k|exact ao (lm (v:=.sl _ _) rfl) ak trivial k|exact ao (lm (v:=.rs _ _ _) rfl) ak trivial k|exact ao (lm (v:=.fn _ _ _) rfl) ak trivial k|exact ao (lm (v:=_) rfl) ak trivial k|exact ao (lm (v:=.s (.string _)) rfl) ak trivial k|exact ao (lm (v:=.mp _) rfl) ak trivial k|fail):SO P Y ops dr x v m n s e:=h
theorem SS4(ht:oT x=4:=by exact rfl)(h:SO P Y ops dr x v m n s e:=by intro _ _ _ _ k;first|exact ao (eM (v:=.s (.bool _)) rfl) ak trivial k|exact ao (eM (v:=.s (.int _ _)) rfl) ak trivial k|exact ao (eM (v:=.sl _ _) rfl) ak trivial k|exact ao (eM (v:=.rs _ _ _) rfl) ak trivial k|exact ao (eM (v:=.z) rfl) ak trivial k|exact ao (eM (v:=.mp _) rfl) ak trivial k|fail):SO P Y ops dr x v m n s e:=h
theorem agf(ht:oT x=19:=by exact rfl)(h:SO P Y ops dr x v m n s e:=by intro _ _ _ _ k;first|exact bQ rfl rfl (ua rfl V.h) (fun hc=>⟨ak,(uc V.h V.h)⟩) k|exact bQ rfl rfl (ki (vs:=b9 _ _) rfl V.h V.h rfl) (fun hc=>⟨ak,(ko V.h V.h qD)⟩) k|exact bQ rfl rfl (ki (vs:=bu _ _ _) rfl V.h V.h rfl) (fun hc=>⟨ak,(ko V.h V.h qD)⟩) k|exact bQ rfl rfl (eJ rfl rfl rfl V.h) (fun hc=>⟨ak,(eK V.h V.h rfl)⟩) k|exact bQ rfl rfl (ki (vs:=bA _) rfl V.h V.h rfl) (fun hc=>⟨ak,(ko V.h V.h qD)⟩) k|exact bQ rfl rfl (ki (vs:=bF _) rfl V.h V.h rfl) (fun hc=>⟨ak,(ko V.h V.h qD)⟩) k|exact bQ rfl rfl (eJ rfl (au _ _ _) rfl V.h) (fun hc=>⟨ak,(eK V.h V.h rfl)⟩) k|exact bQ rfl rfl (dP rfl (aM oG rfl) V.h V.h (ns lL)) (fun hc=>⟨ak,(dQ V.h V.h lL)⟩) k|exact bQ rfl rfl (ki (vs:=a6 _) rfl V.h V.h rfl) (fun hc=>⟨ak,(ko V.h V.h qD)⟩) k|exact bQ rfl rfl (dP rfl rfl V.h V.h rfl) (fun hc=>⟨ak,(dQ V.h V.h Eh)⟩) k|fail):SO P Y ops dr x v m n s e:=h
theorem agh(ht:oT x=18:=by exact rfl)(h:SO P Y ops dr x v m n s e:=by intro _ _ _ _ k;first|exact ao (ki (vs:=bF _) rfl V.h V.h rfl) ak (ko V.h V.h qD) k|exact ao (ki (vs:=bA _) rfl V.h V.h rfl) ak (ko V.h V.h qD) k|exact ao (ki (vs:=a6 _) rfl V.h V.h rfl) ak (ko V.h V.h qD) k|exact ao (ki (vs:=bu _ _ _) rfl V.h V.h rfl) ak (ko V.h V.h qD) k|exact ao (ki (vs:=gR _) rfl V.h V.h rfl) ak (ko V.h V.h qD) k|exact ao (ki (vs:=b9 _ _) rfl V.h V.h rfl) ak (ko V.h V.h qD) k|exact ao (dP rfl rfl V.h V.h (ns lL)) ak (dQ V.h V.h lL) k|exact ao (dP (vs:=bA _) rfl rfl V.h V.h rfl) ak (dQ V.h V.h Eh) k|exact ao (ki rfl V.h V.h rfl) ak (ko V.h V.h qD) k|exact ao (dP (vs:=bF _) rfl (au _ _ _) V.h V.h rfl) ak (dQ V.h V.h Eh) k|exact ao (ki (vs:=lg _) rfl V.h V.h rfl) ak (ko V.h V.h qD) k|exact ao (dP rfl rfl V.h V.h rfl) ak (dQ V.h V.h Eh) k|exact ao (dP rfl (aM oG rfl) V.h V.h (ns lL)) ak (dQ V.h V.h lL) k|exact ao (dP rfl (au _ _ _) V.h V.h rfl) ak (dQ V.h V.h Eh) k|exact ao (ua rfl V.h) ak (uc V.h V.h) k|exact ao (eJ rfl rfl kd V.h) ak (eK V.h V.h kd) k|exact ao (eJ rfl aD kd V.h) ak (eK V.h V.h kd) k|exact ao (eJ rfl (au _ _ _) kd V.h) ak (eK V.h V.h kd) k|exact ao (eJ rfl rfl rfl V.h) ak (eK V.h V.h rfl) k|exact ao (eJ rfl aD rfl V.h) ak (eK V.h V.h rfl) k|fail):SO P Y ops dr x v m n s e:=h
theorem SS6(ht:oT x=6:=by exact rfl)(h:SO P Y ops dr x v m n s e:=by intro _ _ _ _ k;first|exact Qs rfl rfl (by first|exact trivial|exact rfl) k|exact Qt rfl rfl (by first|exact trivial|exact rfl) k|exact Rx rfl rfl rfl (fun h=>by first|exact trivial|exact rfl|exact h|(show Eq _ _;rw[h];rfl)|(show Eq _ _;simp[h];done)|(show Eq _ _;simp_all;done)|fail) (fun h=>by first|exact trivial|exact rfl|exact h|(show Eq _ _;rw[h];rfl)|(show Eq _ _;simp[h];done)|(show Eq _ _;simp_all;done)|fail) k|fail):SO P Y ops dr x v m n s e:=h
theorem agj(ht:oT x=37:=by exact rfl)(h:SO P Y ops dr x v m n s e:=by intro _ _ _ _ k;first|exact bQ rfl rfl (tS rfl V.h) (fun hc=>⟨ak,(iT V.h)⟩) k|exact bQ rfl rfl (nV rfl rfl V.h) (fun hc=>⟨ak,(iT V.h)⟩) k|exact bQ rfl rfl (nV rfl (au _ _ _) V.h) (fun hc=>⟨ak,(iT V.h)⟩) k|fail):SO P Y ops dr x v m n s e:=h
theorem agi(ht:oT x=36:=by exact rfl)(h:SO P Y ops dr x v m n s e:=by intro _ _ _ _ k;first|exact ao (tS rfl V.h) ak (iT V.h) k|exact ao (nV rfl rfl V.h) ak (iT V.h) k|fail):SO P Y ops dr x v m n s e:=h
theorem agk(ht:oT x=74:=by exact rfl)(h:SO P Y ops dr x v m n s e:=by intro _ _ _ _ k;first|exact ao (CK rfl rfl iO) ak rfl k|exact ao (GK rfl rfl) ak rfl k|exact ao (Kr rfl rfl) ak trivial k|fail):SO P Y ops dr x v m n s e:=h
theorem SS3(ht:oT x=3:=by exact rfl)(h:SO P Y ops dr x v m n s e:=by intro _ _ _ _ k;first|exact bQ rfl rfl (lm (v:=.s (.int _ _)) rfl) (fun hc=>⟨ak,trivial⟩) k|exact bQ rfl rfl (lm (v:=.s (.bool _)) rfl) (fun hc=>⟨ak,trivial⟩) k|exact bQ rfl rfl (lm (v:=.sl _ _) rfl) (fun hc=>⟨ak,trivial⟩) k|exact bQ rfl rfl (lm (v:=.s (.string _)) rfl) (fun hc=>⟨ak,trivial⟩) k|exact bQ rfl rfl (lm (v:=.fn _ _ _) rfl) (fun hc=>⟨ak,trivial⟩) k|exact bQ rfl rfl (lm (v:=.rs _ _ _) rfl) (fun hc=>⟨ak,trivial⟩) k|fail):SO P Y ops dr x v m n s e:=h
theorem agl(ht:oT x=20:=by exact rfl)(h:SO P Y ops dr x v m n s e:=by intro _ _ _ _ k;first|exact dJ (mo (d:=.s (.int _ _)) (cs':=_) rfl rfl rfl rfl rfl) ak (eU V.h V.h vd rfl) k|exact dJ (mo (d:=.z) (cs':=_) rfl rfl rfl rfl rfl) ak (eU V.h V.h vd rfl) k|exact dJ (mo (d:=.s (.string _)) (cs':=_) rfl rfl rfl rfl rfl) ak (eU V.h V.h vd rfl) k|exact dJ (iI rfl rfl rfl (J9 lL lL)) ak (Cj lL lL Nw) k|exact dJ (iI (cs':=gR _) rfl rfl (au _ _ _) rfl) ak (eU V.h V.h vd (by rfl)) k|exact dJ (mo (d:=.s (.bool _)) (cs':=_) rfl rfl rfl rfl rfl) ak (eU V.h V.h vd rfl) k|exact dJ (iI (cs':=bF _) rfl rfl (au _ _ _) rfl) ak (eU V.h V.h vd (by rfl)) k|exact dJ (iI rfl rfl (au _ _ _) (J9 lL lL)) ak (Cj lL lL Nw) k|exact dJ (iI (cs':=bA _) rfl rfl (au _ _ _) rfl) ak (eU V.h V.h vd (by rfl)) k|exact dJ (mo (d:=.s (.int _ _)) (cs':=_) rfl rfl (au _ _ _) rfl rfl) ak (eU V.h V.h vd rfl) k|exact dJ (iI rfl rfl (aM oG rfl) (J9 lL lL)) ak (Cj lL lL Nw) k|exact dJ (iI rfl rfl rfl (TL (by decide) (by assumption) (by assumption) (by first|assumption|(simp;omega)|(simp;done)|fail))) ak (Cj (by first|(simp;omega)|(simp;done)|fail) (yz (by assumption) (by assumption)) (oB _)) k|exact dJ (iI (cs':=a6 _) rfl rfl rfl rfl) ak (eU V.h V.h vd (by rfl)) k|exact dJ (iI (cs':=a6 _) rfl rfl (au _ _ _) rfl) ak (eU V.h V.h vd (by rfl)) k|exact dJ (iI rfl rfl rfl rfl) ak (eU V.h V.h vd (by rfl)) k|exact dJ (iI rfl rfl (au _ _ _) rfl) ak (eU V.h V.h vd (by rfl)) k|fail):SO P Y ops dr x v m n s e:=h
theorem agm(ht:oT x=40:=by exact rfl)(h:SO P Y ops dr x v m n s e:=by intro _ _ _ _ k;first|exact ao (R7 rfl rfl V.h V.h (by assumption)) ak (R8 V.h (by assumption)) k|exact ao (vO rfl rfl V.h V.h (zW) (by assumption)) ak (vP V.h (zW) (by assumption)) k|exact ao (vO rfl rfl V.h V.h (E3) (by assumption)) ak (vP V.h (E3) (by assumption)) k|exact ao (vO rfl rfl V.h V.h (ajm) (by assumption)) ak (vP V.h (ajm) (by assumption)) k|exact ao (vO rfl rfl V.h V.h (B9) (by assumption)) ak (vP V.h (B9) (by assumption)) k|exact ao (abt rfl rfl rfl V.h V.h V.h) ak ⟨V.h,by omega⟩ k|exact ao (vO rfl rfl V.h V.h (Pt) (by assumption)) ak (vP V.h (Pt) (by assumption)) k|exact ao (p7 rfl rfl rfl V.h V.h) ak ⟨V.h,by omega⟩ k|exact ao (p7 rfl rfl aD V.h V.h) ak ⟨V.h,by omega⟩ k|exact ao (p7 rfl rfl (au _ _ _) V.h V.h) ak ⟨V.h,by omega⟩ k|exact ao (Cq rfl rfl rfl V.h V.h) ak ⟨V.h,by omega⟩ k|exact ao (abu rfl rfl (au _ _ _) V.h V.h) ak ⟨V.h,by omega⟩ k|fail):SO P Y ops dr x v m n s e:=h
theorem agn(ht:oT x=52:=by exact rfl)(h:SO P Y ops dr x v m n s e:=by intro _ _ _ _ k;first|exact ao (S9 rfl rfl oG) ak rfl k|fail):SO P Y ops dr x v m n s e:=h
theorem ago(ht:oT x=50:=by exact rfl)(h:SO P Y ops dr x v m n s e:=by intro _ _ _ _ k;first|exact ao (Tb rfl) ak V.h k|exact ao (Kv rfl) ak V.h k|exact ao (Ku rfl rfl) ak V.h k|exact ao (Ku rfl aD) ak V.h k|exact iw (io rfl (aM oG aD) rfl V.h V.h (iJ (au _ _ _) rfl) rfl) ak ⟨V.h,rfl,Nv,(by decide),(by first|rfl|(simp;done)|(simp;omega)),Nx,(by rw[b3];first|omega|(simp;omega)),(by first|(simp;done)|(simp;omega))⟩ k|exact iw (io rfl (aM oG CW) rfl V.h V.h (iJ (au _ _ _) rfl) rfl) ak ⟨V.h,rfl,Nv,(by decide),(by first|rfl|(simp;done)|(simp;omega)),Nx,(by rw[b3];first|omega|(simp;omega)),(by first|(simp;done)|(simp;omega))⟩ k|exact cM (jF rfl rfl V.h V.h (iJ (au _ _ _) rfl)) ak ⟨V.h,Nv,(by decide),Nx,(by rw[b3];first|omega|(simp;omega))⟩ k|fail):SO P Y ops dr x v m n s e:=h
theorem agp(ht:oT x=75:=by exact rfl)(h:SO P Y ops dr x v m n s e:=by intro _ _ _ _ k;first|exact bQ rfl rfl (CK rfl rfl iO) (fun hc=>⟨ak,rfl⟩) k|exact bQ rfl rfl (CK rfl rfl CX) (fun hc=>⟨ak,rfl⟩) k|exact bQ rfl rfl (GK rfl rfl) (fun hc=>⟨ak,rfl⟩) k|exact bQ rfl rfl (Kr rfl rfl) (fun hc=>⟨ak,trivial⟩) k|fail):SO P Y ops dr x v m n s e:=h
theorem agq(ht:oT x=78:=by exact rfl)(h:SO P Y ops dr x v m n s e:=by intro _ _ _ _ k;first|exact ao (KS rfl rfl uF) ak rfl k|exact ao (K9 rfl rfl) ak rfl k|fail):SO P Y ops dr x v m n s e:=h
theorem agr(ht:oT x=10:=by exact rfl)(h:SO P Y ops dr x v m n s e:=by intro _ _ _ _ k;first|exact cM (sG (cs:=bu _ _ _) rfl) ak (by first|rfl|exact tO gi eS|exact oB _|exact ur cK) k|exact cM (sG (cs:=a6 _) rfl) ak (by first|rfl|exact tO gi eS|exact oB _|exact ur cK) k|exact cM (sG (cs:=bA _) rfl) ak (by first|rfl|exact tO gi eS|exact oB _|exact ur cK) k|exact cM (sG rfl) ak (by first|rfl|exact tO gi eS|exact oB _|exact ur cK) k|exact cM (sG (cs:=bF _) rfl) ak (by first|rfl|exact tO gi eS|exact oB _|exact ur cK) k|exact cM (sG (cs:=b9 _ _) rfl) ak (by first|rfl|exact tO gi eS|exact oB _|exact ur cK) k|fail):SO P Y ops dr x v m n s e:=h
theorem SS8(ht:oT x=8:=by exact rfl)(h:SO P Y ops dr x v m n s e:=by intro _ _ _ _ k;first|exact cM (Q1 V.h) ak V.h k|fail):SO P Y ops dr x v m n s e:=h
theorem ags(ht:oT x=51:=by exact rfl)(h:SO P Y ops dr x v m n s e:=by intro _ _ _ _ k;first|exact bQ rfl rfl (Tb rfl) (fun hc=>⟨ak,V.h⟩) k|fail):SO P Y ops dr x v m n s e:=h
theorem agt(ht:oT x=24:=by exact rfl)(h:SO P Y ops dr x v m n s e:=by intro _ _ _ _ k;first|exact ao (S' rfl) ak trivial k|fail):SO P Y ops dr x v m n s e:=h
theorem agv(ht:oT x=41:=by exact rfl)(h:SO P Y ops dr x v m n s e:=by intro _ _ _ _ k;first|exact bQ rfl rfl (R7 rfl rfl V.h V.h (by assumption)) (fun hc=>⟨ak,(R8 V.h (by assumption))⟩) k|exact bQ rfl rfl (vO rfl rfl V.h V.h (ajm) (by assumption)) (fun hc=>⟨ak,(vP V.h (ajm) (by assumption))⟩) k|exact bQ rfl rfl (vO rfl rfl V.h V.h (E3) (by assumption)) (fun hc=>⟨ak,(vP V.h (E3) (by assumption))⟩) k|fail):SO P Y ops dr x v m n s e:=h
theorem agu(ht:oT x=83:=by exact rfl)(h:SO P Y ops dr x v m n s e:=by intro _ _ _ _ k;first|exact bQ rfl rfl (KT rfl rfl s7) (fun hc=>⟨ak,rfl⟩) k|exact bQ rfl rfl (La rfl rfl) (fun hc=>⟨ak,rfl⟩) k|fail):SO P Y ops dr x v m n s e:=h
theorem agw(ht:oT x=25:=by exact rfl)(h:SO P Y ops dr x v m n s e:=by intro _ _ _ _ k;first|exact bQ rfl rfl (S' rfl) (fun hc=>⟨ak,trivial⟩) k|fail):SO P Y ops dr x v m n s e:=h
theorem agx(ht:oT x=12:=by exact rfl)(h:SO P Y ops dr x v m n s e:=by intro _ _ _ _ k;first|exact ao (Ce (cs:=bu _ _ _) V.h V.h V.h rfl rfl) ak ⟨V.h,V.h⟩ k|exact ao (Ce V.h V.h V.h rfl rfl) ak ⟨V.h,V.h⟩ k|fail):SO P Y ops dr x v m n s e:=h
theorem SS7(ht:oT x=7:=by exact rfl)(h:SO P Y ops dr x v m n s e:=by intro _ _ _ _ k;first|exact Yu rfl rfl rfl rfl (by first|exact fun _=>trivial|exact fun _=>rfl|exact fun hc=>hc) (by first|exact fun _=>trivial|exact fun _=>rfl|exact fun hc=>hc) k|exact Yv rfl rfl rfl rfl (by first|exact fun _=>trivial|exact fun _=>rfl|exact fun hc=>hc) (by first|exact fun _=>trivial|exact fun _=>rfl|exact fun hc=>hc) k|exact Z3 rfl rfl rfl rfl rfl (by first|exact fun _=>trivial|exact fun _=>rfl|exact fun hc=>hc) (fun hc h=>by first|exact trivial|exact rfl|exact hc|(show Eq _ _;rw[hc,h];rfl)|(show Eq _ _;rw[h,hc];rfl)|(show Eq _ _;simp[hc,h];done)|(show Eq _ _;simp_all;done)|fail) (fun hc h=>by first|exact trivial|exact rfl|exact hc|(show Eq _ _;rw[hc,h];rfl)|(show Eq _ _;rw[h,hc];rfl)|(show Eq _ _;simp[hc,h];done)|(show Eq _ _;simp_all;done)|fail) k|fail):SO P Y ops dr x v m n s e:=h
theorem agF(ht:oT x=48:=by exact rfl)(h:SO P Y ops dr x v m n s e:=by intro _ _ _ _ k;first|exact ao (vB (v:=.s (.bool _)) rfl rfl) ak aT7 k|exact ao (vB (v:=.s (.int _ _)) rfl rfl) ak aT7 k|exact ao (vB (v:=.agg (a6 _)) rfl rfl) ak aT7 k|exact ao (vB (v:=.agg _) rfl rfl) ak aT7 k|fail):SO P Y ops dr x v m n s e:=h
theorem agy(ht:oT x=16:=by exact rfl)(h:SO P Y ops dr x v m n s e:=by intro _ _ _ _ k;first|exact dJ (Z7 rfl rfl rfl rfl V.h) ak ⟨V.h,by kernel_rfl,by kernel_rfl⟩ k|fail):SO P Y ops dr x v m n s e:=h
theorem agz(ht:oT x=14:=by exact rfl)(h:SO P Y ops dr x v m n s e:=by intro _ _ _ _ k;first|exact cM (mn (cs:=[_]) V.h V.h V.h rfl rfl) ak ⟨rfl,by decide,V.h,by decide⟩ k|exact cM (mn (cs:=[]) V.h V.h V.h rfl rfl) ak ⟨rfl,by decide,V.h,by decide⟩ k|exact cM (mn (cs:=[_,_]) V.h V.h V.h rfl rfl) ak ⟨rfl,by decide,V.h,by decide⟩ k|fail):SO P Y ops dr x v m n s e:=h
theorem agD(ht:oT x=77:=by exact rfl)(h:SO P Y ops dr x v m n s e:=by intro _ _ _ _ k;first|exact bQ rfl rfl (KU rfl rfl uG) (fun hc=>⟨ak,rfl⟩) k|exact bQ rfl rfl (Lc rfl rfl) (fun hc=>⟨ak,rfl⟩) k|fail):SO P Y ops dr x v m n s e:=h
theorem agB(ht:oT x=76:=by exact rfl)(h:SO P Y ops dr x v m n s e:=by intro _ _ _ _ k;first|exact ao (KU rfl rfl uG) ak rfl k|exact ao (Lc rfl rfl) ak rfl k|fail):SO P Y ops dr x v m n s e:=h
theorem agC(ht:oT x=81:=by exact rfl)(h:SO P Y ops dr x v m n s e:=by intro _ _ _ _ k;first|exact bQ rfl rfl (acp rfl rfl UI) (fun hc=>⟨ak,rfl⟩) k|exact bQ rfl rfl (GJ rfl rfl) (fun hc=>⟨ak,rfl⟩) k|fail):SO P Y ops dr x v m n s e:=h
theorem agJ(ht:oT x=82:=by exact rfl)(h:SO P Y ops dr x v m n s e:=by intro _ _ _ _ k;first|exact ao (KT rfl rfl s7) ak rfl k|exact ao (La rfl rfl) ak rfl k|fail):SO P Y ops dr x v m n s e:=h
theorem agA(ht:oT x=54:=by exact rfl)(h:SO P Y ops dr x v m n s e:=by intro _ _ _ _ k;first|exact ao (SD rfl rfl wC) ak rfl k|exact ao (Ld rfl rfl oG) ak rfl k|fail):SO P Y ops dr x v m n s e:=h
theorem agG(ht:oT x=55:=by exact rfl)(h:SO P Y ops dr x v m n s e:=by intro _ _ _ _ k;first|exact bQ rfl rfl (SD rfl rfl wC) (fun hc=>⟨ak,rfl⟩) k|exact bQ rfl rfl (Ld rfl rfl oG) (fun hc=>⟨ak,rfl⟩) k|fail):SO P Y ops dr x v m n s e:=h
theorem agE(ht:oT x=84:=by exact rfl)(h:SO P Y ops dr x v m n s e:=by intro _ _ _ _ k;first|exact ao (Lb rfl rfl) ak rfl k|fail):SO P Y ops dr x v m n s e:=h
theorem agH(ht:oT x=79:=by exact rfl)(h:SO P Y ops dr x v m n s e:=by intro _ _ _ _ k;first|exact bQ rfl rfl (K9 rfl rfl) (fun hc=>⟨ak,rfl⟩) k|fail):SO P Y ops dr x v m n s e:=h
theorem agK(ht:oT x=28:=by exact rfl)(h:SO P Y ops dr x v m n s e:=by intro _ _ _ _ k;first|exact ao (R6 rfl rfl) ak trivial k|fail):SO P Y ops dr x v m n s e:=h
theorem agI(ht:oT x=32:=by exact rfl)(h:SO P Y ops dr x v m n s e:=by intro _ _ _ _ k;first|exact cM (Cf rfl rfl V.h V.h) ak ⟨by omega,rfl,by omega,by rw[b4];omega,V.h⟩ k|fail):SO P Y ops dr x v m n s e:=h
theorem agL(ht:oT x=42:=by exact rfl)(h:SO P Y ops dr x v m n s e:=by intro _ _ _ _ k;first|exact ao (R5 rfl rfl) ak ⟨V.h,by omega,by omega⟩ k|fail):SO P Y ops dr x v m n s e:=h
theorem agM(ht:oT x=43:=by exact rfl)(h:SO P Y ops dr x v m n s e:=by intro _ _ _ _ k;first|exact bQ rfl rfl (R5 rfl rfl) (fun hc=>⟨ak,⟨V.h,by omega,by omega⟩⟩) k|fail):SO P Y ops dr x v m n s e:=h
theorem agN(ht:oT x=30:=by exact rfl)(h:SO P Y ops dr x v m n s e:=by intro _ _ _ _ k;first|exact cM acZ ak trivial k|fail):SO P Y ops dr x v m n s e:=h
theorem agO(ht:oT x=15:=by exact rfl)(h:SO P Y ops dr x v m n s e:=by intro _ _ _ _ k;first|exact aco rfl rfl (mn (cs:=[_]) V.h V.h V.h rfl rfl) ak ⟨rfl,by decide,V.h,by decide⟩ k|fail):SO P Y ops dr x v m n s e:=h
theorem akj(ht:oT x=85:=by exact rfl)(h:SO P Y ops dr x v m n s e:=by intro _ _ _ _ k;first|exact bQ rfl rfl (R2 rfl rfl) (fun hc=>⟨ak,trivial⟩) k|fail):SO P Y ops dr x v m n s e:=h
theorem SS(K:aw P Y ops dr cf Q r s (q++[e]))(h:SO P Y ops dr x v m n s e:=by first|exact SS2|exact SS4|exact agf|exact agh|exact SS6|exact agj|exact agi|exact agk|exact SS3|exact agl|exact agm|exact agn|exact ago|exact agp|exact agq|exact agr|exact SS8|exact ags|exact agt|exact agv|exact agu|exact agw|exact agx|exact SS7|exact agF|exact agy|exact agz|exact agD|exact agB|exact agC|exact agJ|exact agA|exact agG|exact agE|exact agH|exact agK|exact agI|exact agL|exact agM|exact agN|exact agO|exact akj):aw P Y ops dr cf Q (x::r) ⟨v,m,n⟩ q:=h _ _ _ _ K
variable{x2 x3 x4 x5 x6 x7 x8 x9:Oper}{e2 e3 e4 e5 e6 e7 e8 e9:List Nat×List Nat}
theorem af(K:aw P Y ops dr cf Q r s (q++[e]++[e2]))(h:∀ cf Q r q,aw P Y ops dr cf Q r s (q++[e]++[e2])->aw P Y ops dr cf Q (x::x2::r) ⟨v,m,n⟩ q:=by intro _ _ _ _ k;(iterate 2 refine SS ?_);exact k):aw P Y ops dr cf Q (x::x2::r) ⟨v,m,n⟩ q:=h _ _ _ _ K
theorem aB(K:aw P Y ops dr cf Q r s (q++[e]++[e2]++[e3]))(h:∀ cf Q r q,aw P Y ops dr cf Q r s (q++[e]++[e2]++[e3])->aw P Y ops dr cf Q (x::x2::x3::r) ⟨v,m,n⟩ q:=by intro _ _ _ _ k;(iterate 3 refine SS ?_);exact k):aw P Y ops dr cf Q (x::x2::x3::r) ⟨v,m,n⟩ q:=h _ _ _ _ K
theorem a7(K:aw P Y ops dr cf Q r s (q++[e]++[e2]++[e3]++[e4]))(h:∀ cf Q r q,aw P Y ops dr cf Q r s (q++[e]++[e2]++[e3]++[e4])->aw P Y ops dr cf Q (x::x2::x3::x4::r) ⟨v,m,n⟩ q:=by intro _ _ _ _ k;(iterate 4 refine SS ?_);exact k):aw P Y ops dr cf Q (x::x2::x3::x4::r) ⟨v,m,n⟩ q:=h _ _ _ _ K
theorem bH(K:aw P Y ops dr cf Q r s (q++[e]++[e2]++[e3]++[e4]++[e5]))(h:∀ cf Q r q,aw P Y ops dr cf Q r s (q++[e]++[e2]++[e3]++[e4]++[e5])->aw P Y ops dr cf Q (x::x2::x3::x4::x5::r) ⟨v,m,n⟩ q:=by intro _ _ _ _ k;(iterate 5 refine SS ?_);exact k):aw P Y ops dr cf Q (x::x2::x3::x4::x5::r) ⟨v,m,n⟩ q:=h _ _ _ _ K
theorem cY(K:aw P Y ops dr cf Q r s (q++[e]++[e2]++[e3]++[e4]++[e5]++[e6]))(h:∀ cf Q r q,aw P Y ops dr cf Q r s (q++[e]++[e2]++[e3]++[e4]++[e5]++[e6])->aw P Y ops dr cf Q (x::x2::x3::x4::x5::x6::r) ⟨v,m,n⟩ q:=by intro _ _ _ _ k;(iterate 6 refine SS ?_);exact k):aw P Y ops dr cf Q (x::x2::x3::x4::x5::x6::r) ⟨v,m,n⟩ q:=h _ _ _ _ K
theorem fS(K:aw P Y ops dr cf Q r s (q++[e]++[e2]++[e3]++[e4]++[e5]++[e6]++[e7]))(h:∀ cf Q r q,aw P Y ops dr cf Q r s (q++[e]++[e2]++[e3]++[e4]++[e5]++[e6]++[e7])->aw P Y ops dr cf Q (x::x2::x3::x4::x5::x6::x7::r) ⟨v,m,n⟩ q:=by intro _ _ _ _ k;(iterate 7 refine SS ?_);exact k):aw P Y ops dr cf Q (x::x2::x3::x4::x5::x6::x7::r) ⟨v,m,n⟩ q:=h _ _ _ _ K
theorem cT(K:aw P Y ops dr cf Q r s (q++[e]++[e2]++[e3]++[e4]++[e5]++[e6]++[e7]++[e8]))(h:∀ cf Q r q,aw P Y ops dr cf Q r s (q++[e]++[e2]++[e3]++[e4]++[e5]++[e6]++[e7]++[e8])->aw P Y ops dr cf Q (x::x2::x3::x4::x5::x6::x7::x8::r) ⟨v,m,n⟩ q:=by intro _ _ _ _ k;(iterate 8 refine SS ?_);exact k):aw P Y ops dr cf Q (x::x2::x3::x4::x5::x6::x7::x8::r) ⟨v,m,n⟩ q:=h _ _ _ _ K
theorem SN9(K:aw P Y ops dr cf Q r s (q++[e]++[e2]++[e3]++[e4]++[e5]++[e6]++[e7]++[e8]++[e9]))(h:∀ cf Q r q,aw P Y ops dr cf Q r s (q++[e]++[e2]++[e3]++[e4]++[e5]++[e6]++[e7]++[e8]++[e9])->aw P Y ops dr cf Q (x::x2::x3::x4::x5::x6::x7::x8::x9::r) ⟨v,m,n⟩ q:=by intro _ _ _ _ k;(iterate 9 refine SS ?_);exact k):aw P Y ops dr cf Q (x::x2::x3::x4::x5::x6::x7::x8::x9::r) ⟨v,m,n⟩ q:=h _ _ _ _ K
end
end Go.Abs
section
open Go Go.Abs Go.Proofs Go.Argus
namespace Go.Proofs.Tryz.K
theorem BF{x:bS}:ax prog 27 [.agg (bF x)] (I (dB x)):=by
 have M:∀ a∈[D.agg (bF x)],Tr a:=.cons (.agg (qP x)) .nil;refine bP ah3 M (Tr.s _) ?_;rw[ah4];refine aE ?_;refine af ?_;refine ab (bj (cr [(0,bF x,45)] eH (l:=[(1,.pt (bF x))]) eH) (aV (al ?_)));refine af ?_;refine ab (mW ?_);refine fO (fun s=>aR prog s ⟨aH [(1,.pt (bF x)),(4,U8 x.op),(5,B (aI mv x.op))],fun _=>none,1⟩) (al ?_) fun s hg=>⟨_,hg,?_⟩
 .refine af ?_;refine ab (yC rfl (fun h=>bq ?_) fun O=>al ?_)
  .have h:x.op=1:=by simpa using h
   refine aq ⟨rfl,rfl,?_,trivial⟩;show D.s (.bool (x.op==1))=_;rw[h];rfl
  refine af ?_;refine ab (yC rfl (fun h=>bq ?_) fun e2=>al ?_)
  .have h:x.op=2:=by simpa using h
   refine aq ⟨rfl,rfl,?_,trivial⟩;show D.s (.bool (x.op==2))=_;rw[h];rfl
  refine af ?_;refine ab (yC rfl (fun h=>bq ?_) fun e3=>al ?_)
  .have h:x.op=3:=by simpa using h
   refine aq ⟨rfl,rfl,?_,trivial⟩;show D.s (.bool (x.op==3))=_;rw[h];rfl
  refine af ?_;refine ab (yC rfl (fun h=>bq ?_) fun e4=>al ?_)
  .have h:x.op=4:=by simpa using h
   refine aq ⟨rfl,rfl,?_,trivial⟩;show D.s (.bool (x.op==4))=_;rw[h];rfl
  refine af ?_;refine ab (yC rfl (fun h=>bq ?_) fun e5=>al ?_)
  .have h:x.op=5:=by simpa using h
   refine aq ⟨rfl,rfl,?_,trivial⟩;show D.s (.bool (x.op==5))=_;rw[h];rfl
  refine af ?_;refine ab (yC rfl (fun h=>bq ?_) fun e6=>al ?_)
  .have h:x.op=6:=by simpa using h
   refine aq ⟨rfl,rfl,?_,trivial⟩;show D.s (.bool (x.op==6))=_;rw[h];rfl
  refine af ?_;refine ab (yC rfl (fun h=>bq ?_) fun e7=>al ?_)
  .have h:x.op=7:=by simpa using h
   refine aq ⟨rfl,rfl,?_,trivial⟩;show D.s (.bool (x.op==7))=_;rw[h];rfl
  refine af ?_;refine ab (yC rfl (fun h=>bq ?_) fun e8=>al ?_)
  .have h:x.op=8:=by simpa using h
   refine aq ⟨rfl,rfl,?_,trivial⟩;show D.s (.bool (x.op==8))=_;rw[h];rfl
  refine af ?_;refine ab (yC rfl (fun h=>bq ?_) fun e9=>al ?_)
  .have h:x.op=9:=by simpa using h
   refine aq ⟨rfl,rfl,?_,trivial⟩;show D.s (.bool (x.op==9))=_;rw[h];rfl
  refine af ?_;refine ab (yC rfl (fun h=>bq ?_) fun C=>al ?_)
  .have h:x.op=10:=by simpa using h
   refine aq ⟨rfl,rfl,?_,trivial⟩;show D.s (.bool (x.op==10))=_;rw[h];rfl
  refine af ?_;refine ab (yC rfl (fun h=>bq ?_) fun zC=>al ?_)
  .have h:x.op=11:=by simpa using h
   refine aq ⟨rfl,rfl,?_,trivial⟩;show D.s (.bool (x.op==11))=_;rw[h];rfl
  refine af ?_;refine ab (yC rfl (fun h=>bq ?_) fun U=>al ?_)
  .have h:x.op=13:=by simpa using h
   refine aq ⟨rfl,rfl,?_,trivial⟩;show D.s (.bool (x.op==13))=_;rw[h];rfl
  refine af ?_;refine ab (yC rfl (fun h=>bq ?_) fun zD=>al ?_)
  .have h:x.op=14:=by simpa using h
   refine aq ⟨rfl,rfl,?_,trivial⟩;show D.s (.bool (x.op==14))=_;rw[h];rfl
  refine af ?_;refine ab (yC rfl (fun h=>bq ?_) fun Ez=>ln ?_)
  .have h:x.op=17:=by simpa using h
   refine aq ⟨rfl,rfl,?_,trivial⟩;show D.s (.bool (x.op==17))=_;rw[h];rfl
  refine af ?_;refine ab ?_;refine aq ⟨rfl,rfl,?_,trivial⟩;show D.s (.bool (x.op==19))=_;simp[aI,mv,O,e2,e3,e4,e5,e6,e7,e8,e9,C,zC,U,zD,Ez]
 refine yC rfl (fun h1=>?_) fun h1=>?_
 .refine ws ?_;refine aB ?_;refine ab (bh (bR (aY (ap (d:=I x.to) rfl ?_))));simp[dB,h1]
 refine fO (fun s=>aR prog s ⟨aH [(1,.pt (bF x)),(4,U8 x.op),(23,B (aI nX x.op))],fun _=>none,1⟩) (al ?_) fun s hg=>⟨_,hg,?_⟩
 .refine af ?_;refine ab (yC rfl (fun h=>bq ?_) fun X=>al ?_)
  .have h:x.op=30:=by simpa using h
   refine aq ⟨rfl,rfl,?_,trivial⟩;show D.s (.bool (x.op==30))=_;rw[h];rfl
  refine af ?_;refine ab (yC rfl (fun h=>bq ?_) fun r6=>al ?_)
  .have h:x.op=31:=by simpa using h
   refine aq ⟨rfl,rfl,?_,trivial⟩;show D.s (.bool (x.op==31))=_;rw[h];rfl
  refine af ?_;refine ab (yC rfl (fun h=>bq ?_) fun vo=>al ?_)
  .have h:x.op=32:=by simpa using h
   refine aq ⟨rfl,rfl,?_,trivial⟩;show D.s (.bool (x.op==32))=_;rw[h];rfl
  refine af ?_;refine ab (yC rfl (fun h=>bq ?_) fun vq=>al ?_)
  .have h:x.op=33:=by simpa using h
   refine aq ⟨rfl,rfl,?_,trivial⟩;show D.s (.bool (x.op==33))=_;rw[h];rfl
  refine af ?_;refine ab (yC rfl (fun h=>bq ?_) fun vr=>al ?_)
  .have h:x.op=34:=by simpa using h
   refine aq ⟨rfl,rfl,?_,trivial⟩;show D.s (.bool (x.op==34))=_;rw[h];rfl
  refine af ?_;refine ab (yC rfl (fun h=>bq ?_) fun J=>ln ?_)
  .have h:x.op=36:=by simpa using h
   refine aq ⟨rfl,rfl,?_,trivial⟩;show D.s (.bool (x.op==36))=_;rw[h];rfl
  refine af ?_;refine ab ?_;refine aq ⟨rfl,rfl,?_,trivial⟩;show D.s (.bool (x.op==37))=_;simp[aI,nX,X,r6,vo,vq,vr,J]
 refine yC rfl (fun h2=>?_) fun h2=>?_
 .refine ws ?_;refine aB ?_;refine ab (bh (bR (aY (ap (d:=I x.to) rfl ?_))));simp[dB,h2]
 refine mB (al ?_);refine SS ?_;refine ab (ap (d:=I (-1)) rfl ?_);simp[dB,h1,h2]
theorem NB{x:Argus.End}:ax prog 31 [.agg (bA x)] (I (eu x)):=by
 have J:∀ a∈[D.agg (bA x)],Tr a:=.cons (.agg (lP x)) .nil;have BF:=BF (x:=x.ins);refine bP ah5 J (Tr.s _) ?_;rw[ah6];refine aE ?_;refine af ?_;refine ab (bj (cr [(0,bA x,48)] eH (l:=[(1,.pt (bA x))]) eH) (aV (al ?_)));refine af ?_;refine ab (mW (al ?_));refine af ?_;refine ab (yC rfl (fun h1=>?_) fun h1=>?_)
 .have h1:x.kind=5:=by simpa using h1
  refine ws ?_;refine af ?_;refine cl BF ?_;refine SS ?_;refine ab (bh (bR (aY (ap (d:=I (dB x.ins)) rfl ?_))));simp[eu,h1]
 have h1:¬ x.kind=5:=by simpa using h1
 refine fO (fun s=>aR prog s ⟨aH [(1,.pt (bA x)),(4,U8 x.kind),(10,B (aI [6,7] x.kind))],fun _=>none,1⟩) (al ?_) fun s hg=>⟨_,hg,?_⟩
 .refine af ?_;refine ab (yC rfl (fun h=>bq ?_) fun e6=>ln ?_)
  .have h:x.kind=6:=by simpa using h
   refine aq ⟨rfl,rfl,?_,trivial⟩;show D.s (.bool (x.kind==6))=_;rw[h];rfl
  refine af ?_;refine ab ?_;refine aq ⟨rfl,rfl,?_,trivial⟩;show D.s (.bool (x.kind==7))=_;simp[aI,e6]
 refine yC rfl (fun h2=>?_) fun h2=>?_
 .refine ws ?_;refine aB ?_;refine ab (bh (bR (aY (ap (d:=I x.a) rfl ?_))));simp[eu,h1,h2]
 refine ws ?_;refine af ?_;refine ab (yC rfl (fun C=>?_) fun C=>?_)
 .have C:x.kind=8:=by simpa using C
  refine ws ?_;refine aB ?_;refine ab (bh (bR (aY (ap (d:=I x.b) rfl ?_))));simp[eu,h2,C];simp[aI]
 have C:¬ x.kind=8:=by simpa using C
 refine mB (al ?_);refine SS ?_;refine ab (ap (d:=I (-1)) rfl ?_);simp[eu,h1,h2,C]
theorem BV{l:List Int}(hl:l.length<=100000):ax prog 88 [aX l] (aX l):=by
 have J:∀ a∈[aX l],Tr a:=.cons (ew _) .nil;refine bP ah7 J (ew _) ?_;rw[ah8];have M:(l.map I).take (l.length*1)=l.map I:=dO oS
 have last:AW prog nL true (.seq (.region 3 (Z yh 3) false) .ret) (lE prog [.tmp 2] fun d x=>d=aX l) ⟨aH [(0,aX l)],fun _=>none,0⟩:=by
  refine aE ?_;refine af ?_;refine iw (io rfl rfl rfl V.h V.h (jd M) rfl) ak ⟨V.h,rfl,(by first|omega|exact bg rfl|(simp;done)|(simp;omega)),oC,(by first|rfl|(simp;done)|(simp;omega)),(by unfold maxLen;first|omega|(simp;omega)),(by rw[b3];first|omega|(simp;omega)),(by first|(simp;done)|(simp;omega))⟩ ?_;refine SS ?_;refine ab (bj (cr [(1,l.map I,3)] eH (l:=[(2,aX l)]) ⟨?_,trivial⟩) (ap rfl rfl));show rN _ [(1,l.map I,3)] (.rs 1 0 (0+l.length))=.sl (l.map I) l.length;rw[Nat.zero_add];exact kN c3 (dO oS)
 refine ws ?_;refine SS ?_;refine ab ?_;refine fO (fun s=>aR prog s ⟨aH [(0,aX l)],fun _=>none,0⟩) (al ?_) fun s hg=>⟨_,hg,last⟩
 cases l with
 |nil=>
  refine SS ?_;refine ao (acB rfl) ak V.h ?_;refine ab (abr rfl (aE ?_) (bq (aq eH)));refine SS ?_;exact ab (bj (xF (n0:=2) rfl) (bh (aY (ap rfl rfl))))
 |cons a l=>
  have C:(a::l).length≠0:=by simp
  refine SS ?_;refine ao (acC rfl C) ak V.h ?_;exact ab (yC rfl (fun h=>oH) fun h=>bq (aq eH))
theorem BL{x:bS}(hx:x.op=10\/x.op=38->x.args.length<=1000):ax prog 25 [.agg (bF x)] (aX (cL x)):=by
 have U:∀ a∈[D.agg (bF x)],Tr a:=.cons (.agg (qP x)) .nil;refine bP ah9 U (ew _) ?_;rw[ah'];refine aE ?_;refine af ?_;refine ab (bj (cr [(0,bF x,45)] eH (l:=[(1,.pt (bF x))]) eH) (aV (al ?_)));refine af ?_;refine ab (mW ?_);refine fO (fun s=>aR prog s ⟨aH [(1,.pt (bF x)),(4,U8 x.op),(5,B (aI n1 x.op))],fun _=>none,1⟩) (al ?_) fun s hg=>⟨_,hg,?_⟩
 .refine af ?_;refine ab (yC rfl (fun h=>bq ?_) fun e2=>al ?_)
  .have h:x.op=2:=by simpa using h
   refine aq ⟨rfl,rfl,?_,trivial⟩;show D.s (.bool (x.op==2))=_;rw[h];rfl
  refine af ?_;refine ab (yC rfl (fun h=>bq ?_) fun e8=>al ?_)
  .have h:x.op=8:=by simpa using h
   refine aq ⟨rfl,rfl,?_,trivial⟩;show D.s (.bool (x.op==8))=_;rw[h];rfl
  refine af ?_;refine ab (yC rfl (fun h=>bq ?_) fun zC=>al ?_)
  .have h:x.op=11:=by simpa using h
   refine aq ⟨rfl,rfl,?_,trivial⟩;show D.s (.bool (x.op==11))=_;rw[h];rfl
  refine af ?_;refine ab (yC rfl (fun h=>bq ?_) fun vj=>al ?_)
  .have h:x.op=13:=by simpa using h
   refine aq ⟨rfl,rfl,?_,trivial⟩;show D.s (.bool (x.op==13))=_;rw[h];rfl
  refine af ?_;refine ab (yC rfl (fun h=>bq ?_) fun zD=>al ?_)
  .have h:x.op=14:=by simpa using h
   refine aq ⟨rfl,rfl,?_,trivial⟩;show D.s (.bool (x.op==14))=_;rw[h];rfl
  refine af ?_;refine ab (yC rfl (fun h=>bq ?_) fun EA=>al ?_)
  .have h:x.op=15:=by simpa using h
   refine aq ⟨rfl,rfl,?_,trivial⟩;show D.s (.bool (x.op==15))=_;rw[h];rfl
  refine af ?_;refine ab (yC rfl (fun h=>bq ?_) fun EB=>al ?_)
  .have h:x.op=16:=by simpa using h
   refine aq ⟨rfl,rfl,?_,trivial⟩;show D.s (.bool (x.op==16))=_;rw[h];rfl
  refine af ?_;refine ab (yC rfl (fun h=>bq ?_) fun M=>ln ?_)
  .have h:x.op=18:=by simpa using h
   refine aq ⟨rfl,rfl,?_,trivial⟩;show D.s (.bool (x.op==18))=_;rw[h];rfl
  refine af ?_;refine ab ?_;refine aq ⟨rfl,rfl,?_,trivial⟩;show D.s (.bool (x.op==36))=_;simp[aI,n1,e2,e8,zC,vj,zD,EA,EB,M]
 refine yC rfl (fun h1=>?_) fun h1=>?_
 .refine aE ?_;refine a7 ?_;refine ab (bj (cr [(1,([x.a]).map I,3)] eH (l:=[(2,aX ([x.a]))]) ⟨kN c3 rfl,trivial⟩) (bh (bR (aY (ap (d:=aX ([x.a])) rfl ?_)))));exact congrArg aX (by unfold cL;rw[if_pos h1])
 refine fO (fun s=>aR prog s ⟨aH [(1,.pt (bF x)),(4,U8 x.op),(18,B (aI qQ x.op))],fun _=>none,1⟩) (al ?_) fun s hg=>⟨_,hg,?_⟩
 .refine af ?_;refine ab (yC rfl (fun h=>bq ?_) fun e3=>al ?_)
  .have h:x.op=3:=by simpa using h
   refine aq ⟨rfl,rfl,?_,trivial⟩;show D.s (.bool (x.op==3))=_;rw[h];rfl
  refine af ?_;refine ab (yC rfl (fun h=>bq ?_) fun e4=>al ?_)
  .have h:x.op=4:=by simpa using h
   refine aq ⟨rfl,rfl,?_,trivial⟩;show D.s (.bool (x.op==4))=_;rw[h];rfl
  refine af ?_;refine ab (yC rfl (fun h=>bq ?_) fun e5=>al ?_)
  .have h:x.op=5:=by simpa using h
   refine aq ⟨rfl,rfl,?_,trivial⟩;show D.s (.bool (x.op==5))=_;rw[h];rfl
  refine af ?_;refine ab (yC rfl (fun h=>bq ?_) fun e6=>al ?_)
  .have h:x.op=6:=by simpa using h
   refine aq ⟨rfl,rfl,?_,trivial⟩;show D.s (.bool (x.op==6))=_;rw[h];rfl
  refine af ?_;refine ab (yC rfl (fun h=>bq ?_) fun e7=>al ?_)
  .have h:x.op=7:=by simpa using h
   refine aq ⟨rfl,rfl,?_,trivial⟩;show D.s (.bool (x.op==7))=_;rw[h];rfl
  refine af ?_;refine ab (yC rfl (fun h=>bq ?_) fun O=>al ?_)
  .have h:x.op=12:=by simpa using h
   refine aq ⟨rfl,rfl,?_,trivial⟩;show D.s (.bool (x.op==12))=_;rw[h];rfl
  refine af ?_;refine ab (yC rfl (fun h=>bq ?_) fun vm=>al ?_)
  .have h:x.op=30:=by simpa using h
   refine aq ⟨rfl,rfl,?_,trivial⟩;show D.s (.bool (x.op==30))=_;rw[h];rfl
  refine af ?_;refine ab (yC rfl (fun h=>bq ?_) fun r6=>al ?_)
  .have h:x.op=31:=by simpa using h
   refine aq ⟨rfl,rfl,?_,trivial⟩;show D.s (.bool (x.op==31))=_;rw[h];rfl
  refine af ?_;refine ab (yC rfl (fun h=>bq ?_) fun vo=>al ?_)
  .have h:x.op=32:=by simpa using h
   refine aq ⟨rfl,rfl,?_,trivial⟩;show D.s (.bool (x.op==32))=_;rw[h];rfl
  refine af ?_;refine ab (yC rfl (fun h=>bq ?_) fun vq=>al ?_)
  .have h:x.op=33:=by simpa using h
   refine aq ⟨rfl,rfl,?_,trivial⟩;show D.s (.bool (x.op==33))=_;rw[h];rfl
  refine af ?_;refine ab (yC rfl (fun h=>bq ?_) fun vr=>al ?_)
  .have h:x.op=34:=by simpa using h
   refine aq ⟨rfl,rfl,?_,trivial⟩;show D.s (.bool (x.op==34))=_;rw[h];rfl
  refine af ?_;refine ab (yC rfl (fun h=>bq ?_) fun cV=>ln ?_)
  .have h:x.op=35:=by simpa using h
   refine aq ⟨rfl,rfl,?_,trivial⟩;show D.s (.bool (x.op==35))=_;rw[h];rfl
  refine af ?_;refine ab ?_;refine aq ⟨rfl,rfl,?_,trivial⟩;show D.s (.bool (x.op==37))=_;simp[aI,qQ,e3,e4,e5,e6,e7,O,vm,r6,vo,vq,vr,cV]
 refine yC rfl (fun h2=>?_) fun h2=>?_
 .refine aE ?_;refine cY ?_;refine ab (bj (cr [(1,([x.a,x.b]).map I,3)] eH (l:=[(2,aX ([x.a,x.b]))]) ⟨kN c3 rfl,trivial⟩) (bh (bR (aY (ap (d:=aX ([x.a,x.b])) rfl ?_)))));exact congrArg aX (by unfold cL;rw[if_neg (by simp[h1]),if_pos h2])
 refine ws ?_;refine af ?_;refine ab (yC rfl (fun C=>?_) fun C=>?_)
 .have C:x.op=10:=by simpa using C
  have BV:=BV (l:=x.args) (by have:=hx (.inl C);omega);refine ws ?_;refine af ?_;refine cl BV ?_;refine SS ?_;refine ab (bh (bR (aY (ap (d:=aX x.args) rfl ?_))));exact congrArg aX (by unfold cL;rw[if_neg (by simp[h1]),if_neg (by simp[h2]),if_pos C])
 have C:¬ x.op=10:=by simpa using C
 refine ws ?_;refine af ?_;refine ab (yC rfl (fun J=>?_) fun J=>?_)
 .have J:x.op=38:=by simpa using J
  have hl:=hx (.inr J);have X:(x.args.map I).take (x.args.length*1)=x.args.map I:=dO oS;refine aE ?_;refine fS ?_;refine iw (io rfl rfl rfl V.h V.h (jd X) rfl) ak ⟨V.h,rfl,(by first|omega|exact bg rfl|(simp;done)|(simp;omega)),oC,(by first|rfl|(simp;done)|(simp;omega)),(by unfold maxLen;first|omega|(simp;omega)),(by rw[b3];first|omega|(simp;omega)),(by first|(simp;done)|(simp;omega))⟩ ?_;refine SS ?_;refine ab (bj (cr [(2,(x.a::x.b::x.args).map I,3)] eH (l:=[(2,aX (x.a::x.b::x.args))]) ⟨?_,trivial⟩) (bh (bR (aY (ap (d:=aX (x.a::x.b::x.args)) rfl ?_)))))
  .show rN _ [(2,_,3)] (.rs 2 0 (2+x.args.length))=_;refine(kN c3 (es:=(x.a::x.b::x.args).map I) (dO oP)).trans ?_;rw[Nat.add_comm];rfl
  .exact congrArg aX (by unfold cL;rw[if_neg (by simp[h1]),if_neg (by simp[h2]),if_neg C,if_pos J])
 have J:¬ x.op=38:=by simpa using J
 refine mB (aE ?_);refine SS ?_;refine ab (bj (xF (n0:=2) rfl) (ap (d:=aX []) rfl ?_));exact congrArg aX (by unfold cL;rw[if_neg (by simp[h1]),if_neg (by simp[h2]),if_neg C,if_neg J])
theorem ND{x:Argus.End}(hx:x.kind=5->x.ins.op=10\/x.ins.op=38->x.ins.args.length<=1000)(hy:x.kind=6\/x.kind=7->x.args.length<=1000):ax prog 29 [.agg (bA x)] (aX (cN x)):=by
 have M:∀ a∈[D.agg (bA x)],Tr a:=.cons (.agg (lP x)) .nil;refine bP aia M (ew _) ?_;rw[aib];refine aE ?_;refine af ?_;refine ab (bj (cr [(0,bA x,48)] eH (l:=[(1,.pt (bA x))]) eH) (aV (al ?_)));refine af ?_;refine ab (mW ?_);refine fO (fun s=>aR prog s ⟨aH [(1,.pt (bA x)),(4,U8 x.kind),(5,B (aI [2,8,9] x.kind))],fun _=>none,1⟩) (al ?_) fun s hg=>⟨_,hg,?_⟩
 .refine af ?_;refine ab (yC rfl (fun h=>bq ?_) fun e2=>al ?_)
  .have h:x.kind=2:=by simpa using h
   refine aq ⟨rfl,rfl,?_,trivial⟩;show D.s (.bool (x.kind==2))=_;rw[h];rfl
  refine af ?_;refine ab (yC rfl (fun h=>bq ?_) fun e8=>ln ?_)
  .have h:x.kind=8:=by simpa using h
   refine aq ⟨rfl,rfl,?_,trivial⟩;show D.s (.bool (x.kind==8))=_;rw[h];rfl
  refine af ?_;refine ab ?_;refine aq ⟨rfl,rfl,?_,trivial⟩;show D.s (.bool (x.kind==9))=_;simp[aI,e2,e8]
 refine yC rfl (fun h1=>?_) fun h1=>?_
 .refine aE ?_;refine a7 ?_;refine ab (bj (cr [(1,([x.a]).map I,3)] eH (l:=[(2,aX ([x.a]))]) ⟨kN c3 rfl,trivial⟩) (bh (bR (aY (ap (d:=aX ([x.a])) rfl ?_)))));exact congrArg aX (by unfold cN;rw[if_pos h1])
 refine ws ?_;refine af ?_;refine ab (yC rfl (fun h2=>?_) fun h2=>?_)
 .have h2:x.kind=3:=by simpa using h2
  refine ws ?_;refine aB ?_;refine ab (yC rfl (fun C=>?_) fun C=>?_)
  .have C:¬ x.a= -1:=by simpa[bne,ib] using C
   refine aE ?_;refine a7 ?_;refine ab (bj (cr [(1,([x.a]).map I,3)] eH (l:=[(2,aX ([x.a]))]) ⟨kN c3 rfl,trivial⟩) (bh (bR (aY (ap (d:=aX ([x.a])) rfl ?_)))));exact congrArg aX (by unfold cN;rw[if_neg (by simp[h1]),if_pos h2,if_pos C])
  .have C:x.a= -1:=by simpa[bne,ib] using C
   refine mB (aE ?_);refine SS ?_;refine ab (bj (xF (n0:=2) rfl) (ap (d:=aX []) rfl ?_));exact congrArg aX (by unfold cN;rw[if_neg (by simp[h1]),if_pos h2,if_neg (by simp[C])])
 have h2:¬ x.kind=3:=by simpa using h2
 refine ws ?_;refine af ?_;refine ab (yC rfl (fun C=>?_) fun C=>?_)
 .have C:x.kind=5:=by simpa using C
  have BL:=BL (x:=x.ins) (hx C);refine ws ?_;refine af ?_;refine cl BL ?_;refine SS ?_;refine ab (bh (bR (aY (ap (d:=aX (cL x.ins)) rfl ?_))));exact congrArg aX (by unfold cN;rw[if_neg (by simp[h1]),if_neg h2,if_pos C])
 have C:¬ x.kind=5:=by simpa using C
 refine fO (fun s=>aR prog s ⟨aH [(1,.pt (bA x)),(4,U8 x.kind),(25,B (aI [6,7] x.kind))],fun _=>none,1⟩) (al ?_) fun s hg=>⟨_,hg,?_⟩
 .refine af ?_;refine ab (yC rfl (fun h=>bq ?_) fun e6=>ln ?_)
  .have h:x.kind=6:=by simpa using h
   refine aq ⟨rfl,rfl,?_,trivial⟩;show D.s (.bool (x.kind==6))=_;rw[h];rfl
  refine af ?_;refine ab ?_;refine aq ⟨rfl,rfl,?_,trivial⟩;show D.s (.bool (x.kind==7))=_;simp[aI,e6]
 refine yC rfl (fun J=>?_) fun J=>?_
 .have O:x.kind=6\/x.kind=7:=by simpa[aI] using J
  have BV:=BV (l:=x.args) (by have:=hy O;omega);refine ws ?_;refine af ?_;refine cl BV ?_;refine SS ?_;refine ab (bh (bR (aY (ap (d:=aX x.args) rfl ?_))));exact congrArg aX (by unfold cN;rw[if_neg (by simp[h1]),if_neg h2,if_neg C,if_pos J])
 refine mB (aE ?_);refine SS ?_;refine ab (bj (xF (n0:=2) rfl) (ap (d:=aX []) rfl ?_));exact congrArg aX (by unfold cN;rw[if_neg (by simp[h1]),if_neg h2,if_neg C,if_neg (by simp[J])])
theorem Mx{l:List Int}{g:FuncId}{fs cs:List D}{p:Int->Bool}(ht:Tr (.fn (.func g) fs cs))(hg:∀ x∈l,ax prog g (fs++[U8 x]++cs) (B (p x))):ax prog 270 [mY l,.fn (.func g) fs cs] (I (s8 p l)):=by
 refine qH TM.he (.cons (si _) (.cons ht .nil)) fun J=>?_;have hlen:=(J (mY l) oS).sl.1;unfold maxLen at hlen;refine bP TM (.cons (si _) (.cons ht .nil)) (Tr.s _) ?_;rw[adt];refine ws ?_;refine SS ?_;refine ab (aV (aE ?_));refine aB ?_
 refine ab (dA (fun s=>aR prog s ⟨aH [],fun _=>none,0⟩/\∀ (j:Nat) y,l[j]? =some y->p y=false) (iK (α:=Nat) (fun k=>⟨aH [(0,mY l),(1,.fn (.func g) fs cs),(7,I l.length),(8,I k)],fun _=>none,0⟩)
  (fun k=>k<=l.length/\∀ j y,j<k->l[j]? =some y->p y=false) (fun k=>l.length - k) 0 (aq eH) ⟨oG,fun j y hj=>by omega⟩ ?_) ?_)
 .rintro k ⟨hk,hinv⟩;refine SS ?_;refine ab ⟨_,rfl,fun h=>?_,fun h=>?_⟩
  .have aj:k<l.length:=by simpa using h
   have hx:l[k]? =some l[k]:=by simp[aj]
   generalize l[k]=x at hx;have M:=hg x (cX hx);refine ws ?_;refine af ?_;refine er ?_;refine bH ?_;refine cl M ?_;refine ab (yC rfl (fun hp=>?_) fun hp=>?_)
   .refine ws ?_;refine af ?_;refine ab (bh (dp (aY (ap rfl ?_))));rw[E8 hx hp hinv];rfl
   .refine eC ?_;refine af ?_;refine ab (bD (k+1) (aq eH) ⟨oG,fun j y hj hy=>?_⟩ oG);by_cases e:j=k
    .subst e;rw[hx] at hy;cases hy;exact hp
    .exact hinv j y oG hy
  .have O:¬ k<l.length:=by simpa using h
   exact⟨.forget _ _ _ _ fun _=>.inr rfl,fun j y hy=>hinv j y (by have:=(bZ.1 hy).1;omega) hy⟩
 .rintro s ⟨hg,C⟩;refine⟨_,hg,al ?_⟩;refine SS ?_;refine ab (ap rfl ?_);rw[E' C];rfl
theorem uH{l:List Int}{g:FuncId}{fs cs:List D}{p:Int->Bool}(ht:Tr (.fn (.func g) fs cs))(hg:∀ x∈l,ax prog g (fs++[U8 x]++cs) (B (p x))):ax prog 204 [mY l,.fn (.func g) fs cs] (B (l.any p)):=by
 have Mx:=Mx ht hg;refine bP adu (.cons (si _) (.cons ht .nil)) (Tr.s _) ?_;rw[adv];refine ws ?_;refine SS ?_;refine er ?_;refine af ?_;refine cl Mx ?_;refine af ?_;refine ab (ap rfl ?_);rw[<- Fq];rfl
theorem My{l:List ByteArray}{g:FuncId}{fs cs:List D}{p:ByteArray->Bool}(ht:Tr (.fn (.func g) fs cs))(hg:∀ x∈l,ax prog g (fs++[S x]++cs) (B (p x))):ax prog 207 [qO l,.fn (.func g) fs cs] (I (s8 p l)):=by
 refine qH TN.he (.cons (xP _) (.cons ht .nil)) fun J=>?_;have hlen:=(J (qO l) oS).sl.1;unfold maxLen at hlen;refine bP TN (.cons (xP _) (.cons ht .nil)) (Tr.s _) ?_;rw[adw];refine ws ?_;refine SS ?_;refine ab (aV (aE ?_));refine aB ?_
 refine ab (dA (fun s=>aR prog s ⟨aH [],fun _=>none,0⟩/\∀ (j:Nat) y,l[j]? =some y->p y=false) (iK (α:=Nat) (fun k=>⟨aH [(0,qO l),(1,.fn (.func g) fs cs),(7,I l.length),(8,I k)],fun _=>none,0⟩)
  (fun k=>k<=l.length/\∀ j y,j<k->l[j]? =some y->p y=false) (fun k=>l.length - k) 0 (aq eH) ⟨oG,fun j y hj=>by omega⟩ ?_) ?_)
 .rintro k ⟨hk,hinv⟩;refine SS ?_;refine ab ⟨_,rfl,fun h=>?_,fun h=>?_⟩
  .have aj:k<l.length:=by simpa using h
   have hx:l[k]? =some l[k]:=by simp[aj]
   generalize l[k]=x at hx;have M:=hg x (cX hx);refine ws ?_;refine af ?_;refine er ?_;refine bH ?_;refine cl M ?_;refine ab (yC rfl (fun hp=>?_) fun hp=>?_)
   .refine ws ?_;refine af ?_;refine ab (bh (dp (aY (ap rfl ?_))));rw[E8 hx hp hinv];rfl
   .refine eC ?_;refine af ?_;refine ab (bD (k+1) (aq eH) ⟨oG,fun j y hj hy=>?_⟩ oG);by_cases e:j=k
    .subst e;rw[hx] at hy;cases hy;exact hp
    .exact hinv j y oG hy
  .have O:¬ k<l.length:=by simpa using h
   exact⟨.forget _ _ _ _ fun _=>.inr rfl,fun j y hy=>hinv j y (by have:=(bZ.1 hy).1;omega) hy⟩
 .rintro s ⟨hg,C⟩;refine⟨_,hg,al ?_⟩;refine SS ?_;refine ab (ap rfl ?_);rw[E' C];rfl
theorem Ho{l:List ByteArray}{g:FuncId}{fs cs:List D}{p:ByteArray->Bool}(ht:Tr (.fn (.func g) fs cs))(hg:∀ x∈l,ax prog g (fs++[S x]++cs) (B (p x))):ax prog 139 [qO l,.fn (.func g) fs cs] (B (l.any p)):=by
 have My:=My ht hg;refine bP adx (.cons (xP _) (.cons ht .nil)) (Tr.s _) ?_;rw[ady];refine ws ?_;refine SS ?_;refine er ?_;refine af ?_;refine cl My ?_;refine af ?_;refine ab (ap rfl ?_);rw[<- Fq];rfl
theorem Mz{l:List kC}{g:FuncId}{fs cs:List D}{p:kC->Bool}(ht:Tr (.fn (.func g) fs cs))(hg:∀ x∈l,ax prog g (fs++[.agg (lg x)]++cs) (B (p x))):ax prog 294 [pX l,.fn (.func g) fs cs] (I (s8 p l)):=by
 refine qH TO.he (.cons (j9 _) (.cons ht .nil)) fun J=>?_;have hlen:=(J (pX l) oS).sl.1;unfold maxLen at hlen;refine bP TO (.cons (j9 _) (.cons ht .nil)) (Tr.s _) ?_;rw[adz];refine ws ?_;refine SS ?_;refine ab (aV (aE ?_));refine aB ?_
 refine ab (dA (fun s=>aR prog s ⟨aH [],fun _=>none,0⟩/\∀ (j:Nat) y,l[j]? =some y->p y=false) (iK (α:=Nat) (fun k=>⟨aH [(0,pX l),(1,.fn (.func g) fs cs),(7,I l.length),(8,I k)],fun _=>none,0⟩)
  (fun k=>k<=l.length/\∀ j y,j<k->l[j]? =some y->p y=false) (fun k=>l.length - k) 0 (aq eH) ⟨oG,fun j y hj=>by omega⟩ ?_) ?_)
 .rintro k ⟨hk,hinv⟩;refine SS ?_;refine ab ⟨_,rfl,fun h=>?_,fun h=>?_⟩
  .have aj:k<l.length:=by simpa using h
   have hx:l[k]? =some l[k]:=by simp[aj]
   generalize l[k]=x at hx;have M:=hg x (cX hx);refine ws ?_;refine af ?_;refine er ?_;refine bH ?_;refine cl M ?_;refine ab (yC rfl (fun hp=>?_) fun hp=>?_)
   .refine ws ?_;refine af ?_;refine ab (bh (dp (aY (ap rfl ?_))));rw[E8 hx hp hinv];rfl
   .refine eC ?_;refine af ?_;refine ab (bD (k+1) (aq eH) ⟨oG,fun j y hj hy=>?_⟩ oG);by_cases e:j=k
    .subst e;rw[hx] at hy;cases hy;exact hp
    .exact hinv j y oG hy
  .have O:¬ k<l.length:=by simpa using h
   exact⟨.forget _ _ _ _ fun _=>.inr rfl,fun j y hy=>hinv j y (by have:=(bZ.1 hy).1;omega) hy⟩
 .rintro s ⟨hg,C⟩;refine⟨_,hg,al ?_⟩;refine SS ?_;refine ab (ap rfl ?_);rw[E' C];rfl
theorem Dy{l:List kC}{g:FuncId}{fs cs:List D}{p:kC->Bool}(ht:Tr (.fn (.func g) fs cs))(hg:∀ x∈l,ax prog g (fs++[.agg (lg x)]++cs) (B (p x))):ax prog 272 [pX l,.fn (.func g) fs cs] (B (l.any p)):=by
 have Mz:=Mz ht hg;refine bP adA (.cons (j9 _) (.cons ht .nil)) (Tr.s _) ?_;rw[adB];refine ws ?_;refine SS ?_;refine er ?_;refine af ?_;refine cl Mz ?_;refine af ?_;refine ab (ap rfl ?_);rw[<- Fq];rfl
theorem MA{l:List Int}{g:FuncId}{fs cs:List D}{p:Int->Bool}(ht:Tr (.fn (.func g) fs cs))(hg:∀ x∈l,ax prog g (fs++[I x]++cs) (B (p x))):ax prog 159 [aX l,.fn (.func g) fs cs] (I (s8 p l)):=by
 refine qH TP.he (.cons (ew _) (.cons ht .nil)) fun J=>?_;have hlen:=(J (aX l) oS).sl.1;unfold maxLen at hlen;refine bP TP (.cons (ew _) (.cons ht .nil)) (Tr.s _) ?_;rw[adC];refine ws ?_;refine SS ?_;refine ab (aV (aE ?_));refine aB ?_
 refine ab (dA (fun s=>aR prog s ⟨aH [],fun _=>none,0⟩/\∀ (j:Nat) y,l[j]? =some y->p y=false) (iK (α:=Nat) (fun k=>⟨aH [(0,aX l),(1,.fn (.func g) fs cs),(7,I l.length),(8,I k)],fun _=>none,0⟩)
  (fun k=>k<=l.length/\∀ j y,j<k->l[j]? =some y->p y=false) (fun k=>l.length - k) 0 (aq eH) ⟨oG,fun j y hj=>by omega⟩ ?_) ?_)
 .rintro k ⟨hk,hinv⟩;refine SS ?_;refine ab ⟨_,rfl,fun h=>?_,fun h=>?_⟩
  .have aj:k<l.length:=by simpa using h
   have hx:l[k]? =some l[k]:=by simp[aj]
   generalize l[k]=x at hx;have M:=hg x (cX hx);refine ws ?_;refine af ?_;refine er ?_;refine bH ?_;refine cl M ?_;refine ab (yC rfl (fun hp=>?_) fun hp=>?_)
   .refine ws ?_;refine af ?_;refine ab (bh (dp (aY (ap rfl ?_))));rw[E8 hx hp hinv];rfl
   .refine eC ?_;refine af ?_;refine ab (bD (k+1) (aq eH) ⟨oG,fun j y hj hy=>?_⟩ oG);by_cases e:j=k
    .subst e;rw[hx] at hy;cases hy;exact hp
    .exact hinv j y oG hy
  .have O:¬ k<l.length:=by simpa using h
   exact⟨.forget _ _ _ _ fun _=>.inr rfl,fun j y hy=>hinv j y (by have:=(bZ.1 hy).1;omega) hy⟩
 .rintro s ⟨hg,C⟩;refine⟨_,hg,al ?_⟩;refine SS ?_;refine ab (ap rfl ?_);rw[E' C];rfl
theorem BE{l:List Int}{g:FuncId}{fs cs:List D}{p:Int->Bool}(ht:Tr (.fn (.func g) fs cs))(hg:∀ x∈l,ax prog g (fs++[I x]++cs) (B (p x))):ax prog 77 [aX l,.fn (.func g) fs cs] (B (l.any p)):=by
 have MA:=MA ht hg;refine bP agQ (.cons (ew _) (.cons ht .nil)) (Tr.s _) ?_;rw[agR];refine ws ?_;refine SS ?_;refine er ?_;refine af ?_;refine cl MA ?_;refine af ?_;refine ab (ap rfl ?_);rw[<- Fq];rfl
theorem mi{n a b:Int}:ax prog 74 [I n,I a,I b] (B (c8 n a b)):=by
 refine bP ahe (by simp[Tr.s]) (Tr.s _) ?_;rw[ahf];refine ws ?_;refine SS ?_;refine er ?_;refine SN9 ?_;refine ab (ap (d:=.s (.bool _)) rfl ?_);simp[c8]
theorem ahg{b:Int}:ax prog 205 [U8 b] (B (sk b)):=by
 refine bP aen (by simp[Tr.s]) (Tr.s _) ?_;rw[aeo];refine ws ?_;refine SS ?_;refine er ?_;refine fS ?_;refine ab (ap (d:=.s (.bool _)) rfl ?_);simp[sk]
theorem ahh{b:Int}:ax prog 208 [U8 b] (B (sr b)):=by
 refine bP aep (by simp[Tr.s]) (Tr.s _) ?_;rw[aeq];refine ws ?_;refine SS ?_;refine er ?_;refine SN9 ?_;refine cY ?_;refine ab (ap (d:=.s (.bool _)) rfl ?_);simp[sr]
theorem rC{s:ByteArray}:ax prog 137 [S s] (B (lu s)):=by
 refine bP aer (by simp[Tr.s]) (Tr.s _) ?_;have uH:=uH (l:=cW s) (g:=205) (fs:=[]) (cs:=[]) (p:=sk) (.fn oS oS) (fun x _=>ahg);rw[aes];refine ws ?_;refine SS ?_;refine er ?_;refine af ?_;refine cl mi ?_;refine af ?_;refine bQ rfl rfl (P8 rfl V.h V.h) (fun hc=>⟨ak,⟨V.h,by have:=kH.1 (by simpa using hc);unfold maxLen;omega⟩⟩) ?_;refine gc uH ?_;refine aB ?_;refine ab (ap (d:=.s (.bool _)) rfl ?_);simp[lu]
theorem DE{s:ByteArray}:ax prog 141 [S s] (B (isName s)):=by
 refine bP aet (by simp[Tr.s]) (Tr.s _) ?_;have uH:=uH (l:=cW s) (g:=208) (fs:=[]) (cs:=[]) (p:=sr) (.fn oS oS) (fun x _=>ahh);rw[aeu];refine ws ?_;refine SS ?_;refine er ?_;refine af ?_;refine cl mi ?_;refine af ?_;refine bQ rfl rfl (P8 rfl V.h V.h) (fun hc=>⟨ak,⟨V.h,by have:=kH.1 (by simpa using hc);unfold maxLen;omega⟩⟩) ?_;refine gc uH ?_;refine aB ?_;refine ab (ap (d:=.s (.bool _)) rfl ?_);simp[isName]
theorem ahi{s:ByteArray}:ax prog 140 [S s] (B !(isName s)):=by
 refine bP aev (by simp[Tr.s]) (Tr.s _) ?_;rw[aew];refine ws ?_;refine SS ?_;refine er ?_;refine SS ?_;refine cl DE ?_;refine af ?_;refine ab (ap rfl rfl)
theorem ahj{b m:Int}:ax prog 206 [U8 b,.pt [U8 m]] (B (mu m b)):=by
 refine bP aex (.cons (.s _) (.cons (.pt (by simp[Tr.s])) .nil)) (Tr.s _) ?_;rw[aey];refine ws ?_;refine SS ?_;refine er ?_;refine cT ?_;refine ab (ap (d:=.s (.bool _)) rfl ?_);simp[mu]
theorem ML{l:List Int}{m:Int}:ax prog 138 [mY l,U8 m] (B (eV l m)):=by
 refine bP aez (.cons (si _) (.cons (.s _) .nil)) (Tr.s _) ?_;have uH:=uH (l:=l) (g:=206) (fs:=[]) (cs:=[.pt [U8 m]]) (p:=mu m) (.fn oS (.cons (.pt (by simp[Tr.s])) .nil)) (fun x _=>ahj);rw[aeA];refine aE ?_;refine cM (Ks (d:=.s (.int _ _)) rfl rfl) ak rfl ?_;refine SS ?_;refine ab (bj (cr [(0,[U8 m],5)] eH (l:=[(0,mY l),(3,.pt [U8 m])]) eH) (al ?_));refine af ?_;refine cl uH ?_;refine af ?_;refine ab (ap rfl rfl)
theorem Jj{p q:D}{f:bd}(h:Real (.agg (bu p q f))):f.ag.length<=maxLen/\f.aU.length<=maxLen/\f.signals.length<=maxLen/\f.blocks.length<=maxLen:=
 ⟨(h.agg (mY f.ag) (by simp[bu])).sl.1,(h.agg (mY f.aU) (by simp[bu])).sl.1,(h.agg (qO f.signals) (by simp[bu])).sl.1,(h.agg (gl f.blocks) (by simp[bu])).sl.1⟩
section
variable{p q:D}{f:bd}(hp:Tr p)(hq:Tr q)(gi:p.one=true)(eS:q.one=true)
include hp hq gi eS
theorem jO{n:Int}:ax prog 209 [.agg (bu p q f),I n] (B (c8 n 0 (f.blocks.length - 1))):=by
 have C:∀ a∈[D.agg (bu p q f),I n],Tr a:=.cons (my hp hq f) (.cons (.s _) .nil);refine qH TT.he C fun J=>?_;obtain⟨M,O,U,X⟩:=Jj (J _ (List.mem_cons_self ..));unfold maxLen at*
 refine bP TT C (Tr.s _) ?_;rw[aeC];refine ws ?_;refine af ?_;refine er ?_;refine cY ?_;refine cl mi ?_;refine SS ?_;refine ab (ap rfl rfl)
theorem fD{r:Int}:ax prog 210 [.agg (bu p q f),I r] (U8 (cB f.ag r)):=by
 have C:∀ a∈[D.agg (bu p q f),I r],Tr a:=.cons (my hp hq f) (.cons (.s _) .nil);refine qH TU.he C fun J=>?_;obtain⟨M,O,U,X⟩:=Jj (J _ (List.mem_cons_self ..));unfold maxLen at*
 refine bP TU C (Tr.s _) ?_;rw[aeD];refine ws ?_;refine af ?_;refine ab (aV (al ?_));refine cY ?_;refine cl mi ?_;refine SS ?_;refine ab (dI rfl (fun h=>?_) fun h=>?_)
 .refine aV (al ?_);refine SS ?_;refine ab (fN (ap rfl ?_));rw[Jh (fun hh=>by simp[c8] at h;omega)];rfl
 .have hh:0<=r/\r<f.ag.length:=by simp[c8] at h;omega
  obtain⟨i,rfl⟩:=ic hh.1;have aj:i<f.ag.length:=by omega
  have hx:f.ag[i]? =some f.ag[i]:=by simp[aj]
  generalize f.ag[i]=x at hx;refine dL (al ?_);refine fS ?_;refine ab (ap rfl ?_);rw[ss hx];rfl
theorem ahs{r:Int}:ax prog 274 [I r,.pt (bu p q f)] (B !(eA f.ag r)):=by
 have C:∀ a∈[I r,D.pt (bu p q f)],Tr a:=.cons (.s _) (.cons (.pt (Ck hp hq f)) .nil);have fD:=fD (f:=f) (r:=r) hp hq gi eS;refine bP aeE C (Tr.s _) ?_;rw[aeF];refine ws ?_;refine SS ?_;refine er ?_;refine af ?_;refine cl fD ?_;refine a7 ?_;refine gc fD ?_;refine aB ?_;refine ab (ap (d:=.s (.bool _)) rfl ?_);unfold eA;generalize cB f.ag r=k;show D.s (.bool _)=D.s (.bool _);simp only[bne];cases (k==1)<;>cases (k==2)<;>rfl
theorem ix{l:List Int}:ax prog 213 [.agg (bu p q f),aX l] (B (gz f.ag l)):=by
 have C:∀ a∈[D.agg (bu p q f),aX l],Tr a:=.cons (my hp hq f) (.cons (ew _) .nil);have BE:=BE (l:=l) (g:=274) (fs:=[]) (cs:=[.pt (bu p q f)]) (p:=fun r=> !(eA f.ag r)) (.fn oS (.cons (.pt (Ck hp hq f)) .nil)) (fun x _=>ahs hp hq gi eS);refine bP aeG C (Tr.s _) ?_;rw[aeH];refine aE ?_;refine af ?_;refine ab (bj (cr [(0,bu p q f,93)] eH (l:=[(1,aX l),(2,.pt (bu p q f))]) eH) (al ?_));refine af ?_;refine cl BE ?_;refine af ?_;refine ab (ap (d:=.s (.bool _)) rfl ?_);simp[gz,List.all_eq_not_any_not]
theorem Ht{r n:Int}:ax prog 215 [.agg (bu p q f),I r,I n] (B (lT f.ag f.aU r n)):=by
 have J:∀ a∈[D.agg (bu p q f),I r,I n],Tr a:=.cons (my hp hq f) (.cons (.s _) (.cons (.s _) .nil));refine qH TV.he J fun M=>?_;obtain⟨O,U,X,l4⟩:=Jj (M _ (List.mem_cons_self ..));unfold maxLen at*
 have fD:=fD (f:=f) (r:=r) hp hq gi eS;refine bP TV J (Tr.s _) ?_;rw[aeI];have mi:=mi (n:=n) (a:=0) (b:=f.aU.length - 1);by_cases hh:0<=n/\n<f.aU.length
 .obtain⟨i,rfl⟩:=ic hh.1;have aj:i<f.aU.length:=by omega
  have hx:f.aU[i]? =some f.aU[i]:=by simp[aj]
  generalize f.aU[i]=x at hx;have C:c8 (i:Int) 0 (f.aU.length - 1)=true:=kH.2 oG;rw[C] at mi;refine ws ?_;refine af ?_;refine ab (eF PE ?_);refine cY ?_;refine cl mi ?_;refine SS ?_;refine bQ rfl rfl (dP (vs:=bu _ _ _) rfl rfl V.h V.h rfl) (fun hc=>⟨ak,(dQ V.h V.h (by first|(simp;done)|omega|exact bg rfl))⟩) ?_;refine SS ?_;refine gc fD ?_;refine SN9 ?_;refine bX bY ?_;refine ap (d:=.s (.bool _)) rfl ?_;simp[lT,C,ss hx]
 .have C:c8 n 0 (f.aU.length - 1)=false:=YN.2 oG;rw[C] at mi;refine ws ?_;refine af ?_;refine ab (eF PE ?_);refine cY ?_;refine cl mi ?_;refine SS ?_;(iterate 10 refine z fun _ _=>?_);refine af ?_;refine bX bY ?_;refine ap (d:=.s (.bool _)) rfl ?_;simp[lT,C]
end
section
variable{p q:D}{f:bd}(hp:Tr p)(hq:Tr q)(gi:p.one=true)(eS:q.one=true)
include hp hq gi eS
theorem DH{r want kd:Int}:ax prog 271 [.agg (bu p q f),I r,I want,U8 kd] (B (lQ f.ag r want kd)):=by
 have J:∀ a∈[D.agg (bu p q f),I r,I want,U8 kd],Tr a:=.cons (my hp hq f) (.cons (.s _) (.cons (.s _) (.cons (.s _) .nil)));have fD:=fD (f:=f) (r:=r) hp hq gi eS;refine bP aeJ J (Tr.s _) ?_;rw[aeK];refine ws ?_;refine af ?_;refine er ?_;refine ao (dP (vs:=bu _ _ _) rfl rfl V.h V.h rfl) ak (dQ V.h V.h (by first|(simp;done)|omega|exact bg rfl)) ?_;refine SS ?_;refine cl fD ?_;refine SS ?_;refine ab (aV (al ?_));refine SS ?_;refine ab (mW (al ?_));refine af ?_;refine ab (yC rfl (fun h0=>?_) fun h0=>?_)
 .have h0:want=0:=by simpa using h0
  refine ws ?_;refine aB ?_;refine ab (bh (bR (aY (ap (d:=.s (.bool _)) rfl ?_))));simp[lQ,h0]
 have h0:¬ want=0:=by simpa using h0
 refine ws ?_;refine af ?_;refine ab (yC rfl (fun h1=>?_) fun h1=>?_)
 .have h1:want=1:=by simpa using h1
  refine ws ?_;refine aB ?_;refine ab (bh (bR (aY (ap (d:=.s (.bool _)) rfl ?_))));simp[lQ,h1]
 have h1:¬ want=1:=by simpa using h1
 refine ws ?_;refine af ?_;refine ab (yC rfl (fun h2=>?_) fun h2=>?_)
 .have h2:want=2:=by simpa using h2
  refine ws ?_;refine aB ?_;refine ab (bh (bR (aY (ap (d:=.s (.bool _)) rfl ?_))));simp[lQ,h2]
 have h2:¬ want=2:=by simpa using h2
 refine ws ?_;refine af ?_;refine ab (yC rfl (fun C=>?_) fun C=>?_)
 .have C:want=3:=by simpa using C
  refine ws ?_;refine fS ?_;refine ab (bh (bR (aY (ap (d:=.s (.bool _)) rfl ?_))));simp[lQ,C,eA,ib]
 have C:¬ want=3:=by simpa using C
 refine mB (al ?_);refine cT ?_;refine ab (ap (d:=.s (.bool _)) rfl ?_);simp[lQ,h0,h1,h2,C,ib,bne]
theorem Bb{x:bS}{s:Shape}:ax prog 211 [.agg (bu p q f),.agg (bF x),.agg (jD s)] (B (oZ f.ag x s)):=by
 have M:∀ a∈[D.agg (bu p q f),.agg (bF x),.agg (jD s)],Tr a:=.cons (my hp hq f) (.cons (.agg (qP x)) (.cons (.agg (PF s)) .nil));have fD:=fun r=>fD (f:=f) (r:=r) hp hq gi eS;have DH:= @DH p q f hp hq gi eS;have ix:=ix (f:=f) hp hq gi eS (l:=x.args);have J:=mi (n:=x.n) (a:=s.low) (b:=s.high);refine bP aeL M (Tr.s _) ?_;rw[aeM];refine aE ?_;refine af ?_;refine cM (sG (cs:=jD _) rfl) ak (by first|rfl|exact tO gi eS|exact oB _|exact ur cK) ?_;refine SS ?_;refine ab (bj (cr [(0,bu p q f,93),(1,bF x,45),(2,jD s,235)] eH (l:=[(3,.pt (bu p q f)),(4,.pt (bF x)),(5,.pt (jD s))]) eH) (al ?_));have C:=fD;have fD:=fD x.to;refine aB ?_;refine cl fD ?_;refine SS ?_;refine ab ?_;refine fO (fun s'=>aR prog s' ⟨aH [(3,.pt (bu p q f)),(4,.pt (bF x)),(5,.pt (jD s)),(7,U8 (pZ f.ag x s))],fun _=>none,3⟩) (al ?_) fun s' hg=>⟨_,hg,?_⟩
 .refine cT ?_;refine ab (yC rfl (fun h=>ln ?_) fun h=>bq ?_)
  .have h:s.to=0\/s.to=1:=by simpa[ib] using h
   have fD:=C x.a;refine aB ?_;refine cl fD ?_;refine SS ?_;refine ab ?_;show aR _ _ _;refine aq (l:=[(3,_),(4,_),(5,_),(7,_)]) ⟨rfl,rfl,rfl,?_,trivial⟩;simp only[pZ,if_pos h];rfl
  .have h:¬ (s.to=0\/s.to=1):=by simpa[ib] using h
   show aR _ _ _;refine aq (l:=[(3,_),(4,_),(5,_),(7,_)]) ⟨rfl,rfl,rfl,?_,trivial⟩;simp only[pZ,if_neg h];rfl
 refine ws ?_;refine bH ?_;refine ab ?_;refine fO (fun s'=>aR prog s' ⟨aH [(3,.pt (bu p q f)),(4,.pt (bF x)),(5,.pt (jD s)),(7,U8 (pZ f.ag x s)),(8,B (pU f.ag x s))],fun _=>none,3⟩) (al ?_) fun s' hg=>⟨_,hg,?_⟩
 .refine af ?_;refine ab (qN (al ?_));refine af ?_;refine ab (yC rfl (fun h=>nY ?_) fun h=>al ?_)
  .have h:s.args=5:=by simpa using h
   have mi:=mi (n:=x.args.length) (a:=1) (b:=6);refine aB ?_;refine cl mi ?_;refine a7 ?_;refine gc ix ?_;refine af ?_;refine ab ?_;refine aq ⟨rfl,rfl,rfl,rfl,?_,trivial⟩;show D.s (.bool _)=_;simp[pU,h]
  .have O:¬ s.args=5:=by simpa using h
   refine af ?_;refine ab (yC rfl (fun h=>nY ?_) fun h=>Jp ?_)
   .have h:s.args=6:=by simpa using h
    refine cT ?_;refine gc ix ?_;refine af ?_;refine ab ?_;refine aq ⟨rfl,rfl,rfl,rfl,?_,trivial⟩;show D.s (.bool _)=_;simp[pU,h,ib]
   .have U:¬ s.args=6:=by simpa using h
    refine aq ⟨rfl,rfl,rfl,rfl,?_,trivial⟩;show D.s (.bool _)=_;simp[pU,O,U,ib]
 refine ws ?_;refine bH ?_;refine cl DH ?_;refine fS ?_;refine gc DH ?_;refine cT ?_;refine gc DH ?_;refine SN9 ?_;refine af ?_;refine gc mi ?_;refine af ?_;refine ab (ap (d:=.s (.bool _)) rfl ?_);simp[oZ,Bool.and_assoc]
end
theorem MO{x:bS}:ax prog 275 [.agg (bF x)] (B (CL x)):=by
 have C:∀ a∈[D.agg (bF x)],Tr a:=.cons (.agg (qP x)) .nil;refine bP aeO C (Tr.s _) ?_;rw[aeP];refine ws ?_;refine af ?_;refine er ?_;refine SN9 ?_;refine SN9 ?_;refine SN9 ?_;refine aB ?_;refine ab (ap (d:=.s (.bool _)) rfl ?_);simp only[CL,ib];cases decide (x.op=0)<;>cases decide (x.to=0)<;>cases decide (x.a=0)<;>cases decide (x.b=0)<;>cases decide (x.n=0)<;>rfl
theorem MP{x:Argus.End}:ax prog 214 [.agg (bA x)] (B (yA x)):=by
 have C:∀ a∈[D.agg (bA x)],Tr a:=.cons (.agg (lP x)) .nil;have MO:=MO (x:=x.ins);refine bP aeQ C (Tr.s _) ?_;rw[aeR];refine ws ?_;refine af ?_;refine er ?_;refine SN9 ?_;refine SN9 ?_;refine SN9 ?_;refine SN9 ?_;refine SN9 ?_;refine af ?_;refine bQ rfl rfl (dP (vs:=bF _) rfl rfl V.h V.h rfl) (fun hc=>⟨ak,(dQ V.h V.h (by first|(simp;done)|omega|exact bg rfl))⟩) ?_;refine gc MO ?_;refine af ?_;refine ab (ap (d:=.s (.bool _)) rfl ?_);have:decide (x.name.toList=[])=x.name.toList.isEmpty:=by cases x.name.toList<;>rfl
 simp[yA,ib,Bool.and_assoc,this]
theorem aht{w v:kC}:ax prog 273 [.agg (lg v),.pt (lg w)] (B (v.name.toList==w.name.toList)):=by
 have C:∀ a∈[D.agg (lg v),.pt (lg w)],Tr a:=.cons (.agg (Ft v)) (.cons (.pt (Ft w)) .nil);refine bP aeS C (Tr.s _) ?_;rw[aeT];refine ws ?_;refine cM (sG (cs:=lg _) rfl) ak (by first|rfl|exact tO gi eS|exact oB _|exact ur cK) ?_;refine SS ?_;refine er ?_;refine cY ?_;exact ab (ap rfl rfl)
section
variable{p q:D}{f:bd}(hp:Tr p)(hq:Tr q)(gi:p.one=true)(eS:q.one=true)
include hp hq gi eS
theorem s9{x:Argus.End}:ax prog 212 [.agg (bu p q f),.agg (bA x)] (B (mw f x)):=by
 have J:∀ a∈[D.agg (bu p q f),.agg (bA x)],Tr a:=.cons (my hp hq f) (.cons (.agg (lP x)) .nil);refine qH TW.he J fun U=>?_;have hlen:x.aJ.length<=maxLen:=((U _ (List.mem_cons_of_mem _ (List.mem_cons_self ..))).agg (pX x.aJ) (by simp[bA])).sl.1;unfold maxLen at hlen;have jO:= @jO p q f hp hq gi eS;refine bP TW J (Tr.s _) ?_;rw[aeU];refine aE ?_;refine aB ?_;refine ab (bj (cr [(0,bu p q f,93),(1,bA x,48)] eH (l:=[(2,.pt (bu p q f)),(3,.pt (bA x))]) eH) (aV (aE ?_)));refine a7 ?_
 refine ab (dA (fun s=>∃ n,aR prog s ⟨aH [(2,.pt (bu p q f)),(3,.pt (bA x))],fun _=>none,n⟩/\∀ (j:Nat) y,x.aJ[j]? =some y->oq f x.aJ j y=true) (iK (α:=Nat) (fun k=>⟨aH [(2,.pt (bu p q f)),(3,.pt (bA x)),(8,pX x.aJ),(9,I x.aJ.length),(10,I k)],fun _=>none,2+k⟩)
  (fun k=>k<=x.aJ.length/\∀ j y,j<k->x.aJ[j]? =some y->oq f x.aJ j y=true) (fun k=>x.aJ.length - k) 0 (aq eH) ⟨oG,fun j y hj=>by omega⟩ ?_) ?_)
 .rintro k ⟨hk,hinv⟩;refine SS ?_;refine ab ⟨_,rfl,fun h=>?_,fun h=>?_⟩
  .have aj:k<x.aJ.length:=by simpa using h
   have hx:x.aJ[k]? =some x.aJ[k]:=by simp[aj]
   generalize x.aJ[k]=w at hx;refine aE ?_;refine bH ?_;refine dJ (iI (cs':=lg _) rfl rfl (au _ _ _) rfl) ak (eU V.h V.h (by first|(simp;done)|exact⟨rfl,bg rfl⟩|(simp;omega)) (by rfl)) ?_;refine ab (bj (cr [(2+k,lg w,82)] ⟨au _ _ _,trivial⟩ (l:=[(2,.pt (bu p q f)),(3,.pt (bA x)),(5,I k),(6,.pt (lg w)),(8,pX x.aJ),(9,I x.aJ.length),(10,I k)]) ⟨rfl,rfl,rfl,nt (sz:=prog.cellsOf 82),rfl,rfl,rfl,trivial⟩) (al ?_));have DE:=DE (s:=w.name);have Dy:=Dy (l:=x.aJ.take k) (g:=273) (fs:=[]) (cs:=[.pt (lg w)]) (p:=fun v=>v.name.toList==w.name.toList) (.fn oS (.cons (.pt (Ft w)) .nil)) (fun v _=>aht);unfold pX at Dy;rw[<- abE B9 hk] at Dy;refine af ?_;refine cl DE ?_;refine bH ?_;refine gc jO ?_;refine cY ?_;refine bQ rfl rfl (Ah rfl V.h V.h rfl rfl rfl) (fun hc=>⟨ak,⟨V.h,oG,oG,oG⟩⟩) ?_;refine bQ rfl rfl (R6 rfl rfl) (fun hc=>⟨ak,trivial⟩) ?_;refine gc Dy ?_;refine SS ?_;have hb:((isName w.name&&(ct f w.to&& !(x.aJ.take k).any fun v=>v.name.toList==w.name.toList)))=oq f x.aJ k w:=rfl;refine ab (yC rfl (fun hp=>?_) fun hp=>?_)
   .refine ws ?_;refine SS ?_;refine ab (bh (dp (aY (ap (d:=.s (.bool _)) rfl ?_))))
    have C:oq f x.aJ k w=false:=by
     rw[<- hb];simp only[ct];revert hp;generalize isName w.name=a;generalize c8 w.to 0 (f.blocks.length - 1)=b;generalize (List.any _ _)=c;cases a<;>cases b<;>cases c<;>simp
    simp[mw,Iw hx C]
   .refine eC ?_
    have C:oq f x.aJ k w=true:=by
     rw[<- hb];simp only[ct];revert hp;generalize isName w.name=a;generalize c8 w.to 0 (f.blocks.length - 1)=b;generalize (List.any _ _)=c;cases a<;>cases b<;>cases c<;>simp
    refine af ?_;refine ab (bD (k+1) (aq eH) ⟨oG,fun j y hj hy=>?_⟩ oG);by_cases e:j=k
    .subst e;rw[hx] at hy;cases hy;exact C
    .exact hinv j y oG hy
  .have X:¬ k<x.aJ.length:=by simpa using h
   exact⟨2+k,.forget _ _ _ _ fun t=>p6 (l:=[(2,.pt (bu p q f)),(3,.pt (bA x))]) ⟨rfl,rfl,trivial⟩ t,fun j y hy=>hinv j y (by have:=(bZ.1 hy).1;omega) hy⟩
 .rintro s ⟨n,hg,O⟩;refine⟨_,hg,al ?_⟩;refine aB ?_;refine ao (GJ rfl rfl) ak rfl ?_;refine cT ?_;refine gc jO ?_;refine aB ?_;refine ab (ap (d:=.s (.bool _)) rfl ?_);have M:=OF O;simp[mw,ct,M,ib]
end
abbrev P0:D:=.im (qq oa)
abbrev Q0:D:=.im (qq jH)
theorem ahu:ax prog 180 [] (.bp [P0,Q0]):=by
 refine bP aeV Tr.nil (.bp (.cons (AY _) (.cons (AY _) .nil))) ?_;rw[aeW];refine ws ?_;refine ao (eM (v:=.s (.map none)) rfl) ak trivial ?_;refine ao (eM (v:=.s (.map none)) rfl) ak trivial ?_;refine er ?_;refine SN9 ?_;refine SN9 ?_;refine SN9 ?_;refine cY ?_;refine er ?_;refine SN9 ?_;refine SN9 ?_;refine aB ?_;refine ab (aE ?_);refine a7 ?_;refine ab (bj (aal [(0,qq oa),(1,qq jH)] eH (l:=[(0,P0),(1,Q0)]) eH) ?_);exact R9 rfl rfl rfl
abbrev q9(f:bd):D:=.agg (bu P0 Q0 f)
theorem MN{f:bd}:ax prog 136 [.agg (a6 f)] (q9 f):=by
 have C:∀ a∈[D.agg (a6 f)],Tr a:=.cons (.agg (oY f)) .nil;refine bP aeX C (my (AY _) (AY _) f) ?_;rw[aeY];refine ws ?_;refine af ?_;refine er ?_;refine cl ahu ?_;refine SS ?_;refine ao (vB (v:=.im _) rfl rfl) ak (by first|decide|simp) ?_;refine ao (vB (v:=.im _) rfl rfl) ak (by first|decide|simp) ?_;refine ao (eM (v:=.im _) rfl) ak trivial ?_;refine ao (eM (v:=.im _) rfl) ak trivial ?_;refine er ?_;refine ao (dP (vs:=a6 _) rfl rfl V.h V.h rfl) ak (dQ V.h V.h (by first|(simp;done)|omega|exact bg rfl)) ?_;refine ao (lm (v:=.im _) rfl) ak trivial ?_;refine ao (lm (v:=.im _) rfl) ak trivial ?_;refine SS ?_;refine dJ (iI (cs':=bu _ _ _) rfl rfl rfl rfl) ak (eU V.h V.h (by first|(simp;done)|exact⟨rfl,bg rfl⟩|(simp;omega)) (by rfl)) ?_;refine ab (mA (mV rfl rfl a93 VR rfl t93 oS) ?_);rfl
end Go.Proofs.Tryz.K
end
