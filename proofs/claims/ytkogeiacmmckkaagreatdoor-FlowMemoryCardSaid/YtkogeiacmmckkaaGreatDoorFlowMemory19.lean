/- Part 19. -/
import Derived.Test.YtkogeiacmmckkaaGreatDoorFlowMemory2
import Derived.Test.YtkogeiacmmckkaaGreatDoorFlowMemory4
import Derived.Test.YtkogeiacmmckkaaGreatDoorFlowMemory18
import Derived.Below
import Derived.Carry
import Derived.ChangeOld
import Derived.Handed
import Derived.KernelRfl
import Derived.LaidLaws
import Derived.MakeChecks
import Derived.OpenShut
import Derived.Stop.Joined
import Derived.Test.YtkogeiacmmckkaaGreatDoorProg
import Derived.Test.YtkogeiacmmckkaaGreatDoorRows
set_option linter.all false
set_option maxHeartbeats 2000000
set_option maxRecDepth 10000
namespace Go.Abs
open Go.ChangeShapes Go.WideShapes
inductive Aa:List Sh->List D->Prop
 |nil:Aa [] []
 |cons {s:Sh} {l:List Sh} {ds:List D} (x:s.val) (hx:s.ok x) (h:Aa l ds):Aa (s::l) (s.arg x::ds)
def vX(P:Program)(n:Nat):List TypeId->Option (List Sh)
 |[]=>some []
 |t::ts=>match sL P n t,vX P n ts with
  |some s,some l=>some (s::l)
  |_,_=>none
theorem aad{P:Program}{n:Nat}{t:TypeId}{ts:List TypeId}{l:List Sh}(h:vX P n (t::ts)=some l):∃ s C,sL P n t=some s/\vX P n ts=some C/\l=s::C:=by
 simp only[vX] at h;split at h
 .rename_i s C h1 h2;simp only[aH] at h;exact⟨s,C,h1,h2,h.symm⟩
 .cases h
section
variable{P:Program}{H:Type}{ec:TypeId×Value->H}{w w':World}{base b0:Nat}{r:Reach}{F:Nat->Prop}
theorem SL(J:Cv F w){n:Nat}:∀ {ts:List TypeId} {C:List Sh} {vs:List Value} {ds:List (DataW H)} {ps:List MemPlace},vX P n ts=some C->C.all Sh.ra=true->
 (∀ (j:Nat) t v,ts[j]? =some t->vs[j]? =some v->Value.okWide P w r b0 t v)->DataW.TrodAll ec P w base (fun _=>true) true ts vs ds ps->
 ∃ aS,Aa C aS/\aS.length=vs.length/\∀ (k:Nat) (d:D) (v:Value),aS[k]? =some d->vs[k]? =some v->R F fw w d v
 |[],C,[],[],_,hs,_,_,_=>by
  simp only[vX,aH] at hs;subst hs;exact⟨[],.nil,rfl,oS⟩
 |t::ts,C,v::vs,d::ds,ps,hs,rk,cn,h=>by
  obtain⟨p,q,h1,h2,_⟩:=h;obtain⟨s,l',O,U,rfl⟩:=aad hs;simp only[List.all_cons,aw] at rk;obtain⟨x,X,hx⟩:=ahb J O rk.1 (cn 0 t v rfl rfl) h1;obtain⟨aS,a1,a2,a3⟩:=SL J U rk.2 (fun j t v hj hv=>cn (j+1) t v (by simpa using hj) (by simpa using hv)) h2;refine⟨s.arg x::aS,.cons x X a1,by simp[a2],fun k d v hd hv=>?_⟩;cases k with
  |zero=>
   simp only[List.getElem?_cons_zero,aH] at hd hv;subst hd hv;exact hx
  |succ k=>exact a3 k d v (by simpa using hd) (by simpa using hv)
 |[],_,_::_,_,_,_,_,_,h=>by simp[DataW.TrodAll] at h
 |[],_,[],_::_,_,_,_,_,h=>by simp[DataW.TrodAll] at h
 |_::_,_,[],_,_,_,_,_,h=>by simp[DataW.TrodAll] at h
 |_::_,_,_::_,[],_,_,_,_,h=>by simp[DataW.TrodAll] at h
theorem Kept.same(h:Kept w w'){p:MemPlace}(hp:p.block<w.heap.size):w.sameAt w' p:=by
 cases p with
 |cell b o=>exact Go.World.cell?_of_block (w:=w) (h.2.1 b hp)
 |map b=>exact h.2.1 b hp
theorem Kept.frame(h:Kept w w')(C:MemPlace->Prop):w.keptBut w' C:=by
 refine⟨h.2.2.1,h.2.2.2,fun i hi=>?_⟩;rw[h.2.1 i hi];split<;>simp_all
theorem N5(hl:laidOutB P=true)(h:Kept w w'):∀ {ts:List TypeId} {vs:List Value} {ds:List (DataW H)} {ps:List MemPlace},(ts.all fun t=>P.readableRec t&&decide (t<P.types.size))=true->
 DataW.TrodAll ec P w 0 (fun _=>true) true ts vs ds ps->DataW.TrodAll ec P w' 0 (fun b=>decide (b<w.heap.size)) true ts vs ds ps
 |[],[],[],_,_,h0=>h0
 |t::ts,v::vs,d::ds,ps,ht,h0=>by
  obtain⟨p,q,h1,h2,rfl⟩:=h0;simp only[List.all_cons,aw,decide_eq_true_eq] at ht;have ag:∀ x∈p,x.block<w.heap.size:=by obtain⟨m,hm⟩:=h1;exact DataW.trod_lt m _ _ _ hm
  exact⟨p,q,WideElems.Trod_stays hl ht.1.1 ht.1.2 h1 (fun x hx=>h.same (ag x hx)) (fun x hx=>by simpa using ag x hx),N5 hl h (by simpa using ht.2) h2,rfl⟩
 |[],_::_,_,_,_,h0=>by simp[DataW.TrodAll] at h0
 |[],[],_::_,_,_,h0=>by simp[DataW.TrodAll] at h0
 |_::_,[],_,_,_,h0=>by simp[DataW.TrodAll] at h0
 |_::_,_::_,[],_,_,h0=>by simp[DataW.TrodAll] at h0
theorem OA:∀ {ts:List TypeId} {vs:List Value} {ds:List (DataW H)} {ps:List MemPlace},DataW.TrodAll ec P w 0 (fun _=>true) true ts vs ds ps->ds.length=ts.length
 |[],[],[],_,_=>rfl
 |t::ts,v::vs,d::ds,ps,h0=>by
  obtain⟨p,q,h1,h2,rfl⟩:=h0;simp[OA h2]
 |[],_::_,_,_,h0=>by simp[DataW.TrodAll] at h0
 |[],[],_::_,_,h0=>by simp[DataW.TrodAll] at h0
 |_::_,[],_,_,h0=>by simp[DataW.TrodAll] at h0
 |_::_,_::_,[],_,h0=>by simp[DataW.TrodAll] at h0
theorem QG{J:String}{d:DataW Unit}:∀ {l:List (String×DataW Unit)} {ps:List MemPlace},DataW.LaidVars P w l ps->(J,d)∈l->
 ∃ g t cs eA p,P.globalNamed J=some g/\(P.globals[g]?).map (·.type)=some t/\w.var? P J=some cs/\DataW.trod (fun _=>()) P w 0 (fun _=>true) false eA t cs.toList=some (d,p)/\∀ x∈MemPlace.row ⟨g,0,none⟩ cs.size,x∈ps
 |[],_,_,h=>by simp at h
 |(n,e)::r,ps,hv,h=>by
  obtain⟨g,t,cs,eA,p,q,h1,h2,U,X,h5,rfl⟩:=hv;rcases List.mem_cons.1 h with h|h
  .cases h;exact⟨g,t,cs,eA,p,h1,h2,U,X,fun x hx=>List.mem_append_left _ (List.mem_append_left _ hx)⟩
  .obtain⟨O,t',cs',C,p',k1,k2,k3,k4,k5⟩:=QG h5 h;exact⟨O,t',cs',C,p',k1,k2,k3,k4,fun x hx=>List.mem_append_right _ (k5 x hx)⟩
theorem PS{e:TypeId}{m:Nat}{spare:Nat->Bool}{held:Bool}(he:P.underlying e=some (.int .u64))(hc:P.cellsOf e=1):∀ {cs:List Value} {l:List Int} {xs:List (DataW H×List MemPlace)},cs.length=l.length->xs.map (·.1)=l.map (fun n=>DataW.lit (.int .u64 n))->
 (∀ i,i<l.length->DataW.trod ec P w base spare held m e ((cs.drop i).take 1)=xs[i]?)->cs=l.map (Value.int .u64 ·)
 |[],[],_,_,_,_=>rfl
 |c::cs,n::l,[],_,hx,_=>by simp at hx
 |c::cs,n::l,x::xs,hl,hx,h=>by
  have h0:=h 0 oS;simp only[List.drop_zero,List.take_succ_cons,List.take_zero,List.getElem?_cons_zero] at h0;obtain⟨b,hb,J,_⟩:=DataW.trod_int he h0;simp only[List.map_cons,List.cons.injEq] at hx;have C:x.1=DataW.lit (.int .u64 b):=by rw[J]
  rw[hx.1] at C;simp only[DataW.lit.injEq,Lit.int.injEq,true_and] at C;subst C;simp only[List.cons.injEq,and_true] at hb;subst hb;rw[List.map_cons,PS he hc (cs:=cs) (l:=l) (xs:=xs) (by simpa using hl) hx.2 fun i hi=>by simpa using h (i+1) (by simpa using hi)]
 |[],_::_,_,hl,_,_=>by simp at hl
 |_::_,[],_,hl,_,_=>by simp at hl
theorem YL{laid:List (String×DataW Unit)}{J:String}{g t e:Nat}{l:List Int}(h:laidMet P laid w)(hm:(J,DataW.agg (l.map fun n=>DataW.lit (.int .u64 n)))∈laid)(hg:P.globalNamed J=some g)
 (ht:(P.globals[g]?).map (·.type)=some t) (hu:P.underlying t=some (.array l.length e)) (hs:P.cellsOf t=l.length) (he:P.underlying e=some (.int .u64)) (hc:P.cellsOf e=1) (a8:0<l.length):
 ∃ ty,w.heap[g]? =some (.cells (l.map (Value.int .u64 ·)).toArray ty (0,0)):=by
 obtain⟨ps,hv,_,hp⟩:=h;obtain⟨U,t',cs,eA,p,h1,h2,C,X,h5⟩:=QG hv hm;obtain rfl:g=U:=Option.some.inj (hg.symm.trans h1);obtain rfl:t=t':=Option.some.inj (ht.symm.trans h2);obtain⟨xs,m,_,e2,e3,e4,e5⟩:=DataW.trod_array hu X
 have O:cs.toList=l.map (Value.int .u64 ·):=by
  refine PS (ec:=fun _=>()) (w:=w) (base:=0) (spare:=fun _=>true) (held:=false) (m:=m) (xs:=xs) he hc (by rw[e3,hs]) ?_ fun i hi=>?_
  .simp only[bR,DataW.agg.injEq] at e2;exact e2.1.symm
  .have:=e5 i hi
   rwa[hc,Nat.mul_one] at this
 have br:0<cs.size:=by
  have:cs.toList.length=l.length:=by rw[O];simp
  simp at this;omega
 obtain⟨⟨c,ty,hh⟩,_⟩:=hp g 0 (h5 _ (by
  unfold MemPlace.row;refine List.mem_map.2 ⟨0,by simpa using br,?_⟩
  simp[Addr.add]))
 refine⟨ty,?_⟩;simp only[World.var?,hg,Option.bind_some,hh,aH] at C;subst C;rw[hh, <- O]
end
theorem XC{C:Checked}{f:FuncId}{fn:Func}{s:ChangeSpec}{H:Type}{ec:TypeId×Value->H}{n:Nat}{uv:List Sh}{tb:TypeId}{F:Nat->Prop}
 (Ug:s.vars=[]) (hs:∀ ds:List (DataW H),ds.length=fn.params.size->s.fn H ds={ results:=[.lit (.bool true)],args:=ds })
 (J:laidOutB C.prog=true) (O:(fn.params.toList.all fun t=>C.prog.readableRec t&&decide (t<C.prog.types.size))=true) (rZ:fn.resultTypes= #[tb]) (hb:C.prog.underlying tb=some .bool)
 (nV:vX C.prog n fn.params.toList=some uv) (rk:uv.all Sh.ra=true) (h:∀ aS,Aa uv aS->aG C.prog f aS (.s (.bool true)))
 (W:World) (base:Nat) (args:Array Value) (ds gs:List (DataW H)) (before:List MemPlace) (HD:FB F W) (hU:Cv F W)
 (CX:∀ (j:Nat) t v,fn.params[j]? =some t->args[j]? =some v->Value.okWide C.prog W .any base t v)
 (hW:DataW.Whole ec C.prog fn.params.toList s.vars false W args.toList ds gs before):
 Calls C.prog f args W fun e W'=>∃ v,e=.returned v/\s.post ec C.prog fn false true false false W args v W':=by
 have hW':=hW;obtain⟨p,q,U,X,rfl,hfz,dE⟩:=hW;rw[Ug] at X
 have hg:gs=[]/\q=[]:=by
  cases gs with
  |nil=>exact⟨rfl,X⟩
  |cons g gs=>exact X.elim
 obtain⟨rfl,rfl⟩:=hg;obtain⟨aS,a1,a2,a3⟩:=SL hU nV rk (fun j t v hj hv=>CX j t v (by simpa using hj) (by simpa using hv)) U;refine((h aS a1).2.2 F W args HD ⟨by simpa using a2.symm,fun k d v hd hv=>a3 k d v hd (by simpa using hv)⟩).mono ?_;rintro e W' ⟨v,rfl,hv,hk⟩;obtain⟨rfl,_⟩:=hv.cm;have hlen:ds.length=fn.params.size:=by simpa using OA U
 refine⟨_,rfl,ds,[],_,[],p,[],hW',?_,?_,?_,hk.frame _,fun h=>by cases h⟩
 .rw[List.append_nil,hs ds hlen,rZ];exact⟨[],[],⟨1,by simp[DataW.trod,Value.cells,hb]⟩,rfl,rfl⟩
 .rw[List.append_nil,hs ds hlen];exact N5 J hk O U
 .rw[List.append_nil,hs ds hlen,Ug];rfl
end Go.Abs
namespace Go.Argus
open Go.Abs
abbrev ly:Sh:=.int .i64
abbrev CZ:Sh:=.int .u8
abbrev Cw:Sh:=.pair CZ (.pair ly (.pair ly (.pair ly (.pair ly (.pair (.sl ly) .unit)))))
abbrev F4:Sh:=.pair .str (.pair ly .unit)
abbrev GF:Sh:=.pair CZ (.pair ly (.pair ly (.pair ly (.pair ly (.pair .str (.pair Cw (.pair (.sl ly) (.pair (.sl F4) (.pair ly .unit)))))))))
abbrev Fv:Sh:=.pair (.sl Cw) (.pair GF .unit)
abbrev z8:Sh:=.pair .str (.pair .bool (.pair ly (.pair CZ (.pair (.sl CZ) (.pair (.sl CZ) (.pair (.sl .str) (.pair (.sl Fv) .unit)))))))
def Lo(x:Cw.val):bn:=⟨x.1,x.2.1,x.2.2.1,x.2.2.2.1,x.2.2.2.2.1,x.2.2.2.2.2.1⟩
def SJ(x:F4.val):gr:=⟨x.1,x.2.1⟩
def Uf(x:GF.val):End:=⟨x.1,x.2.1,x.2.2.1,x.2.2.2.1,x.2.2.2.2.1,x.2.2.2.2.2.1,Lo x.2.2.2.2.2.2.1,x.2.2.2.2.2.2.2.1,List.map SJ x.2.2.2.2.2.2.2.2.1,x.2.2.2.2.2.2.2.2.2.1⟩
def RD(x:Fv.val):bp:=⟨List.map Lo x.1,Uf x.2.1⟩
def ad4(x:z8.val):aU:=⟨x.1,x.2.1,x.2.2.1,x.2.2.2.1,x.2.2.2.2.1,x.2.2.2.2.2.1,x.2.2.2.2.2.2.1,List.map RD x.2.2.2.2.2.2.2.1⟩
theorem Ce{k:IntKind}(l:List Int):D.sl (List.flatMap (Sh.enc (.int k)) l) l.length=.sl (l.map fun n=>.s (.int k n)) l.length:=congrArg (D.sl · l.length) (Jm (fun n=>D.s (.int k n)) l)
theorem ad5(l:List ByteArray):D.sl (List.flatMap (Sh.enc .str) l) l.length=iz l:=congrArg (D.sl · l.length) (Jm S l)
theorem Lp{s:Sh}{β:Type}{g:β->List D}{h:s.val->β}(he:∀ x,s.enc x=g (h x))(l:List s.val):D.sl (List.flatMap s.enc l) l.length=.sl ((l.map h).flatMap g) (l.map h).length:=by
 rw[D6 he l,List.length_map]
theorem c1'{α β:Type}(f:α->β){a a':α}(h:a=a'):f a=f a':=by rw[h]
theorem c2'{α β γ:Type}(f:α->β->γ){a a':α}{b C:β}(h:a=a')(h2:b=C):f a b=f a' C:=by rw[h,h2]
theorem c3'{α β γ δ:Type}(f:α->β->γ->δ){a a':α}{b C:β}{c c':γ}(h:a=a')(h2:b=C)(J:c=c'):f a b c=f a' C c':=by rw[h,h2,J]
theorem c4'{α β γ δ ε:Type}(f:α->β->γ->δ->ε){a a':α}{b C:β}{c c':γ}{d d':δ}(h:a=a')(h2:b=C)(J:c=c')(O:d=d'):f a b c d=f a' C c' d':=by rw[h,h2,J,O]
theorem abH(l:List Int):(Sh.sl ly).arg l=az l:=Ce l
theorem RE(x:Cw.val):Cw.enc x=bc (Lo x):=
 c1' (fun q=>[U8 x.1,I x.2.1,I x.2.2.1,I x.2.2.2.1,I x.2.2.2.2.1,q]) (Ce (k:=.i64) x.2.2.2.2.2.1)
theorem abV(x:F4.val):F4.enc x=dQ (SJ x):=rfl
theorem ac4(x:GF.val):GF.enc x=bE (Uf x):=
 c3' (fun a b c=>[U8 x.1,I x.2.1,I x.2.2.1,I x.2.2.2.1,I x.2.2.2.2.1,S x.2.2.2.2.2.1]++(a++[b,c,I x.2.2.2.2.2.2.2.2.2.1])) (RE x.2.2.2.2.2.2.1) (Ce (k:=.i64) x.2.2.2.2.2.2.2.1) (Lp abV x.2.2.2.2.2.2.2.2.1)
theorem aac(x:Fv.val):Fv.enc x=bi (RD x):=by
 have:=c2' (fun a b=>a::(b++[])) (Lp RE x.1) (ac4 x.2.1);refine Eq.trans this ?_;rw[List.append_nil];rfl
theorem abG(x:z8.val):z8.arg x=.agg (aF (ad4 x)):=
 c4' (fun a b c d=>D.agg [S x.1,B x.2.1,I x.2.2.1,U8 x.2.2.2.1,a,b,c,d]) (Ce (k:=.u8) x.2.2.2.2.1) (Ce (k:=.u8) x.2.2.2.2.2.1) (ad5 x.2.2.2.2.2.2.1) (Lp aac x.2.2.2.2.2.2.2.1)
end Go.Argus
namespace Go.Proofs.YtkogeiacmmckkaaGreatDoor
open Go.Abs Go.Argus
set_option maxRecDepth 100000
theorem ajr:ownKnob Tryz.prog.godebug=none:=kr
theorem laidOut:laidOutB Tryz.prog=true:=kr
theorem ag7: Tryz.prog.underlying 4=some .bool:=kr
noncomputable abbrev vB:List (String×DataW Unit):=Rows.flowReadsRow.laid
def SK:List Int:=[1,10,100,1000,10000,100000,1000000,10000000,100000000,1000000000,10000000000,100000000000,1000000000000,10000000000000,100000000000000,1000000000000000,10000000000000000,100000000000000000,1000000000000000000,10000000000000000000]
theorem YK:∃ C,(C,DataW.agg (SK.map fun n=>DataW.lit (.int .u64 n)))∈vB/\ Tryz.prog.globalNamed C=some 0:=⟨_,.tail _ (.tail _ (.head _)),by kernel_rfl⟩
theorem OZ(w:World):laidMetH Tryz.prog vB w=laidMet Tryz.prog vB w:=MakeChecks.laidMetH_plain _ _ _ kr
theorem ac1{W:World}(h:laidMetH Tryz.prog vB W):FB (fun b=>b=0) W/\Cv (fun b=>b=0) W:=by
 rw[OZ] at h;obtain⟨J,hm,hg⟩:=YK;obtain⟨ty,ht⟩:=YL (t:=200) (e:=199) h hm hg kr kr kr kr kr oC;refine⟨⟨fun b hb=>?_,fun t C=>?_⟩,fun b o u hb hu=>?_⟩
 .subst hb;exact(Array.getElem?_eq_some_iff.1 ht).1
 .simp only[vD,List.mem_singleton] at C;subst C;exact⟨rfl,ty,_,ht⟩
 .subst hb;unfold World.cell? at hu;rw[ht] at hu;simp only at hu;have hu:((SK.map (Value.int .u64 ·)).toArray)[o]? =some u:=hu;rw[List.getElem?_toArray,List.getElem?_map] at hu;obtain⟨n,_,rfl⟩:=cN.1 hu;exact⟨n,rfl⟩
def ajA:DataW Unit->Value
 | .lit (.int k n)=>.int k n
 |_=>undef
def ajB:DataW Unit->Array Value
 | .agg ps=>(ps.map ajA).toArray
 |_=> #[]
noncomputable def PK(os:Os):World:=
 let C:=World.holding Tryz.prog os ⟨#[], #[],[]⟩
 let f (d:DataW Unit):Obj->Obj:=fun
     | .cells _ t frozen=>.cells (ajB d) t frozen
     |o=>o
 { C with heap:=((C.heap.modify 0 (f Rows.laid_internal_strconv_uint64pow10)).modify 6 (f Rows.laid_math_bits_deBruijn32tab)).modify 7 (f Rows.laid_math_bits_deBruijn64tab) }
theorem Xu(os:Os)(args:Array Value):laidMetH Tryz.prog vB ((PK os).forCall (fun _ _=>0) ⟨#[],args,[]⟩).memory:=by
 rw[OZ];exact laidMet_of_run' 8 kr kr
end Go.Proofs.YtkogeiacmmckkaaGreatDoor
namespace Go.Proofs.Tryz.K
open Go.Abs
theorem a1:bq prog 1=false:=kr
theorem t1:aB prog 1=true:=kr
theorem b1:prog.bytesOf 1=8:=kr
theorem b2:prog.bytesOf 2=8:=kr
theorem a2:bq prog 2=false:=kr
theorem t2:aB prog 2=true:=kr
theorem z2:aV prog 2=[.s (.int .i64 0)]:=kr
theorem c3:prog.cellsOf 3=1:=kr
theorem b3:prog.bytesOf 3=8:=kr
theorem a3:bq prog 3=false:=kr
theorem t3:aB prog 3=true:=kr
theorem z3:aV prog 3=[.s (.int .i64 0)]:=kr
theorem c4:prog.cellsOf 4=1:=kr
theorem b4:prog.bytesOf 4=1:=kr
theorem a4:bq prog 4=false:=kr
theorem t4:aB prog 4=true:=kr
theorem z4:aV prog 4=[.s (.bool false)]:=kr
theorem c5:prog.cellsOf 5=1:=kr
theorem b5:prog.bytesOf 5=1:=kr
theorem a5:bq prog 5=false:=kr
theorem t5:aB prog 5=true:=kr
theorem z5:aV prog 5=[.s (.int .u8 0)]:=kr
theorem b6:prog.bytesOf 6=1:=kr
theorem b7:prog.bytesOf 7=24:=kr
theorem b8:prog.bytesOf 8=24:=kr
theorem c9:prog.cellsOf 9=1:=kr
theorem b9:prog.bytesOf 9=16:=kr
theorem a9:bq prog 9=false:=kr
theorem t9:aB prog 9=true:=kr
theorem z9:aV prog 9=[.s (.string "".toUTF8)]:=kr
theorem k9:prog.bytesOf 10=16:=kr
theorem NV:aq prog 15=381:=kr
theorem NW:aq prog 16=384:=kr
theorem NR:aq prog 17=392:=kr
theorem Ny:prog.cellsOf 22=1:=kr
theorem t22:aB prog 22=true:=kr
theorem Nr:aq prog 22=5:=kr
theorem CN:aW prog 22=true:=kr
theorem Wn:prog.cellsOf 23=1:=kr
theorem t23:aB prog 23=true:=kr
theorem y4:aq prog 23=9:=kr
theorem CO:aW prog 23=true:=kr
theorem Wo:prog.cellsOf 24=1:=kr
theorem t24:aB prog 24=true:=kr
theorem Ns:aq prog 24=69:=kr
theorem Mm:aW prog 24=true:=kr
theorem jT:prog.cellsOf 26=8:=kr
theorem sH:bq prog 26=true:=kr
theorem t26:aB prog 26=true:=kr
theorem a31:bq prog 31=false:=kr
theorem t31:aB prog 31=true:=kr
theorem z31:aV prog 31=[.z]:=kr
theorem DT:aq prog 31=26:=kr
theorem qX:prog.cellsOf 35=1:=kr
theorem WH:prog.bytesOf 35=24:=kr
theorem DJ:bq prog 35=false:=kr
theorem t35:aB prog 35=true:=kr
theorem DG:aq prog 35=3:=kr
theorem Mt:aW prog 35=true:=kr
theorem a37:bq prog 37=true:=kr
theorem t37:aB prog 37=true:=kr
theorem z37:aV prog 37=[.s (.int .u8 0),.s (.int .i64 0)]:=kr
theorem jS:prog.cellsOf 45=6:=kr
theorem Nq:prog.bytesOf 45=64:=kr
theorem ui:bq prog 45=true:=kr
theorem t45:aB prog 45=true:=kr
theorem HM:prog.cellsOf 46=1:=kr
theorem a46:bq prog 46=false:=kr
theorem t46:aB prog 46=true:=kr
theorem z46:aV prog 46=[.z]:=kr
theorem Wg:aq prog 46=82:=kr
theorem GX:aW prog 46=true:=kr
theorem a51:bq prog 51=false:=kr
theorem t51:aB prog 51=true:=kr
theorem z51:aV prog 51=[.s .nilFunc]:=kr
theorem a53:bq prog 53=false:=kr
theorem t53:aB prog 53=true:=kr
theorem z53:aV prog 53=[.s .nilFunc]:=kr
theorem wH:prog.cellsOf 67=1:=kr
theorem DI:bq prog 67=false:=kr
theorem t67:aB prog 67=true:=kr
theorem Np:aq prog 67=45:=kr
theorem Mi:aW prog 67=true:=kr
theorem sG:prog.cellsOf 69=16:=kr
theorem Nt:prog.bytesOf 69=200:=kr
theorem HI:bq prog 69=true:=kr
theorem t69:aB prog 69=true:=kr
theorem a70:bq prog 70=false:=kr
theorem t70:aB prog 70=true:=kr
theorem z70:aV prog 70=[.s .nilFunc]:=kr
theorem a72:bq prog 72=false:=kr
theorem t72:aB prog 72=true:=kr
theorem z72:aV prog 72=[.s .nilFunc]:=kr
theorem a75:bq prog 75=false:=kr
theorem t75:aB prog 75=true:=kr
theorem z75:aV prog 75=[.s .nilFunc]:=kr
theorem a76:bq prog 76=false:=kr
theorem t76:aB prog 76=true:=kr
theorem z76:aV prog 76=[.s .nilFunc]:=kr
theorem HH:prog.cellsOf 82=2:=kr
theorem Wh:prog.bytesOf 82=24:=kr
theorem t82:aB prog 82=true:=kr
theorem WV:prog.cellsOf 93=10:=kr
theorem a93:bq prog 93=true:=kr
theorem t93:aB prog 93=true:=kr
theorem a127:bq prog 127=false:=kr
theorem t127:aB prog 127=true:=kr
theorem z127:aV prog 127=[.z]:=kr
theorem a164:bq prog 164=false:=kr
theorem t164:aB prog 164=true:=kr
theorem z164:aV prog 164=[.s .nilFunc]:=kr
theorem a171:bq prog 171=false:=kr
theorem t171:aB prog 171=true:=kr
theorem z171:aV prog 171=[.s .nilFunc]:=kr
theorem a173:bq prog 173=true:=kr
theorem t173:aB prog 173=true:=kr
theorem z173:aV prog 173=[]:=kr
theorem qJ:prog.cellsOf 201=20:=kr
theorem Vn:prog.bytesOf 201=160:=kr
theorem a201:bq prog 201=true:=kr
theorem t201:aB prog 201=true:=kr
theorem z201:aV prog 201=[.s (.int .u64 0),.s (.int .u64 0),.s (.int .u64 0),.s (.int .u64 0),.s (.int .u64 0),.s (.int .u64 0),.s (.int .u64 0),.s (.int .u64 0),.s (.int .u64 0),.s (.int .u64 0),.s (.int .u64 0),.s (.int .u64 0),.s (.int .u64 0),.s (.int .u64 0),.s (.int .u64 0),.s (.int .u64 0),.s (.int .u64 0),.s (.int .u64 0),.s (.int .u64 0),.s (.int .u64 0)]:=kr
theorem a212:bq prog 212=false:=kr
theorem t212:aB prog 212=true:=kr
theorem z212:aV prog 212=[.s .nilFunc]:=kr
theorem a213:bq prog 213=false:=kr
theorem t213:aB prog 213=true:=kr
theorem z213:aV prog 213=[.s (.map none)]:=kr
theorem a233:bq prog 233=false:=kr
theorem t233:aB prog 233=true:=kr
theorem z233:aV prog 233=[.s .nilFunc]:=kr
theorem yp:bq prog 235=true:=kr
theorem yq:aV prog 235=[.s (.int .i64 0),.s (.int .i64 0),.s (.int .i64 0),.s (.int .i64 0),.s (.int .i64 0),.s (.int .i64 0)]:=kr
theorem mixed:prog.follows .mixedOrders=true:=kr
noncomputable def bo(f:Func):Code:=(f.body).getD .skip
abbrev FO(n:FuncId)(f:Func)(c:Code):=tI prog n f c
theorem fo{n:FuncId}{f:Func}{c:Code}(h1:prog.funcs[n]? =some f:=by kernel_rfl)(h2:f.body=some c:=by kernel_rfl)(C:eP f.ntmps c=true:=by kernel_rfl)(J:jU prog n=true:=by kernel_rfl):FO n f c:=⟨h1,h2,C,J⟩
noncomputable def xZ:=bo Tryz.f3
theorem ok3:FO 3 Tryz.f3 xZ:=fo
noncomputable def cU:=bo Tryz.f10
theorem aiG:FO 10 Tryz.f10 cU:=fo
noncomputable def kD:=bo Tryz.f14
theorem ail:FO 14 Tryz.f14 kD:=fo
noncomputable def vo:=bo Tryz.f16
theorem ai':FO 16 Tryz.f16 vo:=fo
noncomputable def eQ:=bo Tryz.f25
theorem ajn:FO 25 Tryz.f25 eQ:=fo
noncomputable def fD:=bo Tryz.f27
theorem ajh:FO 27 Tryz.f27 fD:=fo
noncomputable def lk:=bo Tryz.f29
theorem ajp:FO 29 Tryz.f29 lk:=fo
noncomputable def pF:=bo Tryz.f31
theorem ajj:FO 31 Tryz.f31 pF:=fo
noncomputable def dk:=bo Tryz.f50
theorem U1:FO 50 Tryz.f50 dk:=fo
noncomputable def dj:=bo Tryz.f51
theorem Vg:FO 51 Tryz.f51 dj:=fo
noncomputable def ef:=bo Tryz.f52
theorem U9:FO 52 Tryz.f52 ef:=fo
noncomputable def dp:=bo Tryz.f61
theorem ai8:FO 61 Tryz.f61 dp:=fo
noncomputable def fE:=bo Tryz.f62
theorem ai5:FO 62 Tryz.f62 fE:=fo
noncomputable def FZ:=bo Tryz.f74
theorem aiY:FO 74 Tryz.f74 FZ:=fo
noncomputable def F0:=bo Tryz.f77
theorem aif:FO 77 Tryz.f77 F0:=fo
noncomputable def pG:=bo Tryz.f87
theorem U6:FO 87 Tryz.f87 pG:=fo
noncomputable def xG:=bo Tryz.f88
theorem ajl:FO 88 Tryz.f88 xG:=fo
noncomputable def F1:=bo Tryz.f89
theorem aiR:FO 89 Tryz.f89 F1:=fo
noncomputable def F3:=bo Tryz.f90
theorem aio:FO 90 Tryz.f90 F3:=fo
noncomputable def nH:=bo Tryz.f93
theorem aiW:FO 93 Tryz.f93 nH:=fo
noncomputable def pB:=bo Tryz.f101
theorem afb:FO 101 Tryz.f101 pB:=fo
noncomputable def xk:=bo Tryz.f102
theorem TS:FO 102 Tryz.f102 xk:=fo
noncomputable def rA:=bo Tryz.f103
theorem TF:FO 103 Tryz.f103 rA:=fo
noncomputable def ER:=bo Tryz.f104
theorem TJ:FO 104 Tryz.f104 ER:=fo
noncomputable def iA:=bo Tryz.f105
theorem TH:FO 105 Tryz.f105 iA:=fo
noncomputable def rB:=bo Tryz.f106
theorem TD:FO 106 Tryz.f106 rB:=fo
noncomputable def ES:=bo Tryz.f107
theorem ae8:FO 107 Tryz.f107 ES:=fo
noncomputable def ET:=bo Tryz.f108
theorem afN:FO 108 Tryz.f108 ET:=fo
noncomputable def JS:=bo Tryz.f110
theorem afP:FO 110 Tryz.f110 JS:=fo
noncomputable def EU:=bo Tryz.f111
theorem afK:FO 111 Tryz.f111 EU:=fo
noncomputable def EV:=bo Tryz.f112
theorem afR:FO 112 Tryz.f112 EV:=fo
noncomputable def BW:=bo Tryz.f113
theorem afT:FO 113 Tryz.f113 BW:=fo
noncomputable def s8:=bo Tryz.f114
theorem afr:FO 114 Tryz.f114 s8:=fo
noncomputable def EW:=bo Tryz.f115
theorem aft:FO 115 Tryz.f115 EW:=fo
noncomputable def BX:=bo Tryz.f136
theorem agW:FO 136 Tryz.f136 BX:=fo
noncomputable def EX:=bo Tryz.f137
theorem agq:FO 137 Tryz.f137 EX:=fo
noncomputable def EY:=bo Tryz.f138
theorem agy:FO 138 Tryz.f138 EY:=fo
noncomputable def EZ:=bo Tryz.f139
theorem aeR:FO 139 Tryz.f139 EZ:=fo
noncomputable def E0:=bo Tryz.f140
theorem agu:FO 140 Tryz.f140 E0:=fo
noncomputable def E2:=bo Tryz.f141
theorem ags:FO 141 Tryz.f141 E2:=fo
noncomputable def eJ:=bo Tryz.f142
theorem ag2:FO 142 Tryz.f142 eJ:=fo
noncomputable def lM:=bo Tryz.f143
theorem ag0:FO 143 Tryz.f143 lM:=fo
noncomputable def ed:=bo Tryz.f144
theorem agk:FO 144 Tryz.f144 ed:=fo
noncomputable def iS:=bo Tryz.f145
theorem agb:FO 145 Tryz.f145 iS:=fo
noncomputable def xm:=bo Tryz.f146
theorem af':FO 146 Tryz.f146 xm:=fo
noncomputable def E3:=bo Tryz.f147
theorem aeZ:FO 147 Tryz.f147 E3:=fo
noncomputable def rC:=bo Tryz.f159
theorem TA:FO 159 Tryz.f159 rC:=fo
noncomputable def ji:=bo Tryz.f169
theorem af6:FO 169 Tryz.f169 ji:=fo
noncomputable def zO:=bo Tryz.f170
theorem af8:FO 170 Tryz.f170 zO:=fo
noncomputable def qo:=bo Tryz.f171
theorem afp:FO 171 Tryz.f171 qo:=fo
noncomputable def xg:=bo Tryz.f174
theorem afd:FO 174 Tryz.f174 xg:=fo
noncomputable def xh:=bo Tryz.f175
theorem aff:FO 175 Tryz.f175 xh:=fo
noncomputable def rD:=bo Tryz.f176
theorem TP:FO 176 Tryz.f176 rD:=fo
noncomputable def xq:=bo Tryz.f177
theorem TN:FO 177 Tryz.f177 xq:=fo
noncomputable def BZ:=bo Tryz.f178
theorem afj:FO 178 Tryz.f178 BZ:=fo
noncomputable def xj:=bo Tryz.f179
theorem afh:FO 179 Tryz.f179 xj:=fo
noncomputable def zP:=bo Tryz.f180
theorem agU:FO 180 Tryz.f180 zP:=fo
noncomputable def E8:=bo Tryz.f181
theorem ae':FO 181 Tryz.f181 E8:=fo
noncomputable def zR:=bo Tryz.f182
theorem afE:FO 182 Tryz.f182 zR:=fo
noncomputable def rE:=bo Tryz.f185
theorem TY:FO 185 Tryz.f185 rE:=fo
noncomputable def rF:=bo Tryz.f186
theorem TZ:FO 186 Tryz.f186 rF:=fo
noncomputable def E':=bo Tryz.f187
theorem afI:FO 187 Tryz.f187 E':=fo
noncomputable def Fa:=bo Tryz.f204
theorem aeO:FO 204 Tryz.f204 Fa:=fo
noncomputable def Fb:=bo Tryz.f205
theorem agm:FO 205 Tryz.f205 Fb:=fo
noncomputable def Ff:=bo Tryz.f206
theorem agw:FO 206 Tryz.f206 Ff:=fo
noncomputable def rG:=bo Tryz.f207
theorem Ty:FO 207 Tryz.f207 rG:=fo
noncomputable def Fg:=bo Tryz.f208
theorem ago:FO 208 Tryz.f208 Fg:=fo
noncomputable def Fh:=bo Tryz.f209
theorem T5:FO 209 Tryz.f209 Fh:=fo
noncomputable def zS:=bo Tryz.f210
theorem T6:FO 210 Tryz.f210 zS:=fo
noncomputable def ov:=bo Tryz.f211
theorem agK:FO 211 Tryz.f211 ov:=fo
noncomputable def rH:=bo Tryz.f212
theorem T8:FO 212 Tryz.f212 rH:=fo
noncomputable def Fi:=bo Tryz.f213
theorem agF:FO 213 Tryz.f213 Fi:=fo
noncomputable def Fj:=bo Tryz.f214
theorem agP:FO 214 Tryz.f214 Fj:=fo
noncomputable def B0:=bo Tryz.f215
theorem T7:FO 215 Tryz.f215 B0:=fo
noncomputable def B2:=bo Tryz.f216
theorem agY:FO 216 Tryz.f216 B2:=fo
noncomputable def xr:=bo Tryz.f218
theorem ae1:FO 218 Tryz.f218 xr:=fo
noncomputable def rI:=bo Tryz.f219
theorem ae3:FO 219 Tryz.f219 rI:=fo
noncomputable def Fk:=bo Tryz.f220
theorem aeX:FO 220 Tryz.f220 Fk:=fo
noncomputable def u7:=bo Tryz.f221
theorem ae5:FO 221 Tryz.f221 u7:=fo
noncomputable def s9:=bo Tryz.f222
theorem afw:FO 222 Tryz.f222 s9:=fo
noncomputable def Fl:=bo Tryz.f247
theorem afA:FO 247 Tryz.f247 Fl:=fo
noncomputable def Fm:=bo Tryz.f248
theorem af3:FO 248 Tryz.f248 Fm:=fo
noncomputable def rJ:=bo Tryz.f270
theorem Tx:FO 270 Tryz.f270 rJ:=fo
noncomputable def nC:=bo Tryz.f271
theorem agI:FO 271 Tryz.f271 nC:=fo
noncomputable def Fo:=bo Tryz.f272
theorem aeU:FO 272 Tryz.f272 Fo:=fo
noncomputable def Fp:=bo Tryz.f273
theorem agR:FO 273 Tryz.f273 Fp:=fo
noncomputable def Fq:=bo Tryz.f274
theorem agD:FO 274 Tryz.f274 Fq:=fo
noncomputable def Fs:=bo Tryz.f275
theorem agN:FO 275 Tryz.f275 Fs:=fo
noncomputable def rK:=bo Tryz.f294
theorem Tz:FO 294 Tryz.f294 rK:=fo
noncomputable def xt:=bo Tryz.f297
theorem afy:FO 297 Tryz.f297 xt:=fo
noncomputable def eO:=bo Tryz.f298
theorem af1:FO 298 Tryz.f298 eO:=fo
noncomputable def qt:=bo Tryz.f324
theorem afZ:FO 324 Tryz.f324 qt:=fo
noncomputable def Ft:=bo Tryz.f330
theorem afX:FO 330 Tryz.f330 Ft:=fo
noncomputable def Fu:=bo Tryz.f351
theorem afV:FO 351 Tryz.f351 Fu:=fo
theorem bK{f:FuncId}{fn:Func}{c:Code}(hf:tI Tryz.prog f fn c){args:List D}(ht:∀ a∈args,Tr a){r:D}(hr:Tr r)(h:AW Tryz.prog iu true c (jH Tryz.prog fn.results.toList fun d _=>d=r) ⟨jW args,fun _=>none,0⟩)(hn:Nat.ble args.length fn.ntmps=true:=by kernel_rfl):aG Tryz.prog f args r:=aar mixed hf hn ht hr h
theorem sF{f:FuncId}{fn:Func}{c:Code}(hf:tI Tryz.prog f fn c){args:List D}(ht:∀ a∈args,Tr a){es:List D}(C:∀ a∈es,Tr a){k:Nat}{t:TypeId}(h:AW Tryz.prog iu true c (jH Tryz.prog fn.results.toList fun d st=>∃ i,d=.rs i 0 k∧st.mem i=some (.cells es t)) ⟨jW args,fun _=>none,0⟩)(hn:Nat.ble args.length fn.ntmps=true:=by kernel_rfl):gC Tryz.prog f args es k t:=aas mixed hf hn ht C h
theorem lF{f:FuncId}{fn:Func}{c:Code}(hf:tI Tryz.prog f fn c){args:List D}{m:Mem}{nx:Nat}{cB:D->Mem->Nat->Prop}(h:AW Tryz.prog iu true c (jH Tryz.prog fn.results.toList fun d st=>cB d st.mem st.nx) ⟨jW args,m,nx⟩)(hn:Nat.ble args.length fn.ntmps=true:=by kernel_rfl):dB Tryz.prog f args m nx cB:=aaq mixed hf hn h
def iB(P:Program)(t:TypeId):Array Field:=match P.underlying t with|some (.struct fs)=>fs|_=> #[]
theorem u5:prog.underlying 5=some (.int .u8):=kr
theorem u8:prog.underlying 8=some (.struct (iB prog 8)):=kr
theorem yo:qE prog 91=235:=kr
theorem Lf:fT prog 193=3:=kr
theorem Lg:iX prog 193=true:=kr
def zf(i:Nat):Code->Option (Array Oper)
 | .region j o _=>bif Nat.beq i j then some o else none
 | .seq a b=>match zf i a with
  |some x=>some x
  |none=>zf i b
 | .cond _ a b=>match zf i a with
  |some x=>some x
  |none=>zf i b
 | .block _ b=>zf i b
 | .loop b=>zf i b
 | .scope b=>zf i b
 | .rangeFunc _ _ a b=>match zf i a with
  |some x=>some x
  |none=>zf i b
 |_=>none
def Z(b:Code)(i:Nat):Array Oper:=(zf i b).getD #[]
abbrev G(i:Nat)(o:Array Oper):Code:=.region i o false
abbrev G1(b:Code)(i:Nat):Code:=.region i (Z b i) false
abbrev G2(b:Code)(i:Nat):Code:=.region i (Z b i) true
abbrev S1(a b:Code):Code:=.seq a b
abbrev C1(n:Nat)(a b:Code):Code:=.cond (.tmp n) a b
abbrev B1(n:Nat)(a:Code):Code:=.block n a
abbrev X1(n:Nat):Code:=.exit n
abbrev K1:Code:=.skip
theorem ajo:eQ=(S1 (G1 eQ 0) (S1 (S1 (G1 eQ 1) (B1 0 (S1 (S1 (G1 eQ 2) (C1 5 K1 (S1 (G1 eQ 3) (C1 5 K1 (S1 (G1 eQ 4) (C1 5 K1 (S1 (G1 eQ 5) (C1 5 K1 (S1 (G1 eQ 6) (C1 5 K1 (S1 (G1 eQ 7) (C1 5 K1 (S1 (G1 eQ 8) (C1 5 K1 (S1 (G1 eQ 9) (C1 5 K1 (G1 eQ 10))))))))))))))))) (C1 5 (S1 (G1 eQ 11) .ret) (S1 (S1 (G1 eQ 12) (C1 18 K1 (S1 (G1 eQ 13) (C1 18 K1 (S1 (G1 eQ 14) (C1 18 K1 (S1 (G1 eQ 15) (C1 18 K1 (S1 (G1 eQ 16) (C1 18 K1 (S1 (G1 eQ 17) (C1 18 K1 (S1 (G1 eQ 18) (C1 18 K1 (S1 (G1 eQ 19) (C1 18 K1 (S1 (G1 eQ 20) (C1 18 K1 (S1 (G1 eQ 21) (C1 18 K1 (S1 (G1 eQ 22) (C1 18 K1 (S1 (G1 eQ 23) (C1 18 K1 (G1 eQ 24))))))))))))))))))))))))) (C1 18 (S1 (G1 eQ 25) .ret) (S1 (G1 eQ 26) (C1 37 (S1 (G1 eQ 27) .ret) (S1 (G1 eQ 28) (C1 42 (S1 (G1 eQ 29) .ret) K1)))))))))) (S1 (G1 eQ 30) .ret))):=kr
theorem aji:fD=(S1 (G1 fD 0) (S1 (S1 (G1 fD 1) (B1 0 (S1 (S1 (G1 fD 2) (C1 5 K1 (S1 (G1 fD 3) (C1 5 K1 (S1 (G1 fD 4) (C1 5 K1 (S1 (G1 fD 5) (C1 5 K1 (S1 (G1 fD 6) (C1 5 K1 (S1 (G1 fD 7) (C1 5 K1 (S1 (G1 fD 8) (C1 5 K1 (S1 (G1 fD 9) (C1 5 K1 (S1 (G1 fD 10) (C1 5 K1 (S1 (G1 fD 11) (C1 5 K1 (S1 (G1 fD 12) (C1 5 K1 (S1 (G1 fD 13) (C1 5 K1 (S1 (G1 fD 14) (C1 5 K1 (S1 (G1 fD 15) (C1 5 K1 (G1 fD 16))))))))))))))))))))))))))))) (C1 5 (S1 (G1 fD 17) .ret) (S1 (S1 (G1 fD 18) (C1 23 K1 (S1 (G1 fD 19) (C1 23 K1 (S1 (G1 fD 20) (C1 23 K1 (S1 (G1 fD 21) (C1 23 K1 (S1 (G1 fD 22) (C1 23 K1 (S1 (G1 fD 23) (C1 23 K1 (G1 fD 24))))))))))))) (C1 23 (S1 (G1 fD 25) .ret) K1)))))) (S1 (G1 fD 26) .ret))):=kr
theorem ajq:lk=(S1 (G1 lk 0) (S1 (S1 (G1 lk 1) (B1 0 (S1 (S1 (G1 lk 2) (C1 5 K1 (S1 (G1 lk 3) (C1 5 K1 (G1 lk 4))))) (C1 5 (S1 (G1 lk 5) .ret) (S1 (G1 lk 6) (C1 12 (S1 (G1 lk 7) (C1 16 (S1 (G1 lk 8) .ret) K1)) (S1 (G1 lk 9) (C1 20 (S1 (G1 lk 10) .ret) (S1 (S1 (G1 lk 11) (C1 25 K1 (G1 lk 12))) (C1 25 (S1 (G1 lk 13) .ret) K1)))))))))) (S1 (G1 lk 14) .ret))):=kr
theorem ajk:pF=(S1 (G1 pF 0) (S1 (S1 (G1 pF 1) (B1 0 (S1 (G1 pF 2) (C1 5 (S1 (G1 pF 3) .ret) (S1 (S1 (G1 pF 4) (C1 10 K1 (G1 pF 5))) (C1 10 (S1 (G1 pF 6) .ret) (S1 (G1 pF 7) (C1 15 (S1 (G1 pF 8) .ret) K1)))))))) (S1 (G1 pF 9) .ret))):=kr
theorem ajm:xG=(S1 (G1 xG 0) (S1 (S1 (G1 xG 1) (C1 4 (S1 (G1 xG 2) .ret) K1)) (S1 (G1 xG 3) .ret))):=kr
theorem acF:cb (Z xZ 3)=some [(3,4)]:=kr
theorem sk3:xZ=(S1 (G1 xZ 0) (S1 (S1 (G1 xZ 1) (C1 5 (S1 (G1 xZ 2) .ret) K1)) (S1 (G2 xZ 3) .ret))):=kr
theorem aim:kD=(S1 (G1 kD 0) (S1 (S1 (G1 kD 1) (C1 34 (S1 (G1 kD 2) .ret) K1)) (S1 (S1 (G1 kD 3) (B1 0 (.loop (S1 (G1 kD 4) (S1 (C1 39 K1 (X1 0)) (S1 (B1 1 (S1 (G1 kD 5) (S1 (S1 (G1 kD 6) (C1 86 (S1 (G1 kD 7) .ret) K1)) (S1 (G1 kD 8) (B1 2 (.loop (S1 (G1 kD 9) (S1 (C1 91 K1 (X1 2)) (S1 (B1 3 (S1 (G1 kD 10) (S1 (G1 kD 11) (C1 97 (S1 (G1 kD 12) .ret) K1)))) (G1 kD 13)))))))))) (G1 kD 14))))))) (S1 (G1 kD 15) .ret)))):=kr
theorem aja:vo=(S1 (G1 vo 0) (S1 (B1 0 (S1 (G1 vo 1) (C1 3 (S1 (G1 vo 2) .ret) (S1 (G1 vo 3) (C1 7 (S1 (G1 vo 4) .ret) K1))))) (S1 (G1 vo 5) .ret))):=kr
theorem ZW:cb (Z dp 10)=some []:=kr
theorem ZX:cb (Z dp 32)=some []:=kr
theorem ai9:dp=(S1 (G1 dp 0) (S1 (G1 dp 1) (S1 (G1 dp 2) (S1 (S1 (G1 dp 3) (C1 71 (S1 (G1 dp 4) .ret) K1)) (S1 (S1 (G1 dp 5) (C1 101 (S1 (G1 dp 6) .ret) K1)) (S1 (S1 (G1 dp 7) (B1 0 (.loop (S1 (S1 (G1 dp 8) (C1 106 K1 (X1 0))) (S1 (B1 1 (S1 (G2 dp 10) (C1 120 (S1 (G1 dp 11) .ret) K1))) (G1 dp 9)))))) (S1 (G1 dp 12) (S1 (S1 (G1 dp 13) (B1 2 (.loop (S1 (G1 dp 14) (S1 (C1 126 K1 (X1 2)) (S1 (B1 3 (S1 (G1 dp 15) (S1 (S1 (G1 dp 16) (C1 139 (S1 (G1 dp 17) .ret) K1)) (S1 (G1 dp 18) (C1 143 (S1 (S1 (G1 dp 19) (C1 148 (S1 (G1 dp 20) .ret) K1)) (G1 dp 21)) K1))))) (G1 dp 22))))))) (S1 (G1 dp 23) (S1 (S1 (G1 dp 24) (B1 4 (.loop (S1 (G1 dp 25) (S1 (C1 160 K1 (X1 4)) (S1 (B1 5 (S1 (G1 dp 26) (S1 (G1 dp 27) (S1 (G1 dp 28) (B1 6 (.loop (S1 (G1 dp 29) (S1 (C1 168 K1 (X1 6)) (S1 (B1 7 (S1 (G1 dp 30) (S1 (G1 dp 31) (S1 (G2 dp 32) (C1 187 (S1 (G1 dp 33) .ret) K1))))) (G1 dp 34)))))))))) (G1 dp 35))))))) (S1 (G1 dp 36) .ret))))))))))):=kr
theorem abB:cb (Z fE 7)=some []:=kr
theorem ZU:cb (Z fE 17)=some []:=kr
theorem ZV:cb (Z fE 18)=some [(14,15),(14,16),(14,18),(14,19)]:=kr
theorem ai6:fE=(S1 (G1 fE 0) (.scope (S1 (G1 fE 1) (S1 (G1 fE 2) (S1 (.label 0) (S1 (S1 (G1 fE 3) (B1 0 (.loop (S1 (G1 fE 4) (S1 (C1 28 K1 (X1 0)) (S1 (B1 1 (S1 (G1 fE 5) (S1 (S1 (G1 fE 6) (C1 36 (X1 1) K1)) (S1 (S1 (G2 fE 7) (S1 (G1 fE 8) (C1 47 (S1 (G1 fE 9) .ret) K1))) (S1 (G1 fE 10) (B1 2 (.loop (S1 (G1 fE 11) (S1 (C1 52 K1 (X1 2)) (S1 (B1 3 (S1 (G1 fE 12) (S1 (S1 (G1 fE 13) (C1 57 (X1 1) K1)) (S1 (G1 fE 14) (B1 4 (.loop (S1 (G1 fE 15) (S1 (C1 64 K1 (X1 4)) (S1 (B1 5 (S1 (G1 fE 16) (S1 (G2 fE 17) (S1 (G2 fE 18) (C1 104 (S1 (G1 fE 19) .ret) K1))))) (G1 fE 20)))))))))) (G1 fE 21))))))))))) (G1 fE 22))))))) (S1 (G1 fE 23) .ret))))))):=kr
theorem aiZ:FZ=(S1 (G1 FZ 0) (S1 (G1 FZ 1) .ret)):=kr
theorem aih:F0=(S1 (G1 F0 0) (S1 (G1 F0 1) .ret)):=kr
theorem aiS:F1=(S1 (G1 F1 0) (S1 (G1 F1 1) .ret)):=kr
theorem aip:F3=(S1 (G1 F3 0) (S1 (G1 F3 1) .ret)):=kr
theorem aiX:nH=(S1 (G1 nH 0) (S1 (G1 nH 1) (S1 (S1 (G1 nH 2) (B1 0 (.loop (S1 (G1 nH 3) (S1 (C1 18 K1 (X1 0)) (S1 (B1 1 (S1 (G1 nH 4) (S1 (G1 nH 5) (B1 2 (.loop (S1 (G1 nH 6) (S1 (C1 28 K1 (X1 2)) (S1 (B1 3 (S1 (G1 nH 7) (G1 nH 8))) (G1 nH 9))))))))) (G1 nH 10))))))) (S1 (G1 nH 11) .ret)))):=kr
theorem agX:BX=(S1 (G1 BX 0) (S1 (G1 BX 1) (S1 (G1 BX 2) .ret))):=kr
theorem agr:EX=(S1 (G1 EX 0) (S1 (G1 EX 1) .ret)):=kr
theorem agz:EY=(S1 (G1 EY 0) (S1 (G1 EY 1) .ret)):=kr
theorem aeS:EZ=(S1 (G1 EZ 0) (S1 (G1 EZ 1) .ret)):=kr
theorem agv:E0=(S1 (G1 E0 0) (S1 (G1 E0 1) .ret)):=kr
theorem agt:E2=(S1 (G1 E2 0) (S1 (G1 E2 1) .ret)):=kr
theorem YF:cb (Z eJ 11)=some [(3,4),(3,5),(3,6)]:=kr
theorem YG:cb (Z eJ 28)=some [(7,8),(7,9),(7,10)]:=kr
theorem ag3:eJ=(S1 (G1 eJ 0) (S1 (G1 eJ 1) (S1 (G1 eJ 2) (S1 (S1 (G1 eJ 3) (B1 0 (S1 (G1 eJ 4) (C1 13 (G1 eJ 5) (S1 (G1 eJ 6) (C1 20 (G1 eJ 7) (S1 (G1 eJ 8) (C1 42 (S1 (G1 eJ 9) (S1 (G1 eJ 10) (C1 57 (G2 eJ 11) K1))) (S1 (G1 eJ 12) (C1 66 (G1 eJ 13) (S1 (G1 eJ 14) (C1 72 (S1 (G1 eJ 15) (S1 (G1 eJ 16) (G1 eJ 17))) (S1 (G1 eJ 18) (C1 107 (S1 (G1 eJ 19) (G1 eJ 20)) (S1 (G1 eJ 21) (C1 153 (S1 (G1 eJ 22) (G1 eJ 23)) (S1 (G1 eJ 24) (C1 187 (S1 (G1 eJ 25) (G1 eJ 26)) (S1 (G1 eJ 27) (C1 224 (G2 eJ 28) K1)))))))))))))))))))) (S1 (G1 eJ 29) .ret))))):=kr
theorem ag1:lM=(S1 (G1 lM 0) (S1 (S1 (G1 lM 1) (B1 0 (S1 (G1 lM 2) (C1 17 (S1 (G1 lM 3) .ret) (S1 (G1 lM 4) (C1 45 (S1 (G1 lM 5) .ret) (S1 (G1 lM 6) (C1 69 (S1 (G1 lM 7) .ret) (S1 (G1 lM 8) (C1 93 (S1 (G1 lM 9) (S1 (G1 lM 10) (S1 (G1 lM 11) .ret))) K1)))))))))) (S1 (G1 lM 12) (S1 (G1 lM 13) .ret)))):=kr
theorem ZQ:cb (Z ed 1)=some [(4,5),(4,6),(4,7),(4,8)]:=kr
theorem Yz:cb (Z ed 20)=some []:=kr
theorem YA:cb (Z ed 24)=some [(2,8),(3,8)]:=kr
theorem YB:cb (Z ed 25)=some []:=kr
theorem agl:ed=(S1 (G1 ed 0) (S1 (G2 ed 1) (S1 (S1 (G1 ed 2) (B1 0 (.loop (S1 (G1 ed 3) (S1 (C1 29 K1 (X1 0)) (S1 (B1 1 (S1 (G1 ed 4) (G1 ed 5))) (G1 ed 6))))))) (S1 (G1 ed 7) (S1 (S1 (G1 ed 8) (B1 2 (.loop (S1 (G1 ed 9) (S1 (C1 45 K1 (X1 2)) (S1 (B1 3 (S1 (G1 ed 10) (G1 ed 11))) (G1 ed 12))))))) (S1 (S1 (G1 ed 13) (B1 4 (.loop (S1 (S1 (G1 ed 14) (C1 55 K1 (X1 4))) (B1 5 (S1 (G1 ed 15) (S1 (G1 ed 16) (B1 6 (.loop (S1 (G1 ed 17) (S1 (C1 61 K1 (X1 6)) (S1 (B1 7 (S1 (G1 ed 18) (S1 (S1 (G1 ed 19) (C1 69 (X1 7) K1)) (S1 (G2 ed 20) (S1 (G1 ed 21) (B1 8 (.loop (S1 (G1 ed 22) (S1 (C1 85 K1 (X1 8)) (S1 (B1 9 (S1 (G1 ed 23) (S1 (G2 ed 24) (S1 (G2 ed 25) (C1 110 (G1 ed 26) K1))))) (G1 ed 27))))))))))) (G1 ed 28))))))))))))) (S1 (G1 ed 29) .ret))))))):=kr
theorem Iu:cb (Z iS 10)=some [(6,9)]:=kr
theorem agc:iS=(S1 (G1 iS 0) (S1 (G1 iS 1) (S1 (S1 (G1 iS 2) (B1 0 (.loop (S1 (G1 iS 3) (S1 (C1 17 K1 (X1 0)) (S1 (B1 1 (S1 (G1 iS 4) (S1 (S1 (G1 iS 5) (B1 2 (.loop (S1 (G1 iS 6) (S1 (C1 24 K1 (X1 2)) (S1 (B1 3 (S1 (G1 iS 7) (G1 iS 8))) (G1 iS 9))))))) (S1 (G2 iS 10) (G1 iS 11))))) (G1 iS 12))))))) (S1 (S1 (G1 iS 13) (B1 4 (.loop (S1 (G1 iS 14) (S1 (C1 56 K1 (X1 4)) (S1 (B1 5 (S1 (G1 iS 15) (G1 iS 16))) (G1 iS 17))))))) (S1 (G1 iS 18) .ret))))):=kr
theorem ZN:cb (Z xm 2)=some [(0,2)]:=kr
theorem aga:xm=(S1 (G1 xm 0) (S1 (S1 (G1 xm 1) (C1 9 (S1 (G2 xm 2) .ret) K1)) (S1 (G1 xm 3) .ret))):=kr
theorem ae0:E3=(S1 (G1 E3 0) (S1 (G1 E3 1) .ret)):=kr
theorem aeW:rC=(S1 (G1 rC 0) (S1 (S1 (G1 rC 1) (B1 0 (.loop (S1 (G1 rC 2) (S1 (C1 9 K1 (X1 0)) (S1 (B1 1 (S1 (G1 rC 3) (S1 (G1 rC 4) (C1 16 (S1 (G1 rC 5) .ret) K1)))) (G1 rC 6))))))) (S1 (G1 rC 7) .ret))):=kr
theorem ZM:cb (Z ji 6)=some []:=kr
theorem Yx:cb (Z ji 11)=some []:=kr
theorem af7:ji=(S1 (G1 ji 0) (S1 (S1 (G1 ji 1) (C1 8 (S1 (G1 ji 2) .ret) K1)) (S1 (S1 (G1 ji 3) (B1 0 (.loop (S1 (S1 (G1 ji 4) (C1 13 K1 (X1 0))) (S1 (B1 1 (S1 (G2 ji 6) (C1 25 (S1 (G1 ji 7) (S1 (S1 (G1 ji 8) (B1 2 (.loop (S1 (S1 (G1 ji 9) (C1 32 K1 (X1 2))) (S1 (B1 3 (S1 (G2 ji 11) (C1 44 (S1 (G1 ji 12) (G1 ji 13)) K1))) (G1 ji 10)))))) (S1 (G1 ji 14) (S1 (G1 ji 15) .ret)))) K1))) (G1 ji 5)))))) (S1 (G1 ji 16) .ret)))):=kr
theorem af9:zO=(S1 (G1 zO 0) (S1 (G1 zO 1) (S1 (G1 zO 2) (S1 (G1 zO 3) .ret)))):=kr
theorem afq:qo=(S1 (S1 (G1 qo 0) (C1 19 .ret K1)) (S1 (S1 (G1 qo 1) (C1 34 .ret K1)) (S1 (S1 (G1 qo 2) (B1 0 (.loop (S1 (G1 qo 3) (S1 (C1 39 K1 (X1 0)) (S1 (B1 1 (S1 (G1 qo 4) (S1 (G1 qo 5) (C1 46 .ret K1)))) (G1 qo 6))))))) (S1 (G1 qo 7) (C1 65 (G1 qo 8) K1))))):=kr
theorem agV:zP=(S1 (G1 zP 0) (S1 (G1 zP 1) (S1 (G1 zP 2) (S1 (G1 zP 3) .ret)))):=kr
theorem aeP:Fa=(S1 (G1 Fa 0) (S1 (G1 Fa 1) .ret)):=kr
theorem agn:Fb=(S1 (G1 Fb 0) (S1 (G1 Fb 1) .ret)):=kr
theorem agx:Ff=(S1 (G1 Ff 0) (S1 (G1 Ff 1) .ret)):=kr
theorem aeQ:rG=(S1 (G1 rG 0) (S1 (S1 (G1 rG 1) (B1 0 (.loop (S1 (G1 rG 2) (S1 (C1 9 K1 (X1 0)) (S1 (B1 1 (S1 (G1 rG 3) (S1 (G1 rG 4) (C1 16 (S1 (G1 rG 5) .ret) K1)))) (G1 rG 6))))))) (S1 (G1 rG 7) .ret))):=kr
theorem agp:Fg=(S1 (G1 Fg 0) (S1 (G1 Fg 1) .ret)):=kr
theorem agB:Fh=(S1 (G1 Fh 0) (S1 (G1 Fh 1) .ret)):=kr
theorem agC:zS=(S1 (G1 zS 0) (S1 (S1 (G1 zS 1) (C1 12 (S1 (G1 zS 2) .ret) K1)) (S1 (G1 zS 3) .ret))):=kr
theorem agL:ov=(S1 (G1 ov 0) (S1 (G1 ov 1) (S1 (S1 (G1 ov 2) (C1 20 (G1 ov 3) K1)) (S1 (G1 ov 4) (S1 (S1 (G1 ov 5) (B1 0 (S1 (G1 ov 6) (C1 31 (G1 ov 7) (S1 (G1 ov 8) (C1 43 (G1 ov 9) K1)))))) (S1 (G1 ov 10) .ret)))))):=kr
theorem agT:rH=(S1 (G1 rH 0) (S1 (S1 (G1 rH 1) (B1 0 (.loop (S1 (G1 rH 2) (S1 (C1 11 K1 (X1 0)) (S1 (B1 1 (S1 (G1 rH 3) (S1 (G1 rH 4) (C1 33 (S1 (G1 rH 5) .ret) K1)))) (G1 rH 6))))))) (S1 (G1 rH 7) .ret))):=kr
theorem agG:Fi=(S1 (G1 Fi 0) (S1 (G1 Fi 1) .ret)):=kr
theorem agQ:Fj=(S1 (G1 Fj 0) (S1 (G1 Fj 1) .ret)):=kr
theorem PF:cb (Z B0 1)=some [(10,11),(10,12),(10,13),(10,15),(10,16)]:=kr
theorem agH:B0=(S1 (G1 B0 0) (S1 (G2 B0 1) .ret)):=kr
theorem ZZ:cb (Z B2 1)=some [(2,3)]:=kr
theorem agZ:B2=(S1 (G1 B2 0) (S1 (G2 B2 1) .ret)):=kr
theorem Zt:cb (Z xr 2)=some []:=kr
theorem ae2:xr=(S1 (G1 xr 0) (S1 (S1 (G1 xr 1) (C1 6 (G2 xr 2) K1)) (S1 (G1 xr 3) .ret))):=kr
theorem Zu:cb (Z rI 4)=some []:=kr
theorem ae4:rI=(S1 (G1 rI 0) (S1 (S1 (G1 rI 1) (B1 0 (.loop (S1 (G1 rI 2) (S1 (C1 7 K1 (X1 0)) (S1 (B1 1 (S1 (G1 rI 3) (G2 rI 4))) (G1 rI 5))))))) (S1 (G1 rI 6) .ret))):=kr
theorem Zw:cb (Z u7 2)=some [(0,3)]:=kr
theorem Zv:cb (Z u7 3)=some [(0,2)]:=kr
theorem ae6:u7=(S1 (G1 u7 0) (S1 (S1 (G1 u7 1) (C1 7 (S1 (G2 u7 2) .ret) K1)) (S1 (G2 u7 3) .ret))):=kr
theorem afx:s9=(S1 (G1 s9 0) (S1 (G1 s9 1) (S1 (S1 (G1 s9 2) (B1 0 (.rangeFunc (.tmp 8) #[9] (G1 s9 3) (B1 1 (S1 (G1 s9 4) (C1 12 (G1 s9 5) K1)))))) (S1 (G1 s9 6) .ret)))):=kr
theorem afB:Fl=(S1 (G1 Fl 0) (S1 (G1 Fl 1) .ret)):=kr
theorem af4:Fm=(S1 (G1 Fm 0) (G1 Fm 1)):=kr
theorem aeN:rJ=(S1 (G1 rJ 0) (S1 (S1 (G1 rJ 1) (B1 0 (.loop (S1 (G1 rJ 2) (S1 (C1 9 K1 (X1 0)) (S1 (B1 1 (S1 (G1 rJ 3) (S1 (G1 rJ 4) (C1 16 (S1 (G1 rJ 5) .ret) K1)))) (G1 rJ 6))))))) (S1 (G1 rJ 7) .ret))):=kr
theorem agJ:nC=(S1 (G1 nC 0) (S1 (G1 nC 1) (S1 (S1 (G1 nC 2) (B1 0 (S1 (G1 nC 3) (C1 14 (S1 (G1 nC 4) .ret) (S1 (G1 nC 5) (C1 18 (S1 (G1 nC 6) .ret) (S1 (G1 nC 7) (C1 22 (S1 (G1 nC 8) .ret) (S1 (G1 nC 9) (C1 26 (S1 (G1 nC 10) .ret) K1)))))))))) (S1 (G1 nC 11) .ret)))):=kr
theorem aeV:Fo=(S1 (G1 Fo 0) (S1 (G1 Fo 1) .ret)):=kr
theorem agS:Fp=(S1 (G1 Fp 0) (S1 (G1 Fp 1) .ret)):=kr
theorem agE:Fq=(S1 (G1 Fq 0) (S1 (G1 Fq 1) .ret)):=kr
theorem agO:Fs=(S1 (G1 Fs 0) (S1 (G1 Fs 1) .ret)):=kr
theorem aeT:rK=(S1 (G1 rK 0) (S1 (S1 (G1 rK 1) (B1 0 (.loop (S1 (G1 rK 2) (S1 (C1 9 K1 (X1 0)) (S1 (B1 1 (S1 (G1 rK 3) (S1 (G1 rK 4) (C1 16 (S1 (G1 rK 5) .ret) K1)))) (G1 rK 6))))))) (S1 (G1 rK 7) .ret))):=kr
theorem afz:xt=(S1 (G1 xt 0) (S1 (S1 (G1 xt 1) (B1 0 (.rangeFunc (.tmp 6) #[7] (G1 xt 2) (B1 1 (G1 xt 3))))) (S1 (G1 xt 4) .ret))):=kr
theorem af2:eO=(S1 (G1 eO 0) (S1 (G1 eO 1) (B1 0 (.loop (B1 1 (S1 (G1 eO 2) (S1 (S1 (G1 eO 3) (C1 23 (S1 (G1 eO 4) .ret) K1)) (S1 (S1 (G1 eO 5) (C1 29 (S1 (G1 eO 6) .ret) K1)) (S1 (S1 (G1 eO 7) (C1 35 (S1 (G1 eO 8) (G1 eO 9)) K1)) (S1 (G1 eO 10) (S1 (S1 (G1 eO 11) (C1 50 (S1 (G1 eO 12) (S1 (G1 eO 13) (G1 eO 14))) K1)) (S1 (S1 (G1 eO 15) (C1 68 (S1 (G1 eO 16) (C1 72 .ret K1)) K1)) (S1 (S1 (G2 eO 17) (C1 87 (S1 (G1 eO 18) (S1 (G1 eO 19) (X1 1))) K1)) (S1 (G1 eO 20) (S1 (G1 eO 21) (S1 (G1 eO 22) (S1 (G1 eO 23) (S1 (G1 eO 24) (C1 113 (S1 (G1 eO 25) (S1 (G1 eO 26) (G1 eO 27))) (S1 (G1 eO 28) (S1 (G1 eO 29) (G1 eO 30)))))))))))))))))))))):=kr
theorem ZJ:cb (Z qt 4)=some []:=kr
theorem ZK:cb (Z qt 6)=some []:=kr
theorem af0:qt=(S1 (G1 qt 0) (B1 0 (.loop (S1 (S1 (G1 qt 1) (C1 12 K1 (X1 0))) (S1 (B1 1 (S1 (G1 qt 3) (B1 2 (.loop (S1 (S1 (G2 qt 4) (C1 30 K1 (X1 2))) (S1 (B1 3 (G2 qt 6)) (G1 qt 5))))))) (G1 qt 2)))))):=kr
theorem afY:Ft=(S1 (G1 Ft 0) (S1 (G1 Ft 1) .ret)):=kr
theorem afW:Fu=(S1 (G1 Fu 0) (S1 (G1 Fu 1) .ret)):=kr
theorem aeY:Fk=(S1 (G1 Fk 0) (S1 (G1 Fk 1) .ret)):=kr
theorem Pr:cb (Z dk 10)=some []:=kr
theorem Ps:cb (Z dk 23)=some []:=kr
theorem Pt:cb (Z dk 27)=some []:=kr
theorem Pu:cb (Z dk 29)=some []:=kr
theorem Pv:cb (Z dk 31)=some []:=kr
theorem U2:dk=(S1 (G1 dk 0) (S1 (S1 (G1 dk 1) (S1 (G1 dk 2) (C1 16 (S1 (G1 dk 3) .ret) K1))) (S1 (S1 (G1 dk 4) (C1 26 (S1 (G1 dk 5) .ret) K1)) (S1 (G1 dk 6) (S1 (S1 (G1 dk 7) (B1 0 (.loop (S1 (G1 dk 8) (S1 (C1 34 K1 (X1 0)) (S1 (B1 1 (S1 (G1 dk 9) (G2 dk 10))) (G1 dk 11))))))) (S1 (S1 (G1 dk 12) (B1 2 (.loop (S1 (G1 dk 13) (S1 (C1 51 K1 (X1 2)) (S1 (B1 3 (S1 (G1 dk 14) (S1 (G1 dk 15) (S1 (G1 dk 16) (S1 (G1 dk 17) (S1 (S1 (G1 dk 18) (B1 4 (S1 (S1 (G1 dk 19) (C1 73 K1 (S1 (G1 dk 20) (C1 73 K1 (S1 (G1 dk 21) (C1 73 K1 (G1 dk 22))))))) (C1 73 (G2 dk 23) (S1 (S1 (G1 dk 24) (C1 88 K1 (G1 dk 25))) (C1 88 (S1 (G1 dk 26) (C1 95 (G2 dk 27) K1)) (S1 (G1 dk 28) (C1 106 (G2 dk 29) K1)))))))) (S1 (S1 (G1 dk 30) (C1 121 (G2 dk 31) K1)) (G1 dk 32)))))))) (G1 dk 33))))))) (S1 (G1 dk 34) .ret))))))):=kr
theorem afc:pB=(S1 (G1 pB 0) (S1 (G1 pB 1) (S1 (S1 (G1 pB 2) (B1 0 (.loop (S1 (G1 pB 3) (S1 (C1 15 K1 (X1 0)) (S1 (B1 1 (S1 (G1 pB 4) (S1 (S1 (G1 pB 5) (C1 39 (S1 (G1 pB 6) .ret) K1)) (G1 pB 7)))) (G1 pB 8))))))) (S1 (G1 pB 9) .ret)))):=kr
theorem Pp:cb (Z xk 1)=some [(2,3),(2,4),(2,6),(5,6),(2,7),(5,7),(5,9),(8,9)]:=kr
theorem TT:xk=(S1 (G1 xk 0) (S1 (G2 xk 1) (S1 (G1 xk 2) (S1 (G1 xk 3) .ret)))):=kr
theorem TG:rA=(S1 (G1 rA 0) (S1 (G1 rA 1) (S1 (S1 (G1 rA 2) (B1 0 (.loop (S1 (G1 rA 3) (S1 (C1 11 K1 (X1 0)) (S1 (B1 1 (S1 (G1 rA 4) (G1 rA 5))) (G1 rA 6))))))) (S1 (G1 rA 7) .ret)))):=kr
theorem TK:ER=(S1 (G1 ER 0) (S1 (G1 ER 1) .ret)):=kr
theorem TI:iA=(S1 (G1 iA 0) (S1 (G1 iA 1) (S1 (G1 iA 2) (S1 (S1 (G1 iA 3) (C1 21 (G1 iA 4) K1)) (S1 (S1 (G1 iA 5) (B1 0 (S1 (S1 (G1 iA 6) (C1 28 K1 (G1 iA 7))) (C1 28 (G1 iA 8) (S1 (G1 iA 9) (C1 32 (G1 iA 10) (S1 (G1 iA 11) (C1 35 (G1 iA 12) K1)))))))) (S1 (S1 (G1 iA 13) (C1 41 (G1 iA 14) K1)) (S1 (S1 (G1 iA 15) (C1 50 (G1 iA 16) K1)) (S1 (S1 (G1 iA 17) (C1 59 (G1 iA 18) K1)) (S1 (G1 iA 19) (S1 (G1 iA 20) .ret)))))))))):=kr
theorem TE:rB=(S1 (G1 rB 0) (S1 (G1 rB 1) (S1 (S1 (G1 rB 2) (B1 0 (.loop (S1 (G1 rB 3) (S1 (C1 11 K1 (X1 0)) (S1 (B1 1 (S1 (G1 rB 4) (G1 rB 5))) (G1 rB 6))))))) (S1 (G1 rB 7) .ret)))):=kr
theorem ae9:ES=(S1 (G1 ES 0) (S1 (G1 ES 1) .ret)):=kr
theorem afe:xg=(S1 (G1 xg 0) (S1 (S1 (G1 xg 1) (C1 4 (S1 (G1 xg 2) .ret) K1)) (S1 (G1 xg 3) .ret))):=kr
theorem afg:xh=(S1 (G1 xh 0) (S1 (S1 (G1 xh 1) (C1 4 (S1 (G1 xh 2) .ret) K1)) (S1 (G1 xh 3) .ret))):=kr
theorem TQ:rD=(S1 (G1 rD 0) (S1 (G1 rD 1) (S1 (S1 (G1 rD 2) (B1 0 (.loop (S1 (G1 rD 3) (S1 (C1 11 K1 (X1 0)) (S1 (B1 1 (S1 (G1 rD 4) (G1 rD 5))) (G1 rD 6))))))) (S1 (G1 rD 7) .ret)))):=kr
theorem Po:cb (Z xq 2)=some [(4,5),(4,6),(4,7),(4,9),(8,9),(4,10),(8,10),(4,11),(8,11),(8,13),(12,13),(8,14),(12,14),(8,15),(12,15)]:=kr
theorem TO:xq=(S1 (G1 xq 0) (S1 (G1 xq 1) (S1 (G2 xq 2) (S1 (G1 xq 3) .ret)))):=kr
theorem afk:BZ=(S1 (G1 BZ 0) (S1 (G1 BZ 1) (S1 (G1 BZ 2) .ret))):=kr
theorem afi:xj=(S1 (G1 xj 0) (S1 (S1 (G1 xj 1) (C1 4 (S1 (G1 xj 2) .ret) K1)) (S1 (G1 xj 3) .ret))):=kr
theorem afa:E8=(S1 (G1 E8 0) (S1 (G1 E8 1) .ret)):=kr
theorem abh:cb (Z ef 1)=some [(29,30),(29,31),(39,40),(39,41)]:=kr
theorem abi:cb (Z ef 6)=some []:=kr
theorem Zy:cb (Z ef 18)=some []:=kr
theorem Zz:cb (Z ef 27)=some []:=kr
theorem aiu:ef=(S1 (G1 ef 0) (S1 (S1 (G2 ef 1) (C1 76 (S1 (G1 ef 2) .ret) K1)) (S1 (S1 (G1 ef 3) (B1 0 (.loop (S1 (S1 (G1 ef 4) (C1 81 K1 (X1 0))) (S1 (B1 1 (S1 (G2 ef 6) (C1 94 (S1 (G1 ef 7) .ret) K1))) (G1 ef 5)))))) (S1 (S1 (G1 ef 8) (B1 2 (.loop (S1 (S1 (G1 ef 9) (C1 99 K1 (X1 2))) (S1 (B1 3 (S1 (G1 ef 11) (S1 (G1 ef 12) (S1 (S1 (G1 ef 13) (C1 118 (S1 (G1 ef 14) .ret) K1)) (S1 (S1 (G1 ef 15) (B1 4 (.loop (S1 (S1 (G1 ef 16) (C1 122 K1 (X1 4))) (S1 (B1 5 (S1 (G2 ef 18) (C1 134 (S1 (G1 ef 19) .ret) K1))) (G1 ef 17)))))) (S1 (G1 ef 20) (S1 (G1 ef 21) (S1 (S1 (G1 ef 22) (C1 218 (S1 (G1 ef 23) .ret) K1)) (S1 (G1 ef 24) (B1 6 (.loop (S1 (S1 (G1 ef 25) (C1 223 K1 (X1 6))) (S1 (B1 7 (S1 (G2 ef 27) (C1 236 (S1 (G1 ef 28) .ret) K1))) (G1 ef 26)))))))))))))) (G1 ef 10)))))) (S1 (G1 ef 29) .ret))))):=kr
theorem afs:s8=(S1 (G1 s8 0) (S1 (G1 s8 1) (S1 (S1 (G1 s8 2) (B1 0 (.loop (S1 (S1 (G1 s8 3) (C1 8 K1 (X1 0))) (S1 (B1 1 (G1 s8 5)) (G1 s8 4)))))) (S1 (G1 s8 6) .ret)))):=kr
theorem afu:EW=(S1 (G1 EW 0) (S1 (G1 EW 1) .ret)):=kr
end Go.Proofs.Tryz.K
namespace Go.Abs
section
variable{P:Program}{F F':Nat->Prop}{m:Mem}{nx:Nat}{β β':av}{w w':World}
theorem aa0(hm:ax P F m β w)(hn:β nx=none){f:FuncId}{args es:List D}{n:Nat}{t:TypeId}{vs:Array Value}{eR:List D}{a7:List Nat}(kN:jM P a7 m args eR)(hc:gC P f eR es n t)(kp:∀ d∈es,d.gL=true)(hR:Rs F β w args vs):
 Calls P f vs w fun e w'=>∃ v β',e=.returned v/\R F β' w' (.rs nx 0 n) v/\ax P F (up m nx (some (.cells es t))) β' w'/\Step β w β' w'/\∀ i,i≠nx->β' i=β i:=by
 obtain⟨g1,g2⟩:=F7 (P:=P) (F:=F) (β:=β) (w:=w) (fun i hi r hr=>by
  obtain⟨p,hp,af⟩:=hm.row i r hr
  exact⟨p,hp,af,fun b hb=>hm.nf i p b hp hb⟩) kN
 refine(hc.2.2 F w vs hm.fb ⟨by rw[hR.1,g1],fun k d v hd hv=>?_⟩).mono ?_
 .have ag:k<args.length:=by rw[g1];exact(bU.1 hd).1
  exact g2 k args[k] d (by simp[ag]) hd v (hR.2 k args[k] v (by simp[ag]) hv)
 rintro e w' ⟨v,p,he,KE,C,af,hv,hk⟩;have gn:=hm.kept hk
 have hs:Step β w (up β nx (some p)) w':=by
  refine⟨hk.1,fun b hb hf=>⟨hk.2.1 b hb,fun i q hq=>?_⟩,fun i q hq=>.inl ?_,hk.2.2,fun _ r _ _=>BR (hk.2.1 r)⟩
  .by_cases hi:i=nx
   .subst hi;rw[ai] at hq;cases hq;intro e;have:=(C b e).1;omega
   .rw[aA _ _ hi] at hq;exact hf i q hq
  .rw[aA _ _ (fun e=>by rw[e,hn] at hq;cases hq)];exact hq
 have O:∀ i q b,up β nx (some p) i=some q->q.bA=some b->(i=nx/\q=p)\/(i≠nx/\β i=some q):=fun i q b hq _=>by
  by_cases hi:i=nx
  .subst hi;rw[ai] at hq;cases hq;exact .inl ⟨rfl,rfl⟩
  .rw[aA _ _ hi] at hq;exact .inr ⟨hi,hq⟩
 have KF:cx P F (up β nx (some p)) w' (.cells es t) p:=by
  cases af with
  |nil _=>exact .nil _
  |cells _ _ b o room sz c h1 h2 X h4 h5=>
   refine .cells es t b o room sz c h1 h2 X h4 fun k d hd=>?_;obtain⟨u,oZ,o0,o6⟩:=h5 k d hd;exact⟨u,oZ,JY (kp d (cX hd)) o0,o6⟩
 refine⟨v,up β nx (some p),he,?_,?_,hs,fun i hi=>aA _ _ hi⟩
 .cases hv with
  |js _ _ _ _ h _=>rw[ai] at h;cases h;exact absurd rfl KE
  |gu _ a h=>rw[ai] at h;cases h;exact .gu nx a (ai _ _ _)
  |ir _ _ a b o len room sz h=>rw[ai] at h;cases h;exact .ir nx 0 a b o len room sz (ai _ _ _)
  |rs _ _ _ cap b o len room sz h h1 h2 X h4=>rw[ai] at h;cases h;exact .rs nx 0 n cap b o len room sz (ai _ _ _) h1 h2 X h4
 .refine⟨fun i r hi=>?_,fun i j q q' b hq fp e J=>?_,fun i q b hq e=>?_,fun i q b hq e=>?_,gn.fb⟩
  .by_cases U:i=nx
   .subst U;rw[ai] at hi;cases hi;exact⟨p,ai _ _ _,KF⟩
   .rw[aA _ _ U] at hi;obtain⟨q,hq,MH⟩:=hm.row i r hi;exact⟨q,by rw[aA _ _ U];exact hq,MH.step hs fun b hb=>hk.2.1 b (hm.lt i q b hq hb)⟩
  .rcases O i q b hq e with⟨rfl,rfl⟩|⟨hi,h1⟩<;>rcases O j q' b fp J with⟨rfl,rfl⟩|⟨hj,h2⟩
   .rfl
   .have:=(C b e).1;have:=hm.lt j q' b h2 J;omega
   .have:=(C b J).1;have:=hm.lt i q b h1 e;omega
   .exact hm.inj i j q q' b h1 h2 e J
  .rcases O i q b hq e with⟨_,rfl⟩|⟨_,h1⟩
   .exact(C b e).2
   .exact gn.lt i q b h1 e
  .rcases O i q b hq e with⟨_,rfl⟩|⟨_,h1⟩
   .intro hF;have:=hm.fb.lt b hF;have:=(C b e).1;omega
   .exact hm.nf i q b h1 e
theorem gC.snap{f:FuncId}{args C es:List D}{n:Nat}{t:TypeId}{a7:List Nat}(X:jM P a7 m args C)(h:gC P f C es n t)(kp:∀ d∈es,d.gL=true):
 dB P f args m nx fun d m' an=>d=.rs nx 0 n/\m'=up m nx (some (.cells es t))/\an=nx+1:=
 ⟨h.1,fun F β w vs hm hn hR=>(aa0 hm (hn nx (a6 _)) X h kp hR).mono fun e w' ⟨v,β',h1,h2,O,U,J⟩=>
  ⟨v,_,_,_,β',h1,⟨rfl,rfl,rfl⟩,O,fun i hi=>by rw[J i oG];exact hn i oG,h2,U,oG,fun i hi hb=>by rw[J i oG];exact hb⟩⟩
end
section
variable{P:Program}{m:Mem}{nx:Nat}
theorem gC.FF{f:FuncId}{args es:List D}{n:Nat}{t:TypeId}(h:gC P f args es n t)(ht:Tr (.sl (es.take (n*P.cellsOf t)) n)):aG P f args (.sl (es.take (n*P.cellsOf t)) n):=by
 refine⟨h.1,h.2.1,fun F w vs C hR=>(h.2.2 F w vs C hR).mono ?_⟩;rintro e w' ⟨v,p,h1,h2,U,h4,h5,J⟩;refine⟨v,h1,?_,J⟩
 have b0:∀ {i q},up fw 0 (some p) i=some q->i=0/\q=p:=fun {i q} hi=>by
  by_cases e:i=0
  .subst e;rw[ai] at hi;cases hi;exact⟨rfl,rfl⟩
  .rw[aA _ _ e] at hi;cases hi
 have hm:ax P F (up (fun _=>none) 0 (some (.cells es t))) (up fw 0 (some p)) w':=by
  refine⟨fun i r hi=>?_,fun i j q q' b hq X _ _=>(b0 hq).1.trans (b0 X).1.symm,fun i q b hq e=>?_,fun i q b hq e=>?_,C.next (fun b hb=>Nat.lt_of_lt_of_le (C.lt b hb) J.1) (fun _ h=>h) fun _ _ hb=>J.2.1 _ (C.lt _ hb)⟩
  .by_cases e:i=0
   .subst e;rw[ai] at hi;cases hi;refine⟨p,ai _ _ _,h4.gen (a6 _) (fun b _ O _=>⟨ll.refl w' b,fun i q hq hb=>?_,fun C=>O (.inl C)⟩) (fun i q _ hq=>by cases hq) fun _ _=>rfl⟩;exact O (.inr ((b0 hq).2▸hb))
   .rw[aA _ _ e] at hi;cases hi
  .rw[(b0 hq).2] at e;exact(U b e).2
  .rw[(b0 hq).2] at e;intro hb;have:=C.lt b hb;have:=(U b e).1;omega
 have:=PV hm (ai _ _ _) rfl h5;have e:c7 0 es (P.cellsOf t) (.rs 0 0 n)=.sl (es.take (n*P.cellsOf t)) n:=by simp[c7]
 rw[e] at this;exact ht.Gd this
end
end Go.Abs
namespace Go.Abs
open Go.Argus
class V{α:Type}(x:α)(y:outParam α):Prop where h:x=y
section
variable{P:Program}{Y:fm}{ops:Array Oper}{dr:Bool}{cf:List (Nat×Nat)}{Q:Exit->St->Prop}{r:List Oper}{v:Env}{m:Mem}{n:Nat}{q:kO}{x:Oper}{s:St}{e:List Nat×List Nat}
variable{t:Option Nat}{u:Nat}{ty:TypeId}{pos:String}{after:Array Edge}{j:Nat}{b c:Bool}{op:Op}
def SO(P:Program)(Y:fm)(ops:Array Oper)(dr:Bool)(o:Oper)(v:Env)(m:Mem)(n:Nat)(s:St)(e:List Nat×List Nat):Prop:=
 ∀ cf Q r q,aj P Y ops dr cf Q r s (q++[e])->aj P Y ops dr cf Q (o::r) ⟨v,m,n⟩ q
theorem ak{l:List Operand}(h:fz v l:=by repeat' (first|exact trivial|exact hc|exact rfl|refine And.intro ?_ ?_)):fz v l:=h
theorem z(K:∀ (x:D) rd,aj P Y ops dr cf Q r (St.put ⟨v,m,n⟩ t (.cu false x)) (q++[(rd,[])]))(hj:(ops[j]?).bind (·.dst)=some u:=by exact rfl)(hg:jC (v u) b=some false:=by exact rfl):
 aj P Y ops dr cf Q (⟨t,op,ty,pos,after,some (j,b)⟩::r) ⟨v,m,n⟩ q:=Tv hj hg K
theorem cl{f:FuncId}{gs:List D}{d:D}{t:Nat}(h:aG P f gs d)(K:aj P Y ops dr cf Q r ⟨up v t d,m,n⟩ (q++[([],[])]))(hc:cV (aZ v op) op=some (f,gs):=by exact rfl)(ha:fz v op.operands.toList:=by exact ak):
 aj P Y ops dr cf Q (⟨some t,op,ty,pos,after,none⟩::r) ⟨v,m,n⟩ q:=oF h hc ha K
theorem gc{f:FuncId}{gs:List D}{d:D}{t:Nat}(h:aG P f gs d)(K:aj P Y ops dr cf Q r ⟨up v t (.cu c d),m,n⟩ (q++[([],[])]))(hj:(ops[j]?).bind (·.dst)=some u:=by exact rfl)(hg:jC (v u) b=some c:=by exact rfl)(hl:cV (aZ v op) op=some (f,gs):=by exact rfl)(ha:c=true->fz v op.operands.toList:=by exact fun hc=>ak):
 aj P Y ops dr cf Q (⟨some t,op,ty,pos,after,some (j,b)⟩::r) ⟨v,m,n⟩ q:=xF hj hg hl (fun hc=>⟨ha hc,h⟩) K
theorem J17(K:aj P Y ops dr cf Q r s (q++[e]))(h:SO P Y ops dr x v m n s e:=by intro _ _ _ _ k;exact au (ie (v:=.rs _ _ _) rfl) ak trivial k):aj P Y ops dr cf Q (x::r) ⟨v,m,n⟩ q:=h _ _ _ _ K
theorem J21(K:aj P Y ops dr cf Q r s (q++[e]))(h:SO P Y ops dr x v m n s e:=by intro _ _ _ _ k;exact iE (ab4 V.h) ak V.h k):aj P Y ops dr cf Q (x::r) ⟨v,m,n⟩ q:=h _ _ _ _ K
theorem J23(K:aj P Y ops dr cf Q r s (q++[e]))(h:SO P Y ops dr x v m n s e:=by intro _ _ _ _ k;exact bS rfl rfl (lb (vs:=MD _ _) rfl V.h V.h rfl) (fun hc=>⟨ak,(lc V.h V.h (by simp))⟩) k):aj P Y ops dr cf Q (x::r) ⟨v,m,n⟩ q:=h _ _ _ _ K
theorem J35(K:aj P Y ops dr cf Q r s (q++[e]))(h:SO P Y ops dr x v m n s e:=by intro _ _ _ _ k;exact au (lb (vs:=bc _) rfl V.h V.h rfl) ak (lc V.h V.h (by simp)) k):aj P Y ops dr cf Q (x::r) ⟨v,m,n⟩ q:=h _ _ _ _ K
theorem J47(K:aj P Y ops dr cf Q r s (q++[e]))(h:SO P Y ops dr x v m n s e:=by intro _ _ _ _ k;exact au (ie (v:=.fn _ _ _) rfl) ak trivial k):aj P Y ops dr cf Q (x::r) ⟨v,m,n⟩ q:=h _ _ _ _ K
theorem J55(K:aj P Y ops dr cf Q r s (q++[e]))(h:SO P Y ops dr x v m n s e:=by intro _ _ _ _ k;exact au (xv rfl rfl V.h V.h (Ed) (by assumption)) ak (xx V.h (Ed) (by assumption)) k):aj P Y ops dr cf Q (x::r) ⟨v,m,n⟩ q:=h _ _ _ _ K
theorem J58(K:aj P Y ops dr cf Q r s (q++[e]))(h:SO P Y ops dr x v m n s e:=by intro _ _ _ _ k;exact bS rfl rfl (ie (v:=.sl _ _) rfl) (fun hc=>⟨ak,trivial⟩) k):aj P Y ops dr cf Q (x::r) ⟨v,m,n⟩ q:=h _ _ _ _ K
theorem J74(K:aj P Y ops dr cf Q r s (q++[e]))(h:SO P Y ops dr x v m n s e:=by intro _ _ _ _ k;exact au (dI rfl rfl V.h V.h rfl) ak (dJ V.h V.h (by first|(simp;done)|omega|exact bf rfl)) k):aj P Y ops dr cf Q (x::r) ⟨v,m,n⟩ q:=h _ _ _ _ K
theorem We(K:aj P Y ops dr cf Q r s (q++[e]))(h:SO P Y ops dr x v m n s e:=by intro _ _ _ _ k;exact au (nB rfl rfl rfl V.h V.h) ak ⟨V.h,by omega⟩ k):aj P Y ops dr cf Q (x::r) ⟨v,m,n⟩ q:=h _ _ _ _ K
theorem J81(K:aj P Y ops dr cf Q r s (q++[e]))(h:SO P Y ops dr x v m n s e:=by intro _ _ _ _ k;exact au (lb (vs:=MD _ _) rfl V.h V.h rfl) ak (lc V.h V.h (by simp)) k):aj P Y ops dr cf Q (x::r) ⟨v,m,n⟩ q:=h _ _ _ _ K
theorem Wf(K:aj P Y ops dr cf Q r s (q++[e]))(h:SO P Y ops dr x v m n s e:=by intro _ _ _ _ k;exact bD (di (d:=.s (.bool _)) (cs':=_) rfl rfl rfl rfl rfl) ak (bN V.h V.h (by first|(simp;done)|exact⟨rfl,bf rfl⟩|(simp;omega)) rfl) k):aj P Y ops dr cf Q (x::r) ⟨v,m,n⟩ q:=h _ _ _ _ K
theorem J85(K:aj P Y ops dr cf Q r s (q++[e]))(h:SO P Y ops dr x v m n s e:=by intro _ _ _ _ k;exact iE (te (cs:=MD _ _) rfl) ak (by first|rfl|exact sV dx bG|exact nO _|exact vz gg) k):aj P Y ops dr cf Q (x::r) ⟨v,m,n⟩ q:=h _ _ _ _ K
theorem J86(K:aj P Y ops dr cf Q r s (q++[e]))(h:SO P Y ops dr x v m n s e:=by intro _ _ _ _ k;exact au (Kv rfl rfl yv) ak rfl k):aj P Y ops dr cf Q (x::r) ⟨v,m,n⟩ q:=h _ _ _ _ K
theorem J88(K:aj P Y ops dr cf Q r s (q++[e]))(h:SO P Y ops dr x v m n s e:=by intro _ _ _ _ k;exact bD (eI (cs':=bc _) rfl rfl (ai _ _ _) rfl) ak (bN V.h V.h (by first|(simp;done)|exact⟨rfl,bf rfl⟩|(simp;omega)) (by rfl)) k):aj P Y ops dr cf Q (x::r) ⟨v,m,n⟩ q:=h _ _ _ _ K
theorem WW(K:aj P Y ops dr cf Q r s (q++[e]))(h:SO P Y ops dr x v m n s e:=by intro _ _ _ _ k;exact bS rfl rfl (Kp rfl rfl se) (fun hc=>⟨ak,rfl⟩) k):aj P Y ops dr cf Q (x::r) ⟨v,m,n⟩ q:=h _ _ _ _ K
theorem Wd(K:aj P Y ops dr cf Q r s (q++[e]))(h:SO P Y ops dr x v m n s e:=by intro _ _ _ _ k;exact iE (I1 rfl rfl V.h V.h) ak ⟨by omega,rfl,by omega,by rw[b4];omega,V.h⟩ k):aj P Y ops dr cf Q (x::r) ⟨v,m,n⟩ q:=h _ _ _ _ K
theorem J99(K:aj P Y ops dr cf Q r s (q++[e]))(h:SO P Y ops dr x v m n s e:=by intro _ _ _ _ k;exact bD (eI rfl rfl (ai _ _ _) rfl) ak (bN V.h V.h (by first|(simp;done)|exact⟨rfl,bf rfl⟩|(simp;omega)) (by rfl)) k):aj P Y ops dr cf Q (x::r) ⟨v,m,n⟩ q:=h _ _ _ _ K
theorem ajF(K:aj P Y ops dr cf Q r s (q++[e]))(h:SO P Y ops dr x v m n s e:=by intro _ _ _ _ k;exact au (dI (vs:=bc _) rfl (ai _ _ _) V.h V.h rfl) ak (dJ V.h V.h (by first|(simp;done)|omega|exact bf rfl)) k):aj P Y ops dr cf Q (x::r) ⟨v,m,n⟩ q:=h _ _ _ _ K
theorem Vt(K:aj P Y ops dr cf Q r s (q++[e]))(h:SO P Y ops dr x v m n s e:=by intro _ _ _ _ k;exact bS rfl rfl (SE rfl rfl CQ) (fun hc=>⟨ak,rfl⟩) k):aj P Y ops dr cf Q (x::r) ⟨v,m,n⟩ q:=h _ _ _ _ K
theorem Vm(K:aj P Y ops dr cf Q r s (q++[e]))(h:SO P Y ops dr x v m n s e:=by intro _ _ _ _ k;exact Zr rfl rfl rfl rfl (by first|exact fun _=>trivial|exact fun _=>rfl|exact fun hc=>hc) (by first|exact fun _=>trivial|exact fun _=>rfl|exact fun hc=>hc) k):aj P Y ops dr cf Q (x::r) ⟨v,m,n⟩ q:=h _ _ _ _ K
theorem Vl(K:aj P Y ops dr cf Q r s (q++[e]))(h:SO P Y ops dr x v m n s e:=by intro _ _ _ _ k;exact Zs rfl rfl rfl rfl (by first|exact fun _=>trivial|exact fun _=>rfl|exact fun hc=>hc) (by first|exact fun _=>trivial|exact fun _=>rfl|exact fun hc=>hc) k):aj P Y ops dr cf Q (x::r) ⟨v,m,n⟩ q:=h _ _ _ _ K
theorem amD(K:aj P Y ops dr cf Q r s (q++[e]))(h:SO P Y ops dr x v m n s e:=by intro _ _ _ _ k;exact bS rfl rfl (xv rfl rfl V.h V.h (Ed) (by assumption)) (fun hc=>⟨ak,(xx V.h (Ed) (by assumption))⟩) k):aj P Y ops dr cf Q (x::r) ⟨v,m,n⟩ q:=h _ _ _ _ K
theorem amE(K:aj P Y ops dr cf Q r s (q++[e]))(h:SO P Y ops dr x v m n s e:=by intro _ _ _ _ k;exact au (xv rfl rfl V.h V.h (PH) (by assumption)) ak (xx V.h (PH) (by assumption)) k):aj P Y ops dr cf Q (x::r) ⟨v,m,n⟩ q:=h _ _ _ _ K
theorem ajc(K:aj P Y ops dr cf Q r s (q++[e]))(h:SO P Y ops dr x v m n s e:=by intro _ _ _ _ k;exact bS rfl rfl (dI (vs:=bc _) rfl rfl V.h V.h rfl) (fun hc=>⟨ak,(dJ V.h V.h (by first|(simp;done)|omega|exact bf rfl))⟩) k):aj P Y ops dr cf Q (x::r) ⟨v,m,n⟩ q:=h _ _ _ _ K
theorem amF(K:aj P Y ops dr cf Q r s (q++[e]))(h:SO P Y ops dr x v m n s e:=by intro _ _ _ _ k;exact au (al9 rfl rfl amG) ak rfl k):aj P Y ops dr cf Q (x::r) ⟨v,m,n⟩ q:=h _ _ _ _ K
theorem amH(K:aj P Y ops dr cf Q r s (q++[e]))(h:SO P Y ops dr x v m n s e:=by intro _ _ _ _ k;exact au (lb rfl V.h V.h rfl) ak (lc V.h V.h (by simp)) k):aj P Y ops dr cf Q (x::r) ⟨v,m,n⟩ q:=h _ _ _ _ K
theorem Vj(K:aj P Y ops dr cf Q r s (q++[e]))(h:SO P Y ops dr x v m n s e:=by intro _ _ _ _ k;exact bS rfl rfl (RI rfl rfl) (fun hc=>⟨ak,trivial⟩) k):aj P Y ops dr cf Q (x::r) ⟨v,m,n⟩ q:=h _ _ _ _ K
theorem Vk(K:aj P Y ops dr cf Q r s (q++[e]))(h:SO P Y ops dr x v m n s e:=by intro _ _ _ _ k;exact au (SE rfl rfl CQ) ak rfl k):aj P Y ops dr cf Q (x::r) ⟨v,m,n⟩ q:=h _ _ _ _ K
theorem aiU(K:aj P Y ops dr cf Q r s (q++[e]))(h:SO P Y ops dr x v m n s e:=by intro _ _ _ _ k;exact au (zX rfl rfl) ak V.h k):aj P Y ops dr cf Q (x::r) ⟨v,m,n⟩ q:=h _ _ _ _ K
theorem amI(K:aj P Y ops dr cf Q r s (q++[e]))(h:SO P Y ops dr x v m n s e:=by intro _ _ _ _ k;exact au (ad3 rfl rfl) ak ⟨V.h,by omega,by omega⟩ k):aj P Y ops dr cf Q (x::r) ⟨v,m,n⟩ q:=h _ _ _ _ K
theorem amJ(K:aj P Y ops dr cf Q r s (q++[e]))(h:SO P Y ops dr x v m n s e:=by intro _ _ _ _ k;exact bS rfl rfl (ad3 rfl rfl) (fun hc=>⟨ak,⟨V.h,by omega,by omega⟩⟩) k):aj P Y ops dr cf Q (x::r) ⟨v,m,n⟩ q:=h _ _ _ _ K
theorem amK(K:aj P Y ops dr cf Q r s (q++[e]))(h:SO P Y ops dr x v m n s e:=by intro _ _ _ _ k;exact bS rfl rfl (KO rfl rfl oG) (fun hc=>⟨ak,rfl⟩) k):aj P Y ops dr cf Q (x::r) ⟨v,m,n⟩ q:=h _ _ _ _ K
theorem Vi(K:aj P Y ops dr cf Q r s (q++[e]))(h:SO P Y ops dr x v m n s e:=by intro _ _ _ _ k;exact bD (eI (cs':=aF _) rfl rfl rfl rfl) ak (bN V.h V.h (by first|(simp;done)|exact⟨rfl,bf rfl⟩|(simp;omega)) (by rfl)) k):aj P Y ops dr cf Q (x::r) ⟨v,m,n⟩ q:=h _ _ _ _ K
theorem amL(K:aj P Y ops dr cf Q r s (q++[e]))(h:SO P Y ops dr x v m n s e:=by intro _ _ _ _ k;exact bS rfl rfl (dI (vs:=bE _) rfl rfl V.h V.h rfl) (fun hc=>⟨ak,(dJ V.h V.h (by first|(simp;done)|omega|exact bf rfl))⟩) k):aj P Y ops dr cf Q (x::r) ⟨v,m,n⟩ q:=h _ _ _ _ K
theorem aje(K:aj P Y ops dr cf Q r s (q++[e]))(h:SO P Y ops dr x v m n s e:=by intro _ _ _ _ k;exact au (RI rfl rfl) ak trivial k):aj P Y ops dr cf Q (x::r) ⟨v,m,n⟩ q:=h _ _ _ _ K
theorem ajg(K:aj P Y ops dr cf Q r s (q++[e]))(h:SO P Y ops dr x v m n s e:=by intro _ _ _ _ k;exact bS rfl rfl (dI rfl rfl V.h V.h rfl) (fun hc=>⟨ak,(dJ V.h V.h (by first|(simp;done)|omega|exact bf rfl))⟩) k):aj P Y ops dr cf Q (x::r) ⟨v,m,n⟩ q:=h _ _ _ _ K
theorem U'(K:aj P Y ops dr cf Q r s (q++[e]))(h:SO P Y ops dr x v m n s e:=by intro _ _ _ _ k;exact iE (adg rfl rfl V.h V.h (sT (ai _ _ _) rfl)) ak ⟨V.h,(by first|omega|exact bf rfl|(simp;done)|(simp;omega)),(by decide),(by unfold maxLen;first|omega|(simp;omega)),(by rw[b3];first|omega|(simp;omega))⟩ k):aj P Y ops dr cf Q (x::r) ⟨v,m,n⟩ q:=h _ _ _ _ K
theorem Va(K:aj P Y ops dr cf Q r s (q++[e]))(h:SO P Y ops dr x v m n s e:=by intro _ _ _ _ k;exact lZ (lN rfl (ah oG bM) rfl V.h V.h (sT (ai _ _ _) rfl) rfl) ak ⟨V.h,rfl,(by first|omega|exact bf rfl|(simp;done)|(simp;omega)),(by decide),(by first|rfl|(simp;done)|(simp;omega)),(by unfold maxLen;first|omega|(simp;omega)),(by rw[b3];first|omega|(simp;omega)),(by first|(simp;done)|(simp;omega))⟩ k):aj P Y ops dr cf Q (x::r) ⟨v,m,n⟩ q:=h _ _ _ _ K
theorem aiL(K:aj P Y ops dr cf Q r s (q++[e]))(h:SO P Y ops dr x v m n s e:=by intro _ _ _ _ k;exact bS rfl rfl (Sj rfl rfl AL) (fun hc=>⟨ak,rfl⟩) k):aj P Y ops dr cf Q (x::r) ⟨v,m,n⟩ q:=h _ _ _ _ K
theorem UX(K:aj P Y ops dr cf Q r s (q++[e]))(h:SO P Y ops dr x v m n s e:=by intro _ _ _ _ k;exact bD (eI (cs':=bc _) rfl rfl rfl rfl) ak (bN V.h V.h (by first|(simp;done)|exact⟨rfl,bf rfl⟩|(simp;omega)) (by rfl)) k):aj P Y ops dr cf Q (x::r) ⟨v,m,n⟩ q:=h _ _ _ _ K
theorem amM(K:aj P Y ops dr cf Q r s (q++[e]))(h:SO P Y ops dr x v m n s e:=by intro _ _ _ _ k;exact au (dI rfl (ai _ _ _) V.h V.h rfl) ak (dJ V.h V.h (by first|(simp;done)|omega|exact bf rfl)) k):aj P Y ops dr cf Q (x::r) ⟨v,m,n⟩ q:=h _ _ _ _ K
variable{rf:Bool}{W:Exit->St->Prop}{o:Array Oper}{B:Code}{i:Nat}{k:St}
theorem ws[dt Y](h:aj P Y o false [] (eX fun k=>AW P Y rf B W k) o.toList k []):AW P Y rf (.seq (.region i o false) B) W k:=ap h
theorem er[dt Y](h:aj P Y o false [] (eX fun k=>AW P Y rf B W k) o.toList k []):aj P Y ops dr [] (eX fun k=>AW P Y rf (.seq (.region i o false) B) W k) [] k q:=aa (ap h)
end
end Go.Abs
theorem eH{p:Prop}(h:p:=by repeat' (first|exact trivial|exact rfl|refine And.intro ?_ ?_)):p:=h
namespace Go.Proofs.Tryz.K
open Go.Abs
theorem kR{α:Sort _}{a b:α}(h:a=b:=by kernel_rfl):a=b:=h
instance:V (prog.cellsOf 1) 1:=⟨kR⟩
instance:V (bq prog 1) false:=⟨a1⟩
instance:V (aB prog 1) true:=⟨t1⟩
instance:V (prog.bytesOf 1) 8:=⟨b1⟩
instance:V (prog.cellsOf 2) 1:=⟨kR⟩
instance:V (prog.bytesOf 2) 8:=⟨b2⟩
instance:V (bq prog 2) false:=⟨a2⟩
instance:V (aB prog 2) true:=⟨t2⟩
instance:V (aV prog 2) [.s (.int .i64 0)]:=⟨z2⟩
instance:V (prog.cellsOf 3) 1:=⟨c3⟩
instance:V (prog.bytesOf 3) 8:=⟨b3⟩
instance:V (bq prog 3) false:=⟨a3⟩
instance:V (aB prog 3) true:=⟨t3⟩
instance:V (aV prog 3) [.s (.int .i64 0)]:=⟨z3⟩
instance:V (prog.cellsOf 4) 1:=⟨c4⟩
instance:V (prog.bytesOf 4) 1:=⟨b4⟩
instance:V (bq prog 4) false:=⟨a4⟩
instance:V (aB prog 4) true:=⟨t4⟩
instance:V (aV prog 4) [.s (.bool false)]:=⟨z4⟩
instance:V (ss prog 4) true:=⟨kR⟩
instance:V (prog.cellsOf 5) 1:=⟨c5⟩
instance:V (prog.bytesOf 5) 1:=⟨b5⟩
instance:V (bq prog 5) false:=⟨a5⟩
instance:V (aB prog 5) true:=⟨t5⟩
instance:V (aV prog 5) [.s (.int .u8 0)]:=⟨z5⟩
instance:V (prog.bytesOf 6) 1:=⟨b6⟩
instance:V (prog.bytesOf 7) 24:=⟨b7⟩
instance:V (prog.bytesOf 8) 24:=⟨b8⟩
instance:V (prog.cellsOf 9) 1:=⟨c9⟩
instance:V (prog.bytesOf 9) 16:=⟨b9⟩
instance:V (bq prog 9) false:=⟨a9⟩
instance:V (aB prog 9) true:=⟨t9⟩
instance:V (aV prog 9) [.s (.string "".toUTF8)]:=⟨z9⟩
instance:V (eN prog 9) true:=⟨kR⟩
instance:V (prog.bytesOf 10) 16:=⟨k9⟩
instance:V (aq prog 15) 381:=⟨NV⟩
instance:V (aq prog 16) 384:=⟨NW⟩
instance:V (aq prog 17) 392:=⟨NR⟩
instance:V (prog.cellsOf 22) 1:=⟨Ny⟩
instance:V (bq prog 22) false:=⟨kR⟩
instance:V (aB prog 22) true:=⟨t22⟩
instance:V (aq prog 22) 5:=⟨Nr⟩
instance:V (aW prog 22) true:=⟨CN⟩
instance:V (prog.cellsOf 23) 1:=⟨Wn⟩
instance:V (bq prog 23) false:=⟨kR⟩
instance:V (aB prog 23) true:=⟨t23⟩
instance:V (aq prog 23) 9:=⟨y4⟩
instance:V (aW prog 23) true:=⟨CO⟩
instance:V (prog.cellsOf 24) 1:=⟨Wo⟩
instance:V (bq prog 24) false:=⟨kR⟩
instance:V (aB prog 24) true:=⟨t24⟩
instance:V (aq prog 24) 69:=⟨Ns⟩
instance:V (aW prog 24) true:=⟨Mm⟩
instance:V (prog.cellsOf 26) 8:=⟨jT⟩
instance:V (bq prog 26) true:=⟨sH⟩
instance:V (aB prog 26) true:=⟨t26⟩
instance:V (aV prog 26) [.s (.string "".toUTF8),.s (.bool false),.s (.int .i64 0),.s (.int .u8 0),.z,.z,.z,.z]:=⟨kR⟩
instance:V (cJ prog 26 0) (some (0,9)):=⟨kR⟩
instance:V (cJ prog 26 1) (some (1,4)):=⟨kR⟩
instance:V (cJ prog 26 2) (some (2,3)):=⟨kR⟩
instance:V (cJ prog 26 3) (some (3,5)):=⟨kR⟩
instance:V (cJ prog 26 4) (some (4,22)):=⟨kR⟩
instance:V (cJ prog 26 5) (some (5,22)):=⟨kR⟩
instance:V (cJ prog 26 6) (some (6,23)):=⟨kR⟩
instance:V (cJ prog 26 7) (some (7,24)):=⟨kR⟩
instance:V (bq prog 31) false:=⟨a31⟩
instance:V (aB prog 31) true:=⟨t31⟩
instance:V (aV prog 31) [.z]:=⟨z31⟩
instance:V (aq prog 31) 26:=⟨DT⟩
instance:V (prog.cellsOf 35) 1:=⟨qX⟩
instance:V (prog.bytesOf 35) 24:=⟨WH⟩
instance:V (bq prog 35) false:=⟨DJ⟩
instance:V (aB prog 35) true:=⟨t35⟩
instance:V (aV prog 35) [.z]:=⟨kR⟩
instance:V (aq prog 35) 3:=⟨DG⟩
instance:V (aW prog 35) true:=⟨Mt⟩
instance:V (bq prog 37) true:=⟨a37⟩
instance:V (aB prog 37) true:=⟨t37⟩
instance:V (aV prog 37) [.s (.int .u8 0),.s (.int .i64 0)]:=⟨z37⟩
instance:V (prog.cellsOf 45) 6:=⟨jS⟩
instance:V (prog.bytesOf 45) 64:=⟨Nq⟩
instance:V (bq prog 45) true:=⟨ui⟩
instance:V (aB prog 45) true:=⟨t45⟩
instance:V (aV prog 45) [.s (.int .u8 0),.s (.int .i64 0),.s (.int .i64 0),.s (.int .i64 0),.s (.int .i64 0),.z]:=⟨kR⟩
instance:V (cJ prog 45 0) (some (0,5)):=⟨kR⟩
instance:V (cJ prog 45 1) (some (1,3)):=⟨kR⟩
instance:V (cJ prog 45 2) (some (2,3)):=⟨kR⟩
instance:V (cJ prog 45 3) (some (3,3)):=⟨kR⟩
instance:V (cJ prog 45 4) (some (4,3)):=⟨kR⟩
instance:V (cJ prog 45 5) (some (5,35)):=⟨kR⟩
instance:V (prog.cellsOf 46) 1:=⟨HM⟩
instance:V (bq prog 46) false:=⟨a46⟩
instance:V (aB prog 46) true:=⟨t46⟩
instance:V (aV prog 46) [.z]:=⟨z46⟩
instance:V (aq prog 46) 82:=⟨Wg⟩
instance:V (aW prog 46) true:=⟨GX⟩
instance:V (prog.cellsOf 48) 15:=⟨kR⟩
instance:V (bq prog 48) true:=⟨kR⟩
instance:V (aB prog 48) true:=⟨kR⟩
instance:V (aV prog 48) [.s (.int .u8 0),.s (.int .i64 0),.s (.int .i64 0),.s (.int .i64 0),.s (.int .i64 0),.s (.string "".toUTF8),.s (.int .u8 0),.s (.int .i64 0),.s (.int .i64 0),.s (.int .i64 0),.s (.int .i64 0),.z,.z,.z,.s (.int .i64 0)]:=⟨kR⟩
instance:V (cJ prog 48 0) (some (0,5)):=⟨kR⟩
instance:V (cJ prog 48 1) (some (1,3)):=⟨kR⟩
instance:V (cJ prog 48 2) (some (2,3)):=⟨kR⟩
instance:V (cJ prog 48 3) (some (3,3)):=⟨kR⟩
instance:V (cJ prog 48 4) (some (4,3)):=⟨kR⟩
instance:V (cJ prog 48 5) (some (5,9)):=⟨kR⟩
instance:V (cJ prog 48 6) (some (6,45)):=⟨kR⟩
instance:V (cJ prog 48 7) (some (12,35)):=⟨kR⟩
instance:V (cJ prog 48 8) (some (13,46)):=⟨kR⟩
instance:V (cJ prog 48 9) (some (14,3)):=⟨kR⟩
instance:V (bq prog 51) false:=⟨a51⟩
instance:V (aB prog 51) true:=⟨t51⟩
instance:V (aV prog 51) [.s .nilFunc]:=⟨z51⟩
instance:V (bq prog 53) false:=⟨a53⟩
instance:V (aB prog 53) true:=⟨t53⟩
instance:V (aV prog 53) [.s .nilFunc]:=⟨z53⟩
instance:V (aq prog 63) 4:=⟨kR⟩
instance:V (aW prog 63) true:=⟨kR⟩
instance:V (prog.cellsOf 67) 1:=⟨wH⟩
instance:V (bq prog 67) false:=⟨DI⟩
instance:V (aB prog 67) true:=⟨t67⟩
instance:V (aq prog 67) 45:=⟨Np⟩
instance:V (aW prog 67) true:=⟨Mi⟩
instance:V (prog.cellsOf 69) 16:=⟨sG⟩
instance:V (prog.bytesOf 69) 200:=⟨Nt⟩
instance:V (bq prog 69) true:=⟨HI⟩
instance:V (aB prog 69) true:=⟨t69⟩
instance:V (aV prog 69) [.z,.s (.int .u8 0),.s (.int .i64 0),.s (.int .i64 0),.s (.int .i64 0),.s (.int .i64 0),.s (.string "".toUTF8),.s (.int .u8 0),.s (.int .i64 0),.s (.int .i64 0),.s (.int .i64 0),.s (.int .i64 0),.z,.z,.z,.s (.int .i64 0)]:=⟨kR⟩
instance:V (cJ prog 69 0) (some (0,67)):=⟨kR⟩
instance:V (cJ prog 69 1) (some (1,48)):=⟨kR⟩
instance:V (bq prog 70) false:=⟨a70⟩
instance:V (aB prog 70) true:=⟨t70⟩
instance:V (aV prog 70) [.s .nilFunc]:=⟨z70⟩
instance:V (bq prog 72) false:=⟨a72⟩
instance:V (aB prog 72) true:=⟨t72⟩
instance:V (aV prog 72) [.s .nilFunc]:=⟨z72⟩
instance:V (bq prog 75) false:=⟨a75⟩
instance:V (aB prog 75) true:=⟨t75⟩
instance:V (aV prog 75) [.s .nilFunc]:=⟨z75⟩
instance:V (bq prog 76) false:=⟨a76⟩
instance:V (aB prog 76) true:=⟨t76⟩
instance:V (aV prog 76) [.s .nilFunc]:=⟨z76⟩
instance:V (prog.cellsOf 82) 2:=⟨HH⟩
instance:V (prog.bytesOf 82) 24:=⟨Wh⟩
instance:V (bq prog 82) true:=⟨kR⟩
instance:V (aB prog 82) true:=⟨t82⟩
instance:V (aV prog 82) [.s (.string "".toUTF8),.s (.int .i64 0)]:=⟨kR⟩
instance:V (cJ prog 82 0) (some (0,9)):=⟨kR⟩
instance:V (cJ prog 82 1) (some (1,3)):=⟨kR⟩
instance:V (prog.cellsOf 91) 1:=⟨kR⟩
instance:V (bq prog 91) false:=⟨kR⟩
instance:V (aB prog 91) true:=⟨kR⟩
instance:V (prog.cellsOf 93) 10:=⟨WV⟩
instance:V (bq prog 93) true:=⟨a93⟩
instance:V (aB prog 93) true:=⟨t93⟩
instance:V (aV prog 93) [.s (.string "".toUTF8),.s (.bool false),.s (.int .i64 0),.s (.int .u8 0),.z,.z,.z,.z,.s (.map none),.s (.map none)]:=⟨kR⟩
instance:V (cJ prog 93 0) (some (0,26)):=⟨kR⟩
instance:V (cJ prog 93 1) (some (8,91)):=⟨kR⟩
instance:V (cJ prog 93 2) (some (9,91)):=⟨kR⟩
instance:V (aq prog 96) 35:=⟨kR⟩
instance:V (aW prog 96) true:=⟨kR⟩
instance:V (bq prog 127) false:=⟨a127⟩
instance:V (aB prog 127) true:=⟨t127⟩
instance:V (aV prog 127) [.z]:=⟨z127⟩
instance:V (prog.cellsOf 158) 2:=⟨kR⟩
instance:V (cJ prog 158 1) (some (1,22)):=⟨kR⟩
instance:V (prog.cellsOf 160) 2:=⟨kR⟩
instance:V (aB prog 160) true:=⟨kR⟩
instance:V (aV prog 160) [.s (.pointer none),.z]:=⟨kR⟩
instance:V (cJ prog 160 0) (some (0,158)):=⟨kR⟩
instance:V (bq prog 164) false:=⟨a164⟩
instance:V (aB prog 164) true:=⟨t164⟩
instance:V (aV prog 164) [.s .nilFunc]:=⟨z164⟩
instance:V (bq prog 171) false:=⟨a171⟩
instance:V (aB prog 171) true:=⟨t171⟩
instance:V (aV prog 171) [.s .nilFunc]:=⟨z171⟩
instance:V (bq prog 173) true:=⟨a173⟩
instance:V (aB prog 173) true:=⟨t173⟩
instance:V (aV prog 173) []:=⟨z173⟩
instance:V (aq prog 196) 201:=⟨kR⟩
instance:V (aW prog 196) true:=⟨kR⟩
instance:V (prog.cellsOf 199) 1:=⟨kR⟩
instance:V (bq prog 199) false:=⟨kR⟩
instance:V (aB prog 199) true:=⟨kR⟩
instance:V (prog.cellsOf 201) 20:=⟨qJ⟩
instance:V (prog.bytesOf 201) 160:=⟨Vn⟩
instance:V (bq prog 201) true:=⟨a201⟩
instance:V (aB prog 201) true:=⟨t201⟩
instance:V (aV prog 201) [.s (.int .u64 0),.s (.int .u64 0),.s (.int .u64 0),.s (.int .u64 0),.s (.int .u64 0),.s (.int .u64 0),.s (.int .u64 0),.s (.int .u64 0),.s (.int .u64 0),.s (.int .u64 0),.s (.int .u64 0),.s (.int .u64 0),.s (.int .u64 0),.s (.int .u64 0),.s (.int .u64 0),.s (.int .u64 0),.s (.int .u64 0),.s (.int .u64 0),.s (.int .u64 0),.s (.int .u64 0)]:=⟨z201⟩
instance:V (aq prog 201) 199:=⟨kR⟩
instance:V (nb prog 201) true:=⟨kR⟩
instance:V (nM prog 201) 20:=⟨kR⟩
instance:V (bq prog 212) false:=⟨a212⟩
instance:V (aB prog 212) true:=⟨t212⟩
instance:V (aV prog 212) [.s .nilFunc]:=⟨z212⟩
instance:V (bq prog 213) false:=⟨a213⟩
instance:V (aB prog 213) true:=⟨t213⟩
instance:V (aV prog 213) [.s (.map none)]:=⟨z213⟩
instance:V (bq prog 233) false:=⟨a233⟩
instance:V (aB prog 233) true:=⟨t233⟩
instance:V (aV prog 233) [.s .nilFunc]:=⟨z233⟩
instance:V (prog.cellsOf 235) 6:=⟨kR⟩
instance:V (bq prog 235) true:=⟨yp⟩
instance:V (aB prog 235) true:=⟨kR⟩
instance:V (aV prog 235) [.s (.int .i64 0),.s (.int .i64 0),.s (.int .i64 0),.s (.int .i64 0),.s (.int .i64 0),.s (.int .i64 0)]:=⟨yq⟩
instance:V (cJ prog 235 0) (some (0,3)):=⟨kR⟩
instance:V (cJ prog 235 1) (some (1,3)):=⟨kR⟩
instance:V (cJ prog 235 2) (some (2,3)):=⟨kR⟩
instance:V (cJ prog 235 3) (some (3,3)):=⟨kR⟩
instance:V (cJ prog 235 4) (some (4,3)):=⟨kR⟩
instance:V (cJ prog 235 5) (some (5,3)):=⟨kR⟩
instance:V (prog.underlying 2) (some (.int .i64)):=⟨kR⟩
instance:V (prog.underlying 3) (some (.int .i64)):=⟨kR⟩
instance:V (prog.underlying 5) (some (.int .u8)):=⟨u5⟩
instance:V (prog.underlying 8) (some (.struct (iB prog 8))):=⟨u8⟩
instance:V (prog.underlying 22) (some (.slice 5)):=⟨kR⟩
instance:V (prog.underlying 26) (some (.struct (iB prog 26))):=⟨kR⟩
instance:V (((iB prog 26).toList.map fun f=>(f.offset,prog.cellsOf f.type))) [(0,1),(1,1),(2,1),(3,1),(4,1),(5,1),(6,1),(7,1)]:=⟨kR⟩
instance:V (((iB prog 26).toList.all fun f=>(prog.info? f.type).isSome)) true:=⟨kR⟩
instance:V (prog.underlying 45) (some (.struct (iB prog 45))):=⟨kR⟩
instance:V (((iB prog 45).toList.map fun f=>(f.offset,prog.cellsOf f.type))) [(0,1),(1,1),(2,1),(3,1),(4,1),(5,1)]:=⟨kR⟩
instance:V (((iB prog 45).toList.all fun f=>(prog.info? f.type).isSome)) true:=⟨kR⟩
instance:V (prog.underlying 62) (some (.int .u64)):=⟨kR⟩
instance:V (prog.underlying 69) (some (.struct (iB prog 69))):=⟨kR⟩
instance:V (((iB prog 69).toList.map fun f=>(f.offset,prog.cellsOf f.type))) [(0,1),(1,15)]:=⟨kR⟩
instance:V (((iB prog 69).toList.all fun f=>(prog.info? f.type).isSome)) true:=⟨kR⟩
instance:V (prog.underlying 82) (some (.struct (iB prog 82))):=⟨kR⟩
instance:V (((iB prog 82).toList.map fun f=>(f.offset,prog.cellsOf f.type))) [(0,1),(1,1)]:=⟨kR⟩
instance:V (((iB prog 82).toList.all fun f=>(prog.info? f.type).isSome)) true:=⟨kR⟩
instance:V (fT prog 91) 5:=⟨kR⟩
instance:V (iX prog 91) true:=⟨kR⟩
instance:V (qE prog 91) 235:=⟨yo⟩
instance:V (prog.underlying 93) (some (.struct (iB prog 93))):=⟨kR⟩
instance:V (((iB prog 93).toList.map fun f=>(f.offset,prog.cellsOf f.type))) [(0,8),(8,1),(9,1)]:=⟨kR⟩
instance:V (((iB prog 93).toList.all fun f=>(prog.info? f.type).isSome)) true:=⟨kR⟩
instance:V (prog.underlying 160) (some (.struct (iB prog 160))):=⟨kR⟩
instance:V (((iB prog 160).toList.map fun f=>(f.offset,prog.cellsOf f.type))) [(0,2)]:=⟨kR⟩
instance:V (((iB prog 160).toList.all fun f=>(prog.info? f.type).isSome)) true:=⟨kR⟩
instance:V (fT prog 193) 3:=⟨Lf⟩
instance:V (iX prog 193) true:=⟨Lg⟩
instance:V (prog.underlying 235) (some (.struct (iB prog 235))):=⟨kR⟩
instance:V (((iB prog 235).toList.map fun f=>(f.offset,prog.cellsOf f.type))) [(0,1),(1,1),(2,1),(3,1),(4,1),(5,1)]:=⟨kR⟩
instance:V (((iB prog 235).toList.all fun f=>(prog.info? f.type).isSome)) true:=⟨kR⟩
end Go.Proofs.Tryz.K
namespace Go.Abs
open Go.Argus
section
variable{P:Program}{Y:fm}{ops:Array Oper}{dr:Bool}{cf:List (Nat×Nat)}{Q:Exit->St->Prop}{r:List Oper}{v:Env}{m:Mem}{n:Nat}{q:kO}{x:Oper}{s:St}{e:List Nat×List Nat}
theorem kV{p:Prop}(h:p:=by first|rfl|exact bf rfl|(simp;done)|(simp;omega)|omega):p:=h
theorem qV{p:Prop}(h:p:=by first|(simp;done)|exact⟨rfl,bf rfl⟩|(simp;omega)):p:=h
theorem Nn{p:Prop}(h:p:=by first|rfl|exact nO _|(simp[nO];done)|exact aa6):p:=h
theorem HF{p:Prop}(h:p:=by first|(simp;done)|omega|exact bf rfl):p:=h
theorem sE{p:Prop}(h:p:=by first|(simp;done)|fail):p:=h
theorem yY{p:Prop}(h:p:=by first|decide|simp):p:=h
def oT(x:Oper):Nat:=2*(match x.op with
 | .move ..=>1
 | .assign ..=>2
 | .pick ..=>3
 | .alloc ..=>4
 | .box ..=>5
 | .build ..=>6
 | .buildSlice ..=>7
 | .insert ..=>8
 | .load ..=>9
 | .store ..=>10
 | .nilCheck ..=>11
 | .unOp ..=>12
 | .convert ..=>13
 | .makeFunc ..=>14
 | .makeMap ..=>15
 | .makeSlice ..=>16
 | .slice ..=>17
 | .fieldAddr ..=>18
 | .field ..=>19
 | .indexAddr ..=>20
 | .index ..=>21
 | .lookup ..=>22
 | .mapUpdate ..=>23
 | .extract ..=>24
 | .call ..=>25
 | .binOp .add ..=>26
 | .binOp .sub ..=>27
 | .binOp .mul ..=>28
 | .binOp .quo ..=>29
 | .binOp .rem ..=>30
 | .binOp .and ..=>31
 | .binOp .or ..=>32
 | .binOp .xor ..=>33
 | .binOp .shl ..=>34
 | .binOp .shr ..=>35
 | .binOp .andNot ..=>36
 | .binOp .eql ..=>37
 | .binOp .neq ..=>38
 | .binOp .lss ..=>39
 | .binOp .leq ..=>40
 | .binOp .gtr ..=>41
 | .binOp .geq ..=>42
 |_=>0)+(match x.guard with
 |none=>0
 |_=>1)
theorem SS2(ht:oT x=2:=by exact rfl)(h:SO P Y ops dr x v m n s e:=by intro _ _ _ _ k;first|exact au (ie (v:=.s (.int _ _)) rfl) ak trivial k|exact au (ie (v:=.s (.bool _)) rfl) ak trivial k|exact au (ie (v:=.sl _ _) rfl) ak trivial k|exact au (ie (v:=.rs _ _ _) rfl) ak trivial k|exact au (ie (v:=.rp _ _) rfl) ak trivial k|exact au (ie (v:=.fn _ _ _) rfl) ak trivial k|exact au (ie (v:=.s (.string _)) rfl) ak trivial k|exact au (ie (v:=_) rfl) ak trivial k|exact au (ie (v:=.mp _) rfl) ak trivial k|exact au (ie (v:=.im _) rfl) ak trivial k|fail):SO P Y ops dr x v m n s e:=h
theorem SS4(ht:oT x=4:=by exact rfl)(h:SO P Y ops dr x v m n s e:=by intro _ _ _ _ k;first|exact au (ns (v:=.s (.bool _)) rfl) ak trivial k|exact au (ns (v:=.s (.int _ _)) rfl) ak trivial k|exact au (ns (v:=.sl _ _) rfl) ak trivial k|exact au (ns (v:=.rs _ _ _) rfl) ak trivial k|exact au (ns (v:=.z) rfl) ak trivial k|exact au (ns (v:=.s (.string _)) rfl) ak trivial k|exact au (ns (v:=.mp _) rfl) ak trivial k|exact au (ns (v:=.im _) rfl) ak trivial k|exact au (ns (v:=.rp _ _) rfl) ak trivial k|exact au (ns (v:=_) rfl) ak trivial k|fail):SO P Y ops dr x v m n s e:=h
theorem ahH(ht:oT x=18:=by exact rfl)(h:SO P Y ops dr x v m n s e:=by intro _ _ _ _ k;first|exact au (lb (vs:=aF _) rfl V.h V.h rfl) ak (lc V.h V.h sE) k|exact au (lb (vs:=bc _) rfl V.h V.h rfl) ak (lc V.h V.h sE) k|exact au (lb (vs:=bE _) rfl V.h V.h rfl) ak (lc V.h V.h sE) k|exact au (lb (vs:=bd _ _ _) rfl V.h V.h rfl) ak (lc V.h V.h sE) k|exact au (lb (vs:=bi _) rfl V.h V.h rfl) ak (lc V.h V.h sE) k|exact au (dI rfl rfl V.h V.h (mK kV)) ak (dJ V.h V.h kV) k|exact au (lb (vs:=dQ _) rfl V.h V.h rfl) ak (lc V.h V.h sE) k|exact au (dI (vs:=bc _) rfl rfl V.h V.h rfl) ak (dJ V.h V.h HF) k|exact au (dI (vs:=bc _) rfl (ai _ _ _) V.h V.h rfl) ak (dJ V.h V.h HF) k|exact au (dI (vs:=bE _) rfl rfl V.h V.h rfl) ak (dJ V.h V.h HF) k|exact au (dI (vs:=bi _) rfl (ai _ _ _) V.h V.h rfl) ak (dJ V.h V.h HF) k|exact au (dI rfl (ah oG rfl) V.h V.h (mK kV)) ak (dJ V.h V.h kV) k|exact au (RK rfl V.h) ak (RO V.h V.h) k|exact au (fQ rfl rfl kd V.h) ak (fR V.h V.h kd) k|exact au (fQ rfl af kd V.h) ak (fR V.h V.h kd) k|exact au (fQ rfl (ai _ _ _) kd V.h) ak (fR V.h V.h kd) k|exact au (fQ rfl rfl rfl V.h) ak (fR V.h V.h rfl) k|exact au (fQ rfl af rfl V.h) ak (fR V.h V.h rfl) k|fail):SO P Y ops dr x v m n s e:=h
theorem ahI(ht:oT x=36:=by exact rfl)(h:SO P Y ops dr x v m n s e:=by intro _ _ _ _ k;first|exact au (QO rfl V.h) ak (lP V.h) k|exact au (nt rfl rfl V.h) ak (lP V.h) k|exact au (nt rfl af V.h) ak (lP V.h) k|exact au (nt rfl bM V.h) ak (lP V.h) k|fail):SO P Y ops dr x v m n s e:=h
theorem ahJ(ht:oT x=19:=by exact rfl)(h:SO P Y ops dr x v m n s e:=by intro _ _ _ _ k;first|exact bS rfl rfl (RK rfl V.h) (fun hc=>⟨ak,(RO V.h V.h)⟩) k|exact bS rfl rfl (lb (vs:=bd _ _ _) rfl V.h V.h rfl) (fun hc=>⟨ak,(lc V.h V.h sE)⟩) k|exact bS rfl rfl (fQ rfl rfl rfl V.h) (fun hc=>⟨ak,(fR V.h V.h rfl)⟩) k|exact bS rfl rfl (lb (vs:=bE _) rfl V.h V.h rfl) (fun hc=>⟨ak,(lc V.h V.h sE)⟩) k|exact bS rfl rfl (lb (vs:=bc _) rfl V.h V.h rfl) (fun hc=>⟨ak,(lc V.h V.h sE)⟩) k|exact bS rfl rfl (fQ rfl (ai _ _ _) rfl V.h) (fun hc=>⟨ak,(fR V.h V.h rfl)⟩) k|exact bS rfl rfl (dI rfl (ah oG rfl) V.h V.h (mK kV)) (fun hc=>⟨ak,(dJ V.h V.h kV)⟩) k|exact bS rfl rfl (lb (vs:=aF _) rfl V.h V.h rfl) (fun hc=>⟨ak,(lc V.h V.h sE)⟩) k|fail):SO P Y ops dr x v m n s e:=h
theorem SS6(ht:oT x=6:=by exact rfl)(h:SO P Y ops dr x v m n s e:=by intro _ _ _ _ k;first|exact aa1 rfl rfl (by first|exact trivial|exact rfl) k|exact aa2 rfl rfl (by first|exact trivial|exact rfl) k|exact acz rfl rfl rfl (fun h=>by first|exact trivial|exact rfl|exact h|(show Eq _ _;rw[h];rfl)|(show Eq _ _;simp[h];done)|(show Eq _ _;simp_all;done)|fail) (fun h=>by first|exact trivial|exact rfl|exact h|(show Eq _ _;rw[h];rfl)|(show Eq _ _;simp[h];done)|(show Eq _ _;simp_all;done)|fail) k|fail):SO P Y ops dr x v m n s e:=h
theorem ahK(ht:oT x=37:=by exact rfl)(h:SO P Y ops dr x v m n s e:=by intro _ _ _ _ k;first|exact bS rfl rfl (QO rfl V.h) (fun hc=>⟨ak,(lP V.h)⟩) k|exact bS rfl rfl (nt rfl rfl V.h) (fun hc=>⟨ak,(lP V.h)⟩) k|exact bS rfl rfl (nt rfl (ai _ _ _) V.h) (fun hc=>⟨ak,(lP V.h)⟩) k|fail):SO P Y ops dr x v m n s e:=h
theorem ahM(ht:oT x=20:=by exact rfl)(h:SO P Y ops dr x v m n s e:=by intro _ _ _ _ k;first|exact bD (di (d:=.s (.int _ _)) (cs':=_) rfl rfl rfl rfl rfl) ak (bN V.h V.h qV rfl) k|exact bD (eI (cs':=bi _) rfl rfl (ai _ _ _) rfl) ak (bN V.h V.h qV (by rfl)) k|exact bD (di (d:=.s (.string _)) (cs':=_) rfl rfl rfl rfl rfl) ak (bN V.h V.h qV rfl) k|exact bD (eI rfl rfl rfl (JF kV kV)) ak (BN kV kV Nn) k|exact bD (di (d:=.sl _ _) (cs':=_) rfl rfl rfl rfl rfl) ak (bN V.h V.h qV rfl) k|exact bD (di (d:=.z) (cs':=_) rfl rfl rfl rfl rfl) ak (bN V.h V.h qV rfl) k|exact bD (eI (cs':=dA _) rfl rfl rfl rfl) ak (bN V.h V.h qV (by rfl)) k|exact bD (eI rfl rfl (ai _ _ _) (JF kV kV)) ak (BN kV kV Nn) k|exact bD (eI (cs':=bE _) rfl rfl (ai _ _ _) rfl) ak (bN V.h V.h qV (by rfl)) k|exact bD (eI (cs':=dQ _) rfl rfl (ai _ _ _) rfl) ak (bN V.h V.h qV (by rfl)) k|exact bD (di (d:=.s (.int _ _)) (cs':=_) rfl rfl (ai _ _ _) rfl rfl) ak (bN V.h V.h qV rfl) k|exact bD (eI rfl rfl (ah oG rfl) (JF kV kV)) ak (BN kV kV Nn) k|exact bD (eI rfl rfl rfl (Tw (by decide) (by assumption) (by assumption) (by first|assumption|(simp;omega)|(simp;done)|fail))) ak (BN (by first|(simp;omega)|(simp;done)|fail) (xT (by assumption) (by assumption)) (nO _)) k|exact bD (eI (cs':=bc _) rfl rfl (ai _ _ _) rfl) ak (bN V.h V.h qV (by rfl)) k|exact bD (eI rfl rfl rfl rfl) ak (bN V.h V.h qV (by rfl)) k|fail):SO P Y ops dr x v m n s e:=h
theorem ahN(ht:oT x=74:=by exact rfl)(h:SO P Y ops dr x v m n s e:=by intro _ _ _ _ k;first|exact au (Kp rfl rfl se) ak rfl k|exact au (KM rfl rfl) ak rfl k|fail):SO P Y ops dr x v m n s e:=h
theorem ahO(ht:oT x=40:=by exact rfl)(h:SO P Y ops dr x v m n s e:=by intro _ _ _ _ k;first|exact au (RM rfl rfl V.h V.h (by assumption)) ak (RN V.h (by assumption)) k|exact au (xv rfl rfl V.h V.h (zp) (by assumption)) ak (xx V.h (zp) (by assumption)) k|exact au (xv rfl rfl V.h V.h (Ed) (by assumption)) ak (xx V.h (Ed) (by assumption)) k|exact au (xv rfl rfl V.h V.h (IN) (by assumption)) ak (xx V.h (IN) (by assumption)) k|exact au (acA rfl rfl rfl V.h V.h V.h) ak ⟨V.h,by omega⟩ k|exact au (nB rfl rfl af V.h V.h) ak ⟨V.h,by omega⟩ k|exact au (nB rfl rfl bM V.h V.h) ak ⟨V.h,by omega⟩ k|exact au (nB rfl rfl (ai _ _ _) V.h V.h) ak ⟨V.h,by omega⟩ k|exact au (xe rfl rfl rfl V.h V.h) ak ⟨V.h,by omega⟩ k|exact au (xe rfl rfl bM V.h V.h) ak ⟨V.h,by omega⟩ k|exact au (xe rfl rfl ij V.h V.h) ak ⟨V.h,by omega⟩ k|exact au (acB rfl rfl (ai _ _ _) V.h V.h) ak ⟨V.h,by omega⟩ k|fail):SO P Y ops dr x v m n s e:=h
theorem ahP(ht:oT x=50:=by exact rfl)(h:SO P Y ops dr x v m n s e:=by intro _ _ _ _ k;first|exact au (SX rfl) ak V.h k|exact au (J2 rfl) ak V.h k|exact lZ (lN rfl (ah oG af) rfl V.h V.h (sT (ai _ _ _) rfl) rfl) ak ⟨V.h,rfl,(by first|omega|exact bf rfl|(simp;done)|(simp;omega)),(by decide),(by first|rfl|(simp;done)|(simp;omega)),(by unfold maxLen;first|omega|(simp;omega)),(by rw[b3];first|omega|(simp;omega)),(by first|(simp;done)|(simp;omega))⟩ k|exact au (zX rfl af) ak V.h k|exact au (zX rfl bM) ak V.h k|exact au (zX rfl ij) ak V.h k|fail):SO P Y ops dr x v m n s e:=h
theorem ahQ(ht:oT x=52:=by exact rfl)(h:SO P Y ops dr x v m n s e:=by intro _ _ _ _ k;first|exact au (aeg rfl rfl oG) ak rfl k|fail):SO P Y ops dr x v m n s e:=h
theorem SS3(ht:oT x=3:=by exact rfl)(h:SO P Y ops dr x v m n s e:=by intro _ _ _ _ k;first|exact bS rfl rfl (ie (v:=.s (.int _ _)) rfl) (fun hc=>⟨ak,trivial⟩) k|exact bS rfl rfl (ie (v:=.s (.bool _)) rfl) (fun hc=>⟨ak,trivial⟩) k|exact bS rfl rfl (ie (v:=.s (.string _)) rfl) (fun hc=>⟨ak,trivial⟩) k|exact bS rfl rfl (ie (v:=.rs _ _ _) rfl) (fun hc=>⟨ak,trivial⟩) k|exact bS rfl rfl (ie (v:=.fn _ _ _) rfl) (fun hc=>⟨ak,trivial⟩) k|fail):SO P Y ops dr x v m n s e:=h
theorem ahR(ht:oT x=10:=by exact rfl)(h:SO P Y ops dr x v m n s e:=by intro _ _ _ _ k;first|exact iE (te (cs:=aF _) rfl) ak (by first|rfl|exact sV dx bG|exact nO _|exact vz gg) k|exact iE (te (cs:=bc _) rfl) ak (by first|rfl|exact sV dx bG|exact nO _|exact vz gg) k|exact iE (te (cs:=bE _) rfl) ak (by first|rfl|exact sV dx bG|exact nO _|exact vz gg) k|exact iE (te (cs:=bd _ _ _) rfl) ak (by first|rfl|exact sV dx bG|exact nO _|exact vz gg) k|exact iE (te rfl) ak (by first|rfl|exact sV dx bG|exact nO _|exact vz gg) k|exact iE (te (cs:=bi _) rfl) ak (by first|rfl|exact sV dx bG|exact nO _|exact vz gg) k|exact iE (FA (d:=.sl _ _) rfl rfl) ak rfl k|fail):SO P Y ops dr x v m n s e:=h
theorem ahS(ht:oT x=78:=by exact rfl)(h:SO P Y ops dr x v m n s e:=by intro _ _ _ _ k;first|exact au (SQ rfl rfl) ak rfl k|fail):SO P Y ops dr x v m n s e:=h
theorem SS8(ht:oT x=8:=by exact rfl)(h:SO P Y ops dr x v m n s e:=by intro _ _ _ _ k;first|exact iE (ab4 V.h) ak V.h k|fail):SO P Y ops dr x v m n s e:=h
theorem ahT(ht:oT x=75:=by exact rfl)(h:SO P Y ops dr x v m n s e:=by intro _ _ _ _ k;first|exact bS rfl rfl (Kp rfl rfl Gv) (fun hc=>⟨ak,rfl⟩) k|exact bS rfl rfl (KM rfl rfl) (fun hc=>⟨ak,rfl⟩) k|fail):SO P Y ops dr x v m n s e:=h
theorem ahU(ht:oT x=22:=by exact rfl)(h:SO P Y ops dr x v m n s e:=by intro _ _ _ _ k;first|exact au (FC rfl af) ak trivial k|fail):SO P Y ops dr x v m n s e:=h
theorem ahV(ht:oT x=51:=by exact rfl)(h:SO P Y ops dr x v m n s e:=by intro _ _ _ _ k;first|exact bS rfl rfl (SX rfl) (fun hc=>⟨ak,V.h⟩) k|fail):SO P Y ops dr x v m n s e:=h
theorem ahW(ht:oT x=48:=by exact rfl)(h:SO P Y ops dr x v m n s e:=by intro _ _ _ _ k;first|exact au (rq (v:=.s (.bool _)) rfl rfl) ak yY k|exact au (rq (v:=.s (.int _ _)) rfl rfl) ak yY k|exact au (rq (v:=.im _) rfl rfl) ak yY k|exact au (rq (v:=.agg (dA _)) rfl rfl) ak yY k|exact au (rq (v:=.agg (aF _)) rfl rfl) ak yY k|exact au (rq (v:=.agg _) rfl rfl) ak yY k|exact au (rq (v:=.s (.string _)) rfl rfl) ak yY k|fail):SO P Y ops dr x v m n s e:=h
theorem ahX(ht:oT x=12:=by exact rfl)(h:SO P Y ops dr x v m n s e:=by intro _ _ _ _ k;first|exact au (I0 V.h V.h V.h rfl rfl) ak ⟨V.h,V.h⟩ k|fail):SO P Y ops dr x v m n s e:=h
theorem ahY(ht:oT x=14:=by exact rfl)(h:SO P Y ops dr x v m n s e:=by intro _ _ _ _ k;first|exact iE (BC (cs:=[_]) V.h V.h V.h rfl rfl) ak ⟨rfl,by decide,V.h,by decide⟩ k|exact iE (BC (cs:=[]) V.h V.h V.h rfl rfl) ak ⟨rfl,by decide,V.h,by decide⟩ k|exact iE (BC (cs:=[_,_]) V.h V.h V.h rfl rfl) ak ⟨rfl,by decide,V.h,by decide⟩ k|exact iE (BC V.h V.h V.h rfl rfl) ak ⟨rfl,by decide,V.h,by decide⟩ k|fail):SO P Y ops dr x v m n s e:=h
theorem ahZ(ht:oT x=24:=by exact rfl)(h:SO P Y ops dr x v m n s e:=by intro _ _ _ _ k;first|exact au (SV rfl) ak trivial k|fail):SO P Y ops dr x v m n s e:=h
theorem ah0(ht:oT x=76:=by exact rfl)(h:SO P Y ops dr x v m n s e:=by intro _ _ _ _ k;first|exact au (KN rfl rfl) ak rfl k|exact au (RJ rfl rfl) ak trivial k|fail):SO P Y ops dr x v m n s e:=h
theorem ah1(ht:oT x=16:=by exact rfl)(h:SO P Y ops dr x v m n s e:=by intro _ _ _ _ k;first|exact bD (aa7 rfl rfl rfl rfl V.h) ak ⟨V.h,by kernel_rfl,by kernel_rfl⟩ k|fail):SO P Y ops dr x v m n s e:=h
theorem ah2(ht:oT x=25:=by exact rfl)(h:SO P Y ops dr x v m n s e:=by intro _ _ _ _ k;first|exact bS rfl rfl (SV rfl) (fun hc=>⟨ak,trivial⟩) k|fail):SO P Y ops dr x v m n s e:=h
theorem ah3(ht:oT x=83:=by exact rfl)(h:SO P Y ops dr x v m n s e:=by intro _ _ _ _ k;first|exact bS rfl rfl (KL rfl rfl) (fun hc=>⟨ak,rfl⟩) k|fail):SO P Y ops dr x v m n s e:=h
theorem ah4(ht:oT x=77:=by exact rfl)(h:SO P Y ops dr x v m n s e:=by intro _ _ _ _ k;first|exact bS rfl rfl (KN rfl rfl) (fun hc=>⟨ak,rfl⟩) k|fail):SO P Y ops dr x v m n s e:=h
theorem ah5(ht:oT x=54:=by exact rfl)(h:SO P Y ops dr x v m n s e:=by intro _ _ _ _ k;first|exact au (Sj rfl rfl AL) ak rfl k|exact au (KO rfl rfl oG) ak rfl k|fail):SO P Y ops dr x v m n s e:=h
theorem ah6(ht:oT x=28:=by exact rfl)(h:SO P Y ops dr x v m n s e:=by intro _ _ _ _ k;first|exact au (RL rfl rfl) ak trivial k|fail):SO P Y ops dr x v m n s e:=h
theorem ah7(ht:oT x=84:=by exact rfl)(h:SO P Y ops dr x v m n s e:=by intro _ _ _ _ k;first|exact au (SR rfl rfl) ak rfl k|fail):SO P Y ops dr x v m n s e:=h
theorem ah8(ht:oT x=81:=by exact rfl)(h:SO P Y ops dr x v m n s e:=by intro _ _ _ _ k;first|exact bS rfl rfl (adz rfl rfl UQ) (fun hc=>⟨ak,rfl⟩) k|exact bS rfl rfl (Gc rfl rfl) (fun hc=>⟨ak,rfl⟩) k|fail):SO P Y ops dr x v m n s e:=h
theorem SS7(ht:oT x=7:=by exact rfl)(h:SO P Y ops dr x v m n s e:=by intro _ _ _ _ k;first|exact aa3 rfl rfl rfl rfl rfl (by first|exact fun _=>trivial|exact fun _=>rfl|exact fun hc=>hc) (fun hc h=>by first|exact trivial|exact rfl|exact hc|(show Eq _ _;rw[hc,h];rfl)|(show Eq _ _;rw[h,hc];rfl)|(show Eq _ _;simp[hc,h];done)|(show Eq _ _;simp_all;done)|fail) (fun hc h=>by first|exact trivial|exact rfl|exact hc|(show Eq _ _;rw[hc,h];rfl)|(show Eq _ _;rw[h,hc];rfl)|(show Eq _ _;simp[hc,h];done)|(show Eq _ _;simp_all;done)|fail) k|fail):SO P Y ops dr x v m n s e:=h
theorem ah9(ht:oT x=44:=by exact rfl)(h:SO P Y ops dr x v m n s e:=by intro _ _ _ _ k;first|exact au (YU rfl rfl V.h kg) ak ⟨V.h,by kernel_rfl,wF⟩ k|fail):SO P Y ops dr x v m n s e:=h
theorem ah'(ht:oT x=26:=by exact rfl)(h:SO P Y ops dr x v m n s e:=by intro _ _ _ _ k;first|exact au (adh rfl V.h) ak V.h k|fail):SO P Y ops dr x v m n s e:=h
theorem aia(ht:oT x=79:=by exact rfl)(h:SO P Y ops dr x v m n s e:=by intro _ _ _ _ k;first|exact bS rfl rfl (SQ rfl rfl) (fun hc=>⟨ak,rfl⟩) k|fail):SO P Y ops dr x v m n s e:=h
theorem aib(ht:oT x=41:=by exact rfl)(h:SO P Y ops dr x v m n s e:=by intro _ _ _ _ k;first|exact bS rfl rfl (RM rfl rfl V.h V.h (by assumption)) (fun hc=>⟨ak,(RN V.h (by assumption))⟩) k|fail):SO P Y ops dr x v m n s e:=h
theorem aic(ht:oT x=82:=by exact rfl)(h:SO P Y ops dr x v m n s e:=by intro _ _ _ _ k;first|exact au (KL rfl rfl) ak rfl k|fail):SO P Y ops dr x v m n s e:=h
theorem aid(ht:oT x=30:=by exact rfl)(h:SO P Y ops dr x v m n s e:=by intro _ _ _ _ k;first|exact iE aei ak trivial k|fail):SO P Y ops dr x v m n s e:=h
theorem aie(ht:oT x=15:=by exact rfl)(h:SO P Y ops dr x v m n s e:=by intro _ _ _ _ k;first|exact ady rfl rfl (BC (cs:=[_]) V.h V.h V.h rfl rfl) ak ⟨rfl,by decide,V.h,by decide⟩ k|fail):SO P Y ops dr x v m n s e:=h
theorem SS(K:aj P Y ops dr cf Q r s (q++[e]))(h:SO P Y ops dr x v m n s e:=by first|exact SS2|exact SS4|exact ahH|exact ahI|exact ahJ|exact SS6|exact ahK|exact ahM|exact ahN|exact ahO|exact ahP|exact ahQ|exact SS3|exact ahR|exact ahS|exact SS8|exact ahT|exact ahU|exact ahV|exact ahW|exact ahX|exact ahY|exact ahZ|exact ah0|exact ah1|exact ah2|exact ah3|exact ah4|exact ah5|exact ah6|exact ah7|exact ah8|exact SS7|exact ah9|exact ah'|exact aia|exact aib|exact aic|exact aid|exact aie):aj P Y ops dr cf Q (x::r) ⟨v,m,n⟩ q:=h _ _ _ _ K
variable{x2 x3 x4 x5 x6 x7 x8 x9:Oper}{e2 e3 e4 e5 e6 e7 e8 e9:List Nat×List Nat}
theorem ab(K:aj P Y ops dr cf Q r s (q++[e]++[e2]))(h:∀ cf Q r q,aj P Y ops dr cf Q r s (q++[e]++[e2])->aj P Y ops dr cf Q (x::x2::r) ⟨v,m,n⟩ q:=by intro _ _ _ _ k;(iterate 2 refine SS ?_);exact k):aj P Y ops dr cf Q (x::x2::r) ⟨v,m,n⟩ q:=h _ _ _ _ K
theorem aJ(K:aj P Y ops dr cf Q r s (q++[e]++[e2]++[e3]))(h:∀ cf Q r q,aj P Y ops dr cf Q r s (q++[e]++[e2]++[e3])->aj P Y ops dr cf Q (x::x2::x3::r) ⟨v,m,n⟩ q:=by intro _ _ _ _ k;(iterate 3 refine SS ?_);exact k):aj P Y ops dr cf Q (x::x2::x3::r) ⟨v,m,n⟩ q:=h _ _ _ _ K
theorem bj(K:aj P Y ops dr cf Q r s (q++[e]++[e2]++[e3]++[e4]))(h:∀ cf Q r q,aj P Y ops dr cf Q r s (q++[e]++[e2]++[e3]++[e4])->aj P Y ops dr cf Q (x::x2::x3::x4::r) ⟨v,m,n⟩ q:=by intro _ _ _ _ k;(iterate 4 refine SS ?_);exact k):aj P Y ops dr cf Q (x::x2::x3::x4::r) ⟨v,m,n⟩ q:=h _ _ _ _ K
theorem bV(K:aj P Y ops dr cf Q r s (q++[e]++[e2]++[e3]++[e4]++[e5]))(h:∀ cf Q r q,aj P Y ops dr cf Q r s (q++[e]++[e2]++[e3]++[e4]++[e5])->aj P Y ops dr cf Q (x::x2::x3::x4::x5::r) ⟨v,m,n⟩ q:=by intro _ _ _ _ k;(iterate 5 refine SS ?_);exact k):aj P Y ops dr cf Q (x::x2::x3::x4::x5::r) ⟨v,m,n⟩ q:=h _ _ _ _ K
theorem dV(K:aj P Y ops dr cf Q r s (q++[e]++[e2]++[e3]++[e4]++[e5]++[e6]))(h:∀ cf Q r q,aj P Y ops dr cf Q r s (q++[e]++[e2]++[e3]++[e4]++[e5]++[e6])->aj P Y ops dr cf Q (x::x2::x3::x4::x5::x6::r) ⟨v,m,n⟩ q:=by intro _ _ _ _ k;(iterate 6 refine SS ?_);exact k):aj P Y ops dr cf Q (x::x2::x3::x4::x5::x6::r) ⟨v,m,n⟩ q:=h _ _ _ _ K
theorem jx(K:aj P Y ops dr cf Q r s (q++[e]++[e2]++[e3]++[e4]++[e5]++[e6]++[e7]))(h:∀ cf Q r q,aj P Y ops dr cf Q r s (q++[e]++[e2]++[e3]++[e4]++[e5]++[e6]++[e7])->aj P Y ops dr cf Q (x::x2::x3::x4::x5::x6::x7::r) ⟨v,m,n⟩ q:=by intro _ _ _ _ k;(iterate 7 refine SS ?_);exact k):aj P Y ops dr cf Q (x::x2::x3::x4::x5::x6::x7::r) ⟨v,m,n⟩ q:=h _ _ _ _ K
theorem dc(K:aj P Y ops dr cf Q r s (q++[e]++[e2]++[e3]++[e4]++[e5]++[e6]++[e7]++[e8]))(h:∀ cf Q r q,aj P Y ops dr cf Q r s (q++[e]++[e2]++[e3]++[e4]++[e5]++[e6]++[e7]++[e8])->aj P Y ops dr cf Q (x::x2::x3::x4::x5::x6::x7::x8::r) ⟨v,m,n⟩ q:=by intro _ _ _ _ k;(iterate 8 refine SS ?_);exact k):aj P Y ops dr cf Q (x::x2::x3::x4::x5::x6::x7::x8::r) ⟨v,m,n⟩ q:=h _ _ _ _ K
theorem bI(K:aj P Y ops dr cf Q r s (q++[e]++[e2]++[e3]++[e4]++[e5]++[e6]++[e7]++[e8]++[e9]))(h:∀ cf Q r q,aj P Y ops dr cf Q r s (q++[e]++[e2]++[e3]++[e4]++[e5]++[e6]++[e7]++[e8]++[e9])->aj P Y ops dr cf Q (x::x2::x3::x4::x5::x6::x7::x8::x9::r) ⟨v,m,n⟩ q:=by intro _ _ _ _ k;(iterate 9 refine SS ?_);exact k):aj P Y ops dr cf Q (x::x2::x3::x4::x5::x6::x7::x8::x9::r) ⟨v,m,n⟩ q:=h _ _ _ _ K
end
end Go.Abs
section
open Go Go.Abs Go.Proofs Go.Argus
namespace Go.Proofs.Tryz.K
theorem Be{x:bn}:aG prog 27 [.agg (bc x)] (I (gj x)):=by
 have bg:∀ a∈[D.agg (bc x)],Tr a:=.cons (.agg (ky x)) .nil;refine bK ajh bg (Tr.s _) ?_;rw[aji];refine aI ?_;refine ab ?_;refine aa (ca (dX [(0,bc x,45)] eH (l:=[(1,.pt (bc x))]) eH) (aX (ap ?_)));refine ab ?_;refine aa (wW ?_);refine cL (fun s=>aC prog s ⟨ay [(1,.pt (bc x)),(4,U8 x.op),(5,B (aR mz x.op))],fun _=>none,1⟩) (ap ?_) fun s hg=>⟨_,hg,?_⟩
 .refine ab ?_;refine aa (aE rfl (fun h=>bJ ?_) fun e1=>ap ?_)
  .have h:x.op=1:=by simpa using h
   refine ao ⟨rfl,rfl,?_,trivial⟩;show D.s (.bool (x.op==1))=_;rw[h];rfl
  refine ab ?_;refine aa (aE rfl (fun h=>bJ ?_) fun e2=>ap ?_)
  .have h:x.op=2:=by simpa using h
   refine ao ⟨rfl,rfl,?_,trivial⟩;show D.s (.bool (x.op==2))=_;rw[h];rfl
  refine ab ?_;refine aa (aE rfl (fun h=>bJ ?_) fun e3=>ap ?_)
  .have h:x.op=3:=by simpa using h
   refine ao ⟨rfl,rfl,?_,trivial⟩;show D.s (.bool (x.op==3))=_;rw[h];rfl
  refine ab ?_;refine aa (aE rfl (fun h=>bJ ?_) fun e4=>ap ?_)
  .have h:x.op=4:=by simpa using h
   refine ao ⟨rfl,rfl,?_,trivial⟩;show D.s (.bool (x.op==4))=_;rw[h];rfl
  refine ab ?_;refine aa (aE rfl (fun h=>bJ ?_) fun e5=>ap ?_)
  .have h:x.op=5:=by simpa using h
   refine ao ⟨rfl,rfl,?_,trivial⟩;show D.s (.bool (x.op==5))=_;rw[h];rfl
  refine ab ?_;refine aa (aE rfl (fun h=>bJ ?_) fun e6=>ap ?_)
  .have h:x.op=6:=by simpa using h
   refine ao ⟨rfl,rfl,?_,trivial⟩;show D.s (.bool (x.op==6))=_;rw[h];rfl
  refine ab ?_;refine aa (aE rfl (fun h=>bJ ?_) fun e7=>ap ?_)
  .have h:x.op=7:=by simpa using h
   refine ao ⟨rfl,rfl,?_,trivial⟩;show D.s (.bool (x.op==7))=_;rw[h];rfl
  refine ab ?_;refine aa (aE rfl (fun h=>bJ ?_) fun e8=>ap ?_)
  .have h:x.op=8:=by simpa using h
   refine ao ⟨rfl,rfl,?_,trivial⟩;show D.s (.bool (x.op==8))=_;rw[h];rfl
  refine ab ?_;refine aa (aE rfl (fun h=>bJ ?_) fun e9=>ap ?_)
  .have h:x.op=9:=by simpa using h
   refine ao ⟨rfl,rfl,?_,trivial⟩;show D.s (.bool (x.op==9))=_;rw[h];rfl
  refine ab ?_;refine aa (aE rfl (fun h=>bJ ?_) fun C=>ap ?_)
  .have h:x.op=10:=by simpa using h
   refine ao ⟨rfl,rfl,?_,trivial⟩;show D.s (.bool (x.op==10))=_;rw[h];rfl
  refine ab ?_;refine aa (aE rfl (fun h=>bJ ?_) fun O=>ap ?_)
  .have h:x.op=11:=by simpa using h
   refine ao ⟨rfl,rfl,?_,trivial⟩;show D.s (.bool (x.op==11))=_;rw[h];rfl
  refine ab ?_;refine aa (aE rfl (fun h=>bJ ?_) fun U=>ap ?_)
  .have h:x.op=13:=by simpa using h
   refine ao ⟨rfl,rfl,?_,trivial⟩;show D.s (.bool (x.op==13))=_;rw[h];rfl
  refine ab ?_;refine aa (aE rfl (fun h=>bJ ?_) fun X=>ap ?_)
  .have h:x.op=14:=by simpa using h
   refine ao ⟨rfl,rfl,?_,trivial⟩;show D.s (.bool (x.op==14))=_;rw[h];rfl
  refine ab ?_;refine aa (aE rfl (fun h=>bJ ?_) fun NR=>gq ?_)
  .have h:x.op=17:=by simpa using h
   refine ao ⟨rfl,rfl,?_,trivial⟩;show D.s (.bool (x.op==17))=_;rw[h];rfl
  refine ab ?_;refine aa ?_;refine ao ⟨rfl,rfl,?_,trivial⟩;show D.s (.bool (x.op==19))=_;simp[aR,mz,e1,e2,e3,e4,e5,e6,e7,e8,e9,C,O,U,X,NR]
 refine aE rfl (fun h1=>?_) fun h1=>?_
 .refine ws ?_;refine aJ ?_;refine aa (cM (gi (cw (aN (d:=I x.to) rfl ?_))));simp[gj,h1]
 refine cL (fun s=>aC prog s ⟨ay [(1,.pt (bc x)),(4,U8 x.op),(23,B (aR oq x.op))],fun _=>none,1⟩) (ap ?_) fun s hg=>⟨_,hg,?_⟩
 .refine ab ?_;refine aa (aE rfl (fun h=>bJ ?_) fun NS=>ap ?_)
  .have h:x.op=30:=by simpa using h
   refine ao ⟨rfl,rfl,?_,trivial⟩;show D.s (.bool (x.op==30))=_;rw[h];rfl
  refine ab ?_;refine aa (aE rfl (fun h=>bJ ?_) fun DT=>ap ?_)
  .have h:x.op=31:=by simpa using h
   refine ao ⟨rfl,rfl,?_,trivial⟩;show D.s (.bool (x.op==31))=_;rw[h];rfl
  refine ab ?_;refine aa (aE rfl (fun h=>bJ ?_) fun NT=>ap ?_)
  .have h:x.op=32:=by simpa using h
   refine ao ⟨rfl,rfl,?_,trivial⟩;show D.s (.bool (x.op==32))=_;rw[h];rfl
  refine ab ?_;refine aa (aE rfl (fun h=>bJ ?_) fun NU=>ap ?_)
  .have h:x.op=33:=by simpa using h
   refine ao ⟨rfl,rfl,?_,trivial⟩;show D.s (.bool (x.op==33))=_;rw[h];rfl
  refine ab ?_;refine aa (aE rfl (fun h=>bJ ?_) fun y4=>ap ?_)
  .have h:x.op=34:=by simpa using h
   refine ao ⟨rfl,rfl,?_,trivial⟩;show D.s (.bool (x.op==34))=_;rw[h];rfl
  refine ab ?_;refine aa (aE rfl (fun h=>bJ ?_) fun J=>gq ?_)
  .have h:x.op=36:=by simpa using h
   refine ao ⟨rfl,rfl,?_,trivial⟩;show D.s (.bool (x.op==36))=_;rw[h];rfl
  refine ab ?_;refine aa ?_;refine ao ⟨rfl,rfl,?_,trivial⟩;show D.s (.bool (x.op==37))=_;simp[aR,oq,NS,DT,NT,NU,y4,J]
 refine aE rfl (fun h2=>?_) fun h2=>?_
 .refine ws ?_;refine aJ ?_;refine aa (cM (gi (cw (aN (d:=I x.to) rfl ?_))));simp[gj,h2]
 refine vg (ap ?_);refine SS ?_;refine aa (aN (d:=I (-1)) rfl ?_);simp[gj,h1,h2]
theorem NG{x:Argus.End}:aG prog 31 [.agg (bE x)] (I (jA x)):=by
 have J:∀ a∈[D.agg (bE x)],Tr a:=.cons (.agg (ql x)) .nil;have Be:=Be (x:=x.ins);refine bK ajj J (Tr.s _) ?_;rw[ajk];refine aI ?_;refine ab ?_;refine aa (ca (dX [(0,bE x,48)] eH (l:=[(1,.pt (bE x))]) eH) (aX (ap ?_)));refine ab ?_;refine aa (wW (ap ?_));refine ab ?_;refine aa (aE rfl (fun h1=>?_) fun h1=>?_)
 .have h1:x.kind=5:=by simpa using h1
  refine ws ?_;refine ab ?_;refine cl Be ?_;refine SS ?_;refine aa (cM (gi (cw (aN (d:=I (gj x.ins)) rfl ?_))));simp[jA,h1]
 have h1:¬ x.kind=5:=by simpa using h1
 refine cL (fun s=>aC prog s ⟨ay [(1,.pt (bE x)),(4,U8 x.kind),(10,B (aR [6,7] x.kind))],fun _=>none,1⟩) (ap ?_) fun s hg=>⟨_,hg,?_⟩
 .refine ab ?_;refine aa (aE rfl (fun h=>bJ ?_) fun e6=>gq ?_)
  .have h:x.kind=6:=by simpa using h
   refine ao ⟨rfl,rfl,?_,trivial⟩;show D.s (.bool (x.kind==6))=_;rw[h];rfl
  refine ab ?_;refine aa ?_;refine ao ⟨rfl,rfl,?_,trivial⟩;show D.s (.bool (x.kind==7))=_;simp[aR,e6]
 refine aE rfl (fun h2=>?_) fun h2=>?_
 .refine ws ?_;refine aJ ?_;refine aa (cM (gi (cw (aN (d:=I x.a) rfl ?_))));simp[jA,h1,h2]
 refine ws ?_;refine ab ?_;refine aa (aE rfl (fun C=>?_) fun C=>?_)
 .have C:x.kind=8:=by simpa using C
  refine ws ?_;refine aJ ?_;refine aa (cM (gi (cw (aN (d:=I x.b) rfl ?_))));simp[jA,h2,C];simp[aR]
 have C:¬ x.kind=8:=by simpa using C
 refine vg (ap ?_);refine SS ?_;refine aa (aN (d:=I (-1)) rfl ?_);simp[jA,h1,h2,C]
theorem pv{l:List Int}(hl:l.length<=100000):aG prog 88 [az l] (az l):=by
 have C:∀ a∈[az l],Tr a:=.cons (cC _) .nil;refine bK ajl C (cC _) ?_;rw[ajm];have J:(l.map I).take (l.length*1)=l.map I:=dR oS
 have last:AW prog iu true (.seq (.region 3 (Z xG 3) false) .ret) (jH prog [.tmp 2] fun d x=>d=az l) ⟨ay [(0,az l)],fun _=>none,0⟩:=by
  refine aI ?_;refine ab ?_;refine lZ (lN rfl rfl rfl V.h V.h (uF J) rfl) ak ⟨V.h,rfl,(by first|omega|exact bf rfl|(simp;done)|(simp;omega)),oC,(by first|rfl|(simp;done)|(simp;omega)),(by unfold maxLen;first|omega|(simp;omega)),(by rw[b3];first|omega|(simp;omega)),(by first|(simp;done)|(simp;omega))⟩ ?_;refine SS ?_;refine aa (ca (dX [(1,l.map I,3)] eH (l:=[(2,az l)]) ⟨?_,trivial⟩) (aN rfl rfl));show A1 _ [(1,l.map I,3)] (.rs 1 0 (0+l.length))=.sl (l.map I) l.length;rw[Nat.zero_add];exact tB c3 (dR oS)
 refine ws ?_;refine SS ?_;refine aa ?_;refine cL (fun s=>aC prog s ⟨ay [(0,az l)],fun _=>none,0⟩) (ap ?_) fun s hg=>⟨_,hg,last⟩
 cases l with
 |nil=>
  refine SS ?_;refine au (FV rfl) ak V.h ?_;refine aa (EO rfl (aI ?_) (bJ (ao eH)));refine SS ?_;exact aa (ca (El (n0:=2) rfl) (cM (cw (aN rfl rfl))))
 |cons a l=>
  have O:(a::l).length≠0:=by simp
  refine SS ?_;refine au (FW rfl O) ak V.h ?_;exact aa (aE rfl (fun h=>oH) fun h=>bJ (ao eH))
theorem Bl{x:bn}(hx:x.op=10\/x.op=38->x.args.length<=1000):aG prog 25 [.agg (bc x)] (az (cT x)):=by
 have bg:∀ a∈[D.agg (bc x)],Tr a:=.cons (.agg (ky x)) .nil;refine bK ajn bg (cC _) ?_;rw[ajo];refine aI ?_;refine ab ?_;refine aa (ca (dX [(0,bc x,45)] eH (l:=[(1,.pt (bc x))]) eH) (aX (ap ?_)));refine ab ?_;refine aa (wW ?_);refine cL (fun s=>aC prog s ⟨ay [(1,.pt (bc x)),(4,U8 x.op),(5,B (aR mD x.op))],fun _=>none,1⟩) (ap ?_) fun s hg=>⟨_,hg,?_⟩
 .refine ab ?_;refine aa (aE rfl (fun h=>bJ ?_) fun e2=>ap ?_)
  .have h:x.op=2:=by simpa using h
   refine ao ⟨rfl,rfl,?_,trivial⟩;show D.s (.bool (x.op==2))=_;rw[h];rfl
  refine ab ?_;refine aa (aE rfl (fun h=>bJ ?_) fun e8=>ap ?_)
  .have h:x.op=8:=by simpa using h
   refine ao ⟨rfl,rfl,?_,trivial⟩;show D.s (.bool (x.op==8))=_;rw[h];rfl
  refine ab ?_;refine aa (aE rfl (fun h=>bJ ?_) fun X=>ap ?_)
  .have h:x.op=11:=by simpa using h
   refine ao ⟨rfl,rfl,?_,trivial⟩;show D.s (.bool (x.op==11))=_;rw[h];rfl
  refine ab ?_;refine aa (aE rfl (fun h=>bJ ?_) fun NP=>ap ?_)
  .have h:x.op=13:=by simpa using h
   refine ao ⟨rfl,rfl,?_,trivial⟩;show D.s (.bool (x.op==13))=_;rw[h];rfl
  refine ab ?_;refine aa (aE rfl (fun h=>bJ ?_) fun NQ=>ap ?_)
  .have h:x.op=14:=by simpa using h
   refine ao ⟨rfl,rfl,?_,trivial⟩;show D.s (.bool (x.op==14))=_;rw[h];rfl
  refine ab ?_;refine aa (aE rfl (fun h=>bJ ?_) fun NV=>ap ?_)
  .have h:x.op=15:=by simpa using h
   refine ao ⟨rfl,rfl,?_,trivial⟩;show D.s (.bool (x.op==15))=_;rw[h];rfl
  refine ab ?_;refine aa (aE rfl (fun h=>bJ ?_) fun NW=>ap ?_)
  .have h:x.op=16:=by simpa using h
   refine ao ⟨rfl,rfl,?_,trivial⟩;show D.s (.bool (x.op==16))=_;rw[h];rfl
  refine ab ?_;refine aa (aE rfl (fun h=>bJ ?_) fun U=>gq ?_)
  .have h:x.op=18:=by simpa using h
   refine ao ⟨rfl,rfl,?_,trivial⟩;show D.s (.bool (x.op==18))=_;rw[h];rfl
  refine ab ?_;refine aa ?_;refine ao ⟨rfl,rfl,?_,trivial⟩;show D.s (.bool (x.op==36))=_;simp[aR,mD,e2,e8,X,NP,NQ,NV,NW,U]
 refine aE rfl (fun h1=>?_) fun h1=>?_
 .refine aI ?_;refine bj ?_;refine aa (ca (dX [(1,([x.a]).map I,3)] eH (l:=[(2,az ([x.a]))]) ⟨tB c3 rfl,trivial⟩) (cM (gi (cw (aN (d:=az ([x.a])) rfl ?_)))));exact congrArg az (by unfold cT;rw[if_pos h1])
 refine cL (fun s=>aC prog s ⟨ay [(1,.pt (bc x)),(4,U8 x.op),(18,B (aR ou x.op))],fun _=>none,1⟩) (ap ?_) fun s hg=>⟨_,hg,?_⟩
 .refine ab ?_;refine aa (aE rfl (fun h=>bJ ?_) fun e3=>ap ?_)
  .have h:x.op=3:=by simpa using h
   refine ao ⟨rfl,rfl,?_,trivial⟩;show D.s (.bool (x.op==3))=_;rw[h];rfl
  refine ab ?_;refine aa (aE rfl (fun h=>bJ ?_) fun e4=>ap ?_)
  .have h:x.op=4:=by simpa using h
   refine ao ⟨rfl,rfl,?_,trivial⟩;show D.s (.bool (x.op==4))=_;rw[h];rfl
  refine ab ?_;refine aa (aE rfl (fun h=>bJ ?_) fun e5=>ap ?_)
  .have h:x.op=5:=by simpa using h
   refine ao ⟨rfl,rfl,?_,trivial⟩;show D.s (.bool (x.op==5))=_;rw[h];rfl
  refine ab ?_;refine aa (aE rfl (fun h=>bJ ?_) fun e6=>ap ?_)
  .have h:x.op=6:=by simpa using h
   refine ao ⟨rfl,rfl,?_,trivial⟩;show D.s (.bool (x.op==6))=_;rw[h];rfl
  refine ab ?_;refine aa (aE rfl (fun h=>bJ ?_) fun e7=>ap ?_)
  .have h:x.op=7:=by simpa using h
   refine ao ⟨rfl,rfl,?_,trivial⟩;show D.s (.bool (x.op==7))=_;rw[h];rfl
  refine ab ?_;refine aa (aE rfl (fun h=>bJ ?_) fun O=>ap ?_)
  .have h:x.op=12:=by simpa using h
   refine ao ⟨rfl,rfl,?_,trivial⟩;show D.s (.bool (x.op==12))=_;rw[h];rfl
  refine ab ?_;refine aa (aE rfl (fun h=>bJ ?_) fun NS=>ap ?_)
  .have h:x.op=30:=by simpa using h
   refine ao ⟨rfl,rfl,?_,trivial⟩;show D.s (.bool (x.op==30))=_;rw[h];rfl
  refine ab ?_;refine aa (aE rfl (fun h=>bJ ?_) fun DT=>ap ?_)
  .have h:x.op=31:=by simpa using h
   refine ao ⟨rfl,rfl,?_,trivial⟩;show D.s (.bool (x.op==31))=_;rw[h];rfl
  refine ab ?_;refine aa (aE rfl (fun h=>bJ ?_) fun NT=>ap ?_)
  .have h:x.op=32:=by simpa using h
   refine ao ⟨rfl,rfl,?_,trivial⟩;show D.s (.bool (x.op==32))=_;rw[h];rfl
  refine ab ?_;refine aa (aE rfl (fun h=>bJ ?_) fun NU=>ap ?_)
  .have h:x.op=33:=by simpa using h
   refine ao ⟨rfl,rfl,?_,trivial⟩;show D.s (.bool (x.op==33))=_;rw[h];rfl
  refine ab ?_;refine aa (aE rfl (fun h=>bJ ?_) fun y4=>ap ?_)
  .have h:x.op=34:=by simpa using h
   refine ao ⟨rfl,rfl,?_,trivial⟩;show D.s (.bool (x.op==34))=_;rw[h];rfl
  refine ab ?_;refine aa (aE rfl (fun h=>bJ ?_) fun DG=>gq ?_)
  .have h:x.op=35:=by simpa using h
   refine ao ⟨rfl,rfl,?_,trivial⟩;show D.s (.bool (x.op==35))=_;rw[h];rfl
  refine ab ?_;refine aa ?_;refine ao ⟨rfl,rfl,?_,trivial⟩;show D.s (.bool (x.op==37))=_;simp[aR,ou,e3,e4,e5,e6,e7,O,NS,DT,NT,NU,y4,DG]
 refine aE rfl (fun h2=>?_) fun h2=>?_
 .refine aI ?_;refine dV ?_;refine aa (ca (dX [(1,([x.a,x.b]).map I,3)] eH (l:=[(2,az ([x.a,x.b]))]) ⟨tB c3 rfl,trivial⟩) (cM (gi (cw (aN (d:=az ([x.a,x.b])) rfl ?_)))));exact congrArg az (by unfold cT;rw[if_neg (by simp[h1]),if_pos h2])
 refine ws ?_;refine ab ?_;refine aa (aE rfl (fun C=>?_) fun C=>?_)
 .have C:x.op=10:=by simpa using C
  have pv:=pv (l:=x.args) (by have:=hx (.inl C);omega);refine ws ?_;refine ab ?_;refine cl pv ?_;refine SS ?_;refine aa (cM (gi (cw (aN (d:=az x.args) rfl ?_))));exact congrArg az (by unfold cT;rw[if_neg (by simp[h1]),if_neg (by simp[h2]),if_pos C])
 have C:¬ x.op=10:=by simpa using C
 refine ws ?_;refine ab ?_;refine aa (aE rfl (fun J=>?_) fun J=>?_)
 .have J:x.op=38:=by simpa using J
  have hl:=hx (.inr J);have l0:(x.args.map I).take (x.args.length*1)=x.args.map I:=dR oS;refine aI ?_;refine jx ?_;refine lZ (lN rfl rfl rfl V.h V.h (uF l0) rfl) ak ⟨V.h,rfl,(by first|omega|exact bf rfl|(simp;done)|(simp;omega)),oC,(by first|rfl|(simp;done)|(simp;omega)),(by unfold maxLen;first|omega|(simp;omega)),(by rw[b3];first|omega|(simp;omega)),(by first|(simp;done)|(simp;omega))⟩ ?_;refine SS ?_;refine aa (ca (dX [(2,(x.a::x.b::x.args).map I,3)] eH (l:=[(2,az (x.a::x.b::x.args))]) ⟨?_,trivial⟩) (cM (gi (cw (aN (d:=az (x.a::x.b::x.args)) rfl ?_)))))
  .show A1 _ [(2,_,3)] (.rs 2 0 (2+x.args.length))=_;refine(tB c3 (es:=(x.a::x.b::x.args).map I) (dR oP)).trans ?_;rw[Nat.add_comm];rfl
  .exact congrArg az (by unfold cT;rw[if_neg (by simp[h1]),if_neg (by simp[h2]),if_neg C,if_pos J])
 have J:¬ x.op=38:=by simpa using J
 refine vg (aI ?_);refine SS ?_;refine aa (ca (El (n0:=2) rfl) (aN (d:=az []) rfl ?_));exact congrArg az (by unfold cT;rw[if_neg (by simp[h1]),if_neg (by simp[h2]),if_neg C,if_neg J])
theorem NI{x:Argus.End}(hx:x.kind=5->x.ins.op=10\/x.ins.op=38->x.ins.args.length<=1000)(hy:x.kind=6\/x.kind=7->x.args.length<=1000):aG prog 29 [.agg (bE x)] (az (dK x)):=by
 have O:∀ a∈[D.agg (bE x)],Tr a:=.cons (.agg (ql x)) .nil;refine bK ajp O (cC _) ?_;rw[ajq];refine aI ?_;refine ab ?_;refine aa (ca (dX [(0,bE x,48)] eH (l:=[(1,.pt (bE x))]) eH) (aX (ap ?_)));refine ab ?_;refine aa (wW ?_);refine cL (fun s=>aC prog s ⟨ay [(1,.pt (bE x)),(4,U8 x.kind),(5,B (aR [2,8,9] x.kind))],fun _=>none,1⟩) (ap ?_) fun s hg=>⟨_,hg,?_⟩
 .refine ab ?_;refine aa (aE rfl (fun h=>bJ ?_) fun e2=>ap ?_)
  .have h:x.kind=2:=by simpa using h
   refine ao ⟨rfl,rfl,?_,trivial⟩;show D.s (.bool (x.kind==2))=_;rw[h];rfl
  refine ab ?_;refine aa (aE rfl (fun h=>bJ ?_) fun e8=>gq ?_)
  .have h:x.kind=8:=by simpa using h
   refine ao ⟨rfl,rfl,?_,trivial⟩;show D.s (.bool (x.kind==8))=_;rw[h];rfl
  refine ab ?_;refine aa ?_;refine ao ⟨rfl,rfl,?_,trivial⟩;show D.s (.bool (x.kind==9))=_;simp[aR,e2,e8]
 refine aE rfl (fun h1=>?_) fun h1=>?_
 .refine aI ?_;refine bj ?_;refine aa (ca (dX [(1,([x.a]).map I,3)] eH (l:=[(2,az ([x.a]))]) ⟨tB c3 rfl,trivial⟩) (cM (gi (cw (aN (d:=az ([x.a])) rfl ?_)))));exact congrArg az (by unfold dK;rw[if_pos h1])
 refine ws ?_;refine ab ?_;refine aa (aE rfl (fun h2=>?_) fun h2=>?_)
 .have h2:x.kind=3:=by simpa using h2
  refine ws ?_;refine aJ ?_;refine aa (aE rfl (fun C=>?_) fun C=>?_)
  .have C:¬ x.a= -1:=by simpa[bne,ib] using C
   refine aI ?_;refine bj ?_;refine aa (ca (dX [(1,([x.a]).map I,3)] eH (l:=[(2,az ([x.a]))]) ⟨tB c3 rfl,trivial⟩) (cM (gi (cw (aN (d:=az ([x.a])) rfl ?_)))));exact congrArg az (by unfold dK;rw[if_neg (by simp[h1]),if_pos h2,if_pos C])
  .have C:x.a= -1:=by simpa[bne,ib] using C
   refine vg (aI ?_);refine SS ?_;refine aa (ca (El (n0:=2) rfl) (aN (d:=az []) rfl ?_));exact congrArg az (by unfold dK;rw[if_neg (by simp[h1]),if_pos h2,if_neg (by simp[C])])
 have h2:¬ x.kind=3:=by simpa using h2
 refine ws ?_;refine ab ?_;refine aa (aE rfl (fun C=>?_) fun C=>?_)
 .have C:x.kind=5:=by simpa using C
  have Bl:=Bl (x:=x.ins) (hx C);refine ws ?_;refine ab ?_;refine cl Bl ?_;refine SS ?_;refine aa (cM (gi (cw (aN (d:=az (cT x.ins)) rfl ?_))));exact congrArg az (by unfold dK;rw[if_neg (by simp[h1]),if_neg h2,if_pos C])
 have C:¬ x.kind=5:=by simpa using C
 refine cL (fun s=>aC prog s ⟨ay [(1,.pt (bE x)),(4,U8 x.kind),(25,B (aR [6,7] x.kind))],fun _=>none,1⟩) (ap ?_) fun s hg=>⟨_,hg,?_⟩
 .refine ab ?_;refine aa (aE rfl (fun h=>bJ ?_) fun e6=>gq ?_)
  .have h:x.kind=6:=by simpa using h
   refine ao ⟨rfl,rfl,?_,trivial⟩;show D.s (.bool (x.kind==6))=_;rw[h];rfl
  refine ab ?_;refine aa ?_;refine ao ⟨rfl,rfl,?_,trivial⟩;show D.s (.bool (x.kind==7))=_;simp[aR,e6]
 refine aE rfl (fun J=>?_) fun J=>?_
 .have U:x.kind=6\/x.kind=7:=by simpa[aR] using J
  have pv:=pv (l:=x.args) (by have:=hy U;omega);refine ws ?_;refine ab ?_;refine cl pv ?_;refine SS ?_;refine aa (cM (gi (cw (aN (d:=az x.args) rfl ?_))));exact congrArg az (by unfold dK;rw[if_neg (by simp[h1]),if_neg h2,if_neg C,if_pos J])
 refine vg (aI ?_);refine SS ?_;refine aa (ca (El (n0:=2) rfl) (aN (d:=az []) rfl ?_));exact congrArg az (by unfold dK;rw[if_neg (by simp[h1]),if_neg h2,if_neg C,if_neg (by simp[J])])
theorem pS{l:List Int}{g:FuncId}{fs cs:List D}{p:Int->Int}(hl:l.length<=1000000)(ht:Tr (.fn (.func g) fs cs))(hg:∀ x∈l,aG prog g (fs++[I x]++cs) (I (p x))):aG prog 106 [az l,.fn (.func g) fs cs] (az (l.map p)):=by
 refine bK TD (.cons (cC _) (.cons ht .nil)) (cC _) ?_;rw[TE];refine ws ?_;refine SS ?_;refine aa (aI ?_);refine SS ?_;refine aa ⟨_,.mE _ _ _ 5 3 rfl,aX (aI ?_)⟩;refine aJ ?_
 refine aa (c6 (fun s=>∃ r m nx,aC prog s ⟨ay [(5,.rs r 0 l.length)],m,nx⟩/\m r=some (.cells ((l.map p).map I) 3)) (cZ (α:=Nat×Nat×Mem×Nat)
  (fun s=>⟨ay [(1,.fn (.func g) fs cs),(5,.rs s.2.1 0 s.1),(8,az l),(9,I l.length),(10,I s.1)],s.2.2.1,s.2.2.2⟩)
  (fun s=>s.1<=l.length/\s.2.1<s.2.2.2/\s.2.2.1 s.2.1=some (.cells (((l.take s.1).map p).map I) 3)) (fun s=>l.length - s.1) (0,_,_,_)
  (ao eH) ⟨Nat.zero_le _,Nat.lt_succ_self _,rfl⟩ ?_) ?_)
 .rintro⟨j,r,m,nx⟩ ⟨hj,hr,af⟩;dsimp only at hj hr af ⊢;refine SS ?_;refine aa ⟨_,rfl,fun h=>?_,fun h=>?_⟩
  .have O:j<l.length:=by simpa using h
   have hx:l[j]? =some l[j]:=by simp[O]
   have J:=hg l[j] (eE _)
   have C:((l.take (j+1)).map p).map I=((l.take j).map p).map I++[I (p l[j])]:=by
    rw[List.take_add_one,hx,List.map_append,List.map_append];rfl
   have U:(((l.take j).map p).map I).length=j:=by simp;omega
   generalize l[j]=x at hx J C;generalize ((l.take j).map p).map I=ds at af C U;refine ws ?_;refine aJ ?_;refine aa (fv ?_);refine aJ ?_;refine cl J ?_;refine aJ ?_;refine aa ?_;refine ab ?_;refine aa (bQ (j+1,nx+1,_,_) (ao eH) ⟨oM,oM,?_⟩ oM);dsimp only;rw[C];exact ai _ _ _
  .have X:¬ j<l.length:=by simpa using h
   have:j=l.length:=by omega
   subst this;rw[List.take_length] at af;exact⟨r,m,nx,ao eH,af⟩
 .rintro s ⟨r,m,nx,hg,af⟩;refine⟨_,hg,aI ?_⟩;refine ab ?_;refine aa (ca (dX [(r,_,3)] ⟨af,trivial⟩ (l:=[(4,az (l.map p))]) ⟨?_,trivial⟩) (aN rfl rfl));exact(tB c3 (es:=(l.map p).map I) (by rw[Nat.mul_one,List.drop_zero,dR oS])).trans oS
theorem ae7{l:List bn}{g:FuncId}{fs cs:List D}{p:bn->bn}(hl:l.length<=1000000)(ht:Tr (.fn (.func g) fs cs))(hg:∀ x∈l,aG prog g (fs++[.agg (bc x)]++cs) (.agg (bc (p x)))):gC prog 103 [fg l,.fn (.func g) fs cs] ((l.map p).flatMap bc) l.length 45:=by
 refine sF TF (.cons (Rq _) (.cons ht .nil)) (.flat ky) ?_;rw[TG];refine ws ?_;refine SS ?_;refine aa (aI ?_);refine SS ?_;refine aa ⟨_,.mE _ _ _ 5 45 rfl,aX (aI ?_)⟩;refine aJ ?_
 refine aa (c6 (fun s=>∃ r m nx,aC prog s ⟨ay [(5,.rs r 0 l.length)],m,nx⟩/\m r=some (.cells ((l.map p).flatMap bc) 45)) (cZ (α:=Nat×Nat×Mem×Nat)
  (fun s=>⟨ay [(1,.fn (.func g) fs cs),(5,.rs s.2.1 0 s.1),(8,fg l),(9,I l.length),(10,I s.1)],s.2.2.1,s.2.2.2⟩)
  (fun s=>s.1<=l.length/\s.2.1<s.2.2.2/\s.2.2.1 s.2.1=some (.cells (((l.take s.1).map p).flatMap bc) 45)) (fun s=>l.length - s.1) (0,_,_,_)
  (ao eH) ⟨Nat.zero_le _,Nat.lt_succ_self _,rfl⟩ ?_) ?_)
 .rintro⟨j,r,m,nx⟩ ⟨hj,hr,af⟩;dsimp only at hj hr af ⊢;refine SS ?_;refine aa ⟨_,rfl,fun h=>?_,fun h=>?_⟩
  .have U:j<l.length:=by simpa using h
   have hx:l[j]? =some l[j]:=by simp[U]
   have O:=hg l[j] (eE _)
   have C:((l.take (j+1)).map p).flatMap bc=((l.take j).map p).flatMap bc++bc (p l[j]):=by
    rw[List.take_add_one,hx,List.map_append,List.flatMap_append];simp
   have J:(((l.take j).map p).flatMap bc).length=j*6:=by
    rw[ux (sz:=6) (fun _=>rfl),List.length_map,List.length_take];congr 1;omega
   generalize l[j]=x at hx O C;generalize ((l.take j).map p).flatMap bc=ds at af C J;refine ws ?_;refine bj ?_;refine aa (fv ?_);refine aJ ?_;refine cl O ?_;refine SS ?_;refine lZ (lN rfl (ah oG (ah oG (ah oG af))) rfl Np jS (sT (ai _ _ _) rfl) rfl) aO ⟨Mi,rfl,bf rfl,oC,by rw[J];omega,by unfold maxLen;omega,by rw[Nq];omega,by simp;omega⟩ ?_;refine SS ?_;refine aa ?_;refine ab ?_;refine aa (bQ (j+1,nx+1+1,_,_) (ao eH) ⟨oM,oM,?_⟩ oM);dsimp only;rw[C];exact ai _ _ _
  .have X:¬ j<l.length:=by simpa using h
   have:j=l.length:=by omega
   subst this;rw[List.take_length] at af;exact⟨r,m,nx,ao eH,af⟩
 .rintro s ⟨r,m,nx,hg,af⟩;refine⟨_,hg,ap ?_⟩;refine ab ?_;refine aa (aN rfl ⟨r,rfl,af⟩)
theorem oW{l:List bn}{g:FuncId}{fs cs:List D}{p:bn->bn}(hl:l.length<=1000000)(ht:Tr (.fn (.func g) fs cs))(hg:∀ x∈l,aG prog g (fs++[.agg (bc x)]++cs) (.agg (bc (p x)))):aG prog 103 [fg l,.fn (.func g) fs cs] (fg (l.map p)):=by
 have e:((l.map p).flatMap bc).take (l.length*prog.cellsOf 45)=(l.map p).flatMap bc:=by
  rw[jS,Eh (f:=bc) (sz:=6) (fun _=>rfl),dR oS]
 have h:=(ae7 hl ht hg).FF (by rw[e];exact .sl (.flat ky));rw[e] at h;show aG prog 103 _ (.sl ((l.map p).flatMap bc) (l.map p).length);rw[List.length_map];exact h
theorem Ma{l:List Int}{g:FuncId}{fs cs:List D}{p:Int->Bool}(ht:Tr (.fn (.func g) fs cs))(hg:∀ x∈l,aG prog g (fs++[U8 x]++cs) (B (p x))):aG prog 270 [ej l,.fn (.func g) fs cs] (I (sf p l)):=by
 refine qb Tx.he (.cons (nv _) (.cons ht .nil)) fun C=>?_;have hlen:=(C (ej l) oS).sl.1;unfold maxLen at hlen;refine bK Tx (.cons (nv _) (.cons ht .nil)) (Tr.s _) ?_;rw[aeN];refine ws ?_;refine SS ?_;refine aa (aX (aI ?_));refine aJ ?_
 refine aa (c6 (fun s=>aC prog s ⟨ay [],fun _=>none,0⟩/\∀ (j:Nat) y,l[j]? =some y->p y=false) (cZ (α:=Nat) (fun k=>⟨ay [(0,ej l),(1,.fn (.func g) fs cs),(7,I l.length),(8,I k)],fun _=>none,0⟩)
  (fun k=>k<=l.length/\∀ j y,j<k->l[j]? =some y->p y=false) (fun k=>l.length - k) 0 (ao eH) ⟨oG,fun j y hj=>by omega⟩ ?_) ?_)
 .rintro k ⟨hk,hinv⟩;refine SS ?_;refine aa ⟨_,rfl,fun h=>?_,fun h=>?_⟩
  .have ag:k<l.length:=by simpa using h
   have hx:l[k]? =some l[k]:=by simp[ag]
   generalize l[k]=x at hx;have O:=hg x (cX hx);refine ws ?_;refine ab ?_;refine er ?_;refine bV ?_;refine cl O ?_;refine aa (aE rfl (fun hp=>?_) fun hp=>?_)
   .refine ws ?_;refine ab ?_;refine aa (cM (fC (cw (aN rfl ?_))));rw[Ee hx hp hinv];rfl
   .refine ig ?_;refine ab ?_;refine aa (bQ (k+1) (ao eH) ⟨oG,fun j y hj hy=>?_⟩ oG);by_cases e:j=k
    .subst e;rw[hx] at hy;cases hy;exact hp
    .exact hinv j y oG hy
  .have U:¬ k<l.length:=by simpa using h
   exact⟨.forget _ _ _ _ fun _=>.inr rfl,fun j y hy=>hinv j y (by have:=(bU.1 hy).1;omega) hy⟩
 .rintro s ⟨hg,J⟩;refine⟨_,hg,ap ?_⟩;refine SS ?_;refine aa (aN rfl ?_);rw[Eg J];rfl
theorem tL{l:List Int}{g:FuncId}{fs cs:List D}{p:Int->Bool}(ht:Tr (.fn (.func g) fs cs))(hg:∀ x∈l,aG prog g (fs++[U8 x]++cs) (B (p x))):aG prog 204 [ej l,.fn (.func g) fs cs] (B (l.any p)):=by
 have Ma:=Ma ht hg;refine bK aeO (.cons (nv _) (.cons ht .nil)) (Tr.s _) ?_;rw[aeP];refine ws ?_;refine SS ?_;refine er ?_;refine ab ?_;refine cl Ma ?_;refine ab ?_;refine aa (aN rfl ?_);rw[<- Es];rfl
theorem Mb{l:List ByteArray}{g:FuncId}{fs cs:List D}{p:ByteArray->Bool}(ht:Tr (.fn (.func g) fs cs))(hg:∀ x∈l,aG prog g (fs++[S x]++cs) (B (p x))):aG prog 207 [iz l,.fn (.func g) fs cs] (I (sf p l)):=by
 refine qb Ty.he (.cons (uU _) (.cons ht .nil)) fun C=>?_;have hlen:=(C (iz l) oS).sl.1;unfold maxLen at hlen;refine bK Ty (.cons (uU _) (.cons ht .nil)) (Tr.s _) ?_;rw[aeQ];refine ws ?_;refine SS ?_;refine aa (aX (aI ?_));refine aJ ?_
 refine aa (c6 (fun s=>aC prog s ⟨ay [],fun _=>none,0⟩/\∀ (j:Nat) y,l[j]? =some y->p y=false) (cZ (α:=Nat) (fun k=>⟨ay [(0,iz l),(1,.fn (.func g) fs cs),(7,I l.length),(8,I k)],fun _=>none,0⟩)
  (fun k=>k<=l.length/\∀ j y,j<k->l[j]? =some y->p y=false) (fun k=>l.length - k) 0 (ao eH) ⟨oG,fun j y hj=>by omega⟩ ?_) ?_)
 .rintro k ⟨hk,hinv⟩;refine SS ?_;refine aa ⟨_,rfl,fun h=>?_,fun h=>?_⟩
  .have ag:k<l.length:=by simpa using h
   have hx:l[k]? =some l[k]:=by simp[ag]
   generalize l[k]=x at hx;have O:=hg x (cX hx);refine ws ?_;refine ab ?_;refine er ?_;refine bV ?_;refine cl O ?_;refine aa (aE rfl (fun hp=>?_) fun hp=>?_)
   .refine ws ?_;refine ab ?_;refine aa (cM (fC (cw (aN rfl ?_))));rw[Ee hx hp hinv];rfl
   .refine ig ?_;refine ab ?_;refine aa (bQ (k+1) (ao eH) ⟨oG,fun j y hj hy=>?_⟩ oG);by_cases e:j=k
    .subst e;rw[hx] at hy;cases hy;exact hp
    .exact hinv j y oG hy
  .have U:¬ k<l.length:=by simpa using h
   exact⟨.forget _ _ _ _ fun _=>.inr rfl,fun j y hy=>hinv j y (by have:=(bU.1 hy).1;omega) hy⟩
 .rintro s ⟨hg,J⟩;refine⟨_,hg,ap ?_⟩;refine SS ?_;refine aa (aN rfl ?_);rw[Eg J];rfl
theorem GV{l:List ByteArray}{g:FuncId}{fs cs:List D}{p:ByteArray->Bool}(ht:Tr (.fn (.func g) fs cs))(hg:∀ x∈l,aG prog g (fs++[S x]++cs) (B (p x))):aG prog 139 [iz l,.fn (.func g) fs cs] (B (l.any p)):=by
 have Mb:=Mb ht hg;refine bK aeR (.cons (uU _) (.cons ht .nil)) (Tr.s _) ?_;rw[aeS];refine ws ?_;refine SS ?_;refine er ?_;refine ab ?_;refine cl Mb ?_;refine ab ?_;refine aa (aN rfl ?_);rw[<- Es];rfl
theorem Mc{l:List gr}{g:FuncId}{fs cs:List D}{p:gr->Bool}(ht:Tr (.fn (.func g) fs cs))(hg:∀ x∈l,aG prog g (fs++[.agg (dQ x)]++cs) (B (p x))):aG prog 294 [jB l,.fn (.func g) fs cs] (I (sf p l)):=by
 refine qb Tz.he (.cons (iN _) (.cons ht .nil)) fun C=>?_;have hlen:=(C (jB l) oS).sl.1;unfold maxLen at hlen;refine bK Tz (.cons (iN _) (.cons ht .nil)) (Tr.s _) ?_;rw[aeT];refine ws ?_;refine SS ?_;refine aa (aX (aI ?_));refine aJ ?_
 refine aa (c6 (fun s=>aC prog s ⟨ay [],fun _=>none,0⟩/\∀ (j:Nat) y,l[j]? =some y->p y=false) (cZ (α:=Nat) (fun k=>⟨ay [(0,jB l),(1,.fn (.func g) fs cs),(7,I l.length),(8,I k)],fun _=>none,0⟩)
  (fun k=>k<=l.length/\∀ j y,j<k->l[j]? =some y->p y=false) (fun k=>l.length - k) 0 (ao eH) ⟨oG,fun j y hj=>by omega⟩ ?_) ?_)
 .rintro k ⟨hk,hinv⟩;refine SS ?_;refine aa ⟨_,rfl,fun h=>?_,fun h=>?_⟩
  .have ag:k<l.length:=by simpa using h
   have hx:l[k]? =some l[k]:=by simp[ag]
   generalize l[k]=x at hx;have O:=hg x (cX hx);refine ws ?_;refine ab ?_;refine er ?_;refine bV ?_;refine cl O ?_;refine aa (aE rfl (fun hp=>?_) fun hp=>?_)
   .refine ws ?_;refine ab ?_;refine aa (cM (fC (cw (aN rfl ?_))));rw[Ee hx hp hinv];rfl
   .refine ig ?_;refine ab ?_;refine aa (bQ (k+1) (ao eH) ⟨oG,fun j y hj hy=>?_⟩ oG);by_cases e:j=k
    .subst e;rw[hx] at hy;cases hy;exact hp
    .exact hinv j y oG hy
  .have U:¬ k<l.length:=by simpa using h
   exact⟨.forget _ _ _ _ fun _=>.inr rfl,fun j y hy=>hinv j y (by have:=(bU.1 hy).1;omega) hy⟩
 .rintro s ⟨hg,J⟩;refine⟨_,hg,ap ?_⟩;refine SS ?_;refine aa (aN rfl ?_);rw[Eg J];rfl
theorem CL{l:List gr}{g:FuncId}{fs cs:List D}{p:gr->Bool}(ht:Tr (.fn (.func g) fs cs))(hg:∀ x∈l,aG prog g (fs++[.agg (dQ x)]++cs) (B (p x))):aG prog 272 [jB l,.fn (.func g) fs cs] (B (l.any p)):=by
 have Mc:=Mc ht hg;refine bK aeU (.cons (iN _) (.cons ht .nil)) (Tr.s _) ?_;rw[aeV];refine ws ?_;refine SS ?_;refine er ?_;refine ab ?_;refine cl Mc ?_;refine ab ?_;refine aa (aN rfl ?_);rw[<- Es];rfl
theorem Md{l:List Int}{g:FuncId}{fs cs:List D}{p:Int->Bool}(ht:Tr (.fn (.func g) fs cs))(hg:∀ x∈l,aG prog g (fs++[I x]++cs) (B (p x))):aG prog 159 [az l,.fn (.func g) fs cs] (I (sf p l)):=by
 refine qb TA.he (.cons (cC _) (.cons ht .nil)) fun C=>?_;have hlen:=(C (az l) oS).sl.1;unfold maxLen at hlen;refine bK TA (.cons (cC _) (.cons ht .nil)) (Tr.s _) ?_;rw[aeW];refine ws ?_;refine SS ?_;refine aa (aX (aI ?_));refine aJ ?_
 refine aa (c6 (fun s=>aC prog s ⟨ay [],fun _=>none,0⟩/\∀ (j:Nat) y,l[j]? =some y->p y=false) (cZ (α:=Nat) (fun k=>⟨ay [(0,az l),(1,.fn (.func g) fs cs),(7,I l.length),(8,I k)],fun _=>none,0⟩)
  (fun k=>k<=l.length/\∀ j y,j<k->l[j]? =some y->p y=false) (fun k=>l.length - k) 0 (ao eH) ⟨oG,fun j y hj=>by omega⟩ ?_) ?_)
 .rintro k ⟨hk,hinv⟩;refine SS ?_;refine aa ⟨_,rfl,fun h=>?_,fun h=>?_⟩
  .have ag:k<l.length:=by simpa using h
   have hx:l[k]? =some l[k]:=by simp[ag]
   generalize l[k]=x at hx;have O:=hg x (cX hx);refine ws ?_;refine ab ?_;refine er ?_;refine bV ?_;refine cl O ?_;refine aa (aE rfl (fun hp=>?_) fun hp=>?_)
   .refine ws ?_;refine ab ?_;refine aa (cM (fC (cw (aN rfl ?_))));rw[Ee hx hp hinv];rfl
   .refine ig ?_;refine ab ?_;refine aa (bQ (k+1) (ao eH) ⟨oG,fun j y hj hy=>?_⟩ oG);by_cases e:j=k
    .subst e;rw[hx] at hy;cases hy;exact hp
    .exact hinv j y oG hy
  .have U:¬ k<l.length:=by simpa using h
   exact⟨.forget _ _ _ _ fun _=>.inr rfl,fun j y hy=>hinv j y (by have:=(bU.1 hy).1;omega) hy⟩
 .rintro s ⟨hg,J⟩;refine⟨_,hg,ap ?_⟩;refine SS ?_;refine aa (aN rfl ?_);rw[Eg J];rfl
theorem Bd{l:List Int}{g:FuncId}{fs cs:List D}{p:Int->Bool}(ht:Tr (.fn (.func g) fs cs))(hg:∀ x∈l,aG prog g (fs++[I x]++cs) (B (p x))):aG prog 77 [az l,.fn (.func g) fs cs] (B (l.any p)):=by
 have Md:=Md ht hg;refine bK aif (.cons (cC _) (.cons ht .nil)) (Tr.s _) ?_;rw[aih];refine ws ?_;refine SS ?_;refine er ?_;refine ab ?_;refine cl Md ?_;refine ab ?_;refine aa (aN rfl ?_);rw[<- Es];rfl
theorem iI{n a b:Int}:aG prog 74 [I n,I a,I b] (B (gz n a b)):=by
 refine bK aiY (by simp[Tr.s]) (Tr.s _) ?_;rw[aiZ];refine ws ?_;refine SS ?_;refine er ?_;refine bI ?_;refine aa (aN (d:=.s (.bool _)) rfl ?_);simp[gz]
theorem ai0{b:Int}:aG prog 205 [U8 b] (B (Eu b)):=by
 refine bK agm (by simp[Tr.s]) (Tr.s _) ?_;rw[agn];refine ws ?_;refine SS ?_;refine er ?_;refine jx ?_;refine aa (aN (d:=.s (.bool _)) rfl ?_);simp[Eu]
theorem ai1{b:Int}:aG prog 208 [U8 b] (B (Ew b)):=by
 refine bK ago (by simp[Tr.s]) (Tr.s _) ?_;rw[agp];refine ws ?_;refine SS ?_;refine er ?_;refine bI ?_;refine dV ?_;refine aa (aN (d:=.s (.bool _)) rfl ?_);simp[Ew]
theorem qL{s:ByteArray}:aG prog 137 [S s] (B (tu s)):=by
 refine bK agq (by simp[Tr.s]) (Tr.s _) ?_;have tL:=tL (l:=qe s) (g:=205) (fs:=[]) (cs:=[]) (p:=Eu) (.fn oS oS) (fun x _=>ai0);rw[agr];refine ws ?_;refine SS ?_;refine er ?_;refine ab ?_;refine cl iI ?_;refine ab ?_;refine bS rfl rfl (PX rfl V.h V.h) (fun hc=>⟨ak,⟨V.h,by have:=iO.1 (by simpa using hc);unfold maxLen;omega⟩⟩) ?_;refine gc tL ?_;refine aJ ?_;refine aa (aN (d:=.s (.bool _)) rfl ?_);simp[tu]
theorem CT{s:ByteArray}:aG prog 141 [S s] (B (isName s)):=by
 refine bK ags (by simp[Tr.s]) (Tr.s _) ?_;have tL:=tL (l:=qe s) (g:=208) (fs:=[]) (cs:=[]) (p:=Ew) (.fn oS oS) (fun x _=>ai1);rw[agt];refine ws ?_;refine SS ?_;refine er ?_;refine ab ?_;refine cl iI ?_;refine ab ?_;refine bS rfl rfl (PX rfl V.h V.h) (fun hc=>⟨ak,⟨V.h,by have:=iO.1 (by simpa using hc);unfold maxLen;omega⟩⟩) ?_;refine gc tL ?_;refine aJ ?_;refine aa (aN (d:=.s (.bool _)) rfl ?_);simp[isName]
theorem ai2{s:ByteArray}:aG prog 140 [S s] (B !(isName s)):=by
 refine bK agu (by simp[Tr.s]) (Tr.s _) ?_;rw[agv];refine ws ?_;refine SS ?_;refine er ?_;refine SS ?_;refine cl CT ?_;refine ab ?_;refine aa (aN rfl rfl)
theorem ai3{b m:Int}:aG prog 206 [U8 b,.pt [U8 m]] (B (BP m b)):=by
 refine bK agw (.cons (.s _) (.cons (.pt (by simp[Tr.s])) .nil)) (Tr.s _) ?_;rw[agx];refine ws ?_;refine SS ?_;refine er ?_;refine dc ?_;refine aa (aN (d:=.s (.bool _)) rfl ?_);simp[BP]
theorem My{l:List Int}{m:Int}:aG prog 138 [ej l,U8 m] (B (s7 l m)):=by
 refine bK agy (.cons (nv _) (.cons (.s _) .nil)) (Tr.s _) ?_;have tL:=tL (l:=l) (g:=206) (fs:=[]) (cs:=[.pt [U8 m]]) (p:=BP m) (.fn oS (.cons (.pt (by simp[Tr.s])) .nil)) (fun x _=>ai3);rw[agz];refine aI ?_;refine iE (FA (d:=.s (.int _ _)) rfl rfl) ak rfl ?_;refine SS ?_;refine aa (ca (dX [(0,[U8 m],5)] eH (l:=[(0,ej l),(3,.pt [U8 m])]) eH) (ap ?_));refine ab ?_;refine cl tL ?_;refine ab ?_;refine aa (aN rfl rfl)
theorem IW{p q:D}{f:aU}(h:Real (.agg (bd p q f))):f.al.length<=maxLen/\f.bz.length<=maxLen/\f.signals.length<=maxLen/\f.blocks.length<=maxLen:=
 ⟨(h.agg (ej f.al) (by simp[bd])).sl.1,(h.agg (ej f.bz) (by simp[bd])).sl.1,(h.agg (iz f.signals) (by simp[bd])).sl.1,(h.agg (cF f.blocks) (by simp[bd])).sl.1⟩
section
variable{p q:D}{f:aU}(hp:Tr p)(hq:Tr q)(dx:p.one=true)(bG:q.one=true)
include hp hq dx bG
theorem jr{n:Int}:aG prog 209 [.agg (bd p q f),I n] (B (gz n 0 (f.blocks.length - 1))):=by
 have C:∀ a∈[D.agg (bd p q f),I n],Tr a:=.cons (lK hp hq f) (.cons (.s _) .nil);refine qb T5.he C fun J=>?_;obtain⟨l1,l2,l3,l4⟩:=IW (J _ (List.mem_cons_self ..));unfold maxLen at*
 refine bK T5 C (Tr.s _) ?_;rw[agB];refine ws ?_;refine ab ?_;refine er ?_;refine dV ?_;refine cl iI ?_;refine SS ?_;refine aa (aN rfl rfl)
theorem eY{r:Int}:aG prog 210 [.agg (bd p q f),I r] (U8 (cQ f.al r)):=by
 have C:∀ a∈[D.agg (bd p q f),I r],Tr a:=.cons (lK hp hq f) (.cons (.s _) .nil);refine qb T6.he C fun J=>?_;obtain⟨l1,l2,l3,l4⟩:=IW (J _ (List.mem_cons_self ..));unfold maxLen at*
 refine bK T6 C (Tr.s _) ?_;rw[agC];refine ws ?_;refine ab ?_;refine aa (aX (ap ?_));refine dV ?_;refine cl iI ?_;refine SS ?_;refine aa (dP rfl (fun h=>?_) fun h=>?_)
 .refine aX (ap ?_);refine SS ?_;refine aa (hZ (aN rfl ?_));rw[PE (fun hh=>by simp[gz] at h;omega)];rfl
 .have hh:0<=r/\r<f.al.length:=by simp[gz] at h;omega
  obtain⟨i,rfl⟩:=gd hh.1;have ag:i<f.al.length:=by omega
  have hx:f.al[i]? =some f.al[i]:=by simp[ag]
  generalize f.al[i]=x at hx;refine eF (ap ?_);refine jx ?_;refine aa (aN rfl ?_);rw[Jk hx];rfl
theorem ajb{r:Int}:aG prog 274 [I r,.pt (bd p q f)] (B !(mH f.al r)):=by
 have C:∀ a∈[I r,D.pt (bd p q f)],Tr a:=.cons (.s _) (.cons (.pt (BQ hp hq f)) .nil);have eY:=eY (f:=f) (r:=r) hp hq dx bG;refine bK agD C (Tr.s _) ?_;rw[agE];refine ws ?_;refine SS ?_;refine er ?_;refine ab ?_;refine cl eY ?_;refine bj ?_;refine gc eY ?_;refine aJ ?_;refine aa (aN (d:=.s (.bool _)) rfl ?_);unfold mH;generalize cQ f.al r=k;show D.s (.bool _)=D.s (.bool _);simp only[bne];cases (k==1)<;>cases (k==2)<;>rfl
theorem gQ{l:List Int}:aG prog 213 [.agg (bd p q f),az l] (B (qm f.al l)):=by
 have C:∀ a∈[D.agg (bd p q f),az l],Tr a:=.cons (lK hp hq f) (.cons (cC _) .nil);have Bd:=Bd (l:=l) (g:=274) (fs:=[]) (cs:=[.pt (bd p q f)]) (p:=fun r=> !(mH f.al r)) (.fn oS (.cons (.pt (BQ hp hq f)) .nil)) (fun x _=>ajb hp hq dx bG);refine bK agF C (Tr.s _) ?_;rw[agG];refine aI ?_;refine ab ?_;refine aa (ca (dX [(0,bd p q f,93)] eH (l:=[(1,az l),(2,.pt (bd p q f))]) eH) (ap ?_));refine ab ?_;refine cl Bd ?_;refine ab ?_;refine aa (aN (d:=.s (.bool _)) rfl ?_);simp[qm,List.all_eq_not_any_not]
theorem Hb{r n:Int}:aG prog 215 [.agg (bd p q f),I r,I n] (B (xY f.al f.bz r n)):=by
 have J:∀ a∈[D.agg (bd p q f),I r,I n],Tr a:=.cons (lK hp hq f) (.cons (.s _) (.cons (.s _) .nil));refine qb T7.he J fun O=>?_;obtain⟨l1,l2,l3,l4⟩:=IW (O _ (List.mem_cons_self ..));unfold maxLen at*
 have eY:=eY (f:=f) (r:=r) hp hq dx bG;refine bK T7 J (Tr.s _) ?_;rw[agH];have iI:=iI (n:=n) (a:=0) (b:=f.bz.length - 1);by_cases hh:0<=n/\n<f.bz.length
 .obtain⟨i,rfl⟩:=gd hh.1;have ag:i<f.bz.length:=by omega
  have hx:f.bz[i]? =some f.bz[i]:=by simp[ag]
  generalize f.bz[i]=x at hx;have C:gz (i:Int) 0 (f.bz.length - 1)=true:=iO.2 oG;rw[C] at iI;refine ws ?_;refine ab ?_;refine aa (gZ PF ?_);refine dV ?_;refine cl iI ?_;refine SS ?_;refine bS rfl rfl (dI (vs:=bd _ _ _) rfl rfl V.h V.h rfl) (fun hc=>⟨ak,(dJ V.h V.h (by first|(simp;done)|omega|exact bf rfl))⟩) ?_;refine SS ?_;refine gc eY ?_;refine bI ?_;refine cG cP ?_;refine aN (d:=.s (.bool _)) rfl ?_;simp[xY,C,Jk hx]
 .have C:gz n 0 (f.bz.length - 1)=false:=ZY.2 oG;rw[C] at iI;refine ws ?_;refine ab ?_;refine aa (gZ PF ?_);refine dV ?_;refine cl iI ?_;refine SS ?_;(iterate 10 refine z fun _ _=>?_);refine ab ?_;refine cG cP ?_;refine aN (d:=.s (.bool _)) rfl ?_;simp[xY,C]
end
section
variable{p q:D}{f:aU}(hp:Tr p)(hq:Tr q)(dx:p.one=true)(bG:q.one=true)
include hp hq dx bG
theorem CW{r want kd:Int}:aG prog 271 [.agg (bd p q f),I r,I want,U8 kd] (B (oA f.al r want kd)):=by
 have J:∀ a∈[D.agg (bd p q f),I r,I want,U8 kd],Tr a:=.cons (lK hp hq f) (.cons (.s _) (.cons (.s _) (.cons (.s _) .nil)));have eY:=eY (f:=f) (r:=r) hp hq dx bG;refine bK agI J (Tr.s _) ?_;rw[agJ];refine ws ?_;refine ab ?_;refine er ?_;refine au (dI (vs:=bd _ _ _) rfl rfl V.h V.h rfl) ak (dJ V.h V.h (by first|(simp;done)|omega|exact bf rfl)) ?_;refine SS ?_;refine cl eY ?_;refine SS ?_;refine aa (aX (ap ?_));refine SS ?_;refine aa (wW (ap ?_));refine ab ?_;refine aa (aE rfl (fun h0=>?_) fun h0=>?_)
 .have h0:want=0:=by simpa using h0
  refine ws ?_;refine aJ ?_;refine aa (cM (gi (cw (aN (d:=.s (.bool _)) rfl ?_))));simp[oA,h0]
 have h0:¬ want=0:=by simpa using h0
 refine ws ?_;refine ab ?_;refine aa (aE rfl (fun h1=>?_) fun h1=>?_)
 .have h1:want=1:=by simpa using h1
  refine ws ?_;refine aJ ?_;refine aa (cM (gi (cw (aN (d:=.s (.bool _)) rfl ?_))));simp[oA,h1]
 have h1:¬ want=1:=by simpa using h1
 refine ws ?_;refine ab ?_;refine aa (aE rfl (fun h2=>?_) fun h2=>?_)
 .have h2:want=2:=by simpa using h2
  refine ws ?_;refine aJ ?_;refine aa (cM (gi (cw (aN (d:=.s (.bool _)) rfl ?_))));simp[oA,h2]
 have h2:¬ want=2:=by simpa using h2
 refine ws ?_;refine ab ?_;refine aa (aE rfl (fun C=>?_) fun C=>?_)
 .have C:want=3:=by simpa using C
  refine ws ?_;refine jx ?_;refine aa (cM (gi (cw (aN (d:=.s (.bool _)) rfl ?_))));simp[oA,C,mH,ib]
 have C:¬ want=3:=by simpa using C
 refine vg (ap ?_);refine dc ?_;refine aa (aN (d:=.s (.bool _)) rfl ?_);simp[oA,h0,h1,h2,C,ib,bne]
theorem AP{x:bn}{s:Shape}:aG prog 211 [.agg (bd p q f),.agg (bc x),.agg (dA s)] (B (rz f.al x s)):=by
 have O:∀ a∈[D.agg (bd p q f),.agg (bc x),.agg (dA s)],Tr a:=.cons (lK hp hq f) (.cons (.agg (ky x)) (.cons (.agg (PG s)) .nil));have eY:=fun r=>eY (f:=f) (r:=r) hp hq dx bG;have CW:= @CW p q f hp hq dx bG;have gQ:=gQ (f:=f) hp hq dx bG (l:=x.args);have J:=iI (n:=x.n) (a:=s.low) (b:=s.high);refine bK agK O (Tr.s _) ?_;rw[agL];refine aI ?_;refine ab ?_;refine iE (te (cs:=dA _) rfl) ak (by first|rfl|exact sV dx bG|exact nO _|exact vz gg) ?_;refine SS ?_;refine aa (ca (dX [(0,bd p q f,93),(1,bc x,45),(2,dA s,235)] eH (l:=[(3,.pt (bd p q f)),(4,.pt (bc x)),(5,.pt (dA s))]) eH) (ap ?_));have C:=eY;have eY:=eY x.to;refine aJ ?_;refine cl eY ?_;refine SS ?_;refine aa ?_;refine cL (fun s'=>aC prog s' ⟨ay [(3,.pt (bd p q f)),(4,.pt (bc x)),(5,.pt (dA s)),(7,U8 (zC f.al x s))],fun _=>none,3⟩) (ap ?_) fun s' hg=>⟨_,hg,?_⟩
 .refine dc ?_;refine aa (aE rfl (fun h=>gq ?_) fun h=>bJ ?_)
  .have h:s.to=0\/s.to=1:=by simpa[ib] using h
   have eY:=C x.a;refine aJ ?_;refine cl eY ?_;refine SS ?_;refine aa ?_;show aC _ _ _;refine ao (l:=[(3,_),(4,_),(5,_),(7,_)]) ⟨rfl,rfl,rfl,?_,trivial⟩;simp only[zC,if_pos h];rfl
  .have h:¬ (s.to=0\/s.to=1):=by simpa[ib] using h
   show aC _ _ _;refine ao (l:=[(3,_),(4,_),(5,_),(7,_)]) ⟨rfl,rfl,rfl,?_,trivial⟩;simp only[zC,if_neg h];rfl
 refine ws ?_;refine bV ?_;refine aa ?_;refine cL (fun s'=>aC prog s' ⟨ay [(3,.pt (bd p q f)),(4,.pt (bc x)),(5,.pt (dA s)),(7,U8 (zC f.al x s)),(8,B (uA f.al x s))],fun _=>none,3⟩) (ap ?_) fun s' hg=>⟨_,hg,?_⟩
 .refine ab ?_;refine aa (ot (ap ?_));refine ab ?_;refine aa (aE rfl (fun h=>iQ ?_) fun h=>ap ?_)
  .have h:s.args=5:=by simpa using h
   have iI:=iI (n:=x.args.length) (a:=1) (b:=6);refine aJ ?_;refine cl iI ?_;refine bj ?_;refine gc gQ ?_;refine ab ?_;refine aa ?_;refine ao ⟨rfl,rfl,rfl,rfl,?_,trivial⟩;show D.s (.bool _)=_;simp[uA,h]
  .have U:¬ s.args=5:=by simpa using h
   refine ab ?_;refine aa (aE rfl (fun h=>iQ ?_) fun h=>sU ?_)
   .have h:s.args=6:=by simpa using h
    refine dc ?_;refine gc gQ ?_;refine ab ?_;refine aa ?_;refine ao ⟨rfl,rfl,rfl,rfl,?_,trivial⟩;show D.s (.bool _)=_;simp[uA,h,ib]
   .have X:¬ s.args=6:=by simpa using h
    refine ao ⟨rfl,rfl,rfl,rfl,?_,trivial⟩;show D.s (.bool _)=_;simp[uA,U,X,ib]
 refine ws ?_;refine bV ?_;refine cl CW ?_;refine jx ?_;refine gc CW ?_;refine dc ?_;refine gc CW ?_;refine bI ?_;refine ab ?_;refine gc iI ?_;refine ab ?_;refine aa (aN (d:=.s (.bool _)) rfl ?_);simp[rz,Bool.and_assoc]
end
theorem MB{x:bn}:aG prog 275 [.agg (bc x)] (B (FY x)):=by
 have C:∀ a∈[D.agg (bc x)],Tr a:=.cons (.agg (ky x)) .nil;refine bK agN C (Tr.s _) ?_;rw[agO];refine ws ?_;refine ab ?_;refine er ?_;refine bI ?_;refine bI ?_;refine bI ?_;refine aJ ?_;refine aa (aN (d:=.s (.bool _)) rfl ?_);simp only[FY,ib];cases decide (x.op=0)<;>cases decide (x.to=0)<;>cases decide (x.a=0)<;>cases decide (x.b=0)<;>cases decide (x.n=0)<;>rfl
theorem MC{x:Argus.End}:aG prog 214 [.agg (bE x)] (B (vA x)):=by
 have C:∀ a∈[D.agg (bE x)],Tr a:=.cons (.agg (ql x)) .nil;have MB:=MB (x:=x.ins);refine bK agP C (Tr.s _) ?_;rw[agQ];refine ws ?_;refine ab ?_;refine er ?_;refine bI ?_;refine bI ?_;refine dc ?_;refine Vj ?_;refine bI ?_;refine bI ?_;refine ab ?_;refine ajc ?_;refine gc MB ?_;refine ab ?_;refine aa (aN (d:=.s (.bool _)) rfl ?_);have:decide (x.name.toList=[])=x.name.toList.isEmpty:=by cases x.name.toList<;>rfl
 simp[vA,ib,Bool.and_assoc,this]
theorem ajd{w v:gr}:aG prog 273 [.agg (dQ v),.pt (dQ w)] (B (v.name.toList==w.name.toList)):=by
 have C:∀ a∈[D.agg (dQ v),.pt (dQ w)],Tr a:=.cons (.agg (BO v)) (.cons (.pt (BO w)) .nil);refine bK agR C (Tr.s _) ?_;rw[agS];refine ws ?_;refine iE (te (cs:=dQ _) rfl) ak (by first|rfl|exact sV dx bG|exact nO _|exact vz gg) ?_;refine SS ?_;refine er ?_;refine bj ?_;refine aje ?_;refine SS ?_;exact aa (aN rfl rfl)
section
variable{p q:D}{f:aU}(hp:Tr p)(hq:Tr q)(dx:p.one=true)(bG:q.one=true)
include hp hq dx bG
theorem sj{x:Argus.End}:aG prog 212 [.agg (bd p q f),.agg (bE x)] (B (qj f x)):=by
 have J:∀ a∈[D.agg (bd p q f),.agg (bE x)],Tr a:=.cons (lK hp hq f) (.cons (.agg (ql x)) .nil);refine qb T8.he J fun X=>?_;have hlen:x.aD.length<=maxLen:=((X _ (List.mem_cons_of_mem _ (List.mem_cons_self ..))).agg (jB x.aD) (by simp[bE])).sl.1;unfold maxLen at hlen;have jr:= @jr p q f hp hq dx bG;refine bK T8 J (Tr.s _) ?_;rw[agT];refine aI ?_;refine aJ ?_;refine aa (ca (dX [(0,bd p q f,93),(1,bE x,48)] eH (l:=[(2,.pt (bd p q f)),(3,.pt (bE x))]) eH) (aX (aI ?_)));refine bj ?_
 refine aa (c6 (fun s=>∃ n,aC prog s ⟨ay [(2,.pt (bd p q f)),(3,.pt (bE x))],fun _=>none,n⟩/\∀ (j:Nat) y,x.aD[j]? =some y->rW f x.aD j y=true) (cZ (α:=Nat) (fun k=>⟨ay [(2,.pt (bd p q f)),(3,.pt (bE x)),(8,jB x.aD),(9,I x.aD.length),(10,I k)],fun _=>none,2+k⟩)
  (fun k=>k<=x.aD.length/\∀ j y,j<k->x.aD[j]? =some y->rW f x.aD j y=true) (fun k=>x.aD.length - k) 0 (ao eH) ⟨oG,fun j y hj=>by omega⟩ ?_) ?_)
 .rintro k ⟨hk,hinv⟩;refine SS ?_;refine aa ⟨_,rfl,fun h=>?_,fun h=>?_⟩
  .have ag:k<x.aD.length:=by simpa using h
   have hx:x.aD[k]? =some x.aD[k]:=by simp[ag]
   generalize x.aD[k]=w at hx;refine aI ?_;refine dV ?_;refine aa (ca (dX [(2+k,dQ w,82)] ⟨ai _ _ _,trivial⟩ (l:=[(2,.pt (bd p q f)),(3,.pt (bE x)),(5,I k),(6,.pt (dQ w)),(8,jB x.aD),(9,I x.aD.length),(10,I k)]) ⟨rfl,rfl,rfl,pI (sz:=prog.cellsOf 82),rfl,rfl,rfl,trivial⟩) (ap ?_));have CT:=CT (s:=w.name);have CL:=CL (l:=x.aD.take k) (g:=273) (fs:=[]) (cs:=[.pt (dQ w)]) (p:=fun v=>v.name.toList==w.name.toList) (.fn oS (.cons (.pt (BO w)) .nil)) (fun v _=>ajd);unfold jB at CL;rw[<- acX IN hk] at CL;refine ab ?_;refine cl CT ?_;refine bV ?_;refine gc jr ?_;refine dV ?_;refine bS rfl rfl (QP rfl V.h V.h rfl rfl rfl) (fun hc=>⟨ak,⟨V.h,oG,oG,oG⟩⟩) ?_;refine bS rfl rfl (RL rfl rfl) (fun hc=>⟨ak,trivial⟩) ?_;refine gc CL ?_;refine SS ?_;have hb:((isName w.name&&(eK f w.to&& !(x.aD.take k).any fun v=>v.name.toList==w.name.toList)))=rW f x.aD k w:=rfl;refine aa (aE rfl (fun hp=>?_) fun hp=>?_)
   .refine ws ?_;refine SS ?_;refine aa (cM (fC (cw (aN (d:=.s (.bool _)) rfl ?_))))
    have C:rW f x.aD k w=false:=by
     rw[<- hb];simp only[eK];revert hp;generalize isName w.name=a;generalize gz w.to 0 (f.blocks.length - 1)=b;generalize (List.any _ _)=c;cases a<;>cases b<;>cases c<;>simp
    simp[qj,XA hx C]
   .refine ig ?_
    have C:rW f x.aD k w=true:=by
     rw[<- hb];simp only[eK];revert hp;generalize isName w.name=a;generalize gz w.to 0 (f.blocks.length - 1)=b;generalize (List.any _ _)=c;cases a<;>cases b<;>cases c<;>simp
    refine ab ?_;refine aa (bQ (k+1) (ao eH) ⟨oG,fun j y hj hy=>?_⟩ oG);by_cases e:j=k
    .subst e;rw[hx] at hy;cases hy;exact C
    .exact hinv j y oG hy
  .have bC:¬ k<x.aD.length:=by simpa using h
   exact⟨2+k,.forget _ _ _ _ fun t=>pz (l:=[(2,.pt (bd p q f)),(3,.pt (bE x))]) ⟨rfl,rfl,trivial⟩ t,fun j y hy=>hinv j y (by have:=(bU.1 hy).1;omega) hy⟩
 .rintro s ⟨n,hg,U⟩;refine⟨_,hg,ap ?_⟩;refine aJ ?_;refine au (Gc rfl rfl) ak rfl ?_;refine dc ?_;refine gc jr ?_;refine aJ ?_;refine aa (aN (d:=.s (.bool _)) rfl ?_);have O:=X0 U;simp[qj,eK,O,ib]
end
end Go.Proofs.Tryz.K
end
